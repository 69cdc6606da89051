/-
  Texts of a proof, part 8: an ideal semantics of the program, its functions in shallow form, contracts of them. No statement of the seat is proved here.
-/
import Derived.Test.YtkfecngimlcfoaaStageWrapK7
set_option linter.all false
noncomputable section
set_option maxRecDepth 100000
set_option linter.unusedVariables false
namespace Go.Proofs.Ytkfecngimlcfoaa
namespace Idl
noncomputable section
abbrev OH:=Option (IV×Hp)
abbrev AH:=List Ref
abbrev iq (n:Int):IV:=.fv (.int .i64 n)
def M0 (x109:IV) (q101:List IV→Hp→OH) (h129:Hp) (x104 x105 x106 x107 x108:IV):OH :=
 Bz EE 3 x109 (.fv (.int .i64 1)) fun x132=>q101 [x104,x105,x106,x107,x108,x132] h129
def M8 (h103:Hp) (x111:IV) (ih:Aa) (x108 x109:IV) (q101:List IV→Hp→OH) (x104 x105 x106 x107:IV):OH :=
 Aw (Af EE 28 1 [(0,x111)]) 9450497 h103 fun x113 h114 _ _=>Ak [] false false ih 24 [.fv (.int .i64 19),x113] h114 fun x117 h118 _ _=>Aw (Af EE 28 1 [(0,x117)]) 9450499 h118 fun x121 h122 _ _=>Ak [] false false ih 24 [.fv (.int .i64 30),x121] h122 fun x125 h126 _ _=>Al 3 x108 x125 h126 fun h129 _ _=>M0 x109 q101 h129 x104 x105 x106 x107 x108
def M1 (h195:Hp) (x198 x191 x106:IV) (ih:Aa):OH :=
 Ab x198 true h195 (fun k199=>Ai 3 x191 h195 fun x200 r201=>k199 x200 h195 r201 []) fun x202 h203 _ _=>Ab x198 true h203 (fun k206=>Ai 3 x106 h203 fun x207 r208=>k206 x207 h203 r208 []) fun x209 h210 _ _=>Ab x198 true h210 (fun k213=>Ak [] false false ih 17 [x202,x209] h210 k213) fun x214 h215 _ _=>AF x198 x214 (.fv (.bool false)) fun x218=>An [x218] h215
def Mv (x185:IV) (h186:Hp) (x106:IV) (ih:Aa):OH :=
 AN 0 x185 fun x189=>AN 1 x185 fun x190=>AK 9456645 (.row [.fv (.int .i64 0),.fv (.int .i64 0),.nils] false) (.ptr (.own 9456645) 0) h186 fun x191 h192 _ _=>Al 3 x191 x189 h192 fun h195 _ _=>AZ EE 36 x190 (.fv (.int .i64 0)) fun x198=>M1 h195 x198 x191 x106 ih
def NA (ih:Aa) (h176:Hp) (x171 x108 x106:IV):OH :=
 Ak [] false false ih 15 [x171] h176 fun x179 h180 _ _=>Aj x179 (An [.fv (.bool true)] h180) (Ai 3 x108 h180 fun x183 _=>Ak [] false false ih 16 [x183] h180 fun x185 h186 _ _=>Mv x185 h186 x106 ih)
def MP (ih:Aa) (h160:Hp) (x164 x108 x106:IV):OH :=
 Ak [] false false ih 34 [x164] h160 fun x166 h167 _ _=>AN 0 x166 fun x170=>AN 1 x166 fun x171=>AK 9453573 (.row [.fv (.int .i64 0),.fv (.int .i64 0),.nils] false) (.ptr (.own 9453573) 0) h167 fun x172 h173 _ _=>Al 3 x172 x170 h173 fun h176 _ _=>NA ih h176 x171 x108 x106
def NY (h154:Hp) (x144 x153 x108:IV) (ih:Aa) (x106:IV):OH :=
 Ab x144 false h154 (fun k157=>Ig EE 3 x153 (.fv (.int .i64 0)) fun x158=>k157 x158 h154 [] []) fun x159 h160 _ _=>AF x144 (.fv (.bool true)) x159 fun x163=>Aj x163 (An [.fv (.bool true)] h160) (Ai 3 x108 h160 fun x164 _=>MP ih h160 x164 x108 x106)
def Mh (h103:Hp) (x133 x107:IV) (ih:Aa) (x108 x106:IV):OH :=
 Ab x133 false h103 (fun k134=>k134 x107 h103 [] []) fun x135 h136 _ _=>Ab x133 false h136 (fun k139=>Ak [] false false ih 15 [x135] h136 k139) fun x140 h141 _ _=>AF x133 (.fv (.bool true)) x140 fun x144=>Ab x144 false h141 (fun k145=>Ai 3 x108 h141 fun x146 r147=>k145 x146 h141 r147 []) fun x148 h149 _ _=>Ab x144 false h149 (fun k152=>Ak [] false false ih 35 [x148] h149 k152) fun x153 h154 _ _=>NY h154 x144 x153 x108 ih x106
def My (l223:List IV) (x104:IV) (h103:Hp) (x108:IV) (ih:Aa) (q101:List IV→Hp→OH) (x105 x106 x107:IV):OH :=
 AA l223 fun x109 _=>G6 EE 3 x109 x104 fun x110=>Aj x110 (Ai 3 x108 h103 fun x111 _=>M8 h103 x111 ih x108 x109 q101 x104 x105 x106 x107) (DP (N8 .not x105) fun x133=>Mh h103 x133 x107 ih x108 x106)
def Ub (l102:List IV) (h103:Hp) (ih:Aa) (q101:List IV→Hp→OH):OH :=
 AA l102 fun x104 l219=>AA l219 fun x105 l220=>AA l220 fun x106 l221=>AA l221 fun x107 l222=>AA l222 fun x108 l223=>My l223 x104 h103 x108 ih q101 x105 x106 x107
def MY (ih:Aa) (h85:Hp) (x2 x66:IV) (n:Nat) (x65 x81 x80:IV):OH :=
 Ak [] false false ih 23 [x2,.fv (.int .i64 8)] h85 fun x88 h89 _ _=>Ai 3 x66 h89 fun x92 _=>AK 9446401 (.row [.fv (.int .i64 0),.fv (.int .i64 0),.nils] false) (.ptr (.own 9446401) 0) h89 fun x94 h95 _ _=>Al 3 x94 x92 h95 fun h98 _ _=>BD n (fun q101 l102 h103=>Ub l102 h103 ih q101) [x88,x65,x81,x80,x94,.fv (.int .i64 0)] h98
def Nf (ih:Aa) (h70:Hp) (x73 x2 x66:IV) (n:Nat) (x65:IV):OH :=
 Ak [] false false ih 34 [x73] h70 fun x75 h76 _ _=>AN 0 x75 fun x79=>AN 1 x75 fun x80=>AK 9444357 (.row [.fv (.int .i64 0),.fv (.int .i64 0),.nils] false) (.ptr (.own 9444357) 0) h76 fun x81 h82 _ _=>Al 3 x81 x79 h82 fun h85 _ _=>MY ih h85 x2 x66 n x65 x81 x80
def Mz (x60:IV) (h61:Hp) (ih:Aa) (x2:IV) (n:Nat):OH :=
 AN 0 x60 fun x64=>AN 1 x60 fun x65=>AK 9443334 (.row [.fv (.int .i64 0),.fv (.int .i64 0),.nils] false) (.ptr (.own 9443334) 0) h61 fun x66 h67 _ _=>Al 3 x66 x64 h67 fun h70 _ _=>Ai 3 x66 h70 fun x73 _=>Nf ih h70 x73 x2 x66 n x65
def NR (h46:Hp) (x45 x4:IV) (ih:Aa) (x2:IV) (n:Nat):OH :=
 AK 9442306 (.row [.fv (.int .i64 0),.fv (.int .i64 0),.nils] false) (.ptr (.own 9442306) 0) h46 fun x49 h50 _ _=>Al 3 x49 x45 h50 fun h53 _ _=>Ai 3 x49 h53 fun x56 _=>Ai 3 x4 h53 fun x58 _=>Ak [] false false ih 33 [.nils,x56,x58,.fv (.int .i64 4)] h53 fun x60 h61 _ _=>Mz x60 h61 ih x2 n
def MH (x23 x38:IV) (h39:Hp) (x8:IV) (ih:Aa) (x4 x2:IV) (n:Nat):OH :=
 AF x23 (.fv (.bool true)) x38 fun x42=>Aj x42 (An [.fv (.bool true)] h39) (Ai 3 x8 h39 fun x43 _=>Ak [] false false ih 28 [x43,.fv (.int .i64 2)] h39 fun x45 h46 _ _=>NR h46 x45 x4 ih x2 n)
def MW (ih:Aa) (h13:Hp) (x17 x8 x4 x2:IV) (n:Nat):OH :=
 Ak [] false false ih 12 [x17] h13 fun x19 h20 _ _=>DP (N8 .not x19) fun x23=>Ab x23 false h20 (fun k24=>Ai 3 x8 h20 fun x25 r26=>k24 x25 h20 r26 []) fun x27 h28 _ _=>Ab x23 false h28 (fun k31=>Ak [] false false ih 12 [x27] h28 k31) fun x32 h33 _ _=>Ab x23 false h33 (fun k36=>DP (N8 .not x32) fun x37=>k36 x37 h33 [] []) fun x38 h39 _ _=>MH x23 x38 h39 x8 ih x4 x2 n
def S9 (ih:Aa) (n:Nat) (x0 x1 x2:IV) (h3:Hp):OH :=
 Bg 9437184 x0 h3 fun x4 h5 _ _=>Bg 9437185 x1 h5 fun x8 h9 _ _=>Ak [] false false ih 11 [] h9 fun x12 h13 _ _=>DP (N8 .not x12) fun x16=>Aj x16 (An [.fv (.bool false)] h13) (Ai 3 x4 h13 fun x17 _=>MW ih h13 x17 x8 x4 x2 n)
theorem AlR (ih:Aa) (n:Nat) (x0 x1 x2:IV) (h3:Hp):AD EE ih ft.get n 9 [x0,x1,x2] h3=S9 ih n x0 x1 x2 h3:=by kernel_rfl
def AjC (r61 w62:AH) (h60:Hp) (x52 x59:IV):OH :=
 Ad [] r61 w62 (Ab x52 true h60 (fun k63=>DP (N8 .not x59) fun x64=>k63 x64 h60 [] []) fun x65 h66 _ _=>AF x52 x65 (.fv (.bool false)) fun x69=>An [x69] h66)
def Aiv (r50 w51:AH) (x34 x48:IV) (h49:Hp) (ih:Aa):OH :=
 Ad [] r50 w51 (AF x34 x48 (.fv (.bool false)) fun x52=>Ab x52 true h49 (fun k53=>Ak [] false false ih 24 [.fv (.int .i64 10),.nils] h49 k53) fun x54 h55 r56 w57=>Ad [] r56 w57 (Ab x52 true h55 (fun k58=>Ak [] false false ih 18 [x54] h55 k58) fun x59 h60 r61 w62=>AjC r61 w62 h60 x52 x59))
def AjK (h31:Hp) (x34 x27:IV) (ih:Aa):OH :=
 Ab x34 true h31 (fun k35=>Ai 3 x27 h31 fun x36 r37=>k35 x36 h31 r37 []) fun x38 h39 r40 w41=>Ad [] r40 w41 (Ab x34 true h39 (fun k42=>Ak [] false false ih 26 [.fv (.int .i64 3)] h39 k42) fun x43 h44 r45 w46=>Ad [(r40,w41)] r45 w46 (Ab x34 true h44 (fun k47=>Ak [] false false ih 17 [x38,x43] h44 k47) fun x48 h49 r50 w51=>Aiv r50 w51 x34 x48 h49 ih))
def Akj (x21:IV) (h22:Hp) (ih:Aa):OH :=
 AN 0 x21 fun x25=>AN 1 x21 fun x26=>AK 11535369 (.row [.fv (.int .i64 0),.fv (.int .i64 0),.nils] false) (.ptr (.own 11535369) 0) h22 fun x27 h28 _ _=>Al 3 x27 x25 h28 fun h31 _ _=>AZ EE 36 x26 (.fv (.int .i64 0)) fun x34=>AjK h31 x34 x27 ih
def S11 (ih:Aa) (n:Nat) (h0:Hp):OH :=
 Ak [] false false ih 26 [.fv (.int .i64 3)] h0 fun x1 h2 _ _=>Aw (Af EE 28 1 [(0,x1)]) 11535361 h2 fun x5 h6 _ _=>Ak [] false false ih 24 [.fv (.int .i64 19),x5] h6 fun x9 h10 _ _=>Aw (Af EE 28 1 [(0,x9)]) 11535363 h10 fun x13 h14 _ _=>Ak [] false false ih 24 [.fv (.int .i64 30),x13] h14 fun x17 h18 _ _=>Ak [] false false ih 16 [x17] h18 fun x21 h22 _ _=>Akj x21 h22 ih
theorem AiA (ih:Aa) (n:Nat) (h0:Hp):AD EE ih ft.get n 11 [] h0=S11 ih n h0:=by kernel_rfl
def S12 (ih:Aa) (n:Nat) (x0:IV) (h1:Hp):OH :=
 Bg 12582912 x0 h1 fun x2 h3 _ _=>Ai 3 x2 h3 fun x6 _=>Ak [] false false ih 36 [x6,.fv (.int .i64 300)] h3 fun x8 h9 _ _=>G6 EE 3 x8 (.fv (.int .i64 300)) fun x12=>An [x12] h9
theorem AkC (ih:Aa) (n:Nat) (x0:IV) (h1:Hp):AD EE ih ft.get n 12 [x0] h1=S12 ih n x0 h1:=by kernel_rfl
def S15 (ih:Aa) (n:Nat) (x0:IV) (h1:Hp):OH :=
 AZ EE 3 x0 (.fv (.int .i64 17)) fun x2=>Ab x2 false h1 (fun k3=>k3 x0 h1 [] []) fun x4 h5 _ _=>Ab x2 false h5 (fun k8=>AZ EE 3 x4 (.fv (.int .i64 5)) fun x9=>k8 x9 h5 [] []) fun x10 h11 _ _=>AF x2 (.fv (.bool true)) x10 fun x14=>An [x14] h11
theorem Ai8 (ih:Aa) (n:Nat) (x0:IV) (h1:Hp):AD EE ih ft.get n 15 [x0] h1=S15 ih n x0 h1:=by kernel_rfl
def Ac4 (h13:Hp) (x6:IV):OH :=
 Bw [.fv (.int .i64 0),.fv (.int .i64 0),.nils] [] fun x17=>Al 3 x6 x17 h13 fun h18 _ _=>AE true 3 x6 h18 fun x21=>An [x21,.fv (.int .i64 1)] h18
def Afy (h34:Hp) (x6 x38 x29:IV):OH :=
 Al 3 x6 x38 h34 fun h39 _ _=>AE true 3 x6 h39 fun x42=>An [x42,x29] h39
def Aeh (h46:Hp) (x6 x50:IV):OH :=
 Al 3 x6 x50 h46 fun h51 _ _=>AE true 3 x6 h51 fun x54=>An [x54,.fv (.int .i64 10)] h51
def AfG (h46:Hp) (x6 x55:IV):OH :=
 Al 3 x6 x55 h46 fun h57 _ _=>AE true 3 x6 h57 fun x60=>An [x60,.fv (.int .i64 0)] h57
def Aem (ih:Aa) (h34:Hp) (x43 x6 x30:IV):OH :=
 Ak [] false false ih 18 [x43] h34 fun x45 h46 _ _=>DP (N8 .not x45) fun x49=>Aj x49 (Bw [.fv (.int .i64 0),.fv (.int .i64 0),.nils] [] fun x50=>Aeh h46 x6 x50) (Ai 3 x30 h46 fun x55 _=>AfG h46 x6 x55)
def AfB (h31:Hp) (x30 x28 x29 x6:IV) (ih:Aa):OH :=
 Al 3 x30 x28 h31 fun h34 _ _=>Ig EE 36 x29 (.fv (.int .i64 0)) fun x37=>Aj x37 (Bw [.fv (.int .i64 0),.fv (.int .i64 0),.nils] [] fun x38=>Afy h34 x6 x38 x29) (Ai 3 x30 h34 fun x43 _=>Aem ih h34 x43 x6 x30)
def Ae1 (h13:Hp) (x2:IV) (ih:Aa) (x6:IV):OH :=
 Ai 3 x2 h13 fun x22 _=>Ak [] false false ih 41 [x22] h13 fun x24 h25 _ _=>AN 0 x24 fun x28=>AN 1 x24 fun x29=>AK 16780293 (.row [.fv (.int .i64 0),.fv (.int .i64 0),.nils] false) (.ptr (.own 16780293) 0) h25 fun x30 h31 _ _=>AfB h31 x30 x28 x29 x6 ih
def S16 (ih:Aa) (n:Nat) (x0:IV) (h1:Hp):OH :=
 Bg 16777216 x0 h1 fun x2 h3 _ _=>AK 16777217 (.row [.fv (.int .i64 0),.fv (.int .i64 0),.nils] false) (.ptr (.own 16777217) 0) h3 fun x6 h7 _ _=>Ai 3 x2 h7 fun x10 _=>Ak [] false false ih 40 [x10] h7 fun x12 h13 _ _=>Ig EE 36 x12 (.fv (.int .i64 0)) fun x16=>Aj x16 (Ac4 h13 x6) (Ae1 h13 x2 ih x6)
theorem Akm (ih:Aa) (n:Nat) (x0:IV) (h1:Hp):AD EE ih ft.get n 16 [x0] h1=S16 ih n x0 h1:=by kernel_rfl
def FJ (x101:IV) (q96:List IV→Hp→OH) (h120:Hp) (x99 x100:IV):OH :=
 Bz EE 3 x101 (.fv (.int .i64 1)) fun x124=>q96 [x99,x100,x124] h120
def FH (r118 r112 r109:AH) (ih:Aa) (h98:Hp) (x111 x117 x101:IV) (q96:List IV→Hp→OH) (x99 x100:IV):OH :=
 Ad [(r112,[]),(r109,[])] r118 [] (Ak [] false false ih 17 [x111,x117] h98 fun x119 h120 r121 w122=>Ad [] r121 w122 (DP (N8 .not x119) fun x123=>Aj x123 (An [.fv (.bool false)] h120) (FJ x101 q96 h120 x99 x100)))
def FL (x100:IV) (h98:Hp) (r112 r109:AH) (x101:IV) (ih:Aa) (x111:IV) (q96:List IV→Hp→OH) (x99:IV):OH :=
 Ac 2 x100 fun x113=>Ae x113 h98 fun x114 r115=>Ad [(r112,[]),(r109,[])] r115 [] (Bf 3 x114 x101 fun x116=>Ai 3 x116 h98 fun x117 r118=>FH r118 r112 r109 ih h98 x111 x117 x101 q96 x99 x100)
def FY (h98:Hp) (x107 x101 x100:IV) (ih:Aa) (q96:List IV→Hp→OH) (x99:IV):OH :=
 Ae x107 h98 fun x108 r109=>Ad [] r109 [] (Bf 3 x108 x101 fun x110=>Ai 3 x110 h98 fun x111 r112=>Ad [] r112 [] (FL x100 h98 r112 r109 x101 ih x111 q96 x99))
def Fx (x103 x101 x99:IV) (h98:Hp) (x100:IV) (ih:Aa) (q96:List IV→Hp→OH):OH :=
 Ca x103 fun x105=>G6 EE 3 x101 x105 fun x106=>Aj x106 (Ac 2 x99 fun x107=>FY h98 x107 x101 x100 ih q96 x99) (An [.fv (.bool true)] h98)
def LJ (l97:List IV) (h98:Hp) (ih:Aa) (q96:List IV→Hp→OH):OH :=
 AA l97 fun x99 l125=>AA l125 fun x100 l126=>AA l126 fun x101 _=>Ac 2 x99 fun x102=>Ae x102 h98 fun x103 _=>Fx x103 x101 x99 h98 x100 ih q96
def FC (x95:IV) (h92:Hp) (n:Nat) (x3 x7:IV) (ih:Aa):OH :=
 Aj x95 (An [.fv (.bool false)] h92) (BD n (fun q96 l97 h98=>LJ l97 h98 ih q96) [x3,x7,.fv (.int .i64 0)] h92)
def FW (h67:Hp) (x50 x7 x66:IV) (n:Nat) (x3:IV) (ih:Aa):OH :=
 Ab x50 false h67 (fun k70=>Ac 2 x7 fun x71=>k70 x71 h67 [] []) fun x72 h73 _ _=>Ab x50 false h73 (fun k76=>Ae x72 h73 fun x77 r78=>k76 x77 h73 r78 []) fun x79 h80 _ _=>Ab x50 false h80 (fun k83=>Ca x79 fun x84=>k83 x84 h80 [] []) fun x85 h86 _ _=>Ab x50 false h86 (fun k89=>Ig EE 3 x66 x85 fun x90=>k89 x90 h86 [] []) fun x91 h92 _ _=>AF x50 (.fv (.bool true)) x91 fun x95=>FC x95 h92 n x3 x7 ih
def FK (h41:Hp) (x17 x27 x40 x3 x7:IV) (n:Nat) (ih:Aa):OH :=
 Ab x17 false h41 (fun k44=>Ig EE 3 x27 x40 fun x45=>k44 x45 h41 [] []) fun x46 h47 _ _=>AF x17 (.fv (.bool true)) x46 fun x50=>Ab x50 false h47 (fun k51=>Ac 2 x3 fun x52=>k51 x52 h47 [] []) fun x53 h54 _ _=>Ab x50 false h54 (fun k57=>Ae x53 h54 fun x58 r59=>k57 x58 h54 r59 []) fun x60 h61 _ _=>Ab x50 false h61 (fun k64=>Ca x60 fun x65=>k64 x65 h61 [] []) fun x66 h67 _ _=>FW h67 x50 x7 x66 n x3 ih
def FN (x12 x15:IV) (h8:Hp) (x3 x7:IV) (n:Nat) (ih:Aa):OH :=
 Ig EE 3 x12 x15 fun x17=>Ab x17 false h8 (fun k18=>Ac 1 x3 fun x19=>k18 x19 h8 [] []) fun x20 h21 _ _=>Ab x17 false h21 (fun k24=>Ae x20 h21 fun x25 r26=>k24 x25 h21 r26 []) fun x27 h28 _ _=>Ab x17 false h28 (fun k31=>Ac 1 x7 fun x32=>k31 x32 h28 [] []) fun x33 h34 _ _=>Ab x17 false h34 (fun k37=>Ae x33 h34 fun x38 r39=>k37 x38 h34 r39 []) fun x40 h41 _ _=>FK h41 x17 x27 x40 x3 x7 n ih
def S17 (ih:Aa) (n:Nat) (x0 x1:IV) (h2:Hp):OH :=
 Bg 17825792 x0 h2 fun x3 h4 _ _=>Bg 17825793 x1 h4 fun x7 h8 _ _=>Ac 0 x3 fun x11=>Ae x11 h8 fun x12 _=>Ac 0 x7 fun x14=>Ae x14 h8 fun x15 _=>FN x12 x15 h8 x3 x7 n ih
theorem AjU (ih:Aa) (n:Nat) (x0 x1:IV) (h2:Hp):AD EE ih ft.get n 17 [x0,x1] h2=S17 ih n x0 x1 h2:=by kernel_rfl
def S18 (ih:Aa) (n:Nat) (x0:IV) (h1:Hp):OH :=
 Bg 18874368 x0 h1 fun x2 h3 _ _=>Bw [.fv (.int .i64 0),.fv (.int .i64 0)] [(0,1,.fv (.int .i64 20)),(1,1,.fv (.int .i64 29))] fun x6=>Ai 3 x2 h3 fun x7 _=>Ak [] false false ih 42 [x6,x7] h3 fun x9 h10 _ _=>An [x9] h10
theorem Aj1 (ih:Aa) (n:Nat) (x0:IV) (h1:Hp):AD EE ih ft.get n 18 [x0] h1=S18 ih n x0 h1:=by kernel_rfl
def S23 (ih:Aa) (n:Nat) (x0 x1:IV) (h2:Hp):OH :=
 CA EE 3 .rem x0 x1 fun x3=>(fun (j1_4:IV→Hp→OH)=>G6 EE 3 x3 (.fv (.int .i64 0)) fun x7=>Aj x7 (Bz EE 3 x3 x1 fun x8=>j1_4 x8 h2) (j1_4 x3 h2)) fun x5 h6=>An [x5] h6
theorem Ako (ih:Aa) (n:Nat) (x0 x1:IV) (h2:Hp):AD EE ih ft.get n 23 [x0,x1] h2=S23 ih n x0 x1 h2:=by kernel_rfl
def S24 (ih:Aa) (n:Nat) (x0 x1:IV) (h2:Hp):OH :=
 AK 25165824 (.row [.fv (.int .i64 0),.fv (.int .i64 0),.nils] false) (.ptr (.own 25165824) 0) h2 fun x3 h4 _ _=>Bw [.fv (.int .i64 0),.fv (.int .i64 0),.nils] [(0,1,x0),(2,1,x1)] fun x7=>Al 3 x3 x7 h4 fun h8 _ _=>AE true 3 x3 h8 fun x11=>An [x11] h8
theorem AiF (ih:Aa) (n:Nat) (x0 x1:IV) (h2:Hp):AD EE ih ft.get n 24 [x0,x1] h2=S24 ih n x0 x1 h2:=by kernel_rfl
def S25 (ih:Aa) (n:Nat) (x0:IV) (h1:Hp):OH :=
 AK 26214400 (.row [.fv (.int .i64 0),.fv (.int .i64 0),.nils] false) (.ptr (.own 26214400) 0) h1 fun x2 h3 _ _=>Bw [.fv (.int .i64 0),.fv (.int .i64 0),.nils] [(0,1,.fv (.int .i64 1)),(1,1,x0)] fun x6=>Al 3 x2 x6 h3 fun h7 _ _=>AE true 3 x2 h7 fun x10=>An [x10] h7
theorem AiP (ih:Aa) (n:Nat) (x0:IV) (h1:Hp):AD EE ih ft.get n 25 [x0] h1=S25 ih n x0 h1:=by kernel_rfl
def S26 (ih:Aa) (n:Nat) (x0:IV) (h1:Hp):OH :=
 AK 27262976 (.row [.fv (.int .i64 0),.fv (.int .i64 0),.nils] false) (.ptr (.own 27262976) 0) h1 fun x2 h3 _ _=>Bw [.fv (.int .i64 0),.fv (.int .i64 0),.nils] [(0,1,.fv (.int .i64 25)),(1,1,x0)] fun x6=>Al 3 x2 x6 h3 fun h7 _ _=>AE true 3 x2 h7 fun x10=>An [x10] h7
theorem AkA (ih:Aa) (n:Nat) (x0:IV) (h1:Hp):AD EE ih ft.get n 26 [x0] h1=S26 ih n x0 h1:=by kernel_rfl
def Sc (ih:Aa) (h28:Hp) (x27 x22 x23:IV) (q17:List IV→Hp→OH) (x20 x21:IV):OH :=
 Ak [] false false ih 24 [.fv (.int .i64 12),x27] h28 fun x31 h32 _ _=>Al 3 x22 x31 h32 fun h35 _ _=>Bz EE 3 x23 (.fv (.int .i64 1)) fun x38=>q17 [x20,x21,x22,x38] h35
def Qs (h41:Hp) (x21:IV):OH :=
 AE true 3 x21 h41 fun x44=>An [x44] h41
def PB (x24:IV) (h19:Hp) (x22:IV) (ih:Aa) (x23:IV) (q17:List IV→Hp→OH) (x20 x21:IV):OH :=
 Aj x24 (Ai 3 x22 h19 fun x25 _=>Aw (Af EE 28 1 [(0,x25)]) 28316673 h19 fun x27 h28 _ _=>Sc ih h28 x27 x22 x23 q17 x20 x21) (Ai 3 x22 h19 fun x39 _=>Al 3 x21 x39 h19 fun h41 _ _=>Qs h41 x21)
def UX (l18:List IV) (h19:Hp) (ih:Aa) (q17:List IV→Hp→OH):OH :=
 AA l18 fun x20 l45=>AA l45 fun x21 l46=>AA l46 fun x22 l47=>AA l47 fun x23 _=>G6 EE 3 x23 x20 fun x24=>PB x24 h19 x22 ih x23 q17 x20 x21
def S27 (ih:Aa) (n:Nat) (x0:IV) (h1:Hp):OH :=
 AK 28311552 (.row [.fv (.int .i64 0),.fv (.int .i64 0),.nils] false) (.ptr (.own 28311552) 0) h1 fun x2 h3 _ _=>Ak [] false false ih 24 [.fv (.int .i64 11),.nils] h3 fun x6 h7 _ _=>AK 28312577 (.row [.fv (.int .i64 0),.fv (.int .i64 0),.nils] false) (.ptr (.own 28312577) 0) h7 fun x10 h11 _ _=>Al 3 x10 x6 h11 fun h14 _ _=>BD n (fun q17 l18 h19=>UX l18 h19 ih q17) [x0,x2,x10,.fv (.int .i64 0)] h14
theorem AkH (ih:Aa) (n:Nat) (x0:IV) (h1:Hp):AD EE ih ft.get n 27 [x0] h1=S27 ih n x0 h1:=by kernel_rfl
def Pm (h32:Hp) (x7 x31:IV):OH :=
 Al 3 x7 x31 h32 fun h35 _ _=>AE true 3 x7 h35 fun x38=>An [x38] h35
def Qp (r72 w73:AH) (h71:Hp) (x7:IV):OH :=
 Ad [] r72 w73 (AE true 3 x7 h71 fun x74=>An [x74] h71)
def RH (h60:Hp) (x48 x59:IV) (ih:Aa) (x40 x7:IV):OH :=
 Aw (Af EE 28 2 [(0,x48),(1,x59)]) 29364237 h60 fun x63 h64 r65 w66=>Ad [] r65 w66 (Ak [] false false ih 24 [x40,x63] h64 fun x67 h68 r69 w70=>Ad [] r69 w70 (Al 3 x7 x67 h68 fun h71 r72 w73=>Qp r72 w73 h71 x7))
def Pn (ih:Aa) (h49:Hp) (x52 x1 x48 x40 x7:IV):OH :=
 Ak [] false false ih 56 [x52,.fv (.int .i64 1)] h49 fun x54 h55 r56 w57=>Ad [] r56 w57 (Ba EE 3 x1 (.fv (.int .i64 1)) fun x58=>Ak [] false false ih 28 [x54,x58] h55 fun x59 h60 r61 w62=>Ad [] r61 w62 (RH h60 x48 x59 ih x40 x7))
def R7 (x1:IV) (ih:Aa) (h44:Hp) (x43 x3:IV) (r45 w46 r42:AH) (x40 x7:IV):OH :=
 Ba EE 3 x1 (.fv (.int .i64 1)) fun x47=>Ak [] false false ih 28 [x43,x47] h44 fun x48 h49 r50 w51=>Ad [] r50 w51 (Ai 3 x3 h49 fun x52 r53=>Ad [(r50,w51),(r45,w46),(r42,[])] r53 [] (Pn ih h49 x52 x1 x48 x40 x7))
def QX (x39:IV) (h27:Hp) (x3:IV) (ih:Aa) (x1 x7:IV):OH :=
 Ba EE 3 x39 (.fv (.int .i64 2)) fun x40=>Ai 3 x3 h27 fun x41 r42=>Ad [] r42 [] (Ak [] false false ih 56 [x41,.fv (.int .i64 0)] h27 fun x43 h44 r45 w46=>Ad [] r45 w46 (R7 x1 ih h44 x43 x3 r45 w46 r42 x40 x7))
def PA (h15:Hp) (x18 x14:IV) (ih:Aa) (x7 x3 x1:IV):OH :=
 Ab x18 false h15 (fun k19=>k19 x14 h15 [] []) fun x20 h21 _ _=>Ab x18 false h21 (fun k24=>G6 EE 3 x20 (.fv (.int .i64 2)) fun x25=>k24 x25 h21 [] []) fun x26 h27 _ _=>AF x18 (.fv (.bool true)) x26 fun x30=>Aj x30 (Ak [] false false ih 24 [.fv (.int .i64 15),.nils] h27 fun x31 h32 _ _=>Pm h32 x7 x31) (Bz EE 3 (.fv (.int .i64 16)) x14 fun x39=>QX x39 h27 x3 ih x1 x7)
def S28 (ih:Aa) (n:Nat) (x0 x1:IV) (h2:Hp):OH :=
 Bg 29360128 x0 h2 fun x3 h4 _ _=>AK 29360129 (.row [.fv (.int .i64 0),.fv (.int .i64 0),.nils] false) (.ptr (.own 29360129) 0) h4 fun x7 h8 _ _=>Ac 1 x3 fun x11=>Ae x11 h8 fun x12 _=>Ak [] false false ih 55 [x12,.fv (.int .i64 4)] h8 fun x14 h15 _ _=>leS EE 3 x1 (.fv (.int .i64 0)) fun x18=>PA h15 x18 x14 ih x7 x3 x1
theorem Aiz (ih:Aa) (n:Nat) (x0 x1:IV) (h2:Hp):AD EE ih ft.get n 28 [x0,x1] h2=S28 ih n x0 x1 h2:=by kernel_rfl
def Yc (h25:Hp) (x13 x29:IV):OH :=
 Al 3 x13 x29 h25 fun h30 _ _=>AE true 3 x13 h30 fun x33=>An [x33,.fv (.bool false)] h30
def Xl (h91:Hp) (x13 x44:IV):OH :=
 AE true 3 x13 h91 fun x94=>An [x94,x44] h91
def YB (h126:Hp) (x13 x129 x130:IV):OH :=
 Al 3 x13 x129 h126 fun h131 _ _=>AE true 3 x13 h131 fun x134=>An [x134,x130] h131
def Aaq (h117:Hp) (x5 x9:IV) (ih:Aa) (x0 x3 x13:IV):OH :=
 Ai 3 x5 h117 fun x121 _=>Ai 3 x9 h117 fun x123 _=>Ak [] false false ih 59 [x0,x121,x123,x3] h117 fun x125 h126 _ _=>AN 0 x125 fun x129=>AN 1 x125 fun x130=>YB h126 x13 x129 x130
def AaH (h221:Hp) (x179 x201 x13 x224:IV):OH :=
 Ab x179 true h221 (fun k225=>k225 x201 h221 [] []) fun x226 h227 _ _=>AF x179 x226 (.fv (.bool false)) fun x230=>Al 3 x13 x224 h227 fun h231 r232 w233=>Ad [] r232 w233 (AE true 3 x13 h231 fun x234=>An [x234,x230] h231)
def Xd (h213:Hp) (x202:IV) (r217 r214 w215 r211:AH) (x216 x212 x179 x201 x13:IV):OH :=
 Ai 3 x202 h213 fun x218 r219=>Ad [(r217,[]),(r214,w215),(r211,[])] r219 [] (Aw (Af EE 28 2 [(0,x216),(1,x218)]) 34617349 h213 fun x220 h221 r222 w223=>Ad [(r214,w215),(r211,[])] r222 w223 (Bw [.fv (.int .i64 0),.fv (.int .i64 0),.nils] [(0,1,.fv (.int .i64 26)),(1,1,x212),(2,1,x220)] fun x224=>AaH h221 x179 x201 x13 x224))
def WT (r211:AH) (ih:Aa) (h206:Hp) (x210 x180 x202 x179 x201 x13:IV):OH :=
 Ad [] r211 [] (Ak [] false false ih 55 [x210,.fv (.int .i64 5)] h206 fun x212 h213 r214 w215=>Ad [] r214 w215 (Ai 3 x180 h213 fun x216 r217=>Ad [(r214,w215),(r211,[])] r217 [] (Xd h213 x202 r217 r214 w215 r211 x216 x212 x179 x201 x13)))
def Vx (r204 w205 r198 w199 r193 w194 r190 r188:AH) (h203:Hp) (x202 x200 x9:IV) (ih:Aa) (x180 x179 x201 x13:IV):OH :=
 Ad [(r198,w199),(r193,w194),(r190,[]),(r188,[])] r204 w205 (Al 3 x202 x200 h203 fun h206 r207 w208=>Ad [] r207 w208 (Ac 1 x9 fun x209=>Ae x209 h206 fun x210 r211=>WT r211 ih h206 x210 x180 x202 x179 x201 x13))
def XT (ih:Aa) (h192:Hp) (x0 x187 x191 x195:IV) (r193 w194 r190 r188:AH) (x9 x180 x179 x13:IV):OH :=
 Ak [] false false ih 33 [x0,x187,x191,x195] h192 fun x196 h197 r198 w199=>Ad [] r198 w199 (AN 0 x196 fun x200=>AN 1 x196 fun x201=>AK 34616330 (.row [.fv (.int .i64 0),.fv (.int .i64 0),.nils] false) (.ptr (.own 34616330) 0) h197 fun x202 h203 r204 w205=>Vx r204 w205 r198 w199 r193 w194 r190 r188 h203 x202 x200 x9 ih x180 x179 x201 x13)
def Xu (h184:Hp) (x9:IV) (r188:AH) (ih:Aa) (x3 x0 x187 x180 x179 x13:IV):OH :=
 Ai 3 x9 h184 fun x189 r190=>Ad [(r188,[])] r190 [] (Ak [] false false ih 56 [x189,.fv (.int .i64 1)] h184 fun x191 h192 r193 w194=>Ad [(r188,[])] r193 w194 (Ba EE 3 x3 (.fv (.int .i64 1)) fun x195=>XT ih h192 x0 x187 x191 x195 r193 w194 r190 r188 x9 x180 x179 x13))
def AaT (r182 w183 r176 w177 r171 w172 r168 r166:AH) (h181:Hp) (x180 x178 x5 x9:IV) (ih:Aa) (x3 x0 x179 x13:IV):OH :=
 Ad [(r176,w177),(r171,w172),(r168,[]),(r166,[])] r182 w183 (Al 3 x180 x178 h181 fun h184 r185 w186=>Ad [] r185 w186 (Ai 3 x5 h184 fun x187 r188=>Ad [] r188 [] (Xu h184 x9 r188 ih x3 x0 x187 x180 x179 x13)))
def Xc (ih:Aa) (h170:Hp) (x0 x165 x169 x173:IV) (r171 w172 r168 r166:AH) (x5 x9 x3 x13:IV):OH :=
 Ak [] false false ih 33 [x0,x165,x169,x173] h170 fun x174 h175 r176 w177=>Ad [] r176 w177 (AN 0 x174 fun x178=>AN 1 x174 fun x179=>AK 34615306 (.row [.fv (.int .i64 0),.fv (.int .i64 0),.nils] false) (.ptr (.own 34615306) 0) h175 fun x180 h181 r182 w183=>AaT r182 w183 r176 w177 r171 w172 r168 r166 h181 x180 x178 x5 x9 ih x3 x0 x179 x13)
def VS (h161:Hp) (x9:IV) (r166:AH) (ih:Aa) (x3 x0 x165 x5 x13:IV):OH :=
 Ai 3 x9 h161 fun x167 r168=>Ad [(r166,[])] r168 [] (Ak [] false false ih 56 [x167,.fv (.int .i64 0)] h161 fun x169 h170 r171 w172=>Ad [(r166,[])] r171 w172 (Ba EE 3 x3 (.fv (.int .i64 1)) fun x173=>Xc ih h170 x0 x165 x169 x173 r171 w172 r168 r166 x5 x9 x3 x13))
def Xa (ih:Aa) (h161:Hp) (x236 x13:IV):OH :=
 Ak [] false false ih 55 [x236,.fv (.int .i64 20)] h161 fun x238 h239 _ _=>Ba EE 3 x238 (.fv (.int .i64 5)) fun x242=>Ak [] false false ih 26 [x242] h239 fun x243 h244 _ _=>Al 3 x13 x243 h244 fun h247 _ _=>AE true 3 x13 h247 fun x250=>An [x250,.fv (.bool true)] h247
def XW (x164:IV) (h161:Hp) (x5 x9:IV) (ih:Aa) (x3 x0 x13:IV):OH :=
 Aj x164 (Ai 3 x5 h161 fun x165 r166=>Ad [] r166 [] (VS h161 x9 r166 ih x3 x0 x165 x5 x13)) (Ac 1 x9 fun x235=>Ae x235 h161 fun x236 _=>Xa ih h161 x236 x13)
def Xt (h117:Hp) (x139 x9:IV) (ih:Aa) (x5 x3 x0 x13:IV):OH :=
 Ab x139 true h117 (fun k140=>Ac 0 x9 fun x141=>k140 x141 h117 [] []) fun x142 h143 _ _=>Ab x139 true h143 (fun k146=>Ae x142 h143 fun x147 r148=>k146 x147 h143 r148 []) fun x149 h150 _ _=>Ab x139 true h150 (fun k153=>Ak [] false false ih 55 [x149,.fv (.int .i64 2)] h150 k153) fun x154 h155 _ _=>Ab x139 true h155 (fun k158=>AZ EE 3 x154 (.fv (.int .i64 1)) fun x159=>k158 x159 h155 [] []) fun x160 h161 _ _=>AF x139 x160 (.fv (.bool false)) fun x164=>XW x164 h161 x5 x9 ih x3 x0 x13
def Wi (r309 w310:AH) (h308:Hp) (x13 x284:IV):OH :=
 Ad [] r309 w310 (AE true 3 x13 h308 fun x311=>An [x311,x284] h308)
def Wy (h289:Hp) (x296 x298:IV) (ih:Aa) (x13 x284:IV):OH :=
 Aw (Af EE 28 2 [(0,x296),(1,x298)]) 34621445 h289 fun x300 h301 r302 w303=>Ad [] r302 w303 (Ak [] false false ih 24 [.fv (.int .i64 20),x300] h301 fun x304 h305 r306 w307=>Ad [] r306 w307 (Al 3 x13 x304 h305 fun h308 r309 w310=>Wi r309 w310 h308 x13 x284))
def Aaw (x293:IV) (h289:Hp) (x285:IV) (r294:AH) (ih:Aa) (x13 x284:IV):OH :=
 Bf 3 x293 (.fv (.int .i64 0)) fun x295=>Ai 3 x295 h289 fun x296 r297=>Ad [] r297 [] (Ai 3 x285 h289 fun x298 r299=>Ad [(r297,[]),(r294,[])] r299 [] (Wy h289 x296 x298 ih x13 x284))
def AaC (h286:Hp) (x285 x283 x5:IV) (ih:Aa) (x13 x284:IV):OH :=
 Al 3 x285 x283 h286 fun h289 r290 w291=>Ad [] r290 w291 (Ac 2 x5 fun x292=>Ae x292 h289 fun x293 r294=>Ad [] r294 [] (Aaw x293 h289 x285 r294 ih x13 x284))
def Xg (r281 w282:AH) (x279:IV) (h280:Hp) (r276 w277 r273 r270 w271 r267 r264 r260 w261 r257 r254:AH) (x5:IV) (ih:Aa) (x13:IV):OH :=
 Ad [] r281 w282 (AN 0 x279 fun x283=>AN 1 x279 fun x284=>AK 34620435 (.row [.fv (.int .i64 0),.fv (.int .i64 0),.nils] false) (.ptr (.own 34620435) 0) h280 fun x285 h286 r287 w288=>Ad [(r281,w282),(r276,w277),(r273,[]),(r270,w271),(r267,[]),(r264,[]),(r260,w261),(r257,[]),(r254,[])] r287 w288 (AaC h286 x285 x283 x5 ih x13 x284))
def Aaf (r273 r270 w271 r267 r264 r260 w261 r257 r254:AH) (ih:Aa) (h269:Hp) (x272 x3 x258 x268 x5 x13:IV):OH :=
 Ad [(r270,w271),(r267,[]),(r264,[]),(r260,w261),(r257,[]),(r254,[])] r273 [] (Ak [] false false ih 56 [x272,.fv (.int .i64 0)] h269 fun x274 h275 r276 w277=>Ad [] r276 w277 (Ba EE 3 x3 (.fv (.int .i64 1)) fun x278=>Ak [] false false ih 33 [x258,x268,x274,x278] h275 fun x279 h280 r281 w282=>Xg r281 w282 x279 h280 r276 w277 r273 r270 w271 r267 r264 r260 w261 r257 r254 x5 ih x13))
def WU (h259:Hp) (x265:IV) (r260 w261 r257 r254:AH) (ih:Aa) (x9:IV) (r264:AH) (x3 x258 x5 x13:IV):OH :=
 Ai 3 x265 h259 fun x266 r267=>Ad [(r260,w261),(r257,[]),(r254,[])] r267 [] (Ak [] false false ih 45 [x266,.fv (.int .i64 1),.fv (.int .i64 0)] h259 fun x268 h269 r270 w271=>Ad [] r270 w271 (Ai 3 x9 h269 fun x272 r273=>Aaf r273 r270 w271 r267 r264 r260 w261 r257 r254 ih h269 x272 x3 x258 x268 x5 x13))
def WB (r260 w261:AH) (x5:IV) (h259:Hp) (r257 r254:AH) (ih:Aa) (x9 x3 x258 x13:IV):OH :=
 Ad [] r260 w261 (Ac 2 x5 fun x262=>Ae x262 h259 fun x263 r264=>Ad [(r260,w261),(r257,[]),(r254,[])] r264 [] (Bf 3 x263 (.fv (.int .i64 1)) fun x265=>WU h259 x265 r260 w261 r257 r254 ih x9 r264 x3 x258 x5 x13))
def Za (r254:AH) (x253:IV) (h117:Hp) (ih:Aa) (x0 x5 x9 x3 x13:IV):OH :=
 Ad [] r254 [] (Bf 3 x253 (.fv (.int .i64 0)) fun x255=>Ai 3 x255 h117 fun x256 r257=>Ad [] r257 [] (Ak [] false false ih 60 [x0,.fv (.int .i64 0),x256] h117 fun x258 h259 r260 w261=>WB r260 w261 x5 h259 r257 r254 ih x9 x3 x258 x13))
def WP (h383:Hp) (x13 x382:IV):OH :=
 AE true 3 x13 h383 fun x386=>An [x386,x382] h383
def AaK (h362:Hp) (x365 x367:IV) (ih:Aa) (x331 x357 x13:IV):OH :=
 Aw (Af EE 28 2 [(0,x365),(1,x367)]) 34625538 h362 fun x369 h370 _ _=>Ak [] false false ih 24 [.fv (.int .i64 22),x369] h370 fun x373 h374 _ _=>Ab x331 true h374 (fun k377=>k377 x357 h374 [] []) fun x378 h379 _ _=>AF x331 x378 (.fv (.bool false)) fun x382=>Al 3 x13 x373 h379 fun h383 _ _=>WP h383 x13 x382
def X4 (r360 w361 r354 w355 r349 w350 r346 r344 r341:AH) (h359:Hp) (x358 x356 x332:IV) (ih:Aa) (x331 x357 x13:IV):OH :=
 Ad [(r354,w355),(r349,w350),(r346,[]),(r344,[]),(r341,[])] r360 w361 (Al 3 x358 x356 h359 fun h362 r363 w364=>Ad [] r363 w364 (Ai 3 x332 h362 fun x365 _=>Ai 3 x358 h362 fun x367 _=>AaK h362 x365 x367 ih x331 x357 x13))
def XG (ih:Aa) (h348:Hp) (x0 x343 x347 x351:IV) (r349 w350 r346 r344 r341:AH) (x332 x331 x13:IV):OH :=
 Ak [] false false ih 33 [x0,x343,x347,x351] h348 fun x352 h353 r354 w355=>Ad [] r354 w355 (AN 0 x352 fun x356=>AN 1 x352 fun x357=>AK 34624525 (.row [.fv (.int .i64 0),.fv (.int .i64 0),.nils] false) (.ptr (.own 34624525) 0) h353 fun x358 h359 r360 w361=>X4 r360 w361 r354 w355 r349 w350 r346 r344 r341 h359 x358 x356 x332 ih x331 x357 x13)
def X2 (h336:Hp) (x9:IV) (r344 r341:AH) (ih:Aa) (x3 x0 x343 x332 x331 x13:IV):OH :=
 Ai 3 x9 h336 fun x345 r346=>Ad [(r344,[]),(r341,[])] r346 [] (Ak [] false false ih 56 [x345,.fv (.int .i64 1)] h336 fun x347 h348 r349 w350=>Ad [(r344,[]),(r341,[])] r349 w350 (Ba EE 3 x3 (.fv (.int .i64 1)) fun x351=>XG ih h348 x0 x343 x347 x351 r349 w350 r346 r344 r341 x332 x331 x13))
def Yi (h336:Hp) (x339 x9:IV) (ih:Aa) (x3 x0 x332 x331 x13:IV):OH :=
 Ae x339 h336 fun x340 r341=>Ad [] r341 [] (Bf 3 x340 (.fv (.int .i64 1)) fun x342=>Ai 3 x342 h336 fun x343 r344=>Ad [] r344 [] (X2 h336 x9 r344 r341 ih x3 x0 x343 x332 x331 x13))
def WX (h327:Hp) (r328 w329 r323 w324 r320 r318 r315:AH) (x330 x5 x9:IV) (ih:Aa) (x3 x0 x331 x13:IV):OH :=
 AK 34623501 (.row [.fv (.int .i64 0),.fv (.int .i64 0),.nils] false) (.ptr (.own 34623501) 0) h327 fun x332 h333 r334 w335=>Ad [(r328,w329),(r323,w324),(r320,[]),(r318,[]),(r315,[])] r334 w335 (Al 3 x332 x330 h333 fun h336 r337 w338=>Ad [] r337 w338 (Ac 2 x5 fun x339=>Yi h336 x339 x9 ih x3 x0 x332 x331 x13))
def Ye (x3:IV) (ih:Aa) (h322:Hp) (x0 x317 x321:IV) (r323 w324 r320 r318 r315:AH) (x5 x9 x13:IV):OH :=
 Ba EE 3 x3 (.fv (.int .i64 1)) fun x325=>Ak [] false false ih 33 [x0,x317,x321,x325] h322 fun x326 h327 r328 w329=>Ad [] r328 w329 (AN 0 x326 fun x330=>AN 1 x326 fun x331=>WX h327 r328 w329 r323 w324 r320 r318 r315 x330 x5 x9 ih x3 x0 x331 x13)
def ZT (r318:AH) (h117:Hp) (x9:IV) (r315:AH) (ih:Aa) (x3 x0 x317 x5 x13:IV):OH :=
 Ad [] r318 [] (Ai 3 x9 h117 fun x319 r320=>Ad [(r318,[]),(r315,[])] r320 [] (Ak [] false false ih 56 [x319,.fv (.int .i64 0)] h117 fun x321 h322 r323 w324=>Ad [(r318,[]),(r315,[])] r323 w324 (Ye x3 ih h322 x0 x317 x321 r323 w324 r320 r318 r315 x5 x9 x13)))
def XU (x5:IV) (h117:Hp) (x9:IV) (ih:Aa) (x3 x0 x13:IV):OH :=
 Ac 2 x5 fun x313=>Ae x313 h117 fun x314 r315=>Ad [] r315 [] (Bf 3 x314 (.fv (.int .i64 0)) fun x316=>Ai 3 x316 h117 fun x317 r318=>ZT r318 h117 x9 r315 ih x3 x0 x317 x5 x13)
def Zs (h117:Hp) (x45 x13 x44:IV):OH :=
 Ai 3 x45 h117 fun x387 _=>Al 3 x13 x387 h117 fun h389 _ _=>AE true 3 x13 h389 fun x392=>An [x392,x44] h389
def W0 (x251 x5:IV) (h117:Hp) (ih:Aa) (x0 x9 x3 x13 x136 x45 x44:IV):OH :=
 Aj x251 (Ac 2 x5 fun x252=>Ae x252 h117 fun x253 r254=>Za r254 x253 h117 ih x0 x5 x9 x3 x13) (AZ EE 3 x136 (.fv (.int .i64 17)) fun x312=>Aj x312 (XU x5 h117 x9 ih x3 x0 x13) (Zs h117 x45 x13 x44))
def Z5 (x5:IV) (h117:Hp) (x3 x9:IV) (ih:Aa) (x0 x13 x45 x44:IV):OH :=
 Ac 0 x5 fun x135=>Ae x135 h117 fun x136 _=>AZ EE 3 x136 (.fv (.int .i64 15)) fun x138=>Aj x138 (Kx EE 3 x3 (.fv (.int .i64 0)) fun x139=>Xt h117 x139 x9 ih x5 x3 x0 x13) (AZ EE 3 x136 (.fv (.int .i64 16)) fun x251=>W0 x251 x5 h117 ih x0 x9 x3 x13 x136 x45 x44)
def Wf (h99:Hp) (x95 x98:IV) (ih:Aa) (x5 x9 x0 x3 x13 x45 x44:IV):OH :=
 Ab x95 true h99 (fun k102=>Ae x98 h99 fun x103 r104=>k102 x103 h99 r104 []) fun x105 h106 _ _=>Ab x95 true h106 (fun k109=>Ak [] false false ih 55 [x105,.fv (.int .i64 3)] h106 k109) fun x110 h111 _ _=>Ab x95 true h111 (fun k114=>AZ EE 3 x110 (.fv (.int .i64 1)) fun x115=>k114 x115 h111 [] []) fun x116 h117 _ _=>AF x95 x116 (.fv (.bool false)) fun x120=>Aj x120 (Aaq h117 x5 x9 ih x0 x3 x13) (Z5 x5 h117 x3 x9 ih x0 x13 x45 x44)
def Aaz (x88:IV) (h85:Hp) (x45 x13 x44 x3 x9:IV) (ih:Aa) (x5 x0:IV):OH :=
 Aj x88 (Ai 3 x45 h85 fun x89 _=>Al 3 x13 x89 h85 fun h91 _ _=>Xl h91 x13 x44) (Kx EE 3 x3 (.fv (.int .i64 0)) fun x95=>Ab x95 true h85 (fun k96=>Ac 0 x9 fun x97=>k96 x97 h85 [] []) fun x98 h99 _ _=>Wf h99 x95 x98 ih x5 x9 x0 x3 x13 x45 x44)
def V0 (h67:Hp) (x44 x66 x3 x45 x13 x9:IV) (ih:Aa) (x5 x0:IV):OH :=
 Ab x44 true h67 (fun k70=>AZ EE 3 x66 (.fv (.int .i64 0)) fun x71=>k70 x71 h67 [] []) fun x72 h73 _ _=>AF x44 x72 (.fv (.bool false)) fun x76=>Ab x76 false h73 (fun k77=>k77 x3 h73 [] []) fun x78 h79 _ _=>Ab x76 false h79 (fun k82=>G6 EE 3 x78 (.fv (.int .i64 (-4))) fun x83=>k82 x83 h79 [] []) fun x84 h85 _ _=>AF x76 (.fv (.bool true)) x84 fun x88=>Aaz x88 h85 x45 x13 x44 x3 x9 ih x5 x0
def YV (h40:Hp) (x43 x44 x9:IV) (ih:Aa) (x3 x13 x5 x0:IV):OH :=
 AK 34607112 (.row [.fv (.int .i64 0),.fv (.int .i64 0),.nils] false) (.ptr (.own 34607112) 0) h40 fun x45 h46 _ _=>Al 3 x45 x43 h46 fun h49 _ _=>Ab x44 true h49 (fun k52=>Ac 0 x9 fun x53=>k52 x53 h49 [] []) fun x54 h55 _ _=>Ab x44 true h55 (fun k58=>Ae x54 h55 fun x59 r60=>k58 x59 h55 r60 []) fun x61 h62 _ _=>Ab x44 true h62 (fun k65=>Ak [] false false ih 55 [x61,.fv (.int .i64 3)] h62 k65) fun x66 h67 _ _=>V0 h67 x44 x66 x3 x45 x13 x9 ih x5 x0
def Zy (x9:IV) (h25:Hp) (ih:Aa) (x0 x34 x3 x13 x5:IV):OH :=
 Ac 1 x9 fun x36=>Ae x36 h25 fun x37 _=>Ak [] false false ih 58 [x0,.fv (.int .i64 0),x34,x37] h25 fun x39 h40 _ _=>AN 0 x39 fun x43=>AN 1 x39 fun x44=>YV h40 x43 x44 x9 ih x3 x13 x5 x0
def X3 (x19:IV) (h20:Hp) (x5 x23 x13 x9:IV) (ih:Aa) (x0 x3:IV):OH :=
 AN 1 x19 fun x24=>Al 3 x5 x23 h20 fun h25 _ _=>Ig EE 3 x24 (.fv (.int .i64 0)) fun x28=>Aj x28 (Bw [.fv (.int .i64 0),.fv (.int .i64 0),.nils] [] fun x29=>Yc h25 x13 x29) (Ai 3 x5 h25 fun x34 _=>Zy x9 h25 ih x0 x34 x3 x13 x5)
def S33 (ih:Aa) (n:Nat) (x0 x1 x2 x3:IV) (h4:Hp):OH :=
 Bg 34603008 x1 h4 fun x5 h6 _ _=>Bg 34603009 x2 h6 fun x9 h10 _ _=>AK 34603010 (.row [.fv (.int .i64 0),.fv (.int .i64 0),.nils] false) (.ptr (.own 34603010) 0) h10 fun x13 h14 _ _=>Ai 3 x5 h14 fun x17 _=>Ak [] false false ih 34 [x17] h14 fun x19 h20 _ _=>AN 0 x19 fun x23=>X3 x19 h20 x5 x23 x13 x9 ih x0 x3
theorem AkQ (ih:Aa) (n:Nat) (x0 x1 x2 x3:IV) (h4:Hp):AD EE ih ft.get n 33 [x0,x1,x2,x3] h4=S33 ih n x0 x1 x2 x3 h4:=by kernel_rfl
def Vc (r43 w44 r41:AH) (h42:Hp) (x6 x40:IV):OH :=
 Ad [(r41,[])] r43 w44 (AE true 3 x6 h42 fun x45=>An [x45,x40] h42)
def Vk (x11:IV) (h29:Hp) (x6 x37:IV):OH :=
 AC x11 fun x38=>Ac 2 x38 fun x39=>Ae x39 h29 fun x40 r41=>Ad [] r41 [] (Al 3 x6 x37 h29 fun h42 r43 w44=>Vc r43 w44 r41 h42 x6 x40)
def Uh (h29:Hp) (x6 x46:IV):OH :=
 Al 3 x6 x46 h29 fun h48 _ _=>AE true 3 x6 h48 fun x51=>An [x51,.fv (.int .i64 0)] h48
def US (h29:Hp) (x33 x11 x6 x25:IV):OH :=
 Ae x33 h29 fun x34 _=>Ig EE 3 x34 (.fv (.int .i64 0)) fun x36=>Aj x36 (Bw [.fv (.int .i64 0),.fv (.int .i64 0),.nils] [] fun x37=>Vk x11 h29 x6 x37) (Ai 3 x25 h29 fun x46 _=>Uh h29 x6 x46)
def Ue (ih:Aa) (h18:Hp) (x11 x17 x6:IV):OH :=
 Ak [true,false,false,false] false false ih 61 [x11,x17,.fv (.int .i64 0),.fv (.int .i64 1)] h18 fun x21 h22 _ _=>AK 35653637 (.row [.fv (.int .i64 0),.fv (.int .i64 0),.nils] false) (.ptr (.own 35653637) 0) h22 fun x25 h26 _ _=>Al 3 x25 x21 h26 fun h29 _ _=>AC x11 fun x32=>Ac 2 x32 fun x33=>US h29 x33 x11 x6 x25
def S34 (ih:Aa) (n:Nat) (x0:IV) (h1:Hp):OH :=
 Bg 35651584 x0 h1 fun x2 h3 _ _=>AK 35651585 (.row [.fv (.int .i64 0),.fv (.int .i64 0),.nils] false) (.ptr (.own 35651585) 0) h3 fun x6 h7 _ _=>Bw [.fv (.int .i64 0),.fv (.int .i64 0),.fv (.int .i64 0)] [] fun x10=>Bg 35652609 x10 h7 fun x11 h12 _ _=>Ai 3 x2 h12 fun x15 _=>Ak [true,false,false] false false ih 62 [x11,x15,.nils] h12 fun x17 h18 _ _=>Ue ih h18 x11 x17 x6
theorem AjV (ih:Aa) (n:Nat) (x0:IV) (h1:Hp):AD EE ih ft.get n 34 [x0] h1=S34 ih n x0 h1:=by kernel_rfl
def Adi (x17:IV) (h14:Hp):OH :=
 Ac 1 x17 fun x18=>Ae x18 h14 fun x19 _=>An [x19] h14
def S35 (ih:Aa) (n:Nat) (x0:IV) (h1:Hp):OH :=
 Bg 36700160 x0 h1 fun x2 h3 _ _=>Bw [.fv (.int .i64 0),.fv (.int .i64 0)] [] fun x6=>Bg 36701185 x6 h3 fun x7 h8 _ _=>Ai 3 x2 h8 fun x11 _=>Ak [true,false,false] false false ih 63 [x7,x11,.fv (.int .i64 1)] h8 fun _ h14 _ _=>AC x7 fun x17=>Adi x17 h14
theorem Ajz (ih:Aa) (n:Nat) (x0:IV) (h1:Hp):AD EE ih ft.get n 35 [x0] h1=S35 ih n x0 h1:=by kernel_rfl
def MU (x12 x43 x13:IV) (q7:List IV→Hp→OH) (h44:Hp) (x10 x11:IV):OH :=
 Bz EE 3 x12 x43 fun x47=>Bz EE 3 x13 (.fv (.int .i64 1)) fun x48=>q7 [x10,x11,x47,x48] h44
def NK (h32:Hp) (x36 x13 x10 x12:IV) (ih:Aa) (q7:List IV→Hp→OH) (x11:IV):OH :=
 Ae x36 h32 fun x37 _=>Bf 3 x37 x13 fun x39=>Ai 3 x39 h32 fun x40 _=>Ba EE 3 x10 x12 fun x42=>Ak [] false false ih 36 [x40,x42] h32 fun x43 h44 _ _=>MU x12 x43 x13 q7 h44 x10 x11
def Ng (h26:Hp) (x18 x20 x25 x11 x13 x10 x12:IV) (ih:Aa) (q7:List IV→Hp→OH):OH :=
 Ab x18 true h26 (fun k29=>G6 EE 3 x20 x25 fun x30=>k29 x30 h26 [] []) fun x31 h32 _ _=>AF x18 x31 (.fv (.bool false)) fun x35=>Aj x35 (Ac 2 x11 fun x36=>NK h32 x36 x13 x10 x12 ih q7 x11) (An [x12] h32)
def Nx (h9:Hp) (x14 x13 x12 x10 x11:IV) (ih:Aa) (q7:List IV→Hp→OH):OH :=
 Ae x14 h9 fun x15 _=>Ca x15 fun x17=>G6 EE 3 x13 x17 fun x18=>Ab x18 true h9 (fun k19=>k19 x12 h9 [] []) fun x20 h21 _ _=>Ab x18 true h21 (fun k24=>k24 x10 h21 [] []) fun x25 h26 _ _=>Ng h26 x18 x20 x25 x11 x13 x10 x12 ih q7
def PH (l8:List IV) (h9:Hp) (ih:Aa) (q7:List IV→Hp→OH):OH :=
 AA l8 fun x10 l49=>AA l49 fun x11 l50=>AA l50 fun x12 l51=>AA l51 fun x13 _=>Ac 2 x11 fun x14=>Nx h9 x14 x13 x12 x10 x11 ih q7
def S36 (ih:Aa) (n:Nat) (x0 x1:IV) (h2:Hp):OH :=
 Bg 37748736 x0 h2 fun x3 h4 _ _=>BD n (fun q7 l8 h9=>PH l8 h9 ih q7) [x1,x3,.fv (.int .i64 1),.fv (.int .i64 0)] h4
theorem Alh (ih:Aa) (n:Nat) (x0 x1:IV) (h2:Hp):AD EE ih ft.get n 36 [x0,x1] h2=S36 ih n x0 x1 h2:=by kernel_rfl
def Zg (h29:Hp) (x8:IV):OH :=
 AE true 3 x8 h29 fun x32=>An [x32] h29
def VW (ih:Aa) (h24:Hp) (x8:IV):OH :=
 Ak [] false false ih 24 [.fv (.int .i64 14),.nils] h24 fun x34 h35 _ _=>Al 3 x8 x34 h35 fun h38 _ _=>AE true 3 x8 h38 fun x41=>An [x41] h38
def XZ (h46:Hp) (x45:IV) (ih:Aa) (x8:IV):OH :=
 Aw (Af EE 28 1 [(0,x45)]) 39857154 h46 fun x49 h50 _ _=>Ak [] false false ih 24 [.fv (.int .i64 18),x49] h50 fun x53 h54 _ _=>Al 3 x8 x53 h54 fun h57 _ _=>AE true 3 x8 h57 fun x60=>An [x60] h57
def WY (ih:Aa) (h24:Hp) (x8:IV):OH :=
 Ak [] false false ih 47 [.fv (.int .i64 0)] h24 fun x62 h63 _ _=>Al 3 x8 x62 h63 fun h66 _ _=>AE true 3 x8 h66 fun x69=>An [x69] h66
def Aa8 (r116 w117:AH) (h115:Hp) (x8 x114:IV):OH :=
 Ad [] r116 w117 (Al 3 x8 x114 h115 fun h118 r119 w120=>Ad [] r119 w120 (AE true 3 x8 h118 fun x121=>An [x121] h118))
def Vt (ih:Aa) (h102:Hp) (x95 x101 x105:IV) (r92:AH) (x91 x8:IV):OH :=
 Ak [] false false ih 38 [x95,x101,x105] h102 fun x106 h107 r108 w109=>Ad [(r92,[])] r108 w109 (Aw (Af EE 28 2 [(0,x91),(1,x106)]) 39863305 h107 fun x110 h111 r112 w113=>Ad [] r112 w113 (Ak [] false false ih 24 [.fv (.int .i64 3),x110] h111 fun x114 h115 r116 w117=>Aa8 r116 w117 h115 x8 x114))
def VO (h96:Hp) (x4:IV) (r97 w98 r94 r92:AH) (ih:Aa) (x2 x95 x91 x8:IV):OH :=
 Ai 3 x4 h96 fun x99 r100=>Ad [(r97,w98),(r94,[]),(r92,[])] r100 [] (Ak [] false false ih 56 [x99,.fv (.int .i64 1)] h96 fun x101 h102 r103 w104=>Ad [(r92,[])] r103 w104 (Ba EE 3 x2 (.fv (.int .i64 1)) fun x105=>Vt ih h102 x95 x101 x105 r92 x91 x8))
def Y0 (r92:AH) (h88:Hp) (x84:IV) (ih:Aa) (x0 x4 x2 x91 x8:IV):OH :=
 Ad [] r92 [] (Ai 3 x84 h88 fun x93 r94=>Ad [(r92,[])] r94 [] (Ak [] false false ih 60 [x0,.fv (.int .i64 1),x93] h88 fun x95 h96 r97 w98=>Ad [(r92,[])] r97 w98 (VO h96 x4 r97 w98 r94 r92 ih x2 x95 x91 x8)))
def XK (x2:IV) (ih:Aa) (h76:Hp) (x0 x75 x4 x8:IV):OH :=
 Ba EE 3 x2 (.fv (.int .i64 1)) fun x79=>Ak [] false false ih 38 [x0,x75,x79] h76 fun x80 h81 _ _=>AK 39862278 (.row [.fv (.int .i64 0),.fv (.int .i64 0),.nils] false) (.ptr (.own 39862278) 0) h81 fun x84 h85 _ _=>Al 3 x84 x80 h85 fun h88 _ _=>Ai 3 x84 h88 fun x91 r92=>Y0 r92 h88 x84 ih x0 x4 x2 x91 x8
def Abp (h168:Hp) (x8:IV):OH :=
 AE true 3 x8 h168 fun x171=>An [x171] h168
def Abk (r162 w163:AH) (ih:Aa) (h161:Hp) (x160 x8:IV):OH :=
 Ad [] r162 w163 (Ak [] false false ih 24 [.fv (.int .i64 6),x160] h161 fun x164 h165 r166 w167=>Ad [] r166 w167 (Al 3 x8 x164 h165 fun h168 r169 w170=>Ad [] r169 w170 (Abp h168 x8)))
def Zt (r153 w154 r142:AH) (x2:IV) (ih:Aa) (h152:Hp) (x145 x151 x141 x8:IV):OH :=
 Ad [(r142,[])] r153 w154 (Ba EE 3 x2 (.fv (.int .i64 1)) fun x155=>Ak [] false false ih 38 [x145,x151,x155] h152 fun x156 h157 r158 w159=>Ad [(r142,[])] r158 w159 (Aw (Af EE 28 2 [(0,x141),(1,x156)]) 39866377 h157 fun x160 h161 r162 w163=>Abk r162 w163 ih h161 x160 x8))
def Xr (ih:Aa) (h138:Hp) (x0 x143:IV) (r142:AH) (x4:IV) (r144:AH) (x2 x141 x8:IV):OH :=
 Ak [] false false ih 60 [x0,.fv (.int .i64 1),x143] h138 fun x145 h146 r147 w148=>Ad [(r142,[])] r147 w148 (Ai 3 x4 h146 fun x149 r150=>Ad [(r147,w148),(r144,[]),(r142,[])] r150 [] (Ak [] false false ih 56 [x149,.fv (.int .i64 1)] h146 fun x151 h152 r153 w154=>Zt r153 w154 r142 x2 ih h152 x145 x151 x141 x8))
def AaR (h135:Hp) (x134 x130:IV) (ih:Aa) (x0 x4 x2 x8:IV):OH :=
 Al 3 x134 x130 h135 fun h138 _ _=>Ai 3 x134 h138 fun x141 r142=>Ad [] r142 [] (Ai 3 x134 h138 fun x143 r144=>Ad [(r142,[])] r144 [] (Xr ih h138 x0 x143 r142 x4 r144 x2 x141 x8))
def Xs (h72:Hp) (x4:IV) (ih:Aa) (x2 x0 x8:IV):OH :=
 Ai 3 x4 h72 fun x123 _=>Ak [] false false ih 56 [x123,.fv (.int .i64 0)] h72 fun x125 h126 _ _=>Ba EE 3 x2 (.fv (.int .i64 1)) fun x129=>Ak [] false false ih 38 [x0,x125,x129] h126 fun x130 h131 _ _=>AK 39865350 (.row [.fv (.int .i64 0),.fv (.int .i64 0),.nils] false) (.ptr (.own 39865350) 0) h131 fun x134 h135 _ _=>AaR h135 x134 x130 ih x0 x4 x2 x8
def Vu (h201:Hp) (x8:IV):OH :=
 AE true 3 x8 h201 fun x204=>An [x204] h201
def YJ (ih:Aa) (h208:Hp) (x207 x8:IV):OH :=
 Ak [] false false ih 24 [.fv (.int .i64 18),x207] h208 fun x211 h212 _ _=>Al 3 x8 x211 h212 fun h215 _ _=>AE true 3 x8 h215 fun x218=>An [x218] h215
def Aab (x188:IV) (ih:Aa) (h193:Hp) (x8 x189:IV):OH :=
 DP (N8 .not x188) fun x196=>Aj x196 (Ak [] false false ih 64 [] h193 fun x197 h198 _ _=>Al 3 x8 x197 h198 fun h201 _ _=>Vu h201 x8) (Ai 3 x189 h193 fun x205 _=>Aw (Af EE 28 1 [(0,x205)]) 39870465 h193 fun x207 h208 _ _=>YJ ih h208 x207 x8)
def Aan (x183:IV) (h184:Hp) (r185 w186 r180 w181 r177 r174 w175:AH) (x187:IV) (ih:Aa) (x8:IV):OH :=
 AN 1 x183 fun x188=>AK 39867402 (.row [.fv (.int .i64 0),.fv (.int .i64 0),.nils] false) (.ptr (.own 39867402) 0) h184 fun x189 h190 r191 w192=>Ad [(r185,w186),(r180,w181),(r177,[]),(r174,w175)] r191 w192 (Al 3 x189 x187 h190 fun h193 r194 w195=>Ad [] r194 w195 (Aab x188 ih h193 x8 x189))
def Wq (r180 w181:AH) (x2:IV) (ih:Aa) (h179:Hp) (x0 x172 x178:IV) (r177 r174 w175:AH) (x8:IV):OH :=
 Ad [] r180 w181 (Ba EE 3 x2 (.fv (.int .i64 1)) fun x182=>Ak [] false false ih 39 [x0,x172,x178,x182] h179 fun x183 h184 r185 w186=>Ad [] r185 w186 (AN 0 x183 fun x187=>Aan x183 h184 r185 w186 r180 w181 r177 r174 w175 x187 ih x8))
def X0 (ih:Aa) (h72:Hp) (x4 x2 x0 x8:IV):OH :=
 Ak [] false false ih 24 [.fv (.int .i64 14),.nils] h72 fun x172 h173 r174 w175=>Ad [] r174 w175 (Ai 3 x4 h173 fun x176 r177=>Ad [(r174,w175)] r177 [] (Ak [] false false ih 56 [x176,.fv (.int .i64 0)] h173 fun x178 h179 r180 w181=>Wq r180 w181 x2 ih h179 x0 x172 x178 r177 r174 w175 x8))
def VR (x71:IV) (h72:Hp) (x4:IV) (ih:Aa) (x2 x0 x8 x20:IV):OH :=
 Aj x71 (Ai 3 x4 h72 fun x73 _=>Ak [] false false ih 56 [x73,.fv (.int .i64 0)] h72 fun x75 h76 _ _=>XK x2 ih h76 x0 x75 x4 x8) (AZ EE 3 x20 (.fv (.int .i64 7)) fun x122=>Aj x122 (Xs h72 x4 ih x2 x0 x8) (X0 ih h72 x4 x2 x0 x8))
def XR (x4:IV) (ih:Aa) (x2 x0 x8 x20:IV) (h24:Hp):OH :=
 (fun (j1_70:IV→Hp→OH)=>AZ EE 3 x20 (.fv (.int .i64 5)) fun x219=>Aj x219 (j1_70 x219 h24) (AZ EE 3 x20 (.fv (.int .i64 6)) fun x220=>j1_70 x220 h24)) fun x71 h72=>VR x71 h72 x4 ih x2 x0 x8 x20
def Yj (x20:IV) (h24:Hp) (x4:IV) (ih:Aa) (x8 x2 x0:IV):OH :=
 AZ EE 3 x20 (.fv (.int .i64 3)) fun x42=>Aj x42 (Ai 3 x4 h24 fun x43 _=>Ak [] false false ih 28 [x43,.fv (.int .i64 1)] h24 fun x45 h46 _ _=>XZ h46 x45 ih x8) (AZ EE 3 x20 (.fv (.int .i64 4)) fun x61=>Aj x61 (WY ih h24 x8) (XR x4 ih x2 x0 x8 x20 h24))
def YT (x23:IV) (ih:Aa) (h24:Hp) (x8 x20 x4 x2 x0:IV):OH :=
 Aj x23 (Ak [] false false ih 64 [] h24 fun x25 h26 _ _=>Al 3 x8 x25 h26 fun h29 _ _=>Zg h29 x8) (AZ EE 3 x20 (.fv (.int .i64 2)) fun x33=>Aj x33 (VW ih h24 x8) (Yj x20 h24 x4 ih x8 x2 x0))
def V6 (ih:Aa) (x8 x20 x4 x2 x0:IV) (h21:Hp):OH :=
 (fun (j1_22:IV→Hp→OH)=>AZ EE 3 x20 (.fv (.int .i64 0)) fun x221=>Aj x221 (j1_22 x221 h21) (AZ EE 3 x20 (.fv (.int .i64 1)) fun x222=>j1_22 x222 h21)) fun x23 h24=>YT x23 ih h24 x8 x20 x4 x2 x0
def Aa5 (x15:IV) (j1_19:IV→Hp→OH) (h232:Hp):OH :=
 CA EE 3 .rem x15 (.fv (.int .i64 5)) fun x236=>j1_19 x236 h232
def X9 (x2:IV) (h16:Hp) (x15:IV) (j1_19:IV→Hp→OH):OH :=
 leS EE 3 x2 (.fv (.int .i64 0)) fun x223=>Ab x223 true h16 (fun k224=>k224 x15 h16 [] []) fun x225 h226 _ _=>Ab x223 true h226 (fun k229=>Kx EE 3 x225 (.fv (.int .i64 4)) fun x230=>k229 x230 h226 [] []) fun x231 h232 _ _=>AF x223 x231 (.fv (.bool false)) fun x235=>Aj x235 (Aa5 x15 j1_19 h232) (j1_19 x15 h232)
def S38 (ih:Aa) (n:Nat) (x0 x1 x2:IV) (h3:Hp):OH :=
 Bg 39845888 x1 h3 fun x4 h5 _ _=>AK 39845889 (.row [.fv (.int .i64 0),.fv (.int .i64 0),.nils] false) (.ptr (.own 39845889) 0) h5 fun x8 h9 _ _=>Ac 0 x4 fun x12=>Ae x12 h9 fun x13 _=>Ak [] false false ih 55 [x13,.fv (.int .i64 9)] h9 fun x15 h16 _ _=>(fun (j1_19:IV→Hp→OH)=>X9 x2 h16 x15 j1_19) fun x20 h21=>V6 ih x8 x20 x4 x2 x0 h21
theorem Aj0 (ih:Aa) (n:Nat) (x0 x1 x2:IV) (h3:Hp):AD EE ih ft.get n 38 [x0,x1,x2] h3=S38 ih n x0 x1 x2 h3:=by kernel_rfl
def Xm (h25:Hp) (x13 x29:IV):OH :=
 Al 3 x13 x29 h25 fun h30 _ _=>AE true 3 x13 h30 fun x33=>An [x33,.fv (.bool false)] h30
def AaP (h91:Hp) (x13 x44:IV):OH :=
 AE true 3 x13 h91 fun x94=>An [x94,x44] h91
def XH (h126:Hp) (x13 x129 x130:IV):OH :=
 Al 3 x13 x129 h126 fun h131 _ _=>AE true 3 x13 h131 fun x134=>An [x134,x130] h131
def VB (h117:Hp) (x5 x9:IV) (ih:Aa) (x0 x3 x13:IV):OH :=
 Ai 3 x5 h117 fun x121 _=>Ai 3 x9 h117 fun x123 _=>Ak [] false false ih 65 [x0,x121,x123,x3] h117 fun x125 h126 _ _=>AN 0 x125 fun x129=>AN 1 x125 fun x130=>XH h126 x13 x129 x130
def AaQ (ih:Aa) (h140:Hp) (x0 x141 x143 x3 x13:IV):OH :=
 Ak [] false false ih 66 [x0,x141,x143,x3] h140 fun x145 h146 _ _=>AN 0 x145 fun x149=>AN 1 x145 fun x150=>Al 3 x13 x149 h146 fun h151 _ _=>AE true 3 x13 h151 fun x154=>An [x154,x150] h151
def VN (r209 w210:AH) (h208:Hp) (x13 x184:IV):OH :=
 Ad [] r209 w210 (AE true 3 x13 h208 fun x211=>An [x211,x184] h208)
def Xe (h189:Hp) (x196 x198:IV) (ih:Aa) (x13 x184:IV):OH :=
 Aw (Af EE 28 2 [(0,x196),(1,x198)]) 40910853 h189 fun x200 h201 r202 w203=>Ad [] r202 w203 (Ak [] false false ih 24 [.fv (.int .i64 4),x200] h201 fun x204 h205 r206 w207=>Ad [] r206 w207 (Al 3 x13 x204 h205 fun h208 r209 w210=>VN r209 w210 h208 x13 x184))
def ZD (x193:IV) (h189:Hp) (x185:IV) (r194:AH) (ih:Aa) (x13 x184:IV):OH :=
 Bf 3 x193 (.fv (.int .i64 0)) fun x195=>Ai 3 x195 h189 fun x196 r197=>Ad [] r197 [] (Ai 3 x185 h189 fun x198 r199=>Ad [(r197,[]),(r194,[])] r199 [] (Xe h189 x196 x198 ih x13 x184))
def Zd (h186:Hp) (x185 x183 x5:IV) (ih:Aa) (x13 x184:IV):OH :=
 Al 3 x185 x183 h186 fun h189 r190 w191=>Ad [] r190 w191 (Ac 2 x5 fun x192=>Ae x192 h189 fun x193 r194=>Ad [] r194 [] (ZD x193 h189 x185 r194 ih x13 x184))
def W5 (r181 w182:AH) (x179:IV) (h180:Hp) (r176 w177 r173 r171 r168 r164 w165 r161 r158:AH) (x5:IV) (ih:Aa) (x13:IV):OH :=
 Ad [] r181 w182 (AN 0 x179 fun x183=>AN 1 x179 fun x184=>AK 40909842 (.row [.fv (.int .i64 0),.fv (.int .i64 0),.nils] false) (.ptr (.own 40909842) 0) h180 fun x185 h186 r187 w188=>Ad [(r181,w182),(r176,w177),(r173,[]),(r171,[]),(r168,[]),(r164,w165),(r161,[]),(r158,[])] r187 w188 (Zd h186 x185 x183 x5 ih x13 x184))
def WE (r173 r171 r168 r164 w165 r161 r158:AH) (ih:Aa) (h163:Hp) (x172 x3 x162 x170 x5 x13:IV):OH :=
 Ad [(r171,[]),(r168,[]),(r164,w165),(r161,[]),(r158,[])] r173 [] (Ak [] false false ih 56 [x172,.fv (.int .i64 0)] h163 fun x174 h175 r176 w177=>Ad [(r171,[]),(r168,[])] r176 w177 (Ba EE 3 x3 (.fv (.int .i64 1)) fun x178=>Ak [] false false ih 39 [x162,x170,x174,x178] h175 fun x179 h180 r181 w182=>W5 r181 w182 x179 h180 r176 w177 r173 r171 r168 r164 w165 r161 r158 x5 ih x13))
def Aac (r168 r164 w165 r161 r158:AH) (x167:IV) (h163:Hp) (x9:IV) (ih:Aa) (x3 x162 x5 x13:IV):OH :=
 Ad [(r164,w165),(r161,[]),(r158,[])] r168 [] (Bf 3 x167 (.fv (.int .i64 1)) fun x169=>Ai 3 x169 h163 fun x170 r171=>Ad [(r164,w165),(r161,[]),(r158,[])] r171 [] (Ai 3 x9 h163 fun x172 r173=>WE r173 r171 r168 r164 w165 r161 r158 ih h163 x172 x3 x162 x170 x5 x13))
def Zb (r161:AH) (ih:Aa) (h140:Hp) (x0 x160 x5:IV) (r158:AH) (x9 x3 x13:IV):OH :=
 Ad [] r161 [] (Ak [] false false ih 60 [x0,.fv (.int .i64 1),x160] h140 fun x162 h163 r164 w165=>Ad [] r164 w165 (Ac 2 x5 fun x166=>Ae x166 h163 fun x167 r168=>Aac r168 r164 w165 r161 r158 x167 h163 x9 ih x3 x162 x5 x13))
def YL (x5:IV) (h140:Hp) (ih:Aa) (x0 x9 x3 x13:IV):OH :=
 Ac 2 x5 fun x156=>Ae x156 h140 fun x157 r158=>Ad [] r158 [] (Bf 3 x157 (.fv (.int .i64 0)) fun x159=>Ai 3 x159 h140 fun x160 r161=>Zb r161 ih h140 x0 x160 x5 r158 x9 x3 x13)
def YF (h236:Hp) (x13 x240 x44:IV):OH :=
 Al 3 x13 x240 h236 fun h242 _ _=>AE true 3 x13 h242 fun x245=>An [x245,x44] h242
def Abo (h275:Hp) (x278 x280 x282:IV) (ih:Aa) (x13 x270:IV):OH :=
 Aw (Af EE 28 3 [(0,x278),(1,x280),(2,x282)]) 40916995 h275 fun x284 h285 _ _=>Ak [] false false ih 24 [.fv (.int .i64 7),x284] h285 fun x288 h289 _ _=>Al 3 x13 x288 h289 fun h292 _ _=>AE true 3 x13 h292 fun x295=>An [x295,x270] h292
def VC (h272:Hp) (x271 x269 x5 x232:IV) (ih:Aa) (x13 x270:IV):OH :=
 Al 3 x271 x269 h272 fun h275 r276 w277=>Ad [] r276 w277 (Ai 3 x5 h275 fun x278 _=>Ai 3 x232 h275 fun x280 _=>Ai 3 x271 h275 fun x282 _=>Abo h275 x278 x280 x282 ih x13 x270)
def Xv (r267 w268:AH) (x265:IV) (h266:Hp) (r262 w263 r259 r256 w257 r253 r251 r248:AH) (x5 x232:IV) (ih:Aa) (x13:IV):OH :=
 Ad [] r267 w268 (AN 0 x265 fun x269=>AN 1 x265 fun x270=>AK 40915983 (.row [.fv (.int .i64 0),.fv (.int .i64 0),.nils] false) (.ptr (.own 40915983) 0) h266 fun x271 h272 r273 w274=>Ad [(r267,w268),(r262,w263),(r259,[]),(r256,w257),(r253,[]),(r251,[]),(r248,[])] r273 w274 (VC h272 x271 x269 x5 x232 ih x13 x270))
def WC (r259 r256 w257 r253 r251 r248:AH) (ih:Aa) (h255:Hp) (x258 x3 x0 x254 x5 x232 x13:IV):OH :=
 Ad [(r256,w257),(r253,[]),(r251,[]),(r248,[])] r259 [] (Ak [] false false ih 56 [x258,.fv (.int .i64 1)] h255 fun x260 h261 r262 w263=>Ad [] r262 w263 (Ba EE 3 x3 (.fv (.int .i64 1)) fun x264=>Ak [] false false ih 39 [x0,x254,x260,x264] h261 fun x265 h266 r267 w268=>Xv r267 w268 x265 h266 r262 w263 r259 r256 w257 r253 r251 r248 x5 x232 ih x13))
def Aat (h236:Hp) (x232:IV) (r251 r248:AH) (ih:Aa) (x250 x9 x3 x0 x5 x13:IV):OH :=
 Ai 3 x232 h236 fun x252 r253=>Ad [(r251,[]),(r248,[])] r253 [] (Ak [] false false ih 67 [x250,.fv (.int .i64 0),x252] h236 fun x254 h255 r256 w257=>Ad [] r256 w257 (Ai 3 x9 h255 fun x258 r259=>WC r259 r256 w257 r253 r251 r248 ih h255 x258 x3 x0 x254 x5 x232 x13))
def YP (h236:Hp) (x246 x232:IV) (ih:Aa) (x9 x3 x0 x5 x13:IV):OH :=
 Ae x246 h236 fun x247 r248=>Ad [] r248 [] (Bf 3 x247 (.fv (.int .i64 1)) fun x249=>Ai 3 x249 h236 fun x250 r251=>Ad [] r251 [] (Aat h236 x232 r251 r248 ih x250 x9 x3 x0 x5 x13))
def Yp (h233:Hp) (x232 x230 x231 x45 x13 x44 x5:IV) (ih:Aa) (x9 x3 x0:IV):OH :=
 Al 3 x232 x230 h233 fun h236 r237 w238=>Ad [] r237 w238 (DP (N8 .not x231) fun x239=>Aj x239 (Ai 3 x45 h236 fun x240 _=>YF h236 x13 x240 x44) (Ac 2 x5 fun x246=>YP h236 x246 x232 ih x9 x3 x0 x5 x13))
def XB (r228 w229:AH) (x226:IV) (h227:Hp) (r223 w224 r220 r218 r215:AH) (x45 x13 x44 x5:IV) (ih:Aa) (x9 x3 x0:IV):OH :=
 Ad [] r228 w229 (AN 0 x226 fun x230=>AN 1 x226 fun x231=>AK 40912909 (.row [.fv (.int .i64 0),.fv (.int .i64 0),.nils] false) (.ptr (.own 40912909) 0) h227 fun x232 h233 r234 w235=>Ad [(r228,w229),(r223,w224),(r220,[]),(r218,[]),(r215,[])] r234 w235 (Yp h233 x232 x230 x231 x45 x13 x44 x5 ih x9 x3 x0))
def W8 (r220 r218 r215:AH) (ih:Aa) (h140:Hp) (x219 x3 x0 x217 x45 x13 x44 x5 x9:IV):OH :=
 Ad [(r218,[]),(r215,[])] r220 [] (Ak [] false false ih 56 [x219,.fv (.int .i64 0)] h140 fun x221 h222 r223 w224=>Ad [(r218,[]),(r215,[])] r223 w224 (Ba EE 3 x3 (.fv (.int .i64 1)) fun x225=>Ak [] false false ih 39 [x0,x217,x221,x225] h222 fun x226 h227 r228 w229=>XB r228 w229 x226 h227 r223 w224 r220 r218 r215 x45 x13 x44 x5 ih x9 x3 x0))
def ZL (r215:AH) (x214:IV) (h140:Hp) (x9:IV) (ih:Aa) (x3 x0 x45 x13 x44 x5:IV):OH :=
 Ad [] r215 [] (Bf 3 x214 (.fv (.int .i64 0)) fun x216=>Ai 3 x216 h140 fun x217 r218=>Ad [] r218 [] (Ai 3 x9 h140 fun x219 r220=>W8 r220 r218 r215 ih h140 x219 x3 x0 x217 x45 x13 x44 x5 x9))
def Wl (h320:Hp) (x323:IV) (ih:Aa) (x13 x315:IV):OH :=
 Aw (Af EE 28 1 [(0,x323)]) 40920065 h320 fun x325 h326 _ _=>Ak [] false false ih 24 [.fv (.int .i64 19),x325] h326 fun x329 h330 _ _=>Al 3 x13 x329 h330 fun h333 _ _=>AE true 3 x13 h333 fun x336=>An [x336,x315] h333
def Aav (h311:Hp) (r312 w313 r307 w308 r304 r302 r299:AH) (x314:IV) (ih:Aa) (x13 x315:IV):OH :=
 AK 40919053 (.row [.fv (.int .i64 0),.fv (.int .i64 0),.nils] false) (.ptr (.own 40919053) 0) h311 fun x316 h317 r318 w319=>Ad [(r312,w313),(r307,w308),(r304,[]),(r302,[]),(r299,[])] r318 w319 (Al 3 x316 x314 h317 fun h320 r321 w322=>Ad [] r321 w322 (Ai 3 x316 h320 fun x323 _=>Wl h320 x323 ih x13 x315))
def Wr (x3:IV) (ih:Aa) (h306:Hp) (x0 x301 x305:IV) (r307 w308 r304 r302 r299:AH) (x13:IV):OH :=
 Ba EE 3 x3 (.fv (.int .i64 1)) fun x309=>Ak [] false false ih 33 [x0,x301,x305,x309] h306 fun x310 h311 r312 w313=>Ad [] r312 w313 (AN 0 x310 fun x314=>AN 1 x310 fun x315=>Aav h311 r312 w313 r307 w308 r304 r302 r299 x314 ih x13 x315)
def YO (r302:AH) (h140:Hp) (x9:IV) (r299:AH) (ih:Aa) (x3 x0 x301 x13:IV):OH :=
 Ad [] r302 [] (Ai 3 x9 h140 fun x303 r304=>Ad [(r302,[]),(r299,[])] r304 [] (Ak [] false false ih 56 [x303,.fv (.int .i64 0)] h140 fun x305 h306 r307 w308=>Ad [(r302,[]),(r299,[])] r307 w308 (Wr x3 ih h306 x0 x301 x305 r307 w308 r304 r302 r299 x13)))
def Abg (x5:IV) (h140:Hp) (x9:IV) (ih:Aa) (x3 x0 x13:IV):OH :=
 Ac 2 x5 fun x297=>Ae x297 h140 fun x298 r299=>Ad [] r299 [] (Bf 3 x298 (.fv (.int .i64 0)) fun x300=>Ai 3 x300 h140 fun x301 r302=>YO r302 h140 x9 r299 ih x3 x0 x301 x13)
def Aao (h140:Hp) (x45 x13 x44:IV):OH :=
 Ai 3 x45 h140 fun x337 _=>Al 3 x13 x337 h140 fun h339 _ _=>AE true 3 x13 h339 fun x342=>An [x342,x44] h339
def V9 (x136 x5:IV) (h140:Hp) (x9:IV) (ih:Aa) (x3 x0 x45 x13 x44:IV):OH :=
 AZ EE 3 x136 (.fv (.int .i64 6)) fun x212=>Aj x212 (Ac 2 x5 fun x213=>Ae x213 h140 fun x214 r215=>ZL r215 x214 h140 x9 ih x3 x0 x45 x13 x44 x5) (AZ EE 3 x136 (.fv (.int .i64 18)) fun x296=>Aj x296 (Abg x5 h140 x9 ih x3 x0 x13) (Aao h140 x45 x13 x44))
def Wz (x139:IV) (h140:Hp) (x5 x9:IV) (ih:Aa) (x0 x3 x13 x136 x45 x44:IV):OH :=
 Aj x139 (Ai 3 x5 h140 fun x141 _=>Ai 3 x9 h140 fun x143 _=>AaQ ih h140 x0 x141 x143 x3 x13) (AZ EE 3 x136 (.fv (.int .i64 3)) fun x155=>Aj x155 (YL x5 h140 ih x0 x9 x3 x13) (V9 x136 x5 h140 x9 ih x3 x0 x45 x13 x44))
def Zx (x136:IV) (j1_138:IV→Hp→OH) (h117:Hp):OH :=
 AZ EE 3 x136 (.fv (.int .i64 14)) fun x344=>Aj x344 (j1_138 x344 h117) (AZ EE 3 x136 (.fv (.int .i64 2)) fun x345=>j1_138 x345 h117)
def VJ (x5:IV) (h117:Hp) (x9:IV) (ih:Aa) (x0 x3 x13 x45 x44:IV):OH :=
 Ac 0 x5 fun x135=>Ae x135 h117 fun x136 _=>(fun (j1_138:IV→Hp→OH)=>AZ EE 3 x136 (.fv (.int .i64 10)) fun x343=>Aj x343 (j1_138 x343 h117) (Zx x136 j1_138 h117)) fun x139 h140=>Wz x139 h140 x5 x9 ih x0 x3 x13 x136 x45 x44
def WQ (h99:Hp) (x95 x98:IV) (ih:Aa) (x5 x9 x0 x3 x13 x45 x44:IV):OH :=
 Ab x95 true h99 (fun k102=>Ae x98 h99 fun x103 r104=>k102 x103 h99 r104 []) fun x105 h106 _ _=>Ab x95 true h106 (fun k109=>Ak [] false false ih 55 [x105,.fv (.int .i64 7)] h106 k109) fun x110 h111 _ _=>Ab x95 true h111 (fun k114=>AZ EE 3 x110 (.fv (.int .i64 6)) fun x115=>k114 x115 h111 [] []) fun x116 h117 _ _=>AF x95 x116 (.fv (.bool false)) fun x120=>Aj x120 (VB h117 x5 x9 ih x0 x3 x13) (VJ x5 h117 x9 ih x0 x3 x13 x45 x44)
def Y5 (x88:IV) (h85:Hp) (x45 x13 x44 x3 x9:IV) (ih:Aa) (x5 x0:IV):OH :=
 Aj x88 (Ai 3 x45 h85 fun x89 _=>Al 3 x13 x89 h85 fun h91 _ _=>AaP h91 x13 x44) (Kx EE 3 x3 (.fv (.int .i64 0)) fun x95=>Ab x95 true h85 (fun k96=>Ac 0 x9 fun x97=>k96 x97 h85 [] []) fun x98 h99 _ _=>WQ h99 x95 x98 ih x5 x9 x0 x3 x13 x45 x44)
def WN (h67:Hp) (x44 x66 x3 x45 x13 x9:IV) (ih:Aa) (x5 x0:IV):OH :=
 Ab x44 true h67 (fun k70=>AZ EE 3 x66 (.fv (.int .i64 0)) fun x71=>k70 x71 h67 [] []) fun x72 h73 _ _=>AF x44 x72 (.fv (.bool false)) fun x76=>Ab x76 false h73 (fun k77=>k77 x3 h73 [] []) fun x78 h79 _ _=>Ab x76 false h79 (fun k82=>G6 EE 3 x78 (.fv (.int .i64 (-4))) fun x83=>k82 x83 h79 [] []) fun x84 h85 _ _=>AF x76 (.fv (.bool true)) x84 fun x88=>Y5 x88 h85 x45 x13 x44 x3 x9 ih x5 x0
def Z9 (h40:Hp) (x43 x44 x9:IV) (ih:Aa) (x3 x13 x5 x0:IV):OH :=
 AK 40898568 (.row [.fv (.int .i64 0),.fv (.int .i64 0),.nils] false) (.ptr (.own 40898568) 0) h40 fun x45 h46 _ _=>Al 3 x45 x43 h46 fun h49 _ _=>Ab x44 true h49 (fun k52=>Ac 0 x9 fun x53=>k52 x53 h49 [] []) fun x54 h55 _ _=>Ab x44 true h55 (fun k58=>Ae x54 h55 fun x59 r60=>k58 x59 h55 r60 []) fun x61 h62 _ _=>Ab x44 true h62 (fun k65=>Ak [] false false ih 55 [x61,.fv (.int .i64 3)] h62 k65) fun x66 h67 _ _=>WN h67 x44 x66 x3 x45 x13 x9 ih x5 x0
def Zf (x9:IV) (h25:Hp) (ih:Aa) (x0 x34 x3 x13 x5:IV):OH :=
 Ac 1 x9 fun x36=>Ae x36 h25 fun x37 _=>Ak [] false false ih 58 [x0,.fv (.int .i64 1),x34,x37] h25 fun x39 h40 _ _=>AN 0 x39 fun x43=>AN 1 x39 fun x44=>Z9 h40 x43 x44 x9 ih x3 x13 x5 x0
def Yf (x19:IV) (h20:Hp) (x5 x23 x13 x9:IV) (ih:Aa) (x0 x3:IV):OH :=
 AN 1 x19 fun x24=>Al 3 x5 x23 h20 fun h25 _ _=>Ig EE 3 x24 (.fv (.int .i64 0)) fun x28=>Aj x28 (Bw [.fv (.int .i64 0),.fv (.int .i64 0),.nils] [] fun x29=>Xm h25 x13 x29) (Ai 3 x5 h25 fun x34 _=>Zf x9 h25 ih x0 x34 x3 x13 x5)
def S39 (ih:Aa) (n:Nat) (x0 x1 x2 x3:IV) (h4:Hp):OH :=
 Bg 40894464 x1 h4 fun x5 h6 _ _=>Bg 40894465 x2 h6 fun x9 h10 _ _=>AK 40894466 (.row [.fv (.int .i64 0),.fv (.int .i64 0),.nils] false) (.ptr (.own 40894466) 0) h10 fun x13 h14 _ _=>Ai 3 x5 h14 fun x17 _=>Ak [] false false ih 34 [x17] h14 fun x19 h20 _ _=>AN 0 x19 fun x23=>Yf x19 h20 x5 x23 x13 x9 ih x0 x3
theorem Ajj (ih:Aa) (n:Nat) (x0 x1 x2 x3:IV) (h4:Hp):AD EE ih ft.get n 39 [x0,x1,x2,x3] h4=S39 ih n x0 x1 x2 x3 h4:=by kernel_rfl
def S40 (ih:Aa) (n:Nat) (x0:IV) (h1:Hp):OH :=
 Bg 41943040 x0 h1 fun x2 h3 _ _=>Ai 3 x2 h3 fun x6 _=>AK 41944065 (.row [.fv (.int .i64 0)] false) (.ptr (.own 41944065) 0) h3 fun x8 h9 _ _=>Ak [false,true,false] false false ih 68 [x6,x8,.fv (.int .i64 1)] h9 fun x12 h13 _ _=>An [x12] h13
theorem AjD (ih:Aa) (n:Nat) (x0:IV) (h1:Hp):AD EE ih ft.get n 40 [x0] h1=S40 ih n x0 h1:=by kernel_rfl
def MK (h13:Hp) (x6:IV):OH :=
 Bw [.fv (.int .i64 0),.fv (.int .i64 0),.nils] [] fun x17=>Al 3 x6 x17 h13 fun h18 _ _=>AE true 3 x6 h18 fun x21=>An [x21,.fv (.int .i64 1)] h18
def MN (r43 w44 r41:AH) (h42:Hp) (x6 x40:IV):OH :=
 Ad [(r41,[])] r43 w44 (AE true 3 x6 h42 fun x45=>An [x45,x40] h42)
def MO (x22:IV) (h29:Hp) (x6 x37:IV):OH :=
 AC x22 fun x38=>Ac 3 x38 fun x39=>Ae x39 h29 fun x40 r41=>Ad [] r41 [] (Al 3 x6 x37 h29 fun h42 r43 w44=>MN r43 w44 r41 h42 x6 x40)
def Nw (h67:Hp) (x6 x65:IV):OH :=
 AE true 3 x6 h67 fun x70=>An [x70,x65] h67
def NG (x63:IV) (h54:Hp) (x6 x62:IV):OH :=
 Ac 3 x63 fun x64=>Ae x64 h54 fun x65 r66=>Ad [] r66 [] (Al 3 x6 x62 h54 fun h67 r68 w69=>Ad [(r66,[])] r68 w69 (Nw h67 x6 x65))
def NL (h73:Hp) (x6:IV):OH :=
 AE true 3 x6 h73 fun x76=>An [x76,.fv (.int .i64 0)] h73
def NV (x59 x22:IV) (h54:Hp) (x6 x50:IV):OH :=
 Ig EE 36 x59 (.fv (.int .i64 0)) fun x61=>Aj x61 (Bw [.fv (.int .i64 0),.fv (.int .i64 0),.nils] [] fun x62=>AC x22 fun x63=>NG x63 h54 x6 x62) (Ai 3 x50 h54 fun x71 _=>Al 3 x6 x71 h54 fun h73 _ _=>NL h73 x6)
def MF (h47:Hp) (x46 x22 x6:IV):OH :=
 AK 42998787 (.row [.fv (.int .i64 0),.fv (.int .i64 0),.nils] false) (.ptr (.own 42998787) 0) h47 fun x50 h51 _ _=>Al 3 x50 x46 h51 fun h54 _ _=>AC x22 fun x57=>Ac 3 x57 fun x58=>Ae x58 h54 fun x59 _=>NV x59 x22 h54 x6 x50
def NE (h29:Hp) (x33 x22 x6:IV) (ih:Aa) (x28:IV):OH :=
 Ae x33 h29 fun x34 _=>Ig EE 36 x34 (.fv (.int .i64 0)) fun x36=>Aj x36 (Bw [.fv (.int .i64 0),.fv (.int .i64 0),.nils] [] fun x37=>MO x22 h29 x6 x37) (Ak [true,false,false,false] false false ih 72 [x22,x28,.fv (.int .i64 0),.fv (.int .i64 1)] h29 fun x46 h47 _ _=>MF h47 x46 x22 x6)
def Mj (ih:Aa) (h13:Hp) (x2 x6:IV):OH :=
 AcC ih 70 [] h13 fun x22 h23 _ _=>Ai 3 x2 h23 fun x26 _=>Ak [true,false,false] false false ih 71 [x22,.fv .nilp,x26] h23 fun x28 h29 _ _=>AC x22 fun x32=>Ac 3 x32 fun x33=>NE h29 x33 x22 x6 ih x28
def S41 (ih:Aa) (n:Nat) (x0:IV) (h1:Hp):OH :=
 Bg 42991616 x0 h1 fun x2 h3 _ _=>AK 42991617 (.row [.fv (.int .i64 0),.fv (.int .i64 0),.nils] false) (.ptr (.own 42991617) 0) h3 fun x6 h7 _ _=>Ai 3 x2 h7 fun x10 _=>Ak [] false false ih 69 [x10] h7 fun x12 h13 _ _=>DP (N8 .not x12) fun x16=>Aj x16 (MK h13 x6) (Mj ih h13 x2 x6)
theorem Ajt (ih:Aa) (n:Nat) (x0:IV) (h1:Hp):AD EE ih ft.get n 41 [x0] h1=S41 ih n x0 h1:=by kernel_rfl
def Mw (h23:Hp) (x26 x19:IV) (ih:Aa):OH :=
 Ae x26 h23 fun x27 _=>Aw (val (CM (.func 74) [] [x19])) 44049410 h23 fun x29 h30 _ _=>Ak [] false false ih 73 [x27,x29] h30 fun x33 h34 _ _=>DP (N8 .not x33) fun x37=>An [x37] h34
def NU (h12:Hp) (x3 x7:IV) (ih:Aa):OH :=
 Ai 2 x3 h12 fun x13 _=>Aw (val (CM (.func 42) [x13] [])) 44048385 h12 fun x15 h16 _ _=>AK 44048386 (.row [.fv (.nilf)] false) (.ptr (.own 44048386) 0) h16 fun x19 h20 _ _=>Bj x19 x15 h20 fun h23 _ _=>Ac 2 x7 fun x26=>Mw h23 x26 x19 ih
def Mc (h61:Hp) (x50 x3 x60:IV) (j0_11:Hp→OH):OH :=
 Ab x50 false h61 (fun k64=>Ac 1 x3 fun x65=>k64 x65 h61 [] []) fun x66 h67 _ _=>Ab x50 false h67 (fun k70=>Ae x66 h67 fun x71 r72=>k70 x71 h67 r72 []) fun x73 h74 _ _=>Ab x50 false h74 (fun k77=>Kx EE 3 x60 x73 fun x78=>k77 x78 h74 [] []) fun x79 h80 _ _=>AF x50 (.fv (.bool true)) x79 fun x83=>Aj x83 (An [.fv (.bool false)] h80) (j0_11 h80)
def Mq (x3:IV) (h43:Hp) (x45 x7:IV) (j0_11:Hp→OH):OH :=
 Ac 0 x3 fun x47=>Ae x47 h43 fun x48 _=>G6 EE 3 x45 x48 fun x50=>Ab x50 false h43 (fun k51=>Ac 0 x7 fun x52=>k51 x52 h43 [] []) fun x53 h54 _ _=>Ab x50 false h54 (fun k57=>Ae x53 h54 fun x58 r59=>k57 x58 h54 r59 []) fun x60 h61 _ _=>Mc h61 x50 x3 x60 j0_11
def MA (x42:IV) (j0_11:Hp→OH) (h43:Hp) (x7 x3:IV):OH :=
 Aj x42 (j0_11 h43) (Ac 0 x7 fun x44=>Ae x44 h43 fun x45 _=>Mq x3 h43 x45 x7 j0_11)
def Mp (x39:IV) (j1_41:IV→Hp→OH) (h8:Hp):OH :=
 AZ EE 3 x39 (.fv (.int .i64 16)) fun x86=>Aj x86 (j1_41 x86 h8) (AZ EE 3 x39 (.fv (.int .i64 17)) fun x87=>j1_41 x87 h8)
def Nd (x39:IV) (j1_41:IV→Hp→OH) (h8:Hp):OH :=
 AZ EE 3 x39 (.fv (.int .i64 1)) fun x84=>Aj x84 (j1_41 x84 h8) (AZ EE 3 x39 (.fv (.int .i64 15)) fun x85=>Aj x85 (j1_41 x85 h8) (Mp x39 j1_41 h8))
def S42 (ih:Aa) (n:Nat) (x0 x1:IV) (h2:Hp):OH :=
 Bg 44040192 x0 h2 fun x3 h4 _ _=>Bg 44040193 x1 h4 fun x7 h8 _ _=>(fun (j0_11:Hp→OH)=>Ac 0 x7 fun x38=>Ae x38 h8 fun x39 _=>(fun (j1_41:IV→Hp→OH)=>Nd x39 j1_41 h8) fun x42 h43=>MA x42 j0_11 h43 x7 x3) fun h12=>NU h12 x3 x7 ih
theorem Alg (ih:Aa) (n:Nat) (x0 x1:IV) (h2:Hp):AD EE ih ft.get n 42 [x0,x1] h2=S42 ih n x0 x1 h2:=by kernel_rfl
def FP (h68:Hp) (x71 x67 x36:IV) (h3:Hp) (x31 x32 x33 x34 x35:IV) (q28:List IV→Hp→OH):OH :=
 Bj x71 x67 h68 fun h72 r73 w74=>Ad [] r73 w74 (Bz EE 3 x36 (.fv (.int .i64 1)) fun x75=>Bs (h3.own.map (·.1)) [47193104] [x31,x32,x33,x34,x35,x75] h72 fun h76=>q28 [x31,x32,x33,x34,x35,x75] h76)
def FB (h60:Hp) (x59:IV) (r44:AH) (x43 x35 x36:IV) (h3:Hp) (x31 x32 x33 x34:IV) (q28:List IV→Hp→OH):OH :=
 Aw (Af EE 28 1 [(0,x59)]) 47193103 h60 fun x63 h64 r65 w66=>Ad [(r44,[])] r65 w66 (Aw (AS EE 47193104 false .append [28,28] [x43,x63]) 47193104 h64 fun x67 h68 r69 w70=>Ad [] r69 w70 (Ac 2 x35 fun x71=>FP h68 x71 x67 x36 h3 x31 x32 x33 x34 x35 q28))
def Fy (ih:Aa) (h30:Hp) (x52 x36:IV) (r50 r47 r44:AH) (x32 x49 x31 x43 x35:IV) (h3:Hp) (x33 x34:IV) (q28:List IV→Hp→OH):OH :=
 Ak [] false false ih 54 [x52,x36] h30 fun x54 h55 r56 w57=>Ad [(r50,[]),(r47,[]),(r44,[])] r56 w57 (Bz EE 3 x32 x54 fun x58=>Ak [] false false ih 45 [x49,x31,x58] h55 fun x59 h60 r61 w62=>Ad [(r44,[])] r61 w62 (FB h60 x59 r44 x43 x35 x36 h3 x31 x32 x33 x34 q28))
def FG (h30:Hp) (x48:IV) (r44:AH) (x33:IV) (r47:AH) (ih:Aa) (x36 x32 x31 x43 x35:IV) (h3:Hp) (x34:IV) (q28:List IV→Hp→OH):OH :=
 Ai 3 x48 h30 fun x49 r50=>Ad [(r44,[])] r50 [] (Ac 0 x33 fun x51=>Ae x51 h30 fun x52 r53=>Ad [(r50,[]),(r47,[]),(r44,[])] r53 [] (Fy ih h30 x52 x36 r50 r47 r44 x32 x49 x31 x43 x35 h3 x33 x34 q28))
def FX (r44:AH) (x33:IV) (h30:Hp) (x36:IV) (ih:Aa) (x32 x31 x43 x35:IV) (h3:Hp) (x34:IV) (q28:List IV→Hp→OH):OH :=
 Ad [] r44 [] (Ac 2 x33 fun x45=>Ae x45 h30 fun x46 r47=>Ad [(r44,[])] r47 [] (Bf 3 x46 x36 fun x48=>FG h30 x48 r44 x33 r47 ih x36 x32 x31 x43 x35 h3 x34 q28))
def F4 (h79:Hp) (x34:IV):OH :=
 AE true 3 x34 h79 fun x82=>An [x82] h79
def FD (x41 x35:IV) (h30:Hp) (x33 x36:IV) (ih:Aa) (x32 x31:IV) (h3:Hp) (x34:IV) (q28:List IV→Hp→OH):OH :=
 Aj x41 (Ac 2 x35 fun x42=>Ae x42 h30 fun x43 r44=>FX r44 x33 h30 x36 ih x32 x31 x43 x35 h3 x34 q28) (Ai 3 x35 h30 fun x77 _=>Al 3 x34 x77 h30 fun h79 _ _=>F4 h79 x34)
def FU (l87:List IV) (x33:IV) (h30:Hp) (x35:IV) (ih:Aa) (x32 x31:IV) (h3:Hp) (x34:IV) (q28:List IV→Hp→OH):OH :=
 AA l87 fun x36 _=>Ac 2 x33 fun x37=>Ae x37 h30 fun x38 _=>Ca x38 fun x40=>G6 EE 3 x36 x40 fun x41=>FD x41 x35 h30 x33 x36 ih x32 x31 h3 x34 q28
def IC (l29:List IV) (h30:Hp) (ih:Aa) (h3:Hp) (q28:List IV→Hp→OH):OH :=
 AA l29 fun x31 l83=>AA l83 fun x32 l84=>AA l84 fun x33 l85=>AA l85 fun x34 l86=>AA l86 fun x35 l87=>FU l87 x33 h30 x35 ih x32 x31 h3 x34 q28
def FO (h3 h27:Hp) (x1 x2 x4 x8 x19:IV) (n:Nat) (ih:Aa):OH :=
 Bs (h3.own.map (·.1)) [47193104] [x1,x2,x4,x8,x19,.fv (.int .i64 0)] h27 fun h89=>BD n (fun q28 l29 h30=>IC l29 h30 ih h3 q28) [x1,x2,x4,x8,x19,.fv (.int .i64 0)] h89
def FA (h115:Hp) (x119 x1 x19:IV) (j0_26:Hp→OH):OH :=
 Ae x119 h115 fun x120 _=>Bz EE 3 x120 x1 fun x122=>Ac 1 x19 fun x123=>Bj x123 x122 h115 fun h124 _ _=>j0_26 h124
def FM (h109:Hp) (x93 x103 x108 x4 x1 x19:IV) (j0_26:Hp→OH):OH :=
 Ab x93 true h109 (fun k112=>geS EE 3 x103 x108 fun x113=>k112 x113 h109 [] []) fun x114 h115 _ _=>AF x93 x114 (.fv (.bool false)) fun x118=>Aj x118 (Ac 1 x4 fun x119=>FA h115 x119 x1 x19 j0_26) (j0_26 h115)
def Fw (h23:Hp) (x90 x4 x2 x1 x19:IV) (j0_26:Hp→OH):OH :=
 Ae x90 h23 fun x91 _=>AZ EE 3 x91 (.fv (.int .i64 1)) fun x93=>Ab x93 true h23 (fun k94=>Ac 1 x4 fun x95=>k94 x95 h23 [] []) fun x96 h97 _ _=>Ab x93 true h97 (fun k100=>Ae x96 h97 fun x101 r102=>k100 x101 h97 r102 []) fun x103 h104 _ _=>Ab x93 true h104 (fun k107=>k107 x2 h104 [] []) fun x108 h109 _ _=>FM h109 x93 x103 x108 x4 x1 x19 j0_26
def FZ (x13 x16:IV) (h9 h3:Hp) (x1 x2 x4 x8:IV) (n:Nat) (ih:Aa):OH :=
 Bw [.fv (.int .i64 0),.fv (.int .i64 0),.nils] [(0,1,x13),(1,1,x16)] fun x18=>AK 47186949 (.row [.fv (.int .i64 0),.fv (.int .i64 0),.nils] false) (.ptr (.own 47186949) 0) h9 fun x19 h20 _ _=>Al 3 x19 x18 h20 fun h23 _ _=>(fun (j0_26:Hp→OH)=>Ac 0 x4 fun x90=>Fw h23 x90 x4 x2 x1 x19 j0_26) fun h27=>FO h3 h27 x1 x2 x4 x8 x19 n ih
def S45 (ih:Aa) (n:Nat) (x0 x1 x2:IV) (h3:Hp):OH :=
 Bg 47185920 x0 h3 fun x4 h5 _ _=>AK 47185921 (.row [.fv (.int .i64 0),.fv (.int .i64 0),.nils] false) (.ptr (.own 47185921) 0) h5 fun x8 h9 _ _=>Ac 0 x4 fun x12=>Ae x12 h9 fun x13 _=>Ac 1 x4 fun x15=>Ae x15 h9 fun x16 _=>FZ x13 x16 h9 h3 x1 x2 x4 x8 n ih
theorem Ajd (ih:Aa) (n:Nat) (x0 x1 x2:IV) (h3:Hp):AD EE ih ft.get n 45 [x0,x1,x2] h3=S45 ih n x0 x1 x2 h3:=by kernel_rfl
def S47 (ih:Aa) (n:Nat) (x0:IV) (h1:Hp):OH :=
 AK 49283072 (.row [.fv (.int .i64 0),.fv (.int .i64 0),.nils] false) (.ptr (.own 49283072) 0) h1 fun x2 h3 _ _=>Bw [.fv (.int .i64 0),.fv (.int .i64 0),.nils] [(0,1,.fv (.int .i64 2)),(1,1,x0)] fun x6=>Al 3 x2 x6 h3 fun h7 _ _=>AE true 3 x2 h7 fun x10=>An [x10] h7
theorem Akw (ih:Aa) (n:Nat) (x0:IV) (h1:Hp):AD EE ih ft.get n 47 [x0] h1=S47 ih n x0 h1:=by kernel_rfl
def Ro (x12:IV) (h13:Hp) (x0:IV):OH :=
 Aj x12 (An [.fv (.int .i64 3)] h13) (AZ EE 3 x0 (.fv (.int .i64 13)) fun x14=>Aj x14 (An [.fv (.int .i64 4)] h13) (An [.fv (.int .i64 (-1))] h13))
def PO (x15:IV) (j1_11:IV→Hp→OH) (h10:Hp) (x0:IV):OH :=
 Aj x15 (j1_11 x15 h10) (AZ EE 3 x0 (.fv (.int .i64 27)) fun x16=>j1_11 x16 h10)
def Sa (x9:IV) (h10:Hp) (x0:IV):OH :=
 Aj x9 (An [.fv (.int .i64 2)] h10) ((fun (j1_11:IV→Hp→OH)=>AZ EE 3 x0 (.fv (.int .i64 7)) fun x15=>PO x15 j1_11 h10 x0) fun x12 h13=>Ro x12 h13 x0)
def RO (x0:IV) (j1_8:IV→Hp→OH) (h7:Hp):OH :=
 AZ EE 3 x0 (.fv (.int .i64 28)) fun x27=>Aj x27 (j1_8 x27 h7) (AZ EE 3 x0 (.fv (.int .i64 29)) fun x28=>j1_8 x28 h7)
def Qh (x0:IV) (j1_8:IV→Hp→OH) (h7:Hp):OH :=
 AZ EE 3 x0 (.fv (.int .i64 22)) fun x25=>Aj x25 (j1_8 x25 h7) (AZ EE 3 x0 (.fv (.int .i64 26)) fun x26=>Aj x26 (j1_8 x26 h7) (RO x0 j1_8 h7))
def QB (x0:IV) (j1_8:IV→Hp→OH) (h7:Hp):OH :=
 AZ EE 3 x0 (.fv (.int .i64 20)) fun x23=>Aj x23 (j1_8 x23 h7) (AZ EE 3 x0 (.fv (.int .i64 21)) fun x24=>Aj x24 (j1_8 x24 h7) (Qh x0 j1_8 h7))
def R9 (x0:IV) (j1_8:IV→Hp→OH) (h7:Hp):OH :=
 AZ EE 3 x0 (.fv (.int .i64 16)) fun x21=>Aj x21 (j1_8 x21 h7) (AZ EE 3 x0 (.fv (.int .i64 17)) fun x22=>Aj x22 (j1_8 x22 h7) (QB x0 j1_8 h7))
def P6 (x0:IV) (j1_8:IV→Hp→OH) (h7:Hp):OH :=
 AZ EE 3 x0 (.fv (.int .i64 5)) fun x19=>Aj x19 (j1_8 x19 h7) (AZ EE 3 x0 (.fv (.int .i64 6)) fun x20=>Aj x20 (j1_8 x20 h7) (R9 x0 j1_8 h7))
def QY (x17:IV) (j1_8:IV→Hp→OH) (h7:Hp) (x0:IV):OH :=
 Aj x17 (j1_8 x17 h7) (AZ EE 3 x0 (.fv (.int .i64 4)) fun x18=>Aj x18 (j1_8 x18 h7) (P6 x0 j1_8 h7))
def Pk (x6:IV) (h7:Hp) (x0:IV):OH :=
 Aj x6 (An [.fv (.int .i64 1)] h7) ((fun (j1_8:IV→Hp→OH)=>AZ EE 3 x0 (.fv (.int .i64 3)) fun x17=>QY x17 j1_8 h7 x0) fun x9 h10=>Sa x9 h10 x0)
def QW (x0:IV) (j1_5:IV→Hp→OH) (h4:Hp):OH :=
 AZ EE 3 x0 (.fv (.int .i64 24)) fun x35=>Aj x35 (j1_5 x35 h4) (AZ EE 3 x0 (.fv (.int .i64 30)) fun x36=>j1_5 x36 h4)
def Q8 (x0:IV) (j1_5:IV→Hp→OH) (h4:Hp):OH :=
 AZ EE 3 x0 (.fv (.int .i64 19)) fun x33=>Aj x33 (j1_5 x33 h4) (AZ EE 3 x0 (.fv (.int .i64 23)) fun x34=>Aj x34 (j1_5 x34 h4) (QW x0 j1_5 h4))
def Rf (x0:IV) (j1_5:IV→Hp→OH) (h4:Hp):OH :=
 AZ EE 3 x0 (.fv (.int .i64 12)) fun x31=>Aj x31 (j1_5 x31 h4) (AZ EE 3 x0 (.fv (.int .i64 18)) fun x32=>Aj x32 (j1_5 x32 h4) (Q8 x0 j1_5 h4))
def QV (x29:IV) (j1_5:IV→Hp→OH) (h4:Hp) (x0:IV):OH :=
 Aj x29 (j1_5 x29 h4) (AZ EE 3 x0 (.fv (.int .i64 9)) fun x30=>Aj x30 (j1_5 x30 h4) (Rf x0 j1_5 h4))
def QP (x3:IV) (h4:Hp) (x0:IV):OH :=
 Aj x3 (An [.fv (.int .i64 0)] h4) ((fun (j1_5:IV→Hp→OH)=>AZ EE 3 x0 (.fv (.int .i64 8)) fun x29=>QV x29 j1_5 h4 x0) fun x6 h7=>Pk x6 h7 x0)
def Q0 (x0:IV) (j1_2:IV→Hp→OH) (h1:Hp):OH :=
 AZ EE 3 x0 (.fv (.int .i64 25)) fun x43=>j1_2 x43 h1
def Pe (x0:IV) (j1_2:IV→Hp→OH) (h1:Hp):OH :=
 AZ EE 3 x0 (.fv (.int .i64 14)) fun x41=>Aj x41 (j1_2 x41 h1) (AZ EE 3 x0 (.fv (.int .i64 15)) fun x42=>Aj x42 (j1_2 x42 h1) (Q0 x0 j1_2 h1))
def Rw (x0:IV) (j1_2:IV→Hp→OH) (h1:Hp):OH :=
 AZ EE 3 x0 (.fv (.int .i64 10)) fun x39=>Aj x39 (j1_2 x39 h1) (AZ EE 3 x0 (.fv (.int .i64 11)) fun x40=>Aj x40 (j1_2 x40 h1) (Pe x0 j1_2 h1))
def S52 (ih:Aa) (n:Nat) (x0:IV) (h1:Hp):OH :=
 (fun (j1_2:IV→Hp→OH)=>AZ EE 3 x0 (.fv (.int .i64 1)) fun x37=>Aj x37 (j1_2 x37 h1) (AZ EE 3 x0 (.fv (.int .i64 2)) fun x38=>Aj x38 (j1_2 x38 h1) (Rw x0 j1_2 h1))) fun x3 h4=>QP x3 h4 x0
theorem Aiu (ih:Aa) (n:Nat) (x0:IV) (h1:Hp):AD EE ih ft.get n 52 [x0] h1=S52 ih n x0 h1:=by kernel_rfl
def AdE (x1:IV) (h7:Hp) (j0_3:Hp→OH):OH :=
 AZ EE 3 x1 (.fv (.int .i64 0)) fun x10=>Aj x10 (An [.fv (.int .i64 1)] h7) (AZ EE 3 x1 (.fv (.int .i64 2)) fun x11=>Aj x11 (An [.fv (.int .i64 2)] h7) (j0_3 h7))
def Aev (x6 x1:IV) (h7:Hp) (j0_3:Hp→OH) (x0:IV):OH :=
 Aj x6 (AZ EE 3 x1 (.fv (.int .i64 1)) fun x8=>Aj x8 (An [.fv (.int .i64 1)] h7) (j0_3 h7)) (AZ EE 3 x0 (.fv (.int .i64 13)) fun x9=>Aj x9 (AdE x1 h7 j0_3) (j0_3 h7))
def Ad1 (x0:IV) (j1_5:IV→Hp→OH) (h2:Hp):OH :=
 AZ EE 3 x0 (.fv (.int .i64 29)) fun x17=>j1_5 x17 h2
def Afk (x0:IV) (j1_5:IV→Hp→OH) (h2:Hp):OH :=
 AZ EE 3 x0 (.fv (.int .i64 20)) fun x15=>Aj x15 (j1_5 x15 h2) (AZ EE 3 x0 (.fv (.int .i64 28)) fun x16=>Aj x16 (j1_5 x16 h2) (Ad1 x0 j1_5 h2))
def Ad7 (x13:IV) (j1_5:IV→Hp→OH) (h2:Hp) (x0:IV):OH :=
 Aj x13 (j1_5 x13 h2) (AZ EE 3 x0 (.fv (.int .i64 6)) fun x14=>Aj x14 (j1_5 x14 h2) (Afk x0 j1_5 h2))
def S54 (ih:Aa) (n:Nat) (x0 x1:IV) (h2:Hp):OH :=
 (fun (j0_3:Hp→OH)=>(fun (j1_5:IV→Hp→OH)=>AZ EE 3 x0 (.fv (.int .i64 3)) fun x12=>Aj x12 (j1_5 x12 h2) (AZ EE 3 x0 (.fv (.int .i64 4)) fun x13=>Ad7 x13 j1_5 h2 x0)) fun x6 h7=>Aev x6 x1 h7 j0_3 x0) fun h4=>An [.fv (.int .i64 0)] h4
theorem AiK (ih:Aa) (n:Nat) (x0 x1:IV) (h2:Hp):AD EE ih ft.get n 54 [x0,x1] h2=S54 ih n x0 x1 h2:=by kernel_rfl
def S55 (ih:Aa) (n:Nat) (x0 x1:IV) (h2:Hp):OH :=
 CA EE 3 .rem x0 x1 fun x3=>(fun (j1_4:IV→Hp→OH)=>G6 EE 3 x3 (.fv (.int .i64 0)) fun x7=>Aj x7 (Bz EE 3 x3 x1 fun x8=>j1_4 x8 h2) (j1_4 x3 h2)) fun x5 h6=>An [x5] h6
theorem AiY (ih:Aa) (n:Nat) (x0 x1:IV) (h2:Hp):AD EE ih ft.get n 55 [x0,x1] h2=S55 ih n x0 x1 h2:=by kernel_rfl
def UP (x17 x1:IV) (h8:Hp) (x7:IV):OH :=
 Bf 3 x17 x1 fun x19=>Ai 3 x19 h8 fun x20 _=>Al 3 x7 x20 h8 fun h22 _ _=>AE true 3 x7 h22 fun x25=>An [x25] h22
def Uf (x1 x34 x30:IV) (h8:Hp) (x7:IV):OH :=
 CA EE 3 .mul (.fv (.int .i64 7)) x1 fun x35=>Bz EE 3 x34 x35 fun x36=>Bw [.fv (.int .i64 0),.fv (.int .i64 0),.nils] [(0,1,x30),(1,1,x36)] fun x37=>Al 3 x7 x37 h8 fun h38 _ _=>AE true 3 x7 h38 fun x41=>An [x41] h38
def UC (x27 x1 x3:IV) (h8:Hp) (x7:IV):OH :=
 CA EE 3 .quo x27 (.fv (.int .i64 3)) fun x29=>Bz EE 3 x29 x1 fun x30=>Ac 1 x3 fun x31=>Ae x31 h8 fun x32 _=>CA EE 3 .quo x32 (.fv (.int .i64 5)) fun x34=>Uf x1 x34 x30 h8 x7
def U5 (x15 x3:IV) (h8:Hp) (x1 x7:IV):OH :=
 Aj x15 (Ac 2 x3 fun x16=>Ae x16 h8 fun x17 _=>UP x17 x1 h8 x7) (Ac 0 x3 fun x26=>Ae x26 h8 fun x27 _=>UC x27 x1 x3 h8 x7)
def S56 (ih:Aa) (n:Nat) (x0 x1:IV) (h2:Hp):OH :=
 Bg 58720256 x0 h2 fun x3 h4 _ _=>AK 58720257 (.row [.fv (.int .i64 0),.fv (.int .i64 0),.nils] false) (.ptr (.own 58720257) 0) h4 fun x7 h8 _ _=>Ac 2 x3 fun x11=>Ae x11 h8 fun x12 _=>Ca x12 fun x14=>G6 EE 3 x1 x14 fun x15=>U5 x15 x3 h8 x1 x7
theorem AjG (ih:Aa) (n:Nat) (x0 x1:IV) (h2:Hp):AD EE ih ft.get n 56 [x0,x1] h2=S56 ih n x0 x1 h2:=by kernel_rfl
def Qv (x22:IV) (h4 h27:Hp) (x16 x17 x18 x19 x20 x26:IV) (q13:List IV→Hp→OH):OH :=
 Bz EE 3 x22 (.fv (.int .i64 1)) fun x28=>Bs (h4.own.map (·.1)) [60823568,60825603] [x16,x17,x18,x19,x20,x26,x28] h27 fun h29=>q13 [x16,x17,x18,x19,x20,x26,x28] h29
def Rn (h90:Hp) (x22 x21:IV) (j1_25:IV→Hp→OH):OH :=
 Aw (Af EE 75 1 [(0,x22)]) 60825602 h90 fun x94 h95 _ _=>Aw (AS EE 60825603 false .append [75,75] [x21,x94]) 60825603 h95 fun x98 h99 _ _=>j1_25 x98 h99
def Sg (r86 w87:AH) (h85:Hp) (x63:IV) (ih:Aa) (x72 x84 x22 x21:IV) (j1_25:IV→Hp→OH):OH :=
 Ad [] r86 w87 (Ab x63 true h85 (fun k88=>Ak [] false false ih 17 [x72,x84] h85 k88) fun x89 h90 r91 w92=>Ad [] r91 w92 (AF x63 x89 (.fv (.bool false)) fun x93=>Aj x93 (Rn h90 x22 x21 j1_25) (j1_25 x21 h90)))
def QC (h68:Hp) (x63:IV) (ih:Aa) (x67 x19:IV) (r69 w70:AH) (x22 x21:IV) (j1_25:IV→Hp→OH):OH :=
 Ab x63 true h68 (fun k71=>Ak [] false false ih 86 [x67] h68 k71) fun x72 h73 r74 w75=>Ad [] r74 w75 (Ab x63 true h73 (fun k76=>Ai 3 x19 h73 fun x77 r78=>k76 x77 h73 r78 []) fun x79 h80 r81 w82=>Ad [(r74,w75),(r69,w70)] r81 w82 (Ab x63 true h80 (fun k83=>Ak [] false false ih 86 [x79] h80 k83) fun x84 h85 r86 w87=>Sg r86 w87 h85 x63 ih x72 x84 x22 x21 j1_25))
def Ri (h51:Hp) (x54 x55:IV) (ih:Aa) (x19 x22 x21:IV) (j1_25:IV→Hp→OH):OH :=
 AK 60823568 (.row [.fv (.int .i64 0),.fv (.int .i64 0),.nils] false) (.ptr (.own 60823568) 0) h51 fun x56 h57 _ _=>Al 3 x56 x54 h57 fun h60 _ _=>AZ EE 3 x55 (.fv (.int .i64 0)) fun x63=>Ab x63 true h60 (fun k64=>Ai 3 x56 h60 fun x65 r66=>k64 x65 h60 r66 []) fun x67 h68 r69 w70=>Ad [] r69 w70 (QC h68 x63 ih x67 x19 r69 w70 x22 x21 j1_25)
def QA (x22:IV) (ih:Aa) (h15:Hp) (x43 x19 x21:IV) (j1_25:IV→Hp→OH):OH :=
 Bz EE 3 x22 (.fv (.int .i64 1)) fun x45=>Ak [] false false ih 45 [x43,x45,.fv (.int .i64 0)] h15 fun x46 h47 _ _=>Ak [] false false ih 34 [x46] h47 fun x50 h51 _ _=>AN 0 x50 fun x54=>AN 1 x50 fun x55=>Ri h51 x54 x55 ih x19 x22 x21 j1_25
def Rr (x38 x22 x16:IV) (h15:Hp) (ih:Aa) (x19 x21:IV) (j1_25:IV→Hp→OH):OH :=
 Ba EE 3 x38 (.fv (.int .i64 1)) fun x39=>Ba EE 3 x39 x22 fun x40=>Bf 4 x16 x40 fun x41=>Ac 1 x41 fun x42=>Ai 3 x42 h15 fun x43 _=>QA x22 ih h15 x43 x19 x21 j1_25
def Qn (x33:IV) (h15:Hp) (x17:IV) (j1_25:IV→Hp→OH) (x21 x16 x22:IV) (ih:Aa) (x19:IV):OH :=
 Ac 0 x33 fun x34=>Ae x34 h15 fun x35 _=>Ig EE 3 x35 x17 fun x37=>Aj x37 (j1_25 x21 h15) (Ca x16 fun x38=>Rr x38 x22 x16 h15 ih x19 x21 j1_25)
def Pr (x22:IV) (h4:Hp) (x16 x17 x18 x19 x20:IV) (q13:List IV→Hp→OH) (h15:Hp) (x21:IV) (ih:Aa):OH :=
 (fun (j1_25:IV→Hp→OH)=>Ca x16 fun x30=>Ba EE 3 x30 (.fv (.int .i64 1)) fun x31=>Ba EE 3 x31 x22 fun x32=>Bf 4 x16 x32 fun x33=>Qn x33 h15 x17 j1_25 x21 x16 x22 ih x19) fun x26 h27=>Qv x22 h4 h27 x16 x17 x18 x19 x20 x26 q13
def RW (h15:Hp) (x20 x104:IV):OH :=
 Al 3 x20 x104 h15 fun h105 _ _=>AE true 3 x20 h105 fun x108=>An [x108,.fv (.bool false)] h105
def RC (h121:Hp) (x20:IV):OH :=
 AE true 3 x20 h121 fun x124=>An [x124,.fv (.bool true)] h121
def Ry (ih:Aa) (h15:Hp) (x18 x109 x21 x20:IV):OH :=
 Ak [] false false ih 55 [x18,x109] h15 fun x110 h111 _ _=>Bf 1 x21 x110 fun x114=>Ae x114 h111 fun x115 _=>Ak [] false false ih 25 [x115] h111 fun x117 h118 _ _=>Al 3 x20 x117 h118 fun h121 _ _=>RC h121 x20
def PZ (x21:IV) (h15:Hp) (x20:IV) (ih:Aa) (x18:IV):OH :=
 Ca x21 fun x102=>AZ EE 3 x102 (.fv (.int .i64 0)) fun x103=>Aj x103 (Bw [.fv (.int .i64 0),.fv (.int .i64 0),.nils] [] fun x104=>RW h15 x20 x104) (Ca x21 fun x109=>Ry ih h15 x18 x109 x21 x20)
def QS (l129:List IV) (x16:IV) (h4:Hp) (x17 x18 x19 x20:IV) (q13:List IV→Hp→OH) (h15:Hp) (ih:Aa):OH :=
 AA l129 fun x21 l130=>AA l130 fun x22 _=>Ca x16 fun x23=>G6 EE 3 x22 x23 fun x24=>Aj x24 (Pr x22 h4 x16 x17 x18 x19 x20 q13 h15 x21 ih) (PZ x21 h15 x20 ih x18)
def Ym (l14:List IV) (h4:Hp) (q13:List IV→Hp→OH) (h15:Hp) (ih:Aa):OH :=
 AA l14 fun x16 l125=>AA l125 fun x17 l126=>AA l126 fun x18 l127=>AA l127 fun x19 l128=>AA l128 fun x20 l129=>QS l129 x16 h4 x17 x18 x19 x20 q13 h15 ih
def S58 (ih:Aa) (n:Nat) (x0 x1 x2 x3:IV) (h4:Hp):OH :=
 Bg 60817408 x2 h4 fun x5 h6 _ _=>AK 60817409 (.row [.fv (.int .i64 0),.fv (.int .i64 0),.nils] false) (.ptr (.own 60817409) 0) h6 fun x9 h10 _ _=>Bs (h4.own.map (·.1)) [60823568,60825603] [x0,x1,x3,x5,x9,.nils,.fv (.int .i64 0)] h10 fun h132=>BD n (fun q13 l14 h15=>Ym l14 h4 q13 h15 ih) [x0,x1,x3,x5,x9,.nils,.fv (.int .i64 0)] h132
theorem AjP (ih:Aa) (n:Nat) (x0 x1 x2 x3:IV) (h4:Hp):AD EE ih ft.get n 58 [x0,x1,x2,x3] h4=S58 ih n x0 x1 x2 x3 h4:=by kernel_rfl
def Yk (h128:Hp) (x13 x127:IV):OH :=
 AE true 3 x13 h128 fun x131=>An [x131,x127] h128
def VA (h113:Hp) (x50 x72 x94 x13 x112:IV):OH :=
 Ab x50 true h113 (fun k116=>k116 x72 h113 [] []) fun x117 h118 _ _=>AF x50 x117 (.fv (.bool false)) fun x121=>Ab x121 true h118 (fun k122=>k122 x94 h118 [] []) fun x123 h124 _ _=>AF x121 x123 (.fv (.bool false)) fun x127=>Al 3 x13 x112 h124 fun h128 _ _=>Yk h128 x13 x127
def Wc (h99:Hp) (x51 x73 x95:IV) (ih:Aa) (x50 x72 x94 x13:IV):OH :=
 Ai 3 x51 h99 fun x102 _=>Ai 3 x73 h99 fun x104 _=>Ai 3 x95 h99 fun x106 _=>Aw (Af EE 28 3 [(0,x102),(1,x104),(2,x106)]) 61873155 h99 fun x108 h109 _ _=>Ak [] false false ih 24 [.fv (.int .i64 27),x108] h109 fun x112 h113 _ _=>VA h113 x50 x72 x94 x13 x112
def Xh (x89:IV) (h90:Hp) (r91 w92 r86 w87 r83 r81:AH) (x93 x51 x73:IV) (ih:Aa) (x50 x72 x13:IV):OH :=
 AN 1 x89 fun x94=>AK 61872138 (.row [.fv (.int .i64 0),.fv (.int .i64 0),.nils] false) (.ptr (.own 61872138) 0) h90 fun x95 h96 r97 w98=>Ad [(r91,w92),(r86,w87),(r83,[]),(r81,[])] r97 w98 (Al 3 x95 x93 h96 fun h99 r100 w101=>Ad [] r100 w101 (Wc h99 x51 x73 x95 ih x50 x72 x94 x13))
def Aai (r86 w87 r81:AH) (x3:IV) (ih:Aa) (h85:Hp) (x0 x80 x84:IV) (r83:AH) (x51 x73 x50 x72 x13:IV):OH :=
 Ad [(r81,[])] r86 w87 (Ba EE 3 x3 (.fv (.int .i64 2)) fun x88=>Ak [] false false ih 33 [x0,x80,x84,x88] h85 fun x89 h90 r91 w92=>Ad [] r91 w92 (AN 0 x89 fun x93=>Xh x89 h90 r91 w92 r86 w87 r83 r81 x93 x51 x73 ih x50 x72 x13))
def XQ (h77:Hp) (x5 x9:IV) (ih:Aa) (x3 x0 x51 x73 x50 x72 x13:IV):OH :=
 Ai 3 x5 h77 fun x80 r81=>Ad [] r81 [] (Ai 3 x9 h77 fun x82 r83=>Ad [(r81,[])] r83 [] (Ak [] false false ih 56 [x82,.fv (.int .i64 2)] h77 fun x84 h85 r86 w87=>Aai r86 w87 r81 x3 ih h85 x0 x80 x84 r83 x51 x73 x50 x72 x13))
def ZX (x67:IV) (h68:Hp) (r69 w70 r64 w65 r61 r59:AH) (x71 x5 x9:IV) (ih:Aa) (x3 x0 x51 x50 x13:IV):OH :=
 AN 1 x67 fun x72=>AK 61871114 (.row [.fv (.int .i64 0),.fv (.int .i64 0),.nils] false) (.ptr (.own 61871114) 0) h68 fun x73 h74 r75 w76=>Ad [(r69,w70),(r64,w65),(r61,[]),(r59,[])] r75 w76 (Al 3 x73 x71 h74 fun h77 r78 w79=>Ad [] r78 w79 (XQ h77 x5 x9 ih x3 x0 x51 x73 x50 x72 x13))
def Xz (r64 w65 r59:AH) (x3:IV) (ih:Aa) (h63:Hp) (x0 x58 x62:IV) (r61:AH) (x5 x9 x51 x50 x13:IV):OH :=
 Ad [(r59,[])] r64 w65 (Ba EE 3 x3 (.fv (.int .i64 2)) fun x66=>Ak [] false false ih 33 [x0,x58,x62,x66] h63 fun x67 h68 r69 w70=>Ad [] r69 w70 (AN 0 x67 fun x71=>ZX x67 h68 r69 w70 r64 w65 r61 r59 x71 x5 x9 ih x3 x0 x51 x50 x13))
def VV (h55:Hp) (x5 x9:IV) (ih:Aa) (x3 x0 x51 x50 x13:IV):OH :=
 Ai 3 x5 h55 fun x58 r59=>Ad [] r59 [] (Ai 3 x9 h55 fun x60 r61=>Ad [(r59,[])] r61 [] (Ak [] false false ih 56 [x60,.fv (.int .i64 1)] h55 fun x62 h63 r64 w65=>Xz r64 w65 r59 x3 ih h63 x0 x58 x62 r61 x5 x9 x51 x50 x13))
def VP (x45:IV) (h46:Hp) (r47 w48 r42 w43 r39 r37:AH) (x49 x5 x9:IV) (ih:Aa) (x3 x0 x13:IV):OH :=
 AN 1 x45 fun x50=>AK 61870090 (.row [.fv (.int .i64 0),.fv (.int .i64 0),.nils] false) (.ptr (.own 61870090) 0) h46 fun x51 h52 r53 w54=>Ad [(r47,w48),(r42,w43),(r39,[]),(r37,[])] r53 w54 (Al 3 x51 x49 h52 fun h55 r56 w57=>Ad [] r56 w57 (VV h55 x5 x9 ih x3 x0 x51 x50 x13))
def Yr (r42 w43 r37:AH) (x3:IV) (ih:Aa) (h41:Hp) (x0 x36 x40:IV) (r39:AH) (x5 x9 x13:IV):OH :=
 Ad [(r37,[])] r42 w43 (Ba EE 3 x3 (.fv (.int .i64 2)) fun x44=>Ak [] false false ih 33 [x0,x36,x40,x44] h41 fun x45 h46 r47 w48=>Ad [] r47 w48 (AN 0 x45 fun x49=>VP x45 h46 r47 w48 r42 w43 r39 r37 x49 x5 x9 ih x3 x0 x13))
def Y9 (h32:Hp) (x21 x9:IV) (ih:Aa) (x3 x0 x5 x13:IV):OH :=
 Ai 3 x21 h32 fun x36 r37=>Ad [] r37 [] (Ai 3 x9 h32 fun x38 r39=>Ad [(r37,[])] r39 [] (Ak [] false false ih 56 [x38,.fv (.int .i64 0)] h32 fun x40 h41 r42 w43=>Yr r42 w43 r37 x3 ih h41 x0 x36 x40 r39 x5 x9 x13))
def Aar (h218:Hp) (x13 x212 x221:IV):OH :=
 Al 3 x13 x212 h218 fun h222 _ _=>AE true 3 x13 h222 fun x225=>An [x225,x221] h222
def VY (h201:Hp) (x197 x204:IV) (ih:Aa) (x164 x196 x13:IV):OH :=
 Ai 3 x197 h201 fun x206 _=>Aw (Af EE 28 2 [(0,x204),(1,x206)]) 61878274 h201 fun x208 h209 _ _=>Ak [] false false ih 24 [.fv (.int .i64 28),x208] h209 fun x212 h213 _ _=>Ab x164 true h213 (fun k216=>k216 x196 h213 [] []) fun x217 h218 _ _=>AF x164 x217 (.fv (.bool false)) fun x221=>Aar h218 x13 x212 x221
def VI (h192:Hp) (r193 w194 r188 w189 r185 r182 w183 r179 r176 w177 r173:AH) (x195 x165:IV) (ih:Aa) (x164 x196 x13:IV):OH :=
 AK 61877261 (.row [.fv (.int .i64 0),.fv (.int .i64 0),.nils] false) (.ptr (.own 61877261) 0) h192 fun x197 h198 r199 w200=>Ad [(r193,w194),(r188,w189),(r185,[]),(r182,w183),(r179,[]),(r176,w177),(r173,[])] r199 w200 (Al 3 x197 x195 h198 fun h201 r202 w203=>Ad [] r202 w203 (Ai 3 x165 h201 fun x204 _=>VY h201 x197 x204 ih x164 x196 x13))
def Yn (x3:IV) (ih:Aa) (h187:Hp) (x174 x180 x186:IV) (r188 w189 r185 r182 w183 r179 r176 w177 r173:AH) (x165 x164 x13:IV):OH :=
 Ba EE 3 x3 (.fv (.int .i64 2)) fun x190=>Ak [] false false ih 33 [x174,x180,x186,x190] h187 fun x191 h192 r193 w194=>Ad [] r193 w194 (AN 0 x191 fun x195=>AN 1 x191 fun x196=>VI h192 r193 w194 r188 w189 r185 r182 w183 r179 r176 w177 r173 x195 x165 ih x164 x196 x13)
def Yt (r182 w183:AH) (h181:Hp) (x9:IV) (r179 r176 w177 r173:AH) (ih:Aa) (x3 x174 x180 x165 x164 x13:IV):OH :=
 Ad [] r182 w183 (Ai 3 x9 h181 fun x184 r185=>Ad [(r182,w183),(r179,[]),(r176,w177),(r173,[])] r185 [] (Ak [] false false ih 56 [x184,.fv (.int .i64 2)] h181 fun x186 h187 r188 w189=>Ad [] r188 w189 (Yn x3 ih h187 x174 x180 x186 r188 w189 r185 r182 w183 r179 r176 w177 r173 x165 x164 x13)))
def AaS (ih:Aa) (h169:Hp) (x0 x172 x5:IV) (r173:AH) (x9 x3 x165 x164 x13:IV):OH :=
 Ak [] false false ih 60 [x0,.fv (.int .i64 0),x172] h169 fun x174 h175 r176 w177=>Ad [] r176 w177 (Ai 3 x5 h175 fun x178 r179=>Ad [(r176,w177),(r173,[])] r179 [] (Ak [] false false ih 45 [x178,.fv (.int .i64 1),.fv (.int .i64 0)] h175 fun x180 h181 r182 w183=>Yt r182 w183 h181 x9 r179 r176 w177 r173 ih x3 x174 x180 x165 x164 x13))
def AaJ (r167 w168 r161 w162 r156 w157 r153 r151:AH) (h166:Hp) (x165 x163 x143:IV) (ih:Aa) (x0 x5 x9 x3 x164 x13:IV):OH :=
 Ad [(r161,w162),(r156,w157),(r153,[]),(r151,[])] r167 w168 (Al 3 x165 x163 h166 fun h169 r170 w171=>Ad [] r170 w171 (Ai 3 x143 h169 fun x172 r173=>Ad [] r173 [] (AaS ih h169 x0 x172 x5 r173 x9 x3 x165 x164 x13)))
def Z1 (ih:Aa) (h155:Hp) (x0 x150 x154 x158:IV) (r156 w157 r153 r151:AH) (x143 x5 x9 x3 x13:IV):OH :=
 Ak [] false false ih 33 [x0,x150,x154,x158] h155 fun x159 h160 r161 w162=>Ad [] r161 w162 (AN 0 x159 fun x163=>AN 1 x159 fun x164=>AK 61876234 (.row [.fv (.int .i64 0),.fv (.int .i64 0),.nils] false) (.ptr (.own 61876234) 0) h160 fun x165 h166 r167 w168=>AaJ r167 w168 r161 w162 r156 w157 r153 r151 h166 x165 x163 x143 ih x0 x5 x9 x3 x164 x13)
def WW (h147:Hp) (x9:IV) (r151:AH) (ih:Aa) (x3 x0 x150 x143 x5 x13:IV):OH :=
 Ai 3 x9 h147 fun x152 r153=>Ad [(r151,[])] r153 [] (Ak [] false false ih 56 [x152,.fv (.int .i64 1)] h147 fun x154 h155 r156 w157=>Ad [(r151,[])] r156 w157 (Ba EE 3 x3 (.fv (.int .i64 2)) fun x158=>Z1 ih h155 x0 x150 x154 x158 r156 w157 r153 r151 x143 x5 x9 x3 x13))
def XC (ih:Aa) (h136:Hp) (x135 x9 x3 x0 x5 x13:IV):OH :=
 Ak [] false false ih 28 [x135,.fv (.int .i64 1)] h136 fun x139 h140 _ _=>AK 61875203 (.row [.fv (.int .i64 0),.fv (.int .i64 0),.nils] false) (.ptr (.own 61875203) 0) h140 fun x143 h144 _ _=>Al 3 x143 x139 h144 fun h147 _ _=>Ai 3 x143 h147 fun x150 r151=>Ad [] r151 [] (WW h147 x9 r151 ih x3 x0 x150 x143 x5 x13)
def WJ (h317:Hp) (x258 x290 x13 x316:IV):OH :=
 Ab x258 true h317 (fun k320=>k320 x290 h317 [] []) fun x321 h322 _ _=>AF x258 x321 (.fv (.bool false)) fun x325=>Al 3 x13 x316 h322 fun h326 r327 w328=>Ad [] r327 w328 (AE true 3 x13 h326 fun x329=>An [x329,x325] h326)
def Vv (r311 r308 w309 r304 w305 r301 r299:AH) (h307:Hp) (x306 x310:IV) (ih:Aa) (x258 x290 x13:IV):OH :=
 Ad [(r308,w309),(r304,w305),(r301,[]),(r299,[])] r311 [] (Aw (Af EE 28 2 [(0,x306),(1,x310)]) 61883397 h307 fun x312 h313 r314 w315=>Ad [] r314 w315 (Ak [] false false ih 24 [.fv (.int .i64 21),x312] h313 fun x316 h317 r318 w319=>Ad [] r318 w319 (WJ h317 x258 x290 x13 x316)))
def Ya (h295:Hp) (x298 x300:IV) (ih:Aa) (x259:IV) (r301 r299:AH) (x258 x290 x13:IV):OH :=
 Aw (Af EE 28 2 [(0,x298),(1,x300)]) 61883394 h295 fun x302 h303 r304 w305=>Ad [] r304 w305 (Ak [] false false ih 24 [.fv (.int .i64 20),x302] h303 fun x306 h307 r308 w309=>Ad [] r308 w309 (Ai 3 x259 h307 fun x310 r311=>Vv r311 r308 w309 r304 w305 r301 r299 h307 x306 x310 ih x258 x290 x13))
def Xb (r296 w297:AH) (h295:Hp) (x237 x291:IV) (ih:Aa) (x259 x258 x290 x13:IV):OH :=
 Ad [] r296 w297 (Ai 3 x237 h295 fun x298 r299=>Ad [] r299 [] (Ai 3 x291 h295 fun x300 r301=>Ad [(r299,[])] r301 [] (Ya h295 x298 x300 ih x259 r301 r299 x258 x290 x13)))
def Abq (x285:IV) (h286:Hp) (r287 w288 r282 w283 r279 r276 w277 r273 r270 w271 r267:AH) (x237:IV) (ih:Aa) (x259 x258 x13:IV):OH :=
 AN 0 x285 fun x289=>AN 1 x285 fun x290=>AK 61882381 (.row [.fv (.int .i64 0),.fv (.int .i64 0),.nils] false) (.ptr (.own 61882381) 0) h286 fun x291 h292 r293 w294=>Ad [(r287,w288),(r282,w283),(r279,[]),(r276,w277),(r273,[]),(r270,w271),(r267,[])] r293 w294 (Al 3 x291 x289 h292 fun h295 r296 w297=>Xb r296 w297 h295 x237 x291 ih x259 x258 x290 x13)
def Aam (ih:Aa) (h275:Hp) (x278 x3 x268 x274:IV) (r279 r276 w277 r273 r270 w271 r267:AH) (x237 x259 x258 x13:IV):OH :=
 Ak [] false false ih 56 [x278,.fv (.int .i64 2)] h275 fun x280 h281 r282 w283=>Ad [] r282 w283 (Ba EE 3 x3 (.fv (.int .i64 2)) fun x284=>Ak [] false false ih 33 [x268,x274,x280,x284] h281 fun x285 h286 r287 w288=>Ad [] r287 w288 (Abq x285 h286 r287 w288 r282 w283 r279 r276 w277 r273 r270 w271 r267 x237 ih x259 x258 x13))
def Z7 (r273 r270 w271 r267:AH) (ih:Aa) (h269:Hp) (x272 x9 x3 x268 x237 x259 x258 x13:IV):OH :=
 Ad [(r270,w271),(r267,[])] r273 [] (Ak [] false false ih 45 [x272,.fv (.int .i64 1),.fv (.int .i64 0)] h269 fun x274 h275 r276 w277=>Ad [] r276 w277 (Ai 3 x9 h275 fun x278 r279=>Ad [(r276,w277),(r273,[]),(r270,w271),(r267,[])] r279 [] (Aam ih h275 x278 x3 x268 x274 r279 r276 w277 r273 r270 w271 r267 x237 x259 x258 x13)))
def Y8 (h263:Hp) (x237:IV) (ih:Aa) (x0 x5 x9 x3 x259 x258 x13:IV):OH :=
 Ai 3 x237 h263 fun x266 r267=>Ad [] r267 [] (Ak [] false false ih 60 [x0,.fv (.int .i64 0),x266] h263 fun x268 h269 r270 w271=>Ad [] r270 w271 (Ai 3 x5 h269 fun x272 r273=>Z7 r273 r270 w271 r267 ih h269 x272 x9 x3 x268 x237 x259 x258 x13))
def Y2 (x253:IV) (h254:Hp) (r255 w256 r250 w251 r247 r245:AH) (x257 x237:IV) (ih:Aa) (x0 x5 x9 x3 x13:IV):OH :=
 AN 1 x253 fun x258=>AK 61881354 (.row [.fv (.int .i64 0),.fv (.int .i64 0),.nils] false) (.ptr (.own 61881354) 0) h254 fun x259 h260 r261 w262=>Ad [(r255,w256),(r250,w251),(r247,[]),(r245,[])] r261 w262 (Al 3 x259 x257 h260 fun h263 r264 w265=>Ad [] r264 w265 (Y8 h263 x237 ih x0 x5 x9 x3 x259 x258 x13))
def Xj (r250 w251 r245:AH) (x3:IV) (ih:Aa) (h249:Hp) (x0 x244 x248:IV) (r247:AH) (x237 x5 x9 x13:IV):OH :=
 Ad [(r245,[])] r250 w251 (Ba EE 3 x3 (.fv (.int .i64 2)) fun x252=>Ak [] false false ih 33 [x0,x244,x248,x252] h249 fun x253 h254 r255 w256=>Ad [] r255 w256 (AN 0 x253 fun x257=>Y2 x253 h254 r255 w256 r250 w251 r247 r245 x257 x237 ih x0 x5 x9 x3 x13))
def V4 (h241:Hp) (x237 x9:IV) (ih:Aa) (x3 x0 x5 x13:IV):OH :=
 Ai 3 x237 h241 fun x244 r245=>Ad [] r245 [] (Ai 3 x9 h241 fun x246 r247=>Ad [(r245,[])] r247 [] (Ak [] false false ih 56 [x246,.fv (.int .i64 1)] h241 fun x248 h249 r250 w251=>Xj r250 w251 r245 x3 ih h249 x0 x244 x248 r247 x237 x5 x9 x13))
def Abl (h32:Hp) (x9:IV) (ih:Aa) (x3 x0 x5 x13:IV):OH :=
 Ai 3 x9 h32 fun x227 _=>Ak [] false false ih 56 [x227,.fv (.int .i64 0)] h32 fun x229 h230 _ _=>Ak [] false false ih 28 [x229,.fv (.int .i64 1)] h230 fun x233 h234 _ _=>AK 61880323 (.row [.fv (.int .i64 0),.fv (.int .i64 0),.nils] false) (.ptr (.own 61880323) 0) h234 fun x237 h238 _ _=>Al 3 x237 x233 h238 fun h241 _ _=>V4 h241 x237 x9 ih x3 x0 x5 x13
def ZE (x345 x396:IV) (h397:Hp) (x13 x391:IV):OH :=
 AF x345 x396 (.fv (.bool false)) fun x400=>Al 3 x13 x391 h397 fun h401 _ _=>AE true 3 x13 h401 fun x404=>An [x404,x400] h401
def Yx (h372:Hp) (x375 x377:IV) (ih:Aa) (x345 x367 x13:IV):OH :=
 Aw (Af EE 28 2 [(0,x375),(1,x377)]) 61887490 h372 fun x379 h380 _ _=>Ak [] false false ih 24 [.fv (.int .i64 22),x379] h380 fun x383 h384 _ _=>Aw (Af EE 28 1 [(0,x383)]) 61887492 h384 fun x387 h388 _ _=>Ak [] false false ih 24 [.fv (.int .i64 23),x387] h388 fun x391 h392 _ _=>Ab x345 true h392 (fun k395=>k395 x367 h392 [] []) fun x396 h397 _ _=>ZE x345 x396 h397 x13 x391
def ZV (r370 w371 r364 w365 r359 w360 r356 r354:AH) (h369:Hp) (x368 x366 x346:IV) (ih:Aa) (x345 x367 x13:IV):OH :=
 Ad [(r364,w365),(r359,w360),(r356,[]),(r354,[])] r370 w371 (Al 3 x368 x366 h369 fun h372 r373 w374=>Ad [] r373 w374 (Ai 3 x346 h372 fun x375 _=>Ai 3 x368 h372 fun x377 _=>Yx h372 x375 x377 ih x345 x367 x13))
def YZ (ih:Aa) (h358:Hp) (x0 x353 x357 x361:IV) (r359 w360 r356 r354:AH) (x346 x345 x13:IV):OH :=
 Ak [] false false ih 33 [x0,x353,x357,x361] h358 fun x362 h363 r364 w365=>Ad [] r364 w365 (AN 0 x362 fun x366=>AN 1 x362 fun x367=>AK 61886474 (.row [.fv (.int .i64 0),.fv (.int .i64 0),.nils] false) (.ptr (.own 61886474) 0) h363 fun x368 h369 r370 w371=>ZV r370 w371 r364 w365 r359 w360 r356 r354 h369 x368 x366 x346 ih x345 x367 x13)
def ZK (h350:Hp) (x9:IV) (r354:AH) (ih:Aa) (x3 x0 x353 x346 x345 x13:IV):OH :=
 Ai 3 x9 h350 fun x355 r356=>Ad [(r354,[])] r356 [] (Ak [] false false ih 56 [x355,.fv (.int .i64 1)] h350 fun x357 h358 r359 w360=>Ad [(r354,[])] r359 w360 (Ba EE 3 x3 (.fv (.int .i64 2)) fun x361=>YZ ih h358 x0 x353 x357 x361 r359 w360 r356 r354 x346 x345 x13))
def Zq (r348 w349 r342 w343 r337 w338 r334 r332:AH) (h347:Hp) (x346 x344 x21 x9:IV) (ih:Aa) (x3 x0 x345 x13:IV):OH :=
 Ad [(r342,w343),(r337,w338),(r334,[]),(r332,[])] r348 w349 (Al 3 x346 x344 h347 fun h350 r351 w352=>Ad [] r351 w352 (Ai 3 x21 h350 fun x353 r354=>Ad [] r354 [] (ZK h350 x9 r354 ih x3 x0 x353 x346 x345 x13)))
def Zo (ih:Aa) (h336:Hp) (x0 x331 x335 x339:IV) (r337 w338 r334 r332:AH) (x21 x9 x3 x13:IV):OH :=
 Ak [] false false ih 33 [x0,x331,x335,x339] h336 fun x340 h341 r342 w343=>Ad [] r342 w343 (AN 0 x340 fun x344=>AN 1 x340 fun x345=>AK 61885450 (.row [.fv (.int .i64 0),.fv (.int .i64 0),.nils] false) (.ptr (.own 61885450) 0) h341 fun x346 h347 r348 w349=>Zq r348 w349 r342 w343 r337 w338 r334 r332 h347 x346 x344 x21 x9 ih x3 x0 x345 x13)
def WI (h32:Hp) (x9:IV) (r332:AH) (ih:Aa) (x3 x0 x331 x21 x13:IV):OH :=
 Ai 3 x9 h32 fun x333 r334=>Ad [(r332,[])] r334 [] (Ak [] false false ih 56 [x333,.fv (.int .i64 0)] h32 fun x335 h336 r337 w338=>Ad [(r332,[])] r337 w338 (Ba EE 3 x3 (.fv (.int .i64 2)) fun x339=>Zo ih h336 x0 x331 x335 x339 r337 w338 r334 r332 x21 x9 x3 x13))
def W7 (h447:Hp) (x13 x446 x430:IV):OH :=
 Al 3 x13 x446 h447 fun h450 _ _=>AE true 3 x13 h450 fun x453=>An [x453,x430] h450
def Abe (r436 w437:AH) (h435:Hp) (x5 x431:IV) (ih:Aa) (x13 x430:IV):OH :=
 Ad [] r436 w437 (Ai 3 x5 h435 fun x438 _=>Ai 3 x431 h435 fun x440 _=>Aw (Af EE 28 2 [(0,x438),(1,x440)]) 61890562 h435 fun x442 h443 _ _=>Ak [] false false ih 24 [.fv (.int .i64 29),x442] h443 fun x446 h447 _ _=>W7 h447 x13 x446 x430)
def VD (x425:IV) (h426:Hp) (r427 w428 r422 w423 r419 r416 w417 r413 r410 w411 r407:AH) (x5:IV) (ih:Aa) (x13:IV):OH :=
 AN 0 x425 fun x429=>AN 1 x425 fun x430=>AK 61889549 (.row [.fv (.int .i64 0),.fv (.int .i64 0),.nils] false) (.ptr (.own 61889549) 0) h426 fun x431 h432 r433 w434=>Ad [(r427,w428),(r422,w423),(r419,[]),(r416,w417),(r413,[]),(r410,w411),(r407,[])] r433 w434 (Al 3 x431 x429 h432 fun h435 r436 w437=>Abe r436 w437 h435 x5 x431 ih x13 x430)
def AaV (ih:Aa) (h415:Hp) (x418 x3 x408 x414:IV) (r419 r416 w417 r413 r410 w411 r407:AH) (x5 x13:IV):OH :=
 Ak [] false false ih 56 [x418,.fv (.int .i64 0)] h415 fun x420 h421 r422 w423=>Ad [] r422 w423 (Ba EE 3 x3 (.fv (.int .i64 2)) fun x424=>Ak [] false false ih 33 [x408,x414,x420,x424] h421 fun x425 h426 r427 w428=>Ad [] r427 w428 (VD x425 h426 r427 w428 r422 w423 r419 r416 w417 r413 r410 w411 r407 x5 ih x13))
def ZY (r413 r410 w411 r407:AH) (ih:Aa) (h409:Hp) (x412 x9 x3 x408 x5 x13:IV):OH :=
 Ad [(r410,w411),(r407,[])] r413 [] (Ak [] false false ih 45 [x412,.fv (.int .i64 1),.fv (.int .i64 0)] h409 fun x414 h415 r416 w417=>Ad [] r416 w417 (Ai 3 x9 h415 fun x418 r419=>Ad [(r416,w417),(r413,[]),(r410,w411),(r407,[])] r419 [] (AaV ih h415 x418 x3 x408 x414 r419 r416 w417 r413 r410 w411 r407 x5 x13)))
def Wt (h32:Hp) (x5:IV) (ih:Aa) (x0 x9 x3 x13:IV):OH :=
 Ai 3 x5 h32 fun x406 r407=>Ad [] r407 [] (Ak [] false false ih 60 [x0,.fv (.int .i64 0),x406] h32 fun x408 h409 r410 w411=>Ad [] r410 w411 (Ai 3 x5 h409 fun x412 r413=>ZY r413 r410 w411 r407 ih h409 x412 x9 x3 x408 x5 x13))
def Zh (h481:Hp) (x484:IV) (ih:Aa) (x13 x476:IV):OH :=
 Aw (Af EE 28 1 [(0,x484)]) 61892609 h481 fun x486 h487 _ _=>Ak [] false false ih 24 [.fv (.int .i64 30),x486] h487 fun x490 h491 _ _=>Al 3 x13 x490 h491 fun h494 _ _=>AE true 3 x13 h494 fun x497=>An [x497,x476] h494
def ZH (h472:Hp) (r473 w474 r468 w469 r465 r462 w463 r458 w459 r455:AH) (x475:IV) (ih:Aa) (x13 x476:IV):OH :=
 AK 61891596 (.row [.fv (.int .i64 0),.fv (.int .i64 0),.nils] false) (.ptr (.own 61891596) 0) h472 fun x477 h478 r479 w480=>Ad [(r473,w474),(r468,w469),(r465,[]),(r462,w463),(r458,w459),(r455,[])] r479 w480 (Al 3 x477 x475 h478 fun h481 r482 w483=>Ad [] r482 w483 (Ai 3 x477 h481 fun x484 _=>Zh h481 x484 ih x13 x476))
def Aa0 (x3:IV) (ih:Aa) (h467:Hp) (x0 x460 x466:IV) (r468 w469 r465 r462 w463 r458 w459 r455:AH) (x13:IV):OH :=
 Ba EE 3 x3 (.fv (.int .i64 1)) fun x470=>Ak [] false false ih 39 [x0,x460,x466,x470] h467 fun x471 h472 r473 w474=>Ad [] r473 w474 (AN 0 x471 fun x475=>AN 1 x471 fun x476=>ZH h472 r473 w474 r468 w469 r465 r462 w463 r458 w459 r455 x475 ih x13 x476)
def VL (r462 w463:AH) (h461:Hp) (x9:IV) (r458 w459 r455:AH) (ih:Aa) (x3 x0 x460 x13:IV):OH :=
 Ad [] r462 w463 (Ai 3 x9 h461 fun x464 r465=>Ad [(r462,w463),(r458,w459),(r455,[])] r465 [] (Ak [] false false ih 56 [x464,.fv (.int .i64 0)] h461 fun x466 h467 r468 w469=>Ad [] r468 w469 (Aa0 x3 ih h467 x0 x460 x466 r468 w469 r465 r462 w463 r458 w459 r455 x13)))
def Zp (h32:Hp) (x5:IV) (ih:Aa) (x9 x3 x0 x13:IV):OH :=
 Ai 3 x5 h32 fun x454 r455=>Ad [] r455 [] (Aw (Af EE 28 1 [(0,x454)]) 61891586 h32 fun x456 h457 r458 w459=>Ad [] r458 w459 (Ak [] false false ih 24 [.fv (.int .i64 18),x456] h457 fun x460 h461 r462 w463=>VL r462 w463 h461 x9 r458 w459 r455 ih x3 x0 x460 x13))
def Wb (x31:IV) (h32:Hp) (x5 x9:IV) (ih:Aa) (x3 x0 x21 x13:IV):OH :=
 AZ EE 3 x31 (.fv (.int .i64 3)) fun x330=>Aj x330 (Ai 3 x5 h32 fun x331 r332=>Ad [] r332 [] (WI h32 x9 r332 ih x3 x0 x331 x21 x13)) (AZ EE 3 x31 (.fv (.int .i64 4)) fun x405=>Aj x405 (Wt h32 x5 ih x0 x9 x3 x13) (Zp h32 x5 ih x9 x3 x0 x13))
def ZW (x31:IV) (h32:Hp) (x9:IV) (ih:Aa) (x3 x0 x5 x13 x21:IV):OH :=
 AZ EE 3 x31 (.fv (.int .i64 1)) fun x132=>Aj x132 (Ai 3 x9 h32 fun x133 _=>Ak [] false false ih 56 [x133,.fv (.int .i64 0)] h32 fun x135 h136 _ _=>XC ih h136 x135 x9 x3 x0 x5 x13) (AZ EE 3 x31 (.fv (.int .i64 2)) fun x226=>Aj x226 (Abl h32 x9 ih x3 x0 x5 x13) (Wb x31 h32 x5 x9 ih x3 x0 x21 x13))
def W4 (x9:IV) (h25:Hp) (ih:Aa) (x21 x3 x0 x5 x13:IV):OH :=
 Ac 1 x9 fun x28=>Ae x28 h25 fun x29 _=>Ak [] false false ih 55 [x29,.fv (.int .i64 7)] h25 fun x31 h32 _ _=>AZ EE 3 x31 (.fv (.int .i64 0)) fun x35=>Aj x35 (Y9 h32 x21 x9 ih x3 x0 x5 x13) (ZW x31 h32 x9 ih x3 x0 x5 x13 x21)
def S59 (ih:Aa) (n:Nat) (x0 x1 x2 x3:IV) (h4:Hp):OH :=
 Bg 61865984 x1 h4 fun x5 h6 _ _=>Bg 61865985 x2 h6 fun x9 h10 _ _=>AK 61865986 (.row [.fv (.int .i64 0),.fv (.int .i64 0),.nils] false) (.ptr (.own 61865986) 0) h10 fun x13 h14 _ _=>Ak [] false false ih 24 [.fv (.int .i64 15),.nils] h14 fun x17 h18 _ _=>AK 61867009 (.row [.fv (.int .i64 0),.fv (.int .i64 0),.nils] false) (.ptr (.own 61867009) 0) h18 fun x21 h22 _ _=>Al 3 x21 x17 h22 fun h25 _ _=>W4 x9 h25 ih x21 x3 x0 x5 x13
theorem Ajh (ih:Aa) (n:Nat) (x0 x1 x2 x3:IV) (h4:Hp):AD EE ih ft.get n 59 [x0,x1,x2,x3] h4=S59 ih n x0 x1 x2 x3 h4:=by kernel_rfl
def Up (r25 w26:AH) (h24:Hp) (x23:IV):OH :=
 Ad [] r25 w26 (An [x23] h24)
def Vd (r17 r14 w15 r10 w11:AH) (x1 x16:IV) (h13:Hp) (x12:IV):OH :=
 Ad [(r14,w15),(r10,w11)] r17 [] (Bw [.fv (.int .i64 0),.fv (.int .i64 0),.fv (.int .i64 0),.nils] [(0,1,x1),(1,3,x16)] fun x18=>Aw (Af EE 27 1 [(0,x18)]) 62915590 h13 fun x19 h20 r21 w22=>Ad [(r14,w15),(r10,w11)] r21 w22 (Aw (AS EE 62915591 false .append [27,27] [x12,x19]) 62915591 h20 fun x23 h24 r25 w26=>Up r25 w26 h24 x23))
def S60 (ih:Aa) (n:Nat) (x0 x1 x2:IV) (h3:Hp):OH :=
 Bg 62914560 x2 h3 fun x4 h5 _ _=>Aw (Af EE 27 0 []) 62915584 h5 fun x8 h9 r10 w11=>Ad [] r10 w11 (Aw (AS EE 62915586 false .append [27,27] [x8,x0]) 62915586 h9 fun x12 h13 r14 w15=>Ad [] r14 w15 (Ai 3 x4 h13 fun x16 r17=>Vd r17 r14 w15 r10 w11 x1 x16 h13 x12))
theorem AjY (ih:Aa) (n:Nat) (x0 x1 x2:IV) (h3:Hp):AD EE ih ft.get n 60 [x0,x1,x2] h3=S60 ih n x0 x1 x2 h3:=by kernel_rfl
def Ez (h20:Hp) (x5:IV):OH :=
 Bw [.fv (.int .i64 0),.fv (.int .i64 0),.nils] [] fun x26=>Al 3 x5 x26 h20 fun h27 _ _=>AE true 3 x5 h27 fun x30=>An [x30] h27
def Eh (ih:Aa) (h20:Hp) (x41 x5:IV):OH :=
 Ak [] false false ih 25 [x41] h20 fun x42 h43 _ _=>Al 3 x5 x42 h43 fun h46 _ _=>AE true 3 x5 h46 fun x49=>An [x49] h46
def En (x2 x1:IV) (h20:Hp) (ih:Aa) (x5:IV):OH :=
 Ba EE 3 x2 (.fv (.int .i64 1)) fun x36=>AC x1 fun x37=>Ac 1 x37 fun x38=>Ae x38 h20 fun x39 _=>Ba EE 3 x36 x39 fun x41=>Eh ih h20 x41 x5
def D3 (h4 h126:Hp) (x98 x99 x100 x101 x102 x103 x129:IV) (q66:List IV→Hp→OH):OH :=
 Bs (h4.own.map (·.1)) [63982597,63984651] [x98,x99,x100,x101,x102,x103,x129] h126 fun h130=>q66 [x98,x99,x100,x101,x102,x103,x129] h130
def D4 (r123 w124:AH) (x103:IV) (h122:Hp) (x121 x104:IV) (h4:Hp) (x98 x99 x100 x101 x102:IV) (q66:List IV→Hp→OH):OH :=
 Ad [] r123 w124 (Ac 2 x103 fun x125=>Bj x125 x121 h122 fun h126 r127 w128=>Ad [] r127 w128 (Bz EE 3 x104 (.fv (.int .i64 1)) fun x129=>D3 h4 h126 x98 x99 x100 x101 x102 x103 x129 q66))
def Ek (ih:Aa) (h107:Hp) (x98 x106 x111 x112:IV) (r110:AH) (x109 x103 x104:IV) (h4:Hp) (x99 x100 x101 x102:IV) (q66:List IV→Hp→OH):OH :=
 Ak [true,false,false,false] false false ih 61 [x98,x106,x111,x112] h107 fun x113 h114 r115 w116=>Ad [(r110,[])] r115 w116 (Aw (Af EE 28 1 [(0,x113)]) 63984650 h114 fun x117 h118 r119 w120=>Ad [(r110,[])] r119 w120 (Aw (AS EE 63984651 false .append [28,28] [x109,x117]) 63984651 h118 fun x121 h122 r123 w124=>D4 r123 w124 x103 h122 x121 x104 h4 x98 x99 x100 x101 x102 q66))
def GK (x103:IV) (h107:Hp) (x100 x105 x101:IV) (ih:Aa) (x98 x106 x104:IV) (h4:Hp) (x99 x102:IV) (q66:List IV→Hp→OH):OH :=
 Ac 2 x103 fun x108=>Ae x108 h107 fun x109 r110=>Ad [] r110 [] (Bz EE 3 x100 x105 fun x111=>Bz EE 3 x101 (.fv (.int .i64 1)) fun x112=>Ek ih h107 x98 x106 x111 x112 r110 x109 x103 x104 h4 x99 x100 x101 x102 q66)
def EB (h4 h162:Hp) (x139 x140 x141 x142 x143 x144 x145 x146 x147 x161 x165:IV) (q136:List IV→Hp→OH):OH :=
 Bs (h4.own.map (·.1)) [63982597] [x139,x140,x141,x142,x143,x144,x145,x146,x147,x161,x165] h162 fun h166=>q136 [x139,x140,x141,x142,x143,x144,x145,x146,x147,x161,x165] h166
def Eo (x151:IV) (h138:Hp) (ih:Aa) (x148 x149:IV) (h4:Hp) (x139 x140 x141 x142 x143 x144 x145 x146 x147:IV) (q136:List IV→Hp→OH):OH :=
 Bw [.fv (.int .i64 0),.fv (.int .i64 0),.nils,.nils,.fv (.int .i64 0),.fv (.int .i64 0),.nils] [(0,1,.fv (.int .i64 1)),(1,1,x151)] fun x152=>fzS (Jy true 63982597 x152) 63982597 x152 h138 fun x153 h154 _ _=>Aw (Af EE 114 1 [(0,x153)]) 63982598 h154 fun x157 h158 _ _=>Ak [] false false ih 87 [x148,x157] h158 fun x161 h162 _ _=>Bz EE 3 x149 (.fv (.int .i64 1)) fun x165=>EB h4 h162 x139 x140 x141 x142 x143 x144 x145 x146 x147 x161 x165 q136
def EA (x167:IV) (h138:Hp) (ih:Aa) (x139 x148:IV) (j9_97:IV→IV→IV→IV→IV→IV→IV→IV→IV→Hp→OH) (x140 x141 x142 x143 x144 x145 x146:IV):OH :=
 Ac 4 x167 fun x168=>Ai 3 x168 h138 fun x169 _=>Ak [true,false,false] false false ih 62 [x139,x169,x148] h138 fun x171 h172 _ _=>j9_97 x139 x140 x141 x142 x143 x144 x145 x146 x171 h172
def Ec (l184:List IV) (x146 x141:IV) (h138:Hp) (ih:Aa) (x148:IV) (h4:Hp) (x139 x140 x142 x143 x144 x145 x147:IV) (q136:List IV→Hp→OH) (j9_97:IV→IV→IV→IV→IV→IV→IV→IV→IV→Hp→OH):OH :=
 AA l184 fun x149 _=>G6 EE 3 x149 x146 fun x150=>Aj x150 (Bz EE 3 x141 x149 fun x151=>Eo x151 h138 ih x148 x149 h4 x139 x140 x141 x142 x143 x144 x145 x146 x147 q136) (AC x147 fun x167=>EA x167 h138 ih x139 x148 j9_97 x140 x141 x142 x143 x144 x145 x146)
def D5 (l179:List IV) (x141:IV) (h138:Hp) (ih:Aa) (h4:Hp) (x139 x140 x142 x143:IV) (q136:List IV→Hp→OH) (j9_97:IV→IV→IV→IV→IV→IV→IV→IV→IV→Hp→OH):OH :=
 AA l179 fun x144 l180=>AA l180 fun x145 l181=>AA l181 fun x146 l182=>AA l182 fun x147 l183=>AA l183 fun x148 l184=>Ec l184 x146 x141 h138 ih x148 h4 x139 x140 x142 x143 x144 x145 x147 q136 j9_97
def GW (l137:List IV) (h138:Hp) (ih:Aa) (h4:Hp) (q136:List IV→Hp→OH) (j9_97:IV→IV→IV→IV→IV→IV→IV→IV→IV→Hp→OH):OH :=
 AA l137 fun x139 l175=>AA l175 fun x140 l176=>AA l176 fun x141 l177=>AA l177 fun x142 l178=>AA l178 fun x143 l179=>D5 l179 x141 h138 ih h4 x139 x140 x142 x143 q136 j9_97
def Ej (h87:Hp) (x133:IV) (h4:Hp) (x69 x70 x71 x72 x73 x74 x75 x86 x95:IV) (n:Nat) (ih:Aa) (j9_97:IV→IV→IV→IV→IV→IV→IV→IV→IV→Hp→OH):OH :=
 Ae x133 h87 fun x134 _=>Bs (h4.own.map (·.1)) [63982597] [x69,x70,x71,x72,x73,x74,x75,x86,x95,x134,.fv (.int .i64 0)] h87 fun h186=>BD n (fun q136 l137 h138=>GW l137 h138 ih h4 q136 j9_97) [x69,x70,x71,x72,x73,x74,x75,x86,x95,x134,.fv (.int .i64 0)] h186
def Et (x131 x95:IV) (h87 h4:Hp) (x69 x70 x71 x72 x73 x74 x75 x86:IV) (n:Nat) (ih:Aa) (j9_97:IV→IV→IV→IV→IV→IV→IV→IV→IV→Hp→OH):OH :=
 Aj x131 (AC x95 fun x132=>Ac 3 x132 fun x133=>Ej h87 x133 h4 x69 x70 x71 x72 x73 x74 x75 x86 x95 n ih j9_97) (j9_97 x69 x70 x71 x72 x73 x74 x75 x86 x95 h87)
def D6 (h87:Hp) (x91 x75:IV) (ih:Aa) (h4:Hp) (q66:List IV→Hp→OH) (x86 x69 x70 x71 x72 x73 x74:IV) (n:Nat):OH :=
 Ae x91 h87 fun x92 _=>Bf 1 x92 x75 fun x94=>Ae x94 h87 fun x95 _=>(fun (j9_97:IV→IV→IV→IV→IV→IV→IV→IV→IV→Hp→OH)=>Kx EE 3 x86 (.fv (.int .i64 0)) fun x131=>Et x131 x95 h87 h4 x69 x70 x71 x72 x73 x74 x75 x86 n ih j9_97) fun x98 x99 x100 x101 x102 x103 x104 x105 x106 h107=>GK x103 h107 x100 x105 x101 ih x98 x106 x104 h4 x99 x102 q66
def Eu (x82:IV) (h68:Hp) (ih:Aa) (x75 x70:IV) (h4:Hp) (q66:List IV→Hp→OH) (x69 x71 x72 x73 x74:IV) (n:Nat):OH :=
 Ac 0 x82 fun x83=>Ae x83 h68 fun x84 _=>Ak [] false false ih 54 [x84,x75] h68 fun x86 h87 _ _=>AC x70 fun x90=>Ac 2 x90 fun x91=>D6 h87 x91 x75 ih h4 q66 x86 x69 x70 x71 x72 x73 x74 n
def Er (h68:Hp) (x73 x187:IV):OH :=
 Al 3 x73 x187 h68 fun h189 _ _=>AE true 3 x73 h189 fun x192=>An [x192] h189
def Ew (x78 x75 x70:IV) (h68:Hp) (ih:Aa) (h4:Hp) (q66:List IV→Hp→OH) (x69 x71 x72 x73 x74:IV) (n:Nat):OH :=
 Ca x78 fun x80=>G6 EE 3 x75 x80 fun x81=>Aj x81 (AC x70 fun x82=>Eu x82 h68 ih x75 x70 h4 q66 x69 x71 x72 x73 x74 n) (Ai 3 x74 h68 fun x187 _=>Er h68 x73 x187)
def D9 (l197:List IV) (x70:IV) (h68:Hp) (ih:Aa) (h4:Hp) (q66:List IV→Hp→OH) (x69 x71 x72 x73:IV) (n:Nat):OH :=
 AA l197 fun x74 l198=>AA l198 fun x75 _=>AC x70 fun x76=>Ac 2 x76 fun x77=>Ae x77 h68 fun x78 _=>Ew x78 x75 x70 h68 ih h4 q66 x69 x71 x72 x73 x74 n
def ET (l67:List IV) (h68:Hp) (ih:Aa) (h4:Hp) (q66:List IV→Hp→OH) (n:Nat):OH :=
 AA l67 fun x69 l193=>AA l193 fun x70 l194=>AA l194 fun x71 l195=>AA l195 fun x72 l196=>AA l196 fun x73 l197=>D9 l197 x70 h68 ih h4 q66 x69 x71 x72 x73 n
def Es (r61 w62 r57 r53:AH) (h60:Hp) (x59 x58:IV) (h4:Hp) (x0 x1 x2 x3 x5:IV) (n:Nat) (ih:Aa):OH :=
 Ad [(r57,[]),(r53,[])] r61 w62 (Al 3 x59 x58 h60 fun h63 r64 w65=>Ad [] r64 w65 (Bs (h4.own.map (·.1)) [63982597,63984651] [x0,x1,x2,x3,x5,x59,.fv (.int .i64 0)] h63 fun h200=>BD n (fun q66 l67 h68=>ET l67 h68 ih h4 q66 n) [x0,x1,x2,x3,x5,x59,.fv (.int .i64 0)] h200))
def Em (x54:IV) (h20:Hp) (r53:AH) (x52:IV) (h4:Hp) (x0 x1 x2 x3 x5:IV) (n:Nat) (ih:Aa):OH :=
 Ac 1 x54 fun x55=>Ae x55 h20 fun x56 r57=>Ad [(r53,[])] r57 [] (Bw [.fv (.int .i64 0),.fv (.int .i64 0),.nils] [(0,1,x52),(1,1,x56)] fun x58=>AK 63971337 (.row [.fv (.int .i64 0),.fv (.int .i64 0),.nils] false) (.ptr (.own 63971337) 0) h20 fun x59 h60 r61 w62=>Es r61 w62 r57 r53 h60 x59 x58 h4 x0 x1 x2 x3 x5 n ih)
def Eg (x1:IV) (h20 h4:Hp) (x0 x2 x3 x5:IV) (n:Nat) (ih:Aa):OH :=
 AC x1 fun x50=>Ac 0 x50 fun x51=>Ae x51 h20 fun x52 r53=>Ad [] r53 [] (AC x1 fun x54=>Em x54 h20 r53 x52 h4 x0 x1 x2 x3 x5 n ih)
def Ei (x1:IV) (h20:Hp) (x2:IV) (ih:Aa) (x5:IV) (h4:Hp) (x0 x3:IV) (n:Nat):OH :=
 AC x1 fun x31=>Ac 0 x31 fun x32=>Ae x32 h20 fun x33 _=>AZ EE 3 x33 (.fv (.int .i64 1)) fun x35=>Aj x35 (En x2 x1 h20 ih x5) (Eg x1 h20 h4 x0 x2 x3 x5 n ih)
def Ef (x0:IV) (h20:Hp) (x5 x1 x2:IV) (ih:Aa) (h4:Hp) (x3:IV) (n:Nat):OH :=
 AC x0 fun x21=>Ac 2 x21 fun x22=>Ae x22 h20 fun x23 _=>Ig EE 3 x23 (.fv (.int .i64 0)) fun x25=>Aj x25 (Ez h20 x5) (Ei x1 h20 x2 ih x5 h4 x0 x3 n)
def Ep (x259:IV) (h255:Hp) (j0_19:Hp→OH):OH :=
 Ac 2 x259 fun x260=>Bj x260 (.fv (.int .i64 5)) h255 fun h261 _ _=>j0_19 h261
def Ed (h249:Hp) (x205 x237 x248 x0:IV) (j0_19:Hp→OH):OH :=
 Ab x205 true h249 (fun k252=>AF x237 (.fv (.bool true)) x248 fun x253=>k252 x253 h249 [] []) fun x254 h255 _ _=>AF x205 x254 (.fv (.bool false)) fun x258=>Aj x258 (AC x0 fun x259=>Ep x259 h255 j0_19) (j0_19 h255)
def Eb (h220:Hp) (x205 x219 x3 x0:IV) (j0_19:Hp→OH):OH :=
 Ab x205 true h220 (fun k223=>Ae x219 h220 fun x224 r225=>k223 x224 h220 r225 []) fun x226 h227 _ _=>Ab x205 true h227 (fun k230=>Kx EE 3 x226 (.fv (.int .i64 3000)) fun x231=>k230 x231 h227 [] []) fun x232 h233 _ _=>Ab x205 true h233 (fun k236=>k236 x232 h233 [] []) fun x237 h238 _ _=>Ab x237 false h238 (fun k241=>k241 x3 h238 [] []) fun x242 h243 _ _=>Ab x237 false h243 (fun k246=>Kx EE 3 x242 (.fv (.int .i64 120)) fun x247=>k246 x247 h243 [] []) fun x248 h249 _ _=>Ed h249 x205 x237 x248 x0 j0_19
def D7 (h16:Hp) (x202 x0 x3:IV) (j0_19:Hp→OH):OH :=
 Ae x202 h16 fun x203 _=>AZ EE 3 x203 (.fv (.int .i64 0)) fun x205=>Ab x205 true h16 (fun k206=>k206 x0 h16 [] []) fun x207 h208 _ _=>Ab x205 true h208 (fun k211=>AC x207 fun x212=>k211 x212 h208 [] []) fun x213 h214 _ _=>Ab x205 true h214 (fun k217=>Ac 1 x213 fun x218=>k217 x218 h214 [] []) fun x219 h220 _ _=>Eb h220 x205 x219 x3 x0 j0_19
def Ea (x14:IV) (h6:Hp) (x13 x0 x5 x1 x2:IV) (ih:Aa) (h4:Hp) (x3:IV) (n:Nat):OH :=
 Ac 1 x14 fun x15=>Bj x15 x13 h6 fun h16 _ _=>(fun (j0_19:Hp→OH)=>AC x0 fun x201=>Ac 2 x201 fun x202=>D7 h16 x202 x0 x3 j0_19) fun h20=>Ef x0 h20 x5 x1 x2 ih h4 x3 n
def S61 (ih:Aa) (n:Nat) (x0 x1 x2 x3:IV) (h4:Hp):OH :=
 AK 63963136 (.row [.fv (.int .i64 0),.fv (.int .i64 0),.nils] false) (.ptr (.own 63963136) 0) h4 fun x5 h6 _ _=>AC x0 fun x9=>Ac 1 x9 fun x10=>Ae x10 h6 fun x11 _=>Bz EE 3 x11 (.fv (.int .i64 1)) fun x13=>AC x0 fun x14=>Ea x14 h6 x13 x0 x5 x1 x2 ih h4 x3 n
theorem Akt (ih:Aa) (n:Nat) (x0 x1 x2 x3:IV) (h4:Hp):AD EE ih ft.get n 61 [x0,x1,x2,x3] h4=S61 ih n x0 x1 x2 x3 h4:=by kernel_rfl
def H3 (h5:Hp):OH :=
 Bw [.fv (.int .i64 0),.fv (.int .i64 0),.nils,.nils,.fv (.int .i64 0),.fv (.int .i64 0),.nils] [(0,1,.fv (.int .i64 11))] fun x13=>Bg 65013761 x13 h5 fun x14 h15 _ _=>An [x14] h15
def Iv (h5:Hp) (x33:IV):OH :=
 Ae x33 h5 fun x34 _=>An [x34] h5
def HS (x27 x4:IV) (h5:Hp) (x2:IV):OH :=
 Ba EE 3 x27 (.fv (.int .i64 1)) fun x28=>Ac 1 x4 fun x29=>Ae x29 h5 fun x30 _=>Ba EE 3 x28 x30 fun x32=>Bf 1 x2 x32 fun x33=>Iv h5 x33
def HF (h5:Hp) (x42:IV):OH :=
 Bg 65017863 x42 h5 fun x43 h44 _ _=>An [x43] h44
def HL (x36 x4:IV) (h5:Hp):OH :=
 Ba EE 3 x36 (.fv (.int .i64 1)) fun x37=>Ac 1 x4 fun x38=>Ae x38 h5 fun x39 _=>Ba EE 3 x37 x39 fun x41=>Bw [.fv (.int .i64 0),.fv (.int .i64 0),.nils,.nils,.fv (.int .i64 0),.fv (.int .i64 0),.nils] [(0,1,.fv (.int .i64 1)),(1,1,x41)] fun x42=>HF h5 x42
def IA (h5:Hp) (x22 x2 x4:IV):OH :=
 Ae x22 h5 fun x23 _=>Ca x2 fun x25=>G6 EE 3 x23 x25 fun x26=>Aj x26 (Ca x2 fun x27=>HS x27 x4 h5 x2) (Ca x2 fun x36=>HL x36 x4 h5)
def IE (x65:IV) (h3 h72:Hp) (x61 x62 x63 x64:IV) (q58:List IV→Hp→OH):OH :=
 Bz EE 3 x65 (.fv (.int .i64 1)) fun x73=>Bs (h3.own.map (·.1)) [65024012,65024014,65025038] [x61,x62,x63,x64,x73] h72 fun h74=>q58 [x61,x62,x63,x64,x73] h74
def H7 (x64:IV) (h103:Hp) (x102:IV) (j0_71:Hp→OH):OH :=
 AC x64 fun x106=>Ac 2 x106 fun x107=>Bj x107 x102 h103 fun h108 r109 w110=>Ad [] r109 w110 (j0_71 h108)
def HB (r96 w97 r86:AH) (h95:Hp) (x94 x85 x64:IV) (j0_71:Hp→OH):OH :=
 Ad [(r86,[])] r96 w97 (Aw (Af EE 114 1 [(0,x94)]) 65024013 h95 fun x98 h99 r100 w101=>Ad [(r86,[])] r100 w101 (Aw (AS EE 65024014 false .append [114,114] [x85,x98]) 65024014 h99 fun x102 h103 r104 w105=>Ad [] r104 w105 (H7 x64 h103 x102 j0_71)))
def H5 (x88 x65:IV) (h79:Hp) (r86:AH) (x62 x85 x64:IV) (j0_71:Hp→OH):OH :=
 Bf 3 x88 x65 fun x90=>Ai 3 x90 h79 fun x91 r92=>Ad [(r86,[])] r92 [] (Bw [.fv (.int .i64 0),.fv (.int .i64 0),.nils,.nils,.fv (.int .i64 0),.fv (.int .i64 0),.nils] [(3,1,x62),(4,3,x91)] fun x93=>Bg 65024012 x93 h79 fun x94 h95 r96 w97=>HB r96 w97 r86 h95 x94 x85 x64 j0_71)
def Ib (h79:Hp) (x84 x63 x65 x62 x64:IV) (j0_71:Hp→OH):OH :=
 Ae x84 h79 fun x85 r86=>Ad [] r86 [] (Ac 2 x63 fun x87=>Ae x87 h79 fun x88 r89=>Ad [(r86,[])] r89 [] (H5 x88 x65 h79 r86 x62 x85 x64 j0_71))
def It (x133:IV) (h130:Hp) (x129:IV) (j0_71:Hp→OH):OH :=
 Ac 2 x133 fun x134=>Bj x134 x129 h130 fun h135 r136 w137=>Ad [] r136 w137 (j0_71 h135)
def H1 (h122:Hp) (x121:IV) (r114:AH) (x113 x64:IV) (j0_71:Hp→OH):OH :=
 Aw (Af EE 114 1 [(0,x121)]) 65025037 h122 fun x125 h126 r127 w128=>Ad [(r114,[])] r127 w128 (Aw (AS EE 65025038 false .append [114,114] [x113,x125]) 65025038 h126 fun x129 h130 r131 w132=>Ad [] r131 w132 (AC x64 fun x133=>It x133 h130 x129 j0_71))
def HU (x116 x65:IV) (h79:Hp) (r114:AH) (ih:Aa) (x61 x62 x113 x64:IV) (j0_71:Hp→OH):OH :=
 Bf 3 x116 x65 fun x118=>Ai 3 x118 h79 fun x119 r120=>Ad [(r114,[])] r120 [] (Ak [true,false,false] false false ih 62 [x61,x119,x62] h79 fun x121 h122 r123 w124=>Ad [(r114,[])] r123 w124 (H1 h122 x121 r114 x113 x64 j0_71))
def HZ (h79:Hp) (x112 x63 x65:IV) (ih:Aa) (x61 x62 x64:IV) (j0_71:Hp→OH):OH :=
 Ae x112 h79 fun x113 r114=>Ad [] r114 [] (Ac 2 x63 fun x115=>Ae x115 h79 fun x116 r117=>Ad [(r114,[])] r117 [] (HU x116 x65 h79 r114 ih x61 x62 x113 x64 j0_71))
def HY (x82 x64:IV) (h79:Hp) (x63 x65 x62:IV) (j0_71:Hp→OH) (ih:Aa) (x61:IV):OH :=
 Aj x82 (AC x64 fun x83=>Ac 2 x83 fun x84=>Ib h79 x84 x63 x65 x62 x64 j0_71) (AC x64 fun x111=>Ac 2 x111 fun x112=>HZ h79 x112 x63 x65 ih x61 x62 x64 j0_71)
def Ii (x65:IV) (h3:Hp) (x61 x62 x63 x64:IV) (q58:List IV→Hp→OH) (h60:Hp) (ih:Aa):OH :=
 (fun (j0_71:Hp→OH)=>Ac 0 x63 fun x75=>Ae x75 h60 fun x76 _=>Ak [] false false ih 54 [x76,x65] h60 fun x78 h79 _ _=>Kx EE 3 x78 (.fv (.int .i64 0)) fun x82=>HY x82 x64 h79 x63 x65 x62 j0_71 ih x61) fun h72=>IE x65 h3 h72 x61 x62 x63 x64 q58
def H9 (ih:Aa) (h60:Hp) (x61 x64:IV):OH :=
 Ak [true,false] false false ih 88 [x61,x64] h60 fun x138 h139 _ _=>An [x138] h139
def H6 (x63:IV) (h60:Hp) (x65:IV) (h3:Hp) (x61 x62 x64:IV) (q58:List IV→Hp→OH) (ih:Aa):OH :=
 Ac 2 x63 fun x66=>Ae x66 h60 fun x67 _=>Ca x67 fun x69=>G6 EE 3 x65 x69 fun x70=>Aj x70 (Ii x65 h3 x61 x62 x63 x64 q58 h60 ih) (H9 ih h60 x61 x64)
def Wn (l59:List IV) (h60 h3:Hp) (q58:List IV→Hp→OH) (ih:Aa):OH :=
 AA l59 fun x61 l142=>AA l142 fun x62 l143=>AA l143 fun x63 l144=>AA l144 fun x64 l145=>AA l145 fun x65 _=>H6 x63 h60 x65 h3 x61 x62 x64 q58 ih
def Iq (h3 h55:Hp) (x0 x2 x4 x54:IV) (n:Nat) (ih:Aa):OH :=
 Bs (h3.own.map (·.1)) [65024012,65024014,65025038] [x0,x2,x4,x54,.fv (.int .i64 0)] h55 fun h147=>BD n (fun q58 l59 h60=>Wn l59 h60 h3 q58 ih) [x0,x2,x4,x54,.fv (.int .i64 0)] h147
def H0 (h5:Hp) (x47 x4:IV) (h3:Hp) (x0 x2:IV) (n:Nat) (ih:Aa):OH :=
 Ae x47 h5 fun x48 _=>Ac 1 x4 fun x50=>Ae x50 h5 fun x51 _=>Bw [.fv (.int .i64 0),.fv (.int .i64 0),.nils,.nils,.fv (.int .i64 0),.fv (.int .i64 0),.nils] [(0,1,x48),(1,1,x51)] fun x53=>Bg 65018885 x53 h5 fun x54 h55 _ _=>Iq h3 h55 x0 x2 x4 x54 n ih
def HV (x4:IV) (h5:Hp) (x2:IV) (h3:Hp) (x0:IV) (n:Nat) (ih:Aa):OH :=
 Ac 0 x4 fun x18=>Ae x18 h5 fun x19 _=>AZ EE 3 x19 (.fv (.int .i64 1)) fun x21=>Aj x21 (Ac 1 x4 fun x22=>IA h5 x22 x2 x4) (Ac 0 x4 fun x47=>H0 h5 x47 x4 h3 x0 x2 n ih)
def S62 (ih:Aa) (n:Nat) (x0 x1 x2:IV) (h3:Hp):OH :=
 Bg 65011712 x1 h3 fun x4 h5 _ _=>AC x0 fun x8=>Ac 2 x8 fun x9=>Ae x9 h5 fun x10 _=>Ig EE 3 x10 (.fv (.int .i64 0)) fun x12=>Aj x12 (H3 h5) (HV x4 h5 x2 h3 x0 n ih)
theorem AiQ (ih:Aa) (n:Nat) (x0 x1 x2:IV) (h3:Hp):AD EE ih ft.get n 62 [x0,x1,x2] h3=S62 ih n x0 x1 x2 h3:=by kernel_rfl
def JG (ih:Aa) (h59:Hp) (x23 x67 x69 x26:IV) (q20:List IV→Hp→OH) (x24 x25:IV):OH :=
 Ak [true,false,false] false false ih 63 [x23,x67,x69] h59 fun _ h71 _ _=>Bz EE 3 x26 (.fv (.int .i64 1)) fun x74=>q20 [x23,x24,x25,x74] h71
def Jm (x25:IV) (h59:Hp) (x26 x24:IV) (ih:Aa) (x23:IV) (q20:List IV→Hp→OH):OH :=
 Ac 2 x25 fun x63=>Ae x63 h59 fun x64 _=>Bf 3 x64 x26 fun x66=>Ai 3 x66 h59 fun x67 _=>Bz EE 3 x24 (.fv (.int .i64 1)) fun x69=>JG ih h59 x23 x67 x69 x26 q20 x24 x25
def JU (h40:Hp) (x31 x39 x25 x26 x24:IV) (ih:Aa) (x23:IV) (q20:List IV→Hp→OH):OH :=
 Ab x31 true h40 (fun k43=>Ac 1 x39 fun x44=>k43 x44 h40 [] []) fun x45 h46 _ _=>Ab x31 true h46 (fun k49=>Ae x45 h46 fun x50 r51=>k49 x50 h46 r51 []) fun x52 h53 _ _=>Ab x31 true h53 (fun k56=>AZ EE 3 x52 (.fv (.int .i64 0)) fun x57=>k56 x57 h53 [] []) fun x58 h59 _ _=>AF x31 x58 (.fv (.bool false)) fun x62=>Aj x62 (Jm x25 h59 x26 x24 ih x23 q20) (An [] h59)
def Jn (h22:Hp) (x27 x26 x23 x25 x24:IV) (ih:Aa) (q20:List IV→Hp→OH):OH :=
 Ae x27 h22 fun x28 _=>Ca x28 fun x30=>G6 EE 3 x26 x30 fun x31=>Ab x31 true h22 (fun k32=>k32 x23 h22 [] []) fun x33 h34 _ _=>Ab x31 true h34 (fun k37=>AC x33 fun x38=>k37 x38 h34 [] []) fun x39 h40 _ _=>JU h40 x31 x39 x25 x26 x24 ih x23 q20
def JB (l21:List IV) (h22:Hp) (ih:Aa) (q20:List IV→Hp→OH):OH :=
 AA l21 fun x23 l75=>AA l75 fun x24 l76=>AA l76 fun x25 l77=>AA l77 fun x26 _=>Ac 2 x25 fun x27=>Jn h22 x27 x26 x23 x25 x24 ih q20
def Ki (n:Nat) (h19:Hp) (x0 x2 x4:IV) (ih:Aa):OH :=
 BD n (fun q20 l21 h22=>JB l21 h22 ih q20) [x0,x2,x4,.fv (.int .i64 0)] h19
def JL (h92:Hp) (x97:IV) (j0_18:Hp→OH):OH :=
 Bj x97 (.fv (.int .i64 5)) h92 fun h98 _ _=>j0_18 h98
def Jf (x151:IV) (h147:Hp) (j0_18:Hp→OH):OH :=
 Ac 1 x151 fun x152=>Bj x152 (.fv (.int .i64 1)) h147 fun h153 _ _=>j0_18 h153
def JQ (r142 w143:AH) (h141:Hp) (x112 x140 x0:IV) (j0_18:Hp→OH):OH :=
 Ad [] r142 w143 (Ab x112 false h141 (fun k144=>DP (N8 .not x140) fun x145=>k144 x145 h141 [] []) fun x146 h147 _ _=>AF x112 (.fv (.bool true)) x146 fun x150=>Aj x150 (AC x0 fun x151=>Jf x151 h147 j0_18) (j0_18 h147))
def Kv (r124 w125:AH) (h123:Hp) (x112 x4:IV) (ih:Aa) (x122 x0:IV) (j0_18:Hp→OH):OH :=
 Ad [] r124 w125 (Ab x112 false h123 (fun k126=>Ac 1 x4 fun x127=>k126 x127 h123 [] []) fun x128 h129 _ _=>Ab x112 false h129 (fun k132=>Ae x128 h129 fun x133 r134=>k132 x133 h129 r134 []) fun x135 h136 r137 w138=>Ad [(r124,w125)] r137 w138 (Ab x112 false h136 (fun k139=>Ak [] false false ih 89 [x122,x135] h136 k139) fun x140 h141 r142 w143=>JQ r142 w143 h141 x112 x140 x0 j0_18))
def J7 (r110 r106 w107 r103:AH) (x109 x104:IV) (h105:Hp) (x4:IV) (ih:Aa) (x0:IV) (j0_18:Hp→OH):OH :=
 Ad [(r106,w107),(r103,[])] r110 [] (Ca x109 fun x111=>Ig EE 3 x104 x111 fun x112=>Ab x112 false h105 (fun k113=>Ac 0 x4 fun x114=>k113 x114 h105 [] []) fun x115 h116 _ _=>Ab x112 false h116 (fun k119=>Ae x115 h116 fun x120 r121=>k119 x120 h116 r121 []) fun x122 h123 r124 w125=>Kv r124 w125 h123 x112 x4 ih x122 x0 j0_18)
def JY (r103:AH) (ih:Aa) (h92:Hp) (x102 x4 x0:IV) (j0_18:Hp→OH):OH :=
 Ad [] r103 [] (Ak [] false false ih 52 [x102] h92 fun x104 h105 r106 w107=>Ad [] r106 w107 (Ac 2 x4 fun x108=>Ae x108 h105 fun x109 r110=>J7 r110 r106 w107 r103 x109 x104 h105 x4 ih x0 j0_18))
def JV (x95 x0:IV) (h92:Hp) (j0_18:Hp→OH) (x4:IV) (ih:Aa):OH :=
 Aj x95 (AC x0 fun x96=>Ac 1 x96 fun x97=>JL h92 x97 j0_18) (Ac 0 x4 fun x101=>Ae x101 h92 fun x102 r103=>JY r103 ih h92 x102 x4 x0 j0_18)
def Kk (h15:Hp) (x80 x2 x0:IV) (j0_18:Hp→OH) (x4:IV) (ih:Aa):OH :=
 Ae x80 h15 fun x81 _=>Kx EE 3 x81 (.fv (.int .i64 3000)) fun x83=>Ab x83 false h15 (fun k84=>k84 x2 h15 [] []) fun x85 h86 _ _=>Ab x83 false h86 (fun k89=>Kx EE 3 x85 (.fv (.int .i64 120)) fun x90=>k89 x90 h86 [] []) fun x91 h92 _ _=>AF x83 (.fv (.bool true)) x91 fun x95=>JV x95 x0 h92 j0_18 x4 ih
def JC (x13:IV) (h5:Hp) (x12:IV) (n:Nat) (x0 x2 x4:IV) (ih:Aa):OH :=
 Ac 0 x13 fun x14=>Bj x14 x12 h5 fun h15 _ _=>(fun (j0_18:Hp→OH)=>AC x0 fun x79=>Ac 0 x79 fun x80=>Kk h15 x80 x2 x0 j0_18 x4 ih) fun h19=>Ki n h19 x0 x2 x4 ih
def S63 (ih:Aa) (n:Nat) (x0 x1 x2:IV) (h3:Hp):OH :=
 Bg 66060288 x1 h3 fun x4 h5 _ _=>AC x0 fun x8=>Ac 0 x8 fun x9=>Ae x9 h5 fun x10 _=>Bz EE 3 x10 (.fv (.int .i64 1)) fun x12=>AC x0 fun x13=>JC x13 h5 x12 n x0 x2 x4 ih
theorem Akz (ih:Aa) (n:Nat) (x0 x1 x2:IV) (h3:Hp):AD EE ih ft.get n 63 [x0,x1,x2] h3=S63 ih n x0 x1 x2 h3:=by kernel_rfl
def S64 (ih:Aa) (n:Nat) (h0:Hp):OH :=
 AK 67108864 (.row [.fv (.int .i64 0),.fv (.int .i64 0),.nils] false) (.ptr (.own 67108864) 0) h0 fun x1 h2 _ _=>Ak [] false false ih 24 [.fv (.int .i64 10),.nils] h2 fun x5 h6 _ _=>Al 3 x1 x5 h6 fun h9 _ _=>AE true 3 x1 h9 fun x12=>An [x12] h9
theorem AiL (ih:Aa) (n:Nat) (h0:Hp):AD EE ih ft.get n 64 [] h0=S64 ih n h0:=by kernel_rfl
def Ks (x48 x132:IV) (h133:Hp) (x13 x127:IV):OH :=
 AF x48 x132 (.fv (.bool false)) fun x136=>Al 3 x13 x127 h133 fun h137 _ _=>AE true 3 x13 h137 fun x140=>An [x140,x136] h137
def J0 (h106:Hp) (x109 x111 x113:IV) (ih:Aa) (x48 x78 x13:IV):OH :=
 Aw (Af EE 28 3 [(0,x109),(1,x111),(2,x113)]) 68163587 h106 fun x115 h116 _ _=>Ak [] false false ih 24 [.fv (.int .i64 7),x115] h116 fun x119 h120 _ _=>Aw (Af EE 28 1 [(0,x119)]) 68163589 h120 fun x123 h124 _ _=>Ak [] false false ih 24 [.fv (.int .i64 8),x123] h124 fun x127 h128 _ _=>Ab x48 true h128 (fun k131=>k131 x78 h128 [] []) fun x132 h133 _ _=>Ks x48 x132 h133 x13 x127
def JW (h103:Hp) (x102 x98 x79 x49:IV) (ih:Aa) (x48 x78 x13:IV):OH :=
 Al 3 x102 x98 h103 fun h106 r107 w108=>Ad [] r107 w108 (Ai 3 x102 h106 fun x109 _=>Ai 3 x79 h106 fun x111 _=>Ai 3 x49 h106 fun x113 _=>J0 h106 x109 x111 x113 ih x48 x78 x13)
def Jp (r96 w97:AH) (ih:Aa) (h95:Hp) (x94:IV) (r92 w93 r89 r87:AH) (x79 x49 x48 x78 x13:IV):OH :=
 Ad [] r96 w97 (Ak [] false false ih 24 [.fv (.int .i64 6),x94] h95 fun x98 h99 r100 w101=>Ad [] r100 w101 (AK 68162565 (.row [.fv (.int .i64 0),.fv (.int .i64 0),.nils] false) (.ptr (.own 68162565) 0) h99 fun x102 h103 r104 w105=>Ad [(r100,w101),(r96,w97),(r92,w93),(r89,[]),(r87,[])] r104 w105 (JW h103 x102 x98 x79 x49 ih x48 x78 x13)))
def J2 (h83:Hp) (x27:IV) (r87:AH) (ih:Aa) (x86 x79 x49 x48 x78 x13:IV):OH :=
 Ai 3 x27 h83 fun x88 r89=>Ad [(r87,[])] r89 [] (Ak [] false false ih 45 [x88,.fv (.int .i64 1),.fv (.int .i64 0)] h83 fun x90 h91 r92 w93=>Ad [(r87,[])] r92 w93 (Aw (Af EE 28 2 [(0,x86),(1,x90)]) 68162563 h91 fun x94 h95 r96 w97=>Jp r96 w97 ih h95 x94 r92 w93 r89 r87 x79 x49 x48 x78 x13))
def JJ (r81 w82 r75 w76 r70 w71 r67 r65:AH) (h80:Hp) (x79 x77 x5 x27:IV) (ih:Aa) (x49 x48 x78 x13:IV):OH :=
 Ad [(r75,w76),(r70,w71),(r67,[]),(r65,[])] r81 w82 (Al 3 x79 x77 h80 fun h83 r84 w85=>Ad [] r84 w85 (Ai 3 x5 h83 fun x86 r87=>Ad [] r87 [] (J2 h83 x27 r87 ih x86 x79 x49 x48 x78 x13)))
def Kl (ih:Aa) (h69:Hp) (x0 x64 x68 x72:IV) (r70 w71 r67 r65:AH) (x5 x27 x49 x48 x13:IV):OH :=
 Ak [] false false ih 39 [x0,x64,x68,x72] h69 fun x73 h74 r75 w76=>Ad [] r75 w76 (AN 0 x73 fun x77=>AN 1 x73 fun x78=>AK 68161546 (.row [.fv (.int .i64 0),.fv (.int .i64 0),.nils] false) (.ptr (.own 68161546) 0) h74 fun x79 h80 r81 w82=>JJ r81 w82 r75 w76 r70 w71 r67 r65 h80 x79 x77 x5 x27 ih x49 x48 x78 x13)
def Ku (h60:Hp) (x9:IV) (r65:AH) (ih:Aa) (x3 x0 x64 x5 x27 x49 x48 x13:IV):OH :=
 Ai 3 x9 h60 fun x66 r67=>Ad [(r65,[])] r67 [] (Ak [] false false ih 56 [x66,.fv (.int .i64 2)] h60 fun x68 h69 r70 w71=>Ad [(r65,[])] r70 w71 (Ba EE 3 x3 (.fv (.int .i64 2)) fun x72=>Kl ih h69 x0 x64 x68 x72 r70 w71 r67 r65 x5 x27 x49 x48 x13))
def Jx (h197:Hp) (x13 x191 x200:IV):OH :=
 Al 3 x13 x191 h197 fun h201 r202 w203=>Ad [] r202 w203 (AE true 3 x13 h201 fun x204=>An [x204,x200] h201)
def JM (r189 w190:AH) (ih:Aa) (h188:Hp) (x187 x48 x165 x13:IV):OH :=
 Ad [] r189 w190 (Ak [] false false ih 24 [.fv (.int .i64 5),x187] h188 fun x191 h192 r193 w194=>Ad [] r193 w194 (Ab x48 true h192 (fun k195=>k195 x165 h192 [] []) fun x196 h197 _ _=>AF x48 x196 (.fv (.bool false)) fun x200=>Jx h197 x13 x191 x200))
def Kr (ih:Aa) (h178:Hp) (x177 x49:IV) (r179 w180 r176 r174:AH) (x48 x165 x13:IV):OH :=
 Ak [] false false ih 24 [.fv (.int .i64 4),x177] h178 fun x181 h182 r183 w184=>Ad [] r183 w184 (Ai 3 x49 h182 fun x185 r186=>Ad [(r183,w184),(r179,w180),(r176,[]),(r174,[])] r186 [] (Aw (Af EE 28 2 [(0,x181),(1,x185)]) 68165637 h182 fun x187 h188 r189 w190=>JM r189 w190 ih h188 x187 x48 x165 x13))
def JI (r174:AH) (h170:Hp) (x166 x173:IV) (ih:Aa) (x49 x48 x165 x13:IV):OH :=
 Ad [] r174 [] (Ai 3 x166 h170 fun x175 r176=>Ad [(r174,[])] r176 [] (Aw (Af EE 28 2 [(0,x173),(1,x175)]) 68165634 h170 fun x177 h178 r179 w180=>Ad [] r179 w180 (Kr ih h178 x177 x49 r179 w180 r176 r174 x48 x165 x13)))
def Jt (h161:Hp) (r162 w163 r157 w158 r154 r151 w152 r148 r145 w146 r142:AH) (x164 x27:IV) (ih:Aa) (x49 x48 x165 x13:IV):OH :=
 AK 68164621 (.row [.fv (.int .i64 0),.fv (.int .i64 0),.nils] false) (.ptr (.own 68164621) 0) h161 fun x166 h167 r168 w169=>Ad [(r162,w163),(r157,w158),(r154,[]),(r151,w152),(r148,[]),(r145,w146),(r142,[])] r168 w169 (Al 3 x166 x164 h167 fun h170 r171 w172=>Ad [] r171 w172 (Ai 3 x27 h170 fun x173 r174=>JI r174 h170 x166 x173 ih x49 x48 x165 x13))
def JE (x3:IV) (ih:Aa) (h156:Hp) (x143 x149 x155:IV) (r157 w158 r154 r151 w152 r148 r145 w146 r142:AH) (x27 x49 x48 x13:IV):OH :=
 Ba EE 3 x3 (.fv (.int .i64 2)) fun x159=>Ak [] false false ih 39 [x143,x149,x155,x159] h156 fun x160 h161 r162 w163=>Ad [] r162 w163 (AN 0 x160 fun x164=>AN 1 x160 fun x165=>Jt h161 r162 w163 r157 w158 r154 r151 w152 r148 r145 w146 r142 x164 x27 ih x49 x48 x165 x13)
def JP (r151 w152:AH) (h150:Hp) (x9:IV) (r148 r145 w146 r142:AH) (ih:Aa) (x3 x143 x149 x27 x49 x48 x13:IV):OH :=
 Ad [] r151 w152 (Ai 3 x9 h150 fun x153 r154=>Ad [(r151,w152),(r148,[]),(r145,w146),(r142,[])] r154 [] (Ak [] false false ih 56 [x153,.fv (.int .i64 2)] h150 fun x155 h156 r157 w158=>Ad [] r157 w158 (JE x3 ih h156 x143 x149 x155 r157 w158 r154 r151 w152 r148 r145 w146 r142 x27 x49 x48 x13)))
def Jv (ih:Aa) (h60:Hp) (x0 x141 x5:IV) (r142:AH) (x9 x3 x27 x49 x48 x13:IV):OH :=
 Ak [] false false ih 60 [x0,.fv (.int .i64 1),x141] h60 fun x143 h144 r145 w146=>Ad [] r145 w146 (Ai 3 x5 h144 fun x147 r148=>Ad [(r145,w146),(r142,[])] r148 [] (Ak [] false false ih 45 [x147,.fv (.int .i64 1),.fv (.int .i64 0)] h144 fun x149 h150 r151 w152=>JP r151 w152 h150 x9 r148 r145 w146 r142 ih x3 x143 x149 x27 x49 x48 x13))
def Kh (x59:IV) (h60:Hp) (x5 x9:IV) (ih:Aa) (x3 x0 x27 x49 x48 x13:IV):OH :=
 AZ EE 3 x59 (.fv (.int .i64 0)) fun x63=>Aj x63 (Ai 3 x5 h60 fun x64 r65=>Ad [] r65 [] (Ku h60 x9 r65 ih x3 x0 x64 x5 x27 x49 x48 x13)) (Ai 3 x27 h60 fun x141 r142=>Ad [] r142 [] (Jv ih h60 x0 x141 x5 r142 x9 x3 x27 x49 x48 x13))
def J3 (h50:Hp) (x49 x47 x9:IV) (ih:Aa) (x5 x3 x0 x27 x48 x13:IV):OH :=
 Al 3 x49 x47 h50 fun h53 r54 w55=>Ad [] r54 w55 (Ac 1 x9 fun x56=>Ae x56 h53 fun x57 _=>Ak [] false false ih 55 [x57,.fv (.int .i64 3)] h53 fun x59 h60 _ _=>Kh x59 h60 x5 x9 ih x3 x0 x27 x49 x48 x13)
def Jk (r45 w46:AH) (x43:IV) (h44:Hp) (r40 w41 r37 r35:AH) (x9:IV) (ih:Aa) (x5 x3 x0 x27 x13:IV):OH :=
 Ad [] r45 w46 (AN 0 x43 fun x47=>AN 1 x43 fun x48=>AK 68159498 (.row [.fv (.int .i64 0),.fv (.int .i64 0),.nils] false) (.ptr (.own 68159498) 0) h44 fun x49 h50 r51 w52=>Ad [(r45,w46),(r40,w41),(r37,[]),(r35,[])] r51 w52 (J3 h50 x49 x47 x9 ih x5 x3 x0 x27 x48 x13))
def Jw (r37 r35:AH) (ih:Aa) (h31:Hp) (x36 x3 x0 x34 x9 x5 x27 x13:IV):OH :=
 Ad [(r35,[])] r37 [] (Ak [] false false ih 56 [x36,.fv (.int .i64 1)] h31 fun x38 h39 r40 w41=>Ad [(r35,[])] r40 w41 (Ba EE 3 x3 (.fv (.int .i64 2)) fun x42=>Ak [] false false ih 39 [x0,x34,x38,x42] h39 fun x43 h44 r45 w46=>Jk r45 w46 x43 h44 r40 w41 r37 r35 x9 ih x5 x3 x0 x27 x13))
def Ji (h24:Hp) (x23 x9:IV) (ih:Aa) (x3 x0 x5 x13:IV):OH :=
 AK 68158468 (.row [.fv (.int .i64 0),.fv (.int .i64 0),.nils] false) (.ptr (.own 68158468) 0) h24 fun x27 h28 _ _=>Al 3 x27 x23 h28 fun h31 _ _=>Ai 3 x27 h31 fun x34 r35=>Ad [] r35 [] (Ai 3 x9 h31 fun x36 r37=>Jw r37 r35 ih h31 x36 x3 x0 x34 x9 x5 x27 x13)
def S65 (ih:Aa) (n:Nat) (x0 x1 x2 x3:IV) (h4:Hp):OH :=
 Bg 68157440 x1 h4 fun x5 h6 _ _=>Bg 68157441 x2 h6 fun x9 h10 _ _=>AK 68157442 (.row [.fv (.int .i64 0),.fv (.int .i64 0),.nils] false) (.ptr (.own 68157442) 0) h10 fun x13 h14 _ _=>Ai 3 x9 h14 fun x17 _=>Ak [] false false ih 56 [x17,.fv (.int .i64 0)] h14 fun x19 h20 _ _=>Ak [] false false ih 38 [x0,x19,.fv (.int .i64 1)] h20 fun x23 h24 _ _=>Ji h24 x23 x9 ih x3 x0 x5 x13
theorem Ajp (ih:Aa) (n:Nat) (x0 x1 x2 x3:IV) (h4:Hp):AD EE ih ft.get n 65 [x0,x1,x2,x3] h4=S65 ih n x0 x1 x2 x3 h4:=by kernel_rfl
def Yw (r186 w187:AH) (h185:Hp) (x13 x184:IV):OH :=
 Ad [] r186 w187 (AE true 3 x13 h185 fun x188=>An [x188,x184] h185)
def Wj (h170:Hp) (x79 x101 x145 x13 x169:IV):OH :=
 Ab x79 true h170 (fun k173=>k173 x101 h170 [] []) fun x174 h175 _ _=>AF x79 x174 (.fv (.bool false)) fun x178=>Ab x178 true h175 (fun k179=>k179 x145 h175 [] []) fun x180 h181 _ _=>AF x178 x180 (.fv (.bool false)) fun x184=>Al 3 x13 x169 h181 fun h185 r186 w187=>Yw r186 w187 h185 x13 x184
def AaY (r164 r162 r160 r157 w158 r154:AH) (h156:Hp) (x155 x159 x161 x163:IV) (ih:Aa) (x79 x101 x145 x13:IV):OH :=
 Ad [(r162,[]),(r160,[]),(r157,w158),(r154,[])] r164 [] (Aw (Af EE 28 4 [(0,x155),(1,x159),(2,x161),(3,x163)]) 69211141 h156 fun x165 h166 r167 w168=>Ad [] r167 w168 (Ak [] false false ih 24 [.fv (.int .i64 13),x165] h166 fun x169 h170 r171 w172=>Ad [] r171 w172 (Wj h170 x79 x101 x145 x13 x169)))
def Yv (h156:Hp) (x102:IV) (r157 w158 r154:AH) (x146 x80 x155:IV) (ih:Aa) (x79 x101 x145 x13:IV):OH :=
 Ai 3 x102 h156 fun x159 r160=>Ad [(r157,w158),(r154,[])] r160 [] (Ai 3 x146 h156 fun x161 r162=>Ad [(r160,[]),(r157,w158),(r154,[])] r162 [] (Ai 3 x80 h156 fun x163 r164=>AaY r164 r162 r160 r157 w158 r154 h156 x155 x159 x161 x163 ih x79 x101 x145 x13))
def AaM (r151 w152:AH) (h150:Hp) (x5:IV) (ih:Aa) (x102 x146 x80 x79 x101 x145 x13:IV):OH :=
 Ad [] r151 w152 (Ai 3 x5 h150 fun x153 r154=>Ad [] r154 [] (Ak [] false false ih 45 [x153,.fv (.int .i64 1),.fv (.int .i64 0)] h150 fun x155 h156 r157 w158=>Ad [] r157 w158 (Yv h156 x102 r157 w158 r154 x146 x80 x155 ih x79 x101 x145 x13)))
def Y7 (x140:IV) (h141:Hp) (r142 w143 r137 w138 r134 r131 w132 r128 r125 w126 r121 w122 r118 r115 w116 r111 w112:AH) (x5:IV) (ih:Aa) (x102 x80 x79 x101 x13:IV):OH :=
 AN 0 x140 fun x144=>AN 1 x140 fun x145=>AK 69210128 (.row [.fv (.int .i64 0),.fv (.int .i64 0),.nils] false) (.ptr (.own 69210128) 0) h141 fun x146 h147 r148 w149=>Ad [(r142,w143),(r137,w138),(r134,[]),(r131,w132),(r128,[]),(r125,w126),(r121,w122),(r118,[]),(r115,w116),(r111,w112)] r148 w149 (Al 3 x146 x144 h147 fun h150 r151 w152=>AaM r151 w152 h150 x5 ih x102 x146 x80 x79 x101 x145 x13)
def Z8 (ih:Aa) (h130:Hp) (x133 x3 x123 x129:IV) (r134 r131 w132 r128 r125 w126 r121 w122 r118 r115 w116 r111 w112:AH) (x5 x102 x80 x79 x101 x13:IV):OH :=
 Ak [] false false ih 56 [x133,.fv (.int .i64 2)] h130 fun x135 h136 r137 w138=>Ad [] r137 w138 (Ba EE 3 x3 (.fv (.int .i64 2)) fun x139=>Ak [] false false ih 39 [x123,x129,x135,x139] h136 fun x140 h141 r142 w143=>Ad [] r142 w143 (Y7 x140 h141 r142 w143 r137 w138 r134 r131 w132 r128 r125 w126 r121 w122 r118 r115 w116 r111 w112 x5 ih x102 x80 x79 x101 x13))
def VM (r128 r125 w126 r121 w122 r118 r115 w116 r111 w112:AH) (ih:Aa) (h124:Hp) (x127 x9 x3 x123 x5 x102 x80 x79 x101 x13:IV):OH :=
 Ad [(r125,w126),(r121,w122),(r118,[]),(r115,w116),(r111,w112)] r128 [] (Ak [] false false ih 45 [x127,.fv (.int .i64 2),.fv (.int .i64 0)] h124 fun x129 h130 r131 w132=>Ad [] r131 w132 (Ai 3 x9 h130 fun x133 r134=>Ad [(r131,w132),(r128,[]),(r125,w126),(r121,w122),(r118,[]),(r115,w116),(r111,w112)] r134 [] (Z8 ih h130 x133 x3 x123 x129 r134 r131 w132 r128 r125 w126 r121 w122 r118 r115 w116 r111 w112 x5 x102 x80 x79 x101 x13)))
def Wk (ih:Aa) (h114:Hp) (x117 x113 x5:IV) (r118 r115 w116 r111 w112:AH) (x9 x3 x102 x80 x79 x101 x13:IV):OH :=
 Ak [] false false ih 45 [x117,.fv (.int .i64 1),.fv (.int .i64 0)] h114 fun x119 h120 r121 w122=>Ad [] r121 w122 (Ak [] false false ih 60 [x113,.fv (.int .i64 1),x119] h120 fun x123 h124 r125 w126=>Ad [] r125 w126 (Ai 3 x5 h124 fun x127 r128=>VM r128 r125 w126 r121 w122 r118 r115 w116 r111 w112 ih h124 x127 x9 x3 x123 x5 x102 x80 x79 x101 x13))
def Wv (r111 w112:AH) (ih:Aa) (h110:Hp) (x0 x109 x5 x9 x3 x102 x80 x79 x101 x13:IV):OH :=
 Ad [] r111 w112 (Ak [] false false ih 60 [x0,.fv (.int .i64 1),x109] h110 fun x113 h114 r115 w116=>Ad [] r115 w116 (Ai 3 x5 h114 fun x117 r118=>Ad [(r115,w116),(r111,w112)] r118 [] (Wk ih h114 x117 x113 x5 r118 r115 w116 r111 w112 x9 x3 x102 x80 x79 x101 x13)))
def ZR (h97:Hp) (r98 w99 r93 w94 r90 r88:AH) (x100:IV) (ih:Aa) (x0 x5 x9 x3 x80 x79 x101 x13:IV):OH :=
 AK 69209098 (.row [.fv (.int .i64 0),.fv (.int .i64 0),.nils] false) (.ptr (.own 69209098) 0) h97 fun x102 h103 r104 w105=>Ad [(r98,w99),(r93,w94),(r90,[]),(r88,[])] r104 w105 (Al 3 x102 x100 h103 fun h106 r107 w108=>Ad [] r107 w108 (Ak [] false false ih 64 [] h106 fun x109 h110 r111 w112=>Wv r111 w112 ih h110 x0 x109 x5 x9 x3 x102 x80 x79 x101 x13))
def Abb (x3:IV) (ih:Aa) (h92:Hp) (x0 x87 x91:IV) (r93 w94 r90 r88:AH) (x5 x9 x80 x79 x13:IV):OH :=
 Ba EE 3 x3 (.fv (.int .i64 2)) fun x95=>Ak [] false false ih 39 [x0,x87,x91,x95] h92 fun x96 h97 r98 w99=>Ad [] r98 w99 (AN 0 x96 fun x100=>AN 1 x96 fun x101=>ZR h97 r98 w99 r93 w94 r90 r88 x100 ih x0 x5 x9 x3 x80 x79 x101 x13)
def W9 (r88:AH) (h84:Hp) (x9:IV) (ih:Aa) (x3 x0 x87 x5 x80 x79 x13:IV):OH :=
 Ad [] r88 [] (Ai 3 x9 h84 fun x89 r90=>Ad [(r88,[])] r90 [] (Ak [] false false ih 56 [x89,.fv (.int .i64 1)] h84 fun x91 h92 r93 w94=>Ad [(r88,[])] r93 w94 (Abb x3 ih h92 x0 x87 x91 r93 w94 r90 r88 x5 x9 x80 x79 x13)))
def ZG (h75:Hp) (r76 w77 r71 w72 r68 r65 w66:AH) (x78 x5 x9:IV) (ih:Aa) (x3 x0 x79 x13:IV):OH :=
 AK 69208074 (.row [.fv (.int .i64 0),.fv (.int .i64 0),.nils] false) (.ptr (.own 69208074) 0) h75 fun x80 h81 r82 w83=>Ad [(r76,w77),(r71,w72),(r68,[]),(r65,w66)] r82 w83 (Al 3 x80 x78 h81 fun h84 r85 w86=>Ad [] r85 w86 (Ai 3 x5 h84 fun x87 r88=>W9 r88 h84 x9 ih x3 x0 x87 x5 x80 x79 x13))
def YY (x3:IV) (ih:Aa) (h70:Hp) (x0 x63 x69:IV) (r71 w72 r68 r65 w66:AH) (x5 x9 x13:IV):OH :=
 Ba EE 3 x3 (.fv (.int .i64 2)) fun x73=>Ak [] false false ih 39 [x0,x63,x69,x73] h70 fun x74 h75 r76 w77=>Ad [] r76 w77 (AN 0 x74 fun x78=>AN 1 x74 fun x79=>ZG h75 r76 w77 r71 w72 r68 r65 w66 x78 x5 x9 ih x3 x0 x79 x13)
def WD (r65 w66:AH) (h64:Hp) (x9:IV) (ih:Aa) (x3 x0 x63 x5 x13:IV):OH :=
 Ad [] r65 w66 (Ai 3 x9 h64 fun x67 r68=>Ad [(r65,w66)] r68 [] (Ak [] false false ih 56 [x67,.fv (.int .i64 0)] h64 fun x69 h70 r71 w72=>Ad [] r71 w72 (YY x3 ih h70 x0 x63 x69 r71 w72 r68 r65 w66 x5 x9 x13)))
def V1 (ih:Aa) (h244:Hp) (x243 x13 x233:IV):OH :=
 Ak [] false false ih 24 [.fv (.int .i64 12),x243] h244 fun x247 h248 _ _=>Al 3 x13 x247 h248 fun h251 _ _=>AE true 3 x13 h251 fun x254=>An [x254,x233] h251
def XL (r236 w237 r230 w231 r225 w226 r222 r220:AH) (h235:Hp) (x234 x232:IV) (ih:Aa) (x13 x233:IV):OH :=
 Ad [(r230,w231),(r225,w226),(r222,[]),(r220,[])] r236 w237 (Al 3 x234 x232 h235 fun h238 r239 w240=>Ad [] r239 w240 (Ai 3 x234 h238 fun x241 _=>Aw (Af EE 28 1 [(0,x241)]) 69216257 h238 fun x243 h244 _ _=>V1 ih h244 x243 x13 x233))
def ZJ (ih:Aa) (h224:Hp) (x0 x219 x223 x227:IV) (r225 w226 r222 r220:AH) (x13:IV):OH :=
 Ak [] false false ih 39 [x0,x219,x223,x227] h224 fun x228 h229 r230 w231=>Ad [] r230 w231 (AN 0 x228 fun x232=>AN 1 x228 fun x233=>AK 69215242 (.row [.fv (.int .i64 0),.fv (.int .i64 0),.nils] false) (.ptr (.own 69215242) 0) h229 fun x234 h235 r236 w237=>XL r236 w237 r230 w231 r225 w226 r222 r220 h235 x234 x232 ih x13 x233)
def YR (h215:Hp) (x9:IV) (r220:AH) (ih:Aa) (x3 x0 x219 x13:IV):OH :=
 Ai 3 x9 h215 fun x221 r222=>Ad [(r220,[])] r222 [] (Ak [] false false ih 56 [x221,.fv (.int .i64 0)] h215 fun x223 h224 r225 w226=>Ad [(r220,[])] r225 w226 (Ba EE 3 x3 (.fv (.int .i64 1)) fun x227=>ZJ ih h224 x0 x219 x223 x227 r225 w226 r222 r220 x13))
def Zr (ih:Aa) (h215:Hp) (x256 x13:IV):OH :=
 Ak [] false false ih 55 [x256,.fv (.int .i64 4)] h215 fun x258 h259 _ _=>Ak [] false false ih 27 [x258] h259 fun x262 h263 _ _=>Al 3 x13 x262 h263 fun h266 _ _=>AE true 3 x13 h266 fun x269=>An [x269,.fv (.bool true)] h266
def Wd (x218:IV) (h215:Hp) (x5 x9:IV) (ih:Aa) (x3 x0 x13:IV):OH :=
 Aj x218 (Ai 3 x5 h215 fun x219 r220=>Ad [] r220 [] (YR h215 x9 r220 ih x3 x0 x219 x13)) (Ac 1 x9 fun x255=>Ae x255 h215 fun x256 _=>Zr ih h215 x256 x13)
def WF (h59:Hp) (x193 x9:IV) (ih:Aa) (x5 x3 x0 x13:IV):OH :=
 Ab x193 true h59 (fun k194=>Ac 0 x9 fun x195=>k194 x195 h59 [] []) fun x196 h197 _ _=>Ab x193 true h197 (fun k200=>Ae x196 h197 fun x201 r202=>k200 x201 h197 r202 []) fun x203 h204 _ _=>Ab x193 true h204 (fun k207=>Ak [] false false ih 55 [x203,.fv (.int .i64 2)] h204 k207) fun x208 h209 _ _=>Ab x193 true h209 (fun k212=>AZ EE 3 x208 (.fv (.int .i64 1)) fun x213=>k212 x213 h209 [] []) fun x214 h215 _ _=>AF x193 x214 (.fv (.bool false)) fun x218=>Wd x218 h215 x5 x9 ih x3 x0 x13
def Wx (x311 x362:IV) (h363:Hp) (x13 x357:IV):OH :=
 AF x311 x362 (.fv (.bool false)) fun x366=>Al 3 x13 x357 h363 fun h367 r368 w369=>Ad [] r368 w369 (AE true 3 x13 h367 fun x370=>An [x370,x366] h367)
def AaG (h345:Hp) (x349 x351:IV) (r346 w347 r343:AH) (ih:Aa) (x348 x311 x333 x13:IV):OH :=
 Aw (Af EE 28 2 [(0,x349),(1,x351)]) 69222406 h345 fun x353 h354 r355 w356=>Ad [(r346,w347),(r343,[])] r355 w356 (Ak [] false false ih 24 [x348,x353] h354 fun x357 h358 r359 w360=>Ad [] r359 w360 (Ab x311 true h358 (fun k361=>k361 x333 h358 [] []) fun x362 h363 _ _=>Wx x311 x362 h363 x13 x357))
def ZC (x344:IV) (h345:Hp) (x312:IV) (r346 w347 r343:AH) (x334:IV) (ih:Aa) (x311 x333 x13:IV):OH :=
 Bz EE 3 (.fv (.int .i64 16)) x344 fun x348=>Ai 3 x312 h345 fun x349 r350=>Ad [(r346,w347),(r343,[])] r350 [] (Ai 3 x334 h345 fun x351 r352=>Ad [(r350,[]),(r346,w347),(r343,[])] r352 [] (AaG h345 x349 x351 r346 w347 r343 ih x348 x311 x333 x13))
def Abj (x9:IV) (h338:Hp) (ih:Aa) (x312 x334 x311 x333 x13:IV):OH :=
 Ac 1 x9 fun x341=>Ae x341 h338 fun x342 r343=>Ad [] r343 [] (Ak [] false false ih 55 [x342,.fv (.int .i64 2)] h338 fun x344 h345 r346 w347=>Ad [] r346 w347 (ZC x344 h345 x312 r346 w347 r343 x334 ih x311 x333 x13))
def Wa (x328:IV) (h329:Hp) (r330 w331 r325 w326 r322 r320:AH) (x332 x9:IV) (ih:Aa) (x312 x311 x13:IV):OH :=
 AN 1 x328 fun x333=>AK 69221386 (.row [.fv (.int .i64 0),.fv (.int .i64 0),.nils] false) (.ptr (.own 69221386) 0) h329 fun x334 h335 r336 w337=>Ad [(r330,w331),(r325,w326),(r322,[]),(r320,[])] r336 w337 (Al 3 x334 x332 h335 fun h338 r339 w340=>Ad [] r339 w340 (Abj x9 h338 ih x312 x334 x311 x333 x13))
def Y6 (r325 w326 r320:AH) (x3:IV) (ih:Aa) (h324:Hp) (x0 x319 x323:IV) (r322:AH) (x9 x312 x311 x13:IV):OH :=
 Ad [(r320,[])] r325 w326 (Ba EE 3 x3 (.fv (.int .i64 1)) fun x327=>Ak [] false false ih 39 [x0,x319,x323,x327] h324 fun x328 h329 r330 w331=>Ad [] r330 w331 (AN 0 x328 fun x332=>Wa x328 h329 r330 w331 r325 w326 r322 r320 x332 x9 ih x312 x311 x13))
def W1 (h316:Hp) (x5 x9:IV) (ih:Aa) (x3 x0 x312 x311 x13:IV):OH :=
 Ai 3 x5 h316 fun x319 r320=>Ad [] r320 [] (Ai 3 x9 h316 fun x321 r322=>Ad [(r320,[])] r322 [] (Ak [] false false ih 56 [x321,.fv (.int .i64 1)] h316 fun x323 h324 r325 w326=>Y6 r325 w326 r320 x3 ih h324 x0 x319 x323 r322 x9 x312 x311 x13))
def YM (x306:IV) (h307:Hp) (r308 w309 r303 w304 r300 r298:AH) (x310 x5 x9:IV) (ih:Aa) (x3 x0 x13:IV):OH :=
 AN 1 x306 fun x311=>AK 69220362 (.row [.fv (.int .i64 0),.fv (.int .i64 0),.nils] false) (.ptr (.own 69220362) 0) h307 fun x312 h313 r314 w315=>Ad [(r308,w309),(r303,w304),(r300,[]),(r298,[])] r314 w315 (Al 3 x312 x310 h313 fun h316 r317 w318=>Ad [] r317 w318 (W1 h316 x5 x9 ih x3 x0 x312 x311 x13))
def YS (r303 w304 r298:AH) (x3:IV) (ih:Aa) (h302:Hp) (x0 x297 x301:IV) (r300:AH) (x5 x9 x13:IV):OH :=
 Ad [(r298,[])] r303 w304 (Ba EE 3 x3 (.fv (.int .i64 1)) fun x305=>Ak [] false false ih 39 [x0,x297,x301,x305] h302 fun x306 h307 r308 w309=>Ad [] r308 w309 (AN 0 x306 fun x310=>YM x306 h307 r308 w309 r303 w304 r300 r298 x310 x5 x9 ih x3 x0 x13))
def Wh (h293:Hp) (x5 x9:IV) (ih:Aa) (x3 x0 x13:IV):OH :=
 Ai 3 x5 h293 fun x297 r298=>Ad [] r298 [] (Ai 3 x9 h293 fun x299 r300=>Ad [(r298,[])] r300 [] (Ak [] false false ih 56 [x299,.fv (.int .i64 0)] h293 fun x301 h302 r303 w304=>YS r303 w304 r298 x3 ih h302 x0 x297 x301 r300 x5 x9 x13))
def ZF (ih:Aa) (h293:Hp) (x13:IV):OH :=
 Ak [] false false ih 24 [.fv (.int .i64 15),.nils] h293 fun x371 h372 _ _=>Al 3 x13 x371 h372 fun h375 _ _=>AE true 3 x13 h375 fun x378=>An [x378,.fv (.bool true)] h375
def Aag (h275:Hp) (x271 x274:IV) (ih:Aa) (x5 x9 x3 x0 x13:IV):OH :=
 Ab x271 true h275 (fun k278=>Ae x274 h275 fun x279 r280=>k278 x279 h275 r280 []) fun x281 h282 _ _=>Ab x271 true h282 (fun k285=>Ak [] false false ih 55 [x281,.fv (.int .i64 5)] h282 k285) fun x286 h287 _ _=>Ab x271 true h287 (fun k290=>Kx EE 3 x286 (.fv (.int .i64 1)) fun x291=>k290 x291 h287 [] []) fun x292 h293 _ _=>AF x271 x292 (.fv (.bool false)) fun x296=>Aj x296 (Wh h293 x5 x9 ih x3 x0 x13) (ZF ih h293 x13)
def Xq (x384:IV) (ih:Aa) (h59:Hp) (x13:IV):OH :=
 Ba EE 3 x384 (.fv (.int .i64 1)) fun x386=>Ak [] false false ih 47 [x386] h59 fun x387 h388 _ _=>Al 3 x13 x387 h388 fun h391 _ _=>AE true 3 x13 h391 fun x394=>An [x394,.fv (.bool true)] h391
def AaF (h491:Hp) (x13 x490:IV):OH :=
 AE true 3 x13 h491 fun x494=>An [x494,x490] h491
def AaO (r483 w484:AH) (h482:Hp) (x429 x457 x13 x481:IV):OH :=
 Ad [] r483 w484 (Ab x429 true h482 (fun k485=>k485 x457 h482 [] []) fun x486 h487 _ _=>AF x429 x486 (.fv (.bool false)) fun x490=>Al 3 x13 x481 h487 fun h491 r492 w493=>Ad [] r492 w493 (AaF h491 x13 x490))
def WH (h466:Hp) (x458:IV) (r474 r472 r467 w468:AH) (x473:IV) (ih:Aa) (x471 x429 x457 x13:IV):OH :=
 Ai 3 x458 h466 fun x475 r476=>Ad [(r474,[]),(r472,[]),(r467,w468)] r476 [] (Aw (Af EE 28 2 [(0,x473),(1,x475)]) 69230599 h466 fun x477 h478 r479 w480=>Ad [(r472,[]),(r467,w468)] r479 w480 (Ak [] false false ih 24 [x471,x477] h478 fun x481 h482 r483 w484=>AaO r483 w484 h482 x429 x457 x13 x481))
def VH (x465 x469:IV) (h466:Hp) (x430:IV) (r467 w468:AH) (x458:IV) (ih:Aa) (x429 x457 x13:IV):OH :=
 Bf 1 x465 x469 fun x470=>Ae x470 h466 fun x471 r472=>Ad [] r472 [] (Ai 3 x430 h466 fun x473 r474=>Ad [(r472,[]),(r467,w468)] r474 [] (WH h466 x458 r474 r472 r467 w468 x473 ih x471 x429 x457 x13))
def ZM (h459:Hp) (x458 x456 x398 x430:IV) (ih:Aa) (x429 x457 x13:IV):OH :=
 Al 3 x458 x456 h459 fun h462 r463 w464=>Ad [] r463 w464 (Aw (Af EE 75 2 [(0,.fv (.int .i64 3)),(1,.fv (.int .i64 6))]) 69230592 h462 fun x465 h466 r467 w468=>Ad [] r467 w468 (Ba EE 3 x398 (.fv (.int .i64 2)) fun x469=>VH x465 x469 h466 x430 r467 w468 x458 ih x429 x457 x13))
def VE (r454 w455:AH) (x452:IV) (h453:Hp) (r449 w450 r446 r444 r441 w442 r438:AH) (x398 x430:IV) (ih:Aa) (x429 x13:IV):OH :=
 Ad [] r454 w455 (AN 0 x452 fun x456=>AN 1 x452 fun x457=>AK 69229580 (.row [.fv (.int .i64 0),.fv (.int .i64 0),.nils] false) (.ptr (.own 69229580) 0) h453 fun x458 h459 r460 w461=>Ad [(r454,w455),(r449,w450),(r446,[]),(r444,[]),(r441,w442),(r438,[])] r460 w461 (ZM h459 x458 x456 x398 x430 ih x429 x457 x13))
def Yq (r446 r444 r441 w442 r438:AH) (ih:Aa) (h440:Hp) (x445 x3 x439 x443 x398 x430 x429 x13:IV):OH :=
 Ad [(r444,[]),(r441,w442),(r438,[])] r446 [] (Ak [] false false ih 56 [x445,.fv (.int .i64 1)] h440 fun x447 h448 r449 w450=>Ad [(r444,[])] r449 w450 (Ba EE 3 x3 (.fv (.int .i64 1)) fun x451=>Ak [] false false ih 39 [x439,x443,x447,x451] h448 fun x452 h453 r454 w455=>VE r454 w455 x452 h453 r449 w450 r446 r444 r441 w442 r438 x398 x430 ih x429 x13))
def XP (ih:Aa) (h434:Hp) (x0 x437 x5:IV) (r438:AH) (x9 x3 x398 x430 x429 x13:IV):OH :=
 Ak [] false false ih 60 [x0,.fv (.int .i64 1),x437] h434 fun x439 h440 r441 w442=>Ad [] r441 w442 (Ai 3 x5 h440 fun x443 r444=>Ad [(r441,w442),(r438,[])] r444 [] (Ai 3 x9 h440 fun x445 r446=>Yq r446 r444 r441 w442 r438 ih h440 x445 x3 x439 x443 x398 x430 x429 x13))
def Yl (r432 w433 r426 w427 r421 w422 r418 r416:AH) (h431:Hp) (x430 x428:IV) (ih:Aa) (x0 x5 x9 x3 x398 x429 x13:IV):OH :=
 Ad [(r426,w427),(r421,w422),(r418,[]),(r416,[])] r432 w433 (Al 3 x430 x428 h431 fun h434 r435 w436=>Ad [] r435 w436 (Ai 3 x430 h434 fun x437 r438=>Ad [] r438 [] (XP ih h434 x0 x437 x5 r438 x9 x3 x398 x430 x429 x13)))
def X6 (ih:Aa) (h420:Hp) (x0 x415 x419 x423:IV) (r421 w422 r418 r416:AH) (x5 x9 x3 x398 x13:IV):OH :=
 Ak [] false false ih 39 [x0,x415,x419,x423] h420 fun x424 h425 r426 w427=>Ad [] r426 w427 (AN 0 x424 fun x428=>AN 1 x424 fun x429=>AK 69228554 (.row [.fv (.int .i64 0),.fv (.int .i64 0),.nils] false) (.ptr (.own 69228554) 0) h425 fun x430 h431 r432 w433=>Yl r432 w433 r426 w427 r421 w422 r418 r416 h431 x430 x428 ih x0 x5 x9 x3 x398 x429 x13)
def Ww (h411:Hp) (x9:IV) (r416:AH) (ih:Aa) (x3 x0 x415 x5 x398 x13:IV):OH :=
 Ai 3 x9 h411 fun x417 r418=>Ad [(r416,[])] r418 [] (Ak [] false false ih 56 [x417,.fv (.int .i64 0)] h411 fun x419 h420 r421 w422=>Ad [(r416,[])] r421 w422 (Ba EE 3 x3 (.fv (.int .i64 1)) fun x423=>X6 ih h420 x0 x415 x419 x423 r421 w422 r418 r416 x5 x9 x3 x398 x13))
def Aa7 (h529:Hp) (x13:IV):OH :=
 AE true 3 x13 h529 fun x532=>An [x532,.fv (.bool true)] h529
def AaD (x515 x522:IV) (h523:Hp) (x13:IV):OH :=
 Bf 3 x515 x522 fun x526=>Ai 3 x526 h523 fun x527 r528=>Ad [] r528 [] (Al 3 x13 x527 h523 fun h529 r530 w531=>Ad [] r530 w531 (Aa7 h529 x13))
def Abd (x9:IV) (h516:Hp) (r517 w518 r513 w514 r509 w510 r505 w506 r501 w502 r497 w498:AH) (ih:Aa) (x515 x13:IV):OH :=
 Ac 1 x9 fun x519=>Ae x519 h516 fun x520 r521=>Ad [(r517,w518),(r513,w514),(r509,w510),(r505,w506),(r501,w502),(r497,w498)] r521 [] (Ak [] false false ih 55 [x520,.fv (.int .i64 3)] h516 fun x522 h523 r524 w525=>Ad [(r517,w518)] r524 w525 (AaD x515 x522 h523 x13))
def Aay (r509 w510:AH) (ih:Aa) (h508:Hp) (x507 x495 x499 x9:IV) (r505 w506 r501 w502 r497 w498:AH) (x13:IV):OH :=
 Ad [] r509 w510 (Ak [] false false ih 24 [.fv (.int .i64 18),x507] h508 fun x511 h512 r513 w514=>Ad [] r513 w514 (Aw (Af EE 28 3 [(0,x495),(1,x499),(2,x511)]) 69231621 h512 fun x515 h516 r517 w518=>Ad [] r517 w518 (Abd x9 h516 r517 w518 r513 w514 r509 w510 r505 w506 r501 w502 r497 w498 ih x515 x13)))
def Wp (ih:Aa) (h496:Hp) (x495 x9:IV) (r497 w498:AH) (x13:IV):OH :=
 Ak [] false false ih 24 [.fv (.int .i64 14),.nils] h496 fun x499 h500 r501 w502=>Ad [] r501 w502 (Ak [] false false ih 24 [.fv (.int .i64 15),.nils] h500 fun x503 h504 r505 w506=>Ad [] r505 w506 (Aw (Af EE 28 1 [(0,x503)]) 69231619 h504 fun x507 h508 r509 w510=>Aay r509 w510 ih h508 x507 x495 x499 x9 r505 w506 r501 w502 r497 w498 x13))
def Abr (x414:IV) (h411:Hp) (x5 x9:IV) (ih:Aa) (x3 x0 x398 x13:IV):OH :=
 Aj x414 (Ai 3 x5 h411 fun x415 r416=>Ad [] r416 [] (Ww h411 x9 r416 ih x3 x0 x415 x5 x398 x13)) (Ak [] false false ih 64 [] h411 fun x495 h496 r497 w498=>Ad [] r497 w498 (Wp ih h496 x495 x9 r497 w498 x13))
def ZO (ih:Aa) (h59:Hp) (x396 x3 x5 x9 x0 x13:IV):OH :=
 Ak [] false false ih 55 [x396,.fv (.int .i64 4)] h59 fun x398 h399 _ _=>Kx EE 3 x3 (.fv (.int .i64 0)) fun x402=>Ab x402 true h399 (fun k403=>k403 x398 h399 [] []) fun x404 h405 _ _=>Ab x402 true h405 (fun k408=>Kx EE 3 x404 (.fv (.int .i64 1)) fun x409=>k408 x409 h405 [] []) fun x410 h411 _ _=>AF x402 x410 (.fv (.bool false)) fun x414=>Abr x414 h411 x5 x9 ih x3 x0 x398 x13
def YE (x380 x5:IV) (h59:Hp) (ih:Aa) (x13 x9 x3 x0:IV):OH :=
 Kx EE 3 x380 (.fv (.int .i64 0)) fun x382=>Aj x382 (Ac 1 x5 fun x383=>Ae x383 h59 fun x384 _=>Xq x384 ih h59 x13) (Ac 0 x9 fun x395=>Ae x395 h59 fun x396 _=>ZO ih h59 x396 x3 x5 x9 x0 x13)
def ZP (x270 x3:IV) (h59:Hp) (x9:IV) (ih:Aa) (x5 x0 x13:IV):OH :=
 Aj x270 (Kx EE 3 x3 (.fv (.int .i64 0)) fun x271=>Ab x271 true h59 (fun k272=>Ac 0 x9 fun x273=>k272 x273 h59 [] []) fun x274 h275 _ _=>Aag h275 x271 x274 ih x5 x9 x3 x0 x13) (Ac 1 x5 fun x379=>Ae x379 h59 fun x380 _=>YE x380 x5 h59 ih x13 x9 x3 x0)
def Abi (h59:Hp) (x189 x3 x9:IV) (ih:Aa) (x5 x0 x13:IV):OH :=
 Ae x189 h59 fun x190 _=>AZ EE 3 x190 (.fv (.int .i64 10)) fun x192=>Aj x192 (Kx EE 3 x3 (.fv (.int .i64 0)) fun x193=>WF h59 x193 x9 ih x5 x3 x0 x13) (AZ EE 3 x190 (.fv (.int .i64 14)) fun x270=>ZP x270 x3 h59 x9 ih x5 x0 x13)
def Yu (h53:Hp) (x42 x52:IV) (ih:Aa) (x9 x3 x0 x5 x13:IV):OH :=
 Ab x42 true h53 (fun k56=>Ig EE 3 x52 (.fv (.int .i64 2)) fun x57=>k56 x57 h53 [] []) fun x58 h59 _ _=>AF x42 x58 (.fv (.bool false)) fun x62=>Aj x62 (Ak [] false false ih 64 [] h59 fun x63 h64 r65 w66=>WD r65 w66 h64 x9 ih x3 x0 x63 x5 x13) (Ac 0 x5 fun x189=>Abi h59 x189 x3 x9 ih x5 x0 x13)
def VF (h28:Hp) (x17:IV) (ih:Aa) (x27 x5 x9 x3 x0 x13:IV):OH :=
 Ab x17 true h28 (fun k31=>Ak [] false false ih 55 [x27,.fv (.int .i64 5)] h28 k31) fun x32 h33 _ _=>Ab x17 true h33 (fun k36=>AZ EE 3 x32 (.fv (.int .i64 4)) fun x37=>k36 x37 h33 [] []) fun x38 h39 _ _=>AF x17 x38 (.fv (.bool false)) fun x42=>Ab x42 true h39 (fun k43=>Ac 0 x5 fun x44=>k43 x44 h39 [] []) fun x45 h46 _ _=>Ab x42 true h46 (fun k49=>Ae x45 h46 fun x50 r51=>k49 x50 h46 r51 []) fun x52 h53 _ _=>Yu h53 x42 x52 ih x9 x3 x0 x5 x13
def S66 (ih:Aa) (n:Nat) (x0 x1 x2 x3:IV) (h4:Hp):OH :=
 Bg 69206016 x1 h4 fun x5 h6 _ _=>Bg 69206017 x2 h6 fun x9 h10 _ _=>AK 69206018 (.row [.fv (.int .i64 0),.fv (.int .i64 0),.nils] false) (.ptr (.own 69206018) 0) h10 fun x13 h14 _ _=>Kx EE 3 x3 (.fv (.int .i64 0)) fun x17=>Ab x17 true h14 (fun k18=>Ac 0 x9 fun x19=>k18 x19 h14 [] []) fun x20 h21 _ _=>Ab x17 true h21 (fun k24=>Ae x20 h21 fun x25 r26=>k24 x25 h21 r26 []) fun x27 h28 _ _=>VF h28 x17 ih x27 x5 x9 x3 x0 x13
theorem Akb (ih:Aa) (n:Nat) (x0 x1 x2 x3:IV) (h4:Hp):AD EE ih ft.get n 66 [x0,x1,x2,x3] h4=S66 ih n x0 x1 x2 x3 h4:=by kernel_rfl
def AcG (h21:Hp) (x12 x20:IV):OH :=
 Al 3 x12 x20 h21 fun h24 _ _=>AE true 3 x12 h24 fun x27=>An [x27] h24
def S67 (ih:Aa) (n:Nat) (x0 x1 x2:IV) (h3:Hp):OH :=
 Bg 70254592 x0 h3 fun x4 h5 _ _=>Bg 70254593 x2 h5 fun x8 h9 _ _=>AK 70254594 (.row [.fv (.int .i64 0),.fv (.int .i64 0),.nils] false) (.ptr (.own 70254594) 0) h9 fun x12 h13 _ _=>Ai 3 x4 h13 fun x16 _=>Ai 3 x8 h13 fun x18 _=>Ak [] false false ih 90 [x16,x1,.fv (.int .i64 0),x18] h13 fun x20 h21 _ _=>AcG h21 x12 x20
theorem Aky (ih:Aa) (n:Nat) (x0 x1 x2:IV) (h3:Hp):AD EE ih ft.get n 67 [x0,x1,x2] h3=S67 ih n x0 x1 x2 h3:=by kernel_rfl
def Q9 (x108:IV) (h109:Hp) (x93:IV) (h3:Hp) (x89 x90 x91 x92:IV) (q86:List IV→Hp→OH):OH :=
 Ig EE 36 x108 (.fv (.int .i64 0)) fun x112=>Aj x112 (An [x108] h109) (Bz EE 3 x93 (.fv (.int .i64 1)) fun x113=>Bs (h3.own.map (·.1)) [71311362] [x89,x90,x91,x92,x113] h109 fun h114=>q86 [x89,x90,x91,x92,x113] h114)
def Sb (h88:Hp) (x96 x90:IV) (ih:Aa) (x89 x93:IV) (h3:Hp) (x91 x92:IV) (q86:List IV→Hp→OH):OH :=
 AK 71311362 (.row [.fv (.int .i64 0),.fv (.int .i64 0),.nils] false) (.ptr (.own 71311362) 0) h88 fun x98 h99 _ _=>Al 3 x98 x96 h99 fun h102 _ _=>Ai 3 x98 h102 fun x105 _=>Bz EE 3 x90 (.fv (.int .i64 1)) fun x107=>Ak [false,true,false] false false ih 68 [x105,x89,x107] h102 fun x108 h109 _ _=>Q9 x108 h109 x93 h3 x89 x90 x91 x92 q86
def P9 (x93 x92 x91:IV) (h88:Hp) (x90:IV) (ih:Aa) (x89:IV) (h3:Hp) (q86:List IV→Hp→OH):OH :=
 G6 EE 3 x93 x92 fun x94=>Aj x94 (Bf 3 x91 x93 fun x95=>Ai 3 x95 h88 fun x96 _=>Sb h88 x96 x90 ih x89 x93 h3 x91 x92 q86) (An [.fv (.int .i64 0)] h88)
def Yg (l87:List IV) (h88:Hp) (ih:Aa) (h3:Hp) (q86:List IV→Hp→OH):OH :=
 AA l87 fun x89 l115=>AA l115 fun x90 l116=>AA l116 fun x91 l117=>AA l117 fun x92 l118=>AA l118 fun x93 _=>P9 x93 x92 x91 h88 x90 ih x89 h3 q86
def Py (h78:Hp) (x82:IV) (h3:Hp) (x1 x2:IV) (n:Nat) (ih:Aa):OH :=
 Ae x82 h78 fun x83 _=>Ca x83 fun x85=>Bs (h3.own.map (·.1)) [71311362] [x1,x2,x83,x85,.fv (.int .i64 0)] h78 fun h120=>BD n (fun q86 l87 h88=>Yg l87 h88 ih h3 q86) [x1,x2,x83,x85,.fv (.int .i64 0)] h120
def Pi (r73 w74:AH) (h72:Hp) (x43 x71 x4:IV) (h3:Hp) (x1 x2:IV) (n:Nat) (ih:Aa):OH :=
 Ad [] r73 w74 (Ab x43 false h72 (fun k75=>DP (N8 .not x71) fun x76=>k75 x76 h72 [] []) fun x77 h78 _ _=>AF x43 (.fv (.bool true)) x77 fun x81=>Aj x81 (An [.fv (.int .i64 1)] h78) (Ac 2 x4 fun x82=>Py h78 x82 h3 x1 x2 n ih))
def R0 (r55 w56:AH) (h54:Hp) (x43 x4:IV) (ih:Aa) (x53:IV) (h3:Hp) (x1 x2:IV) (n:Nat):OH :=
 Ad [] r55 w56 (Ab x43 false h54 (fun k57=>Ac 1 x4 fun x58=>k57 x58 h54 [] []) fun x59 h60 _ _=>Ab x43 false h60 (fun k63=>Ae x59 h60 fun x64 r65=>k63 x64 h60 r65 []) fun x66 h67 r68 w69=>Ad [(r55,w56)] r68 w69 (Ab x43 false h67 (fun k70=>Ak [] false false ih 92 [x53,x66] h67 k70) fun x71 h72 r73 w74=>Pi r73 w74 h72 x43 x71 x4 h3 x1 x2 n ih))
def Rq (r41 r37 w38 r34:AH) (x40 x35:IV) (h36:Hp) (x4:IV) (ih:Aa) (h3:Hp) (x1 x2:IV) (n:Nat):OH :=
 Ad [(r37,w38),(r34,[])] r41 [] (Ca x40 fun x42=>Ig EE 3 x35 x42 fun x43=>Ab x43 false h36 (fun k44=>Ac 0 x4 fun x45=>k44 x45 h36 [] []) fun x46 h47 _ _=>Ab x43 false h47 (fun k50=>Ae x46 h47 fun x51 r52=>k50 x51 h47 r52 []) fun x53 h54 r55 w56=>R0 r55 w56 h54 x43 x4 ih x53 h3 x1 x2 n)
def Pu (r34:AH) (ih:Aa) (h28:Hp) (x33 x4:IV) (h3:Hp) (x1 x2:IV) (n:Nat):OH :=
 Ad [] r34 [] (Ak [] false false ih 91 [x33] h28 fun x35 h36 r37 w38=>Ad [] r37 w38 (Ac 2 x4 fun x39=>Ae x39 h36 fun x40 r41=>Rq r41 r37 w38 r34 x40 x35 h36 x4 ih h3 x1 x2 n))
def PS (x19 x27:IV) (h28:Hp) (x4:IV) (ih:Aa) (h3:Hp) (x1 x2:IV) (n:Nat):OH :=
 AF x19 (.fv (.bool true)) x27 fun x31=>Aj x31 (An [.fv (.int .i64 5)] h28) (Ac 0 x4 fun x32=>Ae x32 h28 fun x33 r34=>Pu r34 ih h28 x33 x4 h3 x1 x2 n)
def PN (x1:IV) (h13:Hp) (x2 x4:IV) (ih:Aa) (h3:Hp) (n:Nat):OH :=
 AC x1 fun x16=>Ae x16 h13 fun x17 _=>Kx EE 3 x17 (.fv (.int .i64 3000)) fun x19=>Ab x19 false h13 (fun k20=>k20 x2 h13 [] []) fun x21 h22 _ _=>Ab x19 false h22 (fun k25=>Kx EE 3 x21 (.fv (.int .i64 120)) fun x26=>k25 x26 h22 [] []) fun x27 h28 _ _=>PS x19 x27 h28 x4 ih h3 x1 x2 n
def S68 (ih:Aa) (n:Nat) (x0 x1 x2:IV) (h3:Hp):OH :=
 Bg 71303168 x0 h3 fun x4 h5 _ _=>AC x1 fun x8=>Ae x8 h5 fun x9 _=>Bz EE 3 x9 (.fv (.int .i64 1)) fun x11=>AC x1 fun x12=>Bj x12 x11 h5 fun h13 _ _=>PN x1 h13 x2 x4 ih h3 n
theorem Ak7 (ih:Aa) (n:Nat) (x0 x1 x2:IV) (h3:Hp):AD EE ih ft.get n 68 [x0,x1,x2] h3=S68 ih n x0 x1 x2 h3:=by kernel_rfl
def JZ (h1 h119:Hp) (x102 x103 x123:IV) (q99:List IV→Hp→OH):OH :=
 Bs (h1.own.map (·.1)) [72357890] [x102,x103,x123] h119 fun h124=>q99 [x102,x103,x123] h124
def JA (ih:Aa) (h113:Hp) (x116 x104:IV) (h1:Hp) (x102 x103:IV) (q99:List IV→Hp→OH):OH :=
 Ak [] false false ih 69 [x116] h113 fun x118 h119 _ _=>DP (N8 .not x118) fun x122=>Aj x122 (An [.fv (.bool false)] h119) (Bz EE 3 x104 (.fv (.int .i64 1)) fun x123=>JZ h1 h119 x102 x103 x123 q99)
def JF (x102 x104:IV) (h101:Hp) (ih:Aa) (h1:Hp) (x103:IV) (q99:List IV→Hp→OH):OH :=
 Bf 3 x102 x104 fun x106=>Ai 3 x106 h101 fun x107 _=>AK 72357890 (.row [.fv (.int .i64 0),.fv (.int .i64 0),.nils] false) (.ptr (.own 72357890) 0) h101 fun x109 h110 _ _=>Al 3 x109 x107 h110 fun h113 _ _=>Ai 3 x109 h113 fun x116 _=>JA ih h113 x116 x104 h1 x102 x103 q99
def JS (l100:List IV) (h101:Hp) (ih:Aa) (h1:Hp) (q99:List IV→Hp→OH):OH :=
 AA l100 fun x102 l125=>AA l125 fun x103 l126=>AA l126 fun x104 _=>G6 EE 3 x104 x103 fun x105=>Aj x105 (JF x102 x104 h101 ih h1 x103 q99) (An [.fv (.bool true)] h101)
def J4 (x2:IV) (h91 h1:Hp) (n:Nat) (ih:Aa):OH :=
 Ac 2 x2 fun x95=>Ae x95 h91 fun x96 _=>Ca x96 fun x98=>Bs (h1.own.map (·.1)) [72357890] [x96,x98,.fv (.int .i64 0)] h91 fun h128=>BD n (fun q99 l100 h101=>JS l100 h101 ih h1 q99) [x96,x98,.fv (.int .i64 0)] h128
def Jg (h72:Hp) (x65 x71 x44 x2:IV) (h1:Hp) (n:Nat) (ih:Aa):OH :=
 Ab x65 true h72 (fun k75=>Ae x71 h72 fun x76 r77=>k75 x76 h72 r77 []) fun x78 h79 _ _=>Ab x65 true h79 (fun k82=>G6 EE 3 x78 (.fv (.int .i64 0)) fun x83=>k82 x83 h79 [] []) fun x84 h85 _ _=>Ab x44 false h85 (fun k88=>AF x65 x84 (.fv (.bool false)) fun x89=>k88 x89 h85 [] []) fun x90 h91 _ _=>AF x44 (.fv (.bool true)) x90 fun x94=>Aj x94 (An [.fv (.bool false)] h91) (J4 x2 h91 h1 n ih)
def Ka (h41:Hp) (x44 x2:IV) (h1:Hp) (n:Nat) (ih:Aa):OH :=
 Ab x44 false h41 (fun k45=>Ac 0 x2 fun x46=>k45 x46 h41 [] []) fun x47 h48 _ _=>Ab x44 false h48 (fun k51=>Ae x47 h48 fun x52 r53=>k51 x52 h48 r53 []) fun x54 h55 _ _=>Ab x44 false h55 (fun k58=>AZ EE 3 x54 (.fv (.int .i64 1)) fun x59=>k58 x59 h55 [] []) fun x60 h61 _ _=>Ab x44 false h61 (fun k64=>k64 x60 h61 [] []) fun x65 h66 _ _=>Ab x65 true h66 (fun k69=>Ac 1 x2 fun x70=>k69 x70 h66 [] []) fun x71 h72 _ _=>Jg h72 x65 x71 x44 x2 h1 n ih
def Jr (h16:Hp) (x13 x2 x15:IV) (h1:Hp) (n:Nat) (ih:Aa):OH :=
 Ab x13 true h16 (fun k19=>Ac 2 x2 fun x20=>k19 x20 h16 [] []) fun x21 h22 _ _=>Ab x13 true h22 (fun k25=>Ae x21 h22 fun x26 r27=>k25 x26 h22 r27 []) fun x28 h29 _ _=>Ab x13 true h29 (fun k32=>Ca x28 fun x33=>k32 x33 h29 [] []) fun x34 h35 _ _=>Ab x13 true h35 (fun k38=>Ig EE 3 x15 x34 fun x39=>k38 x39 h35 [] []) fun x40 h41 _ _=>AF x13 x40 (.fv (.bool false)) fun x44=>Ka h41 x44 x2 h1 n ih
def S69 (ih:Aa) (n:Nat) (x0:IV) (h1:Hp):OH :=
 Bg 72351744 x0 h1 fun x2 h3 _ _=>Ac 0 x2 fun x6=>Ae x6 h3 fun x7 _=>Ak [] false false ih 93 [x7] h3 fun x9 h10 _ _=>geS EE 3 x9 (.fv (.int .i64 0)) fun x13=>Ab x13 true h10 (fun k14=>k14 x9 h10 [] []) fun x15 h16 _ _=>Jr h16 x13 x2 x15 h1 n ih
theorem AiH (ih:Aa) (n:Nat) (x0:IV) (h1:Hp):AD EE ih ft.get n 69 [x0] h1=S69 ih n x0 h1:=by kernel_rfl
def Rp (x2:IV) (h61:Hp) (x6:IV):OH :=
 AC x2 fun x64=>Ac 4 x64 fun x65=>Bj x65 x6 h61 fun h66 _ _=>An [x2] h66
def P4 (x46:IV) (h47:Hp) (x6 x2:IV):OH :=
 Bw [.fv (.nilf)] [(0,1,x46)] fun x50=>Aw (BX EE 98 x6 (.fv (.int .i64 30)) x50) 73402389 h47 fun _ h52 _ _=>Aw (val (CM (.func 98) [x2] [])) 73402391 h52 fun x55 h56 _ _=>Bw [.fv (.nilf)] [(0,1,x55)] fun x59=>Aw (BX EE 98 x6 (.fv (.int .i64 19)) x59) 73402393 h56 fun _ h61 _ _=>Rp x2 h61 x6
def Sd (h29:Hp) (x6 x32 x2:IV):OH :=
 Aw (BX EE 98 x6 (.fv (.int .i64 9)) x32) 73402381 h29 fun _ h34 _ _=>Aw (val (CM (.func 96) [x2] [])) 73402383 h34 fun x37 h38 _ _=>Bw [.fv (.nilf)] [(0,1,x37)] fun x41=>Aw (BX EE 98 x6 (.fv (.int .i64 13)) x41) 73402385 h38 fun _ h43 _ _=>Aw (val (CM (.func 97) [x2] [])) 73402387 h43 fun x46 h47 _ _=>P4 x46 h47 x6 x2
def Uo (h16:Hp) (x2 x6:IV):OH :=
 Aw (val (CM (.func 95) [x2] [])) 73402375 h16 fun x19 h20 _ _=>Bw [.fv (.nilf)] [(0,1,x19)] fun x23=>Aw (BX EE 98 x6 (.fv (.int .i64 8)) x23) 73402377 h20 fun _ h25 _ _=>Aw (val (CM (.func 95) [x2] [])) 73402379 h25 fun x28 h29 _ _=>Bw [.fv (.nilf)] [(0,1,x28)] fun x32=>Sd h29 x6 x32 x2
def S70 (ih:Aa) (n:Nat) (h0:Hp):OH :=
 Bw [.fv (.int .i64 0),.fv (.int .i64 0),.fv (.int .i64 0),.fv (.int .i64 0),.dead] [(0,1,.fv (.int .i64 100000)),(1,1,.fv (.int .i64 5000000))] fun x1=>Bg 73401345 x1 h0 fun x2 h3 _ _=>Aw (Gl 73402369) 73402369 h3 fun x6 h7 _ _=>Aw (val (CM (.func 94) [x2] [])) 73402371 h7 fun x10 h11 _ _=>Bw [.fv (.nilf)] [(0,1,x10)] fun x14=>Aw (BX EE 98 x6 (.fv (.int .i64 5)) x14) 73402373 h11 fun _ h16 _ _=>Uo h16 x2 x6
theorem Akl (ih:Aa) (n:Nat) (h0:Hp):AD EE ih ft.get n 70 [] h0=S70 ih n h0:=by kernel_rfl
def LC (x4:IV) (h9:Hp) (ih:Aa) (x1:IV):OH :=
 Ac 1 x4 fun x16=>Ae x16 h9 fun x17 _=>Ak [] false false ih 100 [x1,x17] h9 fun x19 h20 _ _=>An [x19] h20
def LQ (x62:IV) (h3 h65:Hp) (x56 x57 x58 x59 x60 x61:IV) (q53:List IV→Hp→OH):OH :=
 Bz EE 3 x62 (.fv (.int .i64 1)) fun x66=>Bs (h3.own.map (·.1)) [74458115] [x56,x57,x58,x59,x60,x61,x66] h65 fun h67=>q53 [x56,x57,x58,x59,x60,x61,x66] h67
def Lz (ih:Aa) (h82:Hp) (x56 x57 x90:IV) (r89:AH) (x88 x62:IV) (j0_64:Hp→OH):OH :=
 Ak [true,false,false] false false ih 71 [x56,x57,x90] h82 fun x92 h93 r94 w95=>Ad [(r89,[])] r94 w95 (Bf 1 x88 x62 fun x96=>Bj x96 x92 h93 fun h97 r98 w99=>Ad [] r98 w99 (j0_64 h97))
def LB (x86:IV) (h82:Hp) (x71:IV) (ih:Aa) (x56 x57 x62:IV) (j0_64:Hp→OH):OH :=
 Ac 2 x86 fun x87=>Ae x87 h82 fun x88 r89=>Ad [] r89 [] (Ai 3 x71 h82 fun x90 r91=>Ad [(r89,[])] r91 [] (Lz ih h82 x56 x57 x90 r89 x88 x62 j0_64))
def LL (h75:Hp) (x78:IV) (ih:Aa) (x62 x59 x71 x56 x57:IV) (j0_64:Hp→OH):OH :=
 Ae x78 h75 fun x79 _=>Ak [] false false ih 101 [x79,x62] h75 fun x81 h82 _ _=>AZ EE 3 x81 (.fv (.int .i64 0)) fun x85=>Aj x85 (AC x59 fun x86=>LB x86 h82 x71 ih x56 x57 x62 j0_64) (j0_64 h82)
def LY (x60 x62:IV) (h55:Hp) (x58:IV) (ih:Aa) (x59 x56 x57:IV) (j0_64:Hp→OH):OH :=
 Bf 3 x60 x62 fun x68=>Ai 3 x68 h55 fun x69 _=>AK 74458115 (.row [.fv (.int .i64 0),.fv (.int .i64 0),.nils] false) (.ptr (.own 74458115) 0) h55 fun x71 h72 _ _=>Al 3 x71 x69 h72 fun h75 _ _=>Ac 0 x58 fun x78=>LL h75 x78 ih x62 x59 x71 x56 x57 j0_64
def LN (x100:IV) (h55:Hp) (x59:IV) (ih:Aa) (x56:IV):OH :=
 Ac 3 x100 fun x101=>Ae x101 h55 fun x102 _=>Ig EE 36 x102 (.fv (.int .i64 0)) fun x104=>Aj x104 (An [x59] h55) (Ak [true,false] false false ih 102 [x56,x59] h55 fun x105 h106 _ _=>An [x105] h106)
def LI (l113:List IV) (h3:Hp) (x56 x57 x58 x59 x60:IV) (q53:List IV→Hp→OH) (h55:Hp) (ih:Aa):OH :=
 AA l113 fun x61 l114=>AA l114 fun x62 _=>G6 EE 3 x62 x61 fun x63=>Aj x63 ((fun (j0_64:Hp→OH)=>LY x60 x62 h55 x58 ih x59 x56 x57 j0_64) fun h65=>LQ x62 h3 h65 x56 x57 x58 x59 x60 x61 q53) (AC x56 fun x100=>LN x100 h55 x59 ih x56)
def Zk (l54:List IV) (h3:Hp) (q53:List IV→Hp→OH) (h55:Hp) (ih:Aa):OH :=
 AA l54 fun x56 l109=>AA l109 fun x57 l110=>AA l110 fun x58 l111=>AA l111 fun x59 l112=>AA l112 fun x60 l113=>LI l113 h3 x56 x57 x58 x59 x60 q53 h55 ih
def LD (x50:IV) (h3 h41:Hp) (x0 x1 x4 x40:IV) (n:Nat) (ih:Aa):OH :=
 Ca x50 fun x52=>Bs (h3.own.map (·.1)) [74458115] [x0,x1,x4,x40,x50,x52,.fv (.int .i64 0)] h41 fun h116=>BD n (fun q53 l54 h55=>Zk l54 h3 q53 h55 ih) [x0,x1,x4,x40,x50,x52,.fv (.int .i64 0)] h116
def Ls (x46:IV) (h41:Hp) (x40 x4:IV) (h3:Hp) (x0 x1:IV) (n:Nat) (ih:Aa):OH :=
 Ig EE 36 x46 (.fv (.int .i64 0)) fun x48=>Aj x48 (An [x40] h41) (Ac 2 x4 fun x49=>Ae x49 h41 fun x50 _=>LD x50 h3 h41 x0 x1 x4 x40 n ih)
def LG (h34:Hp) (x39 x0 x4:IV) (h3:Hp) (x1:IV) (n:Nat) (ih:Aa):OH :=
 Bg 74453003 x39 h34 fun x40 h41 r42 w43=>Ad [] r42 w43 (AC x0 fun x44=>Ac 3 x44 fun x45=>Ae x45 h41 fun x46 _=>Ls x46 h41 x40 x4 h3 x0 x1 n ih)
def L8 (h9:Hp) (x32:IV) (r28 r25:AH) (x4:IV) (r31:AH) (x24 x27 x1 x0:IV) (h3:Hp) (n:Nat) (ih:Aa):OH :=
 Aw (BK EE 74452999 127 x32 x32) 74452999 h9 fun x33 h34 r35 w36=>Ad [(r28,[]),(r25,[])] r35 w36 (Ai 3 x4 h34 fun x37 r38=>Ad [(r35,w36),(r31,[]),(r28,[]),(r25,[])] r38 [] (Bw [.fv (.int .i64 0),.fv (.int .i64 0),.nils,.fv (.int .i64 0),.fv (.int .i64 0),.nils,.fv (.nilp)] [(0,1,x24),(1,1,x27),(2,1,x33),(3,3,x37),(6,1,x1)] fun x39=>LG h34 x39 x0 x4 h3 x1 n ih))
def L7 (r28 r25:AH) (x4:IV) (h9:Hp) (x24 x27 x1 x0:IV) (h3:Hp) (n:Nat) (ih:Aa):OH :=
 Ad [(r25,[])] r28 [] (Ac 2 x4 fun x29=>Ae x29 h9 fun x30 r31=>Ad [(r28,[]),(r25,[])] r31 [] (Ca x30 fun x32=>L8 h9 x32 r28 r25 x4 r31 x24 x27 x1 x0 h3 n ih))
def LM (x4:IV) (h9:Hp) (x1 x0:IV) (h3:Hp) (n:Nat) (ih:Aa):OH :=
 Ac 0 x4 fun x23=>Ae x23 h9 fun x24 r25=>Ad [] r25 [] (Ac 1 x4 fun x26=>Ae x26 h9 fun x27 r28=>L7 r28 r25 x4 h9 x24 x27 x1 x0 h3 n ih)
def S71 (ih:Aa) (n:Nat) (x0 x1 x2:IV) (h3:Hp):OH :=
 Bg 74448896 x2 h3 fun x4 h5 _ _=>Ak [true] false false ih 99 [x0] h5 fun _ h9 _ _=>Ac 0 x4 fun x12=>Ae x12 h9 fun x13 _=>AZ EE 3 x13 (.fv (.int .i64 1)) fun x15=>Aj x15 (LC x4 h9 ih x1) (LM x4 h9 x1 x0 h3 n ih)
theorem AiM (ih:Aa) (n:Nat) (x0 x1 x2:IV) (h3:Hp):AD EE ih ft.get n 71 [x0,x1,x2] h3=S71 ih n x0 x1 x2 h3:=by kernel_rfl
end
end Idl
end Go.Proofs.Ytkfecngimlcfoaa

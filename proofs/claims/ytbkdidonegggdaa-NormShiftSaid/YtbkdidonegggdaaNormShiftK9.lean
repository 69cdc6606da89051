/-
  Texts of a proof, part 9: an ideal semantics of the program, its functions in shallow form, contracts of them. No statement of the seat is proved here.
-/
import Derived.Test.YtbkdidonegggdaaNormShiftK8
set_option linter.all false
set_option maxRecDepth 100000
set_option linter.unusedVariables false
namespace Go.Proofs.Ytbkdidonegggdaa
namespace Idl
noncomputable section
def S62_135 (h28:Hp) (x13 x27:IV):OH :=
 storeA 3 x13 x27 h28 fun h31 _ _=>cellS true 3 x13 h31 fun x34=>outS1 [x34] h31
def S62_136 (x40:IV) (h14:Hp) (x13:IV):OH :=
 subS EE 3 x40 (.fv (.int .i64 1)) fun x42=>bldS [.fv (.int .i64 0),.fv (.int .i64 0),.nils] [(0,1,.fv (.int .i64 1)),(1,1,x42)] fun x43=>storeA 3 x13 x43 h14 fun h44 _ _=>cellS true 3 x13 h44 fun x47=>outS1 [x47] h44
def S62_137 (h50:Hp) (x13:IV):OH :=
 cellS true 3 x13 h50 fun x53=>outS1 [x53] h50
def S62_138 (x36 x1 x5:IV) (h14:Hp) (x13:IV):OH :=
 gtS EE 3 x36 x1 fun x38=>condS x38 (faddrS 1 x5 fun x39=>load1 x39 h14 fun x40 _=>S62_136 x40 h14 x13) (loadA 3 x5 h14 fun x48 _=>storeA 3 x13 x48 h14 fun h50 _ _=>S62_137 h50 x13)
def S62_139 (x22 x1:IV) (h14:Hp) (x9:IV) (ih:Handler) (x2 x13 x5:IV):OH :=
 eqS EE 3 x22 x1 fun x24=>condS x24 (loadA 3 x9 h14 fun x25 _=>isoS [] false false ih 31 [x25,x2,.fv (.int .i64 0)] h14 fun x27 h28 _ _=>S62_135 h28 x13 x27) (faddrS 1 x5 fun x35=>load1 x35 h14 fun x36 _=>S62_138 x36 x1 x5 h14 x13)
def S62_140 (x76:IV) (h112:Hp) (x111 x77:IV) (h4:Hp) (x71 x72 x73 x74 x75:IV) (q68:List IV→Hp→OH):OH :=
 faddrS 2 x76 fun x115=>store1 x115 x111 h112 fun h116 r117 w118=>chkS [] r117 w118 (addS EE 3 x77 (.fv (.int .i64 1)) fun x119=>dropS (h4.own.map (·.1)) [65024016] [x71,x72,x73,x74,x75,x76,x119] h116 fun h120=>q68 [x71,x72,x73,x74,x75,x76,x119] h120)
def S62_141 (r105 w106 r92:LRf) (h104:Hp) (x103 x91 x76 x77:IV) (h4:Hp) (x71 x72 x73 x74 x75:IV) (q68:List IV→Hp→OH):OH :=
 chkS [(r92,[])] r105 w106 (genS (pcBuildSlice EE 29 1 [(0,x103)]) 65024015 h104 fun x107 h108 r109 w110=>chkS [(r92,[])] r109 w110 (genS (builtinR EE 65024016 false .append [29,29] [x91,x107]) 65024016 h108 fun x111 h112 r113 w114=>chkS [] r113 w114 (S62_140 x76 h112 x111 x77 h4 x71 x72 x73 x74 x75 q68)))
def S62_142 (x71 x86 x72:IV) (h87:Hp) (x74:IV) (r98 r95 r92:LRf) (ih:Handler) (x97 x91 x76 x77:IV) (h4:Hp) (x73 x75:IV) (q68:List IV→Hp→OH):OH :=
 addS EE 3 x71 x86 fun x99=>addS EE 3 x72 x86 fun x100=>loadA 3 x74 h87 fun x101 r102=>chkS [(r98,[]),(r95,[]),(r92,[])] r102 [] (isoS [] false false ih 62 [x97,x99,x100,x101] h87 fun x103 h104 r105 w106=>S62_141 r105 w106 r92 h104 x103 x91 x76 x77 h4 x71 x72 x73 x74 x75 q68)
def S62_143 (h87:Hp) (x93:IV) (r92:LRf) (x77 x71 x86 x72 x74:IV) (ih:Handler) (x91 x76:IV) (h4:Hp) (x73 x75:IV) (q68:List IV→Hp→OH):OH :=
 load1 x93 h87 fun x94 r95=>chkS [(r92,[])] r95 [] (ixS 3 x94 x77 fun x96=>loadA 3 x96 h87 fun x97 r98=>chkS [(r92,[])] r98 [] (S62_142 x71 x86 x72 h87 x74 r98 r95 r92 ih x97 x91 x76 x77 h4 x73 x75 q68))
def S62_144 (ih:Handler) (h70:Hp) (x84 x77 x76 x73 x71 x72 x74:IV) (h4:Hp) (x75:IV) (q68:List IV→Hp→OH):OH :=
 isoS [] false false ih 63 [x84,x77] h70 fun x86 h87 _ _=>faddrS 2 x76 fun x90=>load1 x90 h87 fun x91 r92=>chkS [] r92 [] (faddrS 2 x73 fun x93=>S62_143 h87 x93 r92 x77 x71 x86 x72 x74 ih x91 x76 h4 x73 x75 q68)
def S62_145 (h123:Hp) (x75:IV):OH :=
 cellS true 3 x75 h123 fun x126=>outS1 [x126] h123
def S62_146 (x77 x81 x73:IV) (h70:Hp) (ih:Handler) (x76 x71 x72 x74:IV) (h4:Hp) (x75:IV) (q68:List IV→Hp→OH):OH :=
 ltS EE 3 x77 x81 fun x82=>condS x82 (faddrS 0 x73 fun x83=>load1 x83 h70 fun x84 _=>S62_144 ih h70 x84 x77 x76 x73 x71 x72 x74 h4 x75 q68) (loadA 3 x76 h70 fun x121 _=>storeA 3 x75 x121 h70 fun h123 _ _=>S62_145 h123 x75)
def S62_147 (l131:List IV) (x73:IV) (h70:Hp) (ih:Handler) (x71 x72 x74:IV) (h4:Hp) (x75:IV) (q68:List IV→Hp→OH):OH :=
 uncS l131 fun x76 l132=>uncS l132 fun x77 _=>faddrS 2 x73 fun x78=>load1 x78 h70 fun x79 _=>lenS x79 fun x81=>S62_146 x77 x81 x73 h70 ih x76 x71 x72 x74 h4 x75 q68
def S62_148 (l69:List IV) (h70:Hp) (ih:Handler) (h4:Hp) (q68:List IV→Hp→OH):OH :=
 uncS l69 fun x71 l127=>uncS l127 fun x72 l128=>uncS l128 fun x73 l129=>uncS l129 fun x74 l130=>uncS l130 fun x75 l131=>S62_147 l131 x73 h70 ih x71 x72 x74 h4 x75 q68
def S62_149 (h4 h65:Hp) (x1 x2 x5 x9 x13 x61:IV) (n:Nat) (ih:Handler):OH :=
 dropS (h4.own.map (·.1)) [65024016] [x1,x2,x5,x9,x13,x61,.fv (.int .i64 0)] h65 fun h134=>loopS n (fun q68 l69 h70=>S62_148 l69 h70 ih h4 q68) [x1,x2,x5,x9,x13,x61,.fv (.int .i64 0)] h134
def S62_150 (x5:IV) (h14:Hp) (x55:IV) (h4:Hp) (x1 x2 x9 x13:IV) (n:Nat) (ih:Handler):OH :=
 faddrS 1 x5 fun x57=>load1 x57 h14 fun x58 _=>bldS [.fv (.int .i64 0),.fv (.int .i64 0),.nils] [(0,1,x55),(1,1,x58)] fun x60=>newS 65018885 (.row [.fv (.int .i64 0),.fv (.int .i64 0),.nils] false) (.ptr (.own 65018885) 0) h14 fun x61 h62 _ _=>storeA 3 x61 x60 h62 fun h65 _ _=>S62_149 h4 h65 x1 x2 x5 x9 x13 x61 n ih
def S62_151 (x20 x5:IV) (h14:Hp) (x1 x9:IV) (ih:Handler) (x2 x13:IV) (h4:Hp) (n:Nat):OH :=
 condS x20 (faddrS 1 x5 fun x21=>load1 x21 h14 fun x22 _=>S62_139 x22 x1 h14 x9 ih x2 x13 x5) (faddrS 0 x5 fun x54=>load1 x54 h14 fun x55 _=>S62_150 x5 h14 x55 h4 x1 x2 x9 x13 n ih)
def S62 (ih:Handler) (n:Nat) (x0 x1 x2 x3:IV) (h4:Hp):OH :=
 boxS 65011712 x0 h4 fun x5 h6 _ _=>boxS 65011713 x3 h6 fun x9 h10 _ _=>newS 65011714 (.row [.fv (.int .i64 0),.fv (.int .i64 0),.nils] false) (.ptr (.own 65011714) 0) h10 fun x13 h14 _ _=>faddrS 0 x5 fun x17=>load1 x17 h14 fun x18 _=>eqS EE 3 x18 (.fv (.int .i64 1)) fun x20=>S62_151 x20 x5 h14 x1 x9 ih x2 x13 h4 n
theorem S62_ok (ih:Handler) (n:Nat) (x0 x1 x2 x3:IV) (h4:Hp):funS EE ih ft.get n 62 [x0,x1,x2,x3] h4=S62 ih n x0 x1 x2 x3 h4:=by kernel_rfl
def S63_18 (x1:IV) (h7:Hp) (j0_3:Hp→OH):OH :=
 eqS EE 3 x1 (.fv (.int .i64 0)) fun x10=>condS x10 (outS1 [.fv (.int .i64 1)] h7) (eqS EE 3 x1 (.fv (.int .i64 2)) fun x11=>condS x11 (outS1 [.fv (.int .i64 2)] h7) (j0_3 h7))
def S63_19 (x6 x1:IV) (h7:Hp) (j0_3:Hp→OH) (x0:IV):OH :=
 condS x6 (eqS EE 3 x1 (.fv (.int .i64 1)) fun x8=>condS x8 (outS1 [.fv (.int .i64 1)] h7) (j0_3 h7)) (eqS EE 3 x0 (.fv (.int .i64 13)) fun x9=>condS x9 (S63_18 x1 h7 j0_3) (j0_3 h7))
def S63_20 (x0:IV) (j1_5:IV→Hp→OH) (h2:Hp):OH :=
 eqS EE 3 x0 (.fv (.int .i64 29)) fun x17=>j1_5 x17 h2
def S63_21 (x0:IV) (j1_5:IV→Hp→OH) (h2:Hp):OH :=
 eqS EE 3 x0 (.fv (.int .i64 20)) fun x15=>condS x15 (j1_5 x15 h2) (eqS EE 3 x0 (.fv (.int .i64 28)) fun x16=>condS x16 (j1_5 x16 h2) (S63_20 x0 j1_5 h2))
def S63_22 (x13:IV) (j1_5:IV→Hp→OH) (h2:Hp) (x0:IV):OH :=
 condS x13 (j1_5 x13 h2) (eqS EE 3 x0 (.fv (.int .i64 6)) fun x14=>condS x14 (j1_5 x14 h2) (S63_21 x0 j1_5 h2))
def S63 (ih:Handler) (n:Nat) (x0 x1:IV) (h2:Hp):OH :=
 (fun (j0_3:Hp→OH)=>(fun (j1_5:IV→Hp→OH)=>eqS EE 3 x0 (.fv (.int .i64 3)) fun x12=>condS x12 (j1_5 x12 h2) (eqS EE 3 x0 (.fv (.int .i64 4)) fun x13=>S63_22 x13 j1_5 h2 x0)) fun x6 h7=>S63_19 x6 x1 h7 j0_3 x0) fun h4=>outS1 [.fv (.int .i64 0)] h4
theorem S63_ok (ih:Handler) (n:Nat) (x0 x1:IV) (h2:Hp):funS EE ih ft.get n 63 [x0,x1] h2=S63 ih n x0 x1 h2:=by kernel_rfl
def S64_498 (h128:Hp) (x13 x127:IV):OH :=
 cellS true 3 x13 h128 fun x131=>outS1 [x131,x127] h128
def S64_499 (h113:Hp) (x50 x72 x94 x13 x112:IV):OH :=
 guardS x50 true h113 (fun k116=>k116 x72 h113 [] []) fun x117 h118 _ _=>pickS x50 x117 (.fv (.bool false)) fun x121=>guardS x121 true h118 (fun k122=>k122 x94 h118 [] []) fun x123 h124 _ _=>pickS x121 x123 (.fv (.bool false)) fun x127=>storeA 3 x13 x112 h124 fun h128 _ _=>S64_498 h128 x13 x127
def S64_500 (h99:Hp) (x51 x73 x95:IV) (ih:Handler) (x50 x72 x94 x13:IV):OH :=
 loadA 3 x51 h99 fun x102 _=>loadA 3 x73 h99 fun x104 _=>loadA 3 x95 h99 fun x106 _=>genS (pcBuildSlice EE 29 3 [(0,x102),(1,x104),(2,x106)]) 67116035 h99 fun x108 h109 _ _=>isoS [] false false ih 27 [.fv (.int .i64 27),x108] h109 fun x112 h113 _ _=>S64_499 h113 x50 x72 x94 x13 x112
def S64_501 (x89:IV) (h90:Hp) (r91 w92 r86 w87 r83 r81:LRf) (x93 x51 x73:IV) (ih:Handler) (x50 x72 x13:IV):OH :=
 extS 1 x89 fun x94=>newS 67115018 (.row [.fv (.int .i64 0),.fv (.int .i64 0),.nils] false) (.ptr (.own 67115018) 0) h90 fun x95 h96 r97 w98=>chkS [(r91,w92),(r86,w87),(r83,[]),(r81,[])] r97 w98 (storeA 3 x95 x93 h96 fun h99 r100 w101=>chkS [] r100 w101 (S64_500 h99 x51 x73 x95 ih x50 x72 x94 x13))
def S64_502 (r86 w87 r81:LRf) (x3:IV) (ih:Handler) (h85:Hp) (x0 x80 x84:IV) (r83:LRf) (x51 x73 x50 x72 x13:IV):OH :=
 chkS [(r81,[])] r86 w87 (subS EE 3 x3 (.fv (.int .i64 2)) fun x88=>isoS [] false false ih 32 [x0,x80,x84,x88] h85 fun x89 h90 r91 w92=>chkS [] r91 w92 (extS 0 x89 fun x93=>S64_501 x89 h90 r91 w92 r86 w87 r83 r81 x93 x51 x73 ih x50 x72 x13))
def S64_503 (h77:Hp) (x5 x9:IV) (ih:Handler) (x3 x0 x51 x73 x50 x72 x13:IV):OH :=
 loadA 3 x5 h77 fun x80 r81=>chkS [] r81 [] (loadA 3 x9 h77 fun x82 r83=>chkS [(r81,[])] r83 [] (isoS [] false false ih 58 [x82,.fv (.int .i64 2)] h77 fun x84 h85 r86 w87=>S64_502 r86 w87 r81 x3 ih h85 x0 x80 x84 r83 x51 x73 x50 x72 x13))
def S64_504 (x67:IV) (h68:Hp) (r69 w70 r64 w65 r61 r59:LRf) (x71 x5 x9:IV) (ih:Handler) (x3 x0 x51 x50 x13:IV):OH :=
 extS 1 x67 fun x72=>newS 67113994 (.row [.fv (.int .i64 0),.fv (.int .i64 0),.nils] false) (.ptr (.own 67113994) 0) h68 fun x73 h74 r75 w76=>chkS [(r69,w70),(r64,w65),(r61,[]),(r59,[])] r75 w76 (storeA 3 x73 x71 h74 fun h77 r78 w79=>chkS [] r78 w79 (S64_503 h77 x5 x9 ih x3 x0 x51 x73 x50 x72 x13))
def S64_505 (r64 w65 r59:LRf) (x3:IV) (ih:Handler) (h63:Hp) (x0 x58 x62:IV) (r61:LRf) (x5 x9 x51 x50 x13:IV):OH :=
 chkS [(r59,[])] r64 w65 (subS EE 3 x3 (.fv (.int .i64 2)) fun x66=>isoS [] false false ih 32 [x0,x58,x62,x66] h63 fun x67 h68 r69 w70=>chkS [] r69 w70 (extS 0 x67 fun x71=>S64_504 x67 h68 r69 w70 r64 w65 r61 r59 x71 x5 x9 ih x3 x0 x51 x50 x13))
def S64_506 (h55:Hp) (x5 x9:IV) (ih:Handler) (x3 x0 x51 x50 x13:IV):OH :=
 loadA 3 x5 h55 fun x58 r59=>chkS [] r59 [] (loadA 3 x9 h55 fun x60 r61=>chkS [(r59,[])] r61 [] (isoS [] false false ih 58 [x60,.fv (.int .i64 1)] h55 fun x62 h63 r64 w65=>S64_505 r64 w65 r59 x3 ih h63 x0 x58 x62 r61 x5 x9 x51 x50 x13))
def S64_507 (x45:IV) (h46:Hp) (r47 w48 r42 w43 r39 r37:LRf) (x49 x5 x9:IV) (ih:Handler) (x3 x0 x13:IV):OH :=
 extS 1 x45 fun x50=>newS 67112970 (.row [.fv (.int .i64 0),.fv (.int .i64 0),.nils] false) (.ptr (.own 67112970) 0) h46 fun x51 h52 r53 w54=>chkS [(r47,w48),(r42,w43),(r39,[]),(r37,[])] r53 w54 (storeA 3 x51 x49 h52 fun h55 r56 w57=>chkS [] r56 w57 (S64_506 h55 x5 x9 ih x3 x0 x51 x50 x13))
def S64_508 (r42 w43 r37:LRf) (x3:IV) (ih:Handler) (h41:Hp) (x0 x36 x40:IV) (r39:LRf) (x5 x9 x13:IV):OH :=
 chkS [(r37,[])] r42 w43 (subS EE 3 x3 (.fv (.int .i64 2)) fun x44=>isoS [] false false ih 32 [x0,x36,x40,x44] h41 fun x45 h46 r47 w48=>chkS [] r47 w48 (extS 0 x45 fun x49=>S64_507 x45 h46 r47 w48 r42 w43 r39 r37 x49 x5 x9 ih x3 x0 x13))
def S64_509 (h32:Hp) (x21 x9:IV) (ih:Handler) (x3 x0 x5 x13:IV):OH :=
 loadA 3 x21 h32 fun x36 r37=>chkS [] r37 [] (loadA 3 x9 h32 fun x38 r39=>chkS [(r37,[])] r39 [] (isoS [] false false ih 58 [x38,.fv (.int .i64 0)] h32 fun x40 h41 r42 w43=>S64_508 r42 w43 r37 x3 ih h41 x0 x36 x40 r39 x5 x9 x13))
def S64_510 (h218:Hp) (x13 x212 x221:IV):OH :=
 storeA 3 x13 x212 h218 fun h222 _ _=>cellS true 3 x13 h222 fun x225=>outS1 [x225,x221] h222
def S64_511 (h201:Hp) (x197 x204:IV) (ih:Handler) (x164 x196 x13:IV):OH :=
 loadA 3 x197 h201 fun x206 _=>genS (pcBuildSlice EE 29 2 [(0,x204),(1,x206)]) 67121154 h201 fun x208 h209 _ _=>isoS [] false false ih 27 [.fv (.int .i64 28),x208] h209 fun x212 h213 _ _=>guardS x164 true h213 (fun k216=>k216 x196 h213 [] []) fun x217 h218 _ _=>pickS x164 x217 (.fv (.bool false)) fun x221=>S64_510 h218 x13 x212 x221
def S64_512 (h192:Hp) (r193 w194 r188 w189 r185 r182 w183 r179 r176 w177 r173:LRf) (x195 x165:IV) (ih:Handler) (x164 x196 x13:IV):OH :=
 newS 67120141 (.row [.fv (.int .i64 0),.fv (.int .i64 0),.nils] false) (.ptr (.own 67120141) 0) h192 fun x197 h198 r199 w200=>chkS [(r193,w194),(r188,w189),(r185,[]),(r182,w183),(r179,[]),(r176,w177),(r173,[])] r199 w200 (storeA 3 x197 x195 h198 fun h201 r202 w203=>chkS [] r202 w203 (loadA 3 x165 h201 fun x204 _=>S64_511 h201 x197 x204 ih x164 x196 x13))
def S64_513 (x3:IV) (ih:Handler) (h187:Hp) (x174 x180 x186:IV) (r188 w189 r185 r182 w183 r179 r176 w177 r173:LRf) (x165 x164 x13:IV):OH :=
 subS EE 3 x3 (.fv (.int .i64 2)) fun x190=>isoS [] false false ih 32 [x174,x180,x186,x190] h187 fun x191 h192 r193 w194=>chkS [] r193 w194 (extS 0 x191 fun x195=>extS 1 x191 fun x196=>S64_512 h192 r193 w194 r188 w189 r185 r182 w183 r179 r176 w177 r173 x195 x165 ih x164 x196 x13)
def S64_514 (r182 w183:LRf) (h181:Hp) (x9:IV) (r179 r176 w177 r173:LRf) (ih:Handler) (x3 x174 x180 x165 x164 x13:IV):OH :=
 chkS [] r182 w183 (loadA 3 x9 h181 fun x184 r185=>chkS [(r182,w183),(r179,[]),(r176,w177),(r173,[])] r185 [] (isoS [] false false ih 58 [x184,.fv (.int .i64 2)] h181 fun x186 h187 r188 w189=>chkS [] r188 w189 (S64_513 x3 ih h187 x174 x180 x186 r188 w189 r185 r182 w183 r179 r176 w177 r173 x165 x164 x13)))
def S64_515 (ih:Handler) (h169:Hp) (x0 x172 x5:IV) (r173:LRf) (x9 x3 x165 x164 x13:IV):OH :=
 isoS [] false false ih 29 [x0,.fv (.int .i64 0),x172] h169 fun x174 h175 r176 w177=>chkS [] r176 w177 (loadA 3 x5 h175 fun x178 r179=>chkS [(r176,w177),(r173,[])] r179 [] (isoS [] false false ih 31 [x178,.fv (.int .i64 1),.fv (.int .i64 0)] h175 fun x180 h181 r182 w183=>S64_514 r182 w183 h181 x9 r179 r176 w177 r173 ih x3 x174 x180 x165 x164 x13))
def S64_516 (r167 w168 r161 w162 r156 w157 r153 r151:LRf) (h166:Hp) (x165 x163 x143:IV) (ih:Handler) (x0 x5 x9 x3 x164 x13:IV):OH :=
 chkS [(r161,w162),(r156,w157),(r153,[]),(r151,[])] r167 w168 (storeA 3 x165 x163 h166 fun h169 r170 w171=>chkS [] r170 w171 (loadA 3 x143 h169 fun x172 r173=>chkS [] r173 [] (S64_515 ih h169 x0 x172 x5 r173 x9 x3 x165 x164 x13)))
def S64_517 (ih:Handler) (h155:Hp) (x0 x150 x154 x158:IV) (r156 w157 r153 r151:LRf) (x143 x5 x9 x3 x13:IV):OH :=
 isoS [] false false ih 32 [x0,x150,x154,x158] h155 fun x159 h160 r161 w162=>chkS [] r161 w162 (extS 0 x159 fun x163=>extS 1 x159 fun x164=>newS 67119114 (.row [.fv (.int .i64 0),.fv (.int .i64 0),.nils] false) (.ptr (.own 67119114) 0) h160 fun x165 h166 r167 w168=>S64_516 r167 w168 r161 w162 r156 w157 r153 r151 h166 x165 x163 x143 ih x0 x5 x9 x3 x164 x13)
def S64_518 (h147:Hp) (x9:IV) (r151:LRf) (ih:Handler) (x3 x0 x150 x143 x5 x13:IV):OH :=
 loadA 3 x9 h147 fun x152 r153=>chkS [(r151,[])] r153 [] (isoS [] false false ih 58 [x152,.fv (.int .i64 1)] h147 fun x154 h155 r156 w157=>chkS [(r151,[])] r156 w157 (subS EE 3 x3 (.fv (.int .i64 2)) fun x158=>S64_517 ih h155 x0 x150 x154 x158 r156 w157 r153 r151 x143 x5 x9 x3 x13))
def S64_519 (ih:Handler) (h136:Hp) (x135 x9 x3 x0 x5 x13:IV):OH :=
 isoS [] false false ih 33 [x135,.fv (.int .i64 1)] h136 fun x139 h140 _ _=>newS 67118083 (.row [.fv (.int .i64 0),.fv (.int .i64 0),.nils] false) (.ptr (.own 67118083) 0) h140 fun x143 h144 _ _=>storeA 3 x143 x139 h144 fun h147 _ _=>loadA 3 x143 h147 fun x150 r151=>chkS [] r151 [] (S64_518 h147 x9 r151 ih x3 x0 x150 x143 x5 x13)
def S64_520 (h317:Hp) (x258 x290 x13 x316:IV):OH :=
 guardS x258 true h317 (fun k320=>k320 x290 h317 [] []) fun x321 h322 _ _=>pickS x258 x321 (.fv (.bool false)) fun x325=>storeA 3 x13 x316 h322 fun h326 r327 w328=>chkS [] r327 w328 (cellS true 3 x13 h326 fun x329=>outS1 [x329,x325] h326)
def S64_521 (r311 r308 w309 r304 w305 r301 r299:LRf) (h307:Hp) (x306 x310:IV) (ih:Handler) (x258 x290 x13:IV):OH :=
 chkS [(r308,w309),(r304,w305),(r301,[]),(r299,[])] r311 [] (genS (pcBuildSlice EE 29 2 [(0,x306),(1,x310)]) 67126277 h307 fun x312 h313 r314 w315=>chkS [] r314 w315 (isoS [] false false ih 27 [.fv (.int .i64 21),x312] h313 fun x316 h317 r318 w319=>chkS [] r318 w319 (S64_520 h317 x258 x290 x13 x316)))
def S64_522 (h295:Hp) (x298 x300:IV) (ih:Handler) (x259:IV) (r301 r299:LRf) (x258 x290 x13:IV):OH :=
 genS (pcBuildSlice EE 29 2 [(0,x298),(1,x300)]) 67126274 h295 fun x302 h303 r304 w305=>chkS [] r304 w305 (isoS [] false false ih 27 [.fv (.int .i64 20),x302] h303 fun x306 h307 r308 w309=>chkS [] r308 w309 (loadA 3 x259 h307 fun x310 r311=>S64_521 r311 r308 w309 r304 w305 r301 r299 h307 x306 x310 ih x258 x290 x13))
def S64_523 (r296 w297:LRf) (h295:Hp) (x237 x291:IV) (ih:Handler) (x259 x258 x290 x13:IV):OH :=
 chkS [] r296 w297 (loadA 3 x237 h295 fun x298 r299=>chkS [] r299 [] (loadA 3 x291 h295 fun x300 r301=>chkS [(r299,[])] r301 [] (S64_522 h295 x298 x300 ih x259 r301 r299 x258 x290 x13)))
def S64_524 (x285:IV) (h286:Hp) (r287 w288 r282 w283 r279 r276 w277 r273 r270 w271 r267:LRf) (x237:IV) (ih:Handler) (x259 x258 x13:IV):OH :=
 extS 0 x285 fun x289=>extS 1 x285 fun x290=>newS 67125261 (.row [.fv (.int .i64 0),.fv (.int .i64 0),.nils] false) (.ptr (.own 67125261) 0) h286 fun x291 h292 r293 w294=>chkS [(r287,w288),(r282,w283),(r279,[]),(r276,w277),(r273,[]),(r270,w271),(r267,[])] r293 w294 (storeA 3 x291 x289 h292 fun h295 r296 w297=>S64_523 r296 w297 h295 x237 x291 ih x259 x258 x290 x13)
def S64_525 (ih:Handler) (h275:Hp) (x278 x3 x268 x274:IV) (r279 r276 w277 r273 r270 w271 r267:LRf) (x237 x259 x258 x13:IV):OH :=
 isoS [] false false ih 58 [x278,.fv (.int .i64 2)] h275 fun x280 h281 r282 w283=>chkS [] r282 w283 (subS EE 3 x3 (.fv (.int .i64 2)) fun x284=>isoS [] false false ih 32 [x268,x274,x280,x284] h281 fun x285 h286 r287 w288=>chkS [] r287 w288 (S64_524 x285 h286 r287 w288 r282 w283 r279 r276 w277 r273 r270 w271 r267 x237 ih x259 x258 x13))
def S64_526 (r273 r270 w271 r267:LRf) (ih:Handler) (h269:Hp) (x272 x9 x3 x268 x237 x259 x258 x13:IV):OH :=
 chkS [(r270,w271),(r267,[])] r273 [] (isoS [] false false ih 31 [x272,.fv (.int .i64 1),.fv (.int .i64 0)] h269 fun x274 h275 r276 w277=>chkS [] r276 w277 (loadA 3 x9 h275 fun x278 r279=>chkS [(r276,w277),(r273,[]),(r270,w271),(r267,[])] r279 [] (S64_525 ih h275 x278 x3 x268 x274 r279 r276 w277 r273 r270 w271 r267 x237 x259 x258 x13)))
def S64_527 (h263:Hp) (x237:IV) (ih:Handler) (x0 x5 x9 x3 x259 x258 x13:IV):OH :=
 loadA 3 x237 h263 fun x266 r267=>chkS [] r267 [] (isoS [] false false ih 29 [x0,.fv (.int .i64 0),x266] h263 fun x268 h269 r270 w271=>chkS [] r270 w271 (loadA 3 x5 h269 fun x272 r273=>S64_526 r273 r270 w271 r267 ih h269 x272 x9 x3 x268 x237 x259 x258 x13))
def S64_528 (x253:IV) (h254:Hp) (r255 w256 r250 w251 r247 r245:LRf) (x257 x237:IV) (ih:Handler) (x0 x5 x9 x3 x13:IV):OH :=
 extS 1 x253 fun x258=>newS 67124234 (.row [.fv (.int .i64 0),.fv (.int .i64 0),.nils] false) (.ptr (.own 67124234) 0) h254 fun x259 h260 r261 w262=>chkS [(r255,w256),(r250,w251),(r247,[]),(r245,[])] r261 w262 (storeA 3 x259 x257 h260 fun h263 r264 w265=>chkS [] r264 w265 (S64_527 h263 x237 ih x0 x5 x9 x3 x259 x258 x13))
def S64_529 (r250 w251 r245:LRf) (x3:IV) (ih:Handler) (h249:Hp) (x0 x244 x248:IV) (r247:LRf) (x237 x5 x9 x13:IV):OH :=
 chkS [(r245,[])] r250 w251 (subS EE 3 x3 (.fv (.int .i64 2)) fun x252=>isoS [] false false ih 32 [x0,x244,x248,x252] h249 fun x253 h254 r255 w256=>chkS [] r255 w256 (extS 0 x253 fun x257=>S64_528 x253 h254 r255 w256 r250 w251 r247 r245 x257 x237 ih x0 x5 x9 x3 x13))
def S64_530 (h241:Hp) (x237 x9:IV) (ih:Handler) (x3 x0 x5 x13:IV):OH :=
 loadA 3 x237 h241 fun x244 r245=>chkS [] r245 [] (loadA 3 x9 h241 fun x246 r247=>chkS [(r245,[])] r247 [] (isoS [] false false ih 58 [x246,.fv (.int .i64 1)] h241 fun x248 h249 r250 w251=>S64_529 r250 w251 r245 x3 ih h249 x0 x244 x248 r247 x237 x5 x9 x13))
def S64_531 (h32:Hp) (x9:IV) (ih:Handler) (x3 x0 x5 x13:IV):OH :=
 loadA 3 x9 h32 fun x227 _=>isoS [] false false ih 58 [x227,.fv (.int .i64 0)] h32 fun x229 h230 _ _=>isoS [] false false ih 33 [x229,.fv (.int .i64 1)] h230 fun x233 h234 _ _=>newS 67123203 (.row [.fv (.int .i64 0),.fv (.int .i64 0),.nils] false) (.ptr (.own 67123203) 0) h234 fun x237 h238 _ _=>storeA 3 x237 x233 h238 fun h241 _ _=>S64_530 h241 x237 x9 ih x3 x0 x5 x13
def S64_532 (x345 x396:IV) (h397:Hp) (x13 x391:IV):OH :=
 pickS x345 x396 (.fv (.bool false)) fun x400=>storeA 3 x13 x391 h397 fun h401 _ _=>cellS true 3 x13 h401 fun x404=>outS1 [x404,x400] h401
def S64_533 (h372:Hp) (x375 x377:IV) (ih:Handler) (x345 x367 x13:IV):OH :=
 genS (pcBuildSlice EE 29 2 [(0,x375),(1,x377)]) 67130370 h372 fun x379 h380 _ _=>isoS [] false false ih 27 [.fv (.int .i64 22),x379] h380 fun x383 h384 _ _=>genS (pcBuildSlice EE 29 1 [(0,x383)]) 67130372 h384 fun x387 h388 _ _=>isoS [] false false ih 27 [.fv (.int .i64 23),x387] h388 fun x391 h392 _ _=>guardS x345 true h392 (fun k395=>k395 x367 h392 [] []) fun x396 h397 _ _=>S64_532 x345 x396 h397 x13 x391
def S64_534 (r370 w371 r364 w365 r359 w360 r356 r354:LRf) (h369:Hp) (x368 x366 x346:IV) (ih:Handler) (x345 x367 x13:IV):OH :=
 chkS [(r364,w365),(r359,w360),(r356,[]),(r354,[])] r370 w371 (storeA 3 x368 x366 h369 fun h372 r373 w374=>chkS [] r373 w374 (loadA 3 x346 h372 fun x375 _=>loadA 3 x368 h372 fun x377 _=>S64_533 h372 x375 x377 ih x345 x367 x13))
def S64_535 (ih:Handler) (h358:Hp) (x0 x353 x357 x361:IV) (r359 w360 r356 r354:LRf) (x346 x345 x13:IV):OH :=
 isoS [] false false ih 32 [x0,x353,x357,x361] h358 fun x362 h363 r364 w365=>chkS [] r364 w365 (extS 0 x362 fun x366=>extS 1 x362 fun x367=>newS 67129354 (.row [.fv (.int .i64 0),.fv (.int .i64 0),.nils] false) (.ptr (.own 67129354) 0) h363 fun x368 h369 r370 w371=>S64_534 r370 w371 r364 w365 r359 w360 r356 r354 h369 x368 x366 x346 ih x345 x367 x13)
def S64_536 (h350:Hp) (x9:IV) (r354:LRf) (ih:Handler) (x3 x0 x353 x346 x345 x13:IV):OH :=
 loadA 3 x9 h350 fun x355 r356=>chkS [(r354,[])] r356 [] (isoS [] false false ih 58 [x355,.fv (.int .i64 1)] h350 fun x357 h358 r359 w360=>chkS [(r354,[])] r359 w360 (subS EE 3 x3 (.fv (.int .i64 2)) fun x361=>S64_535 ih h358 x0 x353 x357 x361 r359 w360 r356 r354 x346 x345 x13))
def S64_537 (r348 w349 r342 w343 r337 w338 r334 r332:LRf) (h347:Hp) (x346 x344 x21 x9:IV) (ih:Handler) (x3 x0 x345 x13:IV):OH :=
 chkS [(r342,w343),(r337,w338),(r334,[]),(r332,[])] r348 w349 (storeA 3 x346 x344 h347 fun h350 r351 w352=>chkS [] r351 w352 (loadA 3 x21 h350 fun x353 r354=>chkS [] r354 [] (S64_536 h350 x9 r354 ih x3 x0 x353 x346 x345 x13)))
def S64_538 (ih:Handler) (h336:Hp) (x0 x331 x335 x339:IV) (r337 w338 r334 r332:LRf) (x21 x9 x3 x13:IV):OH :=
 isoS [] false false ih 32 [x0,x331,x335,x339] h336 fun x340 h341 r342 w343=>chkS [] r342 w343 (extS 0 x340 fun x344=>extS 1 x340 fun x345=>newS 67128330 (.row [.fv (.int .i64 0),.fv (.int .i64 0),.nils] false) (.ptr (.own 67128330) 0) h341 fun x346 h347 r348 w349=>S64_537 r348 w349 r342 w343 r337 w338 r334 r332 h347 x346 x344 x21 x9 ih x3 x0 x345 x13)
def S64_539 (h32:Hp) (x9:IV) (r332:LRf) (ih:Handler) (x3 x0 x331 x21 x13:IV):OH :=
 loadA 3 x9 h32 fun x333 r334=>chkS [(r332,[])] r334 [] (isoS [] false false ih 58 [x333,.fv (.int .i64 0)] h32 fun x335 h336 r337 w338=>chkS [(r332,[])] r337 w338 (subS EE 3 x3 (.fv (.int .i64 2)) fun x339=>S64_538 ih h336 x0 x331 x335 x339 r337 w338 r334 r332 x21 x9 x3 x13))
def S64_540 (h447:Hp) (x13 x446 x430:IV):OH :=
 storeA 3 x13 x446 h447 fun h450 _ _=>cellS true 3 x13 h450 fun x453=>outS1 [x453,x430] h450
def S64_541 (r436 w437:LRf) (h435:Hp) (x5 x431:IV) (ih:Handler) (x13 x430:IV):OH :=
 chkS [] r436 w437 (loadA 3 x5 h435 fun x438 _=>loadA 3 x431 h435 fun x440 _=>genS (pcBuildSlice EE 29 2 [(0,x438),(1,x440)]) 67133442 h435 fun x442 h443 _ _=>isoS [] false false ih 27 [.fv (.int .i64 29),x442] h443 fun x446 h447 _ _=>S64_540 h447 x13 x446 x430)
def S64_542 (x425:IV) (h426:Hp) (r427 w428 r422 w423 r419 r416 w417 r413 r410 w411 r407:LRf) (x5:IV) (ih:Handler) (x13:IV):OH :=
 extS 0 x425 fun x429=>extS 1 x425 fun x430=>newS 67132429 (.row [.fv (.int .i64 0),.fv (.int .i64 0),.nils] false) (.ptr (.own 67132429) 0) h426 fun x431 h432 r433 w434=>chkS [(r427,w428),(r422,w423),(r419,[]),(r416,w417),(r413,[]),(r410,w411),(r407,[])] r433 w434 (storeA 3 x431 x429 h432 fun h435 r436 w437=>S64_541 r436 w437 h435 x5 x431 ih x13 x430)
def S64_543 (ih:Handler) (h415:Hp) (x418 x3 x408 x414:IV) (r419 r416 w417 r413 r410 w411 r407:LRf) (x5 x13:IV):OH :=
 isoS [] false false ih 58 [x418,.fv (.int .i64 0)] h415 fun x420 h421 r422 w423=>chkS [] r422 w423 (subS EE 3 x3 (.fv (.int .i64 2)) fun x424=>isoS [] false false ih 32 [x408,x414,x420,x424] h421 fun x425 h426 r427 w428=>chkS [] r427 w428 (S64_542 x425 h426 r427 w428 r422 w423 r419 r416 w417 r413 r410 w411 r407 x5 ih x13))
def S64_544 (r413 r410 w411 r407:LRf) (ih:Handler) (h409:Hp) (x412 x9 x3 x408 x5 x13:IV):OH :=
 chkS [(r410,w411),(r407,[])] r413 [] (isoS [] false false ih 31 [x412,.fv (.int .i64 1),.fv (.int .i64 0)] h409 fun x414 h415 r416 w417=>chkS [] r416 w417 (loadA 3 x9 h415 fun x418 r419=>chkS [(r416,w417),(r413,[]),(r410,w411),(r407,[])] r419 [] (S64_543 ih h415 x418 x3 x408 x414 r419 r416 w417 r413 r410 w411 r407 x5 x13)))
def S64_545 (h32:Hp) (x5:IV) (ih:Handler) (x0 x9 x3 x13:IV):OH :=
 loadA 3 x5 h32 fun x406 r407=>chkS [] r407 [] (isoS [] false false ih 29 [x0,.fv (.int .i64 0),x406] h32 fun x408 h409 r410 w411=>chkS [] r410 w411 (loadA 3 x5 h409 fun x412 r413=>S64_544 r413 r410 w411 r407 ih h409 x412 x9 x3 x408 x5 x13))
def S64_546 (h481:Hp) (x484:IV) (ih:Handler) (x13 x476:IV):OH :=
 genS (pcBuildSlice EE 29 1 [(0,x484)]) 67135489 h481 fun x486 h487 _ _=>isoS [] false false ih 27 [.fv (.int .i64 30),x486] h487 fun x490 h491 _ _=>storeA 3 x13 x490 h491 fun h494 _ _=>cellS true 3 x13 h494 fun x497=>outS1 [x497,x476] h494
def S64_547 (h472:Hp) (r473 w474 r468 w469 r465 r462 w463 r458 w459 r455:LRf) (x475:IV) (ih:Handler) (x13 x476:IV):OH :=
 newS 67134476 (.row [.fv (.int .i64 0),.fv (.int .i64 0),.nils] false) (.ptr (.own 67134476) 0) h472 fun x477 h478 r479 w480=>chkS [(r473,w474),(r468,w469),(r465,[]),(r462,w463),(r458,w459),(r455,[])] r479 w480 (storeA 3 x477 x475 h478 fun h481 r482 w483=>chkS [] r482 w483 (loadA 3 x477 h481 fun x484 _=>S64_546 h481 x484 ih x13 x476))
def S64_548 (x3:IV) (ih:Handler) (h467:Hp) (x0 x460 x466:IV) (r468 w469 r465 r462 w463 r458 w459 r455:LRf) (x13:IV):OH :=
 subS EE 3 x3 (.fv (.int .i64 1)) fun x470=>isoS [] false false ih 26 [x0,x460,x466,x470] h467 fun x471 h472 r473 w474=>chkS [] r473 w474 (extS 0 x471 fun x475=>extS 1 x471 fun x476=>S64_547 h472 r473 w474 r468 w469 r465 r462 w463 r458 w459 r455 x475 ih x13 x476)
def S64_549 (r462 w463:LRf) (h461:Hp) (x9:IV) (r458 w459 r455:LRf) (ih:Handler) (x3 x0 x460 x13:IV):OH :=
 chkS [] r462 w463 (loadA 3 x9 h461 fun x464 r465=>chkS [(r462,w463),(r458,w459),(r455,[])] r465 [] (isoS [] false false ih 58 [x464,.fv (.int .i64 0)] h461 fun x466 h467 r468 w469=>chkS [] r468 w469 (S64_548 x3 ih h467 x0 x460 x466 r468 w469 r465 r462 w463 r458 w459 r455 x13)))
def S64_550 (h32:Hp) (x5:IV) (ih:Handler) (x9 x3 x0 x13:IV):OH :=
 loadA 3 x5 h32 fun x454 r455=>chkS [] r455 [] (genS (pcBuildSlice EE 29 1 [(0,x454)]) 67134466 h32 fun x456 h457 r458 w459=>chkS [] r458 w459 (isoS [] false false ih 27 [.fv (.int .i64 18),x456] h457 fun x460 h461 r462 w463=>S64_549 r462 w463 h461 x9 r458 w459 r455 ih x3 x0 x460 x13))
def S64_551 (x31:IV) (h32:Hp) (x5 x9:IV) (ih:Handler) (x3 x0 x21 x13:IV):OH :=
 eqS EE 3 x31 (.fv (.int .i64 3)) fun x330=>condS x330 (loadA 3 x5 h32 fun x331 r332=>chkS [] r332 [] (S64_539 h32 x9 r332 ih x3 x0 x331 x21 x13)) (eqS EE 3 x31 (.fv (.int .i64 4)) fun x405=>condS x405 (S64_545 h32 x5 ih x0 x9 x3 x13) (S64_550 h32 x5 ih x9 x3 x0 x13))
def S64_552 (x31:IV) (h32:Hp) (x9:IV) (ih:Handler) (x3 x0 x5 x13 x21:IV):OH :=
 eqS EE 3 x31 (.fv (.int .i64 1)) fun x132=>condS x132 (loadA 3 x9 h32 fun x133 _=>isoS [] false false ih 58 [x133,.fv (.int .i64 0)] h32 fun x135 h136 _ _=>S64_519 ih h136 x135 x9 x3 x0 x5 x13) (eqS EE 3 x31 (.fv (.int .i64 2)) fun x226=>condS x226 (S64_531 h32 x9 ih x3 x0 x5 x13) (S64_551 x31 h32 x5 x9 ih x3 x0 x21 x13))
def S64_553 (x9:IV) (h25:Hp) (ih:Handler) (x21 x3 x0 x5 x13:IV):OH :=
 faddrS 1 x9 fun x28=>load1 x28 h25 fun x29 _=>isoS [] false false ih 55 [x29,.fv (.int .i64 7)] h25 fun x31 h32 _ _=>eqS EE 3 x31 (.fv (.int .i64 0)) fun x35=>condS x35 (S64_509 h32 x21 x9 ih x3 x0 x5 x13) (S64_552 x31 h32 x9 ih x3 x0 x5 x13 x21)
def S64 (ih:Handler) (n:Nat) (x0 x1 x2 x3:IV) (h4:Hp):OH :=
 boxS 67108864 x1 h4 fun x5 h6 _ _=>boxS 67108865 x2 h6 fun x9 h10 _ _=>newS 67108866 (.row [.fv (.int .i64 0),.fv (.int .i64 0),.nils] false) (.ptr (.own 67108866) 0) h10 fun x13 h14 _ _=>isoS [] false false ih 27 [.fv (.int .i64 15),.nils] h14 fun x17 h18 _ _=>newS 67109889 (.row [.fv (.int .i64 0),.fv (.int .i64 0),.nils] false) (.ptr (.own 67109889) 0) h18 fun x21 h22 _ _=>storeA 3 x21 x17 h22 fun h25 _ _=>S64_553 x9 h25 ih x21 x3 x0 x5 x13
theorem S64_ok (ih:Handler) (n:Nat) (x0 x1 x2 x3:IV) (h4:Hp):funS EE ih ft.get n 64 [x0,x1,x2,x3] h4=S64 ih n x0 x1 x2 x3 h4:=by kernel_rfl
def S68_48 (h4:Hp) (x11 x1:IV):OH :=
 load1 x11 h4 fun x12 _=>eqS EE 3 x12 x1 fun x14=>outS1 [x14] h4
def S68_49 (x18 x35:IV) (ih:Handler) (h36:Hp) (x30 x20:IV) (q15:List IV→Hp→OH) (x19:IV):OH :=
 addS EE 3 x18 x35 fun x39=>isoS [] false false ih 68 [x30,x39] h36 fun x40 h41 r42 w43=>chkS [] r42 w43 (condS x40 (outS1 [.fv (.bool true)] h41) (addS EE 3 x20 (.fv (.int .i64 1)) fun x44=>q15 [x18,x19,x44] h41))
def S68_50 (x19:IV) (h17:Hp) (r31 r28:LRf) (ih:Handler) (x20 x18 x30:IV) (q15:List IV→Hp→OH):OH :=
 faddrS 0 x19 fun x32=>load1 x32 h17 fun x33 r34=>chkS [(r31,[]),(r28,[])] r34 [] (isoS [] false false ih 63 [x33,x20] h17 fun x35 h36 r37 w38=>chkS [(r31,[]),(r28,[])] r37 w38 (S68_49 x18 x35 ih h36 x30 x20 q15 x19))
def S68_51 (h17:Hp) (x26 x20 x19:IV) (ih:Handler) (x18:IV) (q15:List IV→Hp→OH):OH :=
 load1 x26 h17 fun x27 r28=>chkS [] r28 [] (ixS 3 x27 x20 fun x29=>loadA 3 x29 h17 fun x30 r31=>chkS [] r31 [] (S68_50 x19 h17 r31 r28 ih x20 x18 x30 q15))
def S68_52 (x22 x20 x19:IV) (h17:Hp) (ih:Handler) (x18:IV) (q15:List IV→Hp→OH):OH :=
 lenS x22 fun x24=>ltS EE 3 x20 x24 fun x25=>condS x25 (faddrS 2 x19 fun x26=>S68_51 h17 x26 x20 x19 ih x18 q15) (outS1 [.fv (.bool false)] h17)
def S68_53 (l16:List IV) (h17:Hp) (ih:Handler) (q15:List IV→Hp→OH):OH :=
 uncS l16 fun x18 l45=>uncS l45 fun x19 l46=>uncS l46 fun x20 _=>faddrS 2 x19 fun x21=>load1 x21 h17 fun x22 _=>S68_52 x22 x20 x19 h17 ih x18 q15
def S68 (ih:Handler) (n:Nat) (x0 x1:IV) (h2:Hp):OH :=
 boxS 71303168 x0 h2 fun x3 h4 _ _=>faddrS 0 x3 fun x7=>load1 x7 h4 fun x8 _=>eqS EE 3 x8 (.fv (.int .i64 1)) fun x10=>condS x10 (faddrS 1 x3 fun x11=>S68_48 h4 x11 x1) (loopS n (fun q15 l16 h17=>S68_53 l16 h17 ih q15) [x1,x3,.fv (.int .i64 0)] h4)
theorem S68_ok (ih:Handler) (n:Nat) (x0 x1:IV) (h2:Hp):funS EE ih ft.get n 68 [x0,x1] h2=S68 ih n x0 x1 h2:=by kernel_rfl
def S69 (ih:Handler) (n:Nat) (x0 x1:IV) (h2:Hp):OH :=
 genS (pcBuildSlice EE 93 0 []) 72352768 h2 fun x3 h4 _ _=>genS (builtinR EE 72352770 false .append [93,93] [x3,x0]) 72352770 h4 fun x7 h8 _ _=>genS (builtinR EE 72352772 false .append [93,93] [x7,x1]) 72352772 h8 fun x11 h12 _ _=>outS1 [x11] h12
theorem S69_ok (ih:Handler) (n:Nat) (x0 x1:IV) (h2:Hp):funS EE ih ft.get n 69 [x0,x1] h2=S69 ih n x0 x1 h2:=by kernel_rfl
def S70_629 (r121 w122:LRf) (h120:Hp) (x119:IV):OH :=
 chkS [] r121 w122 (outS1 [x119] h120)
def S70_630 (h79:Hp) (x109:IV) (r103 r99:LRf) (ih:Handler) (x102 x0 x98:IV):OH :=
 genS (pcBuildSlice EE 93 1 [(0,x109)]) 73406479 h79 fun x111 h112 r113 w114=>chkS [(r103,[]),(r99,[])] r113 w114 (isoS [] false false ih 69 [x102,x111] h112 fun x115 h116 r117 w118=>chkS [(r99,[])] r117 w118 (isoS [true,false,false] false false ih 49 [x0,x98,x115] h116 fun x119 h120 r121 w122=>S70_629 r121 w122 h120 x119))
def S70_631 (h79:Hp) (x105:IV) (r103 r99:LRf) (ih:Handler) (x102 x0 x98:IV):OH :=
 load1 x105 h79 fun x106 r107=>chkS [(r103,[]),(r99,[])] r107 [] (ixS 1 x106 (.fv (.int .i64 1)) fun x108=>load1 x108 h79 fun x109 r110=>chkS [(r103,[]),(r99,[])] r110 [] (S70_630 h79 x109 r103 r99 ih x102 x0 x98))
def S70_632 (x100:IV) (h79:Hp) (r99:LRf) (x1:IV) (ih:Handler) (x0 x98:IV):OH :=
 faddrS 3 x100 fun x101=>load1 x101 h79 fun x102 r103=>chkS [(r99,[])] r103 [] (nilS x1 fun x104=>faddrS 2 x104 fun x105=>S70_631 h79 x105 r103 r99 ih x102 x0 x98)
def S70_633 (x94:IV) (h79:Hp) (x1:IV) (ih:Handler) (x0:IV):OH :=
 nilS x94 fun x96=>faddrS 4 x96 fun x97=>loadA 3 x97 h79 fun x98 r99=>chkS [] r99 [] (nilS x94 fun x100=>S70_632 x100 h79 r99 x1 ih x0 x98)
def S70_634 (x87:IV) (h79:Hp) (x1:IV) (ih:Handler) (x0:IV):OH :=
 nilS x87 fun x89=>faddrS 2 x89 fun x90=>load1 x90 h79 fun x91 _=>ixS 1 x91 (.fv (.int .i64 1)) fun x93=>load1 x93 h79 fun x94 _=>S70_633 x94 h79 x1 ih x0
def S70_635 (x1:IV) (h79:Hp) (ih:Handler) (x0:IV):OH :=
 nilS x1 fun x82=>faddrS 2 x82 fun x83=>load1 x83 h79 fun x84 _=>ixS 1 x84 (.fv (.int .i64 0)) fun x86=>load1 x86 h79 fun x87 _=>S70_634 x87 h79 x1 ih x0
def S70_636 (x235 x242:IV) (h223:Hp):OH :=
 ixS 1 x235 x242 fun x243=>load1 x243 h223 fun x244 r245=>chkS [] r245 [] (outS1 [x244] h223)
def S70_637 (x237:IV) (h223:Hp) (r236 r232 r229:LRf) (x235:IV):OH :=
 faddrS 0 x237 fun x238=>load1 x238 h223 fun x239 r240=>chkS [(r236,[]),(r232,[]),(r229,[])] r240 [] (addS EE 3 (.fv (.int .i64 1)) x239 fun x241=>subS EE 3 x241 (.fv (.int .i64 8)) fun x242=>S70_636 x235 x242 h223)
def S70_638 (x231:IV) (h223:Hp) (x1:IV) (r232 r229:LRf):OH :=
 nilS x231 fun x233=>faddrS 2 x233 fun x234=>load1 x234 h223 fun x235 r236=>chkS [] r236 [] (nilS x1 fun x237=>S70_637 x237 h223 r236 r232 r229 x235)
def S70_639 (h223:Hp) (x227 x1:IV):OH :=
 load1 x227 h223 fun x228 r229=>chkS [] r229 [] (ixS 1 x228 (.fv (.int .i64 0)) fun x230=>load1 x230 h223 fun x231 r232=>chkS [] r232 [] (S70_638 x231 h223 x1 r232 r229))
def S70_640 (ih:Handler) (h218:Hp) (x0 x1:IV) (j0_3:Hp→OH):OH :=
 isoS [true] false false ih 86 [x0] h218 fun x222 h223 _ _=>condS x222 (nilS x1 fun x226=>faddrS 2 x226 fun x227=>S70_639 h223 x227 x1) (j0_3 h223)
def S70_641 (x258:IV) (h250:Hp):OH :=
 nilS x258 fun x260=>faddrS 2 x260 fun x261=>load1 x261 h250 fun x262 _=>ixS 1 x262 (.fv (.int .i64 0)) fun x264=>load1 x264 h250 fun x265 _=>outS1 [x265] h250
def S70_642 (x1:IV) (h250:Hp):OH :=
 nilS x1 fun x253=>faddrS 2 x253 fun x254=>load1 x254 h250 fun x255 _=>ixS 1 x255 (.fv (.int .i64 0)) fun x257=>load1 x257 h250 fun x258 _=>S70_641 x258 h250
def S70_643 (h336:Hp) (x340:IV):OH :=
 load1 x340 h336 fun x341 _=>ixS 1 x341 (.fv (.int .i64 1)) fun x343=>load1 x343 h336 fun x344 _=>outS1 [x344] h336
def S70_644 (x335 x1:IV) (h336:Hp) (j0_3:Hp→OH):OH :=
 condS x335 (nilS x1 fun x339=>faddrS 2 x339 fun x340=>S70_643 h336 x340) (j0_3 h336)
def S70_645 (r483 w484 r480 r476:LRf) (ih:Handler) (h482:Hp) (x479 x481 x0 x475:IV):OH :=
 chkS [(r480,[]),(r476,[])] r483 w484 (isoS [] false false ih 69 [x479,x481] h482 fun x485 h486 r487 w488=>chkS [(r476,[])] r487 w488 (isoS [true,false,false] false false ih 49 [x0,x475,x485] h486 fun x489 h490 r491 w492=>chkS [] r491 w492 (outS1 [x489] h490)))
def S70_646 (x471:IV) (h463:Hp) (r476:LRf) (x430 x462:IV) (ih:Handler) (x0 x475:IV):OH :=
 nilS x471 fun x477=>faddrS 3 x477 fun x478=>load1 x478 h463 fun x479 r480=>chkS [(r476,[])] r480 [] (genS (pcBuildSlice EE 93 2 [(0,x430),(1,x462)]) 73422859 h463 fun x481 h482 r483 w484=>S70_645 r483 w484 r480 r476 ih h482 x479 x481 x0 x475)
def S70_647 (h463:Hp) (x470 x430 x462:IV) (ih:Handler) (x0:IV):OH :=
 load1 x470 h463 fun x471 _=>nilS x471 fun x473=>faddrS 4 x473 fun x474=>loadA 3 x474 h463 fun x475 r476=>chkS [] r476 [] (S70_646 x471 h463 r476 x430 x462 ih x0 x475)
def S70_648 (r464 w465:LRf) (x1:IV) (h463:Hp) (x430 x462:IV) (ih:Handler) (x0:IV):OH :=
 chkS [] r464 w465 (nilS x1 fun x466=>faddrS 2 x466 fun x467=>load1 x467 h463 fun x468 _=>ixS 1 x468 (.fv (.int .i64 2)) fun x470=>S70_647 h463 x470 x430 x462 ih x0)
def S70_649 (r455 w456:LRf) (x453:IV) (h454:Hp) (ih:Handler) (x0 x1 x430:IV):OH :=
 chkS [] r455 w456 (bldS [.fv (.int .i64 0),.fv (.int .i64 0),.nils,.nils,.fv (.int .i64 0),.fv (.int .i64 0),.nils] [(0,1,.fv (.int .i64 13)),(2,1,x453)] fun x457=>boxS 73420822 x457 h454 fun x458 h459 r460 w461=>chkS [] r460 w461 (isoS [true,false] false false ih 70 [x0,x458] h459 fun x462 h463 r464 w465=>S70_648 r464 w465 x1 h463 x430 x462 ih x0))
def S70_650 (r449 r445 r442 r438 r435:LRf) (x448:IV) (h415:Hp) (x437 x444 x430:IV) (ih:Handler) (x0 x1:IV):OH :=
 chkS [(r445,[]),(r442,[]),(r438,[]),(r435,[])] r449 [] (ixS 1 x448 (.fv (.int .i64 2)) fun x450=>load1 x450 h415 fun x451 r452=>chkS [(r445,[]),(r442,[]),(r438,[]),(r435,[])] r452 [] (genS (pcBuildSlice EE 93 4 [(0,x437),(1,x444),(2,x451),(3,x430)]) 73420820 h415 fun x453 h454 r455 w456=>S70_649 r455 w456 x453 h454 ih x0 x1 x430))
def S70_651 (h415:Hp) (x443:IV) (r438 r435:LRf) (x1:IV) (r442:LRf) (x437 x430:IV) (ih:Handler) (x0:IV):OH :=
 load1 x443 h415 fun x444 r445=>chkS [(r438,[]),(r435,[])] r445 [] (nilS x1 fun x446=>faddrS 2 x446 fun x447=>load1 x447 h415 fun x448 r449=>S70_650 r449 r445 r442 r438 r435 x448 h415 x437 x444 x430 ih x0 x1)
def S70_652 (x1:IV) (h415:Hp) (r438 r435:LRf) (x437 x430:IV) (ih:Handler) (x0:IV):OH :=
 nilS x1 fun x439=>faddrS 2 x439 fun x440=>load1 x440 h415 fun x441 r442=>chkS [(r438,[]),(r435,[])] r442 [] (ixS 1 x441 (.fv (.int .i64 1)) fun x443=>S70_651 h415 x443 r438 r435 x1 r442 x437 x430 ih x0)
def S70_653 (h415:Hp) (x433 x1 x430:IV) (ih:Handler) (x0:IV):OH :=
 load1 x433 h415 fun x434 r435=>chkS [] r435 [] (ixS 1 x434 (.fv (.int .i64 0)) fun x436=>load1 x436 h415 fun x437 r438=>chkS [] r438 [] (S70_652 x1 h415 r438 r435 x437 x430 ih x0))
def S70_654 (h415:Hp) (x426 x1:IV) (ih:Handler) (x0:IV):OH :=
 load1 x426 h415 fun x427 _=>ixS 1 x427 (.fv (.int .i64 0)) fun x429=>load1 x429 h415 fun x430 _=>nilS x1 fun x432=>faddrS 2 x432 fun x433=>S70_653 h415 x433 x1 x430 ih x0
def S70_655 (h415:Hp) (x419 x1:IV) (ih:Handler) (x0:IV):OH :=
 load1 x419 h415 fun x420 _=>ixS 1 x420 (.fv (.int .i64 3)) fun x422=>load1 x422 h415 fun x423 _=>nilS x423 fun x425=>faddrS 2 x425 fun x426=>S70_654 h415 x426 x1 ih x0
def S70_656 (ih:Handler) (h410:Hp) (x0 x1:IV) (j0_3:Hp→OH):OH :=
 isoS [true] false false ih 86 [x0] h410 fun x414 h415 _ _=>condS x414 (nilS x1 fun x418=>faddrS 2 x418 fun x419=>S70_655 h415 x419 x1 ih x0) (j0_3 h415)
def S70_657 (h391:Hp) (x350 x390:IV) (ih:Handler) (x0 x1:IV) (j0_3:Hp→OH):OH :=
 guardS x350 true h391 (fun k394=>faddrS 0 x390 fun x395=>k394 x395 h391 [] []) fun x396 h397 _ _=>guardS x350 true h397 (fun k400=>load1 x396 h397 fun x401 r402=>k400 x401 h397 r402 []) fun x403 h404 _ _=>guardS x350 true h404 (fun k407=>eqS EE 3 x403 (.fv (.int .i64 12)) fun x408=>k407 x408 h404 [] []) fun x409 h410 _ _=>pickS x350 x409 (.fv (.bool false)) fun x413=>condS x413 (S70_656 ih h410 x0 x1 j0_3) (j0_3 h410)
def S70_658 (h359:Hp) (x350 x358:IV) (ih:Handler) (x0 x1:IV) (j0_3:Hp→OH):OH :=
 guardS x350 true h359 (fun k362=>faddrS 2 x358 fun x363=>k362 x363 h359 [] []) fun x364 h365 _ _=>guardS x350 true h365 (fun k368=>load1 x364 h365 fun x369 r370=>k368 x369 h365 r370 []) fun x371 h372 _ _=>guardS x350 true h372 (fun k375=>ixS 1 x371 (.fv (.int .i64 3)) fun x376=>k375 x376 h372 [] []) fun x377 h378 _ _=>guardS x350 true h378 (fun k381=>load1 x377 h378 fun x382 r383=>k381 x382 h378 r383 []) fun x384 h385 _ _=>guardS x350 true h385 (fun k388=>nilS x384 fun x389=>k388 x389 h385 [] []) fun x390 h391 _ _=>S70_657 h391 x350 x390 ih x0 x1 j0_3
def S70_659 (x346:IV) (h331:Hp) (x1:IV) (ih:Handler) (x0:IV) (j0_3:Hp→OH):OH :=
 faddrS 0 x346 fun x347=>load1 x347 h331 fun x348 _=>eqS EE 3 x348 (.fv (.int .i64 13)) fun x350=>guardS x350 true h331 (fun k351=>k351 x1 h331 [] []) fun x352 h353 _ _=>guardS x350 true h353 (fun k356=>nilS x352 fun x357=>k356 x357 h353 [] []) fun x358 h359 _ _=>S70_658 h359 x350 x358 ih x0 x1 j0_3
def S70_660 (h318:Hp) (x271 x317:IV) (ih:Handler) (x0 x1:IV) (j0_3:Hp→OH):OH :=
 guardS x271 true h318 (fun k321=>load1 x317 h318 fun x322 r323=>k321 x322 h318 r323 []) fun x324 h325 _ _=>guardS x271 true h325 (fun k328=>eqS EE 3 x324 (.fv (.int .i64 11)) fun x329=>k328 x329 h325 [] []) fun x330 h331 _ _=>pickS x271 x330 (.fv (.bool false)) fun x334=>condS x334 (isoS [true] false false ih 86 [x0] h331 fun x335 h336 _ _=>S70_644 x335 x1 h336 j0_3) (nilS x1 fun x346=>S70_659 x346 h331 x1 ih x0 j0_3)
def S70_661 (h286:Hp) (x271 x285:IV) (ih:Handler) (x0 x1:IV) (j0_3:Hp→OH):OH :=
 guardS x271 true h286 (fun k289=>load1 x285 h286 fun x290 r291=>k289 x290 h286 r291 []) fun x292 h293 _ _=>guardS x271 true h293 (fun k296=>ixS 1 x292 (.fv (.int .i64 3)) fun x297=>k296 x297 h293 [] []) fun x298 h299 _ _=>guardS x271 true h299 (fun k302=>load1 x298 h299 fun x303 r304=>k302 x303 h299 r304 []) fun x305 h306 _ _=>guardS x271 true h306 (fun k309=>nilS x305 fun x310=>k309 x310 h306 [] []) fun x311 h312 _ _=>guardS x271 true h312 (fun k315=>faddrS 0 x311 fun x316=>k315 x316 h312 [] []) fun x317 h318 _ _=>S70_660 h318 x271 x317 ih x0 x1 j0_3
def S70_662 (h248:Hp) (x268 x1:IV) (ih:Handler) (x0:IV) (j0_3:Hp→OH):OH :=
 load1 x268 h248 fun x269 _=>eqS EE 3 x269 (.fv (.int .i64 13)) fun x271=>guardS x271 true h248 (fun k272=>k272 x1 h248 [] []) fun x273 h274 _ _=>guardS x271 true h274 (fun k277=>nilS x273 fun x278=>k277 x278 h274 [] []) fun x279 h280 _ _=>guardS x271 true h280 (fun k283=>faddrS 2 x279 fun x284=>k283 x284 h280 [] []) fun x285 h286 _ _=>S70_661 h286 x271 x285 ih x0 x1 j0_3
def S70_663 (x247:IV) (ih:Handler) (h248:Hp) (x0 x1:IV) (j0_3:Hp→OH):OH :=
 condS x247 (isoS [true] false false ih 86 [x0] h248 fun x249 h250 _ _=>condS x249 (S70_642 x1 h250) (j0_3 h250)) (nilS x1 fun x267=>faddrS 0 x267 fun x268=>S70_662 h248 x268 x1 ih x0 j0_3)
def S70_664 (h612:Hp) (x565 x611:IV) (j1_246:IV→Hp→OH):OH :=
 guardS x565 true h612 (fun k615=>load1 x611 h612 fun x616 r617=>k615 x616 h612 r617 []) fun x618 h619 _ _=>guardS x565 true h619 (fun k622=>eqS EE 3 x618 (.fv (.int .i64 30)) fun x623=>k622 x623 h619 [] []) fun x624 h625 _ _=>pickS x565 x624 (.fv (.bool false)) fun x628=>j1_246 x628 h625
def S70_665 (h580:Hp) (x565 x579:IV) (j1_246:IV→Hp→OH):OH :=
 guardS x565 true h580 (fun k583=>load1 x579 h580 fun x584 r585=>k583 x584 h580 r585 []) fun x586 h587 _ _=>guardS x565 true h587 (fun k590=>ixS 1 x586 (.fv (.int .i64 0)) fun x591=>k590 x591 h587 [] []) fun x592 h593 _ _=>guardS x565 true h593 (fun k596=>load1 x592 h593 fun x597 r598=>k596 x597 h593 r598 []) fun x599 h600 _ _=>guardS x565 true h600 (fun k603=>nilS x599 fun x604=>k603 x604 h600 [] []) fun x605 h606 _ _=>guardS x565 true h606 (fun k609=>faddrS 0 x605 fun x610=>k609 x610 h606 [] []) fun x611 h612 _ _=>S70_664 h612 x565 x611 j1_246
def S70_666 (h557:Hp) (x562 x1:IV) (j1_246:IV→Hp→OH):OH :=
 load1 x562 h557 fun x563 _=>eqS EE 3 x563 (.fv (.int .i64 19)) fun x565=>guardS x565 true h557 (fun k566=>k566 x1 h557 [] []) fun x567 h568 _ _=>guardS x565 true h568 (fun k571=>nilS x567 fun x572=>k571 x572 h568 [] []) fun x573 h574 _ _=>guardS x565 true h574 (fun k577=>faddrS 2 x573 fun x578=>k577 x578 h574 [] []) fun x579 h580 _ _=>S70_665 h580 x565 x579 j1_246
def S70_667 (x497 x556:IV) (j1_246:IV→Hp→OH) (h557:Hp) (x1:IV):OH :=
 pickS x497 x556 (.fv (.bool false)) fun x560=>condS x560 (j1_246 x560 h557) (nilS x1 fun x561=>faddrS 0 x561 fun x562=>S70_666 h557 x562 x1 j1_246)
def S70_668 (h525:Hp) (x497 x524:IV) (j1_246:IV→Hp→OH) (x1:IV):OH :=
 guardS x497 true h525 (fun k528=>load1 x524 h525 fun x529 r530=>k528 x529 h525 r530 []) fun x531 h532 _ _=>guardS x497 true h532 (fun k535=>nilS x531 fun x536=>k535 x536 h532 [] []) fun x537 h538 _ _=>guardS x497 true h538 (fun k541=>faddrS 0 x537 fun x542=>k541 x542 h538 [] []) fun x543 h544 _ _=>guardS x497 true h544 (fun k547=>load1 x543 h544 fun x548 r549=>k547 x548 h544 r549 []) fun x550 h551 _ _=>guardS x497 true h551 (fun k554=>eqS EE 3 x550 (.fv (.int .i64 19)) fun x555=>k554 x555 h551 [] []) fun x556 h557 _ _=>S70_667 x497 x556 j1_246 h557 x1
def S70_669 (h218:Hp) (x497 x1:IV) (j1_246:IV→Hp→OH):OH :=
 guardS x497 true h218 (fun k498=>k498 x1 h218 [] []) fun x499 h500 _ _=>guardS x497 true h500 (fun k503=>nilS x499 fun x504=>k503 x504 h500 [] []) fun x505 h506 _ _=>guardS x497 true h506 (fun k509=>faddrS 2 x505 fun x510=>k509 x510 h506 [] []) fun x511 h512 _ _=>guardS x497 true h512 (fun k515=>load1 x511 h512 fun x516 r517=>k515 x516 h512 r517 []) fun x518 h519 _ _=>guardS x497 true h519 (fun k522=>ixS 1 x518 (.fv (.int .i64 0)) fun x523=>k522 x523 h519 [] []) fun x524 h525 _ _=>S70_668 h525 x497 x524 j1_246 x1
def S70_670 (ih:Handler) (x0 x1:IV) (j0_3:Hp→OH) (h218:Hp):OH :=
 (fun (j1_246:IV→Hp→OH)=>nilS x1 fun x493=>faddrS 0 x493 fun x494=>load1 x494 h218 fun x495 _=>eqS EE 3 x495 (.fv (.int .i64 30)) fun x497=>S70_669 h218 x497 x1 j1_246) fun x247 h248=>S70_663 x247 ih h248 x0 x1 j0_3
def S70_671 (h199:Hp) (x158 x198:IV) (ih:Handler) (x0 x1:IV) (j0_3:Hp→OH):OH :=
 guardS x158 true h199 (fun k202=>faddrS 0 x198 fun x203=>k202 x203 h199 [] []) fun x204 h205 _ _=>guardS x158 true h205 (fun k208=>load1 x204 h205 fun x209 r210=>k208 x209 h205 r210 []) fun x211 h212 _ _=>guardS x158 true h212 (fun k215=>eqS EE 3 x211 (.fv (.int .i64 7)) fun x216=>k215 x216 h212 [] []) fun x217 h218 _ _=>pickS x158 x217 (.fv (.bool false)) fun x221=>condS x221 (S70_640 ih h218 x0 x1 j0_3) (S70_670 ih x0 x1 j0_3 h218)
def S70_672 (h167:Hp) (x158 x166:IV) (ih:Handler) (x0 x1:IV) (j0_3:Hp→OH):OH :=
 guardS x158 true h167 (fun k170=>faddrS 2 x166 fun x171=>k170 x171 h167 [] []) fun x172 h173 _ _=>guardS x158 true h173 (fun k176=>load1 x172 h173 fun x177 r178=>k176 x177 h173 r178 []) fun x179 h180 _ _=>guardS x158 true h180 (fun k183=>ixS 1 x179 (.fv (.int .i64 0)) fun x184=>k183 x184 h180 [] []) fun x185 h186 _ _=>guardS x158 true h186 (fun k189=>load1 x185 h186 fun x190 r191=>k189 x190 h186 r191 []) fun x192 h193 _ _=>guardS x158 true h193 (fun k196=>nilS x192 fun x197=>k196 x197 h193 [] []) fun x198 h199 _ _=>S70_671 h199 x158 x198 ih x0 x1 j0_3
def S70_673 (h142:Hp) (x127 x141 x1:IV) (ih:Handler) (x0:IV) (j0_3:Hp→OH):OH :=
 guardS x127 false h142 (fun k145=>load1 x141 h142 fun x146 r147=>k145 x146 h142 r147 []) fun x148 h149 _ _=>guardS x127 false h149 (fun k152=>eqS EE 3 x148 (.fv (.int .i64 9)) fun x153=>k152 x153 h149 [] []) fun x154 h155 _ _=>pickS x127 (.fv (.bool true)) x154 fun x158=>guardS x158 true h155 (fun k159=>k159 x1 h155 [] []) fun x160 h161 _ _=>guardS x158 true h161 (fun k164=>nilS x160 fun x165=>k164 x165 h161 [] []) fun x166 h167 _ _=>S70_672 h167 x158 x166 ih x0 x1 j0_3
def S70_674 (h74:Hp) (x124 x1:IV) (ih:Handler) (x0:IV) (j0_3:Hp→OH):OH :=
 load1 x124 h74 fun x125 _=>eqS EE 3 x125 (.fv (.int .i64 8)) fun x127=>guardS x127 false h74 (fun k128=>k128 x1 h74 [] []) fun x129 h130 _ _=>guardS x127 false h130 (fun k133=>nilS x129 fun x134=>k133 x134 h130 [] []) fun x135 h136 _ _=>guardS x127 false h136 (fun k139=>faddrS 0 x135 fun x140=>k139 x140 h136 [] []) fun x141 h142 _ _=>S70_673 h142 x127 x141 x1 ih x0 j0_3
def S70_675 (x77:IV) (ih:Handler) (h74:Hp) (x0 x1:IV) (j0_3:Hp→OH):OH :=
 condS x77 (isoS [true] false false ih 86 [x0] h74 fun x78 h79 _ _=>condS x78 (S70_635 x1 h79 ih x0) (j0_3 h79)) (nilS x1 fun x123=>faddrS 0 x123 fun x124=>S70_674 h74 x124 x1 ih x0 j0_3)
def S70_676 (h49:Hp) (x14 x48:IV) (ih:Handler) (x0 x1:IV) (j0_3:Hp→OH):OH :=
 guardS x14 true h49 (fun k52=>nilS x48 fun x53=>k52 x53 h49 [] []) fun x54 h55 _ _=>guardS x14 true h55 (fun k58=>faddrS 0 x54 fun x59=>k58 x59 h55 [] []) fun x60 h61 _ _=>guardS x14 true h61 (fun k64=>load1 x60 h61 fun x65 r66=>k64 x65 h61 r66 []) fun x67 h68 _ _=>guardS x14 true h68 (fun k71=>eqS EE 3 x67 (.fv (.int .i64 4)) fun x72=>k71 x72 h68 [] []) fun x73 h74 _ _=>pickS x14 x73 (.fv (.bool false)) fun x77=>S70_675 x77 ih h74 x0 x1 j0_3
def S70_677 (h17:Hp) (x14 x16:IV) (ih:Handler) (x0 x1:IV) (j0_3:Hp→OH):OH :=
 guardS x14 true h17 (fun k20=>nilS x16 fun x21=>k20 x21 h17 [] []) fun x22 h23 _ _=>guardS x14 true h23 (fun k26=>faddrS 2 x22 fun x27=>k26 x27 h23 [] []) fun x28 h29 _ _=>guardS x14 true h29 (fun k32=>load1 x28 h29 fun x33 r34=>k32 x33 h29 r34 []) fun x35 h36 _ _=>guardS x14 true h36 (fun k39=>ixS 1 x35 (.fv (.int .i64 0)) fun x40=>k39 x40 h36 [] []) fun x41 h42 _ _=>guardS x14 true h42 (fun k45=>load1 x41 h42 fun x46 r47=>k45 x46 h42 r47 []) fun x48 h49 _ _=>S70_676 h49 x14 x48 ih x0 x1 j0_3
def S70_678 (x1:IV) (h2:Hp) (ih:Handler) (x0:IV) (j0_3:Hp→OH):OH :=
 nilS x1 fun x10=>faddrS 0 x10 fun x11=>load1 x11 h2 fun x12 _=>eqS EE 3 x12 (.fv (.int .i64 5)) fun x14=>guardS x14 true h2 (fun k15=>k15 x1 h2 [] []) fun x16 h17 _ _=>S70_677 h17 x14 x16 ih x0 x1 j0_3
def S70 (ih:Handler) (n:Nat) (x0 x1:IV) (h2:Hp):OH :=
 (fun (j0_3:Hp→OH)=>nilS x0 fun x5=>faddrS 2 x5 fun x6=>load1 x6 h2 fun x7 _=>neS EE 3 x7 (.fv (.int .i64 0)) fun x9=>condS x9 (outS1 [x1] h2) (S70_678 x1 h2 ih x0 j0_3)) fun h4=>outS1 [x1] h4
theorem S70_ok (ih:Handler) (n:Nat) (x0 x1:IV) (h2:Hp):funS EE ih ft.get n 70 [x0,x1] h2=S70 ih n x0 x1 h2:=by kernel_rfl
def S71_17 (x0:IV) (h7:Hp):OH :=
 eqS EE 3 x0 (.fv (.int .i64 13)) fun x9=>condS x9 (outS1 [.fv (.int .i64 4)] h7) (outS1 [.fv (.int .i64 (-1))] h7)
def S71_18 (x6:IV) (h7:Hp) (x0:IV):OH :=
 condS x6 (outS1 [.fv (.int .i64 2)] h7) (eqS EE 3 x0 (.fv (.int .i64 7)) fun x8=>condS x8 (outS1 [.fv (.int .i64 3)] h7) (S71_17 x0 h7))
def S71_19 (x10:IV) (j1_5:IV→Hp→OH) (h4:Hp) (x0:IV):OH :=
 condS x10 (j1_5 x10 h4) (eqS EE 3 x0 (.fv (.int .i64 5)) fun x11=>j1_5 x11 h4)
def S71_20 (x3:IV) (h4:Hp) (x0:IV):OH :=
 condS x3 (outS1 [.fv (.int .i64 1)] h4) ((fun (j1_5:IV→Hp→OH)=>eqS EE 3 x0 (.fv (.int .i64 4)) fun x10=>S71_19 x10 j1_5 h4 x0) fun x6 h7=>S71_18 x6 h7 x0)
def S71_21 (x0:IV) (j1_2:IV→Hp→OH) (h1:Hp):OH :=
 eqS EE 3 x0 (.fv (.int .i64 30)) fun x16=>j1_2 x16 h1
def S71_22 (x0:IV) (j1_2:IV→Hp→OH) (h1:Hp):OH :=
 eqS EE 3 x0 (.fv (.int .i64 12)) fun x14=>condS x14 (j1_2 x14 h1) (eqS EE 3 x0 (.fv (.int .i64 19)) fun x15=>condS x15 (j1_2 x15 h1) (S71_21 x0 j1_2 h1))
def S71 (ih:Handler) (n:Nat) (x0:IV) (h1:Hp):OH :=
 (fun (j1_2:IV→Hp→OH)=>eqS EE 3 x0 (.fv (.int .i64 8)) fun x12=>condS x12 (j1_2 x12 h1) (eqS EE 3 x0 (.fv (.int .i64 9)) fun x13=>condS x13 (j1_2 x13 h1) (S71_22 x0 j1_2 h1))) fun x3 h4=>S71_20 x3 h4 x0
theorem S71_ok (ih:Handler) (n:Nat) (x0:IV) (h1:Hp):funS EE ih ft.get n 71 [x0] h1=S71 ih n x0 h1:=by kernel_rfl
def S72_30 (ih:Handler) (h23:Hp) (x0 x8 x22:IV):OH :=
 isoS [true,false,false,false] false false ih 81 [x0,x8,.fv (.int .i64 1),x22] h23 fun x26 h27 _ _=>outS1 [x26] h27
def S72_31 (x15:IV) (h2:Hp) (ih:Handler) (x0 x8:IV):OH :=
 faddrS 2 x15 fun x16=>load1 x16 h2 fun x17 _=>ixS 1 x17 (.fv (.int .i64 1)) fun x19=>load1 x19 h2 fun x20 _=>genS (pcBuildSlice EE 104 1 [(0,x20)]) 75500552 h2 fun x22 h23 _ _=>S72_30 ih h23 x0 x8 x22
def S72_32 (x10:IV) (h2:Hp) (x1:IV) (ih:Handler) (x0 x8:IV):OH :=
 faddrS 0 x10 fun x11=>load1 x11 h2 fun x12 _=>eqS EE 3 x12 (.fv (.int .i64 4)) fun x14=>condS x14 (nilS x1 fun x15=>S72_31 x15 h2 ih x0 x8) (outS1 [.fv .nilp] h2)
def S72 (ih:Handler) (n:Nat) (x0 x1:IV) (h2:Hp):OH :=
 nilS x1 fun x3=>faddrS 2 x3 fun x4=>load1 x4 h2 fun x5 _=>ixS 1 x5 (.fv (.int .i64 0)) fun x7=>load1 x7 h2 fun x8 _=>nilS x8 fun x10=>S72_32 x10 h2 x1 ih x0 x8
theorem S72_ok (ih:Handler) (n:Nat) (x0 x1:IV) (h2:Hp):funS EE ih ft.get n 72 [x0,x1] h2=S72 ih n x0 x1 h2:=by kernel_rfl
def S73_34 (x20:IV) (h2:Hp):OH :=
 faddrS 2 x20 fun x21=>load1 x21 h2 fun x22 _=>ixS 1 x22 (.fv (.int .i64 1)) fun x24=>load1 x24 h2 fun x25 _=>outS1 [x25] h2
def S73_35 (x27:IV) (h2:Hp):OH :=
 faddrS 2 x27 fun x28=>load1 x28 h2 fun x29 _=>ixS 1 x29 (.fv (.int .i64 2)) fun x31=>load1 x31 h2 fun x32 _=>outS1 [x32] h2
def S73_36 (x15:IV) (h2:Hp) (x8:IV):OH :=
 faddrS 0 x15 fun x16=>load1 x16 h2 fun x17 _=>eqS EE 3 x17 (.fv (.int .i64 8)) fun x19=>condS x19 (nilS x8 fun x20=>S73_34 x20 h2) (nilS x8 fun x27=>S73_35 x27 h2)
def S73_37 (x10:IV) (h2:Hp) (x1 x8:IV):OH :=
 faddrS 0 x10 fun x11=>load1 x11 h2 fun x12 _=>neS EE 3 x12 (.fv (.int .i64 7)) fun x14=>condS x14 (outS1 [.fv .nilp] h2) (nilS x1 fun x15=>S73_36 x15 h2 x8)
def S73 (ih:Handler) (n:Nat) (x0 x1:IV) (h2:Hp):OH :=
 nilS x1 fun x3=>faddrS 2 x3 fun x4=>load1 x4 h2 fun x5 _=>ixS 1 x5 (.fv (.int .i64 0)) fun x7=>load1 x7 h2 fun x8 _=>nilS x8 fun x10=>S73_37 x10 h2 x1 x8
theorem S73_ok (ih:Handler) (n:Nat) (x0 x1:IV) (h2:Hp):funS EE ih ft.get n 73 [x0,x1] h2=S73 ih n x0 x1 h2:=by kernel_rfl
def S74_74 (x15:IV) (h2:Hp):OH :=
 faddrS 2 x15 fun x16=>load1 x16 h2 fun x17 _=>ixS 1 x17 (.fv (.int .i64 1)) fun x19=>load1 x19 h2 fun x20 _=>outS1 [x20] h2
def S74_75 (h63:Hp) (x60 x62:IV) (ih:Handler) (x0 x1:IV):OH :=
 genS (pcBuildSlice EE 104 2 [(0,x60),(1,x62)]) 77602826 h63 fun x66 h67 r68 w69=>chkS [] r68 w69 (isoS [true,false,false,false] false false ih 81 [x0,x1,.fv (.int .i64 2),x66] h67 fun x70 h71 r72 w73=>chkS [] r72 w73 (outS1 [x70] h71))
def S74_76 (x57:IV) (h52:Hp) (ih:Handler) (x0 x26:IV) (r58:LRf) (x1:IV):OH :=
 ixS 1 x57 (.fv (.int .i64 0)) fun x59=>load1 x59 h52 fun x60 r61=>chkS [] r61 [] (isoS [true,false] false false ih 80 [x0,x26] h52 fun x62 h63 r64 w65=>chkS [(r61,[]),(r58,[])] r64 w65 (S74_75 h63 x60 x62 ih x0 x1))
def S74_77 (r53 w54:LRf) (x8:IV) (h52:Hp) (ih:Handler) (x0 x26 x1:IV):OH :=
 chkS [] r53 w54 (nilS x8 fun x55=>faddrS 2 x55 fun x56=>load1 x56 h52 fun x57 r58=>chkS [] r58 [] (S74_76 x57 h52 ih x0 x26 r58 x1))
def S74_78 (r46 r39 r36:LRf) (h30:Hp) (x38 x45 x26 x8:IV) (ih:Handler) (x0 x1:IV):OH :=
 chkS [(r39,[]),(r36,[])] r46 [] (genS (pcBuildSlice EE 104 4 [(0,.fv .nilp),(1,x38),(2,.fv .nilp),(3,x45)]) 77601804 h30 fun x47 h48 r49 w50=>chkS [] r49 w50 (faddrS 2 x26 fun x51=>store1 x51 x47 h48 fun h52 r53 w54=>S74_77 r53 w54 x8 h52 ih x0 x26 x1))
def S74_79 (x40:IV) (h30:Hp) (r39 r36:LRf) (x38 x26 x8:IV) (ih:Handler) (x0 x1:IV):OH :=
 faddrS 2 x40 fun x41=>load1 x41 h30 fun x42 r43=>chkS [(r39,[]),(r36,[])] r43 [] (ixS 1 x42 (.fv (.int .i64 0)) fun x44=>load1 x44 h30 fun x45 r46=>S74_78 r46 r39 r36 h30 x38 x45 x26 x8 ih x0 x1)
def S74_80 (r36:LRf) (x35:IV) (h30:Hp) (x8 x26:IV) (ih:Handler) (x0 x1:IV):OH :=
 chkS [] r36 [] (ixS 1 x35 (.fv (.int .i64 1)) fun x37=>load1 x37 h30 fun x38 r39=>chkS [] r39 [] (nilS x8 fun x40=>S74_79 x40 h30 r39 r36 x38 x26 x8 ih x0 x1))
def S74_81 (h2:Hp) (x24 x1 x8:IV) (ih:Handler) (x0:IV):OH :=
 newS 77600771 (.row [.fv (.int .i64 0),.fv (.int .i64 0),.nils,.fv (.int .i64 0),.fv (.int .i64 0),.nils,.fv (.nilp)] false) (.ptr (.own 77600771) 0) h2 fun x26 h27 _ _=>storeA 7 x26 x24 h27 fun h30 _ _=>nilS x1 fun x33=>faddrS 2 x33 fun x34=>load1 x34 h30 fun x35 r36=>S74_80 r36 x35 h30 x8 x26 ih x0 x1
def S74_82 (x22 x1:IV) (h2:Hp) (x8:IV) (ih:Handler) (x0:IV):OH :=
 condS x22 (nilS x1 fun x23=>loadA 7 x23 h2 fun x24 _=>S74_81 h2 x24 x1 x8 ih x0) (outS1 [.fv .nilp] h2)
def S74_83 (x10:IV) (h2:Hp) (x1 x8:IV) (ih:Handler) (x0:IV):OH :=
 faddrS 0 x10 fun x11=>load1 x11 h2 fun x12 _=>eqS EE 3 x12 (.fv (.int .i64 11)) fun x14=>condS x14 (nilS x1 fun x15=>S74_74 x15 h2) (eqS EE 3 x12 (.fv (.int .i64 12)) fun x22=>S74_82 x22 x1 h2 x8 ih x0)
def S74 (ih:Handler) (n:Nat) (x0 x1:IV) (h2:Hp):OH :=
 nilS x1 fun x3=>faddrS 2 x3 fun x4=>load1 x4 h2 fun x5 _=>ixS 1 x5 (.fv (.int .i64 3)) fun x7=>load1 x7 h2 fun x8 _=>nilS x8 fun x10=>S74_83 x10 h2 x1 x8 ih x0
theorem S74_ok (ih:Handler) (n:Nat) (x0 x1:IV) (h2:Hp):funS EE ih ft.get n 74 [x0,x1] h2=S74 ih n x0 x1 h2:=by kernel_rfl
def S75 (ih:Handler) (n:Nat) (x0 x1:IV) (h2:Hp):OH :=
 isoS [] false false ih 87 [x1,.fv (.int .i64 19)] h2 fun x3 h4 _ _=>outS1 [x3] h4
theorem S75_ok (ih:Handler) (n:Nat) (x0 x1:IV) (h2:Hp):funS EE ih ft.get n 75 [x0,x1] h2=S75 ih n x0 x1 h2:=by kernel_rfl
def S76 (ih:Handler) (n:Nat) (x0 x1:IV) (h2:Hp):OH :=
 isoS [] false false ih 87 [x1,.fv (.int .i64 30)] h2 fun x3 h4 _ _=>outS1 [x3] h4
theorem S76_ok (ih:Handler) (n:Nat) (x0 x1:IV) (h2:Hp):funS EE ih ft.get n 76 [x0,x1] h2=S76 ih n x0 x1 h2:=by kernel_rfl
def S77_53 (h44:Hp) (x49:IV):OH :=
 store1 x49 (.fv (.int .i64 17)) h44 fun h50 _ _=>outS1 [] h50
def S77_54 (x16 x43 x0:IV) (h44:Hp):OH :=
 pickS x16 x43 (.fv (.bool false)) fun x47=>condS x47 (nilS x0 fun x48=>faddrS 3 x48 fun x49=>S77_53 h44 x49) (outS1 [] h44)
def S77_55 (h9:Hp) (x16 x0:IV):OH :=
 guardS x16 true h9 (fun k17=>k17 x0 h9 [] []) fun x18 h19 _ _=>guardS x16 true h19 (fun k22=>nilS x18 fun x23=>k22 x23 h19 [] []) fun x24 h25 _ _=>guardS x16 true h25 (fun k28=>faddrS 3 x24 fun x29=>k28 x29 h25 [] []) fun x30 h31 _ _=>guardS x16 true h31 (fun k34=>load1 x30 h31 fun x35 r36=>k34 x35 h31 r36 []) fun x37 h38 _ _=>guardS x16 true h38 (fun k41=>eqS EE 37 x37 (.fv (.int .i64 0)) fun x42=>k41 x42 h38 [] []) fun x43 h44 _ _=>S77_54 x16 x43 x0 h44
def S77_56 (h1:Hp) (x8 x6 x0:IV):OH :=
 store1 x8 x6 h1 fun h9 _ _=>nilS x0 fun x12=>faddrS 1 x12 fun x13=>load1 x13 h9 fun x14 _=>ltS EE 3 x14 (.fv (.int .i64 0)) fun x16=>S77_55 h9 x16 x0
def S77 (ih:Handler) (n:Nat) (x0:IV) (h1:Hp):OH :=
 nilS x0 fun x2=>faddrS 1 x2 fun x3=>load1 x3 h1 fun x4 _=>subS EE 3 x4 (.fv (.int .i64 1)) fun x6=>nilS x0 fun x7=>faddrS 1 x7 fun x8=>S77_56 h1 x8 x6 x0
theorem S77_ok (ih:Handler) (n:Nat) (x0:IV) (h1:Hp):funS EE ih ft.get n 77 [x0] h1=S77 ih n x0 h1:=by kernel_rfl
def S78_27 (h5:Hp) (x11:IV):OH :=
 load1 x11 h5 fun x12 _=>outS1 [x12] h5
def S78_28 (x15:IV) (h5:Hp) (q3:List IV→Hp→OH) (x14:IV):OH :=
 faddrS 1 x15 fun x16=>load1 x16 h5 fun x17 _=>q3 [x17,x14] h5
def S78_29 (x9 x6:IV) (h5:Hp) (x7:IV) (q3:List IV→Hp→OH):OH :=
 condS x9 (nilS x6 fun x10=>faddrS 0 x10 fun x11=>S78_27 h5 x11) (subS EE 3 x7 (.fv (.int .i64 1)) fun x14=>nilS x6 fun x15=>S78_28 x15 h5 q3 x14)
def S78_30 (x19:IV) (h5:Hp):OH :=
 bldS [.fv (.int .i64 0),.fv (.int .i64 0),.nils,.fv (.int .i64 0),.fv (.int .i64 0),.nils,.fv (.nilp)] [(0,1,.fv (.int .i64 1)),(1,1,x19)] fun x20=>boxS 81795075 x20 h5 fun x21 h22 _ _=>outS1 [x21] h22
def S78_31 (l4:List IV) (h5:Hp) (q3:List IV→Hp→OH):OH :=
 uncS l4 fun x6 l25=>uncS l25 fun x7 _=>neS EE 102 x6 (.fv .nilp) fun x8=>condS x8 (eqS EE 3 x7 (.fv (.int .i64 0)) fun x9=>S78_29 x9 x6 h5 x7 q3) (subS EE 3 (.fv (.int .i64 (-1))) x7 fun x19=>S78_30 x19 h5)
def S78 (ih:Handler) (n:Nat) (x0 x1:IV) (h2:Hp):OH :=
 loopS n (fun q3 l4 h5=>S78_31 l4 h5 q3) [x0,x1] h2
theorem S78_ok (ih:Handler) (n:Nat) (x0 x1:IV) (h2:Hp):funS EE ih ft.get n 78 [x0,x1] h2=S78 ih n x0 x1 h2:=by kernel_rfl
def S79 (ih:Handler) (n:Nat) (x0 x1:IV) (h2:Hp):OH :=
 dynS EE ih (.fv (.func (.func 88) [] [])) [x0,x1] h2 fun x3 h4 _ _=>outS1 [x3] h4
theorem S79_ok (ih:Handler) (n:Nat) (x0 x1:IV) (h2:Hp):funS EE ih ft.get n 79 [x0,x1] h2=S79 ih n x0 x1 h2:=by kernel_rfl
def S80_126 (h113:Hp) (x122:IV) (j0_104:Hp→OH):OH :=
 store1 x122 (.fv (.int .i64 17)) h113 fun h123 _ _=>j0_104 h123
def S80_127 (x120 x0:IV) (h113:Hp) (j0_104:Hp→OH):OH :=
 condS x120 (nilS x0 fun x121=>faddrS 3 x121 fun x122=>S80_126 h113 x122 j0_104) (j0_104 h113)
def S80_128 (h100:Hp) (x112 x110 x0:IV) (j0_104:Hp→OH):OH :=
 store1 x112 x110 h100 fun h113 _ _=>nilS x0 fun x116=>faddrS 0 x116 fun x117=>load1 x117 h113 fun x118 _=>ltS EE 3 x118 (.fv (.int .i64 0)) fun x120=>S80_127 x120 x0 h113 j0_104
def S80_129 (x106:IV) (h100:Hp) (x0:IV) (j0_104:Hp→OH):OH :=
 faddrS 0 x106 fun x107=>load1 x107 h100 fun x108 _=>subS EE 3 x108 (.fv (.int .i64 1)) fun x110=>nilS x0 fun x111=>faddrS 0 x111 fun x112=>S80_128 h100 x112 x110 x0 j0_104
def S80_130 (x103:IV) (h100:Hp) (x1 x68 x0:IV):OH :=
 condS x103 (outS1 [x1] h100) ((fun (j0_104:Hp→OH)=>nilS x0 fun x106=>S80_129 x106 h100 x0 j0_104) fun h105=>outS1 [x68] h105)
def S80_131 (h75:Hp) (x72 x74 x1 x68 x0:IV):OH :=
 guardS x72 false h75 (fun k78=>nilS x74 fun x79=>k78 x79 h75 [] []) fun x80 h81 _ _=>guardS x72 false h81 (fun k84=>faddrS 3 x80 fun x85=>k84 x85 h81 [] []) fun x86 h87 _ _=>guardS x72 false h87 (fun k90=>load1 x86 h87 fun x91 r92=>k90 x91 h87 r92 []) fun x93 h94 _ _=>guardS x72 false h94 (fun k97=>neS EE 37 x93 (.fv (.int .i64 0)) fun x98=>k97 x98 h94 [] []) fun x99 h100 _ _=>pickS x72 (.fv (.bool true)) x99 fun x103=>S80_130 x103 h100 x1 x68 x0
def S80_132 (x17:IV) (h57:Hp) (ih:Handler) (x1 x0:IV):OH :=
 faddrS 0 x17 fun x65=>load1 x65 h57 fun x66 _=>dynS EE ih x66 [x1] h57 fun x68 h69 _ _=>eqS EE 76 x68 (.fv .nilp) fun x72=>guardS x72 false h69 (fun k73=>k73 x0 h69 [] []) fun x74 h75 _ _=>S80_131 h75 x72 x74 x1 x68 x0
def S80_133 (x0:IV) (h57:Hp) (x1 x17:IV) (ih:Handler):OH :=
 nilS x0 fun x60=>faddrS 3 x60 fun x61=>load1 x61 h57 fun x62 _=>neS EE 37 x62 (.fv (.int .i64 0)) fun x64=>condS x64 (outS1 [x1] h57) (S80_132 x17 h57 ih x1 x0)
def S80_134 (h46:Hp) (x24 x45 x1:IV) (ih:Handler) (x0 x17:IV):OH :=
 guardS x24 false h46 (fun k49=>neS EE 37 x45 (.fv (.int .i64 0)) fun x50=>k49 x50 h46 [] []) fun x51 h52 _ _=>pickS x24 (.fv (.bool true)) x51 fun x55=>condS x55 (outS1 [x1] h52) (isoS [true] false false ih 77 [x0] h52 fun _ h57 _ _=>S80_133 x0 h57 x1 x17 ih)
def S80_135 (x16:IV) (h21:Hp) (x0 x1:IV) (ih:Handler) (x17:IV):OH :=
 optS (unR .not x16) fun x24=>guardS x24 false h21 (fun k25=>k25 x0 h21 [] []) fun x26 h27 _ _=>guardS x24 false h27 (fun k30=>nilS x26 fun x31=>k30 x31 h27 [] []) fun x32 h33 _ _=>guardS x24 false h33 (fun k36=>faddrS 3 x32 fun x37=>k36 x37 h33 [] []) fun x38 h39 _ _=>guardS x24 false h39 (fun k42=>load1 x38 h39 fun x43 r44=>k42 x43 h39 r44 []) fun x45 h46 _ _=>S80_134 h46 x24 x45 x1 ih x0 x17
def S80_136 (x11:IV) (h12:Hp) (r13 w14 r10 r6:LRf) (x15 x0 x1:IV) (ih:Handler):OH :=
 extS 1 x11 fun x16=>newS 83887116 (.row [.fv (.nilf)] false) (.ptr (.own 83887116) 0) h12 fun x17 h18 r19 w20=>chkS [(r13,w14),(r10,[]),(r6,[])] r19 w20 (store1 x17 x15 h18 fun h21 r22 w23=>chkS [] r22 w23 (S80_135 x16 h21 x0 x1 ih x17))
def S80_137 (h2:Hp) (x8:IV) (r6:LRf) (x5 x0 x1:IV) (ih:Handler):OH :=
 load1 x8 h2 fun x9 r10=>chkS [(r6,[])] r10 [] (genS (pcLookup EE 78 x5 x9 true) 83887112 h2 fun x11 h12 r13 w14=>chkS [] r13 w14 (extS 0 x11 fun x15=>S80_136 x11 h12 r13 w14 r10 r6 x15 x0 x1 ih))
def S80 (ih:Handler) (n:Nat) (x0 x1:IV) (h2:Hp):OH :=
 nilS x0 fun x3=>faddrS 4 x3 fun x4=>load1 x4 h2 fun x5 r6=>chkS [] r6 [] (nilS x1 fun x7=>faddrS 0 x7 fun x8=>S80_137 h2 x8 r6 x5 x0 x1 ih)
theorem S80_ok (ih:Handler) (n:Nat) (x0 x1:IV) (h2:Hp):funS EE ih ft.get n 80 [x0,x1] h2=S80 ih n x0 x1 h2:=by kernel_rfl
def S81_25 (x16 x2:IV) (h10:Hp) (r11 w12 r8:LRf) (ih:Handler) (x0 x9:IV):OH :=
 ixS 3 x16 x2 fun x18=>loadA 3 x18 h10 fun x19 r20=>chkS [(r11,w12),(r8,[])] r20 [] (isoS [true,false,false] false false ih 52 [x0,x9,x19] h10 fun x21 h22 r23 w24=>chkS [] r23 w24 (outS1 [x21] h22))
def S81_26 (x1:IV) (h10:Hp) (r11 w12 r8:LRf) (x2:IV) (ih:Handler) (x0 x9:IV):OH :=
 nilS x1 fun x13=>faddrS 3 x13 fun x14=>faddrS 2 x14 fun x15=>load1 x15 h10 fun x16 r17=>chkS [(r11,w12),(r8,[])] r17 [] (S81_25 x16 x2 h10 r11 w12 r8 ih x0 x9)
def S81 (ih:Handler) (n:Nat) (x0 x1 x2 x3:IV) (h4:Hp):OH :=
 nilS x1 fun x5=>faddrS 6 x5 fun x6=>load1 x6 h4 fun x7 r8=>chkS [] r8 [] (isoS [] false false ih 89 [x7,x3] h4 fun x9 h10 r11 w12=>chkS [] r11 w12 (S81_26 x1 h10 r11 w12 r8 x2 ih x0 x9))
theorem S81_ok (ih:Handler) (n:Nat) (x0 x1 x2 x3:IV) (h4:Hp):funS EE ih ft.get n 81 [x0,x1,x2,x3] h4=S81 ih n x0 x1 x2 x3 h4:=by kernel_rfl
def S82_44 (x12:IV) (h13:Hp) (x0:IV):OH :=
 condS x12 (outS1 [.fv (.int .i64 3)] h13) (eqS EE 3 x0 (.fv (.int .i64 13)) fun x14=>condS x14 (outS1 [.fv (.int .i64 4)] h13) (outS1 [.fv (.int .i64 (-1))] h13))
def S82_45 (x15:IV) (j1_11:IV→Hp→OH) (h10:Hp) (x0:IV):OH :=
 condS x15 (j1_11 x15 h10) (eqS EE 3 x0 (.fv (.int .i64 27)) fun x16=>j1_11 x16 h10)
def S82_46 (x9:IV) (h10:Hp) (x0:IV):OH :=
 condS x9 (outS1 [.fv (.int .i64 2)] h10) ((fun (j1_11:IV→Hp→OH)=>eqS EE 3 x0 (.fv (.int .i64 7)) fun x15=>S82_45 x15 j1_11 h10 x0) fun x12 h13=>S82_44 x12 h13 x0)
def S82_47 (x0:IV) (j1_8:IV→Hp→OH) (h7:Hp):OH :=
 eqS EE 3 x0 (.fv (.int .i64 28)) fun x27=>condS x27 (j1_8 x27 h7) (eqS EE 3 x0 (.fv (.int .i64 29)) fun x28=>j1_8 x28 h7)
def S82_48 (x0:IV) (j1_8:IV→Hp→OH) (h7:Hp):OH :=
 eqS EE 3 x0 (.fv (.int .i64 22)) fun x25=>condS x25 (j1_8 x25 h7) (eqS EE 3 x0 (.fv (.int .i64 26)) fun x26=>condS x26 (j1_8 x26 h7) (S82_47 x0 j1_8 h7))
def S82_49 (x0:IV) (j1_8:IV→Hp→OH) (h7:Hp):OH :=
 eqS EE 3 x0 (.fv (.int .i64 20)) fun x23=>condS x23 (j1_8 x23 h7) (eqS EE 3 x0 (.fv (.int .i64 21)) fun x24=>condS x24 (j1_8 x24 h7) (S82_48 x0 j1_8 h7))
def S82_50 (x0:IV) (j1_8:IV→Hp→OH) (h7:Hp):OH :=
 eqS EE 3 x0 (.fv (.int .i64 16)) fun x21=>condS x21 (j1_8 x21 h7) (eqS EE 3 x0 (.fv (.int .i64 17)) fun x22=>condS x22 (j1_8 x22 h7) (S82_49 x0 j1_8 h7))
def S82_51 (x0:IV) (j1_8:IV→Hp→OH) (h7:Hp):OH :=
 eqS EE 3 x0 (.fv (.int .i64 5)) fun x19=>condS x19 (j1_8 x19 h7) (eqS EE 3 x0 (.fv (.int .i64 6)) fun x20=>condS x20 (j1_8 x20 h7) (S82_50 x0 j1_8 h7))
def S82_52 (x17:IV) (j1_8:IV→Hp→OH) (h7:Hp) (x0:IV):OH :=
 condS x17 (j1_8 x17 h7) (eqS EE 3 x0 (.fv (.int .i64 4)) fun x18=>condS x18 (j1_8 x18 h7) (S82_51 x0 j1_8 h7))
def S82_53 (x6:IV) (h7:Hp) (x0:IV):OH :=
 condS x6 (outS1 [.fv (.int .i64 1)] h7) ((fun (j1_8:IV→Hp→OH)=>eqS EE 3 x0 (.fv (.int .i64 3)) fun x17=>S82_52 x17 j1_8 h7 x0) fun x9 h10=>S82_46 x9 h10 x0)
def S82_54 (x0:IV) (j1_5:IV→Hp→OH) (h4:Hp):OH :=
 eqS EE 3 x0 (.fv (.int .i64 24)) fun x35=>condS x35 (j1_5 x35 h4) (eqS EE 3 x0 (.fv (.int .i64 30)) fun x36=>j1_5 x36 h4)
def S82_55 (x0:IV) (j1_5:IV→Hp→OH) (h4:Hp):OH :=
 eqS EE 3 x0 (.fv (.int .i64 19)) fun x33=>condS x33 (j1_5 x33 h4) (eqS EE 3 x0 (.fv (.int .i64 23)) fun x34=>condS x34 (j1_5 x34 h4) (S82_54 x0 j1_5 h4))
def S82_56 (x0:IV) (j1_5:IV→Hp→OH) (h4:Hp):OH :=
 eqS EE 3 x0 (.fv (.int .i64 12)) fun x31=>condS x31 (j1_5 x31 h4) (eqS EE 3 x0 (.fv (.int .i64 18)) fun x32=>condS x32 (j1_5 x32 h4) (S82_55 x0 j1_5 h4))
def S82_57 (x29:IV) (j1_5:IV→Hp→OH) (h4:Hp) (x0:IV):OH :=
 condS x29 (j1_5 x29 h4) (eqS EE 3 x0 (.fv (.int .i64 9)) fun x30=>condS x30 (j1_5 x30 h4) (S82_56 x0 j1_5 h4))
def S82_58 (x3:IV) (h4:Hp) (x0:IV):OH :=
 condS x3 (outS1 [.fv (.int .i64 0)] h4) ((fun (j1_5:IV→Hp→OH)=>eqS EE 3 x0 (.fv (.int .i64 8)) fun x29=>S82_57 x29 j1_5 h4 x0) fun x6 h7=>S82_53 x6 h7 x0)
def S82_59 (x0:IV) (j1_2:IV→Hp→OH) (h1:Hp):OH :=
 eqS EE 3 x0 (.fv (.int .i64 25)) fun x43=>j1_2 x43 h1
def S82_60 (x0:IV) (j1_2:IV→Hp→OH) (h1:Hp):OH :=
 eqS EE 3 x0 (.fv (.int .i64 14)) fun x41=>condS x41 (j1_2 x41 h1) (eqS EE 3 x0 (.fv (.int .i64 15)) fun x42=>condS x42 (j1_2 x42 h1) (S82_59 x0 j1_2 h1))
def S82_61 (x0:IV) (j1_2:IV→Hp→OH) (h1:Hp):OH :=
 eqS EE 3 x0 (.fv (.int .i64 10)) fun x39=>condS x39 (j1_2 x39 h1) (eqS EE 3 x0 (.fv (.int .i64 11)) fun x40=>condS x40 (j1_2 x40 h1) (S82_60 x0 j1_2 h1))
def S82 (ih:Handler) (n:Nat) (x0:IV) (h1:Hp):OH :=
 (fun (j1_2:IV→Hp→OH)=>eqS EE 3 x0 (.fv (.int .i64 1)) fun x37=>condS x37 (j1_2 x37 h1) (eqS EE 3 x0 (.fv (.int .i64 2)) fun x38=>condS x38 (j1_2 x38 h1) (S82_61 x0 j1_2 h1))) fun x3 h4=>S82_58 x3 h4 x0
theorem S82_ok (ih:Handler) (n:Nat) (x0:IV) (h1:Hp):funS EE ih ft.get n 82 [x0] h1=S82 ih n x0 h1:=by kernel_rfl
def S83_47 (h7:Hp) (x4 x6:IV):OH :=
 guardS x4 true h7 (fun k10=>leS EE 3 x6 (.fv (.int .i64 3000)) fun x11=>k10 x11 h7 [] []) fun x12 h13 _ _=>pickS x4 x12 (.fv (.bool false)) fun x16=>outS1 [x16] h13
def S83_48 (x1:IV) (h2:Hp):OH :=
 geS EE 3 x1 (.fv (.int .i64 0)) fun x18=>guardS x18 true h2 (fun k19=>k19 x1 h2 [] []) fun x20 h21 _ _=>guardS x18 true h21 (fun k24=>leS EE 3 x20 (.fv (.int .i64 2)) fun x25=>k24 x25 h21 [] []) fun x26 h27 _ _=>pickS x18 x26 (.fv (.bool false)) fun x30=>outS1 [x30] h27
def S83_49 (h35:Hp) (x32 x34:IV):OH :=
 guardS x32 true h35 (fun k38=>leS EE 3 x34 (.fv (.int .i64 4)) fun x39=>k38 x39 h35 [] []) fun x40 h41 _ _=>pickS x32 x40 (.fv (.bool false)) fun x44=>outS1 [x44] h41
def S83_50 (x1:IV) (h2:Hp):OH :=
 eqS EE 3 x1 (.fv (.int .i64 0)) fun x46=>outS1 [x46] h2
def S83_51 (x0 x1:IV) (h2:Hp):OH :=
 eqS EE 3 x0 (.fv (.int .i64 26)) fun x31=>condS x31 (geS EE 3 x1 (.fv (.int .i64 0)) fun x32=>guardS x32 true h2 (fun k33=>k33 x1 h2 [] []) fun x34 h35 _ _=>S83_49 h35 x32 x34) (eqS EE 3 x0 (.fv (.int .i64 25)) fun x45=>condS x45 (outS1 [.fv (.bool true)] h2) (S83_50 x1 h2))
def S83 (ih:Handler) (n:Nat) (x0 x1:IV) (h2:Hp):OH :=
 eqS EE 3 x0 (.fv (.int .i64 1)) fun x3=>condS x3 (geS EE 3 x1 (.fv (.int .i64 0)) fun x4=>guardS x4 true h2 (fun k5=>k5 x1 h2 [] []) fun x6 h7 _ _=>S83_47 h7 x4 x6) (eqS EE 3 x0 (.fv (.int .i64 2)) fun x17=>condS x17 (S83_48 x1 h2) (S83_51 x0 x1 h2))
theorem S83_ok (ih:Handler) (n:Nat) (x0 x1:IV) (h2:Hp):funS EE ih ft.get n 83 [x0,x1] h2=S83 ih n x0 x1 h2:=by kernel_rfl
def S86_29 (x0:IV) (h13:Hp):OH :=
 nilS x0 fun x14=>faddrS 2 x14 fun x15=>load1 x15 h13 fun x16 _=>eqS EE 3 x16 (.fv (.int .i64 0)) fun x18=>outS1 [x18] h13
def S86_30 (h9:Hp) (x25:IV) (j0_12:Hp→OH):OH :=
 store1 x25 (.fv (.int .i64 17)) h9 fun h26 _ _=>j0_12 h26
def S86_31 (x21 x0:IV) (h9:Hp) (j0_12:Hp→OH):OH :=
 gtS EE 3 x21 (.fv (.int .i64 1000)) fun x23=>condS x23 (nilS x0 fun x24=>faddrS 2 x24 fun x25=>S86_30 h9 x25 j0_12) (j0_12 h9)
def S86_32 (h1:Hp) (x8 x6 x0:IV):OH :=
 store1 x8 x6 h1 fun h9 _ _=>(fun (j0_12:Hp→OH)=>nilS x0 fun x19=>faddrS 0 x19 fun x20=>load1 x20 h9 fun x21 _=>S86_31 x21 x0 h9 j0_12) fun h13=>S86_29 x0 h13
def S86 (ih:Handler) (n:Nat) (x0:IV) (h1:Hp):OH :=
 nilS x0 fun x2=>faddrS 0 x2 fun x3=>load1 x3 h1 fun x4 _=>addS EE 3 x4 (.fv (.int .i64 1)) fun x6=>nilS x0 fun x7=>faddrS 0 x7 fun x8=>S86_32 h1 x8 x6 x0
theorem S86_ok (ih:Handler) (n:Nat) (x0:IV) (h1:Hp):funS EE ih ft.get n 86 [x0] h1=S86 ih n x0 h1:=by kernel_rfl
def S87_29 (x22:IV) (h2:Hp):OH :=
 faddrS 2 x22 fun x23=>load1 x23 h2 fun x24 _=>ixS 1 x24 (.fv (.int .i64 0)) fun x26=>load1 x26 h2 fun x27 _=>outS1 [x27] h2
def S87_30 (x15:IV) (h2:Hp):OH :=
 faddrS 2 x15 fun x16=>load1 x16 h2 fun x17 _=>ixS 1 x17 (.fv (.int .i64 0)) fun x19=>load1 x19 h2 fun x20 _=>nilS x20 fun x22=>S87_29 x22 h2
def S87_31 (x10:IV) (h2:Hp) (x1 x0:IV):OH :=
 faddrS 0 x10 fun x11=>load1 x11 h2 fun x12 _=>neS EE 3 x12 x1 fun x14=>condS x14 (outS1 [.fv .nilp] h2) (nilS x0 fun x15=>S87_30 x15 h2)
def S87 (ih:Handler) (n:Nat) (x0 x1:IV) (h2:Hp):OH :=
 nilS x0 fun x3=>faddrS 2 x3 fun x4=>load1 x4 h2 fun x5 _=>ixS 1 x5 (.fv (.int .i64 0)) fun x7=>load1 x7 h2 fun x8 _=>nilS x8 fun x10=>S87_31 x10 h2 x1 x0
theorem S87_ok (ih:Handler) (n:Nat) (x0 x1:IV) (h2:Hp):funS EE ih ft.get n 87 [x0,x1] h2=S87 ih n x0 x1 h2:=by kernel_rfl
def S88_18 (x1:IV) (h7:Hp) (j0_3:Hp→OH):OH :=
 eqS EE 3 x1 (.fv (.int .i64 0)) fun x10=>condS x10 (outS1 [.fv (.int .i64 1)] h7) (eqS EE 3 x1 (.fv (.int .i64 2)) fun x11=>condS x11 (outS1 [.fv (.int .i64 2)] h7) (j0_3 h7))
def S88_19 (x6 x1:IV) (h7:Hp) (j0_3:Hp→OH) (x0:IV):OH :=
 condS x6 (eqS EE 3 x1 (.fv (.int .i64 1)) fun x8=>condS x8 (outS1 [.fv (.int .i64 1)] h7) (j0_3 h7)) (eqS EE 3 x0 (.fv (.int .i64 13)) fun x9=>condS x9 (S88_18 x1 h7 j0_3) (j0_3 h7))
def S88_20 (x0:IV) (j1_5:IV→Hp→OH) (h2:Hp):OH :=
 eqS EE 3 x0 (.fv (.int .i64 29)) fun x17=>j1_5 x17 h2
def S88_21 (x0:IV) (j1_5:IV→Hp→OH) (h2:Hp):OH :=
 eqS EE 3 x0 (.fv (.int .i64 20)) fun x15=>condS x15 (j1_5 x15 h2) (eqS EE 3 x0 (.fv (.int .i64 28)) fun x16=>condS x16 (j1_5 x16 h2) (S88_20 x0 j1_5 h2))
def S88_22 (x13:IV) (j1_5:IV→Hp→OH) (h2:Hp) (x0:IV):OH :=
 condS x13 (j1_5 x13 h2) (eqS EE 3 x0 (.fv (.int .i64 6)) fun x14=>condS x14 (j1_5 x14 h2) (S88_21 x0 j1_5 h2))
def S88 (ih:Handler) (n:Nat) (x0 x1:IV) (h2:Hp):OH :=
 (fun (j0_3:Hp→OH)=>(fun (j1_5:IV→Hp→OH)=>eqS EE 3 x0 (.fv (.int .i64 3)) fun x12=>condS x12 (j1_5 x12 h2) (eqS EE 3 x0 (.fv (.int .i64 4)) fun x13=>S88_22 x13 j1_5 h2 x0)) fun x6 h7=>S88_19 x6 x1 h7 j0_3 x0) fun h4=>outS1 [.fv (.int .i64 0)] h4
theorem S88_ok (ih:Handler) (n:Nat) (x0 x1:IV) (h2:Hp):funS EE ih ft.get n 88 [x0,x1] h2=S88 ih n x0 x1 h2:=by kernel_rfl
def S89_27 (x13 x7:IV) (h6:Hp) (x10:IV) (h2:Hp) (x8 x9:IV) (q4:List IV→Hp→OH):OH :=
 bldS [.fv (.nilp),.fv (.nilp)] [(0,1,x13),(1,1,x7)] fun x15=>fzS (pcBox true 93327363 x15) 93327363 x15 h6 fun x16 h17 _ _=>addS EE 3 x10 (.fv (.int .i64 1)) fun x20=>dropS (h2.own.map (·.1)) [93327363] [x16,x8,x9,x20] h17 fun h21=>q4 [x16,x8,x9,x20] h21
def S89_28 (x11 x8 x10:IV) (h6:Hp) (x7:IV) (h2:Hp) (x9:IV) (q4:List IV→Hp→OH):OH :=
 condS x11 (ixS 1 x8 x10 fun x12=>load1 x12 h6 fun x13 _=>S89_27 x13 x7 h6 x10 h2 x8 x9 q4) (outS1 [x7] h6)
def S89_29 (l5:List IV) (h6 h2:Hp) (q4:List IV→Hp→OH):OH :=
 uncS l5 fun x7 l22=>uncS l22 fun x8 l23=>uncS l23 fun x9 l24=>uncS l24 fun x10 _=>ltS EE 3 x10 x9 fun x11=>S89_28 x11 x8 x10 h6 x7 h2 x9 q4
def S89 (ih:Handler) (n:Nat) (x0 x1:IV) (h2:Hp):OH :=
 lenS x1 fun x3=>dropS (h2.own.map (·.1)) [93327363] [x0,x1,x3,.fv (.int .i64 0)] h2 fun h26=>loopS n (fun q4 l5 h6=>S89_29 l5 h6 h2 q4) [x0,x1,x3,.fv (.int .i64 0)] h26
theorem S89_ok (ih:Handler) (n:Nat) (x0 x1:IV) (h2:Hp):funS EE ih ft.get n 89 [x0,x1] h2=S89 ih n x0 x1 h2:=by kernel_rfl
end
noncomputable section
def dt:DT :=
 .node 52 (.node 29 (.node 20 (.node 16 (.node 14 (.node 12 (.leaf 11 (fun ih n=>ar5 (S11 ih n)))
 (.leaf 12 (fun ih n=>ar4 (S12 ih n))))
 (.node 15 (.leaf 14 (fun ih n=>ar0 (S14 ih n)))
 (.leaf 15 (fun ih n=>ar1 (S15 ih n)))))
 (.node 18 (.node 17 (.leaf 16 (fun ih n=>ar1 (S16 ih n)))
 (.leaf 17 (fun ih n=>ar4 (S17 ih n))))
 (.node 19 (.leaf 18 (fun ih n=>ar1 (S18 ih n)))
 (.leaf 19 (fun ih n=>ar1 (S19 ih n))))))
 (.node 25 (.node 22 (.node 21 (.leaf 20 (fun ih n=>ar1 (S20 ih n)))
 (.leaf 21 (fun ih n=>ar2 (S21 ih n))))
 (.node 24 (.leaf 22 (fun ih n=>ar1 (S22 ih n)))
 (.leaf 24 (fun ih n=>ar1 (S24 ih n)))))
 (.node 27 (.node 26 (.leaf 25 (fun ih n=>ar3 (S25 ih n)))
 (.leaf 26 (fun ih n=>ar4 (S26 ih n))))
 (.node 28 (.leaf 27 (fun ih n=>ar2 (S27 ih n)))
 (.leaf 28 (fun ih n=>ar2 (S28 ih n)))))))
 (.node 37 (.node 33 (.node 31 (.node 30 (.leaf 29 (fun ih n=>ar3 (S29 ih n)))
 (.leaf 30 (fun ih n=>ar3 (S30 ih n))))
 (.node 32 (.leaf 31 (fun ih n=>ar3 (S31 ih n)))
 (.leaf 32 (fun ih n=>ar4 (S32 ih n)))))
 (.node 35 (.node 34 (.leaf 33 (fun ih n=>ar2 (S33 ih n)))
 (.leaf 34 (fun ih n=>ar1 (S34 ih n))))
 (.node 36 (.leaf 35 (fun ih n=>ar1 (S35 ih n)))
 (.leaf 36 (fun ih n=>ar1 (S36 ih n))))))
 (.node 47 (.node 43 (.node 42 (.leaf 37 (fun ih n=>ar2 (S37 ih n)))
 (.leaf 42 (fun ih n=>ar0 (S42 ih n))))
 (.node 46 (.leaf 43 (fun ih n=>ar1 (S43 ih n)))
 (.leaf 46 (fun ih n=>ar1 (S46 ih n)))))
 (.node 49 (.node 48 (.leaf 47 (fun ih n=>ar2 (S47 ih n)))
 (.leaf 48 (fun ih n=>ar4 (S48 ih n))))
 (.node 50 (.leaf 49 (fun ih n=>ar3 (S49 ih n)))
 (.node 51 (.leaf 50 (fun ih n=>ar1 (S50 ih n)))
 (.leaf 51 (fun ih n=>ar0 (S51 ih n)))))))))
 (.node 71 (.node 60 (.node 56 (.node 54 (.node 53 (.leaf 52 (fun ih n=>ar3 (S52 ih n)))
 (.leaf 53 (fun ih n=>ar4 (S53 ih n))))
 (.node 55 (.leaf 54 (fun ih n=>ar3 (S54 ih n)))
 (.leaf 55 (fun ih n=>ar2 (S55 ih n)))))
 (.node 58 (.node 57 (.leaf 56 (fun ih n=>ar0 (S56 ih n)))
 (.leaf 57 (fun ih n=>ar1 (S57 ih n))))
 (.node 59 (.leaf 58 (fun ih n=>ar2 (S58 ih n)))
 (.leaf 59 (fun ih n=>ar4 (S59 ih n))))))
 (.node 64 (.node 62 (.node 61 (.leaf 60 (fun ih n=>ar4 (S60 ih n)))
 (.leaf 61 (fun ih n=>ar4 (S61 ih n))))
 (.node 63 (.leaf 62 (fun ih n=>ar4 (S62 ih n)))
 (.leaf 63 (fun ih n=>ar2 (S63 ih n)))))
 (.node 69 (.node 68 (.leaf 64 (fun ih n=>ar4 (S64 ih n)))
 (.leaf 68 (fun ih n=>ar2 (S68 ih n))))
 (.node 70 (.leaf 69 (fun ih n=>ar2 (S69 ih n)))
 (.leaf 70 (fun ih n=>ar2 (S70 ih n)))))))
 (.node 79 (.node 75 (.node 73 (.node 72 (.leaf 71 (fun ih n=>ar1 (S71 ih n)))
 (.leaf 72 (fun ih n=>ar2 (S72 ih n))))
 (.node 74 (.leaf 73 (fun ih n=>ar2 (S73 ih n)))
 (.leaf 74 (fun ih n=>ar2 (S74 ih n)))))
 (.node 77 (.node 76 (.leaf 75 (fun ih n=>ar2 (S75 ih n)))
 (.leaf 76 (fun ih n=>ar2 (S76 ih n))))
 (.node 78 (.leaf 77 (fun ih n=>ar1 (S77 ih n)))
 (.leaf 78 (fun ih n=>ar2 (S78 ih n))))))
 (.node 83 (.node 81 (.node 80 (.leaf 79 (fun ih n=>ar2 (S79 ih n)))
 (.leaf 80 (fun ih n=>ar2 (S80 ih n))))
 (.node 82 (.leaf 81 (fun ih n=>ar4 (S81 ih n)))
 (.leaf 82 (fun ih n=>ar1 (S82 ih n)))))
 (.node 87 (.node 86 (.leaf 83 (fun ih n=>ar2 (S83 ih n)))
 (.leaf 86 (fun ih n=>ar1 (S86 ih n))))
 (.node 88 (.leaf 87 (fun ih n=>ar2 (S87 ih n)))
 (.node 89 (.leaf 88 (fun ih n=>ar2 (S88 ih n)))
 (.leaf 89 (fun ih n=>ar2 (S89 ih n)))))))))
theorem dt_ok:dt.Ok EE ft.get :=
 ⟨⟨⟨⟨⟨⟨(fun ih n _ _ _ e=>ar5_ok (F:=funS EE ih ft.get n 11) (S11_ok ih n) e),
 (fun ih n _ _ _ e=>ar4_ok (F:=funS EE ih ft.get n 12) (S12_ok ih n) e)⟩,
 ⟨(fun ih n _ _ _ e=>ar0_ok (F:=funS EE ih ft.get n 14) (S14_ok ih n) e),
 (fun ih n _ _ _ e=>ar1_ok (F:=funS EE ih ft.get n 15) (S15_ok ih n) e)⟩⟩,
 ⟨⟨(fun ih n _ _ _ e=>ar1_ok (F:=funS EE ih ft.get n 16) (S16_ok ih n) e),
 (fun ih n _ _ _ e=>ar4_ok (F:=funS EE ih ft.get n 17) (S17_ok ih n) e)⟩,
 ⟨(fun ih n _ _ _ e=>ar1_ok (F:=funS EE ih ft.get n 18) (S18_ok ih n) e),
 (fun ih n _ _ _ e=>ar1_ok (F:=funS EE ih ft.get n 19) (S19_ok ih n) e)⟩⟩⟩,
 ⟨⟨⟨(fun ih n _ _ _ e=>ar1_ok (F:=funS EE ih ft.get n 20) (S20_ok ih n) e),
 (fun ih n _ _ _ e=>ar2_ok (F:=funS EE ih ft.get n 21) (S21_ok ih n) e)⟩,
 ⟨(fun ih n _ _ _ e=>ar1_ok (F:=funS EE ih ft.get n 22) (S22_ok ih n) e),
 (fun ih n _ _ _ e=>ar1_ok (F:=funS EE ih ft.get n 24) (S24_ok ih n) e)⟩⟩,
 ⟨⟨(fun ih n _ _ _ e=>ar3_ok (F:=funS EE ih ft.get n 25) (S25_ok ih n) e),
 (fun ih n _ _ _ e=>ar4_ok (F:=funS EE ih ft.get n 26) (S26_ok ih n) e)⟩,
 ⟨(fun ih n _ _ _ e=>ar2_ok (F:=funS EE ih ft.get n 27) (S27_ok ih n) e),
 (fun ih n _ _ _ e=>ar2_ok (F:=funS EE ih ft.get n 28) (S28_ok ih n) e)⟩⟩⟩⟩,
 ⟨⟨⟨⟨(fun ih n _ _ _ e=>ar3_ok (F:=funS EE ih ft.get n 29) (S29_ok ih n) e),
 (fun ih n _ _ _ e=>ar3_ok (F:=funS EE ih ft.get n 30) (S30_ok ih n) e)⟩,
 ⟨(fun ih n _ _ _ e=>ar3_ok (F:=funS EE ih ft.get n 31) (S31_ok ih n) e),
 (fun ih n _ _ _ e=>ar4_ok (F:=funS EE ih ft.get n 32) (S32_ok ih n) e)⟩⟩,
 ⟨⟨(fun ih n _ _ _ e=>ar2_ok (F:=funS EE ih ft.get n 33) (S33_ok ih n) e),
 (fun ih n _ _ _ e=>ar1_ok (F:=funS EE ih ft.get n 34) (S34_ok ih n) e)⟩,
 ⟨(fun ih n _ _ _ e=>ar1_ok (F:=funS EE ih ft.get n 35) (S35_ok ih n) e),
 (fun ih n _ _ _ e=>ar1_ok (F:=funS EE ih ft.get n 36) (S36_ok ih n) e)⟩⟩⟩,
 ⟨⟨⟨(fun ih n _ _ _ e=>ar2_ok (F:=funS EE ih ft.get n 37) (S37_ok ih n) e),
 (fun ih n _ _ _ e=>ar0_ok (F:=funS EE ih ft.get n 42) (S42_ok ih n) e)⟩,
 ⟨(fun ih n _ _ _ e=>ar1_ok (F:=funS EE ih ft.get n 43) (S43_ok ih n) e),
 (fun ih n _ _ _ e=>ar1_ok (F:=funS EE ih ft.get n 46) (S46_ok ih n) e)⟩⟩,
 ⟨⟨(fun ih n _ _ _ e=>ar2_ok (F:=funS EE ih ft.get n 47) (S47_ok ih n) e),
 (fun ih n _ _ _ e=>ar4_ok (F:=funS EE ih ft.get n 48) (S48_ok ih n) e)⟩,
 ⟨(fun ih n _ _ _ e=>ar3_ok (F:=funS EE ih ft.get n 49) (S49_ok ih n) e),
 ⟨(fun ih n _ _ _ e=>ar1_ok (F:=funS EE ih ft.get n 50) (S50_ok ih n) e),
 (fun ih n _ _ _ e=>ar0_ok (F:=funS EE ih ft.get n 51) (S51_ok ih n) e)⟩⟩⟩⟩⟩⟩,
 ⟨⟨⟨⟨⟨(fun ih n _ _ _ e=>ar3_ok (F:=funS EE ih ft.get n 52) (S52_ok ih n) e),
 (fun ih n _ _ _ e=>ar4_ok (F:=funS EE ih ft.get n 53) (S53_ok ih n) e)⟩,
 ⟨(fun ih n _ _ _ e=>ar3_ok (F:=funS EE ih ft.get n 54) (S54_ok ih n) e),
 (fun ih n _ _ _ e=>ar2_ok (F:=funS EE ih ft.get n 55) (S55_ok ih n) e)⟩⟩,
 ⟨⟨(fun ih n _ _ _ e=>ar0_ok (F:=funS EE ih ft.get n 56) (S56_ok ih n) e),
 (fun ih n _ _ _ e=>ar1_ok (F:=funS EE ih ft.get n 57) (S57_ok ih n) e)⟩,
 ⟨(fun ih n _ _ _ e=>ar2_ok (F:=funS EE ih ft.get n 58) (S58_ok ih n) e),
 (fun ih n _ _ _ e=>ar4_ok (F:=funS EE ih ft.get n 59) (S59_ok ih n) e)⟩⟩⟩,
 ⟨⟨⟨(fun ih n _ _ _ e=>ar4_ok (F:=funS EE ih ft.get n 60) (S60_ok ih n) e),
 (fun ih n _ _ _ e=>ar4_ok (F:=funS EE ih ft.get n 61) (S61_ok ih n) e)⟩,
 ⟨(fun ih n _ _ _ e=>ar4_ok (F:=funS EE ih ft.get n 62) (S62_ok ih n) e),
 (fun ih n _ _ _ e=>ar2_ok (F:=funS EE ih ft.get n 63) (S63_ok ih n) e)⟩⟩,
 ⟨⟨(fun ih n _ _ _ e=>ar4_ok (F:=funS EE ih ft.get n 64) (S64_ok ih n) e),
 (fun ih n _ _ _ e=>ar2_ok (F:=funS EE ih ft.get n 68) (S68_ok ih n) e)⟩,
 ⟨(fun ih n _ _ _ e=>ar2_ok (F:=funS EE ih ft.get n 69) (S69_ok ih n) e),
 (fun ih n _ _ _ e=>ar2_ok (F:=funS EE ih ft.get n 70) (S70_ok ih n) e)⟩⟩⟩⟩,
 ⟨⟨⟨⟨(fun ih n _ _ _ e=>ar1_ok (F:=funS EE ih ft.get n 71) (S71_ok ih n) e),
 (fun ih n _ _ _ e=>ar2_ok (F:=funS EE ih ft.get n 72) (S72_ok ih n) e)⟩,
 ⟨(fun ih n _ _ _ e=>ar2_ok (F:=funS EE ih ft.get n 73) (S73_ok ih n) e),
 (fun ih n _ _ _ e=>ar2_ok (F:=funS EE ih ft.get n 74) (S74_ok ih n) e)⟩⟩,
 ⟨⟨(fun ih n _ _ _ e=>ar2_ok (F:=funS EE ih ft.get n 75) (S75_ok ih n) e),
 (fun ih n _ _ _ e=>ar2_ok (F:=funS EE ih ft.get n 76) (S76_ok ih n) e)⟩,
 ⟨(fun ih n _ _ _ e=>ar1_ok (F:=funS EE ih ft.get n 77) (S77_ok ih n) e),
 (fun ih n _ _ _ e=>ar2_ok (F:=funS EE ih ft.get n 78) (S78_ok ih n) e)⟩⟩⟩,
 ⟨⟨⟨(fun ih n _ _ _ e=>ar2_ok (F:=funS EE ih ft.get n 79) (S79_ok ih n) e),
 (fun ih n _ _ _ e=>ar2_ok (F:=funS EE ih ft.get n 80) (S80_ok ih n) e)⟩,
 ⟨(fun ih n _ _ _ e=>ar4_ok (F:=funS EE ih ft.get n 81) (S81_ok ih n) e),
 (fun ih n _ _ _ e=>ar1_ok (F:=funS EE ih ft.get n 82) (S82_ok ih n) e)⟩⟩,
 ⟨⟨(fun ih n _ _ _ e=>ar2_ok (F:=funS EE ih ft.get n 83) (S83_ok ih n) e),
 (fun ih n _ _ _ e=>ar1_ok (F:=funS EE ih ft.get n 86) (S86_ok ih n) e)⟩,
 ⟨(fun ih n _ _ _ e=>ar2_ok (F:=funS EE ih ft.get n 87) (S87_ok ih n) e),
 ⟨(fun ih n _ _ _ e=>ar2_ok (F:=funS EE ih ft.get n 88) (S88_ok ih n) e),
 (fun ih n _ _ _ e=>ar2_ok (F:=funS EE ih ft.get n 89) (S89_ok ih n) e)⟩⟩⟩⟩⟩⟩⟩
theorem sh_run:∀n f args h x,SS dt n f args h=some x→run EE n f args h=some x:=SS_ok ft_ok dt_ok
end
end Idl
end Go.Proofs.Ytbkdidonegggdaa

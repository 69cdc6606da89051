/- Part 7 of a proof. No statement is proved here. -/
import Derived.Test.YtnenpcghegcnhaaGreatChecked
import Derived.KernelRfl
import Derived.Test.YtnenpcghegcnhaaGreatKernelShiftK6
set_option linter.all false
set_option maxRecDepth 20000
set_option maxHeartbeats 16000000
noncomputable section
namespace Go.Proofs.YtnenpcghegcnhaaGreat
namespace Idl
abbrev zz:IV:=.fv (.int .i64 0)
def tab:TTree :=
 .node 79 (.node 17 (.node 10 (.node 6 (.node 3 (.leaf 2 ⟨1,8,.int .i64,[zz]⟩)
 (.node 4 (.leaf 3 ⟨1,8,.int .i64,[zz]⟩)
 (.leaf 4 ⟨1,1,.bool,[.fv (.bool false)]⟩)))
 (.node 8 (.leaf 6 ⟨1,1,.int .u8,[.fv (.int .u8 0)]⟩)
 (.node 9 (.leaf 8 ⟨4,24,.struct [(0,2),(1,3),(2,4),(3,6)],[zz,zz,.fv (.bool false),.fv (.int .u8 0)]⟩)
 (.leaf 9 ⟨1,16,.str,[.fv (.str .empty)]⟩))))
 (.node 14 (.node 11 (.leaf 10 ⟨1,16,.str,[.fv (.str .empty)]⟩)
 (.node 12 (.leaf 11 ⟨1,16,.str,[.fv (.str .empty)]⟩)
 (.leaf 12 ⟨1,8,.int .u64,[.fv (.int .u64 0)]⟩)))
 (.node 15 (.leaf 14 ⟨2,24,.struct [(0,9),(1,12)],[.fv (.str .empty),.fv (.int .u64 0)]⟩)
 (.node 16 (.leaf 15 ⟨1,8,.ptr,[.fv (.nilp)]⟩)
 (.leaf 16 ⟨1,8,.ptr,[.fv (.nilp)]⟩)))))
 (.node 31 (.node 24 (.node 19 (.leaf 17 ⟨1,8,.ptr,[.fv (.nilp)]⟩)
 (.node 22 (.leaf 19 ⟨1,8,.struct [(0,17)],[.fv (.nilp)]⟩)
 (.leaf 22 ⟨1,24,.slice 24,[.nils]⟩)))
 (.node 28 (.leaf 24 ⟨3,40,.struct [(0,3),(1,3),(2,22)],[zz,zz,.nils]⟩)
 (.node 29 (.leaf 28 ⟨1,24,.slice 67,[.nils]⟩)
 (.leaf 29 ⟨1,24,.slice 31,[.nils]⟩))))
 (.node 59 (.node 41 (.leaf 31 ⟨3,40,.struct [(0,3),(1,3),(2,29)],[zz,zz,.nils]⟩)
 (.node 44 (.leaf 41 ⟨1,8,.int .i64,[zz]⟩)
 (.leaf 44 ⟨1,8,.func,[.fv (.nilf)]⟩)))
 (.node 67 (.node 65 (.leaf 59 ⟨1,24,.slice 4,[.nils]⟩)
 (.leaf 65 ⟨1,24,.slice 3,[.nils]⟩))
 (.node 77 (.leaf 67 ⟨4,48,.struct [(0,3),(1,31)],[zz,zz,zz,.nils]⟩)
 (.leaf 77 ⟨1,8,.ptr,[.fv (.nilp)]⟩))))))
 (.node 122 (.node 103 (.node 87 (.node 83 (.leaf 79 ⟨2,16,.struct [(0,3),(1,3)],[zz,zz]⟩)
 (.node 85 (.leaf 83 ⟨1,8,.func,[.fv (.nilf)]⟩)
 (.leaf 85 ⟨1,24,.slice 67,[.nils]⟩)))
 (.node 89 (.leaf 87 ⟨1,8,.ptr,[.fv (.nilp)]⟩)
 (.node 91 (.leaf 89 ⟨3,24,.struct [(0,3),(1,3),(2,3)],[zz,zz,zz]⟩)
 (.leaf 91 ⟨1,8,.ptr,[.fv (.nilp)]⟩))))
 (.node 112 (.node 105 (.leaf 103 ⟨1,8,.func,[.fv (.nilf)]⟩)
 (.node 110 (.leaf 105 ⟨1,8,.ptr,[.fv (.nilp)]⟩)
 (.leaf 110 ⟨1,24,.slice 91,[.nils]⟩)))
 (.node 117 (.leaf 112 ⟨7,104,.struct [(0,3),(1,3),(2,110),(3,110),(4,31)],[zz,zz,.nils,.nils,zz,zz,.nils]⟩)
 (.node 120 (.leaf 117 ⟨1,8,.int .i64,[zz]⟩)
 (.leaf 120 ⟨1,8,.ptr,[.fv (.nilp)]⟩)))))
 (.node 141 (.node 131 (.node 124 (.leaf 122 ⟨1,8,.ptr,[.fv (.nilp)]⟩)
 (.node 126 (.leaf 124 ⟨1,8,.map 3 143,[.dead]⟩)
 (.leaf 126 ⟨5,40,.struct [(0,3),(1,3),(2,3),(3,41),(4,124)],[zz,zz,zz,zz,.dead]⟩)))
 (.node 136 (.leaf 131 ⟨1,8,.func,[.fv (.nilf)]⟩)
 (.node 140 (.leaf 136 ⟨4,48,.struct [(0,31),(3,41)],[zz,zz,.nils,zz]⟩)
 (.leaf 140 ⟨31,248,.arr 31 3,[zz,zz,zz,zz,zz,zz,zz,zz,zz,zz,zz,zz,zz,zz,zz,zz,zz,zz,zz,zz,zz,zz,zz,zz,zz,zz,zz,zz,zz,zz,zz]⟩))))
 (.node 146 (.node 143 (.leaf 141 ⟨1,8,.func,[.fv (.nilf)]⟩)
 (.node 144 (.leaf 143 ⟨1,8,.struct [(0,141)],[.fv (.nilf)]⟩)
 (.leaf 144 ⟨1,8,.ptr,[.fv (.nilp)]⟩)))
 (.node 156 (.node 148 (.leaf 146 ⟨1,24,.slice 122,[.nils]⟩)
 (.leaf 148 ⟨7,88,.struct [(0,3),(1,3),(2,146),(3,31),(6,144)],[zz,zz,.nils,zz,zz,.nils,.fv (.nilp)]⟩))
 (.node 171 (.leaf 156 ⟨2,16,.struct [(0,122),(1,144)],[.fv (.nilp),.fv (.nilp)]⟩)
 (.leaf 171 ⟨1,1,.int .u8,[.fv (.int .u8 0)]⟩))))))
def mY:List (Nat×List Bool):=[(53,[true,false,false]),(59,[true,false,false,false]),(60,[true,false,false]),(80,[false,true,false]),(87,[true,false]),(97,[true,false,false]),(98,[true,false,false,false]),(116,[true]),(120,[true,false]),(121,[true,false]),(122,[true,false]),(123,[true,false]),(124,[true,false]),(125,[true]),(128,[true,false]),(129,[true,false,false,false])]
def lB:List (Nat×Nat×List Nat×List Nat):=[(3,11,[0,1,2,3,4,5,6,7,8,9,10,11,12,14,15,16,17,20,21,22,23,24,25,26,27,28,29,30,31,32,33,34,35,36,37,38,39,40,41,42,43,44,45,46,47,48,49,50,51,52,53,54,55,56,57,58,59,60,61,62,63,64,65,66,67,68,69,70,71,72,73,74,75,76,77,78,79,80,81,82,83,84,85,86,87,88,89,90,91,92,93,94,95,96,97,98,99,100,101,102,103,104,105,106,107,108,109,110,111,112,113,114,115,116,117,118,119,120],[3162122,3164170]),
 (3,14,[0,1,2,3,4,5,6,7,8,9,10,11,12,14,15,16,17,21,22,23,24,25,26,27,28,29,30,31,32,33,34,35,36,37,38,39,40,41,42,43,44,45,46,47,48,49,50,51,52,53,54,55,56,57,58,59,60,61,62,63,64,65,66,67,68,69,70,71,72,73,74,75,76,77,78,79,80,81,82,83,84,85,86,87,88,89,90,91,92,93,94,95,96,97,98,99,100,101,102,103,104,105,106,107,108,109,110,111,112,113,114,115,116,117,118,119,120],[3162122,3164170]),
 (7,13,[0,1,2,3,5,6,7,8,9,10,12,14,19,20,21,22,23,24,25,26,27,28,29,30,31,32,33,34,35,36,37,38,39,40,41,42,43,44,45,46,47,48,49,50,51,52,53,54,55,56,57,58,59,60,61,62,63,64,65,66,67,68,69,70,71,72,73,74,75,76,77,78,79,80,81,82,83,84,85,86,87,88,89,90,91,92,93,94,95,96,97,98,99,100,101,102,103,104,105],[]),
 (10,7,[0,1,4,6,7,8,11,12,13,14,15,16,17,18,19,20,21,22,23,24,25,26,27,28,29,30,31,32,33,34,35,36,37,38,39,40,41,42,43,44,45,46,47,48,49,50,51,52,53,54,55,56,57,58,59,60,61,62,63,64,65,66,67,68,69,70,71,72,73,74,75,76,77,78,79,80,81,82,83,84,85,86,87,88,89,90,91,92,93,94,95],[]),
 (12,2,[1,2,4,5,6,7,8,9,10,11,12,13,14,15,16,17,18],[]),
 (15,6,[0,2,3,4,9,10,11,12,13,14,15,16,17,18,19,20,21,22,23,24,25,26,27,28,29,30,31,32,33,34,35,36,37,38,39,40,41,42,43,44,45,46,47,48,49,50,51,52,53,54,55,56,57,58,59],[]),
 (17,3,[0,2,5,6,7,8,9,10,11,12,13,14,15,16,17,18,19,20],[]),
 (18,15,[0,4,5,10,11,12,13,14,15,16,17,18,19,20,21,22,23,24,25,26,27,28,29,30,31,32,33,34,35,36,37,38,39,40,41,42,43,44,45,46,47,48,49,50,51,52,53,54,55,56,57,58,59,60,61,62,63,64,65,66,67,68,69,70,71,72,73,74,75,76,77],[18891790]),
 (23,4,[0,1,4,6,7,8,9,10,11,12,13,14,15,16,17,18,19,20,21,22,23,24,25,26,27,28,29,30,31,32,33,34,35,36,37,38,39,40,41,42,43,44,45],[]),
 (25,4,[0,3,4,6,7,8,9,10,11,12,13,14,15,16,17,18,19,20,21,22,23,24,25,26,27,28,29,30,31,32],[]),
 (28,3,[1,2,5,6,7,8,9,10,11,12,13,14,15,16,17,18,19,20,21,22,23,24,25,26,27,28,29,30,31,32,33,34,35,36,37,38,39,40,41,42,43,44,45,46],[29366282]),
 (35,5,[0,4,5,9,10,11,12,13,14,15,16,17,18,19,20,21,22,23,24,25,26,27,28,29,30,31,32,33,34,35,36,37,38,39,40,41,42,43,44,45,46,47,48,49,50,51,52,53],[36707344]),
 (36,2,[1,2,4,5,6,7,8,9,10,11,12,13,14,15,16,17,18,19,20,21,22,23,24,25,26,27,28,29,30,31,32,33,34,35,36,37,38,39,40,41,42,43,44,45,46,47,48,49,50,51,52,53,54],[37752836]),
 (37,3,[1,2,4,5,6,7,8,12,13,14,15,16,17,18,19,20,21,22,23,24,25,26,27,28,29,30,31,32,33,34,35,36,37,38,39,40,41,42,43,44,45,46,47,48,49,50,51,52,53,54,55,56,57,58,59,60,61,62,63],[38801411,38807562]),
 (40,3,[0,3,4,7,8,9,10,11,12,13,14,15,16,17,18,19,20,21,22,23,24,25,26,27,28,29,30],[]),
 (51,2,[3,4,5,6,8,10,11,12,13,14,15,16,17,18,19,20,21,22,23,24,25,26,27],[]),
 (53,7,[1,3,5,7,8,9,10,11,12,13,14,15,16,17,18,19,20,21,22,23,24,25,26,27,28,29,30,31,32,33,34,35,36,37,38,39,40,41,42,43,44,45,46,47,48,49,50,51,52,53,54,55,56,57,58,59,60,61,62,63,64,65,66,67,68],[]),
 (59,10,[4,5,6,7,11,12,13,14,15,16,17,18,19,20,21,22,23,24,25,26,27,28,29,30,31,32,33,34,35,36,37,38,39,40,41,42,43,44,45,46,47,48,49,50,51,52,53,54,55,56,57,58,59,60,61,62,63,64,65,66,67,68,69,70,71,72,73,74,75,76,77,78,79,80,81,82,83,84,85,86,87,88,89,90,91,92,93,94,95,96,97,98,99,100,101,102,103,104,105,106,107,108,109,110,111,112,113,114,115,116,117,118,119,120,121,122,123,124,125,126,127,128,129,130],[61885445,61887499]),
 (59,17,[4,5,6,7,15,16,17,18,19,20,21,22,23,24,25,26,27,28,29,30,31,32,33,34,35,36,37,38,39,40,41,42,43,44,45,46,47,48,49,50,51,52,53,54,55,56,57,58,59,60,61,62,63,64,65,66,67,68,69,70,71,72,73,74,75,76,77,78,79,80,81,82,83,84,85,86,87,88,89,90,91,92,93,94,95,96,97,98,99,100,101,102,103,104,105,106,107,108,109,110,111,112,113,114,115,116,117,118,119,120,121,122,123,124,125,126,127,128,129,130],[61885445]),
 (60,9,[1,3,5,6,9,10,11,12,13,14,15,16,17,18,19,20,21,22,23,24,25,26,27,28,29,30,31,32,33,34,35,36,37,38,39,40,41,42,43,44,45,46,47,48,49,50,51,52,53,54,55,56,57,58,59,60,61,62,63,64,65,66,67,68,69,70,71,72,73,74,75,76,77,78,79,80,81,82,83,84,85,86,87,88,89,90,91,92,93,94,95],[62926860,62926862,62927886]),
 (61,3,[0,5,6,7,8,9,10,11,12,13,14,15,16,17,18,19,20,21,22,23,24,25,26,27,28,29,30,31,32,33,34,35,36,37,38,39,40,41,42,43,44,45,46,47,48,49,50,51,52,53,54,55,56,57,58,59,60,61,62,63,64,65,66,67,68,69,70,71,72,73,74,75,76,77,78,79,80,81,82,83,84,85,86,87,88,89,90,91,92,93,94,95,96,97,98,99,100,101,102,103,104,105,106,107,108,109,110,111,112,113,114,115,116,117,118,119,120,121,122,123,124,125,126,127,128,129,130],[63968262,63971332]),
 (66,3,[2,4,5,7,9,12,13,14,15,16,17,18,19,20,21,22,23,24,25,26,27,28,29,30,31,32,33,34,35,36,37,38,39,40,41,42,43,44,45,46,47,48,49,50,51,52,53,54,55,56,57,58,59,60,61,62,63,64,65,66,67,68,69,70,71],[69212176,69214211]),
 (69,9,[0,3,5,6,11,12,13,14,15,16,17,18,19,20,21,22,23,24,25,26,27,28,29,30,31,32,33,34,35,36,37,38,39,40,41,42,43,44,45,46,47,48,49,50,51,52,53,54,55,56,57,58,59,60,61,62,63,64,65,66,67],[72364048]),
 (80,7,[0,3,4,5,6,7,8,9,10,11,12,13,14,15,16,17,18,19,20,21,22,23,24,25,26,27,28,29,30,31,32,33,34,35,36,37,38,42,43,44,45,46,47,48,49,50,51,52,53],[83894274]),
 (81,2,[2,3,4,5,6,9,10,11,12,13,14,15,16,17,18],[]),
 (88,4,[0,3,4,6,7,8,9,10,11,12,13,14,15,16,17,18,19,20,21,22,23,24,25,26,27,28,29,30,31],[]),
 (90,3,[1,5,6,7,8,9,10,11,12,13,14],[]),
 (95,5,[0,1,2,3,4,5,6,7,8,9,10,11,12,13,14,15,16,17,18,19,20,21,22,23,24,25,26,27,28,32,33,34,35,36,37,38],[99620866]),
 (97,8,[2,3,4,6,8,9,10,11,12,13,14,15,16,17,18,19,20,21,22,23,24,25,26,27,28,29,30,31,32,33,34,35,36,37,41,42,43,44,45,46,47,48,49,50,51,52,53,54,55,56,57,58,59,60,61,62,63,64,65,66,67,68,69],[101721091]),
 (98,11,[4,5,6,7,10,11,12,13,14,15,16,17,18,19,20,21,22,23,24,25,26,27,28,29,30,31,32,33,34,35,36,37,38,39,40,41,42,43,44,45,46,47,48,49,50,51,52,53,54,55,56,57,58,59,60,61,62,63,64,65,66,67,68,71,72,73,74,75,76,77,78,79,80,81,82,83,84,85,86,87,88,89,90,91,92,93,94,95,96,97,98,99,100,101,102,103,104,105,106,107,108,109,110,111,112,113,114,115,116,117,118,119,120,121,122,123,124,125,126,127,128,129,130,131,132,133,134,135,136],[102775809,102779910]),
 (98,17,[4,5,6,7,11,14,15,16,17,18,19,20,21,22,23,24,25,26,27,28,29,30,31,32,33,34,35,36,37,38,39,40,41,42,43,44,45,46,47,48,49,50,51,52,53,54,55,56,57,58,59,60,61,62,63,64,65,66,67,68,71,72,73,74,75,76,77,78,79,80,81,82,83,84,85,86,87,88,89,90,93,94,95,96,97,98,99,100,101,102,103,104,105,106,107,108,109,110,111,112,113,114,115,116,117,118,119,120,121,122,123,124,125,126,127,128,129,130,131,132,133,134,135,136],[102779910]),
 (105,3,[0,2,3,4,5,7,8,10,11,12,13,14,18,19,20,21,22,23,24,25,26,27,28,29],[110104578]),
 (126,1,[2,3,4,5,6,7,8,9,10,11,12,13,14,15,16,17,18,19,20,21,22],[]),
 (130,5,[0,4,5,8,9,10,11,12,13,14,15,16,17,18,19,20,21,25,26,27,28,29,30,31,32,33,34,35,36,37,38,39,40,41,42,43,44,45,46,47],[136321027]),
 (142,2,[1,2,3,4,5,6,10,11,12,13,14,15,16,17,18],[148901891]),
 (145,4,[0,4,5,6,7,8,9,10,11,12,13,14,15,16,17,21,22,23,24,25,26,27,28,29,30,31,32,33,34],[152048643]),
 (148,3,[0,4,5,6,7,8,9,10,14,15,16,17,18,19,20,21,22,23,24,25,26,27,28,29],[155193347]),
 (149,3,[0,4,5,6,7,8,9,10,11,12,13,14,15,19,20,21,22,23,24,25,26,27,28,29,30,31,32,33,34,35,36,37,38,39,40,41,42,43,44,45,46,47,48],[156241923]),
 (150,4,[0,3,4,5,6,7,8,9,10,11,12,13,14,18,19,20,21,22,23,24,25,26,27,28,29,30,31],[157291523,157292548])]
def So (l:List Nat) (f:Nat):Bool:=l.any fun g=>Nat.beq g f
def Zk (f:Nat):List (Nat×List Bool)->List Bool
 | []=>[]
 | (g,k)::l=>if Nat.beq g f then k else Zk f l
def fW (f r:Nat):List (Nat×Nat×List Nat×List Nat)->List Nat×List Nat
 | []=>([],[])
 | (g,q,k)::l=>if Nat.beq g f && Nat.beq q r then k else fW f r l
def pol:Pol where
 inl:=So [96]
 keep:=fun f=>Zk f mY
 raw:=So [96,143]
 head:=fun f r=>fW f r lB
 rowApp:=fun f _ _=>So [15] f
 fzBox:=fun f _ _=>So [59,98,142] f
 split:=So [144]
def EE:Env:=⟨Tryz.prog,tab.get,pol⟩
set_option maxRecDepth 100000 in
def sN:tab.leaves.map (fun p=>lU Tryz.prog p.1)=tab.leaves.map (fun p=>some p.2):=by kernel_rfl
def aS:Tryz.prog.follows .mixedOrders=true:=by kernel_rfl
def ZZ:WX Tryz.prog=true:=by kernel_rfl
def Zi:Ww Tryz.prog=true:=by kernel_rfl
def ft:FTr :=
 .node 77 (.node 39 (.node 20 (.node 11 (.node 6 (.node 4 (.node 3 (.leaf 2 Tryz.f2)
 (.leaf 3 Tryz.f3))
 (.node 5 (.leaf 4 Tryz.f4)
 (.leaf 5 Tryz.f5)))
 (.node 8 (.node 7 (.leaf 6 Tryz.f6)
 (.leaf 7 Tryz.f7))
 (.node 9 (.leaf 8 Tryz.f8)
 (.node 10 (.leaf 9 Tryz.f9)
 (.leaf 10 Tryz.f10)))))
 (.node 15 (.node 13 (.node 12 (.leaf 11 Tryz.f11)
 (.leaf 12 Tryz.f12))
 (.node 14 (.leaf 13 Tryz.f13)
 (.leaf 14 Tryz.f14)))
 (.node 17 (.node 16 (.leaf 15 Tryz.f15)
 (.leaf 16 Tryz.f16))
 (.node 18 (.leaf 17 Tryz.f17)
 (.node 19 (.leaf 18 Tryz.f18)
 (.leaf 19 Tryz.f19))))))
 (.node 29 (.node 24 (.node 22 (.node 21 (.leaf 20 Tryz.f20)
 (.leaf 21 Tryz.f21))
 (.node 23 (.leaf 22 Tryz.f22)
 (.leaf 23 Tryz.f23)))
 (.node 26 (.node 25 (.leaf 24 Tryz.f24)
 (.leaf 25 Tryz.f25))
 (.node 27 (.leaf 26 Tryz.f26)
 (.node 28 (.leaf 27 Tryz.f27)
 (.leaf 28 Tryz.f28)))))
 (.node 34 (.node 31 (.node 30 (.leaf 29 Tryz.f29)
 (.leaf 30 Tryz.f30))
 (.node 32 (.leaf 31 Tryz.f31)
 (.node 33 (.leaf 32 Tryz.f32)
 (.leaf 33 Tryz.f33))))
 (.node 36 (.node 35 (.leaf 34 Tryz.f34)
 (.leaf 35 Tryz.f35))
 (.node 37 (.leaf 36 Tryz.f36)
 (.node 38 (.leaf 37 Tryz.f37)
 (.leaf 38 Tryz.f38)))))))
 (.node 58 (.node 48 (.node 43 (.node 41 (.node 40 (.leaf 39 Tryz.f39)
 (.leaf 40 Tryz.f40))
 (.node 42 (.leaf 41 Tryz.f41)
 (.leaf 42 Tryz.f42)))
 (.node 45 (.node 44 (.leaf 43 Tryz.f43)
 (.leaf 44 Tryz.f44))
 (.node 46 (.leaf 45 Tryz.f45)
 (.node 47 (.leaf 46 Tryz.f46)
 (.leaf 47 Tryz.f47)))))
 (.node 53 (.node 50 (.node 49 (.leaf 48 Tryz.f48)
 (.leaf 49 Tryz.f49))
 (.node 51 (.leaf 50 Tryz.f50)
 (.node 52 (.leaf 51 Tryz.f51)
 (.leaf 52 Tryz.f52))))
 (.node 55 (.node 54 (.leaf 53 Tryz.f53)
 (.leaf 54 Tryz.f54))
 (.node 56 (.leaf 55 Tryz.f55)
 (.node 57 (.leaf 56 Tryz.f56)
 (.leaf 57 Tryz.f57))))))
 (.node 67 (.node 62 (.node 60 (.node 59 (.leaf 58 Tryz.f58)
 (.leaf 59 Tryz.f59))
 (.node 61 (.leaf 60 Tryz.f60)
 (.leaf 61 Tryz.f61)))
 (.node 64 (.node 63 (.leaf 62 Tryz.f62)
 (.leaf 63 Tryz.f63))
 (.node 65 (.leaf 64 Tryz.f64)
 (.node 66 (.leaf 65 Tryz.f65)
 (.leaf 66 Tryz.f66)))))
 (.node 72 (.node 69 (.node 68 (.leaf 67 Tryz.f67)
 (.leaf 68 Tryz.f68))
 (.node 70 (.leaf 69 Tryz.f69)
 (.node 71 (.leaf 70 Tryz.f70)
 (.leaf 71 Tryz.f71))))
 (.node 74 (.node 73 (.leaf 72 Tryz.f72)
 (.leaf 73 Tryz.f73))
 (.node 75 (.leaf 74 Tryz.f74)
 (.node 76 (.leaf 75 Tryz.f75)
 (.leaf 76 Tryz.f76))))))))
 (.node 115 (.node 96 (.node 86 (.node 81 (.node 79 (.node 78 (.leaf 77 Tryz.f77)
 (.leaf 78 Tryz.f78))
 (.node 80 (.leaf 79 Tryz.f79)
 (.leaf 80 Tryz.f80)))
 (.node 83 (.node 82 (.leaf 81 Tryz.f81)
 (.leaf 82 Tryz.f82))
 (.node 84 (.leaf 83 Tryz.f83)
 (.node 85 (.leaf 84 Tryz.f84)
 (.leaf 85 Tryz.f85)))))
 (.node 91 (.node 88 (.node 87 (.leaf 86 Tryz.f86)
 (.leaf 87 Tryz.f87))
 (.node 89 (.leaf 88 Tryz.f88)
 (.node 90 (.leaf 89 Tryz.f89)
 (.leaf 90 Tryz.f90))))
 (.node 93 (.node 92 (.leaf 91 Tryz.f91)
 (.leaf 92 Tryz.f92))
 (.node 94 (.leaf 93 Tryz.f93)
 (.node 95 (.leaf 94 Tryz.f94)
 (.leaf 95 Tryz.f95))))))
 (.node 105 (.node 100 (.node 98 (.node 97 (.leaf 96 Tryz.f96)
 (.leaf 97 Tryz.f97))
 (.node 99 (.leaf 98 Tryz.f98)
 (.leaf 99 Tryz.f99)))
 (.node 102 (.node 101 (.leaf 100 Tryz.f100)
 (.leaf 101 Tryz.f101))
 (.node 103 (.leaf 102 Tryz.f102)
 (.node 104 (.leaf 103 Tryz.f103)
 (.leaf 104 Tryz.f104)))))
 (.node 110 (.node 107 (.node 106 (.leaf 105 Tryz.f105)
 (.leaf 106 Tryz.f106))
 (.node 108 (.leaf 107 Tryz.f107)
 (.node 109 (.leaf 108 Tryz.f108)
 (.leaf 109 Tryz.f109))))
 (.node 112 (.node 111 (.leaf 110 Tryz.f110)
 (.leaf 111 Tryz.f111))
 (.node 113 (.leaf 112 Tryz.f112)
 (.node 114 (.leaf 113 Tryz.f113)
 (.leaf 114 Tryz.f114)))))))
 (.node 134 (.node 124 (.node 119 (.node 117 (.node 116 (.leaf 115 Tryz.f115)
 (.leaf 116 Tryz.f116))
 (.node 118 (.leaf 117 Tryz.f117)
 (.leaf 118 Tryz.f118)))
 (.node 121 (.node 120 (.leaf 119 Tryz.f119)
 (.leaf 120 Tryz.f120))
 (.node 122 (.leaf 121 Tryz.f121)
 (.node 123 (.leaf 122 Tryz.f122)
 (.leaf 123 Tryz.f123)))))
 (.node 129 (.node 126 (.node 125 (.leaf 124 Tryz.f124)
 (.leaf 125 Tryz.f125))
 (.node 127 (.leaf 126 Tryz.f126)
 (.node 128 (.leaf 127 Tryz.f127)
 (.leaf 128 Tryz.f128))))
 (.node 131 (.node 130 (.leaf 129 Tryz.f129)
 (.leaf 130 Tryz.f130))
 (.node 132 (.leaf 131 Tryz.f131)
 (.node 133 (.leaf 132 Tryz.f132)
 (.leaf 133 Tryz.f133))))))
 (.node 143 (.node 138 (.node 136 (.node 135 (.leaf 134 Tryz.f134)
 (.leaf 135 Tryz.f135))
 (.node 137 (.leaf 136 Tryz.f136)
 (.leaf 137 Tryz.f137)))
 (.node 140 (.node 139 (.leaf 138 Tryz.f138)
 (.leaf 139 Tryz.f139))
 (.node 141 (.leaf 140 Tryz.f140)
 (.node 142 (.leaf 141 Tryz.f141)
 (.leaf 142 Tryz.f142)))))
 (.node 148 (.node 145 (.node 144 (.leaf 143 Tryz.f143)
 (.leaf 144 Tryz.f144))
 (.node 146 (.leaf 145 Tryz.f145)
 (.node 147 (.leaf 146 Tryz.f146)
 (.leaf 147 Tryz.f147))))
 (.node 150 (.node 149 (.leaf 148 Tryz.f148)
 (.leaf 149 Tryz.f149))
 (.node 151 (.leaf 150 Tryz.f150)
 (.node 152 (.leaf 151 Tryz.f151)
 (.leaf 152 Tryz.f152))))))))
def AaX:∀f fn,ft.get f=some fn->EE.P.funcs[f]?=some fn:=FTr.ok (by kernel_rfl)
def Aap:EnvOk EE:=zD sN aS ZZ Zi
section lists
variable {α β:Type}
def DD (l:List α) (i:Nat) (k:α->Option β):Option β :=List.rec (motive:=fun _=>Nat->Option β) (fun _=>none) (fun x _ ih i=>Nat.rec (motive:=fun _=>Option β) (k x) (fun p _=>ih p) i) l i
theorem Dk (l:List α) (i:Nat) (k:α->Option β):DD l i k=(l[i]?).bind k:=by
 induction l generalizing i with
 | nil=>rfl
 | cons x l ih=>cases i with
  | zero=>rfl
  | succ i=>exact ih i
def Fw (l:List α) (n:Nat) (k:List α->Option β):Option β :=List.rec (motive:=fun _=>Nat->Option β) (fun n=>Nat.rec (motive:=fun _=>Option β) (k []) (fun _ _=>none) n) (fun x t ih n=>Nat.rec (motive:=fun _=>Option β) (k (x::t)) (fun p _=>ih p) n) l n
theorem Jt (l:List α) (n:Nat) (k:List α->Option β):Fw l n k=if n<=l.length then k (l.drop n) else none:=by
 induction l generalizing n with
 | nil=>cases n with
  | zero=>rfl
  | succ n=>rw [if_neg (by simp)];rfl
 | cons x l ih=>cases n with
  | zero=>rw [if_pos (Nat.zero_le _)];rfl
  | succ n=>rw [show Fw (x::l) (n+1) k=Fw l n k from rfl,ih];simp
def FK (l:List α) (n:Nat) (k:List α->Option β):Option β :=
 List.rec (motive:=fun _=>Nat->(List α->Option β)->Option β) (fun n k=>Nat.rec (motive:=fun _=>Option β) (k []) (fun _ _=>none) n)
  (fun x _ ih n k=>Nat.rec (motive:=fun _=>Option β) (k []) (fun p _=>ih p fun xs=>k (x::xs)) n) l n k
theorem Jx (l:List α) (n:Nat) (k:List α->Option β):FK l n k=if n<=l.length then k (l.take n) else none:=by
 induction l generalizing n k with
 | nil=>cases n with
  | zero=>rfl
  | succ n=>rw [if_neg (by simp)];rfl
 | cons x l ih=>cases n with
  | zero=>rw [if_pos (Nat.zero_le _)];rfl
  | succ n=>rw [show FK (x::l) (n+1) k=FK l n (fun xs=>k (x::xs)) from rfl,ih];simp
def Oe (l:List α) (j:Nat) (b:α) (k:List α->Option β):Option β :=List.rec (motive:=fun _=>Nat->(List α->Option β)->Option β) (fun _ k=>k []) (fun x t ih j k=>Nat.rec (motive:=fun _=>Option β) (k (b::t)) (fun p _=>ih p fun xs=>k (x::xs)) j) l j k
theorem ZQ (l:List α) (j:Nat) (b:α) (k:List α->Option β):Oe l j b k=k (l.set j b):=by
 induction l generalizing j k with
 | nil=>rfl
 | cons x l ih=>cases j with
  | zero=>rfl
  | succ j=>rw [show Oe (x::l) (j+1) b k=Oe l j b (fun xs=>k (x::xs)) from rfl,ih];rfl
def Ay (l:List α) (k:α->List α->Option β):Option β:=List.casesOn (motive:=fun _=>Option β) l none k
end lists
section
variable {α:Type}
def eW (r:Ref) (k:Ref->α):α:=match r with
 | .own n=>Ec n fun n=>k (.own n)
 | .ext n=>Ec n fun n=>k (.ext n)
theorem M9 (r:Ref) (k:Ref->α):eW r k=k r:=by cases r<;>simp [eW,Ca]
def fV:Nat->IV->(IV->α)->α
 | 0,v,k=>k v
 | d+1,v,k=>match v with
  | .dead=>k .dead
  | .fv v=>W9 d v fun v=>k (.fv v)
  | .ptr r o=>eW r fun r=>Ec o fun o=>k (.ptr r o)
  | .slc r sz n=>eW r fun r=>Ec sz fun sz=>Ec n fun n=>k (.slc r sz n)
  | .nils=>k .nils
  | .emp=>k .emp
  | .clip es=>fL (W9 d) es fun es=>k (.clip es)
  | .app r es=>eW r fun r=>fL (W9 d) es fun es=>k (.app r es)
  | .func fn a b=>fL (fV d) a fun a=>fL (fV d) b fun b=>k (.func fn a b)
  | .agg cs=>fL (fV d) cs fun cs=>k (.agg cs)
  | .tuple cs=>fL (fV d) cs fun cs=>k (.tuple cs)
  | .mapr r=>eW r fun r=>k (.mapr r)
theorem Cj:∀(d:Nat) (v:IV) (k:IV->α),fV d v k=k v
 | 0,_,_=>rfl
 | d+1,v,k=>by cases v<;>simp [fV,CX (Cj d),CX (Nh d),Nh,Ca,M9]
def YL (b:Blk) (k:Blk->α):α:=match b with
 | .row cs ro=>fL (fV 3) cs fun cs=>k (.row cs ro)
 | .tok n sz=>Ec n fun n=>Ec sz fun sz=>k (.tok n sz)
 | .map es=>fL (fun (p:Int×IV) k=>match p with | (n,v)=>oB n fun n=>fV 4 v fun v=>k (n,v)) es fun es=>k (.map es)
theorem Cz (b:Blk) (k:Blk->α):YL b k=k b:=by
 cases b with
 | row cs ro=>simp only [YL];rw [CX (Cj 3)]
 | tok n sz=>simp only [YL];rw [Ca,Ca]
 | map es =>simp only [YL];rw [CX];rintro ⟨n,v⟩ k;simp only;rw [XH,Cj]
def fOw (p:Nat×Blk) (k:Nat×Blk->α):α:=match p with | (n,b)=>Ec n fun n=>YL b fun b=>k (n,b)
theorem sR (p:Nat×Blk) (k:Nat×Blk->α):fOw p k=k p:=by obtain ⟨n,b⟩:=p;simp only [fOw];rw [Ca,Cz]
def fH (h:Hp) (k:Hp->α):α:=match h with | ⟨own,ext⟩=>fL fOw own fun own=>fL YL ext fun ext=>k ⟨own,ext⟩
theorem In (h:Hp) (k:Hp->α):fH h k=k h:=by obtain ⟨a,b⟩:=h;simp only [fH];rw [CX sR,CX Cz]
end
section
variable {β:Type}
def E3 (l:List (Nat×Blk)) (s:Nat) (k:Blk->Option β):Option β :=List.rec (motive:=fun _=>Option β) none (fun p _ ih=>match p with | (j,b)=>cond (Nat.beq s j) (k b) ih) l
theorem GG {α:Type} (a b:Nat) (x y:α):cond (Nat.beq a b) x y=if a=b then x else y:=by
 cases h:Nat.beq a b with
 | true=>rw [if_pos (Nat.eq_of_beq_eq_true h)];rfl
 | false=>rw [if_neg (fun e=>by rw [e,show Nat.beq b b=true from Nat.beq_refl b] at h;cases h)];rfl
theorem BA (l:List (Nat×Blk)) (s:Nat) (k:Blk->Option β):E3 l s k=(Ap s l).bind k:=by
 induction l with
 | nil=>rfl
 | cons p l ih =>
  obtain ⟨j,b⟩:=p;rw [show E3 ((j,b)::l) s k=cond (Nat.beq s j) (k b) (E3 l s k) from rfl,GG,ih]
  simp only [Ap];split<;>rfl
def Dq (r:Ref) (h:Hp) (k:Blk->Option β):Option β:=match h with
 | ⟨own,ext⟩=>match r with
  | .own s=>E3 own s k
  | .ext j=>DD ext j k
theorem EB (r:Ref) (h:Hp) (k:Blk->Option β):Dq r h k=(h.get r).bind k:=by
 obtain ⟨own,ext⟩:=h;cases r with
 | own s=>exact BA ..
 | ext j=>exact Dk ..
def Bc (l:List (Nat×Blk)) (s:Nat) (b:Blk) (k:List (Nat×Blk)->Option β):Option β :=
 List.rec (motive:=fun _=>(List (Nat×Blk)->Option β)->Option β) (fun k=>k [(s,b)])
  (fun p t ih k=>match p with | (j,c)=>cond (Nat.beq s j) (k ((j,b)::t)) (ih fun l=>k ((j,c)::l))) l k
theorem BS (l:List (Nat×Blk)) (s:Nat) (b:Blk) (k:List (Nat×Blk)->Option β):Bc l s b k=k (AO s b l):=by
 induction l generalizing k with
 | nil=>rfl
 | cons p l ih =>
  obtain ⟨j,c⟩:=p;rw [show Bc ((j,c)::l) s b k=cond (Nat.beq s j) (k ((j,b)::l)) (Bc l s b fun l=>k ((j,c)::l)) from rfl,GG,ih]
  simp only [AO];split<;>rfl
def FH (r:Ref) (b:Blk) (h:Hp) (k:Hp->Option β):Option β:=match h with
 | ⟨own,ext⟩=>match r with
  | .own s=>Bc own s b fun own=>k ⟨own,ext⟩
  | .ext j=>Oe ext j b fun ext=>k ⟨own,ext⟩
theorem JA (r:Ref) (b:Blk) (h:Hp) (k:Hp->Option β):FH r b h k=k (h.set r b):=by
 obtain ⟨own,ext⟩:=h;cases r with
 | own s=>exact BS ..
 | ext j=>exact ZQ ..
def Nq (x:IV) (e:Option β) (k:FV->Option β):Option β:=match x with
 | .fv v=>k v
 | _=>e
def eL (v:FV) (e:Option β) (k:Nat->Option β):Option β:=match v with
 | .int .i64 (.ofNat n)=>k n
 | _=>e
def Jy (x:IV) (e:Option β) (k:Nat->Option β):Option β:=Nq x e fun v=>eL v e k
theorem Fh {x:IV} {e:Option β} {k:Nat->Option β} {r:β} (h:Jy x e k=some r):(∃n:Nat,x=.fv (.int .i64 n)/\k n=some r)\/e=some r:=by
 unfold Jy Nq at h;split at h
 ·simp only [eL] at h;split at h
  ·exact .inl ⟨_,rfl,h⟩
  ·exact .inr h
 ·exact .inr h
def LQ (n:Nat) (k:IV->Option β):Option β:=Ec n fun n=>k (.fv (.int .i64 (.ofNat n)))
theorem D9 (n:Nat) (k:IV->Option β):LQ n k=k (.fv (.int .i64 n)):=by rw [LQ,Ca];rfl
def Z9 (b:Bool) (k:IV->Option β):Option β:=cond b (k (.fv (.bool true))) (k (.fv (.bool false)))
theorem Rs (b:Bool) (k:IV->Option β):Z9 b k=k (.fv (.bool b)):=by cases b<;>rfl
def C5 (o:Option IV) (k:IV->Option β):Option β:=match o with
 | none=>none
 | some v=>fS v k
theorem CJ (o:Option IV) (k:IV->Option β):C5 o k=o.bind k:=by
 cases o with
 | none=>rfl
 | some v=>exact AaO v k
def CH (l:List IV) (e:Option β) (k:List FV->Option β):Option β :=List.rec (motive:=fun _=>(List FV->Option β)->Option β) (fun k=>k []) (fun x _ ih k=>Nq x e fun v=>ih fun vs=>k (v::vs)) l k
theorem N5 (l:List IV) (e:Option β) (k:List FV->Option β):CH l e k=match F8 l with | some vs=>k vs | none=>e:=by
 induction l generalizing k with
 | nil=>rfl
 | cons x l ih =>
  rw [show CH (x::l) e k=Nq x e fun v=>CH l e fun vs=>k (v::vs) from rfl]
  cases x<;>simp only [Nq,F8];rw [ih];cases F8 l<;>rfl
def NC (l:List IV) (k:IV->Option β):Option β:=CH l (k (.agg l)) fun vs=>k (.fv (.agg vs))
theorem PQ (l:List IV) (k:IV->Option β):NC l k=k (Fp l):=by rw [NC,N5,Fp];cases F8 l<;>rfl
def T7 (l:List IV) (k:IV->Option β):Option β:=CH l (k (.tuple l)) fun vs=>k (.fv (.tuple vs))
theorem UP (l:List IV) (k:IV->Option β):T7 l k=k (CL l):=by rw [T7,N5,CL];cases F8 l<;>rfl
def pU (v:FV) (a b:Option β):Option β:=match v with
 | .bool t=>cond t a b
 | _=>none
def Ai (v:IV) (a b:Option β):Option β:=match v with
 | .fv v=>pU v a b
 | _=>none
theorem RS {v:IV} {a b:Option β} {r:β} (h:Ai v a b=some r):∃t:Bool,v=.fv (.bool t)/\(if t then a else b)=some r:=by
 unfold Ai at h;split at h
 ·unfold pU at h;split at h
  ·rename_i t;refine ⟨t,rfl,?_⟩;cases t<;>exact h
  ·cases h
 ·cases h
def AC (c a b:IV) (k:IV->Option β):Option β:=Ai c (k a) (k b)
section
variable (E:Env) (t:TypeId)
def CZ (op:BinOp) (x y:IV) (k:IV->Option β):Option β:=C5 (EL E op t x y) k
def Bs (x y:IV) (k:IV->Option β):Option β :=Jy x (CZ E t .add x y k) fun a=>Jy y (CZ E t .add x y k) fun b=>cond (Nat.ble (a+b) 9223372036854775807) (LQ (a+b) k) (CZ E t .add x y k)
def Bn (x y:IV) (k:IV->Option β):Option β :=Jy x (CZ E t .sub x y k) fun a=>Jy y (CZ E t .sub x y k) fun b=>cond (and (Nat.ble b a) (Nat.ble a 9223372036854775807)) (LQ (a - b) k) (CZ E t .sub x y k)
def QA (op:BinOp) (g:Nat->Nat->Bool) (x y:IV) (k:IV->Option β):Option β :=Jy x (CZ E t op x y k) fun a=>Jy y (CZ E t op x y k) fun b=>Z9 (g a b) k
def AP (x y:IV) (k:IV->Option β):Option β:=QA E t .eql Nat.beq x y k
def BL (x y:IV) (k:IV->Option β):Option β:=QA E t .neq (fun a b=>not (Nat.beq a b)) x y k
def Fk (x y:IV) (k:IV->Option β):Option β:=QA E t .lss (fun a b=>Nat.ble (Nat.succ a) b) x y k
def Xm (x y:IV) (k:IV->Option β):Option β:=QA E t .leq Nat.ble x y k
def Kd (x y:IV) (k:IV->Option β):Option β:=QA E t .gtr (fun a b=>Nat.ble (Nat.succ b) a) x y k
def O6 (x y:IV) (k:IV->Option β):Option β:=QA E t .geq (fun a b=>Nat.ble b a) x y k
def eE (op:BinOp) (x y:IV) (k:IV->Option β):Option β:=match op with
 | .add=>Bs E t x y k
 | .sub=>Bn E t x y k
 | .eql=>AP E t x y k
 | .neq=>BL E t x y k
 | .lss=>Fk E t x y k
 | .leq=>Xm E t x y k
 | .gtr=>Kd E t x y k
 | .geq=>O6 E t x y k
 | op=>CZ E t op x y k
end
theorem Tq {n:Nat} (h:n<=9223372036854775807):IntKind.i64.wrap (n:Int)=n:=by
 have e:(n:Int) % (18446744073709551616:Int)=n:=by omega
 have e2:¬ (n:Int) ≥ (9223372036854775808:Int):=by omega
 show (if (true && decide (((n:Int) % (18446744073709551616:Int)) ≥ (9223372036854775808:Int)))=true then ((n:Int) % (18446744073709551616:Int)) - (18446744073709551616:Int) else ((n:Int) % (18446744073709551616:Int)))=n
 rw [e,decide_eq_false e2];rfl
def GP (v:FV) (k:List FV->Option β):Option β:=match v with
 | .agg cs=>k cs
 | _=>none
def asAgg (x:IV) (k:List IV->Option β) (kf:List FV->Option β):Option β:=match x with
 | .agg cs=>k cs
 | .fv v=>GP v kf
 | _=>none
def yO (o:Nat) (x:IV) (k:IV->Option β):Option β:=asAgg x (fun cs=>DD cs o k) fun cs=>DD cs o fun v=>k (.fv v)
def xH (size o:Nat) (x:IV) (k:IV->Option β):Option β :=asAgg x (fun cs=>Fw cs o fun cs=>FK cs size fun cs=>NC cs k) fun cs=>Fw cs o fun cs=>FK cs size fun cs=>k (.fv (.agg cs))
def DY (b:Blk) (k:List IV->Option β):Option β:=match b with
 | .row cells _=>k cells
 | _=>none
def GM (b:Blk) (k:List IV->Option β):Option β:=match b with
 | .row cells ro=>cond ro none (k cells)
 | _=>none
def Aci (v:FV) (k:List FV->Nat->Option β):Option β:=match v with
 | .fp cs o=>k cs o
 | _=>none
def EF (x:IV) (k:Ref->Nat->Option β) (kf:List FV->Nat->Option β):Option β:=match x with
 | .ptr r o=>k r o
 | .fv v=>Aci v kf
 | _=>none
def Ag (a:IV) (h:Hp) (k:IV->List Ref->Option β):Option β :=EF a (fun r o=>Dq r h fun b=>DY b fun cells=>DD cells o fun v=>k v [r]) fun cells o=>DD cells o fun v=>k (.fv v) []
def Ae (size:Nat) (a:IV) (h:Hp) (k:IV->List Ref->Option β):Option β :=
 EF a (fun r o=>Dq r h fun b=>DY b fun cells=>Fw cells o fun cs=>FK cs size fun cs=>NC cs fun v=>k v [r])
  fun cells o=>Fw cells o fun cs=>FK cs size fun cs=>k (.fv (.agg cs)) []
def dU {α:Type} (l:List α) (k:List α->Option β):Option β :=List.rec (motive:=fun _=>(List α->Option β)->Option β) (fun k=>k []) (fun x _ ih k=>ih fun xs=>k (x::xs)) l k
theorem HA {α:Type} (l:List α) (k:List α->Option β):dU l k=k l:=by
 induction l generalizing k with
 | nil=>rfl
 | cons x l ih=>rw [show dU (x::l) k=dU l (fun xs=>k (x::xs)) from rfl,ih]
def Gi (l:List IV) (j:Nat) (b:IV) (k:List IV->Option β):Option β :=List.rec (motive:=fun _=>Nat->(List IV->Option β)->Option β) (fun _ _=>none) (fun x t ih j k=>Nat.rec (motive:=fun _=>Option β) (k (b::t)) (fun p _=>ih p fun xs=>k (x::xs)) j) l j k
theorem VF (l:List IV) (j:Nat) (b:IV) (k:List IV->Option β):Gi l j b k=if j<l.length then k (l.set j b) else none:=by
 induction l generalizing j k with
 | nil=>rw [if_neg (by simp)];rfl
 | cons x l ih=>cases j with
  | zero=>rw [if_pos (by simp)];rfl
  | succ j=>rw [show Gi (x::l) (j+1) b k=Gi l j b (fun xs=>k (x::xs)) from rfl,ih];simp
theorem Kn {v:IV} (h:v.one=true):v.cells=[v]/\v.alive=true:=by
 cases v with
 | fv w=>cases w<;>simp_all [IV.one,IV.cells,IV.alive]
 | _=>simp_all [IV.one,IV.cells,IV.alive]
def nQ (cs:List FV):List IV->(List IV->Option β)->Option β :=List.rec (motive:=fun _=>List IV->(List IV->Option β)->Option β) (fun l k=>k l) (fun c _ ih l k=>Ay l fun _ t=>ih t fun t'=>k (.fv c::t')) cs
def Ef (l:List IV) (o:Nat) (cs:List FV) (k:List IV->Option β):Option β :=
 List.rec (motive:=fun _=>Nat->(List IV->Option β)->Option β) (fun o k=>Nat.rec (motive:=fun _=>Option β) (nQ cs [] k) (fun _ _=>none) o)
  (fun x t ih o k=>Nat.rec (motive:=fun _=>Option β) (nQ cs (x::t) k) (fun p _=>ih p fun t'=>k (x::t')) o) l o k
theorem Ga (x:IV):∀(vs l:List IV) (o:Nat),Bh (x::l) (o+1) vs=x::Bh l o vs
 | [],_,_=>rfl
 | v::vs,l,o=>by
  simp only [Bh,List.set_cons_succ];exact Ga x vs (l.set o v) (o+1)
theorem To:∀(cs:List FV) (l:List IV) {k:List IV->Option β} {r:β},nQ cs l k=some r->cs.length<=l.length/\k (Bh l 0 (cs.map .fv))=some r
 | [],l,k,r,h=>⟨Nat.zero_le _,h⟩
 | c::cs,l,k,r,h=>by
  have h:(Ay l fun _ t=>nQ cs t fun t'=>k (.fv c::t'))=some r:=h;cases l with
  | nil=>cases h
  | cons x t =>have h:(nQ cs t fun t'=>k (.fv c::t'))=some r:=h;obtain ⟨h1,h2⟩:=To cs t h;refine ⟨by simp;omega,?_⟩;simp only [Ai5,Bh,List.set_cons_zero,Ajy];rw [Ga];exact h2
theorem MH:∀(l:List IV) (o:Nat) (cs:List FV) {k:List IV->Option β} {r:β},Ef l o cs k=some r->o+cs.length<=l.length/\k (Bh l o (cs.map .fv))=some r
 | [],0,cs,k,r,h=>by
  obtain ⟨h1,h2⟩:=To cs [] h;exact ⟨by simpa using h1,h2⟩
 | [],o+1,cs,k,r,h=>by cases h
 | x::t,0,cs,k,r,h=>by
  obtain ⟨h1,h2⟩:=To cs (x::t) h;exact ⟨by simpa using h1,h2⟩
 | x::t,o+1,cs,k,r,h=>by
  have h:(Ef t o cs fun t'=>k (x::t'))=some r:=h;obtain ⟨h1,h2⟩:=MH t o cs h;exact ⟨by simp;omega,by rw [Ga];exact h2⟩
def G9 (v:FV):Bool:=match v with
 | .agg _=>false
 | .tuple _=>false
 | _=>true
def DU (l:List FV):Bool:=List.rec (motive:=fun _=>Bool) true (fun v _ ih=>cond (G9 v) ih false) l
theorem L0:∀(l:List FV),DU l=true->(l.map IV.fv).all IV.one=true
 | [],_=>rfl
 | v::l,h=>by
  have h:cond (G9 v) (DU l) false=true:=h;cases hv:G9 v with
  | false=>rw [hv] at h;cases h
  | true =>rw [hv] at h;simp only [Ai5,List.all_cons,L0 l h,Bool.and_true];cases v<;>first | rfl | cases hv
def Ac (size:Nat) (a x:IV) (h:Hp) (k:Hp->List Ref->List Ref->Option β):Option β :=
 EF a (fun r o=>Dq r h fun b=>GM b fun cells=>Nq x (if x.alive/\x.cells.length=size/\o+size<=cells.length/\x.cells.all IV.one/\Fm r x then
  dU (Bh cells o x.cells) fun cells=>FH r (.row cells false) h fun h=>k h [r] [r] else none) fun v=>GP v fun cs=>cond (and (Nat.beq cs.length size) (DU cs)) (Ef cells o cs fun cells=>FH r (.row cells false) h fun h=>k h [r] [r]) none) fun _ _=>none
def BM (a x:IV) (h:Hp) (k:Hp->List Ref->List Ref->Option β):Option β :=cond x.one (EF a (fun r o=>Dq r h fun b=>GM b fun cells=>cond (Fm r x) (Gi cells o x fun cells=>FH r (.row cells false) h fun h=>k h [r] [r]) none) fun _ _=>none) (Ac 1 a x h k)
def jI (fn:Fn) (k:FuncId->Option β):Option β:=match fn with
 | .func g=>k g
 | _=>none
def AbX (v:FV) (k:IV->Option β):Option β:=match v with
 | .fp cs o=>k (.fv (.fp cs o))
 | .func fn a b=>jI fn fun g=>k (.fv (.func (.func g) a b))
 | _=>none
def AK (x:IV) (k:IV->Option β):Option β:=match x with
 | .ptr r o=>k (.ptr r o)
 | .fv v=>AbX v k
 | .func fn a b=>jI fn fun g=>k (.func (.func g) a b)
 | _=>none
def Ab (o:Nat) (x:IV) (k:IV->Option β):Option β :=EF x (fun r off=>Ec (off+o) fun o=>k (.ptr r o)) fun cs off=>Ec (off+o) fun o=>k (.fv (.fp cs o))
def qW (n:Int) (k:Nat->Option β):Option β:=match n with
 | .ofNat m=>k m
 | _=>none
def qX (v:FV) (k:Nat->Option β):Option β:=match v with
 | .int _ n=>qW n k
 | _=>none
def Ym (i:IV) (k:Nat->Option β):Option β:=Nq i none fun v=>qX v k
theorem Qw {i:IV} {k:Nat->Option β} {r:β} (h:Ym i k=some r):∃kd,∃n:Nat,i=.fv (.int kd n)/\k n=some r:=by
 unfold Ym Nq at h;split at h
 ·simp only [qX] at h;split at h
  ·simp only [qW] at h;split at h
   ·exact ⟨_,_,rfl,h⟩
   ·cases h
  ·cases h
 ·cases h
def Afe (v:FV) (k:List FV->Option β):Option β:=match v with
 | .sl es=>k es
 | _=>none
def rY (x:IV) (k:List FV->Option β):Option β:=match x with
 | .nils=>k []
 | .emp=>k []
 | .clip es=>k es
 | .app _ es=>k es
 | .fv v=>Afe v k
 | _=>none
theorem UH (x:IV) (k:List FV->Option β):rY x k=(Cm x).bind k:=by
 cases x with
 | fv v=>cases v<;>rfl
 | _=>rfl
def elK (size:Nat) (el:FV) (k:IV->Option β):Option β:=match el with
 | .agg cs=>cond (Nat.beq cs.length size) (k (.fv (.fp cs 0))) none
 | v=>cond (Nat.beq 1 size) (k (.fv (.fp [v] 0))) none
theorem gY (size:Nat) (el:FV) (k:IV->Option β):elK size el k=if el.cells.length=size then k (.fv (.fp el.cells 0)) else none:=by cases el<;>simp only [elK,GG,FV.cells]<;>rfl
def Vm (x:IV) (k:Ref->Nat->Nat->Option β) (e:Option β):Option β:=match x with
 | .slc r sz len=>k r sz len
 | _=>e
def AQ (size:Nat) (x i:IV) (k:IV->Option β):Option β :=Ym i fun n=>Vm x (fun r sz len=>cond (and (Nat.ble (Nat.succ n) len) (Nat.beq sz size)) (Ec (n * sz) fun o=>k (.ptr r o)) none) (rY x fun es=>DD es n fun el=>elK size el k)
def ixA (m size:Nat) (x i:IV) (k:IV->Option β):Option β :=Ym i fun n=>cond (Nat.ble (Nat.succ n) m) (EF x (fun r o=>Ec (o+n * size) fun o=>k (.ptr r o)) fun cells o=>Ec (o+n * size) fun o=>k (.fv (.fp cells o))) none
def Aat (m size:Nat) (x i:IV) (k:IV->Option β):Option β :=Ym i fun n=>cond (Nat.ble (Nat.succ n) m) (Nq x none fun v=>GP v fun cs=>DD cs (n * size) fun v=>k (.fv v)) none
def Ab8 (v:FV) (k:List FV->Option β):Option β:=match v with
 | .tuple vs=>k vs
 | _=>none
def Ao (ix:Nat) (x:IV) (k:IV->Option β):Option β:=match x with
 | .tuple vs=>DD vs ix k
 | .fv v=>Ab8 v fun vs=>DD vs ix fun v=>k (.fv v)
 | _=>none
def Bv (x:IV) (k:IV->Option β):Option β:=Vm x (fun _ _ n=>LQ n k) (rY x fun es=>LQ es.length k)
def VC (z:List IV) (o sz:Nat) (v:IV) (k:List IV->Option β):Option β :=cond v.one (cond (Nat.beq sz 1) (Gi z o v k) none) (if v.alive/\v.cells.length=sz/\o+sz<=z.length then dU (Bh z o v.cells) k else none)
def G5 (z:List IV) (o sz:Nat) (v:IV) (k:List IV->Option β):Option β :=Nq v (VC z o sz v k) fun w=>cond (G9 w) (cond (Nat.beq sz 1) (Gi z o v k) none) (GP w fun cs=>cond (Nat.beq cs.length sz) (Ef z o cs k) none)
def MF (z:List IV) (pl:List (Nat×Nat×IV)) (k:List IV->Option β):Option β :=
 List.rec (motive:=fun _=>List IV->Option β) (fun z=>k z) (fun p _ ih z=>match p with
  | (o,sz,v)=>G5 z o sz v ih) pl z
def A7 (z:List IV) (pl:List (Nat×Nat×IV)) (k:IV->Option β):Option β:=MF z pl fun cells=>NC cells k
def KB {α:Type} (place:Nat->Option (Nat×Nat)):List (Nat×α)->Option (List (Nat×Nat×α))
 | []=>some []
 | (i,x)::l=>match place i with
  | none=>none
  | some (o,s)=>match KB place l with
   | none=>none
   | some r=>some ((o,s,x)::r)
def Xi {α:Type} (g:α->IV):List (Nat×Nat×α)->List (Nat×Nat×IV)
 | []=>[]
 | (o,s,x)::l=>(o,s,g x)::Xi g l
def CS (l:List (Nat×Blk)) (s:Nat) (a:Option β):Option β :=List.rec (motive:=fun _=>Option β) a (fun p _ ih=>match p with | (j,_)=>cond (Nat.beq s j) none ih) l
theorem OJ {l:List (Nat×Blk)} {s:Nat} {a:Option β} {r:β} (h:CS l s a=some r):Ap s l=none/\a=some r:=by
 induction l with
 | nil=>exact ⟨rfl,h⟩
 | cons p l ih =>
  obtain ⟨j,b⟩:=p;have h:cond (Nat.beq s j) none (CS l s a)=some r:=h;rw [GG] at h;split at h
  ·cases h
  ·rename_i hn;obtain ⟨h1,h2⟩:=ih h;exact ⟨by simp only [Ap,if_neg hn,h1],h2⟩
abbrev KT (β:Type):=IV->Hp->List Ref->List Ref->Option β
def EU (s:Nat) (b:Blk) (v:IV) (h:Hp) (k:KT β):Option β:=match h with
 | ⟨own,ext⟩=>CS own s (Bc own s b fun own=>k v ⟨own,ext⟩ [] [.own s])
def AE (s:Nat) (x:IV) (h:Hp) (k:KT β):Option β :=cond x.one (EU s (.row [x] false) (.ptr (.own s) 0) h k) (cond x.alive (dU x.cells fun cs=>EU s (.row cs false) (.ptr (.own s) 0) h k) none)
def yX (u:List (Ref×Blk)):Hp->(Hp->Option β)->Option β :=
 List.rec (motive:=fun _=>Hp->(Hp->Option β)->Option β) (fun h k=>k h) (fun p _ rec h k=>match p with
  | (r,b)=>eW r fun r=>Dq r h fun _=>YL b fun b=>FH r b h fun h=>rec h k) u
theorem WZ:∀(u:List (Ref×Blk)) (h:Hp) {k:Hp->Option β} {r:β},yX u h k=some r->∃h',laid h u=some h'/\k h'=some r
 | [],h,k,r,e=>⟨h,rfl,e⟩
 | (q,b)::u,h,k,r,e=>by
  have e:(eW q fun q=>Dq q h fun _=>YL b fun b=>FH q b h fun h=>yX u h k)=some r:=e;rw [M9,EB] at e;simp only [Cz,JA] at e;cases hg:h.get q with
  | none=>rw [hg] at e;cases e
  | some c =>rw [hg] at e;obtain ⟨h',h1,h2⟩:=WZ u (h.set q b) e;exact ⟨h',by simp only [laid,hg,h1],h2⟩
def Hf (o:Option Blk) (s:Nat) (h:Hp) (k:Hp->Option β):Option β:=match o with
 | none=>k h
 | some b=>match h with
  | ⟨own,ext⟩=>CS own s (YL b fun b=>Bc own s b fun own=>k ⟨own,ext⟩)
def Az (m:Rd Made) (s:Nat) (h:Hp) (k:KT β):Option β:=match m.runLog h [] with
 | none=>none
 | some (m,rd)=>yX m.eff.upd h fun h=>Hf m.new s h fun h=>fV 3 m.eff.val fun v=>k v h rd (BB m.eff.upd++H9 s m)
def Aar (v:FV) (e:Option β) (k:List FV->Option β):Option β:=match v with
 | .agg cs=>k cs
 | _=>e
def sP (m:Rd Made) (s:Nat) (x:IV) (h:Hp) (k:KT β):Option β :=Nq x (Az m s h k) fun v=>Aar v (Az m s h k) fun cs=>cond (Nat.ble cs.length 2000) (k (.fv (.fp cs 0)) h [] []) (Az m s h k)
def Ub (E:Env) (s d:TypeId) (x:IV) (k:IV->Option β):Option β :=Jy x (C5 (Jl E s d x) k) fun n=>cond (Nat.ble n 9223372036854775807) (LQ n k) (C5 (Jl E s d x) k)
def Zq (v:FV) (want:Bool) (h:Hp) (m:(KT β)->Option β) (k:KT β):Option β:=match v with
 | .bool b=>cond (cond want b (not b)) (m k) (k FC h [] [])
 | .tuple l=>List.casesOn (motive:=fun _=>Option β) l (k FC h [] []) fun _ _=>none
 | _=>none
def Ad (v:IV) (want:Bool) (h:Hp) (m:(KT β)->Option β) (k:KT β):Option β:=Nq v none fun v=>Zq v want h m k
def Ei (split:Bool) (ih:Ah) (f:FuncId) (args:List IV) (ext:List Blk):Option (IV×Hp) :=
 if split then match args,ext with
  | [.fv (.sl [])],[]=>if Cv (ih f [.nils] ⟨[],[]⟩) && Cv (ih f [.emp] ⟨[],[]⟩) then some (.fv (.sl []),⟨[],[]⟩) else none
  | _,_=>ih f args ⟨[],ext⟩
 else ih f args ⟨[],ext⟩
def Ea (keep:List Bool) (split raw:Bool) (ih:Ah) (f:FuncId) (args:List IV) (h:Hp) (k:KT β):Option β :=
 match (By keep args).runLog h [] with
 | none=>none
 | some (
     (vs,rs,u),l1)=>match (B4 4096 rs []).runLog h l1 with
  | none=>none
  | some (
      l,l2)=>match IV.ren.renL (D6 l) vs with
   | none=>none
   | some vs' =>
          match Bg (D6 l) (l.map (·.2)) with
    | none=>none
    | some ext=>fL (fV 3) vs' fun vs'=>fL YL ext fun ext=>match Ei split ih f vs' ext with
     | none=>none
     | some (
         res,hp')=>match (if raw then some res else ((C8 4096 res).run hp').map fun (v,_)=>.fv v) with
      | none=>none
      | some res=>match res.ren (CF l) with
       | none=>none
       | some res=>match Bg (CF l) hp'.ext with
        | none=>none
        | some ext'=>if ext'.length=l.length/\(BB u).all (fun r=>!hasRef r l) then
          match laid h (u++(BB l).zip ext') with
          | none=>none
          | some h'=>fH h' fun h'=>fV 3 res fun res=>k res h' l2 (BB (u++(BB l).zip ext'))
         else none
def Tj (r:Ref) (e:Option β) (k:Nat->Option β):Option β:=match r with
 | .own s=>k s
 | .ext _=>e
def Lf {α:Type} (u us:List α) (k:List α->Option β):Option β :=List.rec (motive:=fun _=>(List α->Option β)->Option β) (fun k=>k us) (fun x _ ih k=>ih fun w=>k (x::w)) u k
theorem TR {α:Type} (u us:List α) (k:List α->Option β):Lf u us k=k (u++us):=by
 induction u generalizing k with
 | nil=>rfl
 | cons x u ih=>rw [show Lf (x::u) us k=Lf u us (fun w=>k (x::w)) from rfl,ih];rfl
abbrev xM (β:Type):=IV->Hp->List Ref->Option β->(FV->List (Ref×Blk)->List Ref->Option β)->Option β
def CO (g:xM β) (l:List IV):Hp->List Ref->Option β->(List FV->List (Ref×Blk)->List Ref->Option β)->Option β :=
 List.rec (motive:=fun _=>Hp->List Ref->Option β->(List FV->List (Ref×Blk)->List Ref->Option β)->Option β) (fun _ lg _ k=>k [] [] lg)
  (fun x _ rec h lg e k=>g x h lg e fun y u lg=>rec h lg e fun ys us lg=>Lf u us fun w=>k (y::ys) w lg) l
def elF (x:FV) (k:FV->Option β):Option β:=match x with
 | .agg l=>k (.agg [.agg l])
 | x=>k x
def elL (x:FV) (t:List FV) (k:FV->Option β):Option β:=match t with
 | []=>elF x k
 | y::t=>k (.agg (x::y::t))
def Yd (a:List FV) (k:FV->Option β):Option β:=match a with
 | []=>k (.agg [])
 | x::t=>elL x t k
theorem oD (a:List FV) (k:FV->Option β):Yd a k=k (QN a):=by
 cases a with
 | nil=>rfl
 | cons x t=>cases t with
  | nil=>cases x<;>rfl
  | cons y t=>cases x<;>rfl
def SH (sz len:Nat) (cs:List FV) (k:List FV->Option β):Option β :=Nat.rec (motive:=fun _=>List FV->(List FV->Option β)->Option β) (fun _ k=>k []) (fun _ rec cs k=>FK cs sz fun a=>Fw cs sz fun b=>Yd a fun x=>rec b fun xs=>k (x::xs)) len cs k
theorem aJ (sz:Nat):∀(len:Nat) (cs:List FV) {k:List FV->Option β} {r:β},SH sz len cs k=some r->k (B7 sz len cs)=some r
 | 0,_,_,_,h=>h
 | len+1,cs,k,r,h=>by
  have h:(FK cs sz fun a=>Fw cs sz fun b=>Yd a fun x=>SH sz len b fun xs=>k (x::xs))=some r:=h;rw [Jx] at h;by_cases h1:sz<=cs.length
  ·rw [if_pos h1,Jt,if_pos h1,oD] at h;exact aJ sz len _ h
  ·rw [if_neg h1] at h;cases h
def DB (d:Nat):xM β :=
 Nat.rec (motive:=fun _=>xM β) (fun _ _ _ e _=>e) (fun _ g v h lg e k=>match v with
  | .fv v=>k v [] lg
  | .nils=>k (.sl []) [] lg
  | .emp=>k (.sl []) [] lg
  | .clip es=>k (.sl es) [] lg
  | .app _ es=>k (.sl es) [] lg
  | .ptr r off=>Tj r e fun s=>Dq (.own s) h fun b=>DY b fun cells=>cond (Nat.ble cells.length 300) (CO g cells h (.own s::lg) e fun cs u lg=>k (.fp cs off) ((.own s,.row cells true)::u) lg) e
  | .slc r sz len=>Tj r e fun s=>Dq (.own s) h fun b=>DY b fun cells=>cond (Nat.ble cells.length 300) (cond (or (Nat.beq sz 0) (not (Nat.ble (len * sz) cells.length))) none
    (CO g cells h (.own s::lg) e fun cs u lg=>SH sz len cs fun els=>k (.sl els) ((.own s,.row cells true)::u) lg)) e
  | .agg cs=>cond (Nat.ble cs.length 300) (CO g cs h lg e fun cs u lg=>k (.agg cs) u lg) e
  | .func fn a b=>cond (and (Nat.ble a.length 300) (Nat.ble b.length 300)) (CO g a h lg e fun x u lg=>CO g b h lg e fun y v lg=>Lf u v fun w=>k (.func fn x y) w lg) e
  | _=>e) d
def Rc (args:List IV):List Bool->Hp->List Ref->Option β->(List IV->List Ref->List (Ref×Blk)->List Ref->Option β)->Option β :=
 List.rec (motive:=fun _=>List Bool->Hp->List Ref->Option β->(List IV->List Ref->List (Ref×Blk)->List Ref->Option β)->Option β) (fun _ _ lg _ k=>k [] [] [] lg)
  (fun x _ rec keep h lg e k=>match keep with
   | []=>DB 12 x h lg e fun y u lg=>rec [] h lg e fun vs rs us lg=>Lf u us fun w=>k (.fv y::vs) rs w lg
   | b::ks=>cond b (EF x (fun r o=>rec ks h lg e fun vs rs us lg=>k (.ptr r o::vs) (r::rs) us lg) fun _ _=>e)
     (DB 12 x h lg e fun y u lg=>rec ks h lg e fun vs rs us lg=>Lf u us fun w=>k (.fv y::vs) rs w lg)) args
def RK (v:IV):List Ref->List Ref :=
 IV.rec (motive_1:=fun _=>List Ref->List Ref) (motive_2:=fun _=>List Ref->List Ref) (fun acc=>acc) (fun _ acc=>acc) (fun r _ acc=>r::acc) (fun r _ _ acc=>r::acc) (fun acc=>acc) (fun acc=>acc) (fun _ acc=>acc)
  (fun r _ acc=>r::acc) (fun _ _ _ f g acc=>f (g acc)) (fun _ f acc=>f acc) (fun _ f acc=>f acc) (fun r acc=>r::acc) (fun acc=>acc) (fun _ _ f g acc=>f (g acc)) v
def CP (l:List IV):List Ref->List Ref :=
 IV.rec_1 (motive_1:=fun _=>List Ref->List Ref) (motive_2:=fun _=>List Ref->List Ref) (fun acc=>acc) (fun _ acc=>acc) (fun r _ acc=>r::acc) (fun r _ _ acc=>r::acc) (fun acc=>acc) (fun acc=>acc) (fun _ acc=>acc)
  (fun r _ acc=>r::acc) (fun _ _ _ f g acc=>f (g acc)) (fun _ f acc=>f acc) (fun _ f acc=>f acc) (fun r acc=>r::acc) (fun acc=>acc) (fun _ _ f g acc=>f (g acc)) l
def EP (b:Blk):List Ref:=match b with
 | .row cells _=>CP cells []
 | .tok _ _=>[]
 | .map es=>List.rec (motive:=fun _=>List Ref) [] (fun p _ ih=>match p with | (_,v)=>RK v ih) es
def goR (rec:List Ref->Nat->List Blk->Bool) (t:List Ref) (s:Nat) (rest:List Blk):Bool:=match rest with
 | []=>false
 | b::rest=>rec (t++EP b) (Nat.succ s) rest
def Nt (n:Nat):List Ref->Nat->List Blk->Bool :=
 Nat.rec (motive:=fun _=>List Ref->Nat->List Blk->Bool) (fun _ _ _=>false) (fun _ rec todo s rest=>match todo with
  | []=>(match rest with
   | []=>true
   | _::_=>false)
  | r::t=>(match r with
   | .own _=>false
   | .ext j=>cond (Nat.ble (Nat.succ j) s) (rec t s rest) (cond (Nat.beq j s) (goR rec t s rest) false))) n
def zM (m:Nat) (rs:List Ref):Bool :=
 List.rec (motive:=fun _=>Bool) true (fun r _ rec=>match r with
  | .own _=>false
  | .ext j=>cond (Nat.ble (Nat.succ j) m) rec false) rs
def Yl (m:Nat) (l:List Blk):Bool:=List.rec (motive:=fun _=>Bool) true (fun b _ rec=>cond (zM m (EP b)) rec false) l
def Kt (u:List (Ref×Blk)):Hp->(Hp->Option β)->Option β :=
 List.rec (motive:=fun _=>Hp->(Hp->Option β)->Option β) (fun h k=>k h) (fun p _ rec h k=>match p with
  | (r,b)=>Tj r none fun s=>Dq (.own s) h fun _=>FH (.own s) b h fun h=>rec h k) u
def C3 (m:Nat):List Ref:=(List.range m).map .ext
def A5 (keep:List Bool) (split raw:Bool) (ih:Ah) (f:FuncId) (args:List IV) (h:Hp) (k:KT β):Option β :=
 cond (
    cond split true raw) (Ea keep split raw ih f args h k)
  (Rc args keep h [] (Ea keep split raw ih f args h k) fun vs rs u lg=>match rs with
   | []=>(match ih f vs ⟨[],[]⟩ with
    | none=>none
    | some p=>match p with
     | (v,h')=>match h' with
      | ⟨own,ext⟩=>List.casesOn (motive:=fun _=>Option β) ext (DB 12 v ⟨own,[]⟩ [] (Ea keep split raw ih f args h k) fun w _ _=>Kt u h fun h2=>k (.fv w) h2 lg (BB u)) fun _ _=>none)
   | r::rs=>(match h with
    | ⟨own,ext⟩=>cond (Nt 400 (r::rs) 0 ext) (match ih f vs ⟨[],ext⟩ with
     | none=>none
     | some p=>match p with
      | (v,h')=>match h' with
       | ⟨own',ext'⟩=>cond (and (Nat.beq ext'.length ext.length) (Yl ext.length ext'))
        (DB 12 v ⟨own',ext'⟩ [] (Ea keep split raw ih f args h k) fun w _ _=>Kt u ⟨own,ext'⟩ fun h2=>k (.fv w) h2 ((C3 ext.length).reverse++lg) (BB u++C3 ext.length)) none)
     (Ea keep split raw ih f args h k)))
def CN (E:Env) (ih:Ah) (g:IV) (args:List IV) (h:Hp) (k:KT β):Option β:=match callee g with
 | none=>none
 | some (f,first,cap)=>cond (E.pol.inl f) none (dU (first++args++cap) fun args=>A5 (E.pol.keep f) (E.pol.split f) (E.pol.raw f) ih f args h k)
def aZ (ih:Ah) (f:FuncId) (args:List IV) (h:Hp) (k:KT β):Option β:=match ih f args h with
 | none=>none
 | some p=>match p with
  | (v,h)=>k v h [] []
section
variable (E:Env)
def Al (t:TypeId) (len:Nat) (parts:List (Nat×IV)):Rd Made:=match E.T t with
  | some ⟨_,_,.slice e,_⟩=>match E.T e with
   | some ei=>if ei.size=0\/len * ei.size > 65536 then .fail else
    match CU (fun j=>some (j * ei.size,ei.size)) (NB len ei.zero) parts with
    | some cells=>(frzL 65536 cells).bind fun (vs,u)=>.ret { eff:={ val:=.clip (B7 ei.size len vs),upd:=u } }
    | none=>.fail
   | none=>.fail
  | _=>.fail
def Lo (t:TypeId) (parts:List (Nat×IV)):Rd Made:=match E.T t with
  | some ⟨_,_,.struct fs,z⟩=>Gq ((CU (EJ E fs) z parts).map Fp)
  | some ⟨_,_,.arr _ e,z⟩=>match E.T e with
   | some ei=>Gq ((CU (fun j=>some (j * ei.size,ei.size)) z parts).map Fp)
   | none=>.fail
  | _=>.fail
def Jv (fz:Bool) (s:Nat) (v:IV):Rd Made :=
  if v.alive=false then .fail else
  if fz then (frzL 4096 v.cells).bind fun (vs,u)=>.ret { eff:={ val:=.fv (.fp vs 0),upd:=u } }
  else .ret { eff:={ val:=.ptr (.own s) 0 },new:=some (.row v.cells false) }
def Gj (s:Nat):Rd Made:=.ret { eff:={ val:=.mapr (.own s) },new:=some (.map []) }
def Co (t:TypeId) (m k v:IV):Rd Made:=match E.T t with
  | some ⟨_,_,.map kt _,_⟩=>match E.T kt,m,k with
   | some ⟨_,_,.int .i64,_⟩,.mapr r,.fv (.int .i64 n)=>.get r fun
    | .map es =>if v.alive/\Fm r v then .ret { eff:={ val:=.dead,upd:=[(r,.map (CG n v es))] } } else .fail
    | _=>.fail
   | _,_,_=>.fail
  | _=>.fail
def Gu (t:TypeId) (m k:IV) (ok:Bool):Rd Made:=match E.T t with
  | some ⟨
      _,_,.map kt et,_⟩=>match E.T kt,E.T et,m,k with
   | some ⟨_,_,.int .i64,_⟩,some ei,.mapr r,.fv (.int .i64 n)=>.get r fun
    | .map es=>match Ds n es with
     | some v=>val (if ok then CL [v,.fv (.bool true)] else v)
     | none=>match Pg ei with
      | some z=>val (if ok then CL [z,.fv (.bool false)] else z)
      | none=>.fail
    | _=>.fail
   | _,_,_,_=>.fail
  | _=>.fail
def BH (s:Nat) (t:TypeId) (l c:IV):Rd Made:=match E.T t with
  | some ⟨_,_,.slice e,_⟩=>match E.T e,l,c with
   | some ei,.fv (.int .i64 a),.fv (.int .i64 b) =>
    if 0<=a/\a<=b/\b<=1048576/\ei.size≠0/\ei.bytes<=65536 then
     .ret { eff:={ val:=.slc (.own s) ei.size a.toNat },new:=some (.row (NB b.toNat ei.zero) false) }
    else .fail
   | _,_,_=>.fail
  | _=>.fail
def Vr (t:TypeId) (x ix:IV):Rd Made:=match E.T t,x,ix with
  | some ⟨_,_,.str,_⟩,.fv (.str s),.fv (.int _ n)=>if n<0 then .fail else match s[n.toNat]? with
   | some b=>val (.fv (.int .u8 b.toNat))
   | none=>.fail
  | some ⟨_,_,.arr m e,_⟩,.fv (.agg cs),.fv (.int _ n)=>match E.T e with
   | some ei=>if 0<=n/\n<(m:Int) then Gq ((BN ei.kind.isAgg ei.size (n.toNat * ei.size) cs).map .fv) else .fail
   | none=>.fail
  | _,_,_=>.fail
theorem cO {ih:Ah} {f rid i:Nat} {ρ:Operand->IV} {t:TypeId} {x:Operand}:C9 E ih f rid i ρ (.box t x)=Jv (E.pol.fzBox f rid i) (Bt f rid i) (ρ x):=rfl
end
abbrev RL {α:Type} (b:Bool) (x y:α):α:=Bool.rec (motive:=fun _=>α) y x b
theorem B0 {α:Type} (b:Bool) (x y:α):RL b x y=cond b x y:=by cases b<;>rfl
section
variable (E:Env) (ih:Ah)
def FE:Op->Bool
 | .move _ | .assign _ | .pick .. | .nilCheck _ | .binOp .. | .unOp .. | .convert .. | .fieldAddr .. | .field .. | .extract ..=>true
 | .build t _=>match E.T t with
  | some ⟨_,_,.struct _,_⟩=>true
  | _=>false
 | .indexAddr t _ _=>match E.T t with
  | some ⟨_,_,.slice e,_⟩=>(match E.T e with | some _=>true | none=>false)
  | some ⟨_,_,.arr _ e,_⟩=>(match E.T e with | some _=>true | none=>false)
  | _=>false
 | .index t _ _=>match E.T t with
  | some ⟨_,_,.arr _ e,_⟩=>(match E.T e with | some ei=>!ei.kind.isAgg | none=>false)
  | _=>false
 | .call { callee:=.builtin .len,argTypes,args }=>match argTypes.toList,args.toList with
  | [t],[_]=>(match E.T t with | some ⟨_,_,.slice _,_⟩=>true | _=>false)
  | _,_=>false
 | _=>false
def Tw (f:FuncId) (rid i:Nat) (drawn:Bool) (ρ:Operand->IV) (cl:Callee) (args:List Operand) (ts:List TypeId) (h:Hp) (k:KT β):Option β:=match cl with
 | .builtin b=>match b,ts,args with
  | .len,[t],[x]=>(match E.T t with
   | some ⟨_,_,.slice _,_⟩=>Bv (ρ x) fun v=>k v h [] []
   | _=>Az (AT E (Bt f rid i) (E.pol.rowApp f rid i) b ts (args.map ρ)) (Bt f rid i) h k)
  | _,_,_=>Az (AT E (Bt f rid i) (E.pol.rowApp f rid i) b ts (args.map ρ)) (Bt f rid i) h k
 | .value g=>match g with
  | .func g=>RL (E.pol.inl g) (RL drawn none (aZ ih g (args.map ρ) h k)) (A5 (E.pol.keep g) (E.pol.split g) (E.pol.raw g) ih g (args.map ρ) h k)
  | g=>CN E ih (ρ g) (args.map ρ) h k
 | _=>none
def Ik (f:FuncId) (rid i:Nat) (drawn:Bool) (ρ:Operand->IV) (op:Op) (h:Hp) (k:KT β):Option β:=match op with
 | .move x=>k (ρ x) h [] []
 | .assign x=>k (ρ x) h [] []
 | .pick c a b=>AC (ρ c) (ρ a) (ρ b) fun v=>k v h [] []
 | .alloc t=>match E.T t with
  | some ti=>EU (Bt f rid i) (.row ti.zero false) (.ptr (.own (Bt f rid i)) 0) h k
  | none=>none
 | .box _ x=>RL (E.pol.fzBox f rid i) (sP (Jv true (Bt f rid i) (ρ x)) (Bt f rid i) (ρ x) h k) (AE (Bt f rid i) (ρ x) h k)
 | .build t parts=>match E.T t with
  | some ⟨_,_,.struct fs,z⟩=>(match KB (EJ E fs) parts.toList with
   | some l=>A7 z (Xi ρ l) fun v=>k v h [] []
   | none=>none)
  | _=>Az (Lo E t (parts.toList.map fun (j,x)=>(j,ρ x))) (Bt f rid i) h k
 | .buildSlice t len parts=>Az (Al E t len (parts.toList.map fun (j,x)=>(j,ρ x))) (Bt f rid i) h k
 | .makeFunc fn a b=>Az (val (CI fn (a.toList.map ρ) (b.toList.map ρ))) (Bt f rid i) h k
 | .makeMap _ n=>(match n with
  | none=>Az (Gj (Bt f rid i)) (Bt f rid i) h k
  | some _=>none)
 | .insert t m j x=>Az (Co E t (ρ m) (ρ j) (ρ x)) (Bt f rid i) h k
 | .mapUpdate t m j x=>Az (Co E t (ρ m) (ρ j) (ρ x)) (Bt f rid i) h k
 | .lookup t m j ok=>Az (Gu E t (ρ m) (ρ j) ok) (Bt f rid i) h k
 | .makeSlice t l c=>Az (BH E (Bt f rid i) t (ρ l) (ρ c)) (Bt f rid i) h k
 | .slice t x lo hi mx=>Az (Iz E t (ρ x) (lo.map ρ) (hi.map ρ) (mx.map ρ)) (Bt f rid i) h k
 | .load t a=>match E.T t with
  | none=>none
  | some ti=>RL ti.kind.isAgg (Ae ti.size (ρ a) h fun v rd=>k v h rd []) (Ag (ρ a) h fun v rd=>k v h rd [])
 | .store t a x=>match E.T t with
  | none=>none
  | some ti=>RL (Nat.beq ti.size 1) (BM (ρ a) (ρ x) h fun h rd wr=>k .dead h rd wr) (Ac ti.size (ρ a) (ρ x) h fun h rd wr=>k .dead h rd wr)
 | .nilCheck x=>AK (ρ x) fun v=>k v h [] []
 | .binOp op t x y _=>eE E t op (ρ x) (ρ y) fun v=>k v h [] []
 | .unOp op _ x=>C5 (KE op (ρ x)) fun v=>k v h [] []
 | .convert s d x=>match E.T s,E.T d with
  | some _,some ⟨_,_,.int .i64,_⟩=>Ub E s d (ρ x) fun v=>k v h [] []
  | _,_=>C5 (Jl E s d (ρ x)) fun v=>k v h [] []
 | .fieldAddr s x fd=>match HN E s fd with
  | some (o,ti)=>RL (Nat.beq ti.size 0) none (Ab o (ρ x) fun v=>k v h [] [])
  | none=>none
 | .field s x fd=>match HN E s fd with
  | some (o,ti)=>RL ti.kind.isAgg (xH ti.size o (ρ x) fun v=>k v h [] []) (yO o (ρ x) fun v=>k v h [] [])
  | none=>none
 | .indexAddr t x ix=>match E.T t with
  | some ⟨_,_,.slice e,_⟩=>(match E.T e with
   | some ei=>AQ ei.size (ρ x) (ρ ix) fun v=>k v h [] []
   | none=>none)
  | some ⟨_,_,.arr m e,_⟩=>(match E.T e with
   | some ei=>ixA m ei.size (ρ x) (ρ ix) fun v=>k v h [] []
   | none=>none)
  | _=>none
 | .index t x ix=>match E.T t with
  | some ⟨_,_,.arr m e,_⟩=>(match E.T e with
   | some ei=>RL ei.kind.isAgg (Az (Vr E t (ρ x) (ρ ix)) (Bt f rid i) h k) (Aat m ei.size (ρ x) (ρ ix) fun v=>k v h [] [])
   | none=>none)
  | _=>Az (Vr E t (ρ x) (ρ ix)) (Bt f rid i) h k
 | .extract x ix=>Ao ix (ρ x) fun v=>k v h [] []
 | .call c=>match c with
  | { callee,args,argTypes }=>Tw E ih f rid i drawn ρ callee args.toList argTypes.toList h k
 | _=>none
end
end
end Idl
end Go.Proofs.YtnenpcghegcnhaaGreat
namespace Go.Proofs.YtnenpcghegcnhaaGreat
namespace Idl
section
variable {β:Type} {E:Env} {ih ih':Ah} {f rid i:Nat} {dr:Bool} {ρ:Operand->IV} {hp:Hp} {k:KT β} {r:β}
def Ad7 (E:Env) (ih:Ah) (f rid i:Nat) (ρ:Operand->IV) (op:Op) (hp:Hp) (v:IV) (hp':Hp) (rd wr:List Ref):Prop :=∃m,(C9 E ih f rid i ρ op).runLog hp []=some (m,rd)/\A4 (Bt f rid i) hp m=some hp'/\m.eff.val=v/\wr=BB m.eff.upd++H9 (Bt f rid i) m
def Gk (E:Env) (ih:Ah) (f rid i:Nat) (ρ:Operand->IV) (op:Op) (hp:Hp) (k:KT β) (r:β):Prop :=∃v hp' rd wr,Ad7 E ih f rid i ρ op hp v hp' rd wr/\k v hp' rd wr=some r/\(FE E op=true->rd=[]/\wr=[])
theorem Bi {op:Op} {v:IV} (e:C9 E ih f rid i ρ op=val v) (h:k v hp [] []=some r):Gk E ih f rid i ρ op hp k r :=⟨v,hp,[],[],⟨{ eff:={ val:=v } },by rw [e];rfl,rfl,rfl,rfl⟩,h,fun _=>⟨rfl,rfl⟩⟩
theorem Ol {op:Op} {o:Option IV} (e:C9 E ih f rid i ρ op=Gq o) (h:(o.bind fun v=>k v hp [] [])=some r):Gk E ih f rid i ρ op hp k r:=by
 cases o with
 | none=>cases h
 | some v=>exact Bi e h
theorem Rt {op:Op} {b:Blk} {v:IV} (hq:FE E op=false) (e:C9 E ih f rid i ρ op=.ret { eff:={ val:=v },new:=some b })
  (h:EU (Bt f rid i) b v hp k=some r):Gk E ih f rid i ρ op hp k r:=by
 obtain ⟨own,ext⟩:=hp;have h:CS own (Bt f rid i) (Bc own (Bt f rid i) b fun own=>k v ⟨own,ext⟩ [] [.own (Bt f rid i)])=some r:=h;obtain ⟨h1,h2⟩:=OJ h;rw [BS] at h2;refine ⟨v,⟨AO (Bt f rid i) b own,ext⟩,[],[.own (Bt f rid i)],⟨_,by rw [e];rfl,?_,rfl,rfl⟩,h2,fun q=>by rw [hq] at q;cases q⟩;simp only [A4,laid,Ajt,CV];rw [show (Hp.mk own ext).get (.own (Bt f rid i))=none from h1]
 rfl
theorem B5 {op:Op} {m:Rd Made} (hq:FE E op=false) (e:C9 E ih f rid i ρ op=m) (h:Az m (Bt f rid i) hp k=some r):Gk E ih f rid i ρ op hp k r:=by
 unfold Az at h;cases hm:m.runLog hp [] with
 | none=>rw [hm] at h;cases h
 | some p =>
  obtain ⟨m',rd⟩:=p;rw [hm] at h;simp only at h;obtain ⟨h1,l1,h⟩:=WZ _ _ h;have hh:∃h2,CV (Bt f rid i) m' h1=some h2/\k m'.eff.val h2 rd (BB m'.eff.upd++H9 (Bt f rid i) m')=some r:=by
   unfold Hf at h;unfold CV;cases hn:m'.new with
   | none=>rw [hn] at h;simp only [Cj] at h;exact ⟨h1,rfl,h⟩
   | some b =>
    rw [hn] at h;obtain ⟨own,ext⟩:=h1;simp only [Cz,BS,Cj] at h;obtain ⟨f1,f2⟩:=OJ h;refine ⟨⟨AO (Bt f rid i) b own,ext⟩,?_,f2⟩;simp only;rw [show (Hp.mk own ext).get (.own (Bt f rid i))=none from f1]
    rfl
  obtain ⟨h2,l2,h⟩:=hh;exact ⟨_,h2,rd,_,⟨m',by rw [e,hm],by simp only [A4,l1,Ajt,l2],rfl,rfl⟩,h,fun q=>by rw [hq] at q;cases q⟩
theorem LV {x:IV} {e:Option β} {k:FV->Option β} (h:Nq x e k=some r):(∃v,x=.fv v/\k v=some r)\/e=some r:=by
 unfold Nq at h;split at h
 ·exact .inl ⟨_,rfl,h⟩
 ·exact .inr h
theorem Re {x:IV} {k:List IV->Option β} {kf:List FV->Option β} (h:asAgg x k kf=some r):(∃cs,x=.agg cs/\k cs=some r)\/(∃cs,x=.fv (.agg cs)/\kf cs=some r):=by
 unfold asAgg at h;split at h
 ·exact .inl ⟨_,rfl,h⟩
 ·unfold GP at h;split at h
  ·exact .inr ⟨_,rfl,h⟩
  ·cases h
 ·cases h
theorem DE {x:IV} {k:Ref->Nat->Option β} {kf:List FV->Nat->Option β} (h:EF x k kf=some r):(∃q o,x=.ptr q o/\k q o=some r)\/(∃cs o,x=.fv (.fp cs o)/\kf cs o=some r):=by
 unfold EF at h;split at h
 ·exact .inl ⟨_,_,rfl,h⟩
 ·unfold Aci at h;split at h
  ·exact .inr ⟨_,_,rfl,h⟩
  ·cases h
 ·cases h
theorem Gt {b:Blk} {k:List IV->Option β} (h:DY b k=some r):∃cells ro,b=.row cells ro/\k cells=some r:=by
 unfold DY at h;split at h
 ·exact ⟨_,_,rfl,h⟩
 ·cases h
theorem NS {b:Blk} {k:List IV->Option β} (h:GM b k=some r):∃cells,b=.row cells false/\k cells=some r:=by
 unfold GM at h;split at h
 ·rename_i ro;cases ro with
  | true=>cases h
  | false=>exact ⟨_,rfl,h⟩
 ·cases h
theorem RE {x:IV} {k:Ref->Nat->Nat->Option β} {e:Option β} (h:Vm x k e=some r):(∃q sz n,x=.slc q sz n/\k q sz n=some r)\/((∀q sz n,x≠.slc q sz n)/\e=some r):=by
 unfold Vm at h;split at h
 ·exact .inl ⟨_,_,_,rfl,h⟩
 ·rename_i hn;exact .inr ⟨hn,h⟩
theorem BQ {α:Type} {o:Option α} {k:α->Option β} (h:o.bind k=some r):∃a,o=some a/\k a=some r:=by
 cases o with
 | none=>cases h
 | some a=>exact ⟨a,rfl,h⟩
theorem DO {c:Prop} [Decidable c] {a:Option β} (h:(if c then a else none)=some r):c/\a=some r:=by
 by_cases hc:c
 ·rw [if_pos hc] at h;exact ⟨hc,h⟩
 ·rw [if_neg hc] at h;cases h
theorem DF {c:Bool} {a:Option β} (h:cond c a none=some r):c=true/\a=some r:=by cases c;cases h;exact ⟨rfl,h⟩
theorem DJ {a b:Nat} (h:Nat.beq a b=true):a=b:=Nat.eq_of_beq_eq_true h
theorem BF {a b:Nat} (h:Nat.ble a b=true):a<=b:=Nat.le_of_ble_eq_true h
theorem ET {t:TypeId} {op:BinOp} {x y:IV} {k:IV->Option β} (h:CZ E t op x y k=some r):∃v,EL E op t x y=some v/\k v=some r:=by rw [CZ,CJ] at h;exact BQ h
theorem kL {t:TypeId} {x y:IV} {k:IV->Option β} (h:Bs E t x y k=some r):∃v,EL E .add t x y=some v/\k v=some r:=by
 unfold Bs at h;rcases Fh h with ⟨a,rfl,g'⟩ | h
 ·replace h:=g';clear g';rcases Fh h with ⟨b,rfl,g'⟩ | h
  ·replace h:=g';clear g';cases hc:Nat.ble (a+b) 9223372036854775807 with
   | false=>rw [hc] at h;exact ET h
   | true =>
    rw [hc] at h;simp only [cond,D9] at h;refine ⟨_,?_,h⟩;have e:IntKind.i64.wrap ((a:Int)+(b:Int))=((a+b:Nat):Int):=by rw [<- Int.natCast_add];exact Tq (BF hc)
    show some (IV.fv (.int .i64 (IntKind.i64.wrap ((a:Int)+(b:Int)))))=_
    rw [e]
  ·exact ET h
 ·exact ET h
theorem iP {t:TypeId} {x y:IV} {k:IV->Option β} (h:Bn E t x y k=some r):∃v,EL E .sub t x y=some v/\k v=some r:=by
 unfold Bn at h;rcases Fh h with ⟨a,rfl,g'⟩ | h
 ·replace h:=g';clear g';rcases Fh h with ⟨b,rfl,g'⟩ | h
  ·replace h:=g';clear g';cases hc:(and (Nat.ble b a) (Nat.ble a 9223372036854775807)) with
   | false=>rw [hc] at h;exact ET h
   | true =>
    rw [hc] at h;simp only [cond,D9] at h;refine ⟨_,?_,h⟩;have hc:(Nat.ble b a && Nat.ble a 9223372036854775807)=true:=hc;simp only [Ajz] at hc;have h1:=BF hc.1;have h2:=BF hc.2;have e:IntKind.i64.wrap ((a:Int) - (b:Int))=((a - b:Nat):Int):=by rw [<- Int.natCast_sub h1];exact Tq (by omega)
    show some (IV.fv (.int .i64 (IntKind.i64.wrap ((a:Int) - (b:Int)))))=_
    rw [e]
  ·exact ET h
 ·exact ET h
theorem Ij {t:TypeId} {op:BinOp} {g:Nat->Nat->Bool} (hg:∀a b:Nat,EL E op t (.fv (.int .i64 a)) (.fv (.int .i64 b))=some (.fv (.bool (g a b)))) {x y:IV} {k:IV->Option β}
  (h:QA E t op g x y k=some r):∃v,EL E op t x y=some v/\k v=some r:=by
 unfold QA at h;rcases Fh h with ⟨a,rfl,g'⟩ | h
 ·replace h:=g';clear g';rcases Fh h with ⟨b,rfl,g'⟩ | h
  ·replace h:=g';clear g';rw [Rs] at h;exact ⟨_,hg a b,h⟩
  ·exact ET h
 ·exact ET h
theorem HP (a b:Nat):Nat.beq a b=decide (a=b):=by
 cases h:Nat.beq a b with
 | true=>rw [DJ h];simp
 | false =>
  have:a≠b:=fun e=>by rw [e,show Nat.beq b b=true from Nat.beq_refl b] at h;cases h
  simp [this]
theorem Bp (a b:Nat):Nat.ble a b=decide (a<=b):=by
 cases h:Nat.ble a b with
 | true=>have:=BF h;simp [this]
 | false =>
  have:¬ a<=b:=fun e=>by rw [Nat.ble_eq_true_of_le e] at h;cases h
  simp [this]
theorem YM {t:TypeId} {op:BinOp} {x y:IV} {k:IV->Option β} (h:eE E t op x y k=some r):∃v,EL E op t x y=some v/\k v=some r:=by
 cases op with
 | add=>exact kL h
 | sub=>exact iP h
 | eql =>
  refine Ij (fun a b=>?_) h
  show some (IV.fv (.bool ((a:Int) == (b:Int))))=_
  rw [HP];congr 3;exact decide_eq_decide.2 Int.ofNat_inj
 | neq =>
  refine Ij (fun a b=>?_) h
  show some (IV.fv (.bool ((a:Int) != (b:Int))))=_
  rw [HP];congr 3
  show (!decide ((a:Int)=(b:Int)))=!decide (a=b)
  congr 1;exact decide_eq_decide.2 Int.ofNat_inj
 | lss =>
  refine Ij (fun a b=>?_) h
  show some (IV.fv (.bool (decide ((a:Int)<(b:Int)))))=_
  rw [Bp];congr 3;exact decide_eq_decide.2 (by omega)
 | leq =>
  refine Ij (fun a b=>?_) h
  show some (IV.fv (.bool (decide ((a:Int)<=(b:Int)))))=_
  rw [Bp];congr 3;exact decide_eq_decide.2 (by omega)
 | gtr =>
  refine Ij (fun a b=>?_) h
  show some (IV.fv (.bool (decide ((a:Int) > (b:Int)))))=_
  rw [Bp];congr 3;exact decide_eq_decide.2 (by omega)
 | geq =>
  refine Ij (fun a b=>?_) h
  show some (IV.fv (.bool (decide ((a:Int) ≥ (b:Int)))))=_
  rw [Bp];congr 3;exact decide_eq_decide.2 (by omega)
 | _=>exact ET h
theorem Yf {s d:TypeId} {x:IV} {si:TI} {a b:Nat} {z:List IV} (h1:E.T s=some si) (h2:E.T d=some ⟨a,b,.int .i64,z⟩) {k:IV->Option β} (h:Ub E s d x k=some r) :
  ∃v,Jl E s d x=some v/\k v=some r:=by
 have hg:C5 (Jl E s d x) k=some r->∃v,Jl E s d x=some v/\k v=some r:=fun h=>by rw [CJ] at h;exact BQ h
 unfold Ub at h;rcases Fh h with ⟨n,rfl,g'⟩ | h
 ·replace h:=g';clear g';cases hc:Nat.ble n 9223372036854775807 with
  | false=>rw [hc] at h;exact hg h
  | true =>rw [hc] at h;simp only [cond,D9] at h;refine ⟨_,?_,h⟩;simp only [Jl,h1,h2];rw [Tq (BF hc)]
 ·exact hg h
theorem sY {t:TypeId} {a:Operand} (h:Ik E ih' f rid i dr ρ (.load t a) hp k=some r):Gk E ih f rid i ρ (.load t a) hp k r:=by
 simp only [Ik,B0] at h;cases ht:E.T t with
 | none=>rw [ht] at h;cases h
 | some ti =>
  rw [ht] at h;simp only at h;cases hag:ti.kind.isAgg with
  | true =>
   rw [hag] at h;simp only [cond,Ae] at h;rcases DE h with ⟨q,o,ha,h⟩ | ⟨cs,o,ha,h⟩
   ·rw [EB] at h;obtain ⟨b,hb,h⟩:=BQ h;obtain ⟨cells,ro,rfl,g'⟩:=Gt h;replace h:=g';clear g';rw [Jt] at h;obtain ⟨h1,h⟩:=DO h;rw [Jx] at h;obtain ⟨h2,h⟩:=DO h;rw [PQ] at h;refine ⟨_,hp,[q],[],⟨{ eff:={ val:=Fp ((cells.drop o).take ti.size) } },?_,rfl,rfl,rfl⟩,h,fun q=>by cases q⟩;simp only [C9,ht,ha,Rd.runLog,hb,Cu,hag,if_true];rw [if_pos (by simp at h2;omega)];rfl
   ·rw [Jt] at h;obtain ⟨h1,h⟩:=DO h;rw [Jx] at h;obtain ⟨h2,h⟩:=DO h;refine ⟨_,hp,[],[],⟨{ eff:={ val:=.fv (.agg ((cs.drop o).take ti.size)) } },?_,rfl,rfl,rfl⟩,h,fun q=>by cases q⟩;simp only [C9,ht,ha,BN,hag,if_true];rw [if_pos (by simp at h2;omega)];rfl
  | false =>
   rw [hag] at h;simp only [cond,Ag] at h;rcases DE h with ⟨q,o,ha,h⟩ | ⟨cs,o,ha,h⟩
   ·rw [EB] at h;obtain ⟨b,hb,h⟩:=BQ h;obtain ⟨cells,ro,rfl,g'⟩:=Gt h;replace h:=g';clear g';rw [Dk] at h;obtain ⟨v,hv,h⟩:=BQ h;refine ⟨_,hp,[q],[],⟨{ eff:={ val:=v } },?_,rfl,rfl,rfl⟩,h,fun q=>by cases q⟩;simp only [C9,ht,ha,Rd.runLog,hb,Cu,hag,Ajx,if_false,hv];rfl
   ·rw [Dk] at h;obtain ⟨v,hv,h⟩:=BQ h;refine ⟨_,hp,[],[],⟨{ eff:={ val:=.fv v } },?_,rfl,rfl,rfl⟩,h,fun q=>by cases q⟩;simp only [C9,ht,ha,BN,hag,Ajx,if_false,hv];rfl
theorem Xp (cells:List IV) (o:Nat) (v:IV):Bh cells o [v]=cells.set o v:=rfl
theorem lX {t:TypeId} {a x:Operand} (h:Ik E ih' f rid i dr ρ (.store t a x) hp k=some r):Gk E ih f rid i ρ (.store t a x) hp k r:=by
 simp only [Ik,B0] at h;cases ht:E.T t with
 | none=>rw [ht] at h;cases h
 | some ti =>
  rw [ht] at h;simp only at h;have key:∀q o cells,ρ a=.ptr q o->hp.get q=some (.row cells false) ->
    ((ρ x).alive=true/\(ρ x).cells.length=ti.size/\o+ti.size<=cells.length/\(ρ x).cells.all IV.one=true/\Fm q (ρ x)=true) ->
    k .dead (hp.set q (.row (Bh cells o (ρ x).cells) false)) [q] [q]=some r->Gk E ih f rid i ρ (.store t a x) hp k r:=by
   intro q o cells ha hb hc h;refine ⟨_,_,[q],[q],⟨{ eff:={ val:=.dead,upd:=[(q,.row (Bh cells o (ρ x).cells) false)] } },?_,?_,rfl,rfl⟩,h,fun q=>by cases q⟩
   ·simp only [C9,ht,ha,Rd.runLog,hb];rw [if_pos hc];rfl
   ·simp only [A4,laid,hb,Ajt,CV]
  have gen:Ac ti.size (ρ a) (ρ x) hp (fun h rd wr=>k .dead h rd wr)=some r->Gk E ih f rid i ρ (.store t a x) hp k r:=by
   intro h;simp only [Ac] at h;rcases DE h with ⟨q,o,ha,h⟩ | ⟨cs,o,ha,h⟩
   ·rw [EB] at h;obtain ⟨b,hb,h⟩:=BQ h;obtain ⟨cells,rfl,g'⟩:=NS h;replace h:=g';clear g';rcases LV h with ⟨v,hx,h⟩ | h
    ·simp only [GP] at h;split at h
     ·rename_i cs;obtain ⟨hc,h⟩:=DF h;have hc:(Nat.beq cs.length ti.size && DU cs)=true:=hc;simp only [Ajz] at hc;obtain ⟨h1,h⟩:=MH cells o cs h;rw [JA] at h;have hl:=DJ hc.1;refine key q o cells ha hb ⟨by rw [hx];rfl,by rw [hx];simp [IV.cells,hl],by omega,by rw [hx];exact L0 cs hc.2,by rw [hx];cases q<;>rfl⟩ ?_;rw [hx];exact h
     ·cases h
    ·obtain ⟨hc,h⟩:=DO h;rw [HA,JA] at h;exact key q o cells ha hb hc h
   ·cases h
  cases hs:Nat.beq ti.size 1 with
  | true =>
   rw [hs] at h;have hs:=DJ hs;simp only [cond,BM] at h;cases ho:(ρ x).one with
   | false =>rw [ho] at h;rw [<- hs] at h;exact gen h
   | true =>
    rw [ho] at h;simp only at h;rcases DE h with ⟨q,o,ha,h⟩ | ⟨cs,o,ha,h⟩
    ·rw [EB] at h;obtain ⟨b,hb,h⟩:=BQ h;obtain ⟨cells,rfl,g'⟩:=NS h;replace h:=g';clear g';cases hc:Fm q (ρ x) with
     | false=>rw [hc] at h;cases h
     | true =>rw [hc] at h;simp only at h;rw [VF] at h;obtain ⟨hlt,h⟩:=DO h;rw [JA] at h;obtain ⟨c1,c2⟩:=Kn ho;refine key q o cells ha hb ⟨c2,by rw [c1,hs];rfl,by omega,by rw [c1];simp [ho],hc⟩ ?_;rw [c1,Xp];exact h
    ·cases h
  | false =>rw [hs] at h;exact gen h
end
end Idl
end Go.Proofs.YtnenpcghegcnhaaGreat
set_option linter.unusedSimpArgs false
namespace Go.Proofs.YtnenpcghegcnhaaGreat
namespace Idl
section
variable {β:Type} {E:Env} {ih ih':Ah} {f rid i:Nat} {dr:Bool} {ρ:Operand->IV} {hp:Hp} {k:KT β} {r:β}
theorem Oy {size o:Nat} {cs:List IV} {k:IV->Option β} (h:(Fw cs o fun cs=>FK cs size fun cs=>NC cs k)=some r) :
  Cu true size o cs=some (Fp ((cs.drop o).take size))/\k (Fp ((cs.drop o).take size))=some r:=by
 rw [Jt] at h;obtain ⟨h1,h⟩:=DO h;rw [Jx] at h;obtain ⟨h2,h⟩:=DO h;rw [PQ] at h;refine ⟨?_,h⟩;simp only [Cu,if_true];rw [if_pos (by simp at h2;omega)]
theorem Mn {size o:Nat} {cs:List FV} {k:IV->Option β} (h:(Fw cs o fun cs=>FK cs size fun cs=>k (.fv (.agg cs)))=some r) :
  BN true size o cs=some (.agg ((cs.drop o).take size))/\k (.fv (.agg ((cs.drop o).take size)))=some r:=by
 rw [Jt] at h;obtain ⟨h1,h⟩:=DO h;rw [Jx] at h;obtain ⟨h2,h⟩:=DO h;refine ⟨?_,h⟩;simp only [BN,if_true];rw [if_pos (by simp at h2;omega)]
theorem lP {s:TypeId} {x:Operand} {fd:Nat} (h:Ik E ih' f rid i dr ρ (.field s x fd) hp k=some r):Gk E ih f rid i ρ (.field s x fd) hp k r:=by
 simp only [Ik,B0] at h;cases hf:HN E s fd with
 | none=>rw [hf] at h;cases h
 | some p =>
  obtain ⟨o,ti⟩:=p;rw [hf] at h;simp only at h;cases hag:ti.kind.isAgg with
  | true =>
   rw [hag] at h;simp only [cond,xH] at h;rcases Re h with ⟨cs,hx,h⟩ | ⟨cs,hx,h⟩
   ·obtain ⟨h1,h2⟩:=Oy (k:=fun v=>k v hp [] []) h;exact Bi (by simp only [C9,hf,hx,hag,h1];rfl) h2
   ·obtain ⟨h1,h2⟩:=Mn (k:=fun v=>k v hp [] []) h;exact Bi (by simp only [C9,hf,hx,hag,h1];rfl) h2
  | false =>
   rw [hag] at h;simp only [cond,yO] at h;rcases Re h with ⟨cs,hx,h⟩ | ⟨cs,hx,h⟩
   ·rw [Dk] at h;obtain ⟨v,hv,h⟩:=BQ h;exact Bi (by simp only [C9,hf,hx,hag,Cu,Ajx,if_false,hv];rfl) h
   ·rw [Dk] at h;obtain ⟨v,hv,h⟩:=BQ h;exact Bi (by simp only [C9,hf,hx,hag,BN,Ajx,if_false,hv];rfl) h
theorem Sn {s:TypeId} {x:Operand} {fd:Nat} (h:Ik E ih' f rid i dr ρ (.fieldAddr s x fd) hp k=some r):Gk E ih f rid i ρ (.fieldAddr s x fd) hp k r:=by
 simp only [Ik,B0] at h;cases hf:HN E s fd with
 | none=>rw [hf] at h;cases h
 | some p =>
  obtain ⟨o,ti⟩:=p;rw [hf] at h;simp only [GG] at h;by_cases hs:ti.size=0
  ·rw [if_pos hs] at h;cases h
  ·rw [if_neg hs] at h;unfold Ab at h;rcases DE h with ⟨q,off,hx,h⟩ | ⟨cs,off,hx,h⟩
   ·rw [Ca] at h;exact Bi (by simp only [C9,hf,hx,if_neg hs]) h
   ·rw [Ca] at h;exact Bi (by simp only [C9,hf,hx,if_neg hs]) h
theorem AaU {x:Operand} (h:Ik E ih' f rid i dr ρ (.nilCheck x) hp k=some r):Gk E ih f rid i ρ (.nilCheck x) hp k r:=by
 simp only [Ik,B0] at h;unfold AK at h;split at h
 ·rename_i hx;exact Bi (by simp only [C9,hx]) h
 ·rename_i hx;unfold AbX at h;split at h
  ·exact Bi (by simp only [C9,hx]) h
  ·unfold jI at h;split at h
   ·exact Bi (by simp only [C9,hx]) h
   ·cases h
  ·cases h
 ·rename_i hx;unfold jI at h;split at h
  ·exact Bi (by simp only [C9,hx]) h
  ·cases h
 ·cases h
theorem YC {x:Operand} {ix:Nat} (h:Ik E ih' f rid i dr ρ (.extract x ix) hp k=some r):Gk E ih f rid i ρ (.extract x ix) hp k r:=by
 simp only [Ik,B0] at h;unfold Ao at h;split at h
 ·rename_i hx;rw [Dk] at h;obtain ⟨v,hv,h⟩:=BQ h;exact Bi (by simp only [C9,hx,hv];rfl) h
 ·rename_i hx;simp only [Ab8] at h;split at h
  ·rw [Dk] at h;obtain ⟨v,hv,h⟩:=BQ h;exact Bi (by simp only [C9,hx,hv];rfl) h
  ·cases h
 ·cases h
theorem u7 {c a b:Operand} (h:Ik E ih' f rid i dr ρ (.pick c a b) hp k=some r):Gk E ih f rid i ρ (.pick c a b) hp k r:=by
 simp only [Ik,AC] at h;obtain ⟨t,hc,h⟩:=RS h;cases t with
 | true=>exact Bi (by simp only [C9,hc];rfl) h
 | false=>exact Bi (by simp only [C9,hc];rfl) h
theorem Rl {t:TypeId} {x ix:Operand} (h:Ik E ih' f rid i dr ρ (.indexAddr t x ix) hp k=some r):Gk E ih f rid i ρ (.indexAddr t x ix) hp k r:=by
 simp only [Ik,B0] at h;split at h
 ·rename_i e z ht;split at h
  ·rename_i ei he;unfold AQ at h;obtain ⟨kd,n,hi,h⟩:=Qw h;rcases RE h with ⟨q,sz,len,hx,h⟩ | ⟨hx,h⟩
   ·obtain ⟨hc,h⟩:=DF h;have hc:(Nat.ble (Nat.succ n) len && Nat.beq sz ei.size)=true:=hc;simp only [Ajz] at hc;have h1:=BF hc.1;have h2:=DJ hc.2;rw [Ca] at h;refine Bi ?_ h;simp only [C9,Kx,ht,he,hi,hx];rw [if_pos ⟨by omega,by omega,h2⟩];rfl
   ·rw [UH] at h;obtain ⟨es,he2,h⟩:=BQ h;rw [Dk] at h;obtain ⟨el,hel,h⟩:=BQ h;rw [gY] at h;obtain ⟨hl,h⟩:=DO h;refine Bi ?_ h;simp only [C9,Kx,ht,he,hi];cases hxx:ρ x with
    | slc q sz len=>exact absurd hxx (hx q sz len)
    | _ =>rw [hxx] at he2;simp only [he2];rw [if_neg (by omega)];simp only [Int.toNat_natCast,hel];rw [if_pos hl]
  ·cases h
 ·rename_i m e z ht;split at h
  ·rename_i ei he;unfold ixA at h;obtain ⟨kd,n,hi,h⟩:=Qw h;obtain ⟨hc,h⟩:=DF h;have hc:=BF hc;have hlt:(0:Int)<=(n:Int)/\(n:Int)<(m:Int):=⟨by omega,by omega⟩;rcases DE h with ⟨q,o,hx,h⟩ | ⟨cs,o,hx,h⟩
   ·rw [Ca] at h;refine Bi ?_ h;simp only [C9,Kx,ht,he,hi,hx];rw [if_pos hlt];rfl
   ·rw [Ca] at h;refine Bi ?_ h;simp only [C9,Kx,ht,he,hi,hx];rw [if_pos hlt];rfl
  ·cases h
 ·cases h
theorem mM {t:TypeId} {x ix:Operand} (h:Ik E ih' f rid i dr ρ (.index t x ix) hp k=some r):Gk E ih f rid i ρ (.index t x ix) hp k r:=by
 simp only [Ik,B0] at h;split at h
 ·rename_i m e z ht;split at h
  ·rename_i ei he;cases hag:ei.kind.isAgg with
   | true=>rw [hag] at h;exact B5 (by simp only [FE,ht,he,hag];rfl) rfl h
   | false =>
    rw [hag] at h;simp only [cond,Aat] at h;obtain ⟨kd,n,hi,h⟩:=Qw h;obtain ⟨hc,h⟩:=DF h;have hc:=BF hc;rcases LV h with ⟨v,hx,h⟩ | h
    ·simp only [GP] at h;split at h
     ·rw [Dk] at h;obtain ⟨w,hw,h⟩:=BQ h;refine Bi ?_ h;simp only [C9,ht,hi,hx,he];rw [if_pos ⟨by omega,by omega⟩];simp only [hag,BN,Ajx,if_false,Int.toNat_natCast,hw];rfl
     ·cases h
    ·cases h
  ·cases h
 ·rename_i hn;refine B5 ?_ rfl h;simp only [FE]
theorem Zs {z:List IV} {o sz:Nat} {v:IV} {k:List IV->Option β} (h:G5 z o sz v k=some r):(v.alive=true/\v.cells.length=sz/\o+sz<=z.length)/\k (Bh z o v.cells)=some r:=by
 have one:v.one=true->(cond (Nat.beq sz 1) (Gi z o v k) none)=some r->(v.alive=true/\v.cells.length=sz/\o+sz<=z.length)/\k (Bh z o v.cells)=some r:=by intro ho h;obtain ⟨hs,h⟩:=DF h;have hs:=DJ hs;rw [VF] at h;obtain ⟨hlt,h⟩:=DO h;obtain ⟨c1,c2⟩:=Kn ho;refine ⟨⟨c2,by rw [c1,hs];rfl,by omega⟩,?_⟩;rw [c1,Xp];exact h
 unfold G5 at h;rcases LV h with ⟨w,rfl,g'⟩ | h
 ·replace h:=g';clear g';cases ho:G9 w with
  | true =>rw [ho] at h;exact one (by cases w<;>first | rfl | cases ho) h
  | false =>
   rw [ho] at h;simp only [cond,GP] at h;split at h
   ·rename_i cs;cases hc:Nat.beq cs.length sz with
    | false=>rw [hc] at h;cases h
    | true =>rw [hc] at h;have hc:=DJ hc;obtain ⟨h1,h⟩:=MH z o cs h;exact ⟨⟨rfl,by simp [IV.cells,hc],by omega⟩,h⟩
   ·cases h
 ·unfold VC at h;cases ho:v.one with
  | true=>rw [ho] at h;exact one ho h
  | false =>rw [ho] at h;simp only [cond] at h;obtain ⟨hc,h⟩:=DO h;rw [HA] at h;exact ⟨hc,h⟩
theorem Rv:∀(pl:List (Nat×Operand)) (place:Nat->Option (Nat×Nat)) (l:List (Nat×Nat×Operand)) (z:List IV) {k:List IV->Option β},KB place pl=some l->MF z (Xi ρ l) k=some r ->
  ∃cells,CU place z (pl.map fun (j,x)=>(j,ρ x))=some cells/\k cells=some r
 | [],place,l,z,k,hp,h=>by
  simp only [KB,AiZ] at hp;subst hp;exact ⟨z,rfl,h⟩
 | (j,x)::pl,place,l,z,k,hp,h=>by
  simp only [KB] at hp;cases hj:place j with
  | none=>rw [hj] at hp;cases hp
  | some os =>
   obtain ⟨o,s⟩:=os;rw [hj] at hp;simp only at hp;cases hpl:KB place pl with
   | none=>rw [hpl] at hp;cases hp
   | some l' =>rw [hpl] at hp;simp only [AiZ] at hp;subst hp;have h:(G5 z o s (ρ x) fun z=>MF z (Xi ρ l') k)=some r:=h;simp only [Ai5,CU,hj];obtain ⟨hc,h⟩:=Zs h;rw [if_pos hc];exact Rv pl place l' _ hpl h
theorem mK {t:TypeId} {parts:Array (Nat×Operand)} (h:Ik E ih' f rid i dr ρ (.build t parts) hp k=some r):Gk E ih f rid i ρ (.build t parts) hp k r:=by
 simp only [Ik,B0] at h;split at h
 ·rename_i fs z ht;split at h
  ·rename_i l hl;unfold A7 at h;obtain ⟨cells,h1,h2⟩:=Rv _ _ _ _ hl h;rw [PQ] at h2;refine Bi ?_ h2;simp only [C9,ht,h1];rfl
  ·cases h
 ·rename_i hn;refine B5 ?_ rfl h;simp only [FE]
theorem Ach {t:TypeId} {x:Operand} (h:Ik E ih' f rid i dr ρ (.box t x) hp k=some r):Gk E ih f rid i ρ (.box t x) hp k r:=by
 simp only [Ik,B0] at h;have hg:E.pol.fzBox f rid i=true->C9 E ih f rid i ρ (.box t x)=Jv true (Bt f rid i) (ρ x):=fun e=>by rw [cO,e]
 cases hz:E.pol.fzBox f rid i with
 | true =>
  rw [hz] at h;simp only [cond,sP] at h;rcases LV h with ⟨v,hx,h⟩ | h
  ·simp only [Aar] at h;split at h
   ·rename_i cs;cases hc:Nat.ble cs.length 2000 with
    | false=>rw [hc] at h;exact B5 rfl (hg hz) h
    | true =>
     rw [hc] at h;have hc:=BF hc;have key:∀(n:Nat) (cs:List FV),cs.length<n->frzL n (cs.map .fv)=.ret (cs,[]):=by
      intro n
      induction n with
      | zero=>intro cs h;omega
      | succ n ih =>
       intro cs h;cases cs with
       | nil=>rfl
       | cons c cs =>
        cases n with
        | zero=>simp at h
        | succ n =>simp only [Ai5,frzL,C8,Rd.bind];rw [ih cs (by simp at h ⊢;omega)];rfl
     refine ⟨_,hp,[],[],⟨{ eff:={ val:=.fv (.fp cs 0),upd:=[] } },?_,rfl,rfl,rfl⟩,h,fun q=>by cases q⟩;simp only [C9,hx,IV.alive,Bool.true_eq_false,if_false,hz,if_true,IV.cells,key 4096 cs (by omega)];rfl
   ·exact B5 rfl (hg hz) h
  ·exact B5 rfl (hg hz) h
 | false =>
  rw [hz] at h;simp only [cond,AE] at h;have key:∀cs,(ρ x).cells=cs->(ρ x).alive=true->EU (Bt f rid i) (.row cs false) (.ptr (.own (Bt f rid i)) 0) hp k=some r->Gk E ih f rid i ρ (.box t x) hp k r:=by intro cs hcs ha h;refine Rt rfl ?_ h;simp only [C9,ha,Bool.true_eq_false,if_false,hz,Ajx,hcs]
  cases ho:(ρ x).one with
  | true =>rw [ho] at h;obtain ⟨c1,c2⟩:=Kn ho;exact key _ c1 c2 h
  | false =>rw [ho] at h;simp only at h;obtain ⟨ha,h⟩:=DF h;rw [HA] at h;exact key _ rfl ha h
theorem X5 {s d:TypeId} {x:Operand} (h:Ik E ih' f rid i dr ρ (.convert s d x) hp k=some r):Gk E ih f rid i ρ (.convert s d x) hp k r:=by
 simp only [Ik,B0] at h;split at h
 ·rename_i hs hd;obtain ⟨v,h1,h2⟩:=Yf hs hd h;exact Bi (by simp only [C9,h1];rfl) h2
 ·rw [CJ] at h;exact Ol rfl h
def Iso (E:Env) (ih:Ah) (g:FuncId) (args:List IV) (hp:Hp) (k:KT β) (r:β):Prop :=∃e rd hp',(GK E ih g args).runLog hp []=some (e,rd)/\laid hp e.upd=some hp'/\k e.val hp' rd (BB e.upd)=some r
theorem JT (hi:∀f args h x,ih' f args h=some x->ih f args h=some x) {g:FuncId} {args:List IV} (h:Ea (E.pol.keep g) (E.pol.split g) (E.pol.raw g) ih' g args hp k=some r):Iso E ih g args hp k r:=by
 have hasked:∀args ext x,Ei (E.pol.split g) ih' g args ext=some x->asked E ih g args ext=some x:=by
  intro args ext x e;unfold Ei at e;unfold asked;split at e
  ·rename_i hs;rw [if_pos hs];split at e
   ·split at e
    ·rename_i hc;simp only [Ajz] at hc;have mono:∀{o o':Option (IV×Hp)},(∀x,o=some x->o'=some x)->Cv o=true->Cv o'=true:=by
      intro o o' hm h;cases o with
      | none=>cases h
      | some x=>rw [hm x rfl];exact h
     rw [if_pos (by rw [mono (hi _ _ _) hc.1,mono (hi _ _ _) hc.2];rfl)];exact e
    ·cases e
   ·rename_i hne
    have:=hi _ _ _ _ e
    split
    ·exact absurd rfl (fun e=>hne rfl e)
    ·exact this
  ·rename_i hs;rw [if_neg hs];exact hi _ _ _ _ e
 unfold Ea at h;split at h
 ·cases h
 rename_i vs rs u l1 h1;split at h
 ·cases h
 rename_i l l2 h2;split at h
 ·cases h
 rename_i vs' h3;split at h
 ·cases h
 rename_i ext h4;simp only [CX (Cj 3),CX Cz] at h;split at h
 ·cases h
 rename_i res hp' h5;split at h
 ·cases h
 rename_i res1 h6;split at h
 ·cases h
 rename_i res2 h7;split at h
 ·cases h
 rename_i ext' h8;obtain ⟨hc,h⟩:=DO h;split at h
 ·cases h
 rename_i hp2 h9;simp only [In,Cj] at h;refine ⟨{ val:=res2,upd:=u++(BB l).zip ext' },l2,hp2,?_,h9,h⟩;simp only [GK,BT,h1,h2,Ajt,h3,h4,hasked _ _ _ h5];rw [show HG E g res hp'=some res1 from h6]
 simp only [Ajt,h7,h8];rw [if_pos hc];rfl
def yC (M:Nat) (g:xM β):Prop:=∀v h lg e k r,g v h lg e k=some r->e=some r\/∃x u lg',(∀N,M<=N->(C8 N v).runLog h lg=some ((x,u),lg'))/\(∀p∈u,∃s,p.1=Ref.own s)/\k x u lg'=some r
theorem Ih {M:Nat} {g:xM β} (hg:yC M g):∀(l:List IV) h lg e k r,CO g l h lg e k=some r ->
  e=some r\/∃xs us lg',(∀N,M+l.length+1<=N->(frzL N l).runLog h lg=some ((xs,us),lg'))/\(∀p∈us,∃s,p.1=Ref.own s)/\k xs us lg'=some r
 | [],h,lg,e,k,r,hh=>.inr ⟨[],[],lg,fun N hN=>(by cases N with | zero=>simp at hN | succ N=>rfl),fun p hp=>(by cases hp),hh⟩
 | v::l,h,lg,e,k,r,hh=>by
  have hh:(g v h lg e fun y u lg=>CO g l h lg e fun ys us lg=>Lf u us fun w=>k (y::ys) w lg)=some r:=hh;rcases hg _ _ _ _ _ _ hh with h1 | ⟨x,u,lg1,h1,hu,hh⟩
  ·exact .inl h1
  ·rcases Ih hg l _ _ _ _ _ hh with h2 | ⟨xs,us,lg2,h2,hus,hh⟩
   ·exact .inl h2
   ·rw [TR] at hh;refine .inr ⟨x::xs,u++us,lg2,fun N hN=>?_,fun p hp=>?_,hh⟩
    ·cases N with
     | zero=>simp at hN
     | succ N =>simp only [Ai3] at hN;simp only [frzL,BT,h1 N (by omega),Ajt,h2 N (by omega)];rfl
    ·rcases Ajk.1 hp with hp | hp
     ·exact hu p hp
     ·exact hus p hp
theorem MG:∀d,yC (β:=β) (310 * d) (DB d)
 | 0=>fun v h lg e k r hh=>.inl hh
 | d+1=>by
  intro v h lg e k r hh;have ihd:yC (β:=β) (310 * d) (DB d):=MG d;have one:∀{w:FV},(∀N,C8 (N+1) v=.ret (w,[]))->k w [] lg=some r->e=some r\/∃x u lg',(∀N,310 * (d+1)<=N->(C8 N v).runLog h lg=some ((x,u),lg'))/\(∀p∈u,∃s,p.1=Ref.own s)/\k x u lg'=some r:=by
   intro w hw hk;refine .inr ⟨w,[],lg,fun N hN=>?_,fun p hp=>(by cases hp),hk⟩;cases N with
   | zero=>omega
   | succ N=>rw [hw];rfl
  have own:∀{q:Ref} {e:Option β} {k:Nat->Option β},Tj q e k=some r->e=some r\/∃s,q=.own s/\k s=some r:=by
   intro q e k h;cases q with
   | own s=>exact .inr ⟨s,rfl,h⟩
   | ext j=>exact .inl h
  have cnd2:∀{c:Bool} {a e:Option β},cond c a e=some r->e=some r\/(c=true/\a=some r):=by
   intro c a e h;cases c with
   | true=>exact .inr ⟨rfl,h⟩
   | false=>exact .inl h
  cases v with
  | fv w=>exact one (fun _=>rfl) hh
  | nils=>exact one (fun _=>rfl) hh
  | emp=>exact one (fun _=>rfl) hh
  | clip es=>exact one (fun _=>rfl) hh
  | app q es=>exact one (fun _=>rfl) hh
  | dead=>exact .inl hh
  | tuple vs=>exact .inl hh
  | mapr q=>exact .inl hh
  | ptr q off =>
   have hh:(Tj q e fun s=>Dq (.own s) h fun b=>DY b fun cells=>cond (Nat.ble cells.length 300) (CO (DB d) cells h (.own s::lg) e fun cs u lg=>k (.fp cs off) ((.own s,.row cells true)::u) lg) e)=some r:=hh;rcases own hh with h1 | ⟨s,rfl,g'⟩
   ·exact .inl h1
   ·replace hh:=g';clear g';rw [EB] at hh;obtain ⟨b,hb,hh⟩:=BQ hh;obtain ⟨cells,ro,hbb,hh⟩:=Gt hh;rcases cnd2 hh with h1 | ⟨hl,hh⟩
    ·exact .inl h1
    ·have hl:=BF hl;rcases Ih ihd cells _ _ _ _ _ hh with h1 | ⟨xs,us,lg2,h2,hus,hh⟩
     ·exact .inl h1
     ·refine .inr ⟨_,_,_,fun N hN=>?_,fun p hp=>?_,hh⟩
      ·cases N with
       | zero=>omega
       | succ N =>simp only [C8,Rd.runLog,hb,hbb,BT,h2 N (by omega),Ajt]
      ·rcases Ajp.1 hp with rfl | hp
       ·exact ⟨s,rfl⟩
       ·exact hus p hp
  | slc q sz len =>
   have hh:(Tj q e fun s=>Dq (.own s) h fun b=>DY b fun cells=>cond (Nat.ble cells.length 300) (cond (or (Nat.beq sz 0) (not (Nat.ble (len * sz) cells.length))) none
    (CO (DB d) cells h (.own s::lg) e fun cs u lg=>SH sz len cs fun els=>k (.sl els) ((.own s,.row cells true)::u) lg)) e)=some r:=hh
   rcases own hh with h1 | ⟨s,rfl,g'⟩
   ·exact .inl h1
   ·replace hh:=g';clear g';rw [EB] at hh;obtain ⟨b,hb,hh⟩:=BQ hh;obtain ⟨cells,ro,hbb,hh⟩:=Gt hh;rcases cnd2 hh with h1 | ⟨hl,hh⟩
    ·exact .inl h1
    ·have hl:=BF hl;cases hc:(or (Nat.beq sz 0) (not (Nat.ble (len * sz) cells.length))) with
     | true=>rw [hc] at hh;cases hh
     | false =>
      rw [hc] at hh;simp only [cond] at hh;have hc:(Nat.beq sz 0 || !Nat.ble (len * sz) cells.length)=false:=hc;simp only [Bool.or_eq_false_iff,Bool.not_eq_false'] at hc;have c1:sz≠0:=fun e=>by rw [e] at hc;exact absurd hc.1 (by decide)
      have c2:=BF hc.2;rcases Ih ihd cells _ _ _ _ _ hh with h1 | ⟨xs,us,lg2,h2,hus,hh⟩
      ·exact .inl h1
      ·have hh:=aJ sz len _ hh;refine .inr ⟨_,_,_,fun N hN=>?_,fun p hp=>?_,hh⟩
       ·cases N with
        | zero=>omega
        | succ N =>simp only [C8,Rd.runLog,hb,hbb];rw [if_neg (by omega)];simp only [BT,h2 N (by omega),Ajt,Rd.runLog]
       ·rcases Ajp.1 hp with rfl | hp
        ·exact ⟨s,rfl⟩
        ·exact hus p hp
  | agg cs =>
   have hh:cond (Nat.ble cs.length 300) (CO (DB d) cs h lg e fun cs u lg=>k (.agg cs) u lg) e=some r:=hh;rcases cnd2 hh with h1 | ⟨hl,hh⟩
   ·exact .inl h1
   ·have hl:=BF hl;rcases Ih ihd cs _ _ _ _ _ hh with h1 | ⟨xs,us,lg2,h2,hus,hh⟩
    ·exact .inl h1
    ·refine .inr ⟨_,_,_,fun N hN=>?_,hus,hh⟩;cases N with
     | zero=>omega
     | succ N=>simp only [C8,BT,h2 N (by omega),Ajt,Rd.runLog]
  | func fn a b =>
   have hh:cond (and (Nat.ble a.length 300) (Nat.ble b.length 300)) (CO (DB d) a h lg e fun x u lg=>CO (DB d) b h lg e fun y v lg=>Lf u v fun w=>k (.func fn x y) w lg) e=some r:=hh;rcases cnd2 hh with h1 | ⟨hl,hh⟩
   ·exact .inl h1
   ·have hl:(Nat.ble a.length 300 && Nat.ble b.length 300)=true:=hl;simp only [Ajz] at hl;have l1:=BF hl.1;have l2:=BF hl.2;rcases Ih ihd a _ _ _ _ _ hh with h1 | ⟨xs,us,lg2,h2,hus,hh⟩
    ·exact .inl h1
    ·rcases Ih ihd b _ _ _ _ _ hh with h1 | ⟨ys,vs,lg3,h3,hvs,hh⟩
     ·exact .inl h1
     ·rw [TR] at hh;refine .inr ⟨_,_,_,fun N hN=>?_,fun p hp=>?_,hh⟩
      ·cases N with
       | zero=>omega
       | succ N=>simp only [C8,BT,h2 N (by omega),h3 N (by omega),Ajt,Rd.runLog]
      ·rcases Ajk.1 hp with hp | hp
       ·exact hus p hp
       ·exact hvs p hp
def Ku (m:Nat) (l:List Ref):Prop:=∀r∈l,∃j,r=.ext j/\j<m
theorem SO:∀(args:List IV) (keep:List Bool) h lg e k r,Rc (β:=β) args keep h lg e k=some r ->
  e=some r\/∃vs rs us lg',(By keep args).runLog h lg=some ((vs,rs,us),lg')/\(∀p∈us,∃s,p.1=Ref.own s)/\(IV.refs.refsL vs=rs)/\k vs rs us lg'=some r
 | [],keep,h,lg,e,k,r,hh=>.inr ⟨[],[],[],lg,by cases keep<;>rfl,fun p hp=>(by cases hp),rfl,hh⟩
 | x::l,keep,h,lg,e,k,r,hh=>by
  have fz:∀ks,(DB 12 x h lg e fun y u lg=>Rc l ks h lg e fun vs rs us lg=>Lf u us fun w=>k (.fv y::vs) rs w lg)=some r ->
    e=some r\/∃vs rs us lg',((C8 4096 x).bind fun (x,u)=>(By ks l).bind fun (vs,rs,u')=>Rd.ret (IV.fv x::vs,rs,u++u')).runLog h lg=some ((vs,rs,us),lg')/\(∀p∈us,∃s,p.1=Ref.own s)/\(IV.refs.refsL vs=rs)/\k vs rs us lg'=some r:=by
   intro ks hh;rcases MG 12 _ _ _ _ _ _ hh with h1 | ⟨y,u,lg1,h1,hu,hh⟩
   ·exact .inl h1
   ·rcases SO l ks _ _ _ _ _ hh with h2 | ⟨vs,rs,us,lg2,h2,hus,hrs,hh⟩
    ·exact .inl h2
    ·rw [TR] at hh;refine .inr ⟨_,_,_,_,?_,fun p hp=>?_,?_,hh⟩
     ·simp only [BT,h1 4096 (by decide),Ajt,h2,Rd.runLog]
     ·rcases Ajk.1 hp with hp | hp
      ·exact hu p hp
      ·exact hus p hp
     ·simp only [IV.refs.refsL,IV.refs,Ajo,hrs]
  cases keep with
  | nil=>exact fz [] hh
  | cons b ks =>
   cases b with
   | false=>exact fz ks hh
   | true =>
    have hh:(EF x (fun q o=>Rc l ks h lg e fun vs rs us lg=>k (.ptr q o::vs) (q::rs) us lg) fun _ _=>e)=some r:=hh;rcases DE hh with ⟨q,o,hx,hh⟩ | ⟨cs,o,_,hh⟩
    ·rcases SO l ks _ _ _ _ _ hh with h2 | ⟨vs,rs,us,lg2,h2,hus,hrs,hh⟩
     ·exact .inl h2
     ·refine .inr ⟨_,_,_,_,?_,hus,?_,hh⟩
      ·simp only [By,BT,h2,Ajt,Rd.runLog,hx,IV.refs];rfl
      ·simp only [IV.refs.refsL,IV.refs,hrs];rfl
    ·exact .inl hh
mutual
theorem QW:∀(v:IV) (acc:List Ref),RK v acc=v.refs++acc
 | .dead,_=>rfl
 | .fv _,_=>rfl
 | .ptr _ _,_=>rfl
 | .slc _ _ _,_=>rfl
 | .nils,_=>rfl
 | .emp,_=>rfl
 | .clip _,_=>rfl
 | .app _ _,_=>rfl
 | .mapr _,_=>rfl
 | .func _ a b,acc=>by
  show CP a (CP b acc)=(IV.refs.refsL a++IV.refs.refsL b)++acc
  rw [refsDL_eq,refsDL_eq,Ajs]
 | .agg cs,acc=>refsDL_eq cs acc
 | .tuple cs,acc=>refsDL_eq cs acc
theorem refsDL_eq:∀(l:List IV) (acc:List Ref),CP l acc=IV.refs.refsL l++acc
 | [],_=>rfl
 | v::l,acc=>by
  show RK v (CP l acc)=(v.refs++IV.refs.refsL l)++acc
  rw [QW,refsDL_eq,Ajs]
end
theorem I3 (b:Blk):EP b=b.refs:=by
 cases b with
 | row cells ro =>
  show CP cells []=_
  rw [refsDL_eq,Ajm];rfl
 | tok _ _=>rfl
 | map es =>
  show _=IV.refs.refsL (es.map (·.2))
  induction es with
  | nil=>rfl
  | cons p es ih =>
   obtain ⟨n,v⟩:=p
   show RK v (EP (.map es))=v.refs++_
   rw [QW];congr 1
mutual
theorem wX {g:Ref->Option Ref}:∀(v:IV),(∀r∈v.refs,g r=some r)->v.ren g=some v
 | .dead,_=>rfl
 | .fv _,_=>rfl
 | .nils,_=>rfl
 | .emp,_=>rfl
 | .clip _,_=>rfl
 | .ptr r o,h=>by simp only [IV.ren,h r (by simp [IV.refs]),Ai2]
 | .slc r sz n,h=>by simp only [IV.ren,h r (by simp [IV.refs]),Ai2]
 | .app r es,h=>by simp only [IV.ren,h r (by simp [IV.refs]),Ai2]
 | .mapr r,h=>by simp only [IV.ren,h r (by simp [IV.refs]),Ai2]
 | .func fn a b,h=>by
  have h1:=renL_id (g:=g) a (fun r hr=>h r (by simp only [IV.refs,Ajk];exact .inl hr));have h2:=renL_id (g:=g) b (fun r hr=>h r (by simp only [IV.refs,Ajk];exact .inr hr));simp only [IV.ren,h1,h2,Ajt,Ai2]
 | .agg cs,h=>by
  have h1:=renL_id (g:=g) cs h;simp only [IV.ren,h1,Ai2]
 | .tuple cs,h=>by
  have h1:=renL_id (g:=g) cs h;simp only [IV.ren,h1,Ai2]
theorem renL_id {g:Ref->Option Ref}:∀(l:List IV),(∀r∈IV.refs.refsL l,g r=some r)->IV.ren.renL g l=some l
 | [],_=>rfl
 | v::l,h=>by
  have h1:=wX (g:=g) v (fun r hr=>h r (by simp only [IV.refs.refsL,Ajk];exact .inl hr));have h2:=renL_id (g:=g) l (fun r hr=>h r (by simp only [IV.refs.refsL,Ajk];exact .inr hr));simp only [IV.ren.renL,h1,h2,Ajt,Ai2]
end
theorem dM {α γ:Type}:∀(l:List (α×γ)),(l.map (·.1)).zip (l.map (·.2))=l
 | []=>rfl
 | p::l=>by simp only [Ai5,List.zip_cons_cons,dM l]
theorem yE {g:Ref->Option Ref} (b:Blk) (h:∀r∈b.refs,g r=some r):b.ren g=some b:=by
 cases b with
 | row cells ro=>simp only [Blk.ren,renL_id cells h,Ai2]
 | tok _ _=>rfl
 | map es =>have e:=renL_id (g:=g) (es.map (fun p:Int×IV=>p.2)) h;simp only [Blk.ren,e,Ai2,dM]
theorem PM {g:Ref->Option Ref}:∀(l:List Blk),(∀b∈l,∀r∈b.refs,g r=some r)->Bg g l=some l
 | [],_=>rfl
 | b::l,h=>by
  simp only [Bg,yE b (h b Aji),Ajt,PM l (fun c hc=>h c (Ajj _ hc)),Ai2]
def B6:Nat->List Blk->List (Ref×Blk)
 | _,[]=>[]
 | s,b::l=>(.ext s,b)::B6 (s+1) l
theorem OB:∀(s:Nat) (l:List Blk) (b:Blk),B6 s (l++[b])=B6 s l++[(.ext (s+l.length),b)]
 | s,[],b=>rfl
 | s,c::l,b=>by
  simp only [Ajq,B6,OB (s+1) l b,Ai3];rw [show s+1+l.length=s+(l.length+1) by omega]
theorem N6:∀(s:Nat) (l:List Blk),(B6 s l).map (·.2)=l
 | _,[]=>rfl
 | s,b::l=>by simp only [B6,Ai5,N6 (s+1) l]
theorem KA:∀(s:Nat) (l:List Blk),(B6 s l).length=l.length
 | _,[]=>rfl
 | s,b::l=>by simp only [B6,Ai3,KA (s+1) l]
theorem KH:∀(s j:Nat) (l:List Blk),s<=j->hasRef (.ext j) (B6 s l)=decide (j<s+l.length)
 | s,j,[],h=>by simp only [B6,hasRef,Ajh];rw [decide_eq_false (by omega)]
 | s,j,b::l,h=>by
  simp only [B6,hasRef,Ai3];by_cases e:j=s
  ·subst e;simp
  ·rw [KH (s+1) j l (by omega),decide_eq_false (by simp [e]),Bool.false_or];congr 1;exact propext ⟨fun h=>by omega,fun h=>by omega⟩
theorem Oi:∀(s k:Nat) (l:List Blk),hasRef (.own k) (B6 s l)=false
 | _,_,[]=>rfl
 | s,k,b::l=>by simp only [B6,hasRef,Oi (s+1) k l,Bool.or_false];exact decide_eq_false (by simp)
theorem K9:∀(s j i:Nat) (l:List Blk),s<=j->j<s+l.length->Cs (.ext j) (B6 s l) i=some (i+(j - s))
 | s,j,i,[],h1,h2=>by simp at h2;omega
 | s,j,i,b::l,h1,h2=>by
  simp only [Ai3] at h2;simp only [B6,Cs];by_cases e:j=s
  ·subst e;simp
  ·rw [if_neg (by simp [e]),K9 (s+1) j (i+1) l (by omega) (by omega)];congr 1;omega
theorem NV:∀(s j:Nat) (l:List Blk),j<l.length->((B6 s l)[j]?).map (·.1)=some (.ext (s+j))
 | s,j,[],h=>by simp at h
 | s,0,b::l,h=>rfl
 | s,j+1,b::l,h=>by
  simp only [Ai3] at h;simp only [B6,Ajc];rw [NV (s+1) j l (by omega)];congr 2;omega
theorem TZ (s:Nat):∀(l:List Blk),BB (B6 s l)=(List.range' s l.length).map .ext:=by
 intro l
 induction l generalizing s with
 | nil=>rfl
 | cons b l ih=>simp only [B6,BB,Ai5,Ai3,List.range'_succ];exact congrArg _ (ih (s+1))
theorem wU {own:List (Nat×Blk)} {ext:List Blk}:∀(n:Nat) (todo:List Ref) (s:Nat) (rest:List Blk),s<=ext.length->ext.drop s=rest->Nt n todo s rest=true ->
  (∀N,n<=N->∀lg,(B4 N todo (B6 0 (ext.take s))).runLog ⟨own,ext⟩ lg=some (B6 0 ext,((List.range' s (ext.length - s)).map Ref.ext).reverse++lg)) /\
  Ku ext.length todo/\(∀b∈rest,Ku ext.length b.refs):=by
 intro n
 induction n with
 | zero=>intro todo s rest _ _ h;cases h
 | succ n ih =>
  intro todo s rest hs hd h;cases todo with
  | nil =>
   cases rest with
   | cons _ _=>cases h
   | nil =>
    have he:s=ext.length:=by
     have:=congrArg List.length hd
     simp at this;omega
    refine ⟨fun N hN lg=>?_,fun r hr=>(by cases hr),fun b hb=>(by cases hb)⟩;cases N with
    | zero=>omega
    | succ N =>subst he;simp only [B4,Rd.runLog,List.take_length,Nat.sub_self,List.range'_zero,Ai4,List.reverse_nil,Ajo]
  | cons r t =>
   cases r with
   | own k=>cases h
   | ext j =>
    have h:cond (Nat.ble (Nat.succ j) s) (Nt n t s rest) (cond (Nat.beq j s) (goR (Nt n) t s rest) false)=true:=h;have hl:(ext.take s).length=s:=by simp;omega
    cases hj:Nat.ble (Nat.succ j) s with
    | true =>
     rw [hj] at h;have hj:=BF hj;obtain ⟨h1,h2,h3⟩:=ih t s rest hs hd h;refine ⟨fun N hN lg=>?_,fun r hr=>?_,h3⟩
     ·cases N with
      | zero=>omega
      | succ N =>simp only [B4];rw [KH 0 j _ (Nat.zero_le _),hl,decide_eq_true (by omega),if_pos rfl];exact h1 N (by omega) lg
     ·rcases Ajp.1 hr with rfl | hr
      ·exact ⟨j,rfl,by omega⟩
      ·exact h2 r hr
    | false =>
     rw [hj] at h;simp only [cond] at h;have hj':¬ j<s:=fun e=>by rw [Nat.ble_eq_true_of_le (Nat.succ_le_of_lt e)] at hj;cases hj
     cases hb:Nat.beq j s with
     | false=>rw [hb] at h;cases h
     | true =>
      rw [hb] at h;have hb:=DJ hb;subst hb;simp only at h;cases rest with
      | nil=>cases h
      | cons b rest =>
       have h:Nt n (t++EP b) (Nat.succ j) rest=true:=h;have hjl:j<ext.length:=by
        have:=congrArg List.length hd
        simp at this;omega
       have hgb:ext[j]?=some b:=by rw [<- List.head?_drop,hd];rfl
       have hd':ext.drop (j+1)=rest:=by rw [<- List.tail_drop,hd];rfl
       obtain ⟨h1,h2,h3⟩:=ih (t++EP b) (j+1) rest (by omega) hd' h;rw [I3] at h1 h2;refine ⟨fun N hN lg=>?_,fun r hr=>?_,fun c hc=>?_⟩
       ·cases N with
        | zero=>omega
        | succ N =>
         simp only [B4];rw [KH 0 j _ (Nat.zero_le _),hl,decide_eq_false (by omega)];simp only [Ajx,if_false,Rd.runLog,Hp.get,hgb];have ht:B6 0 (ext.take j)++[(.ext j,b)]=B6 0 (ext.take (j+1)):=by
          have:ext.take (j+1)=ext.take j++[b]:=by rw [List.take_add_one,hgb];rfl
          rw [this,OB,hl,Ajy]
         rw [ht,h1 N (by omega) (.ext j::lg)];rw [show ext.length - j=(ext.length - (j+1))+1 by omega,List.range'_succ]
         simp
       ·rcases Ajp.1 hr with rfl | hr
        ·exact ⟨j,rfl,hjl⟩
        ·exact h2 r (List.mem_append_left _ hr)
       ·rcases Ajp.1 hc with rfl | hc
        ·exact fun r hr=>h2 r (List.mem_append_right _ hr)
        ·exact h3 c hc
theorem ZW {m:Nat}:∀(l:List Ref),zM m l=true->Ku m l
 | [],_=>fun r hr=>by cases hr
 | .own k::l,h=>by cases h
 | .ext j::l,h=>by
  have h:cond (Nat.ble (Nat.succ j) m) (zM m l) false=true:=h;cases hj:Nat.ble (Nat.succ j) m with
  | false=>rw [hj] at h;cases h
  | true =>
   rw [hj] at h;have hj:=BF hj;intro r hr;rcases Ajp.1 hr with rfl | hr
   ·exact ⟨j,rfl,by omega⟩
   ·exact ZW l h r hr
theorem cU {m:Nat}:∀(l:List Blk),Yl m l=true->∀b∈l,Ku m b.refs
 | [],_=>fun b hb=>by cases hb
 | b::l,h=>by
  have h:cond (zM m (EP b)) (Yl m l) false=true:=h;cases hb:zM m (EP b) with
  | false=>rw [hb] at h;cases h
  | true =>
   rw [hb] at h;rw [I3] at hb;intro c hc;rcases Ajp.1 hc with rfl | hc
   ·exact ZW _ hb
   ·exact cU l h c hc
theorem Qg:∀(u:List (Ref×Blk)) (own:List (Nat×Blk)) (ext ext':List Blk) {k:Hp->Option β} {r:β},Kt u ⟨own,ext'⟩ k=some r ->
  ∃own2,laid ⟨own,ext⟩ u=some ⟨own2,ext⟩/\laid ⟨own,ext'⟩ u=some ⟨own2,ext'⟩/\k ⟨own2,ext'⟩=some r
 | [],own,ext,ext',k,r,h=>⟨own,rfl,rfl,h⟩
 | (q,b)::u,own,ext,ext',k,r,h=>by
  have h:(Tj q none fun s=>Dq (.own s) ⟨own,ext'⟩ fun _=>FH (.own s) b ⟨own,ext'⟩ fun h=>Kt u h k)=some r:=h;cases q with
  | ext j=>cases h
  | own s =>
   have h:(Dq (.own s) ⟨own,ext'⟩ fun _=>FH (.own s) b ⟨own,ext'⟩ fun h=>Kt u h k)=some r:=h;rw [EB] at h;obtain ⟨c,hc,h⟩:=BQ h;rw [JA] at h;obtain ⟨own2,h1,h2,h3⟩:=Qg u (AO s b own) ext ext' h;refine ⟨own2,?_,?_,h3⟩
   ·simp only [laid];rw [show (Hp.mk own ext).get (.own s)=some c from hc]
    exact h1
   ·simp only [laid];rw [hc];exact h2
theorem M8:∀(ext' pre ext:List Blk) (own:List (Nat×Blk)),ext.length=ext'.length->laid ⟨own,pre++ext⟩ (((List.range' pre.length ext'.length).map Ref.ext).zip ext')=some ⟨own,pre++ext'⟩
 | [],pre,ext,own,h=>by
  cases ext with
  | nil=>rfl
  | cons _ _=>cases h
 | b::ext',pre,ext,own,h=>by
  cases ext with
  | nil=>cases h
  | cons c ext =>
   simp only [Ai3,Nat.add_right_cancel_iff] at h;simp only [Ai3,List.range'_succ,Ai5,List.zip_cons_cons,laid,Hp.get];rw [Ai8 (AjA _),Nat.sub_self];simp only [Ajb,Hp.set];have e:(pre++c::ext).set pre.length b=(pre++[b])++ext:=by rw [List.set_append_right _ _ (AjA _),Nat.sub_self];simp
   rw [e]
   have:=M8 ext' (pre++[b]) ext own h
   simp only [Ajg,List.length_singleton] at this;rw [this];simp
theorem Rw:∀(a b:List (Ref×Blk)) (h:Hp),laid h (a++b)=(laid h a).bind fun h=>laid h b
 | [],_,_=>rfl
 | (q,c)::a,b,h=>by
  simp only [Ajq,laid];cases h.get q with
  | none=>rfl
  | some _=>exact Rw a b _
theorem Xu (hi:∀f args h x,ih' f args h=some x->ih f args h=some x) {g:FuncId} {args:List IV} (h:A5 (E.pol.keep g) (E.pol.split g) (E.pol.raw g) ih' g args hp k=some r):Iso E ih g args hp k r:=by
 unfold A5 at h;cases hc:(cond (E.pol.split g) true (E.pol.raw g)) with
 | true=>rw [hc] at h;exact JT hi h
 | false =>
  rw [hc] at h;simp only [cond] at h;have hs:E.pol.split g=false:=by cases e:E.pol.split g with | false=>rfl | true=>rw [e] at hc;cases hc
  rw [hs] at hc;have hr:E.pol.raw g=false:=hc;rcases SO _ _ _ _ _ _ _ h with h1 | ⟨vs,rs,us,lg,hz,hus,hrs,h⟩
  ·exact JT hi h1
  ·cases rs with
   | nil =>
    simp only at h;cases he:ih' g vs ⟨[],[]⟩ with
    | none=>rw [he] at h;cases h
    | some p =>
     obtain ⟨v,⟨own,ext⟩⟩:=p;rw [he] at h;cases ext with
     | cons b ext=>exact absurd (show (none:Option β)=some r from h) (by simp)
     | nil =>
      have h:(DB 12 v ⟨own,[]⟩ [] (Ea (E.pol.keep g) (E.pol.split g) (E.pol.raw g) ih' g args hp k) fun w _ _=>Kt us hp fun h2=>k (.fv w) h2 lg (BB us))=some r:=h;rcases MG 12 _ _ _ _ _ _ h with h1 | ⟨w,u2,lg2,h2,_,h⟩
      ·exact JT hi h1
      ·obtain ⟨own0,ext0⟩:=hp;obtain ⟨own2,l1,l2,h⟩:=Qg us own0 ext0 ext0 h;refine ⟨{ val:=.fv w,upd:=us },lg,⟨own2,ext0⟩,?_,l1,h⟩;have hw:=Fs _ _ _ _ _ (h2 4096 (by decide));have hren:∀q,IV.ren.renL q vs=some vs:=fun q=>renL_id vs (fun r hr=>by rw [hrs] at hr;cases hr);simp only [GK,BT,hz,Ajt,B4,Rd.runLog,hren,Ai4,Bg,asked,hs,Ajx,if_false,hi _ _ _ _ he,HG,hr,hw,Ai2,IV.ren,Rd.of];have hk:(BB us).all (fun r=>!hasRef r [])=true:=Ajl.2 fun r _=>rfl;rw [if_pos ⟨rfl,hk⟩];simp only [Rd.runLog,BB,Ai4,List.zip_nil_left,Ajm]
   | cons q rs =>
    obtain ⟨own0,ext0⟩:=hp;simp only at h;cases hg:Nt 400 (q::rs) 0 ext0 with
    | false=>rw [hg] at h;exact JT hi h
    | true =>
     rw [hg] at h;simp only at h;obtain ⟨g1,g2,g3⟩:=wU (own:=own0) 400 (q::rs) 0 ext0 (Nat.zero_le _) rfl hg;cases he:ih' g vs ⟨[],ext0⟩ with
     | none=>rw [he] at h;cases h
     | some p =>
      obtain ⟨v,⟨own,ext⟩⟩:=p;rw [he] at h;simp only at h;obtain ⟨ho,h⟩:=DF h;have ho:(Nat.beq ext.length ext0.length && Yl ext0.length ext)=true:=ho;simp only [Ajz] at ho;have hlen:=DJ ho.1;have hok:=cU _ ho.2;rcases MG 12 _ _ _ _ _ _ h with h1 | ⟨w,u2,lg2,h2,_,h⟩
      ·exact JT hi h1
      ·obtain ⟨own2,l1,l2,h⟩:=Qg us own0 ext0 ext h;have hw:=Fs _ _ _ _ _ (h2 4096 (by decide));have hin:∀l,Ku ext0.length l->∀r∈l,D6 (B6 0 ext0) r=some r:=by
        intro l hl r hr;obtain ⟨j,rfl,hj⟩:=hl r hr;simp only [D6];rw [K9 0 j 0 ext0 (Nat.zero_le _) (by omega)];simp
       have hbk:∀l,Ku ext0.length l->∀r∈l,CF (B6 0 ext0) r=some r:=by intro l hl r hr;obtain ⟨j,rfl,hj⟩:=hl r hr;simp only [CF];rw [NV 0 j ext0 hj,Ajy]
       have hv:IV.ren.renL (D6 (B6 0 ext0)) vs=some vs:=renL_id vs (fun r hr=>hin _ g2 r (by rw [hrs] at hr;exact hr));have hb1:Bg (D6 (B6 0 ext0)) ext0=some ext0:=PM ext0 (fun b hb r hr=>hin _ (g3 b hb) r hr);have hb2:Bg (CF (B6 0 ext0)) ext=some ext:=PM ext (fun b hb r hr=>hbk _ (hok b hb) r hr);have hkeys:BB (B6 0 ext0)=C3 ext0.length:=by rw [TZ,C3,List.range_eq_range']
       refine ⟨{ val:=.fv w,upd:=us++(BB (B6 0 ext0)).zip ext },(C3 ext0.length).reverse++lg,⟨own2,ext⟩,?_,?_,?_⟩
       ·have hga:=g1 4096 (by decide) lg;simp only [List.take_zero,B6,Nat.sub_zero] at hga;simp only [GK,BT,hz,Ajt,hga,N6,hv,hb1,asked,hs,Ajx,if_false,hi _ _ _ _ he,HG,hr,hw,Ai2,IV.ren,hb2];have hk:(BB us).all (fun r=>!hasRef r (B6 0 ext0))=true:=Ajl.2 fun r hr=>by
         obtain ⟨p,hp,rfl⟩:=List.mem_map.1 hr;obtain ⟨s,e⟩:=hus p hp;rw [e,Oi];rfl
        rw [if_pos ⟨by rw [KA,hlen],hk⟩];simp only [Rd.of,Rd.runLog,C3,List.range_eq_range']
       ·simp only;rw [Rw,l1,Ajt,hkeys,C3,List.range_eq_range',<- hlen];exact M8 ext [] ext0 own2 hlen.symm
       ·have hz2:BB (us++(BB (B6 0 ext0)).zip ext)=BB us++C3 ext0.length:=by
         simp only [BB,List.map_append];congr 1;rw [<- hkeys];exact List.map_fst_zip (by simp only [BB,Ajw,KA];omega)
        simp only [hz2];exact h
def fB (E:Env) (ih:Ah) (f rid i:Nat) (dr:Bool) (slots:List IV) (op:Op) (hp:Hp) (k:KT β) (r:β):Prop :=
 (EC E slots op=none/\Gk E ih f rid i (AG slots) op hp k r) \/
 (dr=false/\FE E op=false/\∃g args v hp',EC E slots op=some (g,args)/\ih g args hp=some (v,hp')/\k v hp' [] []=some r)
theorem QV {g:Operand} {args:Array Operand} {ts:Array TypeId} {h':FuncId} {first cap:List IV} {slots:List IV} (hc:callee (AG slots g)=some (h',first,cap)) (hin:E.pol.inl h'=false)
  (h:Iso E ih h' (first++args.toList.map (AG slots)++cap) hp k r):fB E ih f rid i dr slots (.call ⟨.value g,args,ts⟩) hp k r:=by
 obtain ⟨e,rd,hp',h1,h2,h3⟩:=h;refine .inl ⟨?_,e.val,hp',rd,BB e.upd,⟨{ eff:=e },?_,?_,rfl,?_⟩,h3,fun q=>by cases q⟩
 ·simp only [EC,hc,hin,Ajx,if_false]
 ·simp only [C9,hc,hin,Ajx,if_false,Rd.eff,BT,h1,Ajt,Rd.runLog]
 ·simp only [A4,h2,Ajt,CV]
 ·simp only [H9,Ajm]
theorem yI (hi:∀f args h x,ih' f args h=some x->ih f args h=some x) {slots:List IV} {c:Call} (h:Ik E ih' f rid i dr (AG slots) (.call c) hp k=some r):fB E ih f rid i dr slots (.call c) hp k r:=by
 obtain ⟨cl,args,ts⟩:=c;simp only [Ik,B0] at h;cases cl with
 | invoke _ _=>cases h
 | builtin b =>
  refine .inl ⟨rfl,?_⟩;simp only [Tw,B0] at h;split at h
  ·rename_i t x hts has;split at h
   ·rename_i e z ht;unfold Bv at h;have hop:C9 E ih f rid i (AG slots) (.call ⟨.builtin .len,args,ts⟩)=AT E (Bt f rid i) (E.pol.rowApp f rid i) .len [t] [AG slots x]:=by
     simp only [C9,hts,has];rfl
    rcases RE h with ⟨q,sz,n,hx,h⟩ | ⟨hx,h⟩
    ·rw [D9] at h;exact Bi (by rw [hop];simp only [AT,ht,hx]) h
    ·rw [UH] at h;obtain ⟨es,he,h⟩:=BQ h;rw [D9] at h;refine Bi (v:=.fv (.int .i64 es.length)) ?_ h;rw [hop];simp only [AT,ht];cases hxx:AG slots x with
     | slc q sz n=>exact absurd hxx (hx q sz n)
     | _=>rw [hxx] at he;simp only [he];rfl
   ·rename_i hn;refine B5 ?_ rfl h;simp only [FE,hts,has]
  ·rename_i b0 b1 ts1 args1 hn;refine B5 ?_ rfl h;cases b0 with
   | len =>
    simp only [FE];split
    ·rename_i hts has;exact absurd has (hn _ _ rfl hts)
    ·rfl
   | _=>rfl
 | value g =>
  simp only [Tw,B0] at h;split at h
  ·rename_i g;have hc:callee (AG slots (.func g))=some (g,[],[]):=rfl;cases hin:E.pol.inl g with
   | true =>
    rw [hin] at h;cases dr with
    | true=>cases h
    | false =>
     simp only [cond,aZ] at h;cases he:ih' g (args.toList.map (AG slots)) hp with
     | none=>rw [he] at h;cases h
     | some p =>obtain ⟨v,hp'⟩:=p;rw [he] at h;refine .inr ⟨rfl,rfl,g,args.toList.map (AG slots),v,hp',?_,hi _ _ _ _ he,h⟩;simp only [EC,hc,hin,if_true,Ajo,Ajm]
   | false =>rw [hin] at h;refine QV hc hin ?_;simp only [Ajo,Ajm];exact Xu hi h
  ·unfold CN at h;split at h
   ·cases h
   ·rename_i h' first cap hc
    cases hin:E.pol.inl h' with
    | true=>rw [hin] at h;cases h
    | false =>rw [hin] at h;simp only [cond,HA] at h;exact QV hc hin (Xu hi h)
theorem xA (hi:∀f args h x,ih' f args h=some x->ih f args h=some x) {slots:List IV} {op:Op} (h:Ik E ih' f rid i dr (AG slots) op hp k=some r):fB E ih f rid i dr slots op hp k r:=by
 cases op with
 | call c=>exact yI hi h
 | move x=>exact .inl ⟨rfl,Bi rfl h⟩
 | assign x=>exact .inl ⟨rfl,Bi rfl h⟩
 | pick c a b=>exact .inl ⟨rfl,u7 h⟩
 | alloc t =>
  refine .inl ⟨rfl,?_⟩;simp only [Ik,B0] at h;cases ht:E.T t with
  | none=>rw [ht] at h;cases h
  | some ti=>rw [ht] at h;exact Rt rfl (by simp only [C9,ht]) h
 | box t x=>exact .inl ⟨rfl,Ach h⟩
 | build t ps=>exact .inl ⟨rfl,mK h⟩
 | load t a=>exact .inl ⟨rfl,sY h⟩
 | store t a x=>exact .inl ⟨rfl,lX h⟩
 | nilCheck x=>exact .inl ⟨rfl,AaU h⟩
 | binOp o t x y yt =>refine .inl ⟨rfl,?_⟩;simp only [Ik,B0] at h;obtain ⟨v,h1,h2⟩:=YM h;exact Bi (by simp only [C9,h1];rfl) h2
 | unOp o t x =>refine .inl ⟨rfl,?_⟩;simp only [Ik,CJ] at h;exact Ol rfl h
 | convert s d x=>exact .inl ⟨rfl,X5 h⟩
 | fieldAddr s x fd=>exact .inl ⟨rfl,Sn h⟩
 | field s x fd=>exact .inl ⟨rfl,lP h⟩
 | indexAddr t x ix=>exact .inl ⟨rfl,Rl h⟩
 | index t x ix=>exact .inl ⟨rfl,mM h⟩
 | extract x ix=>exact .inl ⟨rfl,YC h⟩
 | makeMap t n=>cases n with
  | none=>exact .inl ⟨rfl,B5 rfl rfl h⟩
  | some _=>cases h
 | buildSlice t n ps=>exact .inl ⟨rfl,B5 rfl rfl h⟩
 | makeFunc fn a b=>exact .inl ⟨rfl,B5 rfl rfl h⟩
 | insert t m j x=>exact .inl ⟨rfl,B5 rfl rfl h⟩
 | mapUpdate t m j x=>exact .inl ⟨rfl,B5 rfl rfl h⟩
 | lookup t m j ok=>exact .inl ⟨rfl,B5 rfl rfl h⟩
 | makeSlice t l c=>exact .inl ⟨rfl,B5 rfl rfl h⟩
 | slice t x lo hi mx=>exact .inl ⟨rfl,B5 rfl rfl h⟩
 | _=>cases h
end
end Idl
end Go.Proofs.YtnenpcghegcnhaaGreat
namespace Go.Proofs.YtnenpcghegcnhaaGreat
namespace Idl
section
variable {β:Type}
def BG (k:Nat) (F:(List IV->Hp->Option β)->List IV->Hp->Option β):List IV->Hp->Option β :=Nat.rec (motive:=fun _=>List IV->Hp->Option β) (fun _ _=>none) (fun _ rec=>F rec) k
def Lm (s:Nat) (l:List Nat):Bool:=List.rec (motive:=fun _=>Bool) false (fun x _ ih=>cond (Nat.beq s x) true ih) l
def Fr (rm:List Nat) (l:List Ref):Bool:=List.rec (motive:=fun _=>Bool) true (fun r _ ih=>match r with
 | .own s=>cond (Lm s rm) false ih
 | .ext _=>ih) l
def Hv (rm:List Nat) (own:List (Nat×Blk)):Bool:=List.rec (motive:=fun _=>Bool) true (fun p _ ih=>match p with
 | (s,b)=>cond (Lm s rm) ih (cond (Fr rm (EP b)) ih false)) own
def Iu (rm:List Nat) (ext:List Blk):Bool:=List.rec (motive:=fun _=>Bool) true (fun b _ ih=>cond (Fr rm (EP b)) ih false) ext
def kF (rm:List Nat) (own:List (Nat×Blk)):Bool:=List.rec (motive:=fun _=>Bool) false (fun p _ ih=>match p with
 | (s,_)=>cond (Lm s rm) true ih) own
def RN (rm:List Nat) (own:List (Nat×Blk)) (k:List (Nat×Blk)->Option β):Option β :=
 List.rec (motive:=fun _=>(List (Nat×Blk)->Option β)->Option β) (fun k=>k []) (fun p _ ih k=>match p with
  | (s,b)=>cond (Lm s rm) (ih k) (ih fun l=>k ((s,b)::l))) own k
def Bm (base rm:List Nat) (vals:List IV) (h:Hp) (k:Hp->Option β):Option β :=
 cond (
    rm.any base.contains) none (match h with
  | ⟨own,ext⟩=>cond (kF rm own)
   (cond (and (Fr rm (CP vals [])) (and (Hv rm own) (Iu rm ext))) (RN rm own fun own=>k ⟨own,ext⟩)
    (match CR base [] rm ⟨vals,⟨own,ext⟩⟩ with
     | none=>none
     | some S=>fH S.hp k)) (k ⟨own,ext⟩))
def Pp (d:Option Nat) (v:IV) (h:Hp) (T:FS):FS:=match d with
 | none=>⟨T.n,T.t,h⟩
 | some d=>cond (Nat.ble T.n d) ⟨T.n,T.t,h⟩ ⟨T.n,T.t.set d v,h⟩
abbrev SlT.setKK {α:Type} (t:SlT):Nat->IV->(SlT->α)->α :=
 SlT.rec (motive:=fun _=>Nat->IV->(SlT->α)->α) (fun j v i x k=>Bool.rec (motive:=fun _=>α) (k (.leaf j v)) (k (.leaf j x)) (Nat.beq i j))
  (fun m l r gl gr i x k=>Bool.rec (motive:=fun _=>α) (gl i x fun l'=>k (.node m l' r)) (gr i x fun r'=>k (.node m l r')) (Nat.ble m i)) t
abbrev Jk (d:Option Nat) (v:IV) (h:Hp) (T:FS) (K:FS->Option β):Option β :=FS.rec (motive:=fun _=>Option β) (fun n t _=>Option.rec (motive:=fun _=>Option β) (K ⟨n,t,h⟩) (fun d=>RL (Nat.ble n d) (K ⟨n,t,h⟩) (t.setKK d v fun t=>K ⟨n,t,h⟩)) d) T
abbrev Ue (args:List IV):Nat->FS->(FS->Option β)->Option β :=List.rec (motive:=fun _=>Nat->FS->(FS->Option β)->Option β) (fun _ T K=>K T) (fun v _ ih i T K=>Jk (some i) v T.hp T fun T=>ih (Nat.succ i) T K) args
abbrev R4 (cs:List Nat):List IV->FS->(FS->Option β)->Option β :=List.rec (motive:=fun _=>List IV->FS->(FS->Option β)->Option β) (fun _ T k=>k T) (fun c _ ih vals T k=>Ay vals fun v vals=>Jk (some c) v T.hp T fun T=>ih vals T k) cs
def Lc (r s:Ref):Bool:=match r with
 | .own i=>(match s with
  | .own j=>not (Nat.beq i j)
  | .ext _=>true)
 | .ext i=>(match s with
  | .own _=>true
  | .ext j=>not (Nat.beq i j))
def Jq (r:Ref) (l:List Ref):Bool:=List.rec (motive:=fun _=>Bool) true (fun s _ ih=>cond (Lc r s) ih false) l
def SB (a b:List Ref):Bool:=List.rec (motive:=fun _=>Bool) true (fun r _ ih=>cond (Jq r b) ih false) a
theorem bD (r s:Ref):Lc r s=decide (r≠s):=by cases r<;>cases s<;>simp [Lc,HP]
theorem Si (r:Ref):∀(l:List Ref),Jq r l=l.all fun s=>decide (r≠s)
 | []=>rfl
 | s::l=>by
  rw [show Jq r (s::l)=cond (Lc r s) (Jq r l) false from rfl,bD,Si r l,List.all_cons]
  cases decide (r≠s)<;>rfl
theorem eF:∀(a b:List Ref),SB a b=Nd a b
 | [],_=>rfl
 | r::a,b=>by
  rw [show SB (r::a) b=cond (Jq r b) (SB a b) false from rfl,Si,eF a b]
  simp only [Nd,List.all_cons];cases (b.all fun s=>decide (r≠s))<;>rfl
def Aa (l:List (List Ref×List Ref)) (rd wr:List Ref) (a:Option β):Option β :=
 List.rec (motive:=fun _=>Option β) a (fun q _ ih=>match q with
  | (q1,q2)=>cond (SB q2 rd) (cond (SB q2 wr) (cond (SB wr q1) ih none) none) none) l
def RW (before:Nat) (done:List (Nat×List Ref×List Ref)):List (List Ref×List Ref) :=List.rec (motive:=fun _=>List (List Ref×List Ref)) [] (fun p _ ih=>match p with | (j,q)=>cond (before.testBit j) ih (q::ih)) done
section
variable (E:Env) (ih:Ah)
def Lb (f rid:Nat) (ops:Array Oper) (i:Nat) (o:Oper) (dr:Bool) (T:FS) (K:FS->List Ref->List Ref->Option β):Option β :=
 match o.guard with
 | none=>Ik E ih f rid i dr (Ha T) o.op T.hp fun v h rd wr=>Jk o.dst v h T fun T=>K T rd wr
 | some (j,want)=>match (ops[j]?).bind (·.dst) with
  | none=>none
  | some d=>RL (Nat.ble T.n d) none
   (Ad (T.get d) want T.hp (fun k=>Ik E ih f rid i dr (Ha T) o.op T.hp k) fun v h rd wr=>Jk o.dst v h T fun T=>K T rd wr)
def vB (f rid:Nat) (ops:Array Oper) (l:List Oper):Nat->FS->(FS->Option β)->Option β :=List.rec (motive:=fun _=>Nat->FS->(FS->Option β)->Option β) (fun _ T K=>K T) (fun o _ rec i T K=>Lb E ih f rid ops i o false T fun T _ _=>rec (Nat.succ i) T K) l
def U2 (f rid:Nat) (ops:Array Oper) (before:Array Nat) (l:List Oper):Nat->List (Nat×List Ref×List Ref)->FS->(FS->Option β)->Option β :=
 List.rec (motive:=fun _=>Nat->List (Nat×List Ref×List Ref)->FS->(FS->Option β)->Option β) (fun _ _ T K=>K T)
  (fun o _ rec i done T K=>RL (FE E o.op) (Lb E ih f rid ops i o true T fun T _ _=>rec (Nat.succ i) done T K)
   (Lb E ih f rid ops i o true T fun T rd wr=>Aa (RW (before.getD i 0) done) rd wr (rec (Nat.succ i) ((i,rd,wr)::done) T K))) l
def C6 (n:Nat) (kills:List Nat):List Nat:=(List.range n).filter fun i=>!kills.contains i
def N7 (base kills rm:List Nat) (T:FS) (k:List IV->Hp->Option β):Option β :=
 match rm with
 | []=>k ((C6 T.n kills).map T.get) T.hp
 | r::rm=>Bm base (r::rm) ((C6 T.n kills).map T.get) T.hp fun h=>k ((C6 T.n kills).map T.get) h
def Fo (f n:Nat) (base:List Nat):Code->FS->(Ex->FS->Option β)->Option β
 | .skip,T,K=>K .normal T
 | .region rid ops draw,T,K=>RL draw (U2 E ih f rid ops (Region.before ops) ops.toList 0 [] T fun T=>K .normal T) (vB E ih f rid ops ops.toList 0 T fun T=>K .normal T)
 | .seq a b,T,K=>Fo f n base a T fun ex T=>match ex with
  | .normal=>Fo f n base b T K
  | .exit j=>K (.exit j) T
  | .ret=>K .ret T
 | .cond c a b,T,K=>Ai (Ha T c) (Fo f n base a T K) (Fo f n base b T K)
 | .block id c,T,K=>Fo f n base c T fun ex T=>match ex with
  | .normal=>K .normal T
  | .exit j=>RL (Nat.beq j id) (K .normal T) (K (.exit j) T)
  | .ret=>K .ret T
 | .loop c,T,K=>N7 base (E.pol.head f (Cn c)).1 (E.pol.head f (Cn c)).2 T (BG n fun rec vals h =>
   R4 (C6 T.n (E.pol.head f (Cn c)).1) vals ⟨T.n,dT 10 0 T.n,h⟩ fun T=>Fo f n base c T fun ex T=>match ex with
    | .normal=>N7 base (E.pol.head f (Cn c)).1 (E.pol.head f (Cn c)).2 T rec
    | .exit j=>K (.exit j) T
    | .ret=>K .ret T)
 | .exit id,T,K=>K (.exit id) T
 | .ret,T,K=>K .ret T
 | _,_,_=>none
def An (agg:Bool) (size:Nat) (a:IV) (h:Hp) (k:IV->Option β):Option β :=cond agg (Ae size a h fun v _=>k v) (Ag a h fun v _=>k v)
def YF (T:FS) (rs:List ResultVar):List IV->(List IV->Option β)->Option β :=
 List.rec (motive:=fun _=>List IV->(List IV->Option β)->Option β) (fun acc k=>k acc) (fun v _ rec acc k=>match v with
  | .tmp t=>rec (acc++[T.get t]) k
  | .cell a t=>match E.T t with
   | none=>none
   | some ti=>An ti.kind.isAgg ti.size (T.get a) T.hp fun v=>rec (acc++[v]) k) rs
def Aj (vs:List IV) (h:Hp):Option (IV×Hp):=match vs with
 | [v]=>some (v,h)
 | vs=>T7 vs fun v=>some (v,h)
def IF (FT:Nat->Option Func) (n f:Nat) (args:List IV) (h:Hp):Option (IV×Hp):=match FT f with
 | none=>none
 | some fn=>match fn.body with
  | none=>none
  | some c=>RL (Nat.ble args.length fn.ntmps && Nat.ble fn.ntmps 1024)
   (Ue args 0 ⟨fn.ntmps,dT 10 0 fn.ntmps,h⟩ fun T=>Fo E ih f n (h.own.map (·.1)) c T fun ex T=>match ex with
    | .exit _=>none
    | .normal=>YF E T fn.results.toList [] fun vs=>Aj vs T.hp
    | .ret=>YF E T fn.results.toList [] fun vs=>Aj vs T.hp) none
end
end
end Idl
end Go.Proofs.YtnenpcghegcnhaaGreat
set_option linter.unusedSimpArgs false
namespace Go.Proofs.YtnenpcghegcnhaaGreat
namespace Idl
section
variable {β:Type} {E:Env} {ih ih':Ah} {f rid:Nat} {r:β}
theorem Pv (d:Option Nat) (v:IV) (h:Hp) (T:FS):Pp d v h T=PZ d v ⟨T.n,T.t,h⟩:=by cases d<;>rfl
theorem SM (d:Option Nat) (v:IV) (h:Hp) (T:FS):(Pp d v h T).n=T.n:=by
 cases d with
 | none=>rfl
 | some d =>
  show (cond (Nat.ble T.n d) (FS.mk T.n T.t h) ⟨T.n,T.t.set d v,h⟩).n=T.n
  cases Nat.ble T.n d<;>rfl
theorem gZ {α:Type} (t:SlT) (i:Nat) (x:IV) (k:SlT->α):t.setKK i x k=k (t.set i x):=by
 refine Eq.trans ?_ (Uz t i x k)
 induction t generalizing k with
 | leaf j v =>
  show Bool.rec (k (.leaf j v)) (k (.leaf j x)) (Nat.beq i j)=cond (Nat.beq i j) (k (.leaf j x)) (k (.leaf j v))
  cases Nat.beq i j<;>rfl
 | node m l r ihl ihr =>
  show Bool.rec (l.setKK i x fun l'=>k (.node m l' r)) (r.setKK i x fun r'=>k (.node m l r')) (Nat.ble m i)=cond (Nat.ble m i) (r.setK i x fun r'=>k (.node m l r')) (l.setK i x fun l'=>k (.node m l' r))
  cases Nat.ble m i
  ·exact ihl _
  ·exact ihr _
theorem L7 (d:Option Nat) (v:IV) (h:Hp) (T:FS) (K:FS->Option β):Jk d v h T K=K (Pp d v h T):=by
 obtain ⟨n,t,h0⟩:=T;cases d with
 | none=>rfl
 | some d =>
  show RL (Nat.ble n d) (K ⟨n,t,h⟩) (t.setKK d v fun t=>K ⟨n,t,h⟩)=K (cond (Nat.ble n d) ⟨n,t,h⟩ ⟨n,t.set d v,h⟩)
  rw [B0];cases Nat.ble n d
  ·simp only [cond];rw [gZ]
  ·rfl
theorem Oc:∀(args:List IV) (i:Nat) (T:FS) (K:FS->Option β),Ue args i T K=VJ args i T K
 | [],_,_,_=>rfl
 | v::l,i,T,K=>by
  show Jk (some i) v T.hp T (fun T=>Ue l (Nat.succ i) T K)=Zu (some i) v T fun T=>VJ l (Nat.succ i) T K
  rw [L7,Xy,Pv,Oc l]
theorem L4 {T:FS} {S:St} (hr:Rep T S) (d:Option Nat) (v:IV) (h:Hp):Rep (Pp d v h T) ⟨Ch d v S.slots,h⟩:=by rw [Pv];exact Xc (T:=⟨T.n,T.t,h⟩) (S:=⟨S.slots,h⟩) ⟨rfl,hr.len,hr.has,hr.get⟩ d v
theorem MS (hi:∀f args h x,ih' f args h=some x->ih f args h=some x) {ops:Array Oper} {i:Nat} {o:Oper} (ho:ops[i]?=some o) {dr:Bool} {T:FS} {S:St} (hr:Rep T S)
  {K:FS->List Ref->List Ref->Option β} (h:Lb E ih' f rid ops i o dr T K=some r) :
  ∃S' T' rd wr,step E ih f rid ops i S=some S'/\(dr=true->Ka E ih f rid ops i S=some (S',rd,wr))/\Rep T' S'/\T'.n=T.n/\K T' rd wr=some r/\(FE E o.op=true->rd=[]/\wr=[]):=by
 have done:Dl ops S.slots o=some true->Ik E ih' f rid i dr (Ha T) o.op T.hp (fun v h rd wr=>K (Pp o.dst v h T) rd wr)=some r ->
   ∃S' T' rd wr,step E ih f rid ops i S=some S'/\(dr=true->Ka E ih f rid ops i S=some (S',rd,wr))/\Rep T' S'/\T'.n=T.n/\K T' rd wr=some r/\(FE E o.op=true->rd=[]/\wr=[]):=by
  intro hw h;rw [K7 hr,<- hr.hp] at h;rcases xA hi h with ⟨hin,v,hp',rd,wr,⟨m,hm,hh,hv,hwr⟩,hk,hq⟩ | ⟨hdr,hq,g,args,v,hp',hin,he,hk⟩
  ·have ha:Eh (Bt f rid i) o.dst S m=some ⟨Ch o.dst v S.slots,hp'⟩:=by simp only [Eh,hh,Ai2,hv]
   refine ⟨⟨Ch o.dst v S.slots,hp'⟩,Pp o.dst v hp' T,rd,wr,?_,fun _=>?_,L4 hr o.dst v hp',SM ..,hk,hq⟩
   ·simp only [step,ho,hw,hin,Eb];rw [Fs _ _ _ _ _ hm];exact ha
   ·simp only [Ka,ho,hw,hin,Eb,hm,ha,Ai2,hwr,H9];rfl
  ·refine ⟨⟨Ch o.dst v S.slots,hp'⟩,Pp o.dst v hp' T,[],[],?_,fun e=>(by rw [hdr] at e;cases e),L4 hr o.dst v hp',SM ..,hk,fun q=>by rw [hq] at q;cases q⟩;simp only [step,ho,hw,hin,he,Ai2]
 have skip:Dl ops S.slots o=some false->K (Pp o.dst FC T.hp T) [] []=some r ->
   ∃S' T' rd wr,step E ih f rid ops i S=some S'/\(dr=true->Ka E ih f rid ops i S=some (S',rd,wr))/\Rep T' S'/\T'.n=T.n/\K T' rd wr=some r/\(FE E o.op=true->rd=[]/\wr=[]):=by
  intro hw h;refine ⟨_,_,[],[],?_,fun _=>?_,L4 hr o.dst FC T.hp,SM ..,h,fun _=>⟨rfl,rfl⟩⟩
  ·simp only [step,ho,hw,<- hr.hp]
  ·simp only [Ka,ho,hw,<- hr.hp]
 unfold Lb at h;have eK:(fun (v:IV) (h:Hp) (rd wr:List Ref)=>Jk o.dst v h T fun T=>K T rd wr)=fun v h rd wr=>K (Pp o.dst v h T) rd wr:=by
  funext v h rd wr
  exact L7 o.dst v h T fun T=>K T rd wr
 rw [eK] at h;simp only [B0] at h;cases hg:o.guard with
 | none =>rw [hg] at h;exact done (by simp only [Dl,hg]) h
 | some jw =>
  obtain ⟨j,want⟩:=jw;rw [hg] at h;simp only at h;cases hd:(ops[j]?).bind (·.dst) with
  | none=>rw [hd] at h;cases h
  | some d =>
   rw [hd] at h;simp only at h;cases hb:Nat.ble T.n d with
   | true=>rw [hb] at h;cases h
   | false =>
    rw [hb] at h;simp only [cond] at h;have hdn:d<T.n:=Nat.lt_of_not_le fun h=>by rw [Nat.ble_eq_true_of_le h] at hb;cases hb
    have hs:S.slots[d]?=some (T.get d):=by rw [hr.at_,Ajf,Ai6 (by rw [hr.len];exact hdn)];rfl
    have hw:Dl ops S.slots o=match T.get d with
      | .fv (.bool b)=>some (b == want)
      | .fv (.tuple [])=>some false
      | _=>none:=by
     simp only [Dl,hg,hd,Ajt,hs];generalize T.get d=v;split
     ·rename_i e;simp only [AiZ] at e;subst e;rfl
     ·rename_i e;simp only [AiZ] at e;subst e;rfl
     ·rename_i h1 h2;split
      ·exact absurd rfl (h1 _)
      ·exact absurd rfl h2
      ·rfl
    unfold Ad at h;rcases LV h with ⟨v,hv,h⟩ | h
    ·rw [hv] at hw;unfold Zq at h;split at h
     ·rename_i b;have e:(b == want)=(cond want b (not b)):=by cases b<;>cases want<;>rfl
      cases hc:(cond want b (not b)) with
      | true =>rw [hc] at h;exact done (by rw [hw];simp only [e,hc]) h
      | false =>rw [hc] at h;exact skip (by rw [hw];simp only [e,hc]) h
     ·rename_i l;cases l with
      | nil=>exact skip hw h
      | cons _ _=>cases h
     ·cases h
    ·cases h
theorem iY (hi:∀f args h x,ih' f args h=some x->ih f args h=some x) {ops:Array Oper}:∀(l:List Oper) (i:Nat),ops.toList.drop i=l->∀{T:FS} {S:St},Rep T S->∀{K:FS->Option β},vB E ih' f rid ops l i T K=some r ->
  ∃S' T',IE E ih f rid ops (List.range' i l.length) S=some S'/\Rep T' S'/\T'.n=T.n/\K T'=some r:=by
 intro l
 induction l with
 | nil=>intro i _ T S hr K h;exact ⟨S,T,rfl,hr,rfl,h⟩
 | cons o l ihl =>
  intro i hd T S hr K h;have ho:ops[i]?=some o:=by
   have:ops.toList[i]?=some o:=by rw [<- List.head?_drop,hd];rfl
   simpa using this
  have hd':ops.toList.drop (i+1)=l:=by rw [<- List.tail_drop,hd];rfl
  have h:Lb E ih' f rid ops i o false T (fun T _ _=>vB E ih' f rid ops l (Nat.succ i) T K)=some r:=h;obtain ⟨S1,T1,rd,wr,h1,_,h2,hn,h3,_⟩:=MS hi ho hr h;obtain ⟨S',T',h4,h5,hn2,h6⟩:=ihl (i+1) hd' h2 h3;refine ⟨S',T',?_,h5,hn2.trans hn,h6⟩;rw [Ai3,List.range'_succ];simp only [IE,h1,Ajt];exact h4
theorem nZ {l:List (List Ref×List Ref)} {rd wr:List Ref} {a:Option β} (h:Aa l rd wr a=some r):(∀q∈l,clash q (rd,wr)=true)/\a=some r:=by
 induction l with
 | nil=>exact ⟨fun q hq=>(by cases hq),h⟩
 | cons p l ih =>
  obtain ⟨q1,q2⟩:=p;have h:cond (SB q2 rd) (cond (SB q2 wr) (cond (SB wr q1) (Aa l rd wr a) none) none) none=some r:=h;obtain ⟨h1,h⟩:=DF h;obtain ⟨h2,h⟩:=DF h;obtain ⟨h3,h⟩:=DF h;rw [eF] at h1 h2 h3;obtain ⟨h4,h5⟩:=ih h;refine ⟨fun q hq=>?_,h5⟩;rcases Ajp.1 hq with rfl | hq
  ·simp only [clash,h1,h2,h3,Bool.and_self]
  ·exact h4 q hq
theorem Yg {b:Nat} {done:List (Nat×List Ref×List Ref)} {j:Nat} {q:List Ref×List Ref} (h:(j,q)∈done) (hj:b.testBit j=false):q∈RW b done:=by
 induction done with
 | nil=>cases h
 | cons p l ih =>
  obtain ⟨j',q'⟩:=p
  show q∈cond (b.testBit j') (RW b l) (q'::RW b l)
  rcases Ajp.1 h with e | h
  ·simp only [Ai0] at e;obtain ⟨rfl,rfl⟩:=e;rw [hj];exact Aji
  ·cases b.testBit j' with
   | true=>exact ih h
   | false=>exact Ajj _ (ih h)
theorem gX (hi:∀f args h x,ih' f args h=some x->ih f args h=some x) {ops:Array Oper} {before:Array Nat}:∀(l:List Oper) (i:Nat),ops.toList.drop i=l->∀{T:FS} {S:St} (done full:List (Nat×List Ref×List Ref)),
  (∀x∈full,x.2=([],[])\/x∈done)->Rep T S->∀{K:FS->Option β},U2 E ih' f rid ops before l i done T K=some r ->
  ∃S' T',E7 E ih f rid ops before (List.range' i l.length) full S=some S'/\Rep T' S'/\T'.n=T.n/\K T'=some r:=by
 intro l
 induction l with
 | nil=>intro i _ T S done full _ hr K h;exact ⟨S,T,rfl,hr,rfl,h⟩
 | cons o l ihl =>
  intro i hd T S done full hf hr K h;have ho:ops[i]?=some o:=by
   have:ops.toList[i]?=some o:=by rw [<- List.head?_drop,hd];rfl
   simpa using this
  have hd':ops.toList.drop (i+1)=l:=by rw [<- List.tail_drop,hd];rfl
  have h:RL (FE E o.op) (Lb E ih' f rid ops i o true T fun T _ _=>U2 E ih' f rid ops before l (Nat.succ i) done T K)
   (Lb E ih' f rid ops i o true T fun T rd wr=>Aa (RW (before.getD i 0) done) rd wr (U2 E ih' f rid ops before l (Nat.succ i) ((i,rd,wr)::done) T K))=some r:=h
  rw [B0] at h;rw [Ai3,List.range'_succ];cases hq:FE E o.op with
  | true =>
   rw [hq] at h;simp only [cond] at h;obtain ⟨S1,T1,rd,wr,_,h1,h2,hn,h3,h4⟩:=MS hi ho hr h;have h1:=h1 rfl;obtain ⟨rfl,rfl⟩:=h4 hq;obtain ⟨S',T',h4,h5,hn2,h6⟩:=ihl (i+1) hd' done ((i,[],[])::full) (fun x hx=>by
    rcases Ajp.1 hx with rfl | hx
    ·exact .inl rfl
    ·exact hf x hx) h2 h3
   refine ⟨S',T',?_,h5,hn2.trans hn,h6⟩;simp only [E7,h1]
   have:(full.all fun x=>(before.getD i 0).testBit x.1 || clash x.2 ([],[]))=true:=Ajl.2 fun x _=>by rw [XU];simp
   rw [if_pos this];exact h4
  | false =>
   rw [hq] at h;simp only [cond] at h;obtain ⟨S1,T1,rd,wr,_,h1,h2,hn,h3,_⟩:=MS hi ho hr h;have h1:=h1 rfl;obtain ⟨hc,h3⟩:=nZ h3;obtain ⟨S',T',h4,h5,hn2,h6⟩:=ihl (i+1) hd' ((i,rd,wr)::done) ((i,rd,wr)::full) (fun x hx=>by
    rcases Ajp.1 hx with rfl | hx
    ·exact .inr Aji
    ·exact (hf x hx).imp id (Ajj _)) h2 h3
   refine ⟨S',T',?_,h5,hn2.trans hn,h6⟩;simp only [E7,h1]
   have:(full.all fun x=>(before.getD i 0).testBit x.1 || clash x.2 (rd,wr))=true:=Ajl.2 fun x hx=>by
    rcases hf x hx with e | e
    ·rw [e,Yt];simp
    ·cases hb:(before.getD i 0).testBit x.1 with
     | true=>rfl
     | false=>rw [hc x.2 (Yg (j:=x.1) e hb)];rfl
   rw [if_pos this];exact h4
theorem dP (ks:List Nat) (l:List IV):(Be ks l).length=l.length:=by
 induction ks generalizing l with
 | nil=>rfl
 | cons i ks ih=>simp [Be,ih]
theorem RX (ks:List Nat) (l:List IV) (i:Nat) (hi:i<l.length):(Be ks l).getD i .dead=if i∈ks then .dead else l.getD i .dead:=by
 induction ks generalizing l with
 | nil=>simp [Be]
 | cons j ks ih =>
  rw [Be,ih _ (by simpa using hi)];by_cases h:i∈ks
  ·rw [if_pos h,if_pos (Ajj _ h)]
  ·rw [if_neg h];by_cases e:i=j
   ·subst e;rw [if_pos Aji,Ajf,List.getElem?_set_self hi];rfl
   ·rw [if_neg (by simp [e,h]),Ajf,List.getElem?_set_ne (Ne.symm e),<- Ajf]
structure AtHead (n:Nat) (kills:List Nat) (vals:List IV) (h:Hp) (S:St):Prop where
 len:S.slots.length=n
 hp:S.hp=h
 vals:vals=(C6 n kills).map fun i=>S.slots.getD i .dead
 dead:∀i,i<n->i∈kills->S.slots.getD i .dead=.dead
theorem ME {n:Nat} {kills:List Nat} {i:Nat}:i∈C6 n kills ↔ i<n/\i ∉ kills:=by simp [C6]
theorem H7 {T:FS} {S:St} (hr:Rep T S) (kills:List Nat) (h:Hp):AtHead T.n kills ((C6 T.n kills).map T.get) h ⟨Be kills S.slots,h⟩:=by
 refine ⟨by simp [dP,hr.len],rfl,?_,fun i hi hk=>?_⟩
 ·apply List.map_congr_left;intro i hi
  have:=ME.1 hi
  rw [hr.at_];simp only;rw [RX _ _ _ (by rw [hr.len];exact this.1),if_neg this.2]
 ·simp only;rw [RX _ _ _ (by rw [hr.len];exact hi),if_pos hk]
theorem Qc {l:List IV}:∀(g:Nat->Bool) (n:Nat),l.length=n->(∀i,i<n->g i=false->l.getD i .dead=.dead) ->
  IV.refs.refsL (((List.range n).filter g).map fun i=>l.getD i .dead)=IV.refs.refsL l:=by
 intro g n
 induction n generalizing l g with
 | zero=>intro hl _;cases l with | nil=>rfl | cons _ _=>cases hl
 | succ n ih =>
  intro hl hd;cases l with
  | nil=>cases hl
  | cons x l =>
   simp only [Ai3,Nat.add_right_cancel_iff] at hl;rw [List.range_succ_eq_map];have ih:=ih (l:=l) (fun i=>g (i+1)) hl (fun i hi hg=>by simpa using hd (i+1) (by omega) hg);have e:(((List.range n).map Nat.succ).filter g).map (fun i=>(x::l).getD i .dead)=(((List.range n).filter fun i=>g (i+1))).map fun i=>l.getD i .dead:=by rw [List.filter_map,List.map_map];rfl
   cases hg:g 0 with
   | true =>rw [List.filter_cons_of_pos hg,Ai5,e];simp only [IV.refs.refsL,ih];rfl
   | false =>
    rw [List.filter_cons_of_neg (by rw [hg];simp),e]
    have:x=.dead:=by simpa using hd 0 (by omega) hg
    subst this;simp only [IV.refs.refsL,ih];rfl
def MU (rm:List Nat) (rs:List Ref) (h:Hp):Option Hp :=
 let held:=rs++(h.own.filter fun p=>!rm.contains p.1).flatMap (fun p=>p.2.refs)++h.ext.flatMap Blk.refs
 let gone:=rm.filter fun k=>!anyIn [k] held
 let h2:Hp:={ h with own:=h.own.filter fun p=>!gone.contains p.1 }
 if anyIn gone (rs++h2.own.flatMap (fun p=>p.2.refs)++h2.ext.flatMap Blk.refs) then none else some h2
theorem lO {α γ:Type} {c c':Bool} {y:α} (g:α->γ) (h:c=c'):(if c=true then none else some (g y))=(if c'=true then none else some y).map g:=by subst h;cases c<;>rfl
theorem Hr {base kills rm:List Nat} {sl:List IV} {h:Hp} (hb:rm.any base.contains=false) (ha:(h.own.all fun p=>!rm.contains p.1)=false) :
  CR base kills rm ⟨sl,h⟩=(MU rm (IV.refs.refsL (Be kills sl)) h).map fun h'=>⟨Be kills sl,h'⟩:=by
 simp only [CR,hb,ha,Ajx,if_false,De,MU];exact lO _ rfl
theorem Nx {base rm:List Nat} {S1:St} {kills:List Nat} {sl:List IV} (hsl:IV.refs.refsL sl=IV.refs.refsL (Be kills S1.slots)) (hb:rm.any base.contains=false)
  (ha:(S1.hp.own.all fun p=>!rm.contains p.1)=false) {S:St} (h:CR base [] rm ⟨sl,S1.hp⟩=some S):CR base kills rm S1=some ⟨Be kills S1.slots,S.hp⟩:=by
 obtain ⟨s1,h1⟩:=S1;rw [Hr hb ha] at h;rw [Hr hb ha];simp only [Be] at h;rw [hsl] at h;cases hd:MU rm (IV.refs.refsL (Be kills s1)) h1 with
 | none=>rw [hd] at h;cases h
 | some h' =>rw [hd] at h;simp only [Ai2,AiZ] at h;subst h;rfl
theorem LN (s:Nat) (l:List Nat):Lm s l=l.contains s:=by
 induction l with
 | nil=>rfl
 | cons x l ih =>
  rw [show Lm s (x::l)=cond (Nat.beq s x) true (Lm s l) from rfl,GG,ih,List.contains_cons]
  by_cases e:s=x
  ·subst e;simp
  ·rw [if_neg e];simp [e]
theorem Ft {rm:List Nat}:∀{l:List Ref},Fr rm l=true->∀k∈rm,Ref.own k ∉ l
 | [],_,k,_,h=>by cases h
 | .ext j::l,h,k,hk,hm=>by
  rcases Ajp.1 hm with e | hm
  ·cases e
  ·exact Ft (l:=l) h k hk hm
 | .own s::l,h,k,hk,hm=>by
  have h:cond (Lm s rm) false (Fr rm l)=true:=h;cases hs:Lm s rm with
  | true=>rw [hs] at h;cases h
  | false =>
   rw [hs] at h;rcases Ajp.1 hm with e | hm
   ·simp only [Ref.own.injEq] at e;subst e;rw [LN] at hs;rw [List.contains_iff_mem.2 hk] at hs;cases hs
   ·exact Ft (l:=l) h k hk hm
theorem Hz {rm:List Nat}:∀{own:List (Nat×Blk)},Hv rm own=true->∀k∈rm,Ref.own k ∉ (own.filter fun p=>!rm.contains p.1).flatMap fun p=>p.2.refs
 | [],_,k,_,h=>by cases h
 | (s,b)::own,h,k,hk,hm=>by
  have h:cond (Lm s rm) (Hv rm own) (cond (Fr rm (EP b)) (Hv rm own) false)=true:=h;rw [LN,I3] at h;cases hs:rm.contains s with
  | true =>rw [hs] at h;rw [List.filter_cons_of_neg (by rw [hs];simp)] at hm;exact Hz (own:=own) h k hk hm
  | false =>
   rw [hs] at h;rw [List.filter_cons_of_pos (by rw [hs];rfl)] at hm;cases hf:Fr rm b.refs with
   | false=>rw [hf] at h;cases h
   | true =>
    rw [hf] at h;simp only [List.flatMap_cons,Ajk] at hm;rcases hm with hm | hm
    ·exact Ft hf k hk hm
    ·exact Hz (own:=own) h k hk hm
theorem Nn {rm:List Nat}:∀{ext:List Blk},Iu rm ext=true->∀k∈rm,Ref.own k ∉ ext.flatMap Blk.refs
 | [],_,k,_,h=>by cases h
 | b::ext,h,k,hk,hm=>by
  have h:cond (Fr rm (EP b)) (Iu rm ext) false=true:=h;rw [I3] at h;cases hf:Fr rm b.refs with
  | false=>rw [hf] at h;cases h
  | true =>
   rw [hf] at h;simp only [List.flatMap_cons,Ajk] at hm;rcases hm with hm | hm
   ·exact Ft hf k hk hm
   ·exact Nn (ext:=ext) h k hk hm
theorem Ls {rm:List Nat}:∀(own:List (Nat×Blk)),kF rm own=!(own.all fun p=>!rm.contains p.1)
 | []=>rfl
 | (s,b)::own=>by
  rw [show kF rm ((s,b)::own)=cond (Lm s rm) true (kF rm own) from rfl,LN,Ls own,List.all_cons]
  cases rm.contains s<;>rfl
theorem Hh {rm:List Nat}:∀(own:List (Nat×Blk)) (k:List (Nat×Blk)->Option β),RN rm own k=k (own.filter fun p=>!rm.contains p.1)
 | [],_=>rfl
 | (s,b)::own,k=>by
  rw [show RN rm ((s,b)::own) k=cond (Lm s rm) (RN rm own k) (RN rm own fun l=>k ((s,b)::l)) from rfl,LN]
  cases hs:rm.contains s with
  | true=>rw [List.filter_cons_of_neg (by rw [hs];simp)];exact Hh own k
  | false=>rw [List.filter_cons_of_pos (by rw [hs];rfl)];exact Hh own _
theorem El {ks:List Nat}:∀{l:List Ref},(∀k∈ks,Ref.own k ∉ l)->anyIn ks l=false
 | [],_=>rfl
 | .ext j::l,h=>El (l:=l) fun k hk hm=>h k hk (Ajj _ hm)
 | .own s::l,h=>by
  simp only [anyIn,Bool.or_eq_false_iff];refine ⟨?_,El (l:=l) fun k hk hm=>h k hk (Ajj _ hm)⟩;cases hc:ks.contains s with
  | false=>rfl
  | true=>exact absurd Aji (h s (List.contains_iff_mem.1 hc))
theorem Sk {rm:List Nat} {rs:List Ref} {own:List (Nat×Blk)} {ext:List Blk} (h1:∀k∈rm,Ref.own k ∉ rs) (h2:Hv rm own=true) (h3:Iu rm ext=true) :
  MU rm rs ⟨own,ext⟩=some ⟨own.filter fun p=>!rm.contains p.1,ext⟩:=by
 have h2:=Hz h2;have h3:=Nn h3;have hh:∀k∈rm,Ref.own k ∉ rs++(own.filter fun p=>!rm.contains p.1).flatMap (fun p=>p.2.refs)++ext.flatMap Blk.refs:=fun k hk hm=>by
  rcases Ajk.1 hm with hm | hm
  ·rcases Ajk.1 hm with hm | hm
   ·exact h1 k hk hm
   ·exact h2 k hk hm
  ·exact h3 k hk hm
 have hg:(rm.filter fun k=>!anyIn [k] (rs++(own.filter fun p=>!rm.contains p.1).flatMap (fun p=>p.2.refs)++ext.flatMap Blk.refs))=rm:=by apply List.filter_eq_self.2;intro k hk;rw [El fun j hj hm=>hh j (by simp only [List.mem_singleton] at hj;rw [hj];exact hk) hm];rfl
 simp only [MU,hg];rw [El hh];rfl
theorem Ro {base kills rm:List Nat} {T:FS} {S:St} (hr:Rep T S) {k:List IV->Hp->Option β} (h:N7 base kills rm T k=some r) :
  ∃S' vals hp,CR base kills rm S=some S'/\AtHead T.n kills vals hp S'/\k vals hp=some r:=by
 unfold N7 at h;split at h
 ·refine ⟨⟨Be kills S.slots,T.hp⟩,_,_,?_,H7 hr kills T.hp,h⟩;simp [CR,hr.hp]
 ·rename_i q rm;generalize hrm:q::rm=rm' at h ⊢;have hv:=H7 hr kills S.hp;unfold Bm at h;rw [<- hr.hp] at h;cases hb:rm'.any base.contains with
  | true=>rw [hb] at h;cases h
  | false =>
   rw [hb] at h;obtain ⟨sl,hp0⟩:=S;obtain ⟨own,ext⟩:=hp0;simp only [cond] at h;have hsl:IV.refs.refsL ((C6 T.n kills).map T.get)=IV.refs.refsL (Be kills sl):=by rw [hv.vals];exact Qc _ _ (by simpa using hv.len) (fun i hi hg=>hv.dead i hi (by simpa using hg))
   rw [Ls] at h;cases ha:(own.all fun p=>!rm'.contains p.1) with
   | true =>rw [ha] at h;refine ⟨⟨Be kills sl,⟨own,ext⟩⟩,_,_,?_,hv,h⟩;simp only [CR,hb,Ajx,if_false,ha,if_true]
   | false =>
    rw [ha] at h;simp only [Bool.not_false] at h;cases hf:(and (Fr rm' (CP ((C6 T.n kills).map T.get) [])) (and (Hv rm' own) (Iu rm' ext))) with
    | true =>rw [hf] at h;simp only at h;have hf:(Fr rm' (CP ((C6 T.n kills).map T.get) []) && (Hv rm' own && Iu rm' ext))=true:=hf;simp only [Ajz] at hf;rw [Hh] at h;have h1:=Ft hf.1;rw [refsDL_eq,Ajm,hsl] at h1;refine ⟨⟨Be kills sl,⟨own.filter fun p=>!rm'.contains p.1,ext⟩⟩,_,_,?_,H7 hr kills _,h⟩;rw [Hr hb ha,Sk h1 hf.2.1 hf.2.2];rfl
    | false =>
     rw [hf] at h;simp only at h;split at h
     ·cases h
     ·rename_i S2 hd;rw [In] at h;exact ⟨⟨Be kills sl,S2.hp⟩,_,_,Nx (S1:=⟨sl,⟨own,ext⟩⟩) (sl:=(C6 T.n kills).map T.get) hsl hb ha hd,H7 hr kills S2.hp,h⟩
theorem Ur:∀(cs:List Nat) (vals:List IV) (T:FS) {K:FS->Option β},(∀i∈cs,i<T.n)->(∀i,i<T.n->T.t.has i=true)->R4 cs vals T K=some r ->
  ∃T',T'.n=T.n/\T'.hp=T.hp/\(∀i,i<T.n->T'.t.has i=true)/\K T'=some r/\∀g:Nat->IV,vals=cs.map g->∀i,i<T.n->T'.t.get i=if i∈cs then g i else T.t.get i
 | [],vals,T,K,_,hh,h=>⟨T,rfl,rfl,hh,h,fun g _ i _=>by simp⟩
 | c::cs,vals,T,K,hc,hh,h=>by
  have h:Ay vals (fun v vals=>Jk (some c) v T.hp T fun T=>R4 cs vals T K)=some r:=h;have eK:(fun (v:IV) vals=>Jk (some c) v T.hp T fun T=>R4 cs vals T K)=fun v vals=>R4 cs vals (PZ (some c) v T) K:=by
   funext v vals
   rw [L7,Pv]
  rw [eK] at h;cases vals with
  | nil=>cases h
  | cons v vals =>
   have h:R4 cs vals (PZ (some c) v T) K=some r:=h;have hcn:c<T.n:=hc c Aji;have hput:PZ (some c) v T=⟨T.n,T.t.set c v,T.hp⟩:=by
    simp only [PZ];cases hb:Nat.ble T.n c with
    | true=>have:=BF hb;omega
    | false=>rfl
   rw [hput] at h;obtain ⟨T',h1,h2,h3,h4,h5⟩:=Ur cs vals ⟨T.n,T.t.set c v,T.hp⟩ (fun i hi=>hc i (Ajj _ hi)) (fun i hi=>by rw [Wm];exact hh i hi) h;refine ⟨T',h1,h2,h3,h4,fun g hg i hi=>?_⟩;simp only [Ai5,List.cons.injEq] at hg;rw [h5 g hg.2 i hi];by_cases hm:i∈cs
   ·rw [if_pos hm,if_pos (Ajj _ hm)]
   ·rw [if_neg hm];simp only;rw [U6 _ _ _ (hh c hcn)];by_cases e:i=c
    ·subst e;rw [if_pos rfl,if_pos Aji,hg.1]
    ·rw [if_neg e,if_neg (by simp [e,hm])]
theorem oJ {n:Nat} (hn:n<=1024) {kills:List Nat} {vals:List IV} {h:Hp} {S:St} (ha:AtHead n kills vals h S) {K:FS->Option β} (e:R4 (C6 n kills) vals ⟨n,dT 10 0 n,h⟩ K=some r) :
  ∃T',T'.n=n/\Rep T' S/\K T'=some r:=by
 obtain ⟨T',h1,h2,h3,h4,h5⟩:=Ur (C6 n kills) vals ⟨n,dT 10 0 n,h⟩ (fun i hi=>(ME.1 hi).1) (fun i hi=>(Wq 10 0 n i (by simpa using hn) (Nat.zero_le _) (by simpa using hi)).1) e;refine ⟨T',h1,⟨by rw [ha.hp,h2],by rw [ha.len,h1],fun i hi=>h3 i (by rw [h1] at hi;exact hi),fun i hi=>?_⟩,h4⟩;rw [h1] at hi;rw [h5 _ ha.vals i hi];by_cases hm:i∈C6 n kills
 ·rw [if_pos hm]
 ·rw [if_neg hm];have hk:i∈kills:=Classical.byContradiction fun hk=>hm (ME.2 ⟨hi,hk⟩);rw [ha.dead i hi hk];exact (Wq 10 0 n i (by simpa using hn) (Nat.zero_le _) (by simpa using hi)).2
theorem aK (hi:∀f args h x,ih' f args h=some x->ih f args h=some x) {n:Nat} {base:List Nat}:∀(c:Code) {T:FS} {S:St},Rep T S->T.n<=1024->∀{K:Ex->FS->Option β},Fo E ih' f n base c T K=some r ->
  ∃ex S' T',D4 E ih f n base c S=some (ex,S')/\Rep T' S'/\T'.n=T.n/\K ex T'=some r:=by
 intro c
 induction c with
 | skip=>intro T S hr _ K h;exact ⟨_,S,T,rfl,hr,rfl,h⟩
 | region rid ops d =>
  intro T S hr _ K h;simp only [Fo,B0] at h;simp only [D4];rw [List.range_eq_range'];cases d with
  | true =>obtain ⟨S',T',h1,h2,h3,h4⟩:=gX hi ops.toList 0 rfl [] [] (fun x hx=>by cases hx) hr h;simp only [Array.length_toList] at h1;exact ⟨_,S',T',by simp only [if_true,h1,Ai2],h2,h3,h4⟩
  | false =>obtain ⟨S',T',h1,h2,h3,h4⟩:=iY hi ops.toList 0 rfl hr h;simp only [Array.length_toList] at h1;exact ⟨_,S',T',by simp only [Ajx,if_false,h1,Ai2],h2,h3,h4⟩
 | seq x y ihx ihy =>
  intro T S hr hl K h;simp only [Fo,B0] at h;obtain ⟨ex,S1,T1,h1,h2,hn,h3⟩:=ihx hr hl h;simp only [D4,h1];cases ex with
  | normal =>obtain ⟨ex,S2,T2,h4,h5,hn2,h6⟩:=ihy h2 (by rw [hn];exact hl) h3;exact ⟨ex,S2,T2,h4,h5,hn2.trans hn,h6⟩
  | exit j=>exact ⟨_,_,_,rfl,h2,hn,h3⟩
  | ret=>exact ⟨_,_,_,rfl,h2,hn,h3⟩
 | cond c x y ihx ihy =>
  intro T S hr hl K h;simp only [Fo,B0,K7 hr] at h;obtain ⟨t,ht,h⟩:=RS h;cases t with
  | true=>simp only [D4,ht];exact ihx hr hl h
  | false=>simp only [D4,ht];exact ihy hr hl h
 | block id x ihx =>
  intro T S hr hl K h;simp only [Fo,B0] at h;obtain ⟨ex,S1,T1,h1,h2,hn,h3⟩:=ihx hr hl h;simp only [D4,h1];cases ex with
  | normal=>exact ⟨_,_,_,rfl,h2,hn,h3⟩
  | exit j =>
   simp only [GG] at h3 ⊢;by_cases e:j=id
   ·rw [if_pos e] at h3;rw [if_pos e];exact ⟨_,_,_,rfl,h2,hn,h3⟩
   ·rw [if_neg e] at h3;rw [if_neg e];exact ⟨_,_,_,rfl,h2,hn,h3⟩
  | ret=>exact ⟨_,_,_,rfl,h2,hn,h3⟩
 | loop x ihx =>
  intro T S hr hl K h;simp only [Fo,B0] at h;simp only [D4];generalize (E.pol.head f (Cn x)).1=kills at h ⊢;generalize (E.pol.head f (Cn x)).2=rm at h ⊢;generalize hF:(fun (rec:List IV->Hp->Option β) vals h=>R4 (C6 T.n kills) vals ⟨T.n,dT 10 0 T.n,h⟩ fun T=>Fo E ih' f n base x T fun ex T=>match ex with
   | .normal=>N7 base kills rm T rec
   | .exit j=>K (.exit j) T
   | .ret=>K .ret T)=F at h
  have key:∀(k:Nat) (S1:St) (T1:FS),Rep T1 S1->T1.n=T.n->N7 base kills rm T1 (BG k F)=some r ->
    ∃ex S' T',iterate (CR base kills rm) (D4 E ih f n base x) k S1=some (ex,S')/\Rep T' S'/\T'.n=T.n/\K ex T'=some r:=by
   intro k
   induction k with
   | zero =>intro S1 T1 hr1 hn1 h;obtain ⟨S2,vals,hp,_,_,h⟩:=Ro hr1 h;cases h
   | succ k ihk =>
    intro S1 T1 hr1 hn1 h;obtain ⟨S2,vals,hp,h1,h2,h⟩:=Ro hr1 h;have h:F (BG k F) vals hp=some r:=h;rw [<- hF] at h;rw [hn1] at h2;simp only at h;obtain ⟨T2,hn2,hr2,h⟩:=oJ hl h2 h;obtain ⟨ex,S3,T3,h3,hr3,hn3,h⟩:=ihx hr2 (by rw [hn2];exact hl) h;simp only [iterate,h1,Ajt,h3];cases ex with
    | normal =>simp only at h;rw [hF] at h;exact ihk S3 T3 hr3 (hn3.trans hn2) h
    | exit j=>exact ⟨_,_,_,rfl,hr3,hn3.trans hn2,h⟩
    | ret=>exact ⟨_,_,_,rfl,hr3,hn3.trans hn2,h⟩
  exact key n S T hr rfl h
 | exit id=>intro T S hr _ K h;exact ⟨_,S,T,rfl,hr,rfl,h⟩
 | ret=>intro T S hr _ K h;exact ⟨_,S,T,rfl,hr,rfl,h⟩
 | _=>intro T S hr _ K h;simp only [Fo,B0] at h;cases h
theorem bB {agg:Bool} {size:Nat} {a:IV} {hp:Hp} {k:IV->Option β} (h:An agg size a hp k=some r) :
  ∃v,(match a with
   | .ptr q off=>match hp.get q with
    | some (.row cells _)=>Cu agg size off cells
    | _=>none
   | .fv (.fp cells off)=>(BN agg size off cells).map .fv
   | _=>none)=some v/\k v=some r:=by
 cases agg with
 | true =>
  have h:Ae size a hp (fun v _=>k v)=some r:=h;unfold Ae at h;rcases DE h with ⟨q,o,rfl,g'⟩ | ⟨cs,o,rfl,g'⟩<;>replace h:=g'<;>clear g'
  ·rw [EB] at h;obtain ⟨b,hb,h⟩:=BQ h;obtain ⟨cells,ro,rfl,g'⟩:=Gt h;replace h:=g';clear g';obtain ⟨h1,h2⟩:=Oy h;exact ⟨_,by simp only [hb,h1],h2⟩
  ·obtain ⟨h1,h2⟩:=Mn h;exact ⟨_,by simp only [h1,Ai2],h2⟩
 | false =>
  have h:Ag a hp (fun v _=>k v)=some r:=h;unfold Ag at h;rcases DE h with ⟨q,o,rfl,g'⟩ | ⟨cs,o,rfl,g'⟩<;>replace h:=g'<;>clear g'
  ·rw [EB] at h;obtain ⟨b,hb,h⟩:=BQ h;obtain ⟨cells,ro,rfl,g'⟩:=Gt h;replace h:=g';clear g';rw [Dk] at h;obtain ⟨v,hv,h⟩:=BQ h;exact ⟨_,by simp only [hb,Cu,Ajx,if_false,hv],h⟩
  ·rw [Dk] at h;obtain ⟨v,hv,h⟩:=BQ h;exact ⟨_,by simp only [BN,Ajx,if_false,hv,Ai2],h⟩
theorem Pb {T:FS} {S:St} (hr:Rep T S):∀(rs:List ResultVar) (acc:List IV) {k:List IV->Option β},YF E T rs acc k=some r->∃vs,F4 E S rs=some vs/\k (acc++vs)=some r
 | [],acc,k,h=>⟨[],rfl,by rw [Ajm];exact h⟩
 | .tmp t::rs,acc,k,h=>by
  have h:YF E T rs (acc++[T.get t]) k=some r:=h;obtain ⟨vs,h1,h2⟩:=Pb hr rs _ h;refine ⟨T.get t::vs,?_,by simpa using h2⟩;simp only [F4,IJ,Ajt,h1,Ai2,hr.at_]
 | .cell a t::rs,acc,k,h=>by
  have h:(match E.T t with
   | none=>none
   | some ti=>An ti.kind.isAgg ti.size (T.get a) T.hp fun v=>YF E T rs (acc++[v]) k)=some r:=h
  cases ht:E.T t with
  | none=>rw [ht] at h;cases h
  | some ti =>
   rw [ht] at h;obtain ⟨v,h1,h⟩:=bB h;obtain ⟨vs,h2,h3⟩:=Pb hr rs _ h;refine ⟨v::vs,?_,by simpa using h3⟩
   have:IJ E S (.cell a t)=some v:=by
    simp only [IJ,ht,<- hr.at_,hr.hp];rw [<- h1];cases T.get a with
    | fv w=>cases w<;>rfl
    | _=>rfl
   simp only [F4,this,Ajt,h2,Ai2]
theorem mA {FT:Nat->Option Func} (hFT:∀f fn,FT f=some fn->E.P.funcs[f]?=some fn) {n:Nat} {sh:Ah} (hi:∀f args h x,sh f args h=some x->run E n f args h=some x) {args:List IV} {h:Hp} {x:IV×Hp}
  (e:IF E sh FT n f args h=some x):run E (n+1) f args h=some x:=by
 unfold IF at e;simp only [B0] at e;simp only [run];cases hf:FT f with
 | none=>rw [hf] at e;cases e
 | some fn =>
  rw [hf] at e;rw [hFT f fn hf];simp only at e ⊢;cases hc:fn.body with
  | none=>rw [hc] at e;cases e
  | some c =>
   rw [hc] at e;simp only at e ⊢;obtain ⟨hl,e⟩:=DF e;rw [Oc] at e;simp only [Ajz] at hl;have hl1:=BF hl.1;have hl2:=BF hl.2;have hrep0:Rep ⟨fn.ntmps,dT 10 0 fn.ntmps,h⟩ ⟨List.replicate fn.ntmps .dead,h⟩:=by refine ⟨rfl,by simp,fun i hi=>(Wq 10 0 fn.ntmps i (by simpa using hl2) (Nat.zero_le _) (by simpa using hi)).1,fun i hi=>?_⟩;rw [(Wq 10 0 fn.ntmps i (by simpa using hl2) (Nat.zero_le _) (by simpa using hi)).2,Ajf,List.getElem?_replicate];simp [hi]
   obtain ⟨T0,h1,h2⟩:=eM args 0 (K:=_) hrep0;rw [h1] at e;have hs:Jd args 0 (List.replicate fn.ntmps .dead)=args++List.replicate (fn.ntmps - args.length) .dead:=by
    apply List.ext_getElem?;intro j;rw [La _ _ _ _ (by simpa using hl1)];by_cases hj:j<args.length
    ·rw [if_pos (by omega),Ai9 hj];simp
    ·rw [if_neg (by omega),Ai8 (by omega),List.getElem?_replicate,List.getElem?_replicate];by_cases hj2:j<fn.ntmps
     ·rw [if_pos hj2,if_pos (by omega)]
     ·rw [if_neg hj2,if_neg (by omega)]
   simp only [hs] at h2;have hT0:T0.n<=1024:=by
    have:=h2.len
    simp at this;omega
   obtain ⟨ex,S',T',h3,h4,_,h5⟩:=aK hi c h2 hT0 e;rw [h3];have hres:(YF E T' fn.results.toList [] fun vs=>Aj vs T'.hp)=some x->(GA E S' fn.results.toList).map (fun v=>(v,S'.hp))=some x:=by
    intro h;obtain ⟨vs,h1,h⟩:=Pb h4 _ _ h;rw [Ajo] at h;simp only [GA,h1,Ai2,h4.hp]
    match vs,h with
    | [],h=>simp only [Aj,UP] at h;exact h
    | [v],h=>exact h
    | v::w::l,h=>simp only [Aj,UP] at h;exact h
   cases ex with
   | exit j=>cases h5
   | normal=>exact hres h5
   | ret=>exact hres h5
end
section
variable {β:Type}
def RH {α:Type} (l:List α) (a:Option β):Option β:=List.casesOn (motive:=fun _=>Option β) l a fun _ _=>none
def ar0 (g:Hp->Option β) (args:List IV) (h:Hp):Option β:=RH args (g h)
def ar1 (g:IV->Hp->Option β) (args:List IV) (h:Hp):Option β:=Ay args fun a l=>RH l (g a h)
def ar2 (g:IV->IV->Hp->Option β) (args:List IV) (h:Hp):Option β:=Ay args fun a l=>Ay l fun b l=>RH l (g a b h)
def ar3 (g:IV->IV->IV->Hp->Option β) (args:List IV) (h:Hp):Option β:=Ay args fun a l=>Ay l fun b l=>Ay l fun c l=>RH l (g a b c h)
def ar4 (g:IV->IV->IV->IV->Hp->Option β) (args:List IV) (h:Hp):Option β:=Ay args fun a l=>Ay l fun b l=>Ay l fun c l=>Ay l fun d l=>RH l (g a b c d h)
def ar5 (g:IV->IV->IV->IV->IV->Hp->Option β) (args:List IV) (h:Hp):Option β:=Ay args fun a l=>Ay l fun b l=>Ay l fun c l=>Ay l fun d l=>Ay l fun e l=>RH l (g a b c d e h)
def ar6 (g:IV->IV->IV->IV->IV->IV->Hp->Option β) (args:List IV) (h:Hp):Option β:=Ay args fun a l=>Ay l fun b l=>Ay l fun c l=>Ay l fun d l=>Ay l fun e l=>Ay l fun f l=>RH l (g a b c d e f h)
theorem Cq {α:Type} {l:List α} {k:α->List α->Option β} {r:β} (h:Ay l k=some r):∃a t,l=a::t/\k a t=some r:=by
 cases l with
 | nil=>cases h
 | cons a t=>exact ⟨a,t,rfl,h⟩
theorem IW {α:Type} {l:List α} {a:Option β} {r:β} (h:RH l a=some r):l=[]/\a=some r:=by
 cases l with
 | nil=>exact ⟨rfl,h⟩
 | cons _ _=>cases h
variable {F:List IV->Hp->Option β} {args:List IV} {h:Hp} {r:β}
theorem s8 {g:Hp->Option β} (hg:∀h,F [] h=g h) (e:ar0 g args h=some r):F args h=some r:=by obtain ⟨rfl,e9⟩:=IW e;rw [hg];exact e9
theorem y7 {g:IV->Hp->Option β} (hg:∀a h,F [a] h=g a h) (e:ar1 g args h=some r):F args h=some r:=by obtain ⟨a,l1,rfl,e1⟩:=Cq e;obtain ⟨rfl,e9⟩:=IW e1;rw [hg];exact e9
theorem sU {g:IV->IV->Hp->Option β} (hg:∀a b h,F [a,b] h=g a b h) (e:ar2 g args h=some r):F args h=some r:=by obtain ⟨a,l1,rfl,e1⟩:=Cq e;obtain ⟨b,l2,rfl,e2⟩:=Cq e1;obtain ⟨rfl,e9⟩:=IW e2;rw [hg];exact e9
theorem wD {g:IV->IV->IV->Hp->Option β} (hg:∀a b c h,F [a,b,c] h=g a b c h) (e:ar3 g args h=some r):F args h=some r:=by obtain ⟨a,l1,rfl,e1⟩:=Cq e;obtain ⟨b,l2,rfl,e2⟩:=Cq e1;obtain ⟨c,l3,rfl,e3⟩:=Cq e2;obtain ⟨rfl,e9⟩:=IW e3;rw [hg];exact e9
theorem tG {g:IV->IV->IV->IV->Hp->Option β} (hg:∀a b c d h,F [a,b,c,d] h=g a b c d h) (e:ar4 g args h=some r):F args h=some r:=by obtain ⟨a,l1,rfl,e1⟩:=Cq e;obtain ⟨b,l2,rfl,e2⟩:=Cq e1;obtain ⟨c,l3,rfl,e3⟩:=Cq e2;obtain ⟨d,l4,rfl,e4⟩:=Cq e3;obtain ⟨rfl,e9⟩:=IW e4;rw [hg];exact e9
theorem wK {g:IV->IV->IV->IV->IV->Hp->Option β} (hg:∀a b c d x h,F [a,b,c,d,x] h=g a b c d x h) (e:ar5 g args h=some r):F args h=some r:=by obtain ⟨a,l1,rfl,e1⟩:=Cq e;obtain ⟨b,l2,rfl,e2⟩:=Cq e1;obtain ⟨c,l3,rfl,e3⟩:=Cq e2;obtain ⟨d,l4,rfl,e4⟩:=Cq e3;obtain ⟨x,l5,rfl,e5⟩:=Cq e4;obtain ⟨rfl,e9⟩:=IW e5;rw [hg];exact e9
theorem Ad6 {g:IV->IV->IV->IV->IV->IV->Hp->Option β} (hg:∀a b c d x y h,F [a,b,c,d,x,y] h=g a b c d x y h) (e:ar6 g args h=some r):F args h=some r:=by obtain ⟨a,l1,rfl,e1⟩:=Cq e;obtain ⟨b,l2,rfl,e2⟩:=Cq e1;obtain ⟨c,l3,rfl,e3⟩:=Cq e2;obtain ⟨d,l4,rfl,e4⟩:=Cq e3;obtain ⟨x,l5,rfl,e5⟩:=Cq e4;obtain ⟨y,l6,rfl,e6⟩:=Cq e5;obtain ⟨rfl,e9⟩:=IW e6;rw [hg];exact e9
end
abbrev Sh:=Ah->Nat->List IV->Hp->Option (IV×Hp)
inductive DT where
 | nil
 | leaf (f:Nat) (g:Sh)
 | node (m:Nat) (l r:DT)
def DT.call (t:DT):Nat->Sh :=DT.rec (motive:=fun _=>Nat->Sh) (fun _ _ _ _ _=>none) (fun f g i=>cond (Nat.beq i f) g fun _ _ _ _=>none) (fun m _ _ gl gr i=>cond (Nat.ble m i) (gr i) (gl i)) t
def SS (t:DT) (n:Nat):Ah:=Nat.rec (motive:=fun _=>Ah) (fun _ _ _=>none) (fun n ih f args h=>t.call f ih n args h) n
def Acg (E:Env) (FT:Nat->Option Func) (f:Nat) (g:Sh):Prop:=∀ih n args h x,g ih n args h=some x->IF E ih FT n f args h=some x
def DT.Ok (E:Env) (FT:Nat->Option Func):DT->Prop
 | .nil=>True
 | .leaf f g=>Acg E FT f g
 | .node _ l r=>l.Ok E FT/\r.Ok E FT
theorem DT.call_ok {E:Env} {FT:Nat->Option Func} {t:DT} (ht:t.Ok E FT):∀f,Acg E FT f (t.call f):=by
 induction t with
 | nil=>intro f ih n args h x e;cases e
 | leaf j g =>
  intro f ih n args h x e;have e:(cond (Nat.beq f j) g fun _ _ _ _=>none) ih n args h=some x:=e;cases hb:Nat.beq f j with
  | false=>rw [hb] at e;cases e
  | true=>rw [hb] at e;rw [DJ hb];exact ht ih n args h x e
 | node m l r ihl ihr =>
  intro f ih n args h x e;have e:(cond (Nat.ble m f) (r.call f) (l.call f)) ih n args h=some x:=e;cases hb:Nat.ble m f with
  | true=>rw [hb] at e;exact ihr ht.2 f ih n args h x e
  | false=>rw [hb] at e;exact ihl ht.1 f ih n args h x e
theorem Aca {E:Env} {FT:Nat->Option Func} (hFT:∀f fn,FT f=some fn->E.P.funcs[f]?=some fn) {t:DT} (ht:t.Ok E FT):∀n f args h x,SS t n f args h=some x->run E n f args h=some x:=by
 intro n
 induction n with
 | zero=>intro f args h x e;cases e
 | succ n ihn=>intro f args h x e;exact mA hFT ihn (DT.call_ok ht f _ _ _ _ _ e)
end Idl
end Go.Proofs.YtnenpcghegcnhaaGreat

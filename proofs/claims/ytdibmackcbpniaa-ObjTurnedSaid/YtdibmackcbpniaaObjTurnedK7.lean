/-
  Texts of a proof, part 7: an ideal semantics of the program, its functions in shallow form, contracts of them. No statement of the seat is proved here.
-/
import Derived.Test.YtdibmackcbpniaaChecked
import Derived.KernelRfl
import Derived.Test.YtdibmackcbpniaaObjTurnedK6
set_option linter.all false
set_option maxRecDepth 20000
set_option maxHeartbeats 16000000
noncomputable section
namespace Go.Proofs.Ytdibmackcbpniaa
namespace Idl
def tab:TTree :=
 .node 41 (.node 14 (.node 8 (.node 4 (.node 3 (.leaf 2 ⟨1,8,.int .i64,[.fv (.int .i64 0)]⟩)
 (.leaf 3 ⟨1,8,.int .i64,[.fv (.int .i64 0)]⟩))
 (.node 5 (.leaf 4 ⟨1,1,.bool,[.fv (.bool false)]⟩)
 (.node 6 (.leaf 5 ⟨1,1,.int .u8,[.fv (.int .u8 0)]⟩)
 (.leaf 6 ⟨1,1,.int .u8,[.fv (.int .u8 0)]⟩))))
 (.node 10 (.node 9 (.leaf 8 ⟨4,24,.struct [(0,2),(1,3),(2,4),(3,6)],[.fv (.int .i64 0),.fv (.int .i64 0),.fv (.bool false),.fv (.int .u8 0)]⟩)
 (.leaf 9 ⟨1,16,.str,[.fv (.str .empty)]⟩))
 (.node 11 (.leaf 10 ⟨1,16,.str,[.fv (.str .empty)]⟩)
 (.node 12 (.leaf 11 ⟨1,16,.str,[.fv (.str .empty)]⟩)
 (.leaf 12 ⟨1,8,.int .u64,[.fv (.int .u64 0)]⟩)))))
 (.node 22 (.node 16 (.node 15 (.leaf 14 ⟨2,24,.struct [(0,9),(1,12)],[.fv (.str .empty),.fv (.int .u64 0)]⟩)
 (.leaf 15 ⟨1,8,.ptr,[.fv (.nilp)]⟩))
 (.node 17 (.leaf 16 ⟨1,8,.ptr,[.fv (.nilp)]⟩)
 (.node 19 (.leaf 17 ⟨1,8,.ptr,[.fv (.nilp)]⟩)
 (.leaf 19 ⟨1,8,.struct [(0,17)],[.fv (.nilp)]⟩))))
 (.node 30 (.node 24 (.leaf 22 ⟨1,24,.slice 24,[.nils]⟩)
 (.node 28 (.leaf 24 ⟨3,40,.struct [(0,3),(1,3),(2,22)],[.fv (.int .i64 0),.fv (.int .i64 0),.nils]⟩)
 (.leaf 28 ⟨1,24,.slice 30,[.nils]⟩)))
 (.node 35 (.leaf 30 ⟨3,40,.struct [(0,3),(1,3),(2,28)],[.fv (.int .i64 0),.fv (.int .i64 0),.nils]⟩)
 (.node 38 (.leaf 35 ⟨1,8,.int .i64,[.fv (.int .i64 0)]⟩)
 (.leaf 38 ⟨1,8,.func,[.fv (.nilf)]⟩))))))
 (.node 87 (.node 67 (.node 55 (.node 51 (.leaf 41 ⟨1,8,.func,[.fv (.nilf)]⟩)
 (.leaf 51 ⟨1,24,.slice 3,[.nils]⟩))
 (.node 58 (.leaf 55 ⟨1,8,.int .u64,[.fv (.int .u64 0)]⟩)
 (.node 60 (.leaf 58 ⟨1,24,.slice 60,[.nils]⟩)
 (.leaf 60 ⟨3,40,.struct [(0,3),(1,3),(2,58)],[.fv (.int .i64 0),.fv (.int .i64 0),.nils]⟩))))
 (.node 78 (.node 71 (.leaf 67 ⟨1,24,.slice 9,[.nils]⟩)
 (.leaf 71 ⟨1,24,.slice 87,[.nils]⟩))
 (.node 81 (.leaf 78 ⟨1,24,.slice 30,[.nils]⟩)
 (.node 83 (.leaf 81 ⟨1,8,.ptr,[.fv (.nilp)]⟩)
 (.leaf 83 ⟨2,16,.struct [(0,3),(1,3)],[.fv (.int .i64 0),.fv (.int .i64 0)]⟩)))))
 (.node 123 (.node 106 (.node 97 (.leaf 87 ⟨4,48,.struct [(0,3),(1,30)],[.fv (.int .i64 0),.fv (.int .i64 0),.fv (.int .i64 0),.nils]⟩)
 (.leaf 97 ⟨1,8,.ptr,[.fv (.nilp)]⟩))
 (.node 108 (.leaf 106 ⟨1,8,.ptr,[.fv (.nilp)]⟩)
 (.node 110 (.leaf 108 ⟨3,24,.struct [(0,3),(1,3),(2,3)],[.fv (.int .i64 0),.fv (.int .i64 0),.fv (.int .i64 0)]⟩)
 (.leaf 110 ⟨1,8,.ptr,[.fv (.nilp)]⟩))))
 (.node 135 (.node 129 (.leaf 123 ⟨1,8,.int .i64,[.fv (.int .i64 0)]⟩)
 (.node 131 (.leaf 129 ⟨1,24,.slice 110,[.nils]⟩)
 (.leaf 131 ⟨7,104,.struct [(0,3),(1,3),(2,129),(3,129),(4,30)],[.fv (.int .i64 0),.fv (.int .i64 0),.nils,.nils,.fv (.int .i64 0),.fv (.int .i64 0),.nils]⟩)))
 (.node 136 (.leaf 135 ⟨1,24,.slice 5,[.nils]⟩)
 (.node 146 (.leaf 136 ⟨31,248,.arr 31 3,[.fv (.int .i64 0),.fv (.int .i64 0),.fv (.int .i64 0),.fv (.int .i64 0),.fv (.int .i64 0),.fv (.int .i64 0),.fv (.int .i64 0),.fv (.int .i64 0),.fv (.int .i64 0),.fv (.int .i64 0),.fv (.int .i64 0),.fv (.int .i64 0),.fv (.int .i64 0),.fv (.int .i64 0),.fv (.int .i64 0),.fv (.int .i64 0),.fv (.int .i64 0),.fv (.int .i64 0),.fv (.int .i64 0),.fv (.int .i64 0),.fv (.int .i64 0),.fv (.int .i64 0),.fv (.int .i64 0),.fv (.int .i64 0),.fv (.int .i64 0),.fv (.int .i64 0),.fv (.int .i64 0),.fv (.int .i64 0),.fv (.int .i64 0),.fv (.int .i64 0),.fv (.int .i64 0)]⟩)
 (.leaf 146 ⟨1,1,.int .u8,[.fv (.int .u8 0)]⟩))))))
def Amk:List (Nat×List Bool):=[(56,[true,false,false]),(71,[false,true,false]),(81,[true,false,false,false]),(82,[true,false,false]),(110,[true,false]),(117,[true])]
def AmR:List (Nat×Nat×List Nat×List Nat):=[(3,7,[0,1,2,7,8,11,12,13,14,15,16,17,18,19,20,21,22,23,24,25,26,27,28,29,30,31,32,33,34,35,36,37,38,39,40,41,42,43,44,45,46,47,48,49,50,51,52,53,54,55,56,57,58,59,60,61,62,63,64,65,66,67,68,69,70,71,72,73,74,75,76,77,78,79,80,81,82,83,84,85,86,87,88,89,90,91,92,93,94,95,96,97,98,99,100,101,102,103,104,105,106,107,108,109,110,111,112,113,114,115,116,117,118,119,120,121,122,123,124,125,126,127,128,129,130,131,132],[3154951]),
 (3,18,[0,1,2,3,4,5,6,7,8,10,11,12,13,15,16,18,19,20,21,22,23,24,25,26,27,28,29,30,31,32,33,34,35,36,37,38,39,40,41,42,43,44,45,46,47,48,49,50,51,52,53,54,55,56,57,58,59,60,61,62,63,64,65,66,67,68,69,70,71,72,73,74,75,76,77,78,79,80,81,82,83,84,85,86,87,88,89,90,91,92,93,94,95,96,97,98,99,100,101,102,103,104,105,106,107,108,109,110,111,112,113,114,115,116,117,118,119,120,121,122,123,124,125,126,127,128,129,130,131,132],[3166217,3167241]),
 (5,10,[0,1,3,4,5,6,9,12,13,14,15,16,17,18,19,20,21,22,23,24,25,26,27,28,29,30,31,32,33,34,35,36,37,38,39,40,41,42,43,44,45,46,47,48,49,50,51,52,53,54,55,56,57,58,59,60,61,62,63,64,65,66,67,68,69,70,71,72,73,74,75,76,77,78,79,80,81,82,83,84,85,86,87,88,89,90],[5257223]),
 (7,6,[2,3,4,8,9,10,11,12,13,14,15,16,17,18,19,20,21,22,23,24,25,26,27,28,29,30,31,32,33,34,35,36,37,38,39,40,41,42,43,44,45,46,47,48,49,50,51,52,53,54,55,56,57,58,59,60,61,62,63,64,65,66,67,68,69,70,71],[]),
 (9,11,[0,1,2,3,4,5,6,8,11,12,13,14,15,16,17,18,19,20,21,22,23,24,25,26,27,28,29,30,31,32,33,34,35,36,37,38,39,40,41,42,43,44,45,46,47,48,49,50,51,52,53,54,55,56,57,58,59,60,61,62,63,64,65,66,67,68,69,70,71,72,73,74,75,76,77,78,79,80,81,82,83,84,85,86,87,88,89,90,91,92,93,94,95],[9450504,9451528,9455621]),
 (13,2,[1,2,4,5,6,7,8,9,10,11,12,13,14,15,16,17,18],[]),
 (16,15,[0,4,5,10,11,12,13,14,15,16,17,18,19,20,21,22,23,24,25,26,27,28,29,30,31,32,33,34,35,36,37,38,39,40,41,42,43,44,45,46,47,48,49,50,51,52,53,54,55,56,57,58,59,60,61,62,63,64,65,66,67,68,69,70,71,72,73,74,75,76,77],[16794638]),
 (18,4,[0,1,4,6,7,8,9,10,11,12,13,14,15,16,17,18,19,20,21,22,23,24,25,26,27,28,29,30,31,32,33,34,35,36,37,38,39,40,41,42,43,44,45],[]),
 (21,4,[0,2,4,5,6,7,8,9,10,11,12,13,14,15,16,17,18,19,20,21,22,23,24,25,26,27,28,29,30],[]),
 (22,6,[0,2,3,4,9,10,11,12,13,14,15,16,17,18,19,20,21,22,23,24,25,26,27,28,29,30,31,32,33,34,35,36,37,38,39,40,41,42,43,44,45,46,47,48,49,50,51,52,53,54,55,56,57,58,59],[]),
 (24,3,[0,2,5,6,7,8,9,10,11,12,13,14,15,16,17,18,19,20],[]),
 (28,5,[0,4,5,9,10,11,12,13,14,15,16,17,18,19,20,21,22,23,24,25,26,27,28,29,30,31,32,33,34,35,36,37,38,39,40,41,42,43,44,45,46,47,48,49,50,51,52,53],[29367312]),
 (35,4,[0,3,4,6,7,8,9,10,11,12,13,14,15,16,17,18,19,20,21,22,23,24,25,26,27,28,29],[]),
 (40,3,[0,3,4,7,8,9,10,11,12,13,14,15,16,17,18,19,20,21,22,23,24,25,26,27,28,29,30],[]),
 (54,3,[0,4,5,6,7,8,9,10,14,15,16,17,18,19,20,21,22,23,24,25,26,27,28,29],[56627203]),
 (56,7,[1,3,5,7,8,9,10,11,12,13,14,15,16,17,18,19,20,21,22,23,24,25,26,27,28,29,30,31,32,33,34,35,36,37,38,39,40,41,42,43,44,45,46,47,48,49,50,51,52,53,54,55,56,57,58,59,60,61,62,63,64,65,66,67,68],[]),
 (62,2,[3,4,5,6,8,10,11,12,13,14,15,16,17,18,19,20,21,22,23,24,25,26,27],[]),
 (66,15,[0,2,3,6,7,8,9,10,11,12,13,14,15,16,17,18,19,20,21,22,23,24,25,26,27,28,29,30,31,32,33,34,35,36,37,38,39,40,41,42,43,44,45,46,47,48,49,50,51,52,53,54,55,56,57,58,59,60,61],[]),
 (67,3,[1,2,5,6,7,8,9,10,11,12,13,14,15,16,17,18,19,20,21,22,23,24,25,26,27,28,29,30,31,32,33,34,35,36,37,38,39,40,41,42,43,44,45,46],[70260746]),
 (71,7,[0,3,4,5,6,7,8,9,10,11,12,13,14,15,16,17,18,19,20,21,22,23,24,25,26,27,28,29,30,31,32,33,34,35,36,37,38,42,43,44,45,46,47,48,49,50,51,52,53],[74457090]),
 (72,2,[2,3,4,5,6,9,10,11,12,13,14,15,16,17,18],[]),
 (81,10,[4,5,6,7,11,12,13,14,15,16,17,18,19,20,21,22,23,24,25,26,27,28,29,30,31,32,33,34,35,36,37,38,39,40,41,42,43,44,45,46,47,48,49,50,51,52,53,54,55,56,57,58,59,60,61,62,63,64,65,66,67,68,69,70,71,72,73,74,75,76,77,78,79,80,81,82,83,84,85,86,87,88,89,90,91,92,93,94,95,96,97,98,99,100,101,102,103,104,105,106,107,108,109,110,111,112,113,114,115,116,117,118,119,120,121,122,123,124,125,126,127,128,129,130],[84954117,84956171]),
 (81,17,[4,5,6,7,15,16,17,18,19,20,21,22,23,24,25,26,27,28,29,30,31,32,33,34,35,36,37,38,39,40,41,42,43,44,45,46,47,48,49,50,51,52,53,54,55,56,57,58,59,60,61,62,63,64,65,66,67,68,69,70,71,72,73,74,75,76,77,78,79,80,81,82,83,84,85,86,87,88,89,90,91,92,93,94,95,96,97,98,99,100,101,102,103,104,105,106,107,108,109,110,111,112,113,114,115,116,117,118,119,120,121,122,123,124,125,126,127,128,129,130],[84954117]),
 (82,9,[1,3,5,6,9,10,11,12,13,14,15,16,17,18,19,20,21,22,23,24,25,26,27,28,29,30,31,32,33,34,35,36,37,38,39,40,41,42,43,44,45,46,47,48,49,50,51,52,53,54,55,56,57,58,59,60,61,62,63,64,65,66,67,68,69,70,71,72,73,74,75,76,77,78,79,80,81,82,83,84,85,86,87,88,89,90,91,92,93,94,95],[85995532,85995534,85996558]),
 (97,3,[2,4,5,7,9,12,13,14,15,16,17,18,19,20,21,22,23,24,25,26,27,28,29,30,31,32,33,34,35,36,37,38,39,40,41,42,43,44,45,46,47,48,49,50,51,52,53,54,55,56,57,58,59,60,61,62,63,64,65,66,67,68,69,70,71],[101718032,101720067]),
 (112,3,[0,5,6,7,8,9,10,11,12,13,14,15,16,17,18,19,20,21,22,23,24,25,26,27,28,29,30,31,32,33,34,35,36,37,38,39,40,41,42,43,44,45,46,47,48,49,50,51,52,53,54,55,56,57,58,59,60,61,62,63,64,65,66,67,68,69,70,71,72,73,74,75,76,77,78,79,80,81,82,83,84,85,86,87,88,89,90,91,92,93,94,95,96,97,98,99,100,101,102,103,104,105,106,107,108,109,110,111,112,113,114,115,116,117,118,119,120,121,122,123,124,125,126,127,128,129,130],[117445638,117448708]),
 (113,9,[0,3,5,6,11,12,13,14,15,16,17,18,19,20,21,22,23,24,25,26,27,28,29,30,31,32,33,34,35,36,37,38,39,40,41,42,43,44,45,46,47,48,49,50,51,52,53,54,55,56,57,58,59,60,61,62,63,64,65,66,67],[118501392]),
 (115,3,[1,5,6,7,8,9,10,11,12,13,14],[]),
 (116,4,[0,3,4,5,6,7,8,9,10,11,12,13,14,18,19,20,21,22,23,24,25,26,27,28,29,30,31],[121639939,121640964]),
 (118,4,[0,3,4,6,7,8,9,10,11,12,13,14,15,16,17,18,19,20,21,22,23,24,25,26,27,28,29,30,31],[])]
def UM (l:List Nat) (f:Nat):Bool:=l.any fun g=>Nat.beq g f
def Aku (f:Nat):List (Nat×List Bool)->List Bool
 | []=>[]
 | (g,k)::l=>if Nat.beq g f then k else Aku f l
def AhJ (f r:Nat):List (Nat×Nat×List Nat×List Nat)->List Nat×List Nat
 | []=>([],[])
 | (g,q,k)::l=>if Nat.beq g f && Nat.beq q r then k else AhJ f r l
def pol:Pol where
 inl:=UM []
 keep:=fun f=>Aku f Amk
 raw:=UM [106]
 head:=fun f r=>AhJ f r AmR
 rowApp:=fun f _ _=>UM [22] f
 fzBox:=fun f _ _=>UM [81] f
 split:=UM [107]
def EE:Env:=⟨Try.prog,tab.get,pol⟩
set_option maxRecDepth 100000 in
theorem Aro:tab.leaves.map (fun p=>Aoj Try.prog p.1)=tab.leaves.map (fun p=>some p.2):=by kernel_rfl
theorem AkL:Try.prog.follows .mixedOrders=true:=by kernel_rfl
theorem AjB:ZC Try.prog=true:=by kernel_rfl
theorem Aj8:AdZ Try.prog=true:=by kernel_rfl
def ft:FTr :=
 .node 60 (.node 31 (.node 16 (.node 9 (.node 5 (.node 3 (.leaf 2 Try.f2)
 (.node 4 (.leaf 3 Try.f3)
 (.leaf 4 Try.f4)))
 (.node 7 (.node 6 (.leaf 5 Try.f5)
 (.leaf 6 Try.f6))
 (.node 8 (.leaf 7 Try.f7)
 (.leaf 8 Try.f8))))
 (.node 12 (.node 10 (.leaf 9 Try.f9)
 (.node 11 (.leaf 10 Try.f10)
 (.leaf 11 Try.f11)))
 (.node 14 (.node 13 (.leaf 12 Try.f12)
 (.leaf 13 Try.f13))
 (.node 15 (.leaf 14 Try.f14)
 (.leaf 15 Try.f15)))))
 (.node 23 (.node 19 (.node 17 (.leaf 16 Try.f16)
 (.node 18 (.leaf 17 Try.f17)
 (.leaf 18 Try.f18)))
 (.node 21 (.node 20 (.leaf 19 Try.f19)
 (.leaf 20 Try.f20))
 (.node 22 (.leaf 21 Try.f21)
 (.leaf 22 Try.f22))))
 (.node 27 (.node 25 (.node 24 (.leaf 23 Try.f23)
 (.leaf 24 Try.f24))
 (.node 26 (.leaf 25 Try.f25)
 (.leaf 26 Try.f26)))
 (.node 29 (.node 28 (.leaf 27 Try.f27)
 (.leaf 28 Try.f28))
 (.node 30 (.leaf 29 Try.f29)
 (.leaf 30 Try.f30))))))
 (.node 45 (.node 38 (.node 34 (.node 32 (.leaf 31 Try.f31)
 (.node 33 (.leaf 32 Try.f32)
 (.leaf 33 Try.f33)))
 (.node 36 (.node 35 (.leaf 34 Try.f34)
 (.leaf 35 Try.f35))
 (.node 37 (.leaf 36 Try.f36)
 (.leaf 37 Try.f37))))
 (.node 41 (.node 39 (.leaf 38 Try.f38)
 (.node 40 (.leaf 39 Try.f39)
 (.leaf 40 Try.f40)))
 (.node 43 (.node 42 (.leaf 41 Try.f41)
 (.leaf 42 Try.f42))
 (.node 44 (.leaf 43 Try.f43)
 (.leaf 44 Try.f44)))))
 (.node 52 (.node 48 (.node 46 (.leaf 45 Try.f45)
 (.node 47 (.leaf 46 Try.f46)
 (.leaf 47 Try.f47)))
 (.node 50 (.node 49 (.leaf 48 Try.f48)
 (.leaf 49 Try.f49))
 (.node 51 (.leaf 50 Try.f50)
 (.leaf 51 Try.f51))))
 (.node 56 (.node 54 (.node 53 (.leaf 52 Try.f52)
 (.leaf 53 Try.f53))
 (.node 55 (.leaf 54 Try.f54)
 (.leaf 55 Try.f55)))
 (.node 58 (.node 57 (.leaf 56 Try.f56)
 (.leaf 57 Try.f57))
 (.node 59 (.leaf 58 Try.f58)
 (.leaf 59 Try.f59)))))))
 (.node 89 (.node 74 (.node 67 (.node 63 (.node 61 (.leaf 60 Try.f60)
 (.node 62 (.leaf 61 Try.f61)
 (.leaf 62 Try.f62)))
 (.node 65 (.node 64 (.leaf 63 Try.f63)
 (.leaf 64 Try.f64))
 (.node 66 (.leaf 65 Try.f65)
 (.leaf 66 Try.f66))))
 (.node 70 (.node 68 (.leaf 67 Try.f67)
 (.node 69 (.leaf 68 Try.f68)
 (.leaf 69 Try.f69)))
 (.node 72 (.node 71 (.leaf 70 Try.f70)
 (.leaf 71 Try.f71))
 (.node 73 (.leaf 72 Try.f72)
 (.leaf 73 Try.f73)))))
 (.node 81 (.node 77 (.node 75 (.leaf 74 Try.f74)
 (.node 76 (.leaf 75 Try.f75)
 (.leaf 76 Try.f76)))
 (.node 79 (.node 78 (.leaf 77 Try.f77)
 (.leaf 78 Try.f78))
 (.node 80 (.leaf 79 Try.f79)
 (.leaf 80 Try.f80))))
 (.node 85 (.node 83 (.node 82 (.leaf 81 Try.f81)
 (.leaf 82 Try.f82))
 (.node 84 (.leaf 83 Try.f83)
 (.leaf 84 Try.f84)))
 (.node 87 (.node 86 (.leaf 85 Try.f85)
 (.leaf 86 Try.f86))
 (.node 88 (.leaf 87 Try.f87)
 (.leaf 88 Try.f88))))))
 (.node 104 (.node 96 (.node 92 (.node 90 (.leaf 89 Try.f89)
 (.node 91 (.leaf 90 Try.f90)
 (.leaf 91 Try.f91)))
 (.node 94 (.node 93 (.leaf 92 Try.f92)
 (.leaf 93 Try.f93))
 (.node 95 (.leaf 94 Try.f94)
 (.leaf 95 Try.f95))))
 (.node 100 (.node 98 (.node 97 (.leaf 96 Try.f96)
 (.leaf 97 Try.f97))
 (.node 99 (.leaf 98 Try.f98)
 (.leaf 99 Try.f99)))
 (.node 102 (.node 101 (.leaf 100 Try.f100)
 (.leaf 101 Try.f101))
 (.node 103 (.leaf 102 Try.f102)
 (.leaf 103 Try.f103)))))
 (.node 111 (.node 107 (.node 105 (.leaf 104 Try.f104)
 (.node 106 (.leaf 105 Try.f105)
 (.leaf 106 Try.f106)))
 (.node 109 (.node 108 (.leaf 107 Try.f107)
 (.leaf 108 Try.f108))
 (.node 110 (.leaf 109 Try.f109)
 (.leaf 110 Try.f110))))
 (.node 115 (.node 113 (.node 112 (.leaf 111 Try.f111)
 (.leaf 112 Try.f112))
 (.node 114 (.leaf 113 Try.f113)
 (.leaf 114 Try.f114)))
 (.node 117 (.node 116 (.leaf 115 Try.f115)
 (.leaf 116 Try.f116))
 (.node 118 (.leaf 117 Try.f117)
 (.leaf 118 Try.f118)))))))
theorem AtK:∀f fn,ft.get f=some fn->EE.P.funcs[f]?=some fn:=FTr.ok (by kernel_rfl)
theorem At6:EnvOk EE:=AqE Aro AkL AjB Aj8
section lists
variable {α β:Type}
def Dt (l:List α) (i:Nat) (k:α->Option β):Option β :=
 List.rec (motive:=fun _=>Nat->Option β) (fun _=>none) (fun x _ ih i=>Nat.rec (motive:=fun _=>Option β) (k x) (fun p _=>ih p) i) l i
theorem Db (l:List α) (i:Nat) (k:α->Option β):Dt l i k=(l[i]?).bind k:=by
 induction l generalizing i with
 | nil=>rfl
 | cons x l ih=>cases i with
  | zero=>rfl
  | succ i=>exact ih i
def EH (l:List α) (n:Nat) (k:List α->Option β):Option β :=
 List.rec (motive:=fun _=>Nat->Option β) (fun n=>Nat.rec (motive:=fun _=>Option β) (k []) (fun _ _=>none) n) (fun x t ih n=>Nat.rec (motive:=fun _=>Option β) (k (x::t)) (fun p _=>ih p) n) l n
theorem J6 (l:List α) (n:Nat) (k:List α->Option β):EH l n k=if n<=l.length then k (l.drop n) else none:=by
 induction l generalizing n with
 | nil=>cases n with
  | zero=>rfl
  | succ n=>rw [if_neg (by simp)];rfl
 | cons x l ih=>cases n with
  | zero=>rw [if_pos (Nat.zero_le _)];rfl
  | succ n=>rw [show EH (x::l) (n+1) k=EH l n k from rfl,ih];simp
def Ge (l:List α) (n:Nat) (k:List α->Option β):Option β :=
 List.rec (motive:=fun _=>Nat->(List α->Option β)->Option β) (fun n k=>Nat.rec (motive:=fun _=>Option β) (k []) (fun _ _=>none) n)
  (fun x _ ih n k=>Nat.rec (motive:=fun _=>Option β) (k []) (fun p _=>ih p fun xs=>k (x::xs)) n) l n k
theorem JQ (l:List α) (n:Nat) (k:List α->Option β):Ge l n k=if n<=l.length then k (l.take n) else none:=by
 induction l generalizing n k with
 | nil=>cases n with
  | zero=>rfl
  | succ n=>rw [if_neg (by simp)];rfl
 | cons x l ih=>cases n with
  | zero=>rw [if_pos (Nat.zero_le _)];rfl
  | succ n=>rw [show Ge (x::l) (n+1) k=Ge l n (fun xs=>k (x::xs)) from rfl,ih];simp
def PY (l:List α) (j:Nat) (b:α) (k:List α->Option β):Option β :=
 List.rec (motive:=fun _=>Nat->(List α->Option β)->Option β) (fun _ k=>k []) (fun x t ih j k=>Nat.rec (motive:=fun _=>Option β) (k (b::t)) (fun p _=>ih p fun xs=>k (x::xs)) j) l j k
theorem AkD (l:List α) (j:Nat) (b:α) (k:List α->Option β):PY l j b k=k (l.set j b):=by
 induction l generalizing j k with
 | nil=>rfl
 | cons x l ih=>cases j with
  | zero=>rfl
  | succ j=>rw [show PY (x::l) (j+1) b k=PY l j b (fun xs=>k (x::xs)) from rfl,ih];rfl
def AH (l:List α) (k:α->List α->Option β):Option β:=List.casesOn (motive:=fun _=>Option β) l none k
end lists
section
variable {α:Type}
def fRf (r:Ref) (k:Ref->α):α:=match r with
 | .own n=>DU n fun n=>k (.own n)
 | .ext n=>DU n fun n=>k (.ext n)
theorem QH (r:Ref) (k:Ref->α):fRf r k=k r:=by cases r<;>simp [fRf,BS]
def fV:Nat->IV->(IV->α)->α
 | 0,v,k=>k v
 | d+1,v,k=>match v with
  | .dead=>k .dead
  | .fv v=>Zc d v fun v=>k (.fv v)
  | .ptr r o=>fRf r fun r=>DU o fun o=>k (.ptr r o)
  | .slc r sz n=>fRf r fun r=>DU sz fun sz=>DU n fun n=>k (.slc r sz n)
  | .nils=>k .nils
  | .emp=>k .emp
  | .clip es=>fL (Zc d) es fun es=>k (.clip es)
  | .app r es=>fRf r fun r=>fL (Zc d) es fun es=>k (.app r es)
  | .func fn a b=>fL (fV d) a fun a=>fL (fV d) b fun b=>k (.func fn a b)
  | .agg cs=>fL (fV d) cs fun cs=>k (.agg cs)
  | .tuple cs=>fL (fV d) cs fun cs=>k (.tuple cs)
  | .mapr r=>fRf r fun r=>k (.mapr r)
theorem Cx:∀(d:Nat) (v:IV) (k:IV->α),fV d v k=k v
 | 0,_,_=>rfl
 | d+1,v,k=>by cases v<;>simp [fV,C9 (Cx d),C9 (OF d),OF,BS,QH]
def fBk (b:Blk) (k:Blk->α):α:=match b with
 | .row cs ro=>fL (fV 3) cs fun cs=>k (.row cs ro)
 | .tok n sz=>DU n fun n=>DU sz fun sz=>k (.tok n sz)
 | .map es=>fL (fun (p:Int×IV) k=>match p with | (n,v)=>AmB n fun n=>fV 4 v fun v=>k (n,v)) es fun es=>k (.map es)
theorem CW (b:Blk) (k:Blk->α):fBk b k=k b:=by
 cases b with
 | row cs ro=>simp only [fBk];rw [C9 (Cx 3)]
 | tok n sz=>simp only [fBk];rw [BS,BS]
 | map es =>
  simp only [fBk];rw [C9];rintro ⟨n,v⟩ k;simp only;rw [YZ,Cx]
def fOw (p:Nat×Blk) (k:Nat×Blk->α):α:=match p with | (n,b)=>DU n fun n=>fBk b fun b=>k (n,b)
theorem Aqi (p:Nat×Blk) (k:Nat×Blk->α):fOw p k=k p:=by
 obtain ⟨n,b⟩:=p;simp only [fOw];rw [BS,CW]
def fH (h:Hp) (k:Hp->α):α:=match h with | ⟨own,ext⟩=>fL fOw own fun own=>fL fBk ext fun ext=>k ⟨own,ext⟩
theorem KK (h:Hp) (k:Hp->α):fH h k=k h:=by
 obtain ⟨a,b⟩:=h;simp only [fH];rw [C9 Aqi,C9 CW]
end
section
variable {β:Type}
def Jo (l:List (Nat×Blk)) (s:Nat) (k:Blk->Option β):Option β :=
 List.rec (motive:=fun _=>Option β) none (fun p _ ih=>match p with | (j,b)=>cond (Nat.beq s j) (k b) ih) l
theorem GL {α:Type} (a b:Nat) (x y:α):cond (Nat.beq a b) x y=if a=b then x else y:=by
 cases h:Nat.beq a b with
 | true=>rw [if_pos (Nat.eq_of_beq_eq_true h)];rfl
 | false=>rw [if_neg (fun e=>by rw [e,show Nat.beq b b=true from Nat.beq_refl b] at h;cases h)];rfl
theorem EX (l:List (Nat×Blk)) (s:Nat) (k:Blk->Option β):Jo l s k=(Aw s l).bind k:=by
 induction l with
 | nil=>rfl
 | cons p l ih =>
  obtain ⟨j,b⟩:=p;rw [show Jo ((j,b)::l) s k=cond (Nat.beq s j) (k b) (Jo l s k) from rfl,GL,ih]
  simp only [Aw];split<;>rfl
def EA (r:Ref) (h:Hp) (k:Blk->Option β):Option β:=match h with
 | ⟨own,ext⟩=>match r with
  | .own s=>Jo own s k
  | .ext j=>Dt ext j k
theorem Eo (r:Ref) (h:Hp) (k:Blk->Option β):EA r h k=(h.get r).bind k:=by
 obtain ⟨own,ext⟩:=h;cases r with
 | own s=>exact EX ..
 | ext j=>exact Db ..
def Bk (l:List (Nat×Blk)) (s:Nat) (b:Blk) (k:List (Nat×Blk)->Option β):Option β :=
 List.rec (motive:=fun _=>(List (Nat×Blk)->Option β)->Option β) (fun k=>k [(s,b)])
  (fun p t ih k=>match p with | (j,c)=>cond (Nat.beq s j) (k ((j,b)::t)) (ih fun l=>k ((j,c)::l))) l k
theorem Fh (l:List (Nat×Blk)) (s:Nat) (b:Blk) (k:List (Nat×Blk)->Option β):Bk l s b k=k (Bf s b l):=by
 induction l generalizing k with
 | nil=>rfl
 | cons p l ih =>
  obtain ⟨j,c⟩:=p;rw [show Bk ((j,c)::l) s b k=cond (Nat.beq s j) (k ((j,b)::l)) (Bk l s b fun l=>k ((j,c)::l)) from rfl,GL,ih]
  simp only [Bf];split<;>rfl
def GD (r:Ref) (b:Blk) (h:Hp) (k:Hp->Option β):Option β:=match h with
 | ⟨own,ext⟩=>match r with
  | .own s=>Bk own s b fun own=>k ⟨own,ext⟩
  | .ext j=>PY ext j b fun ext=>k ⟨own,ext⟩
theorem Kf (r:Ref) (b:Blk) (h:Hp) (k:Hp->Option β):GD r b h k=k (h.set r b):=by
 obtain ⟨own,ext⟩:=h;cases r with
 | own s=>exact Fh ..
 | ext j=>exact AkD ..
def O0 (x:IV) (e:Option β) (k:FV->Option β):Option β:=match x with
 | .fv v=>k v
 | _=>e
def Aji (v:FV) (e:Option β) (k:Nat->Option β):Option β:=match v with
 | .int .i64 (.ofNat n)=>k n
 | _=>e
def Jw (x:IV) (e:Option β) (k:Nat->Option β):Option β:=O0 x e fun v=>Aji v e k
theorem Fp {x:IV} {e:Option β} {k:Nat->Option β} {r:β} (h:Jw x e k=some r):(∃n:Nat,x=.fv (.int .i64 n)/\k n=some r)\/e=some r:=by
 unfold Jw O0 at h;split at h
 ·simp only [Aji] at h;split at h
  ·exact .inl ⟨_,rfl,h⟩
  ·exact .inr h
 ·exact .inr h
def NR (n:Nat) (k:IV->Option β):Option β:=DU n fun n=>k (.fv (.int .i64 (.ofNat n)))
theorem Dm (n:Nat) (k:IV->Option β):NR n k=k (.fv (.int .i64 n)):=by rw [NR,BS];rfl
def Alk (b:Bool) (k:IV->Option β):Option β:=cond b (k (.fv (.bool true))) (k (.fv (.bool false)))
theorem UL (b:Bool) (k:IV->Option β):Alk b k=k (.fv (.bool b)):=by cases b<;>rfl
def C8 (o:Option IV) (k:IV->Option β):Option β:=match o with
 | none=>none
 | some v=>fS v k
theorem Cz (o:Option IV) (k:IV->Option β):C8 o k=o.bind k:=by
 cases o with
 | none=>rfl
 | some v=>exact AtG v k
def CM (l:List IV) (e:Option β) (k:List FV->Option β):Option β :=
 List.rec (motive:=fun _=>(List FV->Option β)->Option β) (fun k=>k []) (fun x _ ih k=>O0 x e fun v=>ih fun vs=>k (v::vs)) l k
theorem PW (l:List IV) (e:Option β) (k:List FV->Option β):CM l e k=match FW l with | some vs=>k vs | none=>e:=by
 induction l generalizing k with
 | nil=>rfl
 | cons x l ih =>
  rw [show CM (x::l) e k=O0 x e fun v=>CM l e fun vs=>k (v::vs) from rfl]
  cases x<;>simp only [O0,FW];rw [ih];cases FW l<;>rfl
def O9 (l:List IV) (k:IV->Option β):Option β:=CM l (k (.agg l)) fun vs=>k (.fv (.agg vs))
theorem Sv (l:List IV) (k:IV->Option β):O9 l k=k (Fr l):=by
 rw [O9,PW,Fr];cases FW l<;>rfl
def XS (l:List IV) (k:IV->Option β):Option β:=CM l (k (.tuple l)) fun vs=>k (.fv (.tuple vs))
theorem Ad6 (l:List IV) (k:IV->Option β):XS l k=k (Dl l):=by
 rw [XS,PW,Dl];cases FW l<;>rfl
def Apn (v:FV) (a b:Option β):Option β:=match v with
 | .bool t=>cond t a b
 | _=>none
def Aj (v:IV) (a b:Option β):Option β:=match v with
 | .fv v=>Apn v a b
 | _=>none
theorem Vr {v:IV} {a b:Option β} {r:β} (h:Aj v a b=some r):∃t:Bool,v=.fv (.bool t)/\(if t then a else b)=some r:=by
 unfold Aj at h;split at h
 ·unfold Apn at h;split at h
  ·rename_i t;refine ⟨t,rfl,?_⟩;cases t<;>exact h
  ·cases h
 ·cases h
def AI (c a b:IV) (k:IV->Option β):Option β:=Aj c (k a) (k b)
section
variable (E:Env) (t:TypeId)
def CC (op:BinOp) (x y:IV) (k:IV->Option β):Option β:=C8 (GX E op t x y) k
def Bv (x y:IV) (k:IV->Option β):Option β :=
 Jw x (CC E t .add x y k) fun a=>Jw y (CC E t .add x y k) fun b=>cond (Nat.ble (a+b) 9223372036854775807) (NR (a+b) k) (CC E t .add x y k)
def Bd (x y:IV) (k:IV->Option β):Option β :=
 Jw x (CC E t .sub x y k) fun a=>Jw y (CC E t .sub x y k) fun b=>cond (and (Nat.ble b a) (Nat.ble a 9223372036854775807)) (NR (a - b) k) (CC E t .sub x y k)
def Rt (op:BinOp) (g:Nat->Nat->Bool) (x y:IV) (k:IV->Option β):Option β :=
 Jw x (CC E t op x y k) fun a=>Jw y (CC E t op x y k) fun b=>Alk (g a b) k
def AO (x y:IV) (k:IV->Option β):Option β:=Rt E t .eql Nat.beq x y k
def Ck (x y:IV) (k:IV->Option β):Option β:=Rt E t .neq (fun a b=>not (Nat.beq a b)) x y k
def GC (x y:IV) (k:IV->Option β):Option β:=Rt E t .lss (fun a b=>Nat.ble (Nat.succ a) b) x y k
def leS (x y:IV) (k:IV->Option β):Option β:=Rt E t .leq Nat.ble x y k
def LN (x y:IV) (k:IV->Option β):Option β:=Rt E t .gtr (fun a b=>Nat.ble (Nat.succ b) a) x y k
def Tz (x y:IV) (k:IV->Option β):Option β:=Rt E t .geq (fun a b=>Nat.ble b a) x y k
def AiJ (op:BinOp) (x y:IV) (k:IV->Option β):Option β:=match op with
 | .add=>Bv E t x y k
 | .sub=>Bd E t x y k
 | .eql=>AO E t x y k
 | .neq=>Ck E t x y k
 | .lss=>GC E t x y k
 | .leq=>leS E t x y k
 | .gtr=>LN E t x y k
 | .geq=>Tz E t x y k
 | op=>CC E t op x y k
end
theorem Yf {n:Nat} (h:n<=9223372036854775807):IntKind.i64.wrap (n:Int)=n:=by
 have e:(n:Int) % (18446744073709551616:Int)=n:=by omega
 have e2:¬ (n:Int) ≥ (9223372036854775808:Int):=by omega
 show (if (true && decide (((n:Int) % (18446744073709551616:Int)) ≥ (9223372036854775808:Int)))=true then ((n:Int) % (18446744073709551616:Int)) - (18446744073709551616:Int) else ((n:Int) % (18446744073709551616:Int)))=n
 rw [e,decide_eq_false e2];rfl
def GU (v:FV) (k:List FV->Option β):Option β:=match v with
 | .agg cs=>k cs
 | _=>none
def asAgg (x:IV) (k:List IV->Option β) (kf:List FV->Option β):Option β:=match x with
 | .agg cs=>k cs
 | .fv v=>GU v kf
 | _=>none
def ArQ (o:Nat) (x:IV) (k:IV->Option β):Option β:=asAgg x (fun cs=>Dt cs o k) fun cs=>Dt cs o fun v=>k (.fv v)
def Ata (size o:Nat) (x:IV) (k:IV->Option β):Option β :=
 asAgg x (fun cs=>EH cs o fun cs=>Ge cs size fun cs=>O9 cs k) fun cs=>EH cs o fun cs=>Ge cs size fun cs=>k (.fv (.agg cs))
def EK (b:Blk) (k:List IV->Option β):Option β:=match b with
 | .row cells _=>k cells
 | _=>none
def GS (b:Blk) (k:List IV->Option β):Option β:=match b with
 | .row cells ro=>cond ro none (k cells)
 | _=>none
def Avk (v:FV) (k:List FV->Nat->Option β):Option β:=match v with
 | .fp cs o=>k cs o
 | _=>none
def Ez (x:IV) (k:Ref->Nat->Option β) (kf:List FV->Nat->Option β):Option β:=match x with
 | .ptr r o=>k r o
 | .fv v=>Avk v kf
 | _=>none
def Ak (a:IV) (h:Hp) (k:IV->List Ref->Option β):Option β :=
 Ez a (fun r o=>EA r h fun b=>EK b fun cells=>Dt cells o fun v=>k v [r]) fun cells o=>Dt cells o fun v=>k (.fv v) []
def Ae (size:Nat) (a:IV) (h:Hp) (k:IV->List Ref->Option β):Option β :=
 Ez a (fun r o=>EA r h fun b=>EK b fun cells=>EH cells o fun cs=>Ge cs size fun cs=>O9 cs fun v=>k v [r])
  fun cells o=>EH cells o fun cs=>Ge cs size fun cs=>k (.fv (.agg cs)) []
def spK {α:Type} (l:List α) (k:List α->Option β):Option β :=
 List.rec (motive:=fun _=>(List α->Option β)->Option β) (fun k=>k []) (fun x _ ih k=>ih fun xs=>k (x::xs)) l k
theorem HH {α:Type} (l:List α) (k:List α->Option β):spK l k=k l:=by
 induction l generalizing k with
 | nil=>rfl
 | cons x l ih=>rw [show spK (x::l) k=spK l (fun xs=>k (x::xs)) from rfl,ih]
def Kh (l:List IV) (j:Nat) (b:IV) (k:List IV->Option β):Option β :=
 List.rec (motive:=fun _=>Nat->(List IV->Option β)->Option β) (fun _ _=>none) (fun x t ih j k=>Nat.rec (motive:=fun _=>Option β) (k (b::t)) (fun p _=>ih p fun xs=>k (x::xs)) j) l j k
theorem Aam (l:List IV) (j:Nat) (b:IV) (k:List IV->Option β):Kh l j b k=if j<l.length then k (l.set j b) else none:=by
 induction l generalizing j k with
 | nil=>rw [if_neg (by simp)];rfl
 | cons x l ih=>cases j with
  | zero=>rw [if_pos (by simp)];rfl
  | succ j=>rw [show Kh (x::l) (j+1) b k=Kh l j b (fun xs=>k (x::xs)) from rfl,ih];simp
theorem KO {v:IV} (h:v.one=true):v.cells=[v]/\v.alive=true:=by
 cases v with
 | fv w=>cases w<;>simp_all [IV.one,IV.cells,IV.alive]
 | _=>simp_all [IV.one,IV.cells,IV.alive]
def wrK (cs:List FV):List IV->(List IV->Option β)->Option β :=
 List.rec (motive:=fun _=>List IV->(List IV->Option β)->Option β) (fun l k=>k l) (fun c _ ih l k=>AH l fun _ t=>ih t fun t'=>k (.fv c::t')) cs
def Dn (l:List IV) (o:Nat) (cs:List FV) (k:List IV->Option β):Option β :=
 List.rec (motive:=fun _=>Nat->(List IV->Option β)->Option β) (fun o k=>Nat.rec (motive:=fun _=>Option β) (wrK cs [] k) (fun _ _=>none) o)
  (fun x t ih o k=>Nat.rec (motive:=fun _=>Option β) (wrK cs (x::t) k) (fun p _=>ih p fun t'=>k (x::t')) o) l o k
theorem Ga (x:IV):∀(vs l:List IV) (o:Nat),A5 (x::l) (o+1) vs=x::A5 l o vs
 | [],_,_=>rfl
 | v::vs,l,o=>by
  simp only [A5,List.set_cons_succ];exact Ga x vs (l.set o v) (o+1)
theorem WJ:∀(cs:List FV) (l:List IV) {k:List IV->Option β} {r:β},wrK cs l k=some r->cs.length<=l.length/\k (A5 l 0 (cs.map .fv))=some r
 | [],l,k,r,h=>⟨Nat.zero_le _,h⟩
 | c::cs,l,k,r,h=>by
  have h:(AH l fun _ t=>wrK cs t fun t'=>k (.fv c::t'))=some r:=h;cases l with
  | nil=>cases h
  | cons x t =>
   have h:(wrK cs t fun t'=>k (.fv c::t'))=some r:=h;obtain ⟨h1,h2⟩:=WJ cs t h;refine ⟨by simp;omega,?_⟩;simp only [AzK,A5,List.set_cons_zero,Nat.zero_add];rw [Ga];exact h2
theorem MK:∀(l:List IV) (o:Nat) (cs:List FV) {k:List IV->Option β} {r:β},Dn l o cs k=some r->o+cs.length<=l.length/\k (A5 l o (cs.map .fv))=some r
 | [],0,cs,k,r,h=>by
  obtain ⟨h1,h2⟩:=WJ cs [] h;exact ⟨by simpa using h1,h2⟩
 | [],o+1,cs,k,r,h=>by cases h
 | x::t,0,cs,k,r,h=>by
  obtain ⟨h1,h2⟩:=WJ cs (x::t) h;exact ⟨by simpa using h1,h2⟩
 | x::t,o+1,cs,k,r,h=>by
  have h:(Dn t o cs fun t'=>k (x::t'))=some r:=h;obtain ⟨h1,h2⟩:=MK t o cs h;exact ⟨by simp;omega,by rw [Ga];exact h2⟩
def Jq (v:FV):Bool:=match v with
 | .agg _=>false
 | .tuple _=>false
 | _=>true
def EP (l:List FV):Bool:=List.rec (motive:=fun _=>Bool) true (fun v _ ih=>cond (Jq v) ih false) l
theorem NM:∀(l:List FV),EP l=true->(l.map IV.fv).all IV.one=true
 | [],_=>rfl
 | v::l,h=>by
  have h:cond (Jq v) (EP l) false=true:=h;cases hv:Jq v with
  | false=>rw [hv] at h;cases h
  | true =>
   rw [hv] at h;simp only [AzK,List.all_cons,NM l h,Bool.and_true];cases v<;>first | rfl | cases hv
def Ad (size:Nat) (a x:IV) (h:Hp) (k:Hp->List Ref->List Ref->Option β):Option β :=
 Ez a (fun r o=>EA r h fun b=>GS b fun cells=>O0 x (if x.alive/\x.cells.length=size/\o+size<=cells.length/\x.cells.all IV.one/\Gd r x then
  spK (A5 cells o x.cells) fun cells=>GD r (.row cells false) h fun h=>k h [r] [r] else none) fun v=>GU v fun cs=>cond (and (Nat.beq cs.length size) (EP cs)) (Dn cells o cs fun cells=>GD r (.row cells false) h fun h=>k h [r] [r]) none) fun _ _=>none
def B6 (a x:IV) (h:Hp) (k:Hp->List Ref->List Ref->Option β):Option β :=
 cond x.one (Ez a (fun r o=>EA r h fun b=>GS b fun cells=>cond (Gd r x) (Kh cells o x fun cells=>GD r (.row cells false) h fun h=>k h [r] [r]) none) fun _ _=>none) (Ad 1 a x h k)
def An1 (fn:Fn) (k:FuncId->Option β):Option β:=match fn with
 | .func g=>k g
 | _=>none
def Aub (v:FV) (k:IV->Option β):Option β:=match v with
 | .fp cs o=>k (.fv (.fp cs o))
 | .func fn a b=>An1 fn fun g=>k (.fv (.func (.func g) a b))
 | _=>none
def A0 (x:IV) (k:IV->Option β):Option β:=match x with
 | .ptr r o=>k (.ptr r o)
 | .fv v=>Aub v k
 | .func fn a b=>An1 fn fun g=>k (.func (.func g) a b)
 | _=>none
def Af (o:Nat) (x:IV) (k:IV->Option β):Option β :=
 Ez x (fun r off=>DU (off+o) fun o=>k (.ptr r o)) fun cs off=>DU (off+o) fun o=>k (.fv (.fp cs o))
def ApI (n:Int) (k:Nat->Option β):Option β:=match n with
 | .ofNat m=>k m
 | _=>none
def ApM (v:FV) (k:Nat->Option β):Option β:=match v with
 | .int _ n=>ApI n k
 | _=>none
def AhV (i:IV) (k:Nat->Option β):Option β:=O0 i none fun v=>ApM v k
theorem QL {i:IV} {k:Nat->Option β} {r:β} (h:AhV i k=some r):∃kd,∃n:Nat,i=.fv (.int kd n)/\k n=some r:=by
 unfold AhV O0 at h;split at h
 ·simp only [ApM] at h;split at h
  ·simp only [ApI] at h;split at h
   ·exact ⟨_,_,rfl,h⟩
   ·cases h
  ·cases h
 ·cases h
def AwI (v:FV) (k:List FV->Option β):Option β:=match v with
 | .sl es=>k es
 | _=>none
def AsC (x:IV) (k:List FV->Option β):Option β:=match x with
 | .nils=>k []
 | .emp=>k []
 | .clip es=>k es
 | .app _ es=>k es
 | .fv v=>AwI v k
 | _=>none
theorem Af8 (x:IV) (k:List FV->Option β):AsC x k=(BU x).bind k:=by
 cases x with
 | fv v=>cases v<;>rfl
 | _=>rfl
def elK (size:Nat) (el:FV) (k:IV->Option β):Option β:=match el with
 | .agg cs=>cond (Nat.beq cs.length size) (k (.fv (.fp cs 0))) none
 | v=>cond (Nat.beq 1 size) (k (.fv (.fp [v] 0))) none
theorem Akh (size:Nat) (el:FV) (k:IV->Option β):elK size el k=if el.cells.length=size then k (.fv (.fp el.cells 0)) else none:=by
 cases el<;>simp only [elK,GL,FV.cells]<;>rfl
def AcL (x:IV) (k:Ref->Nat->Nat->Option β) (e:Option β):Option β:=match x with
 | .slc r sz len=>k r sz len
 | _=>e
def AP (size:Nat) (x i:IV) (k:IV->Option β):Option β :=
 AhV i fun n=>AcL x (fun r sz len=>cond (and (Nat.ble (Nat.succ n) len) (Nat.beq sz size)) (DU (n * sz) fun o=>k (.ptr r o)) none) (AsC x fun es=>Dt es n fun el=>elK size el k)
def ixA (m size:Nat) (x i:IV) (k:IV->Option β):Option β :=
 AhV i fun n=>cond (Nat.ble (Nat.succ n) m) (Ez x (fun r o=>DU (o+n * size) fun o=>k (.ptr r o)) fun cells o=>DU (o+n * size) fun o=>k (.fv (.fp cells o))) none
def AuO (m size:Nat) (x i:IV) (k:IV->Option β):Option β :=
 AhV i fun n=>cond (Nat.ble (Nat.succ n) m) (O0 x none fun v=>GU v fun cs=>Dt cs (n * size) fun v=>k (.fv v)) none
def At1 (v:FV) (k:List FV->Option β):Option β:=match v with
 | .tuple vs=>k vs
 | _=>none
def Aq (ix:Nat) (x:IV) (k:IV->Option β):Option β:=match x with
 | .tuple vs=>Dt vs ix k
 | .fv v=>At1 v fun vs=>Dt vs ix fun v=>k (.fv v)
 | _=>none
def BF (x:IV) (k:IV->Option β):Option β:=AcL x (fun _ _ n=>NR n k) (AsC x fun es=>NR es.length k)
def AdR (z:List IV) (o sz:Nat) (v:IV) (k:List IV->Option β):Option β :=
 cond v.one (cond (Nat.beq sz 1) (Kh z o v k) none) (if v.alive/\v.cells.length=sz/\o+sz<=z.length then spK (A5 z o v.cells) k else none)
def LH (z:List IV) (o sz:Nat) (v:IV) (k:List IV->Option β):Option β :=
 O0 v (AdR z o sz v k) fun w=>cond (Jq w) (cond (Nat.beq sz 1) (Kh z o v k) none) (GU w fun cs=>cond (Nat.beq cs.length sz) (Dn z o cs k) none)
def OD (z:List IV) (pl:List (Nat×Nat×IV)) (k:List IV->Option β):Option β :=
 List.rec (motive:=fun _=>List IV->Option β) (fun z=>k z) (fun p _ ih z=>match p with
  | (o,sz,v)=>LH z o sz v ih) pl z
def BJ (z:List IV) (pl:List (Nat×Nat×IV)) (k:IV->Option β):Option β:=OD z pl fun cells=>O9 cells k
def K4 {α:Type} (place:Nat->Option (Nat×Nat)):List (Nat×α)->Option (List (Nat×Nat×α))
 | []=>some []
 | (i,x)::l=>match place i with
  | none=>none
  | some (o,s)=>match K4 place l with
   | none=>none
   | some r=>some ((o,s,x)::r)
def AbV {α:Type} (g:α->IV):List (Nat×Nat×α)->List (Nat×Nat×IV)
 | []=>[]
 | (o,s,x)::l=>(o,s,g x)::AbV g l
def CY (l:List (Nat×Blk)) (s:Nat) (a:Option β):Option β :=
 List.rec (motive:=fun _=>Option β) a (fun p _ ih=>match p with | (j,_)=>cond (Nat.beq s j) none ih) l
theorem P3 {l:List (Nat×Blk)} {s:Nat} {a:Option β} {r:β} (h:CY l s a=some r):Aw s l=none/\a=some r:=by
 induction l with
 | nil=>exact ⟨rfl,h⟩
 | cons p l ih =>
  obtain ⟨j,b⟩:=p;have h:cond (Nat.beq s j) none (CY l s a)=some r:=h;rw [GL] at h;split at h
  ·cases h
  ·rename_i hn;obtain ⟨h1,h2⟩:=ih h;exact ⟨by simp only [Aw,if_neg hn,h1],h2⟩
def Ay (s:Nat) (b:Blk) (v:IV) (h:Hp) (k:IV->Hp->List Ref->List Ref->Option β):Option β:=match h with
 | ⟨own,ext⟩=>CY own s (Bk own s b fun own=>k v ⟨own,ext⟩ [] [.own s])
def AR (s:Nat) (x:IV) (h:Hp) (k:IV->Hp->List Ref->List Ref->Option β):Option β :=
 cond x.one (Ay s (.row [x] false) (.ptr (.own s) 0) h k) (cond x.alive (spK x.cells fun cs=>Ay s (.row cs false) (.ptr (.own s) 0) h k) none)
def ApW (u:List (Ref×Blk)):Hp->(Hp->Option β)->Option β :=
 List.rec (motive:=fun _=>Hp->(Hp->Option β)->Option β) (fun h k=>k h) (fun p _ rec h k=>match p with
  | (r,b)=>fRf r fun r=>EA r h fun _=>fBk b fun b=>GD r b h fun h=>rec h k) u
theorem ZO:∀(u:List (Ref×Blk)) (h:Hp) {k:Hp->Option β} {r:β},ApW u h k=some r->∃h',laid h u=some h'/\k h'=some r
 | [],h,k,r,e=>⟨h,rfl,e⟩
 | (q,b)::u,h,k,r,e=>by
  have e:(fRf q fun q=>EA q h fun _=>fBk b fun b=>GD q b h fun h=>ApW u h k)=some r:=e;rw [QH,Eo] at e;simp only [CW,Kf] at e;cases hg:h.get q with
  | none=>rw [hg] at e;cases e
  | some c =>
   rw [hg] at e;obtain ⟨h',h1,h2⟩:=ZO u (h.set q b) e;exact ⟨h',by simp only [laid,hg,h1],h2⟩
def Lc (o:Option Blk) (s:Nat) (h:Hp) (k:Hp->Option β):Option β:=match o with
 | none=>k h
 | some b=>match h with
  | ⟨own,ext⟩=>CY own s (fBk b fun b=>Bk own s b fun own=>k ⟨own,ext⟩)
def AE (m:Rd Made) (s:Nat) (h:Hp) (k:IV->Hp->List Ref->List Ref->Option β):Option β:=match m.runLog h [] with
 | none=>none
 | some (m,rd)=>ApW m.eff.upd h fun h=>Lc m.new s h fun h=>fV 3 m.eff.val fun v=>k v h rd (Bp m.eff.upd++HT s m)
def AtX (v:FV) (e:Option β) (k:List FV->Option β):Option β:=match v with
 | .agg cs=>k cs
 | _=>e
def fzS (m:Rd Made) (s:Nat) (x:IV) (h:Hp) (k:IV->Hp->List Ref->List Ref->Option β):Option β :=
 O0 x (AE m s h k) fun v=>AtX v (AE m s h k) fun cs=>cond (Nat.ble cs.length 2000) (k (.fv (.fp cs 0)) h [] []) (AE m s h k)
def W2 (E:Env) (s d:TypeId) (x:IV) (k:IV->Option β):Option β :=
 Jw x (C8 (Ki E s d x) k) fun n=>cond (Nat.ble n 9223372036854775807) (NR n k) (C8 (Ki E s d x) k)
def AhQ (v:FV) (want:Bool) (h:Hp) (m:(IV->Hp->List Ref->List Ref->Option β)->Option β) (k:IV->Hp->List Ref->List Ref->Option β):Option β:=match v with
 | .bool b=>cond (cond want b (not b)) (m k) (k Fg h [] [])
 | .tuple l=>List.casesOn (motive:=fun _=>Option β) l (k Fg h [] []) fun _ _=>none
 | _=>none
def Ac (v:IV) (want:Bool) (h:Hp) (m:(IV->Hp->List Ref->List Ref->Option β)->Option β) (k:IV->Hp->List Ref->List Ref->Option β):Option β:=O0 v none fun v=>AhQ v want h m k
def EG (split:Bool) (ih:Aa) (f:FuncId) (args:List IV) (ext:List Blk):Option (IV×Hp) :=
 if split then match args,ext with
  | [.fv (.sl [])],[]=>if Cm (ih f [.nils] ⟨[],[]⟩) && Cm (ih f [.emp] ⟨[],[]⟩) then some (.fv (.sl []),⟨[],[]⟩) else none
  | _,_=>ih f args ⟨[],ext⟩
 else ih f args ⟨[],ext⟩
def EF (keep:List Bool) (split raw:Bool) (ih:Aa) (f:FuncId) (args:List IV) (h:Hp) (k:IV->Hp->List Ref->List Ref->Option β):Option β :=
 match (Br keep args).runLog h [] with
 | none=>none
 | some (
     (vs,rs,u),l1)=>match (Cb 4096 rs []).runLog h l1 with
  | none=>none
  | some (
      l,l2)=>match IV.ren.renL (Ff l) vs with
   | none=>none
   | some vs' =>
          match A9 (Ff l) (l.map (·.2)) with
    | none=>none
    | some ext=>fL (fV 3) vs' fun vs'=>fL fBk ext fun ext=>match EG split ih f vs' ext with
     | none=>none
     | some (
         res,hp')=>match (if raw then some res else ((C0 4096 res).run hp').map fun (v,_)=>.fv v) with
      | none=>none
      | some res=>match res.ren (CD l) with
       | none=>none
       | some res=>match A9 (CD l) hp'.ext with
        | none=>none
        | some ext'=>if ext'.length=l.length/\(Bp u).all (fun r=>!hasRef r l) then
          match laid h (u++(Bp l).zip ext') with
          | none=>none
          | some h'=>fH h' fun h'=>fV 3 res fun res=>k res h' l2 (Bp (u++(Bp l).zip ext'))
         else none
def Xk (r:Ref) (e:Option β) (k:Nat->Option β):Option β:=match r with
 | .own s=>k s
 | .ext _=>e
def Qp {α:Type} (u us:List α) (k:List α->Option β):Option β :=
 List.rec (motive:=fun _=>(List α->Option β)->Option β) (fun k=>k us) (fun x _ ih k=>ih fun w=>k (x::w)) u k
theorem Xw {α:Type} (u us:List α) (k:List α->Option β):Qp u us k=k (u++us):=by
 induction u generalizing k with
 | nil=>rfl
 | cons x u ih=>rw [show Qp (x::u) us k=Qp u us (fun w=>k (x::w)) from rfl,ih];rfl
abbrev FzK (β:Type):=IV->Hp->List Ref->Option β->(FV->List (Ref×Blk)->List Ref->Option β)->Option β
def EI (g:FzK β) (l:List IV):Hp->List Ref->Option β->(List FV->List (Ref×Blk)->List Ref->Option β)->Option β :=
 List.rec (motive:=fun _=>Hp->List Ref->Option β->(List FV->List (Ref×Blk)->List Ref->Option β)->Option β) (fun _ lg _ k=>k [] [] lg)
  (fun x _ rec h lg e k=>g x h lg e fun y u lg=>rec h lg e fun ys us lg=>Qp u us fun w=>k (y::ys) w lg) l
def elF (x:FV) (k:FV->Option β):Option β:=match x with
 | .agg l=>k (.agg [.agg l])
 | x=>k x
def elL (x:FV) (t:List FV) (k:FV->Option β):Option β:=match t with
 | []=>elF x k
 | y::t=>k (.agg (x::y::t))
def Apb (a:List FV) (k:FV->Option β):Option β:=match a with
 | []=>k (.agg [])
 | x::t=>elL x t k
theorem Amy (a:List FV) (k:FV->Option β):Apb a k=k (Ra a):=by
 cases a with
 | nil=>rfl
 | cons x t=>cases t with
  | nil=>cases x<;>rfl
  | cons y t=>cases x<;>rfl
def chK (sz len:Nat) (cs:List FV) (k:List FV->Option β):Option β :=
 Nat.rec (motive:=fun _=>List FV->(List FV->Option β)->Option β) (fun _ k=>k []) (fun _ rec cs k=>Ge cs sz fun a=>EH cs sz fun b=>Apb a fun x=>rec b fun xs=>k (x::xs)) len cs k
theorem Ah2 (sz:Nat):∀(len:Nat) (cs:List FV) {k:List FV->Option β} {r:β},chK sz len cs k=some r->k (BV sz len cs)=some r
 | 0,_,_,_,h=>h
 | len+1,cs,k,r,h=>by
  have h:(Ge cs sz fun a=>EH cs sz fun b=>Apb a fun x=>chK sz len b fun xs=>k (x::xs))=some r:=h;rw [JQ] at h;by_cases h1:sz<=cs.length
  ·rw [if_pos h1,J6,if_pos h1,Amy] at h;exact Ah2 sz len _ h
  ·rw [if_neg h1] at h;cases h
def Gs (d:Nat):FzK β :=
 Nat.rec (motive:=fun _=>FzK β) (fun _ _ _ e _=>e) (fun _ g v h lg e k=>match v with
  | .fv v=>k v [] lg
  | .nils=>k (.sl []) [] lg
  | .emp=>k (.sl []) [] lg
  | .clip es=>k (.sl es) [] lg
  | .app _ es=>k (.sl es) [] lg
  | .ptr r off=>Xk r e fun s=>EA (.own s) h fun b=>EK b fun cells=>cond (Nat.ble cells.length 300) (EI g cells h (.own s::lg) e fun cs u lg=>k (.fp cs off) ((.own s,.row cells true)::u) lg) e
  | .slc r sz len=>Xk r e fun s=>EA (.own s) h fun b=>EK b fun cells=>cond (Nat.ble cells.length 300) (cond (or (Nat.beq sz 0) (not (Nat.ble (len * sz) cells.length))) none
    (EI g cells h (.own s::lg) e fun cs u lg=>chK sz len cs fun els=>k (.sl els) ((.own s,.row cells true)::u) lg)) e
  | .agg cs=>cond (Nat.ble cs.length 300) (EI g cs h lg e fun cs u lg=>k (.agg cs) u lg) e
  | .func fn a b=>cond (and (Nat.ble a.length 300) (Nat.ble b.length 300)) (EI g a h lg e fun x u lg=>EI g b h lg e fun y v lg=>Qp u v fun w=>k (.func fn x y) w lg) e
  | _=>e) d
def fzA (args:List IV):List Bool->Hp->List Ref->Option β->(List IV->List Ref->List (Ref×Blk)->List Ref->Option β)->Option β :=
 List.rec (motive:=fun _=>List Bool->Hp->List Ref->Option β->(List IV->List Ref->List (Ref×Blk)->List Ref->Option β)->Option β) (fun _ _ lg _ k=>k [] [] [] lg)
  (fun x _ rec keep h lg e k=>match keep with
   | []=>Gs 12 x h lg e fun y u lg=>rec [] h lg e fun vs rs us lg=>Qp u us fun w=>k (.fv y::vs) rs w lg
   | b::ks=>cond b (Ez x (fun r o=>rec ks h lg e fun vs rs us lg=>k (.ptr r o::vs) (r::rs) us lg) fun _ _=>e)
     (Gs 12 x h lg e fun y u lg=>rec ks h lg e fun vs rs us lg=>Qp u us fun w=>k (.fv y::vs) rs w lg)) args
def Vf (v:IV):List Ref->List Ref :=
 IV.rec (motive_1:=fun _=>List Ref->List Ref) (motive_2:=fun _=>List Ref->List Ref) (fun acc=>acc) (fun _ acc=>acc) (fun r _ acc=>r::acc) (fun r _ _ acc=>r::acc) (fun acc=>acc) (fun acc=>acc) (fun _ acc=>acc)
  (fun r _ acc=>r::acc) (fun _ _ _ f g acc=>f (g acc)) (fun _ f acc=>f acc) (fun _ f acc=>f acc) (fun r acc=>r::acc) (fun acc=>acc) (fun _ _ f g acc=>f (g acc)) v
def CJ (l:List IV):List Ref->List Ref :=
 IV.rec_1 (motive_1:=fun _=>List Ref->List Ref) (motive_2:=fun _=>List Ref->List Ref) (fun acc=>acc) (fun _ acc=>acc) (fun r _ acc=>r::acc) (fun r _ _ acc=>r::acc) (fun acc=>acc) (fun acc=>acc) (fun _ acc=>acc)
  (fun r _ acc=>r::acc) (fun _ _ _ f g acc=>f (g acc)) (fun _ f acc=>f acc) (fun _ f acc=>f acc) (fun r acc=>r::acc) (fun acc=>acc) (fun _ _ f g acc=>f (g acc)) l
def EJ (b:Blk):List Ref:=match b with
 | .row cells _=>CJ cells []
 | .tok _ _=>[]
 | .map es=>List.rec (motive:=fun _=>List Ref) [] (fun p _ ih=>match p with | (_,v)=>Vf v ih) es
def goR (rec:List Ref->Nat->List Blk->Bool) (t:List Ref) (s:Nat) (rest:List Blk):Bool:=match rest with
 | []=>false
 | b::rest=>rec (t++EJ b) (Nat.succ s) rest
def OZ (n:Nat):List Ref->Nat->List Blk->Bool :=
 Nat.rec (motive:=fun _=>List Ref->Nat->List Blk->Bool) (fun _ _ _=>false) (fun _ rec todo s rest=>match todo with
  | []=>(match rest with
   | []=>true
   | _::_=>false)
  | r::t=>(match r with
   | .own _=>false
   | .ext j=>cond (Nat.ble (Nat.succ j) s) (rec t s rest) (cond (Nat.beq j s) (goR rec t s rest) false))) n
def okR (m:Nat) (rs:List Ref):Bool :=
 List.rec (motive:=fun _=>Bool) true (fun r _ rec=>match r with
  | .own _=>false
  | .ext j=>cond (Nat.ble (Nat.succ j) m) rec false) rs
def okB (m:Nat) (l:List Blk):Bool:=List.rec (motive:=fun _=>Bool) true (fun b _ rec=>cond (okR m (EJ b)) rec false) l
def O8 (u:List (Ref×Blk)):Hp->(Hp->Option β)->Option β :=
 List.rec (motive:=fun _=>Hp->(Hp->Option β)->Option β) (fun h k=>k h) (fun p _ rec h k=>match p with
  | (r,b)=>Xk r none fun s=>EA (.own s) h fun _=>GD (.own s) b h fun h=>rec h k) u
def Do (m:Nat):List Ref:=(List.range m).map .ext
def Ai (keep:List Bool) (split raw:Bool) (ih:Aa) (f:FuncId) (args:List IV) (h:Hp) (k:IV->Hp->List Ref->List Ref->Option β):Option β :=
 cond (
    cond split true raw) (EF keep split raw ih f args h k)
  (fzA args keep h [] (EF keep split raw ih f args h k) fun vs rs u lg=>match rs with
   | []=>(match ih f vs ⟨[],[]⟩ with
    | none=>none
    | some p=>match p with
     | (v,h')=>match h' with
      | ⟨own,ext⟩=>List.casesOn (motive:=fun _=>Option β) ext (Gs 12 v ⟨own,[]⟩ [] (EF keep split raw ih f args h k) fun w _ _=>O8 u h fun h2=>k (.fv w) h2 lg (Bp u)) fun _ _=>none)
   | r::rs=>(match h with
    | ⟨own,ext⟩=>cond (OZ 400 (r::rs) 0 ext) (match ih f vs ⟨[],ext⟩ with
     | none=>none
     | some p=>match p with
      | (v,h')=>match h' with
       | ⟨own',ext'⟩=>cond (and (Nat.beq ext'.length ext.length) (okB ext.length ext'))
        (Gs 12 v ⟨own',ext'⟩ [] (EF keep split raw ih f args h k) fun w _ _=>O8 u ⟨own,ext'⟩ fun h2=>k (.fv w) h2 ((Do ext.length).reverse++lg) (Bp u++Do ext.length)) none)
     (EF keep split raw ih f args h k)))
def Pa (E:Env) (ih:Aa) (g:IV) (args:List IV) (h:Hp) (k:IV->Hp->List Ref->List Ref->Option β):Option β:=match callee g with
 | none=>none
 | some (f,first,cap)=>cond (E.pol.inl f) none (spK (first++args++cap) fun args=>Ai (E.pol.keep f) (E.pol.split f) (E.pol.raw f) ih f args h k)
def Aus (ih:Aa) (f:FuncId) (args:List IV) (h:Hp) (k:IV->Hp->List Ref->List Ref->Option β):Option β:=match ih f args h with
 | none=>none
 | some p=>match p with
  | (v,h)=>k v h [] []
section
variable (E:Env)
def An (t:TypeId) (len:Nat) (parts:List (Nat×IV)):Rd Made:=match E.T t with
  | some ⟨_,_,.slice e,_⟩=>match E.T e with
   | some ei=>if ei.size=0\/len * ei.size > 65536 then .fail else
    match CF (fun j=>some (j * ei.size,ei.size)) (R1 len ei.zero) parts with
    | some cells=>(frzL 65536 cells).bind fun (vs,u)=>.ret { eff:={ val:=.clip (BV ei.size len vs),upd:=u } }
    | none=>.fail
   | none=>.fail
  | _=>.fail
def L9 (t:TypeId) (parts:List (Nat×IV)):Rd Made:=match E.T t with
  | some ⟨_,_,.struct fs,z⟩=>Gt ((CF (Ew E fs) z parts).map Fr)
  | some ⟨_,_,.arr _ e,z⟩=>match E.T e with
   | some ei=>Gt ((CF (fun j=>some (j * ei.size,ei.size)) z parts).map Fr)
   | none=>.fail
  | _=>.fail
def Na (fz:Bool) (s:Nat) (v:IV):Rd Made :=
  if v.alive=false then .fail else
  if fz then (frzL 4096 v.cells).bind fun (vs,u)=>.ret { eff:={ val:=.fv (.fp vs 0),upd:=u } }
  else .ret { eff:={ val:=.ptr (.own s) 0 },new:=some (.row v.cells false) }
def AhG (s:Nat):Rd Made:=.ret { eff:={ val:=.mapr (.own s) },new:=some (.map []) }
def Ut (t:TypeId) (m k v:IV):Rd Made:=match E.T t with
  | some ⟨_,_,.map kt _,_⟩=>match E.T kt,m,k with
   | some ⟨_,_,.int .i64,_⟩,.mapr r,.fv (.int .i64 n)=>.get r fun
    | .map es =>
     if v.alive/\Gd r v then .ret { eff:={ val:=.dead,upd:=[(r,.map (Gj n v es))] } } else .fail
    | _=>.fail
   | _,_,_=>.fail
  | _=>.fail
def Ajz (t:TypeId) (m k:IV) (ok:Bool):Rd Made:=match E.T t with
  | some ⟨
      _,_,.map kt et,_⟩=>match E.T kt,E.T et,m,k with
   | some ⟨_,_,.int .i64,_⟩,some ei,.mapr r,.fv (.int .i64 n)=>.get r fun
    | .map es=>match KS n es with
     | some v=>val (if ok then Dl [v,.fv (.bool true)] else v)
     | none=>match XM ei with
      | some z=>val (if ok then Dl [z,.fv (.bool false)] else z)
      | none=>.fail
    | _=>.fail
   | _,_,_,_=>.fail
  | _=>.fail
def Et (s:Nat) (t:TypeId) (l c:IV):Rd Made:=match E.T t with
  | some ⟨_,_,.slice e,_⟩=>match E.T e,l,c with
   | some ei,.fv (.int .i64 a),.fv (.int .i64 b) =>
    if 0<=a/\a<=b/\b<=1048576/\ei.size≠0/\ei.bytes<=65536 then
     .ret { eff:={ val:=.slc (.own s) ei.size a.toNat },new:=some (.row (R1 b.toNat ei.zero) false) }
    else .fail
   | _,_,_=>.fail
  | _=>.fail
def YM (t:TypeId) (x ix:IV):Rd Made:=match E.T t,x,ix with
  | some ⟨_,_,.str,_⟩,.fv (.str s),.fv (.int _ n)=>if n<0 then .fail else match s[n.toNat]? with
   | some b=>val (.fv (.int .u8 b.toNat))
   | none=>.fail
  | some ⟨_,_,.arr m e,_⟩,.fv (.agg cs),.fv (.int _ n)=>match E.T e with
   | some ei=>if 0<=n/\n<(m:Int) then Gt ((Bt ei.kind.isAgg ei.size (n.toNat * ei.size) cs).map .fv) else .fail
   | none=>.fail
  | _,_,_=>.fail
theorem AiF {ih:Aa} {f rid i:Nat} {ρ:Operand->IV} {t:TypeId} {x:Operand}:C1 E ih f rid i ρ (.box t x)=Na (E.pol.fzBox f rid i) (Bi f rid i) (ρ x):=rfl
end
abbrev UF {α:Type} (b:Bool) (x y:α):α:=Bool.rec (motive:=fun _=>α) y x b
theorem BE {α:Type} (b:Bool) (x y:α):UF b x y=cond b x y:=by cases b<;>rfl
section
variable (E:Env) (ih:Aa)
def Fo:Op->Bool
 | .move _ | .assign _ | .pick .. | .nilCheck _ | .binOp .. | .unOp .. | .convert .. | .fieldAddr .. | .field .. | .extract ..=>true
 | .build t _=>match E.T t with
  | some ⟨_,_,.struct _,_⟩=>true
  | _=>false
 | .indexAddr t _ _=>match E.T t with
  | some ⟨_,_,.slice e,_⟩=>(match E.T e with | some _=>true | none=>false)
  | some ⟨_,_,.arr _ e,_⟩=>(match E.T e with | some _=>true | none=>false)
  | _=>false
 | .index t _ _=>match E.T t with
  | some ⟨_,_,.arr _ e,_⟩=>(match E.T e with | some ei=>!ei.kind.isAgg | none=>false)
  | _=>false
 | .call { callee:=.builtin .len,argTypes,args }=>match argTypes.toList,args.toList with
  | [t],[_]=>(match E.T t with | some ⟨_,_,.slice _,_⟩=>true | _=>false)
  | _,_=>false
 | _=>false
def WT (f:FuncId) (rid i:Nat) (drawn:Bool) (ρ:Operand->IV) (cl:Callee) (args:List Operand) (ts:List TypeId) (h:Hp) (k:IV->Hp->List Ref->List Ref->Option β):Option β:=match cl with
 | .builtin b=>match b,ts,args with
  | .len,[t],[x]=>(match E.T t with
   | some ⟨_,_,.slice _,_⟩=>BF (ρ x) fun v=>k v h [] []
   | _=>AE (AJ E (Bi f rid i) (E.pol.rowApp f rid i) b ts (args.map ρ)) (Bi f rid i) h k)
  | _,_,_=>AE (AJ E (Bi f rid i) (E.pol.rowApp f rid i) b ts (args.map ρ)) (Bi f rid i) h k
 | .value g=>match g with
  | .func g=>UF (E.pol.inl g) (UF drawn none (Aus ih g (args.map ρ) h k)) (Ai (E.pol.keep g) (E.pol.split g) (E.pol.raw g) ih g (args.map ρ) h k)
  | g=>Pa E ih (ρ g) (args.map ρ) h k
 | _=>none
def IZ (f:FuncId) (rid i:Nat) (drawn:Bool) (ρ:Operand->IV) (op:Op) (h:Hp) (k:IV->Hp->List Ref->List Ref->Option β):Option β:=match op with
 | .move x=>k (ρ x) h [] []
 | .assign x=>k (ρ x) h [] []
 | .pick c a b=>AI (ρ c) (ρ a) (ρ b) fun v=>k v h [] []
 | .alloc t=>match E.T t with
  | some ti=>Ay (Bi f rid i) (.row ti.zero false) (.ptr (.own (Bi f rid i)) 0) h k
  | none=>none
 | .box _ x=>UF (E.pol.fzBox f rid i) (fzS (Na true (Bi f rid i) (ρ x)) (Bi f rid i) (ρ x) h k) (AR (Bi f rid i) (ρ x) h k)
 | .build t parts=>match E.T t with
  | some ⟨_,_,.struct fs,z⟩=>(match K4 (Ew E fs) parts.toList with
   | some l=>BJ z (AbV ρ l) fun v=>k v h [] []
   | none=>none)
  | _=>AE (L9 E t (parts.toList.map fun (j,x)=>(j,ρ x))) (Bi f rid i) h k
 | .buildSlice t len parts=>AE (An E t len (parts.toList.map fun (j,x)=>(j,ρ x))) (Bi f rid i) h k
 | .makeFunc fn a b=>AE (val (R3 fn (a.toList.map ρ) (b.toList.map ρ))) (Bi f rid i) h k
 | .makeMap _ n=>(match n with
  | none=>AE (AhG (Bi f rid i)) (Bi f rid i) h k
  | some _=>none)
 | .insert t m j x=>AE (Ut E t (ρ m) (ρ j) (ρ x)) (Bi f rid i) h k
 | .mapUpdate t m j x=>AE (Ut E t (ρ m) (ρ j) (ρ x)) (Bi f rid i) h k
 | .lookup t m j ok=>AE (Ajz E t (ρ m) (ρ j) ok) (Bi f rid i) h k
 | .makeSlice t l c=>AE (Et E (Bi f rid i) t (ρ l) (ρ c)) (Bi f rid i) h k
 | .slice t x lo hi mx=>AE (Jb E t (ρ x) (lo.map ρ) (hi.map ρ) (mx.map ρ)) (Bi f rid i) h k
 | .load t a=>match E.T t with
  | none=>none
  | some ti=>UF ti.kind.isAgg (Ae ti.size (ρ a) h fun v rd=>k v h rd []) (Ak (ρ a) h fun v rd=>k v h rd [])
 | .store t a x=>match E.T t with
  | none=>none
  | some ti=>UF (Nat.beq ti.size 1) (B6 (ρ a) (ρ x) h fun h rd wr=>k .dead h rd wr) (Ad ti.size (ρ a) (ρ x) h fun h rd wr=>k .dead h rd wr)
 | .nilCheck x=>A0 (ρ x) fun v=>k v h [] []
 | .binOp op t x y _=>AiJ E t op (ρ x) (ρ y) fun v=>k v h [] []
 | .unOp op _ x=>C8 (KN op (ρ x)) fun v=>k v h [] []
 | .convert s d x=>match E.T s,E.T d with
  | some _,some ⟨_,_,.int .i64,_⟩=>W2 E s d (ρ x) fun v=>k v h [] []
  | _,_=>C8 (Ki E s d (ρ x)) fun v=>k v h [] []
 | .fieldAddr s x fd=>match Hf E s fd with
  | some (o,ti)=>UF (Nat.beq ti.size 0) none (Af o (ρ x) fun v=>k v h [] [])
  | none=>none
 | .field s x fd=>match Hf E s fd with
  | some (o,ti)=>UF ti.kind.isAgg (Ata ti.size o (ρ x) fun v=>k v h [] []) (ArQ o (ρ x) fun v=>k v h [] [])
  | none=>none
 | .indexAddr t x ix=>match E.T t with
  | some ⟨_,_,.slice e,_⟩=>(match E.T e with
   | some ei=>AP ei.size (ρ x) (ρ ix) fun v=>k v h [] []
   | none=>none)
  | some ⟨_,_,.arr m e,_⟩=>(match E.T e with
   | some ei=>ixA m ei.size (ρ x) (ρ ix) fun v=>k v h [] []
   | none=>none)
  | _=>none
 | .index t x ix=>match E.T t with
  | some ⟨_,_,.arr m e,_⟩=>(match E.T e with
   | some ei=>UF ei.kind.isAgg (AE (YM E t (ρ x) (ρ ix)) (Bi f rid i) h k) (AuO m ei.size (ρ x) (ρ ix) fun v=>k v h [] [])
   | none=>none)
  | _=>AE (YM E t (ρ x) (ρ ix)) (Bi f rid i) h k
 | .extract x ix=>Aq ix (ρ x) fun v=>k v h [] []
 | .call c=>match c with
  | { callee,args,argTypes }=>WT E ih f rid i drawn ρ callee args.toList argTypes.toList h k
 | _=>none
end
end
end Idl
end Go.Proofs.Ytdibmackcbpniaa
namespace Go.Proofs.Ytdibmackcbpniaa
namespace Idl
section
variable {β:Type} {E:Env} {ih ih':Aa} {f rid i:Nat} {dr:Bool} {ρ:Operand->IV} {hp:Hp} {k:IV->Hp->List Ref->List Ref->Option β} {r:β}
def Awy (E:Env) (ih:Aa) (f rid i:Nat) (ρ:Operand->IV) (op:Op) (hp:Hp) (v:IV) (hp':Hp) (rd wr:List Ref):Prop :=
 ∃m,(C1 E ih f rid i ρ op).runLog hp []=some (m,rd)/\AQ (Bi f rid i) hp m=some hp'/\m.eff.val=v/\wr=Bp m.eff.upd++HT (Bi f rid i) m
def Gv (E:Env) (ih:Aa) (f rid i:Nat) (ρ:Operand->IV) (op:Op) (hp:Hp) (k:IV->Hp->List Ref->List Ref->Option β) (r:β):Prop :=
 ∃v hp' rd wr,Awy E ih f rid i ρ op hp v hp' rd wr/\k v hp' rd wr=some r/\(Fo E op=true->rd=[]/\wr=[])
theorem AZ {op:Op} {v:IV} (e:C1 E ih f rid i ρ op=val v) (h:k v hp [] []=some r):Gv E ih f rid i ρ op hp k r :=
 ⟨v,hp,[],[],⟨{ eff:={ val:=v } },by rw [e];rfl,rfl,rfl,rfl⟩,h,fun _=>⟨rfl,rfl⟩⟩
theorem PS {op:Op} {o:Option IV} (e:C1 E ih f rid i ρ op=Gt o) (h:(o.bind fun v=>k v hp [] [])=some r):Gv E ih f rid i ρ op hp k r:=by
 cases o with
 | none=>cases h
 | some v=>exact AZ e h
theorem Uj {op:Op} {b:Blk} {v:IV} (hq:Fo E op=false) (e:C1 E ih f rid i ρ op=.ret { eff:={ val:=v },new:=some b })
  (h:Ay (Bi f rid i) b v hp k=some r):Gv E ih f rid i ρ op hp k r:=by
 obtain ⟨own,ext⟩:=hp;have h:CY own (Bi f rid i) (Bk own (Bi f rid i) b fun own=>k v ⟨own,ext⟩ [] [.own (Bi f rid i)])=some r:=h;obtain ⟨h1,h2⟩:=P3 h;rw [Fh] at h2;refine ⟨v,⟨Bf (Bi f rid i) b own,ext⟩,[],[.own (Bi f rid i)],⟨_,by rw [e];rfl,?_,rfl,rfl⟩,h2,fun q=>by rw [hq] at q;cases q⟩;simp only [AQ,laid,Option.bind_some,CI];rw [show (Hp.mk own ext).get (.own (Bi f rid i))=none from h1]
 rfl
theorem BN {op:Op} {m:Rd Made} (hq:Fo E op=false) (e:C1 E ih f rid i ρ op=m) (h:AE m (Bi f rid i) hp k=some r):Gv E ih f rid i ρ op hp k r:=by
 unfold AE at h;cases hm:m.runLog hp [] with
 | none=>rw [hm] at h;cases h
 | some p =>
  obtain ⟨m',rd⟩:=p;rw [hm] at h;simp only at h;obtain ⟨h1,l1,h⟩:=ZO _ _ h;have hh:∃h2,CI (Bi f rid i) m' h1=some h2/\k m'.eff.val h2 rd (Bp m'.eff.upd++HT (Bi f rid i) m')=some r:=by
   unfold Lc at h;unfold CI;cases hn:m'.new with
   | none=>rw [hn] at h;simp only [Cx] at h;exact ⟨h1,rfl,h⟩
   | some b =>
    rw [hn] at h;obtain ⟨own,ext⟩:=h1;simp only [CW,Fh,Cx] at h;obtain ⟨f1,f2⟩:=P3 h;refine ⟨⟨Bf (Bi f rid i) b own,ext⟩,?_,f2⟩;simp only;rw [show (Hp.mk own ext).get (.own (Bi f rid i))=none from f1]
    rfl
  obtain ⟨h2,l2,h⟩:=hh;exact ⟨_,h2,rd,_,⟨m',by rw [e,hm],by simp only [AQ,l1,Option.bind_some,l2],rfl,rfl⟩,h,fun q=>by rw [hq] at q;cases q⟩
theorem NG {x:IV} {e:Option β} {k:FV->Option β} (h:O0 x e k=some r):(∃v,x=.fv v/\k v=some r)\/e=some r:=by
 unfold O0 at h;split at h
 ·exact .inl ⟨_,rfl,h⟩
 ·exact .inr h
theorem SN {x:IV} {k:List IV->Option β} {kf:List FV->Option β} (h:asAgg x k kf=some r):(∃cs,x=.agg cs/\k cs=some r)\/(∃cs,x=.fv (.agg cs)/\kf cs=some r):=by
 unfold asAgg at h;split at h
 ·exact .inl ⟨_,rfl,h⟩
 ·unfold GU at h;split at h
  ·exact .inr ⟨_,rfl,h⟩
  ·cases h
 ·cases h
theorem Dv {x:IV} {k:Ref->Nat->Option β} {kf:List FV->Nat->Option β} (h:Ez x k kf=some r):(∃q o,x=.ptr q o/\k q o=some r)\/(∃cs o,x=.fv (.fp cs o)/\kf cs o=some r):=by
 unfold Ez at h;split at h
 ·exact .inl ⟨_,_,rfl,h⟩
 ·unfold Avk at h;split at h
  ·exact .inr ⟨_,_,rfl,h⟩
  ·cases h
 ·cases h
theorem Gk {b:Blk} {k:List IV->Option β} (h:EK b k=some r):∃cells ro,b=.row cells ro/\k cells=some r:=by
 unfold EK at h;split at h
 ·exact ⟨_,_,rfl,h⟩
 ·cases h
theorem Px {b:Blk} {k:List IV->Option β} (h:GS b k=some r):∃cells,b=.row cells false/\k cells=some r:=by
 unfold GS at h;split at h
 ·rename_i ro;cases ro with
  | true=>cases h
  | false=>exact ⟨_,rfl,h⟩
 ·cases h
theorem Uh {x:IV} {k:Ref->Nat->Nat->Option β} {e:Option β} (h:AcL x k e=some r):(∃q sz n,x=.slc q sz n/\k q sz n=some r)\/((∀q sz n,x≠.slc q sz n)/\e=some r):=by
 unfold AcL at h;split at h
 ·exact .inl ⟨_,_,_,rfl,h⟩
 ·rename_i hn;exact .inr ⟨hn,h⟩
theorem Bq {α:Type} {o:Option α} {k:α->Option β} (h:o.bind k=some r):∃a,o=some a/\k a=some r:=by
 cases o with
 | none=>cases h
 | some a=>exact ⟨a,rfl,h⟩
theorem Dz {c:Prop} [Decidable c] {a:Option β} (h:(if c then a else none)=some r):c/\a=some r:=by
 by_cases hc:c
 ·rw [if_pos hc] at h;exact ⟨hc,h⟩
 ·rw [if_neg hc] at h;cases h
theorem Ds {c:Bool} {a:Option β} (h:cond c a none=some r):c=true/\a=some r:=by cases c;cases h;exact ⟨rfl,h⟩
theorem DC {a b:Nat} (h:Nat.beq a b=true):a=b:=Nat.eq_of_beq_eq_true h
theorem Bl {a b:Nat} (h:Nat.ble a b=true):a<=b:=Nat.le_of_ble_eq_true h
theorem ER {t:TypeId} {op:BinOp} {x y:IV} {k:IV->Option β} (h:CC E t op x y k=some r):∃v,GX E op t x y=some v/\k v=some r:=by
 rw [CC,Cz] at h;exact Bq h
theorem Ano {t:TypeId} {x y:IV} {k:IV->Option β} (h:Bv E t x y k=some r):∃v,GX E .add t x y=some v/\k v=some r:=by
 unfold Bv at h;rcases Fp h with ⟨a,rfl,g'⟩ | h
 ·replace h:=g';clear g';rcases Fp h with ⟨b,rfl,g'⟩ | h
  ·replace h:=g';clear g';cases hc:Nat.ble (a+b) 9223372036854775807 with
   | false=>rw [hc] at h;exact ER h
   | true =>
    rw [hc] at h;simp only [cond,Dm] at h;refine ⟨_,?_,h⟩;have e:IntKind.i64.wrap ((a:Int)+(b:Int))=((a+b:Nat):Int):=by
     rw [<- Int.natCast_add];exact Yf (Bl hc)
    show some (IV.fv (.int .i64 (IntKind.i64.wrap ((a:Int)+(b:Int)))))=_
    rw [e]
  ·exact ER h
 ·exact ER h
theorem AmZ {t:TypeId} {x y:IV} {k:IV->Option β} (h:Bd E t x y k=some r):∃v,GX E .sub t x y=some v/\k v=some r:=by
 unfold Bd at h;rcases Fp h with ⟨a,rfl,g'⟩ | h
 ·replace h:=g';clear g';rcases Fp h with ⟨b,rfl,g'⟩ | h
  ·replace h:=g';clear g';cases hc:(and (Nat.ble b a) (Nat.ble a 9223372036854775807)) with
   | false=>rw [hc] at h;exact ER h
   | true =>
    rw [hc] at h;simp only [cond,Dm] at h;refine ⟨_,?_,h⟩;have hc:(Nat.ble b a && Nat.ble a 9223372036854775807)=true:=hc;simp only [Bool.and_eq_true] at hc;have h1:=Bl hc.1;have h2:=Bl hc.2;have e:IntKind.i64.wrap ((a:Int) - (b:Int))=((a - b:Nat):Int):=by
     rw [<- Int.natCast_sub h1];exact Yf (by omega)
    show some (IV.fv (.int .i64 (IntKind.i64.wrap ((a:Int) - (b:Int)))))=_
    rw [e]
  ·exact ER h
 ·exact ER h
theorem Il {t:TypeId} {op:BinOp} {g:Nat->Nat->Bool} (hg:∀a b:Nat,GX E op t (.fv (.int .i64 a)) (.fv (.int .i64 b))=some (.fv (.bool (g a b)))) {x y:IV} {k:IV->Option β}
  (h:Rt E t op g x y k=some r):∃v,GX E op t x y=some v/\k v=some r:=by
 unfold Rt at h;rcases Fp h with ⟨a,rfl,g'⟩ | h
 ·replace h:=g';clear g';rcases Fp h with ⟨b,rfl,g'⟩ | h
  ·replace h:=g';clear g';rw [UL] at h;exact ⟨_,hg a b,h⟩
  ·exact ER h
 ·exact ER h
theorem Iq (a b:Nat):Nat.beq a b=decide (a=b):=by
 cases h:Nat.beq a b with
 | true=>rw [DC h];simp
 | false =>
  have:a≠b:=fun e=>by rw [e,show Nat.beq b b=true from Nat.beq_refl b] at h;cases h
  simp [this]
theorem BP (a b:Nat):Nat.ble a b=decide (a<=b):=by
 cases h:Nat.ble a b with
 | true=>have:=Bl h;simp [this]
 | false =>
  have:¬ a<=b:=fun e=>by rw [Nat.ble_eq_true_of_le e] at h;cases h
  simp [this]
theorem Ag0 {t:TypeId} {op:BinOp} {x y:IV} {k:IV->Option β} (h:AiJ E t op x y k=some r):∃v,GX E op t x y=some v/\k v=some r:=by
 cases op with
 | add=>exact Ano h
 | sub=>exact AmZ h
 | eql =>
  refine Il (fun a b=>?_) h
  show some (IV.fv (.bool ((a:Int) == (b:Int))))=_
  rw [Iq];congr 3;exact decide_eq_decide.2 Int.ofNat_inj
 | neq =>
  refine Il (fun a b=>?_) h
  show some (IV.fv (.bool ((a:Int) != (b:Int))))=_
  rw [Iq];congr 3
  show (!decide ((a:Int)=(b:Int)))=!decide (a=b)
  congr 1;exact decide_eq_decide.2 Int.ofNat_inj
 | lss =>
  refine Il (fun a b=>?_) h
  show some (IV.fv (.bool (decide ((a:Int)<(b:Int)))))=_
  rw [BP];congr 3;exact decide_eq_decide.2 (by omega)
 | leq =>
  refine Il (fun a b=>?_) h
  show some (IV.fv (.bool (decide ((a:Int)<=(b:Int)))))=_
  rw [BP];congr 3;exact decide_eq_decide.2 (by omega)
 | gtr =>
  refine Il (fun a b=>?_) h
  show some (IV.fv (.bool (decide ((a:Int) > (b:Int)))))=_
  rw [BP];congr 3;exact decide_eq_decide.2 (by omega)
 | geq =>
  refine Il (fun a b=>?_) h
  show some (IV.fv (.bool (decide ((a:Int) ≥ (b:Int)))))=_
  rw [BP];congr 3;exact decide_eq_decide.2 (by omega)
 | _=>exact ER h
theorem AgV {s d:TypeId} {x:IV} {si:TI} {a b:Nat} {z:List IV} (h1:E.T s=some si) (h2:E.T d=some ⟨a,b,.int .i64,z⟩) {k:IV->Option β} (h:W2 E s d x k=some r) :
  ∃v,Ki E s d x=some v/\k v=some r:=by
 have hg:C8 (Ki E s d x) k=some r->∃v,Ki E s d x=some v/\k v=some r:=fun h=>by rw [Cz] at h;exact Bq h
 unfold W2 at h;rcases Fp h with ⟨n,rfl,g'⟩ | h
 ·replace h:=g';clear g';cases hc:Nat.ble n 9223372036854775807 with
  | false=>rw [hc] at h;exact hg h
  | true =>
   rw [hc] at h;simp only [cond,Dm] at h;refine ⟨_,?_,h⟩;simp only [Ki,h1,h2];rw [Yf (Bl hc)]
 ·exact hg h
theorem AqN {t:TypeId} {a:Operand} (h:IZ E ih' f rid i dr ρ (.load t a) hp k=some r):Gv E ih f rid i ρ (.load t a) hp k r:=by
 simp only [IZ,BE] at h;cases ht:E.T t with
 | none=>rw [ht] at h;cases h
 | some ti =>
  rw [ht] at h;simp only at h;cases hag:ti.kind.isAgg with
  | true =>
   rw [hag] at h;simp only [cond,Ae] at h;rcases Dv h with ⟨q,o,ha,h⟩ | ⟨cs,o,ha,h⟩
   ·rw [Eo] at h;obtain ⟨b,hb,h⟩:=Bq h;obtain ⟨cells,ro,rfl,g'⟩:=Gk h;replace h:=g';clear g';rw [J6] at h;obtain ⟨h1,h⟩:=Dz h;rw [JQ] at h;obtain ⟨h2,h⟩:=Dz h;rw [Sv] at h;refine ⟨_,hp,[q],[],⟨{ eff:={ val:=Fr ((cells.drop o).take ti.size) } },?_,rfl,rfl,rfl⟩,h,fun q=>by cases q⟩;simp only [C1,ht,ha,Rd.runLog,hb,Cj,hag,if_true];rw [if_pos (by simp at h2;omega)];rfl
   ·rw [J6] at h;obtain ⟨h1,h⟩:=Dz h;rw [JQ] at h;obtain ⟨h2,h⟩:=Dz h;refine ⟨_,hp,[],[],⟨{ eff:={ val:=.fv (.agg ((cs.drop o).take ti.size)) } },?_,rfl,rfl,rfl⟩,h,fun q=>by cases q⟩;simp only [C1,ht,ha,Bt,hag,if_true];rw [if_pos (by simp at h2;omega)];rfl
  | false =>
   rw [hag] at h;simp only [cond,Ak] at h;rcases Dv h with ⟨q,o,ha,h⟩ | ⟨cs,o,ha,h⟩
   ·rw [Eo] at h;obtain ⟨b,hb,h⟩:=Bq h;obtain ⟨cells,ro,rfl,g'⟩:=Gk h;replace h:=g';clear g';rw [Db] at h;obtain ⟨v,hv,h⟩:=Bq h;refine ⟨_,hp,[q],[],⟨{ eff:={ val:=v } },?_,rfl,rfl,rfl⟩,h,fun q=>by cases q⟩;simp only [C1,ht,ha,Rd.runLog,hb,Cj,hag,Bool.false_eq_true,if_false,hv];rfl
   ·rw [Db] at h;obtain ⟨v,hv,h⟩:=Bq h;refine ⟨_,hp,[],[],⟨{ eff:={ val:=.fv v } },?_,rfl,rfl,rfl⟩,h,fun q=>by cases q⟩;simp only [C1,ht,ha,Bt,hag,Bool.false_eq_true,if_false,hv];rfl
theorem AfN (cells:List IV) (o:Nat) (v:IV):A5 cells o [v]=cells.set o v:=rfl
theorem AlZ {t:TypeId} {a x:Operand} (h:IZ E ih' f rid i dr ρ (.store t a x) hp k=some r):Gv E ih f rid i ρ (.store t a x) hp k r:=by
 simp only [IZ,BE] at h;cases ht:E.T t with
 | none=>rw [ht] at h;cases h
 | some ti =>
  rw [ht] at h;simp only at h;have key:∀q o cells,ρ a=.ptr q o->hp.get q=some (.row cells false) ->
    ((ρ x).alive=true/\(ρ x).cells.length=ti.size/\o+ti.size<=cells.length/\(ρ x).cells.all IV.one=true/\Gd q (ρ x)=true) ->
    k .dead (hp.set q (.row (A5 cells o (ρ x).cells) false)) [q] [q]=some r->Gv E ih f rid i ρ (.store t a x) hp k r:=by
   intro q o cells ha hb hc h;refine ⟨_,_,[q],[q],⟨{ eff:={ val:=.dead,upd:=[(q,.row (A5 cells o (ρ x).cells) false)] } },?_,?_,rfl,rfl⟩,h,fun q=>by cases q⟩
   ·simp only [C1,ht,ha,Rd.runLog,hb];rw [if_pos hc];rfl
   ·simp only [AQ,laid,hb,Option.bind_some,CI]
  have gen:Ad ti.size (ρ a) (ρ x) hp (fun h rd wr=>k .dead h rd wr)=some r->Gv E ih f rid i ρ (.store t a x) hp k r:=by
   intro h;simp only [Ad] at h;rcases Dv h with ⟨q,o,ha,h⟩ | ⟨cs,o,ha,h⟩
   ·rw [Eo] at h;obtain ⟨b,hb,h⟩:=Bq h;obtain ⟨cells,rfl,g'⟩:=Px h;replace h:=g';clear g';rcases NG h with ⟨v,hx,h⟩ | h
    ·simp only [GU] at h;split at h
     ·rename_i cs;obtain ⟨hc,h⟩:=Ds h;have hc:(Nat.beq cs.length ti.size && EP cs)=true:=hc;simp only [Bool.and_eq_true] at hc;obtain ⟨h1,h⟩:=MK cells o cs h;rw [Kf] at h;have hl:=DC hc.1;refine key q o cells ha hb ⟨by rw [hx];rfl,by rw [hx];simp [IV.cells,hl],by omega,by rw [hx];exact NM cs hc.2,by rw [hx];cases q<;>rfl⟩ ?_;rw [hx];exact h
     ·cases h
    ·obtain ⟨hc,h⟩:=Dz h;rw [HH,Kf] at h;exact key q o cells ha hb hc h
   ·cases h
  cases hs:Nat.beq ti.size 1 with
  | true =>
   rw [hs] at h;have hs:=DC hs;simp only [cond,B6] at h;cases ho:(ρ x).one with
   | false =>
    rw [ho] at h;rw [<- hs] at h;exact gen h
   | true =>
    rw [ho] at h;simp only at h;rcases Dv h with ⟨q,o,ha,h⟩ | ⟨cs,o,ha,h⟩
    ·rw [Eo] at h;obtain ⟨b,hb,h⟩:=Bq h;obtain ⟨cells,rfl,g'⟩:=Px h;replace h:=g';clear g';cases hc:Gd q (ρ x) with
     | false=>rw [hc] at h;cases h
     | true =>
      rw [hc] at h;simp only at h;rw [Aam] at h;obtain ⟨hlt,h⟩:=Dz h;rw [Kf] at h;obtain ⟨c1,c2⟩:=KO ho;refine key q o cells ha hb ⟨c2,by rw [c1,hs];rfl,by omega,by rw [c1];simp [ho],hc⟩ ?_;rw [c1,AfN];exact h
    ·cases h
  | false =>
   rw [hs] at h;exact gen h
end
end Idl
end Go.Proofs.Ytdibmackcbpniaa
set_option linter.unusedSimpArgs false
namespace Go.Proofs.Ytdibmackcbpniaa
namespace Idl
section
variable {β:Type} {E:Env} {ih ih':Aa} {f rid i:Nat} {dr:Bool} {ρ:Operand->IV} {hp:Hp} {k:IV->Hp->List Ref->List Ref->Option β} {r:β}
theorem Pj {size o:Nat} {cs:List IV} {k:IV->Option β} (h:(EH cs o fun cs=>Ge cs size fun cs=>O9 cs k)=some r) :
  Cj true size o cs=some (Fr ((cs.drop o).take size))/\k (Fr ((cs.drop o).take size))=some r:=by
 rw [J6] at h;obtain ⟨h1,h⟩:=Dz h;rw [JQ] at h;obtain ⟨h2,h⟩:=Dz h;rw [Sv] at h;refine ⟨?_,h⟩;simp only [Cj,if_true];rw [if_pos (by simp at h2;omega)]
theorem NX {size o:Nat} {cs:List FV} {k:IV->Option β} (h:(EH cs o fun cs=>Ge cs size fun cs=>k (.fv (.agg cs)))=some r) :
  Bt true size o cs=some (.agg ((cs.drop o).take size))/\k (.fv (.agg ((cs.drop o).take size)))=some r:=by
 rw [J6] at h;obtain ⟨h1,h⟩:=Dz h;rw [JQ] at h;obtain ⟨h2,h⟩:=Dz h;refine ⟨?_,h⟩;simp only [Bt,if_true];rw [if_pos (by simp at h2;omega)]
theorem Ami {s:TypeId} {x:Operand} {fd:Nat} (h:IZ E ih' f rid i dr ρ (.field s x fd) hp k=some r):Gv E ih f rid i ρ (.field s x fd) hp k r:=by
 simp only [IZ,BE] at h;cases hf:Hf E s fd with
 | none=>rw [hf] at h;cases h
 | some p =>
  obtain ⟨o,ti⟩:=p;rw [hf] at h;simp only at h;cases hag:ti.kind.isAgg with
  | true =>
   rw [hag] at h;simp only [cond,Ata] at h;rcases SN h with ⟨cs,hx,h⟩ | ⟨cs,hx,h⟩
   ·obtain ⟨h1,h2⟩:=Pj (k:=fun v=>k v hp [] []) h;exact AZ (by simp only [C1,hf,hx,hag,h1];rfl) h2
   ·obtain ⟨h1,h2⟩:=NX (k:=fun v=>k v hp [] []) h;exact AZ (by simp only [C1,hf,hx,hag,h1];rfl) h2
  | false =>
   rw [hag] at h;simp only [cond,ArQ] at h;rcases SN h with ⟨cs,hx,h⟩ | ⟨cs,hx,h⟩
   ·rw [Db] at h;obtain ⟨v,hv,h⟩:=Bq h;exact AZ (by simp only [C1,hf,hx,hag,Cj,Bool.false_eq_true,if_false,hv];rfl) h
   ·rw [Db] at h;obtain ⟨v,hv,h⟩:=Bq h;exact AZ (by simp only [C1,hf,hx,hag,Bt,Bool.false_eq_true,if_false,hv];rfl) h
theorem Va {s:TypeId} {x:Operand} {fd:Nat} (h:IZ E ih' f rid i dr ρ (.fieldAddr s x fd) hp k=some r):Gv E ih f rid i ρ (.fieldAddr s x fd) hp k r:=by
 simp only [IZ,BE] at h;cases hf:Hf E s fd with
 | none=>rw [hf] at h;cases h
 | some p =>
  obtain ⟨o,ti⟩:=p;rw [hf] at h;simp only [GL] at h;by_cases hs:ti.size=0
  ·rw [if_pos hs] at h;cases h
  ·rw [if_neg hs] at h;unfold Af at h;rcases Dv h with ⟨q,off,hx,h⟩ | ⟨cs,off,hx,h⟩
   ·rw [BS] at h;exact AZ (by simp only [C1,hf,hx,if_neg hs]) h
   ·rw [BS] at h;exact AZ (by simp only [C1,hf,hx,if_neg hs]) h
theorem AuG {x:Operand} (h:IZ E ih' f rid i dr ρ (.nilCheck x) hp k=some r):Gv E ih f rid i ρ (.nilCheck x) hp k r:=by
 simp only [IZ,BE] at h;unfold A0 at h;split at h
 ·rename_i hx;exact AZ (by simp only [C1,hx]) h
 ·rename_i hx;unfold Aub at h;split at h
  ·exact AZ (by simp only [C1,hx]) h
  ·unfold An1 at h;split at h
   ·exact AZ (by simp only [C1,hx]) h
   ·cases h
  ·cases h
 ·rename_i hx;unfold An1 at h;split at h
  ·exact AZ (by simp only [C1,hx]) h
  ·cases h
 ·cases h
theorem Ag3 {x:Operand} {ix:Nat} (h:IZ E ih' f rid i dr ρ (.extract x ix) hp k=some r):Gv E ih f rid i ρ (.extract x ix) hp k r:=by
 simp only [IZ,BE] at h;unfold Aq at h;split at h
 ·rename_i hx;rw [Db] at h;obtain ⟨v,hv,h⟩:=Bq h;exact AZ (by simp only [C1,hx,hv];rfl) h
 ·rename_i hx;simp only [At1] at h;split at h
  ·rw [Db] at h;obtain ⟨v,hv,h⟩:=Bq h;exact AZ (by simp only [C1,hx,hv];rfl) h
  ·cases h
 ·cases h
theorem Asw {c a b:Operand} (h:IZ E ih' f rid i dr ρ (.pick c a b) hp k=some r):Gv E ih f rid i ρ (.pick c a b) hp k r:=by
 simp only [IZ,AI] at h;obtain ⟨t,hc,h⟩:=Vr h;cases t with
 | true=>exact AZ (by simp only [C1,hc];rfl) h
 | false=>exact AZ (by simp only [C1,hc];rfl) h
theorem UO {t:TypeId} {x ix:Operand} (h:IZ E ih' f rid i dr ρ (.indexAddr t x ix) hp k=some r):Gv E ih f rid i ρ (.indexAddr t x ix) hp k r:=by
 simp only [IZ,BE] at h;split at h
 ·rename_i e z ht;split at h
  ·rename_i ei he;unfold AP at h;obtain ⟨kd,n,hi,h⟩:=QL h;rcases Uh h with ⟨q,sz,len,hx,h⟩ | ⟨hx,h⟩
   ·obtain ⟨hc,h⟩:=Ds h;have hc:(Nat.ble (Nat.succ n) len && Nat.beq sz ei.size)=true:=hc;simp only [Bool.and_eq_true] at hc;have h1:=Bl hc.1;have h2:=DC hc.2;rw [BS] at h;refine AZ ?_ h;simp only [C1,K2,ht,he,hi,hx];rw [if_pos ⟨by omega,by omega,h2⟩];rfl
   ·rw [Af8] at h;obtain ⟨es,he2,h⟩:=Bq h;rw [Db] at h;obtain ⟨el,hel,h⟩:=Bq h;rw [Akh] at h;obtain ⟨hl,h⟩:=Dz h;refine AZ ?_ h;simp only [C1,K2,ht,he,hi];cases hxx:ρ x with
    | slc q sz len=>exact absurd hxx (hx q sz len)
    | _ =>
     rw [hxx] at he2;simp only [he2];rw [if_neg (by omega)];simp only [Int.toNat_natCast,hel];rw [if_pos hl]
  ·cases h
 ·rename_i m e z ht;split at h
  ·rename_i ei he;unfold ixA at h;obtain ⟨kd,n,hi,h⟩:=QL h;obtain ⟨hc,h⟩:=Ds h;have hc:=Bl hc;have hlt:(0:Int)<=(n:Int)/\(n:Int)<(m:Int):=⟨by omega,by omega⟩;rcases Dv h with ⟨q,o,hx,h⟩ | ⟨cs,o,hx,h⟩
   ·rw [BS] at h;refine AZ ?_ h;simp only [C1,K2,ht,he,hi,hx];rw [if_pos hlt];rfl
   ·rw [BS] at h;refine AZ ?_ h;simp only [C1,K2,ht,he,hi,hx];rw [if_pos hlt];rfl
  ·cases h
 ·cases h
theorem Ane {t:TypeId} {x ix:Operand} (h:IZ E ih' f rid i dr ρ (.index t x ix) hp k=some r):Gv E ih f rid i ρ (.index t x ix) hp k r:=by
 simp only [IZ,BE] at h;split at h
 ·rename_i m e z ht;split at h
  ·rename_i ei he;cases hag:ei.kind.isAgg with
   | true=>rw [hag] at h;exact BN (by simp only [Fo,ht,he,hag];rfl) rfl h
   | false =>
    rw [hag] at h;simp only [cond,AuO] at h;obtain ⟨kd,n,hi,h⟩:=QL h;obtain ⟨hc,h⟩:=Ds h;have hc:=Bl hc;rcases NG h with ⟨v,hx,h⟩ | h
    ·simp only [GU] at h;split at h
     ·rw [Db] at h;obtain ⟨w,hw,h⟩:=Bq h;refine AZ ?_ h;simp only [C1,ht,hi,hx,he];rw [if_pos ⟨by omega,by omega⟩];simp only [hag,Bt,Bool.false_eq_true,if_false,Int.toNat_natCast,hw];rfl
     ·cases h
    ·cases h
  ·cases h
 ·rename_i hn;refine BN ?_ rfl h;simp only [Fo]
theorem Ah3 {z:List IV} {o sz:Nat} {v:IV} {k:List IV->Option β} (h:LH z o sz v k=some r):(v.alive=true/\v.cells.length=sz/\o+sz<=z.length)/\k (A5 z o v.cells)=some r:=by
 have one:v.one=true->(cond (Nat.beq sz 1) (Kh z o v k) none)=some r->(v.alive=true/\v.cells.length=sz/\o+sz<=z.length)/\k (A5 z o v.cells)=some r:=by
  intro ho h;obtain ⟨hs,h⟩:=Ds h;have hs:=DC hs;rw [Aam] at h;obtain ⟨hlt,h⟩:=Dz h;obtain ⟨c1,c2⟩:=KO ho;refine ⟨⟨c2,by rw [c1,hs];rfl,by omega⟩,?_⟩;rw [c1,AfN];exact h
 unfold LH at h;rcases NG h with ⟨w,rfl,g'⟩ | h
 ·replace h:=g';clear g';cases ho:Jq w with
  | true =>
   rw [ho] at h;exact one (by cases w<;>first | rfl | cases ho) h
  | false =>
   rw [ho] at h;simp only [cond,GU] at h;split at h
   ·rename_i cs;cases hc:Nat.beq cs.length sz with
    | false=>rw [hc] at h;cases h
    | true =>
     rw [hc] at h;have hc:=DC hc;obtain ⟨h1,h⟩:=MK z o cs h;exact ⟨⟨rfl,by simp [IV.cells,hc],by omega⟩,h⟩
   ·cases h
 ·unfold AdR at h;cases ho:v.one with
  | true=>rw [ho] at h;exact one ho h
  | false =>
   rw [ho] at h;simp only [cond] at h;obtain ⟨hc,h⟩:=Dz h;rw [HH] at h;exact ⟨hc,h⟩
theorem V9:∀(pl:List (Nat×Operand)) (place:Nat->Option (Nat×Nat)) (l:List (Nat×Nat×Operand)) (z:List IV) {k:List IV->Option β},K4 place pl=some l->OD z (AbV ρ l) k=some r ->
  ∃cells,CF place z (pl.map fun (j,x)=>(j,ρ x))=some cells/\k cells=some r
 | [],place,l,z,k,hp,h=>by
  simp only [K4,AzE] at hp;subst hp;exact ⟨z,rfl,h⟩
 | (j,x)::pl,place,l,z,k,hp,h=>by
  simp only [K4] at hp;cases hj:place j with
  | none=>rw [hj] at hp;cases hp
  | some os =>
   obtain ⟨o,s⟩:=os;rw [hj] at hp;simp only at hp;cases hpl:K4 place pl with
   | none=>rw [hpl] at hp;cases hp
   | some l' =>
    rw [hpl] at hp;simp only [AzE] at hp;subst hp;have h:(LH z o s (ρ x) fun z=>OD z (AbV ρ l') k)=some r:=h;simp only [AzK,CF,hj];obtain ⟨hc,h⟩:=Ah3 h;rw [if_pos hc];exact V9 pl place l' _ hpl h
theorem Apa {t:TypeId} {parts:Array (Nat×Operand)} (h:IZ E ih' f rid i dr ρ (.build t parts) hp k=some r):Gv E ih f rid i ρ (.build t parts) hp k r:=by
 simp only [IZ,BE] at h;split at h
 ·rename_i fs z ht;split at h
  ·rename_i l hl;unfold BJ at h;obtain ⟨cells,h1,h2⟩:=V9 _ _ _ _ hl h;rw [Sv] at h2;refine AZ ?_ h2;simp only [C1,ht,h1];rfl
  ·cases h
 ·rename_i hn;refine BN ?_ rfl h;simp only [Fo]
theorem Avt {t:TypeId} {x:Operand} (h:IZ E ih' f rid i dr ρ (.box t x) hp k=some r):Gv E ih f rid i ρ (.box t x) hp k r:=by
 simp only [IZ,BE] at h;have hg:E.pol.fzBox f rid i=true->C1 E ih f rid i ρ (.box t x)=Na true (Bi f rid i) (ρ x):=fun e=>by rw [AiF,e]
 cases hz:E.pol.fzBox f rid i with
 | true =>
  rw [hz] at h;simp only [cond,fzS] at h;rcases NG h with ⟨v,hx,h⟩ | h
  ·simp only [AtX] at h;split at h
   ·rename_i cs;cases hc:Nat.ble cs.length 2000 with
    | false=>rw [hc] at h;exact BN rfl (hg hz) h
    | true =>
     rw [hc] at h;have hc:=Bl hc;have key:∀(n:Nat) (cs:List FV),cs.length<n->frzL n (cs.map .fv)=.ret (cs,[]):=by
      intro n
      induction n with
      | zero=>intro cs h;omega
      | succ n ih =>
       intro cs h;cases cs with
       | nil=>rfl
       | cons c cs =>
        cases n with
        | zero=>simp at h
        | succ n =>
         simp only [AzK,frzL,C0,Rd.bind];rw [ih cs (by simp at h ⊢;omega)];rfl
     refine ⟨_,hp,[],[],⟨{ eff:={ val:=.fv (.fp cs 0),upd:=[] } },?_,rfl,rfl,rfl⟩,h,fun q=>by cases q⟩;simp only [C1,hx,IV.alive,Bool.true_eq_false,if_false,hz,if_true,IV.cells,key 4096 cs (by omega)];rfl
   ·exact BN rfl (hg hz) h
  ·exact BN rfl (hg hz) h
 | false =>
  rw [hz] at h;simp only [cond,AR] at h;have key:∀cs,(ρ x).cells=cs->(ρ x).alive=true->Ay (Bi f rid i) (.row cs false) (.ptr (.own (Bi f rid i)) 0) hp k=some r->Gv E ih f rid i ρ (.box t x) hp k r:=by
   intro cs hcs ha h;refine Uj rfl ?_ h;simp only [C1,ha,Bool.true_eq_false,if_false,hz,Bool.false_eq_true,hcs]
  cases ho:(ρ x).one with
  | true =>
   rw [ho] at h;obtain ⟨c1,c2⟩:=KO ho;exact key _ c1 c2 h
  | false =>
   rw [ho] at h;simp only at h;obtain ⟨ha,h⟩:=Ds h;rw [HH] at h;exact key _ rfl ha h
theorem Ahv {s d:TypeId} {x:Operand} (h:IZ E ih' f rid i dr ρ (.convert s d x) hp k=some r):Gv E ih f rid i ρ (.convert s d x) hp k r:=by
 simp only [IZ,BE] at h;split at h
 ·rename_i hs hd;obtain ⟨v,h1,h2⟩:=AgV hs hd h;exact AZ (by simp only [C1,h1];rfl) h2
 ·rw [Cz] at h;exact PS rfl h
def Iso (E:Env) (ih:Aa) (g:FuncId) (args:List IV) (hp:Hp) (k:IV->Hp->List Ref->List Ref->Option β) (r:β):Prop :=
 ∃e rd hp',(GH E ih g args).runLog hp []=some (e,rd)/\laid hp e.upd=some hp'/\k e.val hp' rd (Bp e.upd)=some r
theorem Ka (hi:∀f args h x,ih' f args h=some x->ih f args h=some x) {g:FuncId} {args:List IV} (h:EF (E.pol.keep g) (E.pol.split g) (E.pol.raw g) ih' g args hp k=some r):Iso E ih g args hp k r:=by
 have hasked:∀args ext x,EG (E.pol.split g) ih' g args ext=some x->asked E ih g args ext=some x:=by
  intro args ext x e;unfold EG at e;unfold asked;split at e
  ·rename_i hs;rw [if_pos hs];split at e
   ·split at e
    ·rename_i hc;simp only [Bool.and_eq_true] at hc;have mono:∀{o o':Option (IV×Hp)},(∀x,o=some x->o'=some x)->Cm o=true->Cm o'=true:=by
      intro o o' hm h;cases o with
      | none=>cases h
      | some x=>rw [hm x rfl];exact h
     rw [if_pos (by rw [mono (hi _ _ _) hc.1,mono (hi _ _ _) hc.2];rfl)];exact e
    ·cases e
   ·rename_i hne
    have:=hi _ _ _ _ e
    split
    ·exact absurd rfl (fun e=>hne rfl e)
    ·exact this
  ·rename_i hs;rw [if_neg hs];exact hi _ _ _ _ e
 unfold EF at h;split at h
 ·cases h
 rename_i vs rs u l1 h1;split at h
 ·cases h
 rename_i l l2 h2;split at h
 ·cases h
 rename_i vs' h3;split at h
 ·cases h
 rename_i ext h4;simp only [C9 (Cx 3),C9 CW] at h;split at h
 ·cases h
 rename_i res hp' h5;split at h
 ·cases h
 rename_i res1 h6;split at h
 ·cases h
 rename_i res2 h7;split at h
 ·cases h
 rename_i ext' h8;obtain ⟨hc,h⟩:=Dz h;split at h
 ·cases h
 rename_i hp2 h9;simp only [KK,Cx] at h;refine ⟨{ val:=res2,upd:=u++(Bp l).zip ext' },l2,hp2,?_,h9,h⟩;simp only [GH,Bu,h1,h2,Option.bind_some,h3,h4,hasked _ _ _ h5];rw [show Hr E g res hp'=some res1 from h6]
 simp only [Option.bind_some,h7,h8];rw [if_pos hc];rfl
def Aqh (M:Nat) (g:FzK β):Prop:=∀v h lg e k r,g v h lg e k=some r->e=some r\/∃x u lg',(∀N,M<=N->(C0 N v).runLog h lg=some ((x,u),lg'))/\(∀p∈u,∃s,p.1=Ref.own s)/\k x u lg'=some r
theorem Is {M:Nat} {g:FzK β} (hg:Aqh M g):∀(l:List IV) h lg e k r,EI g l h lg e k=some r ->
  e=some r\/∃xs us lg',(∀N,M+l.length+1<=N->(frzL N l).runLog h lg=some ((xs,us),lg'))/\(∀p∈us,∃s,p.1=Ref.own s)/\k xs us lg'=some r
 | [],h,lg,e,k,r,hh=>.inr ⟨[],[],lg,fun N hN=>(by cases N with | zero=>simp at hN | succ N=>rfl),fun p hp=>(by cases hp),hh⟩
 | v::l,h,lg,e,k,r,hh=>by
  have hh:(g v h lg e fun y u lg=>EI g l h lg e fun ys us lg=>Qp u us fun w=>k (y::ys) w lg)=some r:=hh;rcases hg _ _ _ _ _ _ hh with h1 | ⟨x,u,lg1,h1,hu,hh⟩
  ·exact .inl h1
  ·rcases Is hg l _ _ _ _ _ hh with h2 | ⟨xs,us,lg2,h2,hus,hh⟩
   ·exact .inl h2
   ·rw [Xw] at hh;refine .inr ⟨x::xs,u++us,lg2,fun N hN=>?_,fun p hp=>?_,hh⟩
    ·cases N with
     | zero=>simp at hN
     | succ N =>
      simp only [AzI] at hN;simp only [frzL,Bu,h1 N (by omega),Option.bind_some,h2 N (by omega)];rfl
    ·rcases List.mem_append.1 hp with hp | hp
     ·exact hu p hp
     ·exact hus p hp
theorem NN:∀d,Aqh (β:=β) (310 * d) (Gs d)
 | 0=>fun v h lg e k r hh=>.inl hh
 | d+1=>by
  intro v h lg e k r hh;have ihd:Aqh (β:=β) (310 * d) (Gs d):=NN d;have one:∀{w:FV},(∀N,C0 (N+1) v=.ret (w,[]))->k w [] lg=some r->e=some r\/∃x u lg',(∀N,310 * (d+1)<=N->(C0 N v).runLog h lg=some ((x,u),lg'))/\(∀p∈u,∃s,p.1=Ref.own s)/\k x u lg'=some r:=by
   intro w hw hk;refine .inr ⟨w,[],lg,fun N hN=>?_,fun p hp=>(by cases hp),hk⟩;cases N with
   | zero=>omega
   | succ N=>rw [hw];rfl
  have own:∀{q:Ref} {e:Option β} {k:Nat->Option β},Xk q e k=some r->e=some r\/∃s,q=.own s/\k s=some r:=by
   intro q e k h;cases q with
   | own s=>exact .inr ⟨s,rfl,h⟩
   | ext j=>exact .inl h
  have cnd2:∀{c:Bool} {a e:Option β},cond c a e=some r->e=some r\/(c=true/\a=some r):=by
   intro c a e h;cases c with
   | true=>exact .inr ⟨rfl,h⟩
   | false=>exact .inl h
  cases v with
  | fv w=>exact one (fun _=>rfl) hh
  | nils=>exact one (fun _=>rfl) hh
  | emp=>exact one (fun _=>rfl) hh
  | clip es=>exact one (fun _=>rfl) hh
  | app q es=>exact one (fun _=>rfl) hh
  | dead=>exact .inl hh
  | tuple vs=>exact .inl hh
  | mapr q=>exact .inl hh
  | ptr q off =>
   have hh:(Xk q e fun s=>EA (.own s) h fun b=>EK b fun cells=>cond (Nat.ble cells.length 300) (EI (Gs d) cells h (.own s::lg) e fun cs u lg=>k (.fp cs off) ((.own s,.row cells true)::u) lg) e)=some r:=hh;rcases own hh with h1 | ⟨s,rfl,g'⟩
   ·exact .inl h1
   ·replace hh:=g';clear g';rw [Eo] at hh;obtain ⟨b,hb,hh⟩:=Bq hh;obtain ⟨cells,ro,hbb,hh⟩:=Gk hh;rcases cnd2 hh with h1 | ⟨hl,hh⟩
    ·exact .inl h1
    ·have hl:=Bl hl;rcases Is ihd cells _ _ _ _ _ hh with h1 | ⟨xs,us,lg2,h2,hus,hh⟩
     ·exact .inl h1
     ·refine .inr ⟨_,_,_,fun N hN=>?_,fun p hp=>?_,hh⟩
      ·cases N with
       | zero=>omega
       | succ N =>
        simp only [C0,Rd.runLog,hb,hbb,Bu,h2 N (by omega),Option.bind_some]
      ·rcases List.mem_cons.1 hp with rfl | hp
       ·exact ⟨s,rfl⟩
       ·exact hus p hp
  | slc q sz len =>
   have hh:(Xk q e fun s=>EA (.own s) h fun b=>EK b fun cells=>cond (Nat.ble cells.length 300) (cond (or (Nat.beq sz 0) (not (Nat.ble (len * sz) cells.length))) none
    (EI (Gs d) cells h (.own s::lg) e fun cs u lg=>chK sz len cs fun els=>k (.sl els) ((.own s,.row cells true)::u) lg)) e)=some r:=hh
   rcases own hh with h1 | ⟨s,rfl,g'⟩
   ·exact .inl h1
   ·replace hh:=g';clear g';rw [Eo] at hh;obtain ⟨b,hb,hh⟩:=Bq hh;obtain ⟨cells,ro,hbb,hh⟩:=Gk hh;rcases cnd2 hh with h1 | ⟨hl,hh⟩
    ·exact .inl h1
    ·have hl:=Bl hl;cases hc:(or (Nat.beq sz 0) (not (Nat.ble (len * sz) cells.length))) with
     | true=>rw [hc] at hh;cases hh
     | false =>
      rw [hc] at hh;simp only [cond] at hh;have hc:(Nat.beq sz 0 || !Nat.ble (len * sz) cells.length)=false:=hc;simp only [Bool.or_eq_false_iff,Bool.not_eq_false'] at hc;have c1:sz≠0:=fun e=>by rw [e] at hc;exact absurd hc.1 (by decide)
      have c2:=Bl hc.2;rcases Is ihd cells _ _ _ _ _ hh with h1 | ⟨xs,us,lg2,h2,hus,hh⟩
      ·exact .inl h1
      ·have hh:=Ah2 sz len _ hh;refine .inr ⟨_,_,_,fun N hN=>?_,fun p hp=>?_,hh⟩
       ·cases N with
        | zero=>omega
        | succ N =>
         simp only [C0,Rd.runLog,hb,hbb];rw [if_neg (by omega)];simp only [Bu,h2 N (by omega),Option.bind_some,Rd.runLog]
       ·rcases List.mem_cons.1 hp with rfl | hp
        ·exact ⟨s,rfl⟩
        ·exact hus p hp
  | agg cs =>
   have hh:cond (Nat.ble cs.length 300) (EI (Gs d) cs h lg e fun cs u lg=>k (.agg cs) u lg) e=some r:=hh;rcases cnd2 hh with h1 | ⟨hl,hh⟩
   ·exact .inl h1
   ·have hl:=Bl hl;rcases Is ihd cs _ _ _ _ _ hh with h1 | ⟨xs,us,lg2,h2,hus,hh⟩
    ·exact .inl h1
    ·refine .inr ⟨_,_,_,fun N hN=>?_,hus,hh⟩;cases N with
     | zero=>omega
     | succ N=>simp only [C0,Bu,h2 N (by omega),Option.bind_some,Rd.runLog]
  | func fn a b =>
   have hh:cond (and (Nat.ble a.length 300) (Nat.ble b.length 300)) (EI (Gs d) a h lg e fun x u lg=>EI (Gs d) b h lg e fun y v lg=>Qp u v fun w=>k (.func fn x y) w lg) e=some r:=hh;rcases cnd2 hh with h1 | ⟨hl,hh⟩
   ·exact .inl h1
   ·have hl:(Nat.ble a.length 300 && Nat.ble b.length 300)=true:=hl;simp only [Bool.and_eq_true] at hl;have l1:=Bl hl.1;have l2:=Bl hl.2;rcases Is ihd a _ _ _ _ _ hh with h1 | ⟨xs,us,lg2,h2,hus,hh⟩
    ·exact .inl h1
    ·rcases Is ihd b _ _ _ _ _ hh with h1 | ⟨ys,vs,lg3,h3,hvs,hh⟩
     ·exact .inl h1
     ·rw [Xw] at hh;refine .inr ⟨_,_,_,fun N hN=>?_,fun p hp=>?_,hh⟩
      ·cases N with
       | zero=>omega
       | succ N=>simp only [C0,Bu,h2 N (by omega),h3 N (by omega),Option.bind_some,Rd.runLog]
      ·rcases List.mem_append.1 hp with hp | hp
       ·exact hus p hp
       ·exact hvs p hp
def Li (m:Nat) (l:List Ref):Prop:=∀r∈l,∃j,r=.ext j/\j<m
theorem Xa:∀(args:List IV) (keep:List Bool) h lg e k r,fzA (β:=β) args keep h lg e k=some r ->
  e=some r\/∃vs rs us lg',(Br keep args).runLog h lg=some ((vs,rs,us),lg')/\(∀p∈us,∃s,p.1=Ref.own s)/\(IV.refs.refsL vs=rs)/\k vs rs us lg'=some r
 | [],keep,h,lg,e,k,r,hh=>.inr ⟨[],[],[],lg,by cases keep<;>rfl,fun p hp=>(by cases hp),rfl,hh⟩
 | x::l,keep,h,lg,e,k,r,hh=>by
  have fz:∀ks,(Gs 12 x h lg e fun y u lg=>fzA l ks h lg e fun vs rs us lg=>Qp u us fun w=>k (.fv y::vs) rs w lg)=some r ->
    e=some r\/∃vs rs us lg',((C0 4096 x).bind fun (x,u)=>(Br ks l).bind fun (vs,rs,u')=>Rd.ret (IV.fv x::vs,rs,u++u')).runLog h lg=some ((vs,rs,us),lg')/\(∀p∈us,∃s,p.1=Ref.own s)/\(IV.refs.refsL vs=rs)/\k vs rs us lg'=some r:=by
   intro ks hh;rcases NN 12 _ _ _ _ _ _ hh with h1 | ⟨y,u,lg1,h1,hu,hh⟩
   ·exact .inl h1
   ·rcases Xa l ks _ _ _ _ _ hh with h2 | ⟨vs,rs,us,lg2,h2,hus,hrs,hh⟩
    ·exact .inl h2
    ·rw [Xw] at hh;refine .inr ⟨_,_,_,_,?_,fun p hp=>?_,?_,hh⟩
     ·simp only [Bu,h1 4096 (by decide),Option.bind_some,h2,Rd.runLog]
     ·rcases List.mem_append.1 hp with hp | hp
      ·exact hu p hp
      ·exact hus p hp
     ·simp only [IV.refs.refsL,IV.refs,List.nil_append,hrs]
  cases keep with
  | nil=>exact fz [] hh
  | cons b ks =>
   cases b with
   | false=>exact fz ks hh
   | true =>
    have hh:(Ez x (fun q o=>fzA l ks h lg e fun vs rs us lg=>k (.ptr q o::vs) (q::rs) us lg) fun _ _=>e)=some r:=hh;rcases Dv hh with ⟨q,o,hx,hh⟩ | ⟨cs,o,_,hh⟩
    ·rcases Xa l ks _ _ _ _ _ hh with h2 | ⟨vs,rs,us,lg2,h2,hus,hrs,hh⟩
     ·exact .inl h2
     ·refine .inr ⟨_,_,_,_,?_,hus,?_,hh⟩
      ·simp only [Br,Bu,h2,Option.bind_some,Rd.runLog,hx,IV.refs];rfl
      ·simp only [IV.refs.refsL,IV.refs,hrs];rfl
    ·exact .inl hh
mutual
theorem Tj:∀(v:IV) (acc:List Ref),Vf v acc=v.refs++acc
 | .dead,_=>rfl
 | .fv _,_=>rfl
 | .ptr _ _,_=>rfl
 | .slc _ _ _,_=>rfl
 | .nils,_=>rfl
 | .emp,_=>rfl
 | .clip _,_=>rfl
 | .app _ _,_=>rfl
 | .mapr _,_=>rfl
 | .func _ a b,acc=>by
  show CJ a (CJ b acc)=(IV.refs.refsL a++IV.refs.refsL b)++acc
  rw [refsDL_eq,refsDL_eq,List.append_assoc]
 | .agg cs,acc=>refsDL_eq cs acc
 | .tuple cs,acc=>refsDL_eq cs acc
theorem refsDL_eq:∀(l:List IV) (acc:List Ref),CJ l acc=IV.refs.refsL l++acc
 | [],_=>rfl
 | v::l,acc=>by
  show Vf v (CJ l acc)=(v.refs++IV.refs.refsL l)++acc
  rw [Tj,refsDL_eq,List.append_assoc]
end
theorem JO (b:Blk):EJ b=b.refs:=by
 cases b with
 | row cells ro =>
  show CJ cells []=_
  rw [refsDL_eq,List.append_nil];rfl
 | tok _ _=>rfl
 | map es =>
  show _=IV.refs.refsL (es.map (·.2))
  induction es with
  | nil=>rfl
  | cons p es ih =>
   obtain ⟨n,v⟩:=p
   show Vf v (EJ (.map es))=v.refs++_
   rw [Tj];congr 1
mutual
theorem ApZ {g:Ref->Option Ref}:∀(v:IV),(∀r∈v.refs,g r=some r)->v.ren g=some v
 | .dead,_=>rfl
 | .fv _,_=>rfl
 | .nils,_=>rfl
 | .emp,_=>rfl
 | .clip _,_=>rfl
 | .ptr r o,h=>by simp only [IV.ren,h r (by simp [IV.refs]),AzH]
 | .slc r sz n,h=>by simp only [IV.ren,h r (by simp [IV.refs]),AzH]
 | .app r es,h=>by simp only [IV.ren,h r (by simp [IV.refs]),AzH]
 | .mapr r,h=>by simp only [IV.ren,h r (by simp [IV.refs]),AzH]
 | .func fn a b,h=>by
  have h1:=renL_id (g:=g) a (fun r hr=>h r (by simp only [IV.refs,List.mem_append];exact .inl hr));have h2:=renL_id (g:=g) b (fun r hr=>h r (by simp only [IV.refs,List.mem_append];exact .inr hr));simp only [IV.ren,h1,h2,Option.bind_some,AzH]
 | .agg cs,h=>by
  have h1:=renL_id (g:=g) cs h;simp only [IV.ren,h1,AzH]
 | .tuple cs,h=>by
  have h1:=renL_id (g:=g) cs h;simp only [IV.ren,h1,AzH]
theorem renL_id {g:Ref->Option Ref}:∀(l:List IV),(∀r∈IV.refs.refsL l,g r=some r)->IV.ren.renL g l=some l
 | [],_=>rfl
 | v::l,h=>by
  have h1:=ApZ (g:=g) v (fun r hr=>h r (by simp only [IV.refs.refsL,List.mem_append];exact .inl hr));have h2:=renL_id (g:=g) l (fun r hr=>h r (by simp only [IV.refs.refsL,List.mem_append];exact .inr hr));simp only [IV.ren.renL,h1,h2,Option.bind_some,AzH]
end
theorem AiH {α γ:Type}:∀(l:List (α×γ)),(l.map (·.1)).zip (l.map (·.2))=l
 | []=>rfl
 | p::l=>by simp only [AzK,List.zip_cons_cons,AiH l]
theorem Arv {g:Ref->Option Ref} (b:Blk) (h:∀r∈b.refs,g r=some r):b.ren g=some b:=by
 cases b with
 | row cells ro=>simp only [Blk.ren,renL_id cells h,AzH]
 | tok _ _=>rfl
 | map es =>
  have e:=renL_id (g:=g) (es.map (fun p:Int×IV=>p.2)) h;simp only [Blk.ren,e,AzH,AiH]
theorem Qv {g:Ref->Option Ref}:∀(l:List Blk),(∀b∈l,∀r∈b.refs,g r=some r)->A9 g l=some l
 | [],_=>rfl
 | b::l,h=>by
  simp only [A9,Arv b (h b List.mem_cons_self),Option.bind_some,Qv l (fun c hc=>h c (List.mem_cons_of_mem _ hc)),AzH]
def BO:Nat->List Blk->List (Ref×Blk)
 | _,[]=>[]
 | s,b::l=>(.ext s,b)::BO (s+1) l
theorem Py:∀(s:Nat) (l:List Blk) (b:Blk),BO s (l++[b])=BO s l++[(.ext (s+l.length),b)]
 | s,[],b=>rfl
 | s,c::l,b=>by
  simp only [List.cons_append,BO,Py (s+1) l b,AzI];rw [show s+1+l.length=s+(l.length+1) by omega]
theorem PA:∀(s:Nat) (l:List Blk),(BO s l).map (·.2)=l
 | _,[]=>rfl
 | s,b::l=>by simp only [BO,AzK,PA (s+1) l]
theorem K3:∀(s:Nat) (l:List Blk),(BO s l).length=l.length
 | _,[]=>rfl
 | s,b::l=>by simp only [BO,AzI,K3 (s+1) l]
theorem KT:∀(s j:Nat) (l:List Blk),s<=j->hasRef (.ext j) (BO s l)=decide (j<s+l.length)
 | s,j,[],h=>by simp only [BO,hasRef,List.length_nil];rw [decide_eq_false (by omega)]
 | s,j,b::l,h=>by
  simp only [BO,hasRef,AzI];by_cases e:j=s
  ·subst e;simp
  ·rw [KT (s+1) j l (by omega),decide_eq_false (by simp [e]),Bool.false_or];congr 1;exact propext ⟨fun h=>by omega,fun h=>by omega⟩
theorem PU:∀(s k:Nat) (l:List Blk),hasRef (.own k) (BO s l)=false
 | _,_,[]=>rfl
 | s,k,b::l=>by simp only [BO,hasRef,PU (s+1) k l,Bool.or_false];exact decide_eq_false (by simp)
theorem Lw:∀(s j i:Nat) (l:List Blk),s<=j->j<s+l.length->Cy (.ext j) (BO s l) i=some (i+(j - s))
 | s,j,i,[],h1,h2=>by simp at h2;omega
 | s,j,i,b::l,h1,h2=>by
  simp only [AzI] at h2;simp only [BO,Cy];by_cases e:j=s
  ·subst e;simp
  ·rw [if_neg (by simp [e]),Lw (s+1) j (i+1) l (by omega) (by omega)];congr 1;omega
theorem Pt:∀(s j:Nat) (l:List Blk),j<l.length->((BO s l)[j]?).map (·.1)=some (.ext (s+j))
 | s,j,[],h=>by simp at h
 | s,0,b::l,h=>rfl
 | s,j+1,b::l,h=>by
  simp only [AzI] at h;simp only [BO,List.getElem?_cons_succ];rw [Pt (s+1) j l (by omega)];congr 2;omega
theorem XP (s:Nat):∀(l:List Blk),Bp (BO s l)=(List.range' s l.length).map .ext:=by
 intro l
 induction l generalizing s with
 | nil=>rfl
 | cons b l ih=>simp only [BO,Bp,AzK,AzI,List.range'_succ];exact congrArg _ (ih (s+1))
theorem As9 {own:List (Nat×Blk)} {ext:List Blk}:∀(n:Nat) (todo:List Ref) (s:Nat) (rest:List Blk),s<=ext.length->ext.drop s=rest->OZ n todo s rest=true ->
  (∀N,n<=N->∀lg,(Cb N todo (BO 0 (ext.take s))).runLog ⟨own,ext⟩ lg=some (BO 0 ext,((List.range' s (ext.length - s)).map Ref.ext).reverse++lg)) /\
  Li ext.length todo/\(∀b∈rest,Li ext.length b.refs):=by
 intro n
 induction n with
 | zero=>intro todo s rest _ _ h;cases h
 | succ n ih =>
  intro todo s rest hs hd h;cases todo with
  | nil =>
   cases rest with
   | cons _ _=>cases h
   | nil =>
    have he:s=ext.length:=by
     have:=congrArg List.length hd
     simp at this;omega
    refine ⟨fun N hN lg=>?_,fun r hr=>(by cases hr),fun b hb=>(by cases hb)⟩;cases N with
    | zero=>omega
    | succ N =>
     subst he;simp only [Cb,Rd.runLog,List.take_length,Nat.sub_self,List.range'_zero,AzJ,List.reverse_nil,List.nil_append]
  | cons r t =>
   cases r with
   | own k=>cases h
   | ext j =>
    have h:cond (Nat.ble (Nat.succ j) s) (OZ n t s rest) (cond (Nat.beq j s) (goR (OZ n) t s rest) false)=true:=h;have hl:(ext.take s).length=s:=by simp;omega
    cases hj:Nat.ble (Nat.succ j) s with
    | true =>
     rw [hj] at h;have hj:=Bl hj;obtain ⟨h1,h2,h3⟩:=ih t s rest hs hd h;refine ⟨fun N hN lg=>?_,fun r hr=>?_,h3⟩
     ·cases N with
      | zero=>omega
      | succ N =>
       simp only [Cb];rw [KT 0 j _ (Nat.zero_le _),hl,decide_eq_true (by omega),if_pos rfl];exact h1 N (by omega) lg
     ·rcases List.mem_cons.1 hr with rfl | hr
      ·exact ⟨j,rfl,by omega⟩
      ·exact h2 r hr
    | false =>
     rw [hj] at h;simp only [cond] at h;have hj':¬ j<s:=fun e=>by rw [Nat.ble_eq_true_of_le (Nat.succ_le_of_lt e)] at hj;cases hj
     cases hb:Nat.beq j s with
     | false=>rw [hb] at h;cases h
     | true =>
      rw [hb] at h;have hb:=DC hb;subst hb;simp only at h;cases rest with
      | nil=>cases h
      | cons b rest =>
       have h:OZ n (t++EJ b) (Nat.succ j) rest=true:=h;have hjl:j<ext.length:=by
        have:=congrArg List.length hd
        simp at this;omega
       have hgb:ext[j]?=some b:=by
        rw [<- List.head?_drop,hd];rfl
       have hd':ext.drop (j+1)=rest:=by rw [<- List.tail_drop,hd];rfl
       obtain ⟨h1,h2,h3⟩:=ih (t++EJ b) (j+1) rest (by omega) hd' h;rw [JO] at h1 h2;refine ⟨fun N hN lg=>?_,fun r hr=>?_,fun c hc=>?_⟩
       ·cases N with
        | zero=>omega
        | succ N =>
         simp only [Cb];rw [KT 0 j _ (Nat.zero_le _),hl,decide_eq_false (by omega)];simp only [Bool.false_eq_true,if_false,Rd.runLog,Hp.get,hgb];have ht:BO 0 (ext.take j)++[(.ext j,b)]=BO 0 (ext.take (j+1)):=by
          have:ext.take (j+1)=ext.take j++[b]:=by
           rw [List.take_add_one,hgb];rfl
          rw [this,Py,hl,Nat.zero_add]
         rw [ht,h1 N (by omega) (.ext j::lg)];rw [show ext.length - j=(ext.length - (j+1))+1 by omega,List.range'_succ]
         simp
       ·rcases List.mem_cons.1 hr with rfl | hr
        ·exact ⟨j,rfl,hjl⟩
        ·exact h2 r (List.mem_append_left _ hr)
       ·rcases List.mem_cons.1 hc with rfl | hc
        ·exact fun r hr=>h2 r (List.mem_append_right _ hr)
        ·exact h3 c hc
theorem Aiu {m:Nat}:∀(l:List Ref),okR m l=true->Li m l
 | [],_=>fun r hr=>by cases hr
 | .own k::l,h=>by cases h
 | .ext j::l,h=>by
  have h:cond (Nat.ble (Nat.succ j) m) (okR m l) false=true:=h;cases hj:Nat.ble (Nat.succ j) m with
  | false=>rw [hj] at h;cases h
  | true =>
   rw [hj] at h;have hj:=Bl hj;intro r hr;rcases List.mem_cons.1 hr with rfl | hr
   ·exact ⟨j,rfl,by omega⟩
   ·exact Aiu l h r hr
theorem Aic {m:Nat}:∀(l:List Blk),okB m l=true->∀b∈l,Li m b.refs
 | [],_=>fun b hb=>by cases hb
 | b::l,h=>by
  have h:cond (okR m (EJ b)) (okB m l) false=true:=h;cases hb:okR m (EJ b) with
  | false=>rw [hb] at h;cases h
  | true =>
   rw [hb] at h;rw [JO] at hb;intro c hc;rcases List.mem_cons.1 hc with rfl | hc
   ·exact Aiu _ hb
   ·exact Aic l h c hc
theorem Qc:∀(u:List (Ref×Blk)) (own:List (Nat×Blk)) (ext ext':List Blk) {k:Hp->Option β} {r:β},O8 u ⟨own,ext'⟩ k=some r ->
  ∃own2,laid ⟨own,ext⟩ u=some ⟨own2,ext⟩/\laid ⟨own,ext'⟩ u=some ⟨own2,ext'⟩/\k ⟨own2,ext'⟩=some r
 | [],own,ext,ext',k,r,h=>⟨own,rfl,rfl,h⟩
 | (q,b)::u,own,ext,ext',k,r,h=>by
  have h:(Xk q none fun s=>EA (.own s) ⟨own,ext'⟩ fun _=>GD (.own s) b ⟨own,ext'⟩ fun h=>O8 u h k)=some r:=h;cases q with
  | ext j=>cases h
  | own s =>
   have h:(EA (.own s) ⟨own,ext'⟩ fun _=>GD (.own s) b ⟨own,ext'⟩ fun h=>O8 u h k)=some r:=h;rw [Eo] at h;obtain ⟨c,hc,h⟩:=Bq h;rw [Kf] at h;obtain ⟨own2,h1,h2,h3⟩:=Qc u (Bf s b own) ext ext' h;refine ⟨own2,?_,?_,h3⟩
   ·simp only [laid];rw [show (Hp.mk own ext).get (.own s)=some c from hc]
    exact h1
   ·simp only [laid];rw [hc];exact h2
theorem MP:∀(ext' pre ext:List Blk) (own:List (Nat×Blk)),ext.length=ext'.length->laid ⟨own,pre++ext⟩ (((List.range' pre.length ext'.length).map Ref.ext).zip ext')=some ⟨own,pre++ext'⟩
 | [],pre,ext,own,h=>by
  cases ext with
  | nil=>rfl
  | cons _ _=>cases h
 | b::ext',pre,ext,own,h=>by
  cases ext with
  | nil=>cases h
  | cons c ext =>
   simp only [AzI,Nat.add_right_cancel_iff] at h;simp only [AzI,List.range'_succ,AzK,List.zip_cons_cons,laid,Hp.get];rw [List.getElem?_append_right (Nat.le_refl _),Nat.sub_self];simp only [List.getElem?_cons_zero,Hp.set];have e:(pre++c::ext).set pre.length b=(pre++[b])++ext:=by
    rw [List.set_append_right _ _ (Nat.le_refl _),Nat.sub_self];simp
   rw [e]
   have:=MP ext' (pre++[b]) ext own h
   simp only [List.length_append,List.length_singleton] at this;rw [this];simp
theorem Tb:∀(a b:List (Ref×Blk)) (h:Hp),laid h (a++b)=(laid h a).bind fun h=>laid h b
 | [],_,_=>rfl
 | (q,c)::a,b,h=>by
  simp only [List.cons_append,laid];cases h.get q with
  | none=>rfl
  | some _=>exact Tb a b _
theorem Afa (hi:∀f args h x,ih' f args h=some x->ih f args h=some x) {g:FuncId} {args:List IV} (h:Ai (E.pol.keep g) (E.pol.split g) (E.pol.raw g) ih' g args hp k=some r):Iso E ih g args hp k r:=by
 unfold Ai at h;cases hc:(cond (E.pol.split g) true (E.pol.raw g)) with
 | true=>rw [hc] at h;exact Ka hi h
 | false =>
  rw [hc] at h;simp only [cond] at h;have hs:E.pol.split g=false:=by cases e:E.pol.split g with | false=>rfl | true=>rw [e] at hc;cases hc
  rw [hs] at hc;have hr:E.pol.raw g=false:=hc;rcases Xa _ _ _ _ _ _ _ h with h1 | ⟨vs,rs,us,lg,hz,hus,hrs,h⟩
  ·exact Ka hi h1
  ·cases rs with
   | nil =>
    simp only at h;cases he:ih' g vs ⟨[],[]⟩ with
    | none=>rw [he] at h;cases h
    | some p =>
     obtain ⟨v,⟨own,ext⟩⟩:=p;rw [he] at h;cases ext with
     | cons b ext=>exact absurd (show (none:Option β)=some r from h) (by simp)
     | nil =>
      have h:(Gs 12 v ⟨own,[]⟩ [] (EF (E.pol.keep g) (E.pol.split g) (E.pol.raw g) ih' g args hp k) fun w _ _=>O8 us hp fun h2=>k (.fv w) h2 lg (Bp us))=some r:=h;rcases NN 12 _ _ _ _ _ _ h with h1 | ⟨w,u2,lg2,h2,_,h⟩
      ·exact Ka hi h1
      ·obtain ⟨own0,ext0⟩:=hp;obtain ⟨own2,l1,l2,h⟩:=Qc us own0 ext0 ext0 h;refine ⟨{ val:=.fv w,upd:=us },lg,⟨own2,ext0⟩,?_,l1,h⟩;have hw:=Fd _ _ _ _ _ (h2 4096 (by decide));have hren:∀q,IV.ren.renL q vs=some vs:=fun q=>renL_id vs (fun r hr=>by rw [hrs] at hr;cases hr);simp only [GH,Bu,hz,Option.bind_some,Cb,Rd.runLog,hren,AzJ,A9,asked,hs,Bool.false_eq_true,if_false,hi _ _ _ _ he,Hr,hr,hw,AzH,IV.ren,Rd.of];have hk:(Bp us).all (fun r=>!hasRef r [])=true:=List.all_eq_true.2 fun r _=>rfl;rw [if_pos ⟨rfl,hk⟩];simp only [Rd.runLog,Bp,AzJ,List.zip_nil_left,List.append_nil]
   | cons q rs =>
    obtain ⟨own0,ext0⟩:=hp;simp only at h;cases hg:OZ 400 (q::rs) 0 ext0 with
    | false=>rw [hg] at h;exact Ka hi h
    | true =>
     rw [hg] at h;simp only at h;obtain ⟨g1,g2,g3⟩:=As9 (own:=own0) 400 (q::rs) 0 ext0 (Nat.zero_le _) rfl hg;cases he:ih' g vs ⟨[],ext0⟩ with
     | none=>rw [he] at h;cases h
     | some p =>
      obtain ⟨v,⟨own,ext⟩⟩:=p;rw [he] at h;simp only at h;obtain ⟨ho,h⟩:=Ds h;have ho:(Nat.beq ext.length ext0.length && okB ext0.length ext)=true:=ho;simp only [Bool.and_eq_true] at ho;have hlen:=DC ho.1;have hok:=Aic _ ho.2;rcases NN 12 _ _ _ _ _ _ h with h1 | ⟨w,u2,lg2,h2,_,h⟩
      ·exact Ka hi h1
      ·obtain ⟨own2,l1,l2,h⟩:=Qc us own0 ext0 ext h;have hw:=Fd _ _ _ _ _ (h2 4096 (by decide));have hin:∀l,Li ext0.length l->∀r∈l,Ff (BO 0 ext0) r=some r:=by
        intro l hl r hr;obtain ⟨j,rfl,hj⟩:=hl r hr;simp only [Ff];rw [Lw 0 j 0 ext0 (Nat.zero_le _) (by omega)];simp
       have hbk:∀l,Li ext0.length l->∀r∈l,CD (BO 0 ext0) r=some r:=by
        intro l hl r hr;obtain ⟨j,rfl,hj⟩:=hl r hr;simp only [CD];rw [Pt 0 j ext0 hj,Nat.zero_add]
       have hv:IV.ren.renL (Ff (BO 0 ext0)) vs=some vs:=renL_id vs (fun r hr=>hin _ g2 r (by rw [hrs] at hr;exact hr));have hb1:A9 (Ff (BO 0 ext0)) ext0=some ext0:=Qv ext0 (fun b hb r hr=>hin _ (g3 b hb) r hr);have hb2:A9 (CD (BO 0 ext0)) ext=some ext:=Qv ext (fun b hb r hr=>hbk _ (hok b hb) r hr);have hkeys:Bp (BO 0 ext0)=Do ext0.length:=by rw [XP,Do,List.range_eq_range']
       refine ⟨{ val:=.fv w,upd:=us++(Bp (BO 0 ext0)).zip ext },(Do ext0.length).reverse++lg,⟨own2,ext⟩,?_,?_,?_⟩
       ·have hga:=g1 4096 (by decide) lg;simp only [List.take_zero,BO,Nat.sub_zero] at hga;simp only [GH,Bu,hz,Option.bind_some,hga,PA,hv,hb1,asked,hs,Bool.false_eq_true,if_false,hi _ _ _ _ he,Hr,hr,hw,AzH,IV.ren,hb2];have hk:(Bp us).all (fun r=>!hasRef r (BO 0 ext0))=true:=List.all_eq_true.2 fun r hr=>by
         obtain ⟨p,hp,rfl⟩:=List.mem_map.1 hr;obtain ⟨s,e⟩:=hus p hp;rw [e,PU];rfl
        rw [if_pos ⟨by rw [K3,hlen],hk⟩];simp only [Rd.of,Rd.runLog,Do,List.range_eq_range']
       ·simp only;rw [Tb,l1,Option.bind_some,hkeys,Do,List.range_eq_range',<- hlen];exact MP ext [] ext0 own2 hlen.symm
       ·have hz2:Bp (us++(Bp (BO 0 ext0)).zip ext)=Bp us++Do ext0.length:=by
         simp only [Bp,List.map_append];congr 1;rw [<- hkeys];exact List.map_fst_zip (by simp only [Bp,List.length_map,K3];omega)
        simp only [hz2];exact h
def Ald (E:Env) (ih:Aa) (f rid i:Nat) (dr:Bool) (slots:List IV) (op:Op) (hp:Hp) (k:IV->Hp->List Ref->List Ref->Option β) (r:β):Prop :=
 (D3 E slots op=none/\Gv E ih f rid i (AG slots) op hp k r) \/
 (dr=false/\Fo E op=false/\∃g args v hp',D3 E slots op=some (g,args)/\ih g args hp=some (v,hp')/\k v hp' [] []=some r)
theorem Vz {g:Operand} {args:Array Operand} {ts:Array TypeId} {h':FuncId} {first cap:List IV} {slots:List IV} (hc:callee (AG slots g)=some (h',first,cap)) (hin:E.pol.inl h'=false)
  (h:Iso E ih h' (first++args.toList.map (AG slots)++cap) hp k r):Ald E ih f rid i dr slots (.call ⟨.value g,args,ts⟩) hp k r:=by
 obtain ⟨e,rd,hp',h1,h2,h3⟩:=h;refine .inl ⟨?_,e.val,hp',rd,Bp e.upd,⟨{ eff:=e },?_,?_,rfl,?_⟩,h3,fun q=>by cases q⟩
 ·simp only [D3,hc,hin,Bool.false_eq_true,if_false]
 ·simp only [C1,hc,hin,Bool.false_eq_true,if_false,Rd.eff,Bu,h1,Option.bind_some,Rd.runLog]
 ·simp only [AQ,h2,Option.bind_some,CI]
 ·simp only [HT,List.append_nil]
theorem Aqq (hi:∀f args h x,ih' f args h=some x->ih f args h=some x) {slots:List IV} {c:Call} (h:IZ E ih' f rid i dr (AG slots) (.call c) hp k=some r):Ald E ih f rid i dr slots (.call c) hp k r:=by
 obtain ⟨cl,args,ts⟩:=c;simp only [IZ,BE] at h;cases cl with
 | invoke _ _=>cases h
 | builtin b =>
  refine .inl ⟨rfl,?_⟩;simp only [WT,BE] at h;split at h
  ·rename_i t x hts has;split at h
   ·rename_i e z ht;unfold BF at h;have hop:C1 E ih f rid i (AG slots) (.call ⟨.builtin .len,args,ts⟩)=AJ E (Bi f rid i) (E.pol.rowApp f rid i) .len [t] [AG slots x]:=by
     simp only [C1,hts,has];rfl
    rcases Uh h with ⟨q,sz,n,hx,h⟩ | ⟨hx,h⟩
    ·rw [Dm] at h;exact AZ (by rw [hop];simp only [AJ,ht,hx]) h
    ·rw [Af8] at h;obtain ⟨es,he,h⟩:=Bq h;rw [Dm] at h;refine AZ (v:=.fv (.int .i64 es.length)) ?_ h;rw [hop];simp only [AJ,ht];cases hxx:AG slots x with
     | slc q sz n=>exact absurd hxx (hx q sz n)
     | _=>rw [hxx] at he;simp only [he];rfl
   ·rename_i hn;refine BN ?_ rfl h;simp only [Fo,hts,has]
  ·rename_i b0 b1 ts1 args1 hn;refine BN ?_ rfl h;cases b0 with
   | len =>
    simp only [Fo];split
    ·rename_i hts has;exact absurd has (hn _ _ rfl hts)
    ·rfl
   | _=>rfl
 | value g =>
  simp only [WT,BE] at h;split at h
  ·rename_i g;have hc:callee (AG slots (.func g))=some (g,[],[]):=rfl;cases hin:E.pol.inl g with
   | true =>
    rw [hin] at h;cases dr with
    | true=>cases h
    | false =>
     simp only [cond,Aus] at h;cases he:ih' g (args.toList.map (AG slots)) hp with
     | none=>rw [he] at h;cases h
     | some p =>
      obtain ⟨v,hp'⟩:=p;rw [he] at h;refine .inr ⟨rfl,rfl,g,args.toList.map (AG slots),v,hp',?_,hi _ _ _ _ he,h⟩;simp only [D3,hc,hin,if_true,List.nil_append,List.append_nil]
   | false =>
    rw [hin] at h;refine Vz hc hin ?_;simp only [List.nil_append,List.append_nil];exact Afa hi h
  ·unfold Pa at h;split at h
   ·cases h
   ·rename_i h' first cap hc
    cases hin:E.pol.inl h' with
    | true=>rw [hin] at h;cases h
    | false =>
     rw [hin] at h;simp only [cond,HH] at h;exact Vz hc hin (Afa hi h)
theorem Aqy (hi:∀f args h x,ih' f args h=some x->ih f args h=some x) {slots:List IV} {op:Op} (h:IZ E ih' f rid i dr (AG slots) op hp k=some r):Ald E ih f rid i dr slots op hp k r:=by
 cases op with
 | call c=>exact Aqq hi h
 | move x=>exact .inl ⟨rfl,AZ rfl h⟩
 | assign x=>exact .inl ⟨rfl,AZ rfl h⟩
 | pick c a b=>exact .inl ⟨rfl,Asw h⟩
 | alloc t =>
  refine .inl ⟨rfl,?_⟩;simp only [IZ,BE] at h;cases ht:E.T t with
  | none=>rw [ht] at h;cases h
  | some ti=>rw [ht] at h;exact Uj rfl (by simp only [C1,ht]) h
 | box t x=>exact .inl ⟨rfl,Avt h⟩
 | build t ps=>exact .inl ⟨rfl,Apa h⟩
 | load t a=>exact .inl ⟨rfl,AqN h⟩
 | store t a x=>exact .inl ⟨rfl,AlZ h⟩
 | nilCheck x=>exact .inl ⟨rfl,AuG h⟩
 | binOp o t x y yt =>
  refine .inl ⟨rfl,?_⟩;simp only [IZ,BE] at h;obtain ⟨v,h1,h2⟩:=Ag0 h;exact AZ (by simp only [C1,h1];rfl) h2
 | unOp o t x =>
  refine .inl ⟨rfl,?_⟩;simp only [IZ,Cz] at h;exact PS rfl h
 | convert s d x=>exact .inl ⟨rfl,Ahv h⟩
 | fieldAddr s x fd=>exact .inl ⟨rfl,Va h⟩
 | field s x fd=>exact .inl ⟨rfl,Ami h⟩
 | indexAddr t x ix=>exact .inl ⟨rfl,UO h⟩
 | index t x ix=>exact .inl ⟨rfl,Ane h⟩
 | extract x ix=>exact .inl ⟨rfl,Ag3 h⟩
 | makeMap t n=>cases n with
  | none=>exact .inl ⟨rfl,BN rfl rfl h⟩
  | some _=>cases h
 | buildSlice t n ps=>exact .inl ⟨rfl,BN rfl rfl h⟩
 | makeFunc fn a b=>exact .inl ⟨rfl,BN rfl rfl h⟩
 | insert t m j x=>exact .inl ⟨rfl,BN rfl rfl h⟩
 | mapUpdate t m j x=>exact .inl ⟨rfl,BN rfl rfl h⟩
 | lookup t m j ok=>exact .inl ⟨rfl,BN rfl rfl h⟩
 | makeSlice t l c=>exact .inl ⟨rfl,BN rfl rfl h⟩
 | slice t x lo hi mx=>exact .inl ⟨rfl,BN rfl rfl h⟩
 | _=>cases h
end
end Idl
end Go.Proofs.Ytdibmackcbpniaa
namespace Go.Proofs.Ytdibmackcbpniaa
namespace Idl
section
variable {β:Type}
def BY (k:Nat) (F:(List IV->Hp->Option β)->List IV->Hp->Option β):List IV->Hp->Option β :=
 Nat.rec (motive:=fun _=>List IV->Hp->Option β) (fun _ _=>none) (fun _ rec=>F rec) k
def LK (s:Nat) (l:List Nat):Bool:=List.rec (motive:=fun _=>Bool) false (fun x _ ih=>cond (Nat.beq s x) true ih) l
def E4 (rm:List Nat) (l:List Ref):Bool:=List.rec (motive:=fun _=>Bool) true (fun r _ ih=>match r with
 | .own s=>cond (LK s rm) false ih
 | .ext _=>ih) l
def HD (rm:List Nat) (own:List (Nat×Blk)):Bool:=List.rec (motive:=fun _=>Bool) true (fun p _ ih=>match p with
 | (s,b)=>cond (LK s rm) ih (cond (E4 rm (EJ b)) ih false)) own
def I1 (rm:List Nat) (ext:List Blk):Bool:=List.rec (motive:=fun _=>Bool) true (fun b _ ih=>cond (E4 rm (EJ b)) ih false) ext
def Aos (rm:List Nat) (own:List (Nat×Blk)):Bool:=List.rec (motive:=fun _=>Bool) false (fun p _ ih=>match p with
 | (s,_)=>cond (LK s rm) true ih) own
def SE (rm:List Nat) (own:List (Nat×Blk)) (k:List (Nat×Blk)->Option β):Option β :=
 List.rec (motive:=fun _=>(List (Nat×Blk)->Option β)->Option β) (fun k=>k []) (fun p _ ih k=>match p with
  | (s,b)=>cond (LK s rm) (ih k) (ih fun l=>k ((s,b)::l))) own k
def BZ (base rm:List Nat) (vals:List IV) (h:Hp) (k:Hp->Option β):Option β :=
 cond (
    rm.any base.contains) none (match h with
  | ⟨own,ext⟩=>cond (Aos rm own)
   (cond (and (E4 rm (CJ vals [])) (and (HD rm own) (I1 rm ext))) (SE rm own fun own=>k ⟨own,ext⟩)
    (match CN base [] rm ⟨vals,⟨own,ext⟩⟩ with
     | none=>none
     | some S=>fH S.hp k)) (k ⟨own,ext⟩))
def QK (d:Option Nat) (v:IV) (h:Hp) (T:FS):FS:=match d with
 | none=>⟨T.n,T.t,h⟩
 | some d=>cond (Nat.ble T.n d) ⟨T.n,T.t,h⟩ ⟨T.n,T.t.set d v,h⟩
abbrev SlT.setKK {α:Type} (t:SlT):Nat->IV->(SlT->α)->α :=
 SlT.rec (motive:=fun _=>Nat->IV->(SlT->α)->α) (fun j v i x k=>Bool.rec (motive:=fun _=>α) (k (.leaf j v)) (k (.leaf j x)) (Nat.beq i j))
  (fun m l r gl gr i x k=>Bool.rec (motive:=fun _=>α) (gl i x fun l'=>k (.node m l' r)) (gr i x fun r'=>k (.node m l r')) (Nat.ble m i)) t
abbrev KJ (d:Option Nat) (v:IV) (h:Hp) (T:FS) (K:FS->Option β):Option β :=
 FS.rec (motive:=fun _=>Option β) (fun n t _=>Option.rec (motive:=fun _=>Option β) (K ⟨n,t,h⟩) (fun d=>UF (Nat.ble n d) (K ⟨n,t,h⟩) (t.setKK d v fun t=>K ⟨n,t,h⟩)) d) T
abbrev XQ (args:List IV):Nat->FS->(FS->Option β)->Option β :=
 List.rec (motive:=fun _=>Nat->FS->(FS->Option β)->Option β) (fun _ T K=>K T) (fun v _ ih i T K=>KJ (some i) v T.hp T fun T=>ih (Nat.succ i) T K) args
abbrev Ts (cs:List Nat):List IV->FS->(FS->Option β)->Option β :=
 List.rec (motive:=fun _=>List IV->FS->(FS->Option β)->Option β) (fun _ T k=>k T) (fun c _ ih vals T k=>AH vals fun v vals=>KJ (some c) v T.hp T fun T=>ih vals T k) cs
def LF (r s:Ref):Bool:=match r with
 | .own i=>(match s with
  | .own j=>not (Nat.beq i j)
  | .ext _=>true)
 | .ext i=>(match s with
  | .own _=>true
  | .ext j=>not (Nat.beq i j))
def Kk (r:Ref) (l:List Ref):Bool:=List.rec (motive:=fun _=>Bool) true (fun s _ ih=>cond (LF r s) ih false) l
def Wq (a b:List Ref):Bool:=List.rec (motive:=fun _=>Bool) true (fun r _ ih=>cond (Kk r b) ih false) a
theorem Ajl (r s:Ref):LF r s=decide (r≠s):=by
 cases r<;>cases s<;>simp [LF,Iq]
theorem U7 (r:Ref):∀(l:List Ref),Kk r l=l.all fun s=>decide (r≠s)
 | []=>rfl
 | s::l=>by
  rw [show Kk r (s::l)=cond (LF r s) (Kk r l) false from rfl,Ajl,U7 r l,List.all_cons]
  cases decide (r≠s)<;>rfl
theorem Aig:∀(a b:List Ref),Wq a b=N6 a b
 | [],_=>rfl
 | r::a,b=>by
  rw [show Wq (r::a) b=cond (Kk r b) (Wq a b) false from rfl,U7,Aig a b]
  simp only [N6,List.all_cons];cases (b.all fun s=>decide (r≠s))<;>rfl
def Ab (l:List (List Ref×List Ref)) (rd wr:List Ref) (a:Option β):Option β :=
 List.rec (motive:=fun _=>Option β) a (fun q _ ih=>match q with
  | (q1,q2)=>cond (Wq q2 rd) (cond (Wq q2 wr) (cond (Wq wr q1) ih none) none) none) l
def UN (before:Nat) (done:List (Nat×List Ref×List Ref)):List (List Ref×List Ref) :=
 List.rec (motive:=fun _=>List (List Ref×List Ref)) [] (fun p _ ih=>match p with | (j,q)=>cond (before.testBit j) ih (q::ih)) done
section
variable (E:Env) (ih:Aa)
def Ly (f rid:Nat) (ops:Array Oper) (i:Nat) (o:Oper) (dr:Bool) (T:FS) (K:FS->List Ref->List Ref->Option β):Option β :=
 match o.guard with
 | none=>IZ E ih f rid i dr (Hg T) o.op T.hp fun v h rd wr=>KJ o.dst v h T fun T=>K T rd wr
 | some (j,want)=>match (ops[j]?).bind (·.dst) with
  | none=>none
  | some d=>UF (Nat.ble T.n d) none
   (Ac (T.get d) want T.hp (fun k=>IZ E ih f rid i dr (Hg T) o.op T.hp k) fun v h rd wr=>KJ o.dst v h T fun T=>K T rd wr)
def ArP (f rid:Nat) (ops:Array Oper) (l:List Oper):Nat->FS->(FS->Option β)->Option β :=
 List.rec (motive:=fun _=>Nat->FS->(FS->Option β)->Option β) (fun _ T K=>K T) (fun o _ rec i T K=>Ly E ih f rid ops i o false T fun T _ _=>rec (Nat.succ i) T K) l
def Aax (f rid:Nat) (ops:Array Oper) (before:Array Nat) (l:List Oper):Nat->List (Nat×List Ref×List Ref)->FS->(FS->Option β)->Option β :=
 List.rec (motive:=fun _=>Nat->List (Nat×List Ref×List Ref)->FS->(FS->Option β)->Option β) (fun _ _ T K=>K T)
  (fun o _ rec i done T K=>UF (Fo E o.op) (Ly E ih f rid ops i o true T fun T _ _=>rec (Nat.succ i) done T K)
   (Ly E ih f rid ops i o true T fun T rd wr=>Ab (UN (before.getD i 0) done) rd wr (rec (Nat.succ i) ((i,rd,wr)::done) T K))) l
def CU (n:Nat) (kills:List Nat):List Nat:=(List.range n).filter fun i=>!kills.contains i
def PL (base kills rm:List Nat) (T:FS) (k:List IV->Hp->Option β):Option β :=
 match rm with
 | []=>k ((CU T.n kills).map T.get) T.hp
 | r::rm=>BZ base (r::rm) ((CU T.n kills).map T.get) T.hp fun h=>k ((CU T.n kills).map T.get) h
def Fe (f n:Nat) (base:List Nat):Code->FS->(Ex->FS->Option β)->Option β
 | .skip,T,K=>K .normal T
 | .region rid ops draw,T,K=>UF draw (Aax E ih f rid ops (Region.before ops) ops.toList 0 [] T fun T=>K .normal T) (ArP E ih f rid ops ops.toList 0 T fun T=>K .normal T)
 | .seq a b,T,K=>Fe f n base a T fun ex T=>match ex with
  | .normal=>Fe f n base b T K
  | .exit j=>K (.exit j) T
  | .ret=>K .ret T
 | .cond c a b,T,K=>Aj (Hg T c) (Fe f n base a T K) (Fe f n base b T K)
 | .block id c,T,K=>Fe f n base c T fun ex T=>match ex with
  | .normal=>K .normal T
  | .exit j=>UF (Nat.beq j id) (K .normal T) (K (.exit j) T)
  | .ret=>K .ret T
 | .loop c,T,K=>PL base (E.pol.head f (Cd c)).1 (E.pol.head f (Cd c)).2 T (BY n fun rec vals h =>
   Ts (CU T.n (E.pol.head f (Cd c)).1) vals ⟨T.n,dT 10 0 T.n,h⟩ fun T=>Fe f n base c T fun ex T=>match ex with
    | .normal=>PL base (E.pol.head f (Cd c)).1 (E.pol.head f (Cd c)).2 T rec
    | .exit j=>K (.exit j) T
    | .ret=>K .ret T)
 | .exit id,T,K=>K (.exit id) T
 | .ret,T,K=>K .ret T
 | _,_,_=>none
def Ap (agg:Bool) (size:Nat) (a:IV) (h:Hp) (k:IV->Option β):Option β :=
 cond agg (Ae size a h fun v _=>k v) (Ak a h fun v _=>k v)
def Ag6 (T:FS) (rs:List ResultVar):List IV->(List IV->Option β)->Option β :=
 List.rec (motive:=fun _=>List IV->(List IV->Option β)->Option β) (fun acc k=>k acc) (fun v _ rec acc k=>match v with
  | .tmp t=>rec (acc++[T.get t]) k
  | .cell a t=>match E.T t with
   | none=>none
   | some ti=>Ap ti.kind.isAgg ti.size (T.get a) T.hp fun v=>rec (acc++[v]) k) rs
def Ao (vs:List IV) (h:Hp):Option (IV×Hp):=match vs with
 | [v]=>some (v,h)
 | vs=>XS vs fun v=>some (v,h)
def Ax (FT:Nat->Option Func) (n f:Nat) (args:List IV) (h:Hp):Option (IV×Hp):=match FT f with
 | none=>none
 | some fn=>match fn.body with
  | none=>none
  | some c=>UF (Nat.ble args.length fn.ntmps && Nat.ble fn.ntmps 1024)
   (XQ args 0 ⟨fn.ntmps,dT 10 0 fn.ntmps,h⟩ fun T=>Fe E ih f n (h.own.map (·.1)) c T fun ex T=>match ex with
    | .exit _=>none
    | .normal=>Ag6 E T fn.results.toList [] fun vs=>Ao vs T.hp
    | .ret=>Ag6 E T fn.results.toList [] fun vs=>Ao vs T.hp) none
end
end
end Idl
end Go.Proofs.Ytdibmackcbpniaa
set_option linter.unusedSimpArgs false
namespace Go.Proofs.Ytdibmackcbpniaa
namespace Idl
section
variable {β:Type} {E:Env} {ih ih':Aa} {f rid:Nat} {r:β}
theorem RX (d:Option Nat) (v:IV) (h:Hp) (T:FS):QK d v h T=RW d v ⟨T.n,T.t,h⟩:=by cases d<;>rfl
theorem Xe (d:Option Nat) (v:IV) (h:Hp) (T:FS):(QK d v h T).n=T.n:=by
 cases d with
 | none=>rfl
 | some d =>
  show (cond (Nat.ble T.n d) (FS.mk T.n T.t h) ⟨T.n,T.t.set d v,h⟩).n=T.n
  cases Nat.ble T.n d<;>rfl
theorem Ah6 {α:Type} (t:SlT) (i:Nat) (x:IV) (k:SlT->α):t.setKK i x k=k (t.set i x):=by
 refine Eq.trans ?_ (AaF t i x k)
 induction t generalizing k with
 | leaf j v =>
  show Bool.rec (k (.leaf j v)) (k (.leaf j x)) (Nat.beq i j)=cond (Nat.beq i j) (k (.leaf j x)) (k (.leaf j v))
  cases Nat.beq i j<;>rfl
 | node m l r ihl ihr =>
  show Bool.rec (l.setKK i x fun l'=>k (.node m l' r)) (r.setKK i x fun r'=>k (.node m l r')) (Nat.ble m i)=cond (Nat.ble m i) (r.setK i x fun r'=>k (.node m l r')) (l.setK i x fun l'=>k (.node m l' r))
  cases Nat.ble m i
  ·exact ihl _
  ·exact ihr _
theorem Nv (d:Option Nat) (v:IV) (h:Hp) (T:FS) (K:FS->Option β):KJ d v h T K=K (QK d v h T):=by
 obtain ⟨n,t,h0⟩:=T;cases d with
 | none=>rfl
 | some d =>
  show UF (Nat.ble n d) (K ⟨n,t,h⟩) (t.setKK d v fun t=>K ⟨n,t,h⟩)=K (cond (Nat.ble n d) ⟨n,t,h⟩ ⟨n,t.set d v,h⟩)
  rw [BE];cases Nat.ble n d
  ·simp only [cond];rw [Ah6]
  ·rfl
theorem Pz:∀(args:List IV) (i:Nat) (T:FS) (K:FS->Option β),XQ args i T K=YY args i T K
 | [],_,_,_=>rfl
 | v::l,i,T,K=>by
  show KJ (some i) v T.hp T (fun T=>XQ l (Nat.succ i) T K)=AjR (some i) v T fun T=>YY l (Nat.succ i) T K
  rw [Nv,Aba,RX,Pz l]
theorem Nl {T:FS} {S:St} (hr:Rep T S) (d:Option Nat) (v:IV) (h:Hp):Rep (QK d v h T) ⟨B8 d v S.slots,h⟩:=by
 rw [RX];exact Ach (T:=⟨T.n,T.t,h⟩) (S:=⟨S.slots,h⟩) ⟨rfl,hr.len,hr.has,hr.get⟩ d v
theorem OO (hi:∀f args h x,ih' f args h=some x->ih f args h=some x) {ops:Array Oper} {i:Nat} {o:Oper} (ho:ops[i]?=some o) {dr:Bool} {T:FS} {S:St} (hr:Rep T S)
  {K:FS->List Ref->List Ref->Option β} (h:Ly E ih' f rid ops i o dr T K=some r) :
  ∃S' T' rd wr,step E ih f rid ops i S=some S'/\(dr=true->Kb E ih f rid ops i S=some (S',rd,wr))/\Rep T' S'/\T'.n=T.n/\K T' rd wr=some r/\(Fo E o.op=true->rd=[]/\wr=[]):=by
 have done:Dd ops S.slots o=some true->IZ E ih' f rid i dr (Hg T) o.op T.hp (fun v h rd wr=>K (QK o.dst v h T) rd wr)=some r ->
   ∃S' T' rd wr,step E ih f rid ops i S=some S'/\(dr=true->Kb E ih f rid ops i S=some (S',rd,wr))/\Rep T' S'/\T'.n=T.n/\K T' rd wr=some r/\(Fo E o.op=true->rd=[]/\wr=[]):=by
  intro hw h;rw [LA hr,<- hr.hp] at h;rcases Aqy hi h with ⟨hin,v,hp',rd,wr,⟨m,hm,hh,hv,hwr⟩,hk,hq⟩ | ⟨hdr,hq,g,args,v,hp',hin,he,hk⟩
  ·have ha:DJ (Bi f rid i) o.dst S m=some ⟨B8 o.dst v S.slots,hp'⟩:=by simp only [DJ,hh,AzH,hv]
   refine ⟨⟨B8 o.dst v S.slots,hp'⟩,QK o.dst v hp' T,rd,wr,?_,fun _=>?_,Nl hr o.dst v hp',Xe ..,hk,hq⟩
   ·simp only [step,ho,hw,hin,DG];rw [Fd _ _ _ _ _ hm];exact ha
   ·simp only [Kb,ho,hw,hin,DG,hm,ha,AzH,hwr,HT];rfl
  ·refine ⟨⟨B8 o.dst v S.slots,hp'⟩,QK o.dst v hp' T,[],[],?_,fun e=>(by rw [hdr] at e;cases e),Nl hr o.dst v hp',Xe ..,hk,fun q=>by rw [hq] at q;cases q⟩;simp only [step,ho,hw,hin,he,AzH]
 have skip:Dd ops S.slots o=some false->K (QK o.dst Fg T.hp T) [] []=some r ->
   ∃S' T' rd wr,step E ih f rid ops i S=some S'/\(dr=true->Kb E ih f rid ops i S=some (S',rd,wr))/\Rep T' S'/\T'.n=T.n/\K T' rd wr=some r/\(Fo E o.op=true->rd=[]/\wr=[]):=by
  intro hw h;refine ⟨_,_,[],[],?_,fun _=>?_,Nl hr o.dst Fg T.hp,Xe ..,h,fun _=>⟨rfl,rfl⟩⟩
  ·simp only [step,ho,hw,<- hr.hp]
  ·simp only [Kb,ho,hw,<- hr.hp]
 unfold Ly at h;have eK:(fun (v:IV) (h:Hp) (rd wr:List Ref)=>KJ o.dst v h T fun T=>K T rd wr)=fun v h rd wr=>K (QK o.dst v h T) rd wr:=by
  funext v h rd wr
  exact Nv o.dst v h T fun T=>K T rd wr
 rw [eK] at h;simp only [BE] at h;cases hg:o.guard with
 | none =>
  rw [hg] at h;exact done (by simp only [Dd,hg]) h
 | some jw =>
  obtain ⟨j,want⟩:=jw;rw [hg] at h;simp only at h;cases hd:(ops[j]?).bind (·.dst) with
  | none=>rw [hd] at h;cases h
  | some d =>
   rw [hd] at h;simp only at h;cases hb:Nat.ble T.n d with
   | true=>rw [hb] at h;cases h
   | false =>
    rw [hb] at h;simp only [cond] at h;have hdn:d<T.n:=Nat.lt_of_not_le fun h=>by rw [Nat.ble_eq_true_of_le h] at hb;cases hb
    have hs:S.slots[d]?=some (T.get d):=by
     rw [hr.at_,List.getD_eq_getElem?_getD,List.getElem?_eq_getElem (by rw [hr.len];exact hdn)];rfl
    have hw:Dd ops S.slots o=match T.get d with
      | .fv (.bool b)=>some (b == want)
      | .fv (.tuple [])=>some false
      | _=>none:=by
     simp only [Dd,hg,hd,Option.bind_some,hs];generalize T.get d=v;split
     ·rename_i e;simp only [AzE] at e;subst e;rfl
     ·rename_i e;simp only [AzE] at e;subst e;rfl
     ·rename_i h1 h2;split
      ·exact absurd rfl (h1 _)
      ·exact absurd rfl h2
      ·rfl
    unfold Ac at h;rcases NG h with ⟨v,hv,h⟩ | h
    ·rw [hv] at hw;unfold AhQ at h;split at h
     ·rename_i b;have e:(b == want)=(cond want b (not b)):=by cases b<;>cases want<;>rfl
      cases hc:(cond want b (not b)) with
      | true =>
       rw [hc] at h;exact done (by rw [hw];simp only [e,hc]) h
      | false =>
       rw [hc] at h;exact skip (by rw [hw];simp only [e,hc]) h
     ·rename_i l;cases l with
      | nil=>exact skip hw h
      | cons _ _=>cases h
     ·cases h
    ·cases h
theorem AlB (hi:∀f args h x,ih' f args h=some x->ih f args h=some x) {ops:Array Oper}:∀(l:List Oper) (i:Nat),ops.toList.drop i=l->∀{T:FS} {S:St},Rep T S->∀{K:FS->Option β},ArP E ih' f rid ops l i T K=some r ->
  ∃S' T',Jm E ih f rid ops (List.range' i l.length) S=some S'/\Rep T' S'/\T'.n=T.n/\K T'=some r:=by
 intro l
 induction l with
 | nil=>intro i _ T S hr K h;exact ⟨S,T,rfl,hr,rfl,h⟩
 | cons o l ihl =>
  intro i hd T S hr K h;have ho:ops[i]?=some o:=by
   have:ops.toList[i]?=some o:=by rw [<- List.head?_drop,hd];rfl
   simpa using this
  have hd':ops.toList.drop (i+1)=l:=by rw [<- List.tail_drop,hd];rfl
  have h:Ly E ih' f rid ops i o false T (fun T _ _=>ArP E ih' f rid ops l (Nat.succ i) T K)=some r:=h;obtain ⟨S1,T1,rd,wr,h1,_,h2,hn,h3,_⟩:=OO hi ho hr h;obtain ⟨S',T',h4,h5,hn2,h6⟩:=ihl (i+1) hd' h2 h3;refine ⟨S',T',?_,h5,hn2.trans hn,h6⟩;rw [AzI,List.range'_succ];simp only [Jm,h1,Option.bind_some];exact h4
theorem Am4 {l:List (List Ref×List Ref)} {rd wr:List Ref} {a:Option β} (h:Ab l rd wr a=some r):(∀q∈l,clash q (rd,wr)=true)/\a=some r:=by
 induction l with
 | nil=>exact ⟨fun q hq=>(by cases hq),h⟩
 | cons p l ih =>
  obtain ⟨q1,q2⟩:=p;have h:cond (Wq q2 rd) (cond (Wq q2 wr) (cond (Wq wr q1) (Ab l rd wr a) none) none) none=some r:=h;obtain ⟨h1,h⟩:=Ds h;obtain ⟨h2,h⟩:=Ds h;obtain ⟨h3,h⟩:=Ds h;rw [Aig] at h1 h2 h3;obtain ⟨h4,h5⟩:=ih h;refine ⟨fun q hq=>?_,h5⟩;rcases List.mem_cons.1 hq with rfl | hq
  ·simp only [clash,h1,h2,h3,Bool.and_self]
  ·exact h4 q hq
theorem AgA {b:Nat} {done:List (Nat×List Ref×List Ref)} {j:Nat} {q:List Ref×List Ref} (h:(j,q)∈done) (hj:b.testBit j=false):q∈UN b done:=by
 induction done with
 | nil=>cases h
 | cons p l ih =>
  obtain ⟨j',q'⟩:=p
  show q∈cond (b.testBit j') (UN b l) (q'::UN b l)
  rcases List.mem_cons.1 h with e | h
  ·simp only [AzF] at e;obtain ⟨rfl,rfl⟩:=e;rw [hj];exact List.mem_cons_self
  ·cases b.testBit j' with
   | true=>exact ih h
   | false=>exact List.mem_cons_of_mem _ (ih h)
theorem Akq (hi:∀f args h x,ih' f args h=some x->ih f args h=some x) {ops:Array Oper} {before:Array Nat}:∀(l:List Oper) (i:Nat),ops.toList.drop i=l->∀{T:FS} {S:St} (done full:List (Nat×List Ref×List Ref)),
  (∀x∈full,x.2=([],[])\/x∈done)->Rep T S->∀{K:FS->Option β},Aax E ih' f rid ops before l i done T K=some r ->
  ∃S' T',EQ E ih f rid ops before (List.range' i l.length) full S=some S'/\Rep T' S'/\T'.n=T.n/\K T'=some r:=by
 intro l
 induction l with
 | nil=>intro i _ T S done full _ hr K h;exact ⟨S,T,rfl,hr,rfl,h⟩
 | cons o l ihl =>
  intro i hd T S done full hf hr K h;have ho:ops[i]?=some o:=by
   have:ops.toList[i]?=some o:=by rw [<- List.head?_drop,hd];rfl
   simpa using this
  have hd':ops.toList.drop (i+1)=l:=by rw [<- List.tail_drop,hd];rfl
  have h:UF (Fo E o.op) (Ly E ih' f rid ops i o true T fun T _ _=>Aax E ih' f rid ops before l (Nat.succ i) done T K)
   (Ly E ih' f rid ops i o true T fun T rd wr=>Ab (UN (before.getD i 0) done) rd wr (Aax E ih' f rid ops before l (Nat.succ i) ((i,rd,wr)::done) T K))=some r:=h
  rw [BE] at h;rw [AzI,List.range'_succ];cases hq:Fo E o.op with
  | true =>
   rw [hq] at h;simp only [cond] at h;obtain ⟨S1,T1,rd,wr,_,h1,h2,hn,h3,h4⟩:=OO hi ho hr h;have h1:=h1 rfl;obtain ⟨rfl,rfl⟩:=h4 hq;obtain ⟨S',T',h4,h5,hn2,h6⟩:=ihl (i+1) hd' done ((i,[],[])::full) (fun x hx=>by
    rcases List.mem_cons.1 hx with rfl | hx
    ·exact .inl rfl
    ·exact hf x hx) h2 h3
   refine ⟨S',T',?_,h5,hn2.trans hn,h6⟩;simp only [EQ,h1]
   have:(full.all fun x=>(before.getD i 0).testBit x.1 || clash x.2 ([],[]))=true:=List.all_eq_true.2 fun x _=>by rw [AhC];simp
   rw [if_pos this];exact h4
  | false =>
   rw [hq] at h;simp only [cond] at h;obtain ⟨S1,T1,rd,wr,_,h1,h2,hn,h3,_⟩:=OO hi ho hr h;have h1:=h1 rfl;obtain ⟨hc,h3⟩:=Am4 h3;obtain ⟨S',T',h4,h5,hn2,h6⟩:=ihl (i+1) hd' ((i,rd,wr)::done) ((i,rd,wr)::full) (fun x hx=>by
    rcases List.mem_cons.1 hx with rfl | hx
    ·exact .inr List.mem_cons_self
    ·exact (hf x hx).imp id (List.mem_cons_of_mem _)) h2 h3
   refine ⟨S',T',?_,h5,hn2.trans hn,h6⟩;simp only [EQ,h1]
   have:(full.all fun x=>(before.getD i 0).testBit x.1 || clash x.2 (rd,wr))=true:=List.all_eq_true.2 fun x hx=>by
    rcases hf x hx with e | e
    ·rw [e,Aho];simp
    ·cases hb:(before.getD i 0).testBit x.1 with
     | true=>rfl
     | false=>rw [hc x.2 (AgA (j:=x.1) e hb)];rfl
   rw [if_pos this];exact h4
theorem Akv (ks:List Nat) (l:List IV):(AV ks l).length=l.length:=by
 induction ks generalizing l with
 | nil=>rfl
 | cons i ks ih=>simp [AV,ih]
theorem Tq (ks:List Nat) (l:List IV) (i:Nat) (hi:i<l.length):(AV ks l).getD i .dead=if i∈ks then .dead else l.getD i .dead:=by
 induction ks generalizing l with
 | nil=>simp [AV]
 | cons j ks ih =>
  rw [AV,ih _ (by simpa using hi)];by_cases h:i∈ks
  ·rw [if_pos h,if_pos (List.mem_cons_of_mem _ h)]
  ·rw [if_neg h];by_cases e:i=j
   ·subst e;rw [if_pos List.mem_cons_self,List.getD_eq_getElem?_getD,List.getElem?_set_self hi];rfl
   ·rw [if_neg (by simp [e,h]),List.getD_eq_getElem?_getD,List.getElem?_set_ne (Ne.symm e),<- List.getD_eq_getElem?_getD]
structure AtHead (n:Nat) (kills:List Nat) (vals:List IV) (h:Hp) (S:St):Prop where
 len:S.slots.length=n
 hp:S.hp=h
 vals:vals=(CU n kills).map fun i=>S.slots.getD i .dead
 dead:∀i,i<n->i∈kills->S.slots.getD i .dead=.dead
theorem MQ {n:Nat} {kills:List Nat} {i:Nat}:i∈CU n kills ↔ i<n/\i ∉ kills:=by
 simp [CU]
theorem Ic {T:FS} {S:St} (hr:Rep T S) (kills:List Nat) (h:Hp):AtHead T.n kills ((CU T.n kills).map T.get) h ⟨AV kills S.slots,h⟩:=by
 refine ⟨by simp [Akv,hr.len],rfl,?_,fun i hi hk=>?_⟩
 ·apply List.map_congr_left;intro i hi
  have:=MQ.1 hi
  rw [hr.at_];simp only;rw [Tq _ _ _ (by rw [hr.len];exact this.1),if_neg this.2]
 ·simp only;rw [Tq _ _ _ (by rw [hr.len];exact hi),if_pos hk]
theorem QJ {l:List IV}:∀(g:Nat->Bool) (n:Nat),l.length=n->(∀i,i<n->g i=false->l.getD i .dead=.dead) ->
  IV.refs.refsL (((List.range n).filter g).map fun i=>l.getD i .dead)=IV.refs.refsL l:=by
 intro g n
 induction n generalizing l g with
 | zero=>intro hl _;cases l with | nil=>rfl | cons _ _=>cases hl
 | succ n ih =>
  intro hl hd;cases l with
  | nil=>cases hl
  | cons x l =>
   simp only [AzI,Nat.add_right_cancel_iff] at hl;rw [List.range_succ_eq_map];have ih:=ih (l:=l) (fun i=>g (i+1)) hl (fun i hi hg=>by simpa using hd (i+1) (by omega) hg);have e:(((List.range n).map Nat.succ).filter g).map (fun i=>(x::l).getD i .dead)=(((List.range n).filter fun i=>g (i+1))).map fun i=>l.getD i .dead:=by
    rw [List.filter_map,List.map_map];rfl
   cases hg:g 0 with
   | true =>
    rw [List.filter_cons_of_pos hg,AzK,e];simp only [IV.refs.refsL,ih];rfl
   | false =>
    rw [List.filter_cons_of_neg (by rw [hg];simp),e]
    have:x=.dead:=by simpa using hd 0 (by omega) hg
    subst this;simp only [IV.refs.refsL,ih];rfl
def NW (rm:List Nat) (rs:List Ref) (h:Hp):Option Hp :=
 let held:=rs++(h.own.filter fun p=>!rm.contains p.1).flatMap (fun p=>p.2.refs)++h.ext.flatMap Blk.refs
 let gone:=rm.filter fun k=>!anyIn [k] held
 let h2:Hp:={ h with own:=h.own.filter fun p=>!gone.contains p.1 }
 if anyIn gone (rs++h2.own.flatMap (fun p=>p.2.refs)++h2.ext.flatMap Blk.refs) then none else some h2
theorem Ann {α γ:Type} {c c':Bool} {y:α} (g:α->γ) (h:c=c'):(if c=true then none else some (g y))=(if c'=true then none else some y).map g:=by
 subst h;cases c<;>rfl
theorem Hj {base kills rm:List Nat} {sl:List IV} {h:Hp} (hb:rm.any base.contains=false) (ha:(h.own.all fun p=>!rm.contains p.1)=false) :
  CN base kills rm ⟨sl,h⟩=(NW rm (IV.refs.refsL (AV kills sl)) h).map fun h'=>⟨AV kills sl,h'⟩:=by
 simp only [CN,hb,ha,Bool.false_eq_true,if_false,C4,NW];exact Ann _ rfl
theorem O4 {base rm:List Nat} {S1:St} {kills:List Nat} {sl:List IV} (hsl:IV.refs.refsL sl=IV.refs.refsL (AV kills S1.slots)) (hb:rm.any base.contains=false)
  (ha:(S1.hp.own.all fun p=>!rm.contains p.1)=false) {S:St} (h:CN base [] rm ⟨sl,S1.hp⟩=some S):CN base kills rm S1=some ⟨AV kills S1.slots,S.hp⟩:=by
 obtain ⟨s1,h1⟩:=S1;rw [Hj hb ha] at h;rw [Hj hb ha];simp only [AV] at h;rw [hsl] at h;cases hd:NW rm (IV.refs.refsL (AV kills s1)) h1 with
 | none=>rw [hd] at h;cases h
 | some h' =>
  rw [hd] at h;simp only [AzH,AzE] at h;subst h;rfl
theorem Mm (s:Nat) (l:List Nat):LK s l=l.contains s:=by
 induction l with
 | nil=>rfl
 | cons x l ih =>
  rw [show LK s (x::l)=cond (Nat.beq s x) true (LK s l) from rfl,GL,ih,List.contains_cons]
  by_cases e:s=x
  ·subst e;simp
  ·rw [if_neg e];simp [e]
theorem Fb {rm:List Nat}:∀{l:List Ref},E4 rm l=true->∀k∈rm,Ref.own k ∉ l
 | [],_,k,_,h=>by cases h
 | .ext j::l,h,k,hk,hm=>by
  rcases List.mem_cons.1 hm with e | hm
  ·cases e
  ·exact Fb (l:=l) h k hk hm
 | .own s::l,h,k,hk,hm=>by
  have h:cond (LK s rm) false (E4 rm l)=true:=h;cases hs:LK s rm with
  | true=>rw [hs] at h;cases h
  | false =>
   rw [hs] at h;rcases List.mem_cons.1 hm with e | hm
   ·simp only [Ref.own.injEq] at e;subst e;rw [Mm] at hs;rw [List.contains_iff_mem.2 hk] at hs;cases hs
   ·exact Fb (l:=l) h k hk hm
theorem Hc {rm:List Nat}:∀{own:List (Nat×Blk)},HD rm own=true->∀k∈rm,Ref.own k ∉ (own.filter fun p=>!rm.contains p.1).flatMap fun p=>p.2.refs
 | [],_,k,_,h=>by cases h
 | (s,b)::own,h,k,hk,hm=>by
  have h:cond (LK s rm) (HD rm own) (cond (E4 rm (EJ b)) (HD rm own) false)=true:=h;rw [Mm,JO] at h;cases hs:rm.contains s with
  | true =>
   rw [hs] at h;rw [List.filter_cons_of_neg (by rw [hs];simp)] at hm;exact Hc (own:=own) h k hk hm
  | false =>
   rw [hs] at h;rw [List.filter_cons_of_pos (by rw [hs];rfl)] at hm;cases hf:E4 rm b.refs with
   | false=>rw [hf] at h;cases h
   | true =>
    rw [hf] at h;simp only [List.flatMap_cons,List.mem_append] at hm;rcases hm with hm | hm
    ·exact Fb hf k hk hm
    ·exact Hc (own:=own) h k hk hm
theorem M7 {rm:List Nat}:∀{ext:List Blk},I1 rm ext=true->∀k∈rm,Ref.own k ∉ ext.flatMap Blk.refs
 | [],_,k,_,h=>by cases h
 | b::ext,h,k,hk,hm=>by
  have h:cond (E4 rm (EJ b)) (I1 rm ext) false=true:=h;rw [JO] at h;cases hf:E4 rm b.refs with
  | false=>rw [hf] at h;cases h
  | true =>
   rw [hf] at h;simp only [List.flatMap_cons,List.mem_append] at hm;rcases hm with hm | hm
   ·exact Fb hf k hk hm
   ·exact M7 (ext:=ext) h k hk hm
theorem L2 {rm:List Nat}:∀(own:List (Nat×Blk)),Aos rm own=!(own.all fun p=>!rm.contains p.1)
 | []=>rfl
 | (s,b)::own=>by
  rw [show Aos rm ((s,b)::own)=cond (LK s rm) true (Aos rm own) from rfl,Mm,L2 own,List.all_cons]
  cases rm.contains s<;>rfl
theorem HE {rm:List Nat}:∀(own:List (Nat×Blk)) (k:List (Nat×Blk)->Option β),SE rm own k=k (own.filter fun p=>!rm.contains p.1)
 | [],_=>rfl
 | (s,b)::own,k=>by
  rw [show SE rm ((s,b)::own) k=cond (LK s rm) (SE rm own k) (SE rm own fun l=>k ((s,b)::l)) from rfl,Mm]
  cases hs:rm.contains s with
  | true=>rw [List.filter_cons_of_neg (by rw [hs];simp)];exact HE own k
  | false=>rw [List.filter_cons_of_pos (by rw [hs];rfl)];exact HE own _
theorem DN {ks:List Nat}:∀{l:List Ref},(∀k∈ks,Ref.own k ∉ l)->anyIn ks l=false
 | [],_=>rfl
 | .ext j::l,h=>DN (l:=l) fun k hk hm=>h k hk (List.mem_cons_of_mem _ hm)
 | .own s::l,h=>by
  simp only [anyIn,Bool.or_eq_false_iff];refine ⟨?_,DN (l:=l) fun k hk hm=>h k hk (List.mem_cons_of_mem _ hm)⟩;cases hc:ks.contains s with
  | false=>rfl
  | true=>exact absurd List.mem_cons_self (h s (List.contains_iff_mem.1 hc))
theorem Ve {rm:List Nat} {rs:List Ref} {own:List (Nat×Blk)} {ext:List Blk} (h1:∀k∈rm,Ref.own k ∉ rs) (h2:HD rm own=true) (h3:I1 rm ext=true) :
  NW rm rs ⟨own,ext⟩=some ⟨own.filter fun p=>!rm.contains p.1,ext⟩:=by
 have h2:=Hc h2;have h3:=M7 h3;have hh:∀k∈rm,Ref.own k ∉ rs++(own.filter fun p=>!rm.contains p.1).flatMap (fun p=>p.2.refs)++ext.flatMap Blk.refs:=fun k hk hm=>by
  rcases List.mem_append.1 hm with hm | hm
  ·rcases List.mem_append.1 hm with hm | hm
   ·exact h1 k hk hm
   ·exact h2 k hk hm
  ·exact h3 k hk hm
 have hg:(rm.filter fun k=>!anyIn [k] (rs++(own.filter fun p=>!rm.contains p.1).flatMap (fun p=>p.2.refs)++ext.flatMap Blk.refs))=rm:=by
  apply List.filter_eq_self.2;intro k hk;rw [DN fun j hj hm=>hh j (by simp only [List.mem_singleton] at hj;rw [hj];exact hk) hm];rfl
 simp only [NW,hg];rw [DN hh];rfl
theorem T5 {base kills rm:List Nat} {T:FS} {S:St} (hr:Rep T S) {k:List IV->Hp->Option β} (h:PL base kills rm T k=some r) :
  ∃S' vals hp,CN base kills rm S=some S'/\AtHead T.n kills vals hp S'/\k vals hp=some r:=by
 unfold PL at h;split at h
 ·refine ⟨⟨AV kills S.slots,T.hp⟩,_,_,?_,Ic hr kills T.hp,h⟩;simp [CN,hr.hp]
 ·rename_i q rm;generalize hrm:q::rm=rm' at h ⊢;have hv:=Ic hr kills S.hp;unfold BZ at h;rw [<- hr.hp] at h;cases hb:rm'.any base.contains with
  | true=>rw [hb] at h;cases h
  | false =>
   rw [hb] at h;obtain ⟨sl,hp0⟩:=S;obtain ⟨own,ext⟩:=hp0;simp only [cond] at h;have hsl:IV.refs.refsL ((CU T.n kills).map T.get)=IV.refs.refsL (AV kills sl):=by
    rw [hv.vals];exact QJ _ _ (by simpa using hv.len) (fun i hi hg=>hv.dead i hi (by simpa using hg))
   rw [L2] at h;cases ha:(own.all fun p=>!rm'.contains p.1) with
   | true =>
    rw [ha] at h;refine ⟨⟨AV kills sl,⟨own,ext⟩⟩,_,_,?_,hv,h⟩;simp only [CN,hb,Bool.false_eq_true,if_false,ha,if_true]
   | false =>
    rw [ha] at h;simp only [Bool.not_false] at h;cases hf:(and (E4 rm' (CJ ((CU T.n kills).map T.get) [])) (and (HD rm' own) (I1 rm' ext))) with
    | true =>
     rw [hf] at h;simp only at h;have hf:(E4 rm' (CJ ((CU T.n kills).map T.get) []) && (HD rm' own && I1 rm' ext))=true:=hf;simp only [Bool.and_eq_true] at hf;rw [HE] at h;have h1:=Fb hf.1;rw [refsDL_eq,List.append_nil,hsl] at h1;refine ⟨⟨AV kills sl,⟨own.filter fun p=>!rm'.contains p.1,ext⟩⟩,_,_,?_,Ic hr kills _,h⟩;rw [Hj hb ha,Ve h1 hf.2.1 hf.2.2];rfl
    | false =>
     rw [hf] at h;simp only at h;split at h
     ·cases h
     ·rename_i S2 hd;rw [KK] at h;exact ⟨⟨AV kills sl,S2.hp⟩,_,_,O4 (S1:=⟨sl,⟨own,ext⟩⟩) (sl:=(CU T.n kills).map T.get) hsl hb ha hd,Ic hr kills S2.hp,h⟩
theorem Afo:∀(cs:List Nat) (vals:List IV) (T:FS) {K:FS->Option β},(∀i∈cs,i<T.n)->(∀i,i<T.n->T.t.has i=true)->Ts cs vals T K=some r ->
  ∃T',T'.n=T.n/\T'.hp=T.hp/\(∀i,i<T.n->T'.t.has i=true)/\K T'=some r/\∀g:Nat->IV,vals=cs.map g->∀i,i<T.n->T'.t.get i=if i∈cs then g i else T.t.get i
 | [],vals,T,K,_,hh,h=>⟨T,rfl,rfl,hh,h,fun g _ i _=>by simp⟩
 | c::cs,vals,T,K,hc,hh,h=>by
  have h:AH vals (fun v vals=>KJ (some c) v T.hp T fun T=>Ts cs vals T K)=some r:=h;have eK:(fun (v:IV) vals=>KJ (some c) v T.hp T fun T=>Ts cs vals T K)=fun v vals=>Ts cs vals (RW (some c) v T) K:=by
   funext v vals
   rw [Nv,RX]
  rw [eK] at h;cases vals with
  | nil=>cases h
  | cons v vals =>
   have h:Ts cs vals (RW (some c) v T) K=some r:=h;have hcn:c<T.n:=hc c List.mem_cons_self;have hput:RW (some c) v T=⟨T.n,T.t.set c v,T.hp⟩:=by
    simp only [RW];cases hb:Nat.ble T.n c with
    | true=>have:=Bl hb;omega
    | false=>rfl
   rw [hput] at h;obtain ⟨T',h1,h2,h3,h4,h5⟩:=Afo cs vals ⟨T.n,T.t.set c v,T.hp⟩ (fun i hi=>hc i (List.mem_cons_of_mem _ hi)) (fun i hi=>by rw [Aar];exact hh i hi) h;refine ⟨T',h1,h2,h3,h4,fun g hg i hi=>?_⟩;simp only [AzK,List.cons.injEq] at hg;rw [h5 g hg.2 i hi];by_cases hm:i∈cs
   ·rw [if_pos hm,if_pos (List.mem_cons_of_mem _ hm)]
   ·rw [if_neg hm];simp only;rw [Aau _ _ _ (hh c hcn)];by_cases e:i=c
    ·subst e;rw [if_pos rfl,if_pos List.mem_cons_self,hg.1]
    ·rw [if_neg e,if_neg (by simp [e,hm])]
theorem Ama {n:Nat} (hn:n<=1024) {kills:List Nat} {vals:List IV} {h:Hp} {S:St} (ha:AtHead n kills vals h S) {K:FS->Option β} (e:Ts (CU n kills) vals ⟨n,dT 10 0 n,h⟩ K=some r) :
  ∃T',T'.n=n/\Rep T' S/\K T'=some r:=by
 obtain ⟨T',h1,h2,h3,h4,h5⟩:=Afo (CU n kills) vals ⟨n,dT 10 0 n,h⟩ (fun i hi=>(MQ.1 hi).1) (fun i hi=>(Ae6 10 0 n i (by simpa using hn) (Nat.zero_le _) (by simpa using hi)).1) e;refine ⟨T',h1,⟨by rw [ha.hp,h2],by rw [ha.len,h1],fun i hi=>h3 i (by rw [h1] at hi;exact hi),fun i hi=>?_⟩,h4⟩;rw [h1] at hi;rw [h5 _ ha.vals i hi];by_cases hm:i∈CU n kills
 ·rw [if_pos hm]
 ·rw [if_neg hm];have hk:i∈kills:=Classical.byContradiction fun hk=>hm (MQ.2 ⟨hi,hk⟩);rw [ha.dead i hi hk];exact (Ae6 10 0 n i (by simpa using hn) (Nat.zero_le _) (by simpa using hi)).2
theorem AkQ (hi:∀f args h x,ih' f args h=some x->ih f args h=some x) {n:Nat} {base:List Nat}:∀(c:Code) {T:FS} {S:St},Rep T S->T.n<=1024->∀{K:Ex->FS->Option β},Fe E ih' f n base c T K=some r ->
  ∃ex S' T',DE E ih f n base c S=some (ex,S')/\Rep T' S'/\T'.n=T.n/\K ex T'=some r:=by
 intro c
 induction c with
 | skip=>intro T S hr _ K h;exact ⟨_,S,T,rfl,hr,rfl,h⟩
 | region rid ops d =>
  intro T S hr _ K h;simp only [Fe,BE] at h;simp only [DE];rw [List.range_eq_range'];cases d with
  | true =>
   obtain ⟨S',T',h1,h2,h3,h4⟩:=Akq hi ops.toList 0 rfl [] [] (fun x hx=>by cases hx) hr h;simp only [Array.length_toList] at h1;exact ⟨_,S',T',by simp only [if_true,h1,AzH],h2,h3,h4⟩
  | false =>
   obtain ⟨S',T',h1,h2,h3,h4⟩:=AlB hi ops.toList 0 rfl hr h;simp only [Array.length_toList] at h1;exact ⟨_,S',T',by simp only [Bool.false_eq_true,if_false,h1,AzH],h2,h3,h4⟩
 | seq x y ihx ihy =>
  intro T S hr hl K h;simp only [Fe,BE] at h;obtain ⟨ex,S1,T1,h1,h2,hn,h3⟩:=ihx hr hl h;simp only [DE,h1];cases ex with
  | normal =>
   obtain ⟨ex,S2,T2,h4,h5,hn2,h6⟩:=ihy h2 (by rw [hn];exact hl) h3;exact ⟨ex,S2,T2,h4,h5,hn2.trans hn,h6⟩
  | exit j=>exact ⟨_,_,_,rfl,h2,hn,h3⟩
  | ret=>exact ⟨_,_,_,rfl,h2,hn,h3⟩
 | cond c x y ihx ihy =>
  intro T S hr hl K h;simp only [Fe,BE,LA hr] at h;obtain ⟨t,ht,h⟩:=Vr h;cases t with
  | true=>simp only [DE,ht];exact ihx hr hl h
  | false=>simp only [DE,ht];exact ihy hr hl h
 | block id x ihx =>
  intro T S hr hl K h;simp only [Fe,BE] at h;obtain ⟨ex,S1,T1,h1,h2,hn,h3⟩:=ihx hr hl h;simp only [DE,h1];cases ex with
  | normal=>exact ⟨_,_,_,rfl,h2,hn,h3⟩
  | exit j =>
   simp only [GL] at h3 ⊢;by_cases e:j=id
   ·rw [if_pos e] at h3;rw [if_pos e];exact ⟨_,_,_,rfl,h2,hn,h3⟩
   ·rw [if_neg e] at h3;rw [if_neg e];exact ⟨_,_,_,rfl,h2,hn,h3⟩
  | ret=>exact ⟨_,_,_,rfl,h2,hn,h3⟩
 | loop x ihx =>
  intro T S hr hl K h;simp only [Fe,BE] at h;simp only [DE];generalize (E.pol.head f (Cd x)).1=kills at h ⊢;generalize (E.pol.head f (Cd x)).2=rm at h ⊢;generalize hF:(fun (rec:List IV->Hp->Option β) vals h=>Ts (CU T.n kills) vals ⟨T.n,dT 10 0 T.n,h⟩ fun T=>Fe E ih' f n base x T fun ex T=>match ex with
   | .normal=>PL base kills rm T rec
   | .exit j=>K (.exit j) T
   | .ret=>K .ret T)=F at h
  have key:∀(k:Nat) (S1:St) (T1:FS),Rep T1 S1->T1.n=T.n->PL base kills rm T1 (BY k F)=some r ->
    ∃ex S' T',iterate (CN base kills rm) (DE E ih f n base x) k S1=some (ex,S')/\Rep T' S'/\T'.n=T.n/\K ex T'=some r:=by
   intro k
   induction k with
   | zero =>
    intro S1 T1 hr1 hn1 h;obtain ⟨S2,vals,hp,_,_,h⟩:=T5 hr1 h;cases h
   | succ k ihk =>
    intro S1 T1 hr1 hn1 h;obtain ⟨S2,vals,hp,h1,h2,h⟩:=T5 hr1 h;have h:F (BY k F) vals hp=some r:=h;rw [<- hF] at h;rw [hn1] at h2;simp only at h;obtain ⟨T2,hn2,hr2,h⟩:=Ama hl h2 h;obtain ⟨ex,S3,T3,h3,hr3,hn3,h⟩:=ihx hr2 (by rw [hn2];exact hl) h;simp only [iterate,h1,Option.bind_some,h3];cases ex with
    | normal =>
     simp only at h;rw [hF] at h;exact ihk S3 T3 hr3 (hn3.trans hn2) h
    | exit j=>exact ⟨_,_,_,rfl,hr3,hn3.trans hn2,h⟩
    | ret=>exact ⟨_,_,_,rfl,hr3,hn3.trans hn2,h⟩
  exact key n S T hr rfl h
 | exit id=>intro T S hr _ K h;exact ⟨_,S,T,rfl,hr,rfl,h⟩
 | ret=>intro T S hr _ K h;exact ⟨_,S,T,rfl,hr,rfl,h⟩
 | _=>intro T S hr _ K h;simp only [Fe,BE] at h;cases h
theorem Ai5 {agg:Bool} {size:Nat} {a:IV} {hp:Hp} {k:IV->Option β} (h:Ap agg size a hp k=some r) :
  ∃v,(match a with
   | .ptr q off=>match hp.get q with
    | some (.row cells _)=>Cj agg size off cells
    | _=>none
   | .fv (.fp cells off)=>(Bt agg size off cells).map .fv
   | _=>none)=some v/\k v=some r:=by
 cases agg with
 | true =>
  have h:Ae size a hp (fun v _=>k v)=some r:=h;unfold Ae at h;rcases Dv h with ⟨q,o,rfl,g'⟩ | ⟨cs,o,rfl,g'⟩<;>replace h:=g'<;>clear g'
  ·rw [Eo] at h;obtain ⟨b,hb,h⟩:=Bq h;obtain ⟨cells,ro,rfl,g'⟩:=Gk h;replace h:=g';clear g';obtain ⟨h1,h2⟩:=Pj h;exact ⟨_,by simp only [hb,h1],h2⟩
  ·obtain ⟨h1,h2⟩:=NX h;exact ⟨_,by simp only [h1,AzH],h2⟩
 | false =>
  have h:Ak a hp (fun v _=>k v)=some r:=h;unfold Ak at h;rcases Dv h with ⟨q,o,rfl,g'⟩ | ⟨cs,o,rfl,g'⟩<;>replace h:=g'<;>clear g'
  ·rw [Eo] at h;obtain ⟨b,hb,h⟩:=Bq h;obtain ⟨cells,ro,rfl,g'⟩:=Gk h;replace h:=g';clear g';rw [Db] at h;obtain ⟨v,hv,h⟩:=Bq h;exact ⟨_,by simp only [hb,Cj,Bool.false_eq_true,if_false,hv],h⟩
  ·rw [Db] at h;obtain ⟨v,hv,h⟩:=Bq h;exact ⟨_,by simp only [Bt,Bool.false_eq_true,if_false,hv,AzH],h⟩
theorem RS {T:FS} {S:St} (hr:Rep T S):∀(rs:List ResultVar) (acc:List IV) {k:List IV->Option β},Ag6 E T rs acc k=some r->∃vs,Fu E S rs=some vs/\k (acc++vs)=some r
 | [],acc,k,h=>⟨[],rfl,by rw [List.append_nil];exact h⟩
 | .tmp t::rs,acc,k,h=>by
  have h:Ag6 E T rs (acc++[T.get t]) k=some r:=h;obtain ⟨vs,h1,h2⟩:=RS hr rs _ h;refine ⟨T.get t::vs,?_,by simpa using h2⟩;simp only [Fu,Jf,Option.bind_some,h1,AzH,hr.at_]
 | .cell a t::rs,acc,k,h=>by
  have h:(match E.T t with
   | none=>none
   | some ti=>Ap ti.kind.isAgg ti.size (T.get a) T.hp fun v=>Ag6 E T rs (acc++[v]) k)=some r:=h
  cases ht:E.T t with
  | none=>rw [ht] at h;cases h
  | some ti =>
   rw [ht] at h;obtain ⟨v,h1,h⟩:=Ai5 h;obtain ⟨vs,h2,h3⟩:=RS hr rs _ h;refine ⟨v::vs,?_,by simpa using h3⟩
   have:Jf E S (.cell a t)=some v:=by
    simp only [Jf,ht,<- hr.at_,hr.hp];rw [<- h1];cases T.get a with
    | fv w=>cases w<;>rfl
    | _=>rfl
   simp only [Fu,this,Option.bind_some,h2,AzH]
theorem AmF {FT:Nat->Option Func} (hFT:∀f fn,FT f=some fn->E.P.funcs[f]?=some fn) {n:Nat} {sh:Aa} (hi:∀f args h x,sh f args h=some x->run E n f args h=some x) {args:List IV} {h:Hp} {x:IV×Hp}
  (e:Ax E sh FT n f args h=some x):run E (n+1) f args h=some x:=by
 unfold Ax at e;simp only [BE] at e;simp only [run];cases hf:FT f with
 | none=>rw [hf] at e;cases e
 | some fn =>
  rw [hf] at e;rw [hFT f fn hf];simp only at e ⊢;cases hc:fn.body with
  | none=>rw [hc] at e;cases e
  | some c =>
   rw [hc] at e;simp only at e ⊢;obtain ⟨hl,e⟩:=Ds e;rw [Pz] at e;simp only [Bool.and_eq_true] at hl;have hl1:=Bl hl.1;have hl2:=Bl hl.2;have hrep0:Rep ⟨fn.ntmps,dT 10 0 fn.ntmps,h⟩ ⟨List.replicate fn.ntmps .dead,h⟩:=by
    refine ⟨rfl,by simp,fun i hi=>(Ae6 10 0 fn.ntmps i (by simpa using hl2) (Nat.zero_le _) (by simpa using hi)).1,fun i hi=>?_⟩;rw [(Ae6 10 0 fn.ntmps i (by simpa using hl2) (Nat.zero_le _) (by simpa using hi)).2,List.getD_eq_getElem?_getD,List.getElem?_replicate];simp [hi]
   obtain ⟨T0,h1,h2⟩:=AkA args 0 (K:=_) hrep0;rw [h1] at e;have hs:J4 args 0 (List.replicate fn.ntmps .dead)=args++List.replicate (fn.ntmps - args.length) .dead:=by
    apply List.ext_getElem?;intro j;rw [Lv _ _ _ _ (by simpa using hl1)];by_cases hj:j<args.length
    ·rw [if_pos (by omega),List.getElem?_append_left hj];simp
    ·rw [if_neg (by omega),List.getElem?_append_right (by omega),List.getElem?_replicate,List.getElem?_replicate];by_cases hj2:j<fn.ntmps
     ·rw [if_pos hj2,if_pos (by omega)]
     ·rw [if_neg hj2,if_neg (by omega)]
   simp only [hs] at h2;have hT0:T0.n<=1024:=by
    have:=h2.len
    simp at this;omega
   obtain ⟨ex,S',T',h3,h4,_,h5⟩:=AkQ hi c h2 hT0 e;rw [h3];have hres:(Ag6 E T' fn.results.toList [] fun vs=>Ao vs T'.hp)=some x->(Gz E S' fn.results.toList).map (fun v=>(v,S'.hp))=some x:=by
    intro h;obtain ⟨vs,h1,h⟩:=RS h4 _ _ h;rw [List.nil_append] at h;simp only [Gz,h1,AzH,h4.hp]
    match vs,h with
    | [],h=>simp only [Ao,Ad6] at h;exact h
    | [v],h=>exact h
    | v::w::l,h=>simp only [Ao,Ad6] at h;exact h
   cases ex with
   | exit j=>cases h5
   | normal=>exact hres h5
   | ret=>exact hres h5
end
end Idl
end Go.Proofs.Ytdibmackcbpniaa
namespace Go.Proofs.Ytdibmackcbpniaa
namespace Idl
section
variable {β:Type}
def UR {α:Type} (l:List α) (a:Option β):Option β:=List.casesOn (motive:=fun _=>Option β) l a fun _ _=>none
def O5 (g:Hp->Option β) (args:List IV) (h:Hp):Option β:=UR args (g h)
def EC (g:IV->Hp->Option β) (args:List IV) (h:Hp):Option β:=AH args fun a l=>UR l (g a h)
def CE (g:IV->IV->Hp->Option β) (args:List IV) (h:Hp):Option β:=AH args fun a l=>AH l fun b l=>UR l (g a b h)
def HO (g:IV->IV->IV->Hp->Option β) (args:List IV) (h:Hp):Option β:=AH args fun a l=>AH l fun b l=>AH l fun c l=>UR l (g a b c h)
def KM (g:IV->IV->IV->IV->Hp->Option β) (args:List IV) (h:Hp):Option β:=AH args fun a l=>AH l fun b l=>AH l fun c l=>AH l fun d l=>UR l (g a b c d h)
def ar5 (g:IV->IV->IV->IV->IV->Hp->Option β) (args:List IV) (h:Hp):Option β:=AH args fun a l=>AH l fun b l=>AH l fun c l=>AH l fun d l=>AH l fun e l=>UR l (g a b c d e h)
def ar6 (g:IV->IV->IV->IV->IV->IV->Hp->Option β) (args:List IV) (h:Hp):Option β:=AH args fun a l=>AH l fun b l=>AH l fun c l=>AH l fun d l=>AH l fun e l=>AH l fun f l=>UR l (g a b c d e f h)
theorem Cf {α:Type} {l:List α} {k:α->List α->Option β} {r:β} (h:AH l k=some r):∃a t,l=a::t/\k a t=some r:=by
 cases l with
 | nil=>cases h
 | cons a t=>exact ⟨a,t,rfl,h⟩
theorem Jk {α:Type} {l:List α} {a:Option β} {r:β} (h:UR l a=some r):l=[]/\a=some r:=by
 cases l with
 | nil=>exact ⟨rfl,h⟩
 | cons _ _=>cases h
variable {F:List IV->Hp->Option β} {args:List IV} {h:Hp} {r:β}
theorem Ak9 {g:Hp->Option β} (hg:∀h,F [] h=g h) (e:O5 g args h=some r):F args h=some r:=by
 obtain ⟨rfl,e9⟩:=Jk e;rw [hg];exact e9
theorem BH {g:IV->Hp->Option β} (hg:∀a h,F [a] h=g a h) (e:EC g args h=some r):F args h=some r:=by
 obtain ⟨a,l1,rfl,e1⟩:=Cf e;obtain ⟨rfl,e9⟩:=Jk e1;rw [hg];exact e9
theorem A8 {g:IV->IV->Hp->Option β} (hg:∀a b h,F [a,b] h=g a b h) (e:CE g args h=some r):F args h=some r:=by
 obtain ⟨a,l1,rfl,e1⟩:=Cf e;obtain ⟨b,l2,rfl,e2⟩:=Cf e1;obtain ⟨rfl,e9⟩:=Jk e2;rw [hg];exact e9
theorem CV {g:IV->IV->IV->Hp->Option β} (hg:∀a b c h,F [a,b,c] h=g a b c h) (e:HO g args h=some r):F args h=some r:=by
 obtain ⟨a,l1,rfl,e1⟩:=Cf e;obtain ⟨b,l2,rfl,e2⟩:=Cf e1;obtain ⟨c,l3,rfl,e3⟩:=Cf e2;obtain ⟨rfl,e9⟩:=Jk e3;rw [hg];exact e9
theorem DV {g:IV->IV->IV->IV->Hp->Option β} (hg:∀a b c d h,F [a,b,c,d] h=g a b c d h) (e:KM g args h=some r):F args h=some r:=by
 obtain ⟨a,l1,rfl,e1⟩:=Cf e;obtain ⟨b,l2,rfl,e2⟩:=Cf e1;obtain ⟨c,l3,rfl,e3⟩:=Cf e2;obtain ⟨d,l4,rfl,e4⟩:=Cf e3;obtain ⟨rfl,e9⟩:=Jk e4;rw [hg];exact e9
theorem Aw4 {g:IV->IV->IV->IV->IV->Hp->Option β} (hg:∀a b c d x h,F [a,b,c,d,x] h=g a b c d x h) (e:ar5 g args h=some r):F args h=some r:=by
 obtain ⟨a,l1,rfl,e1⟩:=Cf e;obtain ⟨b,l2,rfl,e2⟩:=Cf e1;obtain ⟨c,l3,rfl,e3⟩:=Cf e2;obtain ⟨d,l4,rfl,e4⟩:=Cf e3;obtain ⟨x,l5,rfl,e5⟩:=Cf e4;obtain ⟨rfl,e9⟩:=Jk e5;rw [hg];exact e9
theorem Aw8 {g:IV->IV->IV->IV->IV->IV->Hp->Option β} (hg:∀a b c d x y h,F [a,b,c,d,x,y] h=g a b c d x y h) (e:ar6 g args h=some r):F args h=some r:=by
 obtain ⟨a,l1,rfl,e1⟩:=Cf e;obtain ⟨b,l2,rfl,e2⟩:=Cf e1;obtain ⟨c,l3,rfl,e3⟩:=Cf e2;obtain ⟨d,l4,rfl,e4⟩:=Cf e3;obtain ⟨x,l5,rfl,e5⟩:=Cf e4;obtain ⟨y,l6,rfl,e6⟩:=Cf e5;obtain ⟨rfl,e9⟩:=Jk e6;rw [hg];exact e9
end
abbrev Sh:=Aa->Nat->List IV->Hp->Option (IV×Hp)
inductive DT where
 | nil
 | leaf (f:Nat) (g:Sh)
 | node (m:Nat) (l r:DT)
def DT.call (t:DT):Nat->Sh :=
 DT.rec (motive:=fun _=>Nat->Sh) (fun _ _ _ _ _=>none) (fun f g i=>cond (Nat.beq i f) g fun _ _ _ _=>none) (fun m _ _ gl gr i=>cond (Nat.ble m i) (gr i) (gl i)) t
def SS (t:DT) (n:Nat):Aa:=Nat.rec (motive:=fun _=>Aa) (fun _ _ _=>none) (fun n ih f args h=>t.call f ih n args h) n
def Avx (E:Env) (FT:Nat->Option Func) (f:Nat) (g:Sh):Prop:=∀ih n args h x,g ih n args h=some x->Ax E ih FT n f args h=some x
def DT.Ok (E:Env) (FT:Nat->Option Func):DT->Prop
 | .nil=>True
 | .leaf f g=>Avx E FT f g
 | .node _ l r=>l.Ok E FT/\r.Ok E FT
theorem DT.call_ok {E:Env} {FT:Nat->Option Func} {t:DT} (ht:t.Ok E FT):∀f,Avx E FT f (t.call f):=by
 induction t with
 | nil=>intro f ih n args h x e;cases e
 | leaf j g =>
  intro f ih n args h x e;have e:(cond (Nat.beq f j) g fun _ _ _ _=>none) ih n args h=some x:=e;cases hb:Nat.beq f j with
  | false=>rw [hb] at e;cases e
  | true=>rw [hb] at e;rw [DC hb];exact ht ih n args h x e
 | node m l r ihl ihr =>
  intro f ih n args h x e;have e:(cond (Nat.ble m f) (r.call f) (l.call f)) ih n args h=some x:=e;cases hb:Nat.ble m f with
  | true=>rw [hb] at e;exact ihr ht.2 f ih n args h x e
  | false=>rw [hb] at e;exact ihl ht.1 f ih n args h x e
theorem Au3 {E:Env} {FT:Nat->Option Func} (hFT:∀f fn,FT f=some fn->E.P.funcs[f]?=some fn) {t:DT} (ht:t.Ok E FT):∀n f args h x,SS t n f args h=some x->run E n f args h=some x:=by
 intro n
 induction n with
 | zero=>intro f args h x e;cases e
 | succ n ihn=>intro f args h x e;exact AmF hFT ihn (DT.call_ok ht f _ _ _ _ _ e)
end Idl
end Go.Proofs.Ytdibmackcbpniaa

/-
  Texts of a proof, part 7: an ideal semantics of the program, its functions in shallow form, contracts of them. No statement of the seat is proved here.
-/
import Derived.Test.YtdibmackcbpniaaChecked
import Derived.KernelRfl
import Derived.Test.YtdibmackcbpniaaObjMoreK6
set_option linter.all false
noncomputable section
namespace Go.Proofs.Ytdibmackcbpniaa
namespace Idl
def tab:TTree :=
 .node 41 (.node 14 (.node 8 (.node 4 (.node 3 (.leaf 2 ⟨1,8,.int .i64,[.fv (.int .i64 0)]⟩)
 (.leaf 3 ⟨1,8,.int .i64,[.fv (.int .i64 0)]⟩))
 (.node 5 (.leaf 4 ⟨1,1,.bool,[.fv (.bool false)]⟩)
 (.node 6 (.leaf 5 ⟨1,1,.int .u8,[.fv (.int .u8 0)]⟩)
 (.leaf 6 ⟨1,1,.int .u8,[.fv (.int .u8 0)]⟩))))
 (.node 10 (.node 9 (.leaf 8 ⟨4,24,.struct [(0,2),(1,3),(2,4),(3,6)],[.fv (.int .i64 0),.fv (.int .i64 0),.fv (.bool false),.fv (.int .u8 0)]⟩)
 (.leaf 9 ⟨1,16,.str,[.fv (.str .empty)]⟩))
 (.node 11 (.leaf 10 ⟨1,16,.str,[.fv (.str .empty)]⟩)
 (.node 12 (.leaf 11 ⟨1,16,.str,[.fv (.str .empty)]⟩)
 (.leaf 12 ⟨1,8,.int .u64,[.fv (.int .u64 0)]⟩)))))
 (.node 22 (.node 16 (.node 15 (.leaf 14 ⟨2,24,.struct [(0,9),(1,12)],[.fv (.str .empty),.fv (.int .u64 0)]⟩)
 (.leaf 15 ⟨1,8,.ptr,[.fv (.nilp)]⟩))
 (.node 17 (.leaf 16 ⟨1,8,.ptr,[.fv (.nilp)]⟩)
 (.node 19 (.leaf 17 ⟨1,8,.ptr,[.fv (.nilp)]⟩)
 (.leaf 19 ⟨1,8,.struct [(0,17)],[.fv (.nilp)]⟩))))
 (.node 30 (.node 24 (.leaf 22 ⟨1,24,.slice 24,[.nils]⟩)
 (.node 28 (.leaf 24 ⟨3,40,.struct [(0,3),(1,3),(2,22)],[.fv (.int .i64 0),.fv (.int .i64 0),.nils]⟩)
 (.leaf 28 ⟨1,24,.slice 30,[.nils]⟩)))
 (.node 35 (.leaf 30 ⟨3,40,.struct [(0,3),(1,3),(2,28)],[.fv (.int .i64 0),.fv (.int .i64 0),.nils]⟩)
 (.node 38 (.leaf 35 ⟨1,8,.int .i64,[.fv (.int .i64 0)]⟩)
 (.leaf 38 ⟨1,8,.func,[.fv (.nilf)]⟩))))))
 (.node 87 (.node 67 (.node 55 (.node 51 (.leaf 41 ⟨1,8,.func,[.fv (.nilf)]⟩)
 (.leaf 51 ⟨1,24,.slice 3,[.nils]⟩))
 (.node 58 (.leaf 55 ⟨1,8,.int .u64,[.fv (.int .u64 0)]⟩)
 (.node 60 (.leaf 58 ⟨1,24,.slice 60,[.nils]⟩)
 (.leaf 60 ⟨3,40,.struct [(0,3),(1,3),(2,58)],[.fv (.int .i64 0),.fv (.int .i64 0),.nils]⟩))))
 (.node 78 (.node 71 (.leaf 67 ⟨1,24,.slice 9,[.nils]⟩)
 (.leaf 71 ⟨1,24,.slice 87,[.nils]⟩))
 (.node 81 (.leaf 78 ⟨1,24,.slice 30,[.nils]⟩)
 (.node 83 (.leaf 81 ⟨1,8,.ptr,[.fv (.nilp)]⟩)
 (.leaf 83 ⟨2,16,.struct [(0,3),(1,3)],[.fv (.int .i64 0),.fv (.int .i64 0)]⟩)))))
 (.node 123 (.node 106 (.node 97 (.leaf 87 ⟨4,48,.struct [(0,3),(1,30)],[.fv (.int .i64 0),.fv (.int .i64 0),.fv (.int .i64 0),.nils]⟩)
 (.leaf 97 ⟨1,8,.ptr,[.fv (.nilp)]⟩))
 (.node 108 (.leaf 106 ⟨1,8,.ptr,[.fv (.nilp)]⟩)
 (.node 110 (.leaf 108 ⟨3,24,.struct [(0,3),(1,3),(2,3)],[.fv (.int .i64 0),.fv (.int .i64 0),.fv (.int .i64 0)]⟩)
 (.leaf 110 ⟨1,8,.ptr,[.fv (.nilp)]⟩))))
 (.node 135 (.node 129 (.leaf 123 ⟨1,8,.int .i64,[.fv (.int .i64 0)]⟩)
 (.node 131 (.leaf 129 ⟨1,24,.slice 110,[.nils]⟩)
 (.leaf 131 ⟨7,104,.struct [(0,3),(1,3),(2,129),(3,129),(4,30)],[.fv (.int .i64 0),.fv (.int .i64 0),.nils,.nils,.fv (.int .i64 0),.fv (.int .i64 0),.nils]⟩)))
 (.node 136 (.leaf 135 ⟨1,24,.slice 5,[.nils]⟩)
 (.node 146 (.leaf 136 ⟨31,248,.arr 31 3,[.fv (.int .i64 0),.fv (.int .i64 0),.fv (.int .i64 0),.fv (.int .i64 0),.fv (.int .i64 0),.fv (.int .i64 0),.fv (.int .i64 0),.fv (.int .i64 0),.fv (.int .i64 0),.fv (.int .i64 0),.fv (.int .i64 0),.fv (.int .i64 0),.fv (.int .i64 0),.fv (.int .i64 0),.fv (.int .i64 0),.fv (.int .i64 0),.fv (.int .i64 0),.fv (.int .i64 0),.fv (.int .i64 0),.fv (.int .i64 0),.fv (.int .i64 0),.fv (.int .i64 0),.fv (.int .i64 0),.fv (.int .i64 0),.fv (.int .i64 0),.fv (.int .i64 0),.fv (.int .i64 0),.fv (.int .i64 0),.fv (.int .i64 0),.fv (.int .i64 0),.fv (.int .i64 0)]⟩)
 (.leaf 146 ⟨1,1,.int .u8,[.fv (.int .u8 0)]⟩))))))
def AgJ:List (Nat×List Bool):=[(56,[true,false,false]),(71,[false,true,false]),(81,[true,false,false,false]),(82,[true,false,false]),(110,[true,false]),(117,[true])]
def AhQ:List (Nat×Nat×List Nat×List Nat):=[(3,7,[0,1,2,7,8,11,12,13,14,15,16,17,18,19,20,21,22,23,24,25,26,27,28,29,30,31,32,33,34,35,36,37,38,39,40,41,42,43,44,45,46,47,48,49,50,51,52,53,54,55,56,57,58,59,60,61,62,63,64,65,66,67,68,69,70,71,72,73,74,75,76,77,78,79,80,81,82,83,84,85,86,87,88,89,90,91,92,93,94,95,96,97,98,99,100,101,102,103,104,105,106,107,108,109,110,111,112,113,114,115,116,117,118,119,120,121,122,123,124,125,126,127,128,129,130,131,132],[3154951]),
 (3,18,[0,1,2,3,4,5,6,7,8,10,11,12,13,15,16,18,19,20,21,22,23,24,25,26,27,28,29,30,31,32,33,34,35,36,37,38,39,40,41,42,43,44,45,46,47,48,49,50,51,52,53,54,55,56,57,58,59,60,61,62,63,64,65,66,67,68,69,70,71,72,73,74,75,76,77,78,79,80,81,82,83,84,85,86,87,88,89,90,91,92,93,94,95,96,97,98,99,100,101,102,103,104,105,106,107,108,109,110,111,112,113,114,115,116,117,118,119,120,121,122,123,124,125,126,127,128,129,130,131,132],[3166217,3167241]),
 (5,10,[0,1,3,4,5,6,9,12,13,14,15,16,17,18,19,20,21,22,23,24,25,26,27,28,29,30,31,32,33,34,35,36,37,38,39,40,41,42,43,44,45,46,47,48,49,50,51,52,53,54,55,56,57,58,59,60,61,62,63,64,65,66,67,68,69,70,71,72,73,74,75,76,77,78,79,80,81,82,83,84,85,86,87,88,89,90],[5257223]),
 (7,6,[2,3,4,8,9,10,11,12,13,14,15,16,17,18,19,20,21,22,23,24,25,26,27,28,29,30,31,32,33,34,35,36,37,38,39,40,41,42,43,44,45,46,47,48,49,50,51,52,53,54,55,56,57,58,59,60,61,62,63,64,65,66,67,68,69,70,71],[]),
 (9,11,[0,1,2,3,4,5,6,8,11,12,13,14,15,16,17,18,19,20,21,22,23,24,25,26,27,28,29,30,31,32,33,34,35,36,37,38,39,40,41,42,43,44,45,46,47,48,49,50,51,52,53,54,55,56,57,58,59,60,61,62,63,64,65,66,67,68,69,70,71,72,73,74,75,76,77,78,79,80,81,82,83,84,85,86,87,88,89,90,91,92,93,94,95],[9450504,9451528,9455621]),
 (13,2,[1,2,4,5,6,7,8,9,10,11,12,13,14,15,16,17,18],[]),
 (16,15,[0,4,5,10,11,12,13,14,15,16,17,18,19,20,21,22,23,24,25,26,27,28,29,30,31,32,33,34,35,36,37,38,39,40,41,42,43,44,45,46,47,48,49,50,51,52,53,54,55,56,57,58,59,60,61,62,63,64,65,66,67,68,69,70,71,72,73,74,75,76,77],[16794638]),
 (18,4,[0,1,4,6,7,8,9,10,11,12,13,14,15,16,17,18,19,20,21,22,23,24,25,26,27,28,29,30,31,32,33,34,35,36,37,38,39,40,41,42,43,44,45],[]),
 (21,4,[0,2,4,5,6,7,8,9,10,11,12,13,14,15,16,17,18,19,20,21,22,23,24,25,26,27,28,29,30],[]),
 (22,6,[0,2,3,4,9,10,11,12,13,14,15,16,17,18,19,20,21,22,23,24,25,26,27,28,29,30,31,32,33,34,35,36,37,38,39,40,41,42,43,44,45,46,47,48,49,50,51,52,53,54,55,56,57,58,59],[]),
 (24,3,[0,2,5,6,7,8,9,10,11,12,13,14,15,16,17,18,19,20],[]),
 (28,5,[0,4,5,9,10,11,12,13,14,15,16,17,18,19,20,21,22,23,24,25,26,27,28,29,30,31,32,33,34,35,36,37,38,39,40,41,42,43,44,45,46,47,48,49,50,51,52,53],[29367312]),
 (35,4,[0,3,4,6,7,8,9,10,11,12,13,14,15,16,17,18,19,20,21,22,23,24,25,26,27,28,29],[]),
 (40,3,[0,3,4,7,8,9,10,11,12,13,14,15,16,17,18,19,20,21,22,23,24,25,26,27,28,29,30],[]),
 (54,3,[0,4,5,6,7,8,9,10,14,15,16,17,18,19,20,21,22,23,24,25,26,27,28,29],[56627203]),
 (56,7,[1,3,5,7,8,9,10,11,12,13,14,15,16,17,18,19,20,21,22,23,24,25,26,27,28,29,30,31,32,33,34,35,36,37,38,39,40,41,42,43,44,45,46,47,48,49,50,51,52,53,54,55,56,57,58,59,60,61,62,63,64,65,66,67,68],[]),
 (62,2,[3,4,5,6,8,10,11,12,13,14,15,16,17,18,19,20,21,22,23,24,25,26,27],[]),
 (66,15,[0,2,3,6,7,8,9,10,11,12,13,14,15,16,17,18,19,20,21,22,23,24,25,26,27,28,29,30,31,32,33,34,35,36,37,38,39,40,41,42,43,44,45,46,47,48,49,50,51,52,53,54,55,56,57,58,59,60,61],[]),
 (67,3,[1,2,5,6,7,8,9,10,11,12,13,14,15,16,17,18,19,20,21,22,23,24,25,26,27,28,29,30,31,32,33,34,35,36,37,38,39,40,41,42,43,44,45,46],[70260746]),
 (71,7,[0,3,4,5,6,7,8,9,10,11,12,13,14,15,16,17,18,19,20,21,22,23,24,25,26,27,28,29,30,31,32,33,34,35,36,37,38,42,43,44,45,46,47,48,49,50,51,52,53],[74457090]),
 (72,2,[2,3,4,5,6,9,10,11,12,13,14,15,16,17,18],[]),
 (81,10,[4,5,6,7,11,12,13,14,15,16,17,18,19,20,21,22,23,24,25,26,27,28,29,30,31,32,33,34,35,36,37,38,39,40,41,42,43,44,45,46,47,48,49,50,51,52,53,54,55,56,57,58,59,60,61,62,63,64,65,66,67,68,69,70,71,72,73,74,75,76,77,78,79,80,81,82,83,84,85,86,87,88,89,90,91,92,93,94,95,96,97,98,99,100,101,102,103,104,105,106,107,108,109,110,111,112,113,114,115,116,117,118,119,120,121,122,123,124,125,126,127,128,129,130],[84954117,84956171]),
 (81,17,[4,5,6,7,15,16,17,18,19,20,21,22,23,24,25,26,27,28,29,30,31,32,33,34,35,36,37,38,39,40,41,42,43,44,45,46,47,48,49,50,51,52,53,54,55,56,57,58,59,60,61,62,63,64,65,66,67,68,69,70,71,72,73,74,75,76,77,78,79,80,81,82,83,84,85,86,87,88,89,90,91,92,93,94,95,96,97,98,99,100,101,102,103,104,105,106,107,108,109,110,111,112,113,114,115,116,117,118,119,120,121,122,123,124,125,126,127,128,129,130],[84954117]),
 (82,9,[1,3,5,6,9,10,11,12,13,14,15,16,17,18,19,20,21,22,23,24,25,26,27,28,29,30,31,32,33,34,35,36,37,38,39,40,41,42,43,44,45,46,47,48,49,50,51,52,53,54,55,56,57,58,59,60,61,62,63,64,65,66,67,68,69,70,71,72,73,74,75,76,77,78,79,80,81,82,83,84,85,86,87,88,89,90,91,92,93,94,95],[85995532,85995534,85996558]),
 (97,3,[2,4,5,7,9,12,13,14,15,16,17,18,19,20,21,22,23,24,25,26,27,28,29,30,31,32,33,34,35,36,37,38,39,40,41,42,43,44,45,46,47,48,49,50,51,52,53,54,55,56,57,58,59,60,61,62,63,64,65,66,67,68,69,70,71],[101718032,101720067]),
 (112,3,[0,5,6,7,8,9,10,11,12,13,14,15,16,17,18,19,20,21,22,23,24,25,26,27,28,29,30,31,32,33,34,35,36,37,38,39,40,41,42,43,44,45,46,47,48,49,50,51,52,53,54,55,56,57,58,59,60,61,62,63,64,65,66,67,68,69,70,71,72,73,74,75,76,77,78,79,80,81,82,83,84,85,86,87,88,89,90,91,92,93,94,95,96,97,98,99,100,101,102,103,104,105,106,107,108,109,110,111,112,113,114,115,116,117,118,119,120,121,122,123,124,125,126,127,128,129,130],[117445638,117448708]),
 (113,9,[0,3,5,6,11,12,13,14,15,16,17,18,19,20,21,22,23,24,25,26,27,28,29,30,31,32,33,34,35,36,37,38,39,40,41,42,43,44,45,46,47,48,49,50,51,52,53,54,55,56,57,58,59,60,61,62,63,64,65,66,67],[118501392]),
 (115,3,[1,5,6,7,8,9,10,11,12,13,14],[]),
 (116,4,[0,3,4,5,6,7,8,9,10,11,12,13,14,18,19,20,21,22,23,24,25,26,27,28,29,30,31],[121639939,121640964]),
 (118,4,[0,3,4,6,7,8,9,10,11,12,13,14,15,16,17,18,19,20,21,22,23,24,25,26,27,28,29,30,31],[])]
def T9 (l:List Nat) (f:Nat):Bool:=l.any fun g=>Nat.beq g f
def AdO (f:Nat):List (Nat×List Bool)→List Bool
 | []=>[]
 | (g,k)::l=>if Nat.beq g f then k else AdO f l
def AfJ (f r:Nat):List (Nat×Nat×List Nat×List Nat)→List Nat×List Nat
 | []=>([],[])
 | (g,q,k)::l=>if Nat.beq g f && Nat.beq q r then k else AfJ f r l
def pol:Pol where
 inl:=T9 []
 keep:=fun f=>AdO f AgJ
 raw:=T9 [106]
 head:=fun f r=>AfJ f r AhQ
 rowApp:=fun f _ _=>T9 [22] f
 fzBox:=fun f _ _=>T9 [81] f
 split:=T9 [107]
def EE:Env:=⟨Try.prog,tab.get,pol⟩
set_option maxRecDepth 100000 in
theorem Aj2:tab.leaves.map (fun p=>Agz Try.prog p.1)=tab.leaves.map (fun p=>some p.2):=by kernel_rfl
theorem Aen:Try.prog.follows .mixedOrders=true:=by kernel_rfl
theorem AeC:Aak Try.prog=true:=by kernel_rfl
theorem Ad9:Wx Try.prog=true:=by kernel_rfl
def ft:FTr :=
 .node 60 (.node 31 (.node 16 (.node 9 (.node 5 (.node 3 (.leaf 2 Try.f2)
 (.node 4 (.leaf 3 Try.f3)
 (.leaf 4 Try.f4)))
 (.node 7 (.node 6 (.leaf 5 Try.f5)
 (.leaf 6 Try.f6))
 (.node 8 (.leaf 7 Try.f7)
 (.leaf 8 Try.f8))))
 (.node 12 (.node 10 (.leaf 9 Try.f9)
 (.node 11 (.leaf 10 Try.f10)
 (.leaf 11 Try.f11)))
 (.node 14 (.node 13 (.leaf 12 Try.f12)
 (.leaf 13 Try.f13))
 (.node 15 (.leaf 14 Try.f14)
 (.leaf 15 Try.f15)))))
 (.node 23 (.node 19 (.node 17 (.leaf 16 Try.f16)
 (.node 18 (.leaf 17 Try.f17)
 (.leaf 18 Try.f18)))
 (.node 21 (.node 20 (.leaf 19 Try.f19)
 (.leaf 20 Try.f20))
 (.node 22 (.leaf 21 Try.f21)
 (.leaf 22 Try.f22))))
 (.node 27 (.node 25 (.node 24 (.leaf 23 Try.f23)
 (.leaf 24 Try.f24))
 (.node 26 (.leaf 25 Try.f25)
 (.leaf 26 Try.f26)))
 (.node 29 (.node 28 (.leaf 27 Try.f27)
 (.leaf 28 Try.f28))
 (.node 30 (.leaf 29 Try.f29)
 (.leaf 30 Try.f30))))))
 (.node 45 (.node 38 (.node 34 (.node 32 (.leaf 31 Try.f31)
 (.node 33 (.leaf 32 Try.f32)
 (.leaf 33 Try.f33)))
 (.node 36 (.node 35 (.leaf 34 Try.f34)
 (.leaf 35 Try.f35))
 (.node 37 (.leaf 36 Try.f36)
 (.leaf 37 Try.f37))))
 (.node 41 (.node 39 (.leaf 38 Try.f38)
 (.node 40 (.leaf 39 Try.f39)
 (.leaf 40 Try.f40)))
 (.node 43 (.node 42 (.leaf 41 Try.f41)
 (.leaf 42 Try.f42))
 (.node 44 (.leaf 43 Try.f43)
 (.leaf 44 Try.f44)))))
 (.node 52 (.node 48 (.node 46 (.leaf 45 Try.f45)
 (.node 47 (.leaf 46 Try.f46)
 (.leaf 47 Try.f47)))
 (.node 50 (.node 49 (.leaf 48 Try.f48)
 (.leaf 49 Try.f49))
 (.node 51 (.leaf 50 Try.f50)
 (.leaf 51 Try.f51))))
 (.node 56 (.node 54 (.node 53 (.leaf 52 Try.f52)
 (.leaf 53 Try.f53))
 (.node 55 (.leaf 54 Try.f54)
 (.leaf 55 Try.f55)))
 (.node 58 (.node 57 (.leaf 56 Try.f56)
 (.leaf 57 Try.f57))
 (.node 59 (.leaf 58 Try.f58)
 (.leaf 59 Try.f59)))))))
 (.node 89 (.node 74 (.node 67 (.node 63 (.node 61 (.leaf 60 Try.f60)
 (.node 62 (.leaf 61 Try.f61)
 (.leaf 62 Try.f62)))
 (.node 65 (.node 64 (.leaf 63 Try.f63)
 (.leaf 64 Try.f64))
 (.node 66 (.leaf 65 Try.f65)
 (.leaf 66 Try.f66))))
 (.node 70 (.node 68 (.leaf 67 Try.f67)
 (.node 69 (.leaf 68 Try.f68)
 (.leaf 69 Try.f69)))
 (.node 72 (.node 71 (.leaf 70 Try.f70)
 (.leaf 71 Try.f71))
 (.node 73 (.leaf 72 Try.f72)
 (.leaf 73 Try.f73)))))
 (.node 81 (.node 77 (.node 75 (.leaf 74 Try.f74)
 (.node 76 (.leaf 75 Try.f75)
 (.leaf 76 Try.f76)))
 (.node 79 (.node 78 (.leaf 77 Try.f77)
 (.leaf 78 Try.f78))
 (.node 80 (.leaf 79 Try.f79)
 (.leaf 80 Try.f80))))
 (.node 85 (.node 83 (.node 82 (.leaf 81 Try.f81)
 (.leaf 82 Try.f82))
 (.node 84 (.leaf 83 Try.f83)
 (.leaf 84 Try.f84)))
 (.node 87 (.node 86 (.leaf 85 Try.f85)
 (.leaf 86 Try.f86))
 (.node 88 (.leaf 87 Try.f87)
 (.leaf 88 Try.f88))))))
 (.node 104 (.node 96 (.node 92 (.node 90 (.leaf 89 Try.f89)
 (.node 91 (.leaf 90 Try.f90)
 (.leaf 91 Try.f91)))
 (.node 94 (.node 93 (.leaf 92 Try.f92)
 (.leaf 93 Try.f93))
 (.node 95 (.leaf 94 Try.f94)
 (.leaf 95 Try.f95))))
 (.node 100 (.node 98 (.node 97 (.leaf 96 Try.f96)
 (.leaf 97 Try.f97))
 (.node 99 (.leaf 98 Try.f98)
 (.leaf 99 Try.f99)))
 (.node 102 (.node 101 (.leaf 100 Try.f100)
 (.leaf 101 Try.f101))
 (.node 103 (.leaf 102 Try.f102)
 (.leaf 103 Try.f103)))))
 (.node 111 (.node 107 (.node 105 (.leaf 104 Try.f104)
 (.node 106 (.leaf 105 Try.f105)
 (.leaf 106 Try.f106)))
 (.node 109 (.node 108 (.leaf 107 Try.f107)
 (.leaf 108 Try.f108))
 (.node 110 (.leaf 109 Try.f109)
 (.leaf 110 Try.f110))))
 (.node 115 (.node 113 (.node 112 (.leaf 111 Try.f111)
 (.leaf 112 Try.f112))
 (.node 114 (.leaf 113 Try.f113)
 (.leaf 114 Try.f114)))
 (.node 117 (.node 116 (.leaf 115 Try.f115)
 (.leaf 116 Try.f116))
 (.node 118 (.leaf 117 Try.f117)
 (.leaf 118 Try.f118)))))))
theorem Anm:∀f fn,ft.get f=some fn→EE.P.funcs[f]?=some fn:=FTr.ok (by kernel_rfl)
theorem Am4:EnvOk EE:=Ajc Aj2 Aen AeC Ad9
section lists
variable {α β:Type}
def C9 (l:List α) (i:Nat) (k:α→Option β):Option β :=
 List.rec (motive:=fun _=>Nat→Option β) (fun _=>none) (fun x _ ih i=>Nat.rec (motive:=fun _=>Option β) (k x) (fun p _=>ih p) i) l i
theorem CS (l:List α) (i:Nat) (k:α→Option β):C9 l i k=(l[i]?).bind k:=by
 induction l generalizing i with
 | nil=>rfl
 | cons x l ih=>cases i with
  | zero=>rfl
  | succ i=>exact ih i
def Fa (l:List α) (n:Nat) (k:List α→Option β):Option β :=
 List.rec (motive:=fun _=>Nat→Option β) (fun n=>Nat.rec (motive:=fun _=>Option β) (k []) (fun _ _=>none) n) (fun x t ih n=>Nat.rec (motive:=fun _=>Option β) (k (x::t)) (fun p _=>ih p) n) l n
theorem IR (l:List α) (n:Nat) (k:List α→Option β):Fa l n k=if n≤l.length then k (l.drop n) else none:=by
 induction l generalizing n with
 | nil=>cases n with
  | zero=>rfl
  | succ n=>rw [if_neg (by simp)];rfl
 | cons x l ih=>cases n with
  | zero=>rw [if_pos (Nat.zero_le _)];rfl
  | succ n=>rw [show Fa (x::l) (n+1) k=Fa l n k from rfl,ih];simp
def FP (l:List α) (n:Nat) (k:List α→Option β):Option β :=
 List.rec (motive:=fun _=>Nat→(List α→Option β)→Option β) (fun n k=>Nat.rec (motive:=fun _=>Option β) (k []) (fun _ _=>none) n)
  (fun x _ ih n k=>Nat.rec (motive:=fun _=>Option β) (k []) (fun p _=>ih p fun xs=>k (x::xs)) n) l n k
theorem Jz (l:List α) (n:Nat) (k:List α→Option β):FP l n k=if n≤l.length then k (l.take n) else none:=by
 induction l generalizing n k with
 | nil=>cases n with
  | zero=>rfl
  | succ n=>rw [if_neg (by simp)];rfl
 | cons x l ih=>cases n with
  | zero=>rw [if_pos (Nat.zero_le _)];rfl
  | succ n=>rw [show FP (x::l) (n+1) k=FP l n (fun xs=>k (x::xs)) from rfl,ih];simp
def Oi (l:List α) (j:Nat) (b:α) (k:List α→Option β):Option β :=
 List.rec (motive:=fun _=>Nat→(List α→Option β)→Option β) (fun _ k=>k []) (fun x t ih j k=>Nat.rec (motive:=fun _=>Option β) (k (b::t)) (fun p _=>ih p fun xs=>k (x::xs)) j) l j k
theorem Afv (l:List α) (j:Nat) (b:α) (k:List α→Option β):Oi l j b k=k (l.set j b):=by
 induction l generalizing j k with
 | nil=>rfl
 | cons x l ih=>cases j with
  | zero=>rfl
  | succ j=>rw [show Oi (x::l) (j+1) b k=Oi l j b (fun xs=>k (x::xs)) from rfl,ih];rfl
def AH (l:List α) (k:α→List α→Option β):Option β:=List.casesOn (motive:=fun _=>Option β) l none k
end lists
section
variable {α:Type}
def fRf (r:Ref) (k:Ref→α):α:=match r with
 | .own n=>Eb n fun n=>k (.own n)
 | .ext n=>Eb n fun n=>k (.ext n)
theorem PW (r:Ref) (k:Ref→α):fRf r k=k r:=by cases r<;>simp [fRf,BU]
def fV:Nat→IV→(IV→α)→α
 | 0,v,k=>k v
 | d+1,v,k=>match v with
  | .dead=>k .dead
  | .fv v=>ZR d v fun v=>k (.fv v)
  | .ptr r o=>fRf r fun r=>Eb o fun o=>k (.ptr r o)
  | .slc r sz n=>fRf r fun r=>Eb sz fun sz=>Eb n fun n=>k (.slc r sz n)
  | .nils=>k .nils
  | .emp=>k .emp
  | .clip es=>fL (ZR d) es fun es=>k (.clip es)
  | .app r es=>fRf r fun r=>fL (ZR d) es fun es=>k (.app r es)
  | .func fn a b=>fL (fV d) a fun a=>fL (fV d) b fun b=>k (.func fn a b)
  | .agg cs=>fL (fV d) cs fun cs=>k (.agg cs)
  | .tuple cs=>fL (fV d) cs fun cs=>k (.tuple cs)
  | .mapr r=>fRf r fun r=>k (.mapr r)
theorem Cv:∀(d:Nat) (v:IV) (k:IV→α),fV d v k=k v
 | 0,_,_=>rfl
 | d+1,v,k=>by cases v<;>simp [fV,CR (Cv d),CR (LW d),LW,BU,PW]
def fBk (b:Blk) (k:Blk→α):α:=match b with
 | .row cs ro=>fL (fV 3) cs fun cs=>k (.row cs ro)
 | .tok n sz=>Eb n fun n=>Eb sz fun sz=>k (.tok n sz)
 | .map es=>fL (fun (p:Int×IV) k=>match p with | (n,v)=>Agq n fun n=>fV 4 v fun v=>k (n,v)) es fun es=>k (.map es)
theorem CY (b:Blk) (k:Blk→α):fBk b k=k b:=by
 cases b with
 | row cs ro=>simp only [fBk];rw [CR (Cv 3)]
 | tok n sz=>simp only [fBk];rw [BU,BU]
 | map es =>
  simp only [fBk];rw [CR];rintro ⟨n,v⟩ k;simp only;rw [Yj,Cv]
def fOw (p:Nat×Blk) (k:Nat×Blk→α):α:=match p with | (n,b)=>Eb n fun n=>fBk b fun b=>k (n,b)
theorem AjU (p:Nat×Blk) (k:Nat×Blk→α):fOw p k=k p:=by
 obtain ⟨n,b⟩:=p;simp only [fOw];rw [BU,CY]
def fH (h:Hp) (k:Hp→α):α:=match h with | ⟨own,ext⟩=>fL fOw own fun own=>fL fBk ext fun ext=>k ⟨own,ext⟩
theorem Ja (h:Hp) (k:Hp→α):fH h k=k h:=by
 obtain ⟨a,b⟩:=h;simp only [fH];rw [CR AjU,CR CY]
end
section
variable {β:Type}
def In (l:List (Nat×Blk)) (s:Nat) (k:Blk→Option β):Option β :=
 List.rec (motive:=fun _=>Option β) none (fun p _ ih=>match p with | (j,b)=>cond (Nat.beq s j) (k b) ih) l
theorem Gw {α:Type} (a b:Nat) (x y:α):cond (Nat.beq a b) x y=if a=b then x else y:=by
 cases h:Nat.beq a b with
 | true=>rw [if_pos (Nat.eq_of_beq_eq_true h)];rfl
 | false=>rw [if_neg (fun e=>by rw [e,show Nat.beq b b=true from Nat.beq_refl b] at h;cases h)];rfl
theorem Es (l:List (Nat×Blk)) (s:Nat) (k:Blk→Option β):In l s k=(Ar s l).bind k:=by
 induction l with
 | nil=>rfl
 | cons p l ih =>
  obtain ⟨j,b⟩:=p;rw [show In ((j,b)::l) s k=cond (Nat.beq s j) (k b) (In l s k) from rfl,Gw,ih]
  simp only [Ar];split<;>rfl
def Ef (r:Ref) (h:Hp) (k:Blk→Option β):Option β:=match h with
 | ⟨own,ext⟩=>match r with
  | .own s=>In own s k
  | .ext j=>C9 ext j k
theorem DU (r:Ref) (h:Hp) (k:Blk→Option β):Ef r h k=(h.get r).bind k:=by
 obtain ⟨own,ext⟩:=h;cases r with
 | own s=>exact Es ..
 | ext j=>exact CS ..
def Be (l:List (Nat×Blk)) (s:Nat) (b:Blk) (k:List (Nat×Blk)→Option β):Option β :=
 List.rec (motive:=fun _=>(List (Nat×Blk)→Option β)→Option β) (fun k=>k [(s,b)])
  (fun p t ih k=>match p with | (j,c)=>cond (Nat.beq s j) (k ((j,b)::t)) (ih fun l=>k ((j,c)::l))) l k
theorem EG (l:List (Nat×Blk)) (s:Nat) (b:Blk) (k:List (Nat×Blk)→Option β):Be l s b k=k (A5 s b l):=by
 induction l generalizing k with
 | nil=>rfl
 | cons p l ih =>
  obtain ⟨j,c⟩:=p;rw [show Be ((j,c)::l) s b k=cond (Nat.beq s j) (k ((j,b)::l)) (Be l s b fun l=>k ((j,c)::l)) from rfl,Gw,ih]
  simp only [A5];split<;>rfl
def Gk (r:Ref) (b:Blk) (h:Hp) (k:Hp→Option β):Option β:=match h with
 | ⟨own,ext⟩=>match r with
  | .own s=>Be own s b fun own=>k ⟨own,ext⟩
  | .ext j=>Oi ext j b fun ext=>k ⟨own,ext⟩
theorem JB (r:Ref) (b:Blk) (h:Hp) (k:Hp→Option β):Gk r b h k=k (h.set r b):=by
 obtain ⟨own,ext⟩:=h;cases r with
 | own s=>exact EG ..
 | ext j=>exact Afv ..
def Nw (x:IV) (e:Option β) (k:FV→Option β):Option β:=match x with
 | .fv v=>k v
 | _=>e
def AdW (v:FV) (e:Option β) (k:Nat→Option β):Option β:=match v with
 | .int .i64 (.ofNat n)=>k n
 | _=>e
def I2 (x:IV) (e:Option β) (k:Nat→Option β):Option β:=Nw x e fun v=>AdW v e k
theorem EO {x:IV} {e:Option β} {k:Nat→Option β} {r:β} (h:I2 x e k=some r):(∃n:Nat,x=.fv (.int .i64 n)∧k n=some r)∨e=some r:=by
 unfold I2 Nw at h;split at h
 ·simp only [AdW] at h;split at h
  ·exact .inl ⟨_,rfl,h⟩
  ·exact .inr h
 ·exact .inr h
def MN (n:Nat) (k:IV→Option β):Option β:=Eb n fun n=>k (.fv (.int .i64 (.ofNat n)))
theorem Dk (n:Nat) (k:IV→Option β):MN n k=k (.fv (.int .i64 n)):=by rw [MN,BU];rfl
def Aft (b:Bool) (k:IV→Option β):Option β:=cond b (k (.fv (.bool true))) (k (.fv (.bool false)))
theorem Rw (b:Bool) (k:IV→Option β):Aft b k=k (.fv (.bool b)):=by cases b<;>rfl
def Dw (o:Option IV) (k:IV→Option β):Option β:=match o with
 | none=>none
 | some v=>fS v k
theorem Co (o:Option IV) (k:IV→Option β):Dw o k=o.bind k:=by
 cases o with
 | none=>rfl
 | some v=>exact AmM v k
def Cs (l:List IV) (e:Option β) (k:List FV→Option β):Option β :=
 List.rec (motive:=fun _=>(List FV→Option β)→Option β) (fun k=>k []) (fun x _ ih k=>Nw x e fun v=>ih fun vs=>k (v::vs)) l k
theorem NT (l:List IV) (e:Option β) (k:List FV→Option β):Cs l e k=match Ft l with | some vs=>k vs | none=>e:=by
 induction l generalizing k with
 | nil=>rfl
 | cons x l ih =>
  rw [show Cs (x::l) e k=Nw x e fun v=>Cs l e fun vs=>k (v::vs) from rfl]
  cases x<;>simp only [Nw,Ft];rw [ih];cases Ft l<;>rfl
def NL (l:List IV) (k:IV→Option β):Option β:=Cs l (k (.agg l)) fun vs=>k (.fv (.agg vs))
theorem PV (l:List IV) (k:IV→Option β):NL l k=k (EF l):=by
 rw [NL,NT,EF];cases Ft l<;>rfl
def Va (l:List IV) (k:IV→Option β):Option β:=Cs l (k (.tuple l)) fun vs=>k (.fv (.tuple vs))
theorem X5 (l:List IV) (k:IV→Option β):Va l k=k (Dh l):=by
 rw [Va,NT,Dh];cases Ft l<;>rfl
def Aiz (v:FV) (a b:Option β):Option β:=match v with
 | .bool t=>cond t a b
 | _=>none
def An (v:IV) (a b:Option β):Option β:=match v with
 | .fv v=>Aiz v a b
 | _=>none
theorem Ur {v:IV} {a b:Option β} {r:β} (h:An v a b=some r):∃t:Bool,v=.fv (.bool t)∧(if t then a else b)=some r:=by
 unfold An at h;split at h
 ·unfold Aiz at h;split at h
  ·rename_i t;refine ⟨t,rfl,?_⟩;cases t<;>exact h
  ·cases h
 ·cases h
def AG (c a b:IV) (k:IV→Option β):Option β:=An c (k a) (k b)
section
variable (E:Env) (t:TypeId)
def CA (op:BinOp) (x y:IV) (k:IV→Option β):Option β:=Dw (Gh E op t x y) k
def B2 (x y:IV) (k:IV→Option β):Option β :=
 I2 x (CA E t .add x y k) fun a=>I2 y (CA E t .add x y k) fun b=>cond (Nat.ble (a+b) 9223372036854775807) (MN (a+b) k) (CA E t .add x y k)
def Bg (x y:IV) (k:IV→Option β):Option β :=
 I2 x (CA E t .sub x y k) fun a=>I2 y (CA E t .sub x y k) fun b=>cond (and (Nat.ble b a) (Nat.ble a 9223372036854775807)) (MN (a - b) k) (CA E t .sub x y k)
def OL (op:BinOp) (g:Nat→Nat→Bool) (x y:IV) (k:IV→Option β):Option β :=
 I2 x (CA E t op x y k) fun a=>I2 y (CA E t op x y k) fun b=>Aft (g a b) k
def A0 (x y:IV) (k:IV→Option β):Option β:=OL E t .eql Nat.beq x y k
def H9 (x y:IV) (k:IV→Option β):Option β:=OL E t .neq (fun a b=>not (Nat.beq a b)) x y k
def H4 (x y:IV) (k:IV→Option β):Option β:=OL E t .lss (fun a b=>Nat.ble (Nat.succ a) b) x y k
def leS (x y:IV) (k:IV→Option β):Option β:=OL E t .leq Nat.ble x y k
def Ko (x y:IV) (k:IV→Option β):Option β:=OL E t .gtr (fun a b=>Nat.ble (Nat.succ b) a) x y k
def geS (x y:IV) (k:IV→Option β):Option β:=OL E t .geq (fun a b=>Nat.ble b a) x y k
def AeZ (op:BinOp) (x y:IV) (k:IV→Option β):Option β:=match op with
 | .add=>B2 E t x y k
 | .sub=>Bg E t x y k
 | .eql=>A0 E t x y k
 | .neq=>H9 E t x y k
 | .lss=>H4 E t x y k
 | .leq=>leS E t x y k
 | .gtr=>Ko E t x y k
 | .geq=>geS E t x y k
 | op=>CA E t op x y k
end
theorem Wb {n:Nat} (h:n≤9223372036854775807):IntKind.i64.wrap (n:Int)=n:=by
 have e:(n:Int) % (18446744073709551616:Int)=n:=by omega
 have e2:¬ (n:Int) ≥ (9223372036854775808:Int):=by omega
 show (if (true && decide (((n:Int) % (18446744073709551616:Int)) ≥ (9223372036854775808:Int)))=true then ((n:Int) % (18446744073709551616:Int)) - (18446744073709551616:Int) else ((n:Int) % (18446744073709551616:Int)))=n
 rw [e,decide_eq_false e2];rfl
def Gd (v:FV) (k:List FV→Option β):Option β:=match v with
 | .agg cs=>k cs
 | _=>none
def asAgg (x:IV) (k:List IV→Option β) (kf:List FV→Option β):Option β:=match x with
 | .agg cs=>k cs
 | .fv v=>Gd v kf
 | _=>none
def Akg (o:Nat) (x:IV) (k:IV→Option β):Option β:=asAgg x (fun cs=>C9 cs o k) fun cs=>C9 cs o fun v=>k (.fv v)
def Ajx (size o:Nat) (x:IV) (k:IV→Option β):Option β :=
 asAgg x (fun cs=>Fa cs o fun cs=>FP cs size fun cs=>NL cs k) fun cs=>Fa cs o fun cs=>FP cs size fun cs=>k (.fv (.agg cs))
def Ek (b:Blk) (k:List IV→Option β):Option β:=match b with
 | .row cells _=>k cells
 | _=>none
def Gx (b:Blk) (k:List IV→Option β):Option β:=match b with
 | .row cells ro=>cond ro none (k cells)
 | _=>none
def Am6 (v:FV) (k:List FV→Nat→Option β):Option β:=match v with
 | .fp cs o=>k cs o
 | _=>none
def Ec (x:IV) (k:Ref→Nat→Option β) (kf:List FV→Nat→Option β):Option β:=match x with
 | .ptr r o=>k r o
 | .fv v=>Am6 v kf
 | _=>none
def Ak (a:IV) (h:Hp) (k:IV→List Ref→Option β):Option β :=
 Ec a (fun r o=>Ef r h fun b=>Ek b fun cells=>C9 cells o fun v=>k v [r]) fun cells o=>C9 cells o fun v=>k (.fv v) []
def Ag (size:Nat) (a:IV) (h:Hp) (k:IV→List Ref→Option β):Option β :=
 Ec a (fun r o=>Ef r h fun b=>Ek b fun cells=>Fa cells o fun cs=>FP cs size fun cs=>NL cs fun v=>k v [r])
  fun cells o=>Fa cells o fun cs=>FP cs size fun cs=>k (.fv (.agg cs)) []
def spK {α:Type} (l:List α) (k:List α→Option β):Option β :=
 List.rec (motive:=fun _=>(List α→Option β)→Option β) (fun k=>k []) (fun x _ ih k=>ih fun xs=>k (x::xs)) l k
theorem GX {α:Type} (l:List α) (k:List α→Option β):spK l k=k l:=by
 induction l generalizing k with
 | nil=>rfl
 | cons x l ih=>rw [show spK (x::l) k=spK l (fun xs=>k (x::xs)) from rfl,ih]
def IM (l:List IV) (j:Nat) (b:IV) (k:List IV→Option β):Option β :=
 List.rec (motive:=fun _=>Nat→(List IV→Option β)→Option β) (fun _ _=>none) (fun x t ih j k=>Nat.rec (motive:=fun _=>Option β) (k (b::t)) (fun p _=>ih p fun xs=>k (x::xs)) j) l j k
theorem XM (l:List IV) (j:Nat) (b:IV) (k:List IV→Option β):IM l j b k=if j<l.length then k (l.set j b) else none:=by
 induction l generalizing j k with
 | nil=>rw [if_neg (by simp)];rfl
 | cons x l ih=>cases j with
  | zero=>rw [if_pos (by simp)];rfl
  | succ j=>rw [show IM (x::l) (j+1) b k=IM l j b (fun xs=>k (x::xs)) from rfl,ih];simp
theorem J3 {v:IV} (h:v.one=true):v.cells=[v]∧v.alive=true:=by
 cases v with
 | fv w=>cases w<;>simp_all [IV.one,IV.cells,IV.alive]
 | _=>simp_all [IV.one,IV.cells,IV.alive]
def wrK (cs:List FV):List IV→(List IV→Option β)→Option β :=
 List.rec (motive:=fun _=>List IV→(List IV→Option β)→Option β) (fun l k=>k l) (fun c _ ih l k=>AH l fun _ t=>ih t fun t'=>k (.fv c::t')) cs
def Ds (l:List IV) (o:Nat) (cs:List FV) (k:List IV→Option β):Option β :=
 List.rec (motive:=fun _=>Nat→(List IV→Option β)→Option β) (fun o k=>Nat.rec (motive:=fun _=>Option β) (wrK cs [] k) (fun _ _=>none) o)
  (fun x t ih o k=>Nat.rec (motive:=fun _=>Option β) (wrK cs (x::t) k) (fun p _=>ih p fun t'=>k (x::t')) o) l o k
theorem FU (x:IV):∀(vs l:List IV) (o:Nat),AW (x::l) (o+1) vs=x::AW l o vs
 | [],_,_=>rfl
 | v::vs,l,o=>by
  simp only [AW,List.set_cons_succ];exact FU x vs (l.set o v) (o+1)
theorem VI:∀(cs:List FV) (l:List IV) {k:List IV→Option β} {r:β},wrK cs l k=some r→cs.length≤l.length∧k (AW l 0 (cs.map .fv))=some r
 | [],l,k,r,h=>⟨Nat.zero_le _,h⟩
 | c::cs,l,k,r,h=>by
  have h:(AH l fun _ t=>wrK cs t fun t'=>k (.fv c::t'))=some r:=h;cases l with
  | nil=>cases h
  | cons x t =>
   have h:(wrK cs t fun t'=>k (.fv c::t'))=some r:=h;obtain ⟨h1,h2⟩:=VI cs t h;refine ⟨by simp;omega,?_⟩;simp only [Aq7,AW,List.set_cons_zero,Nat.zero_add];rw [FU];exact h2
theorem ML:∀(l:List IV) (o:Nat) (cs:List FV) {k:List IV→Option β} {r:β},Ds l o cs k=some r→o+cs.length≤l.length∧k (AW l o (cs.map .fv))=some r
 | [],0,cs,k,r,h=>by
  obtain ⟨h1,h2⟩:=VI cs [] h;exact ⟨by simpa using h1,h2⟩
 | [],o+1,cs,k,r,h=>by cases h
 | x::t,0,cs,k,r,h=>by
  obtain ⟨h1,h2⟩:=VI cs (x::t) h;exact ⟨by simpa using h1,h2⟩
 | x::t,o+1,cs,k,r,h=>by
  have h:(Ds t o cs fun t'=>k (x::t'))=some r:=h;obtain ⟨h1,h2⟩:=ML t o cs h;exact ⟨by simp;omega,by rw [FU];exact h2⟩
def Iu (v:FV):Bool:=match v with
 | .agg _=>false
 | .tuple _=>false
 | _=>true
def Ez (l:List FV):Bool:=List.rec (motive:=fun _=>Bool) true (fun v _ ih=>cond (Iu v) ih false) l
theorem Nd:∀(l:List FV),Ez l=true→(l.map IV.fv).all IV.one=true
 | [],_=>rfl
 | v::l,h=>by
  have h:cond (Iu v) (Ez l) false=true:=h;cases hv:Iu v with
  | false=>rw [hv] at h;cases h
  | true =>
   rw [hv] at h;simp only [Aq7,List.all_cons,Nd l h,Bool.and_true];cases v<;>first | rfl | cases hv
def Ah (size:Nat) (a x:IV) (h:Hp) (k:Hp→List Ref→List Ref→Option β):Option β :=
 Ec a (fun r o=>Ef r h fun b=>Gx b fun cells=>Nw x (if x.alive∧x.cells.length=size∧o+size≤cells.length∧x.cells.all IV.one∧FW r x then
  spK (AW cells o x.cells) fun cells=>Gk r (.row cells false) h fun h=>k h [r] [r] else none) fun v=>Gd v fun cs=>cond (and (Nat.beq cs.length size) (Ez cs)) (Ds cells o cs fun cells=>Gk r (.row cells false) h fun h=>k h [r] [r]) none) fun _ _=>none
def Ck (a x:IV) (h:Hp) (k:Hp→List Ref→List Ref→Option β):Option β :=
 cond x.one (Ec a (fun r o=>Ef r h fun b=>Gx b fun cells=>cond (FW r x) (IM cells o x fun cells=>Gk r (.row cells false) h fun h=>k h [r] [r]) none) fun _ _=>none) (Ah 1 a x h k)
def Agn (fn:Fn) (k:FuncId→Option β):Option β:=match fn with
 | .func g=>k g
 | _=>none
def Al2 (v:FV) (k:IV→Option β):Option β:=match v with
 | .fp cs o=>k (.fv (.fp cs o))
 | .func fn a b=>Agn fn fun g=>k (.fv (.func (.func g) a b))
 | _=>none
def AU (x:IV) (k:IV→Option β):Option β:=match x with
 | .ptr r o=>k (.ptr r o)
 | .fv v=>Al2 v k
 | .func fn a b=>Agn fn fun g=>k (.func (.func g) a b)
 | _=>none
def Ae (o:Nat) (x:IV) (k:IV→Option β):Option β :=
 Ec x (fun r off=>Eb (off+o) fun o=>k (.ptr r o)) fun cs off=>Eb (off+o) fun o=>k (.fv (.fp cs o))
def Aif (n:Int) (k:Nat→Option β):Option β:=match n with
 | .ofNat m=>k m
 | _=>none
def Aix (v:FV) (k:Nat→Option β):Option β:=match v with
 | .int _ n=>Aif n k
 | _=>none
def Afs (i:IV) (k:Nat→Option β):Option β:=Nw i none fun v=>Aix v k
theorem QI {i:IV} {k:Nat→Option β} {r:β} (h:Afs i k=some r):∃kd,∃n:Nat,i=.fv (.int kd n)∧k n=some r:=by
 unfold Afs Nw at h;split at h
 ·simp only [Aix] at h;split at h
  ·simp only [Aif] at h;split at h
   ·exact ⟨_,_,rfl,h⟩
   ·cases h
  ·cases h
 ·cases h
def Aol (v:FV) (k:List FV→Option β):Option β:=match v with
 | .sl es=>k es
 | _=>none
def AiY (x:IV) (k:List FV→Option β):Option β:=match x with
 | .nils=>k []
 | .emp=>k []
 | .clip es=>k es
 | .app _ es=>k es
 | .fv v=>Aol v k
 | _=>none
theorem WC (x:IV) (k:List FV→Option β):AiY x k=(B0 x).bind k:=by
 cases x with
 | fv v=>cases v<;>rfl
 | _=>rfl
def elK (size:Nat) (el:FV) (k:IV→Option β):Option β:=match el with
 | .agg cs=>cond (Nat.beq cs.length size) (k (.fv (.fp cs 0))) none
 | v=>cond (Nat.beq 1 size) (k (.fv (.fp [v] 0))) none
theorem Aew (size:Nat) (el:FV) (k:IV→Option β):elK size el k=if el.cells.length=size then k (.fv (.fp el.cells 0)) else none:=by
 cases el<;>simp only [elK,Gw,FV.cells]<;>rfl
def X9 (x:IV) (k:Ref→Nat→Nat→Option β) (e:Option β):Option β:=match x with
 | .slc r sz len=>k r sz len
 | _=>e
def Bh (size:Nat) (x i:IV) (k:IV→Option β):Option β :=
 Afs i fun n=>X9 x (fun r sz len=>cond (and (Nat.ble (Nat.succ n) len) (Nat.beq sz size)) (Eb (n * sz) fun o=>k (.ptr r o)) none) (AiY x fun es=>C9 es n fun el=>elK size el k)
def ixA (m size:Nat) (x i:IV) (k:IV→Option β):Option β :=
 Afs i fun n=>cond (Nat.ble (Nat.succ n) m) (Ec x (fun r o=>Eb (o+n * size) fun o=>k (.ptr r o)) fun cells o=>Eb (o+n * size) fun o=>k (.fv (.fp cells o))) none
def Al4 (m size:Nat) (x i:IV) (k:IV→Option β):Option β :=
 Afs i fun n=>cond (Nat.ble (Nat.succ n) m) (Nw x none fun v=>Gd v fun cs=>C9 cs (n * size) fun v=>k (.fv v)) none
def Anf (v:FV) (k:List FV→Option β):Option β:=match v with
 | .tuple vs=>k vs
 | _=>none
def AA (ix:Nat) (x:IV) (k:IV→Option β):Option β:=match x with
 | .tuple vs=>C9 vs ix k
 | .fv v=>Anf v fun vs=>C9 vs ix fun v=>k (.fv v)
 | _=>none
def BV (x:IV) (k:IV→Option β):Option β:=X9 x (fun _ _ n=>MN n k) (AiY x fun es=>MN es.length k)
def W1 (z:List IV) (o sz:Nat) (v:IV) (k:List IV→Option β):Option β :=
 cond v.one (cond (Nat.beq sz 1) (IM z o v k) none) (if v.alive∧v.cells.length=sz∧o+sz≤z.length then spK (AW z o v.cells) k else none)
def Kc (z:List IV) (o sz:Nat) (v:IV) (k:List IV→Option β):Option β :=
 Nw v (W1 z o sz v k) fun w=>cond (Iu w) (cond (Nat.beq sz 1) (IM z o v k) none) (Gd w fun cs=>cond (Nat.beq cs.length sz) (Ds z o cs k) none)
def MQ (z:List IV) (pl:List (Nat×Nat×IV)) (k:List IV→Option β):Option β :=
 List.rec (motive:=fun _=>List IV→Option β) (fun z=>k z) (fun p _ ih z=>match p with
  | (o,sz,v)=>Kc z o sz v ih) pl z
def BW (z:List IV) (pl:List (Nat×Nat×IV)) (k:IV→Option β):Option β:=MQ z pl fun cells=>NL cells k
def JE {α:Type} (place:Nat→Option (Nat×Nat)):List (Nat×α)→Option (List (Nat×Nat×α))
 | []=>some []
 | (i,x)::l=>match place i with
  | none=>none
  | some (o,s)=>match JE place l with
   | none=>none
   | some r=>some ((o,s,x)::r)
def Abq {α:Type} (g:α→IV):List (Nat×Nat×α)→List (Nat×Nat×IV)
 | []=>[]
 | (o,s,x)::l=>(o,s,g x)::Abq g l
def CW (l:List (Nat×Blk)) (s:Nat) (a:Option β):Option β :=
 List.rec (motive:=fun _=>Option β) a (fun p _ ih=>match p with | (j,_)=>cond (Nat.beq s j) none ih) l
theorem NP {l:List (Nat×Blk)} {s:Nat} {a:Option β} {r:β} (h:CW l s a=some r):Ar s l=none∧a=some r:=by
 induction l with
 | nil=>exact ⟨rfl,h⟩
 | cons p l ih =>
  obtain ⟨j,b⟩:=p;have h:cond (Nat.beq s j) none (CW l s a)=some r:=h;rw [Gw] at h;split at h
  ·cases h
  ·rename_i hn;obtain ⟨h1,h2⟩:=ih h;exact ⟨by simp only [Ar,if_neg hn,h1],h2⟩
def AB (s:Nat) (b:Blk) (v:IV) (h:Hp) (k:IV→Hp→List Ref→List Ref→Option β):Option β:=match h with
 | ⟨own,ext⟩=>CW own s (Be own s b fun own=>k v ⟨own,ext⟩ [] [.own s])
def A4 (s:Nat) (x:IV) (h:Hp) (k:IV→Hp→List Ref→List Ref→Option β):Option β :=
 cond x.one (AB s (.row [x] false) (.ptr (.own s) 0) h k) (cond x.alive (spK x.cells fun cs=>AB s (.row cs false) (.ptr (.own s) 0) h k) none)
def AiK (u:List (Ref×Blk)):Hp→(Hp→Option β)→Option β :=
 List.rec (motive:=fun _=>Hp→(Hp→Option β)→Option β) (fun h k=>k h) (fun p _ rec h k=>match p with
  | (r,b)=>fRf r fun r=>Ef r h fun _=>fBk b fun b=>Gk r b h fun h=>rec h k) u
theorem Zs:∀(u:List (Ref×Blk)) (h:Hp) {k:Hp→Option β} {r:β},AiK u h k=some r→∃h',laid h u=some h'∧k h'=some r
 | [],h,k,r,e=>⟨h,rfl,e⟩
 | (q,b)::u,h,k,r,e=>by
  have e:(fRf q fun q=>Ef q h fun _=>fBk b fun b=>Gk q b h fun h=>AiK u h k)=some r:=e;rw [PW,DU] at e;simp only [CY,JB] at e;cases hg:h.get q with
  | none=>rw [hg] at e;cases e
  | some c =>
   rw [hg] at e;obtain ⟨h',h1,h2⟩:=Zs u (h.set q b) e;exact ⟨h',by simp only [laid,hg,h1],h2⟩
def Ml (o:Option Blk) (s:Nat) (h:Hp) (k:Hp→Option β):Option β:=match o with
 | none=>k h
 | some b=>match h with
  | ⟨own,ext⟩=>CW own s (fBk b fun b=>Be own s b fun own=>k ⟨own,ext⟩)
def AE (m:Rd Made) (s:Nat) (h:Hp) (k:IV→Hp→List Ref→List Ref→Option β):Option β:=match m.runLog h [] with
 | none=>none
 | some (m,rd)=>AiK m.eff.upd h fun h=>Ml m.new s h fun h=>fV 3 m.eff.val fun v=>k v h rd (Bj m.eff.upd++Hn s m)
def Ank (v:FV) (e:Option β) (k:List FV→Option β):Option β:=match v with
 | .agg cs=>k cs
 | _=>e
def fzS (m:Rd Made) (s:Nat) (x:IV) (h:Hp) (k:IV→Hp→List Ref→List Ref→Option β):Option β :=
 Nw x (AE m s h k) fun v=>Ank v (AE m s h k) fun cs=>cond (Nat.ble cs.length 2000) (k (.fv (.fp cs 0)) h [] []) (AE m s h k)
def UT (E:Env) (s d:TypeId) (x:IV) (k:IV→Option β):Option β :=
 I2 x (Dw (Ju E s d x) k) fun n=>cond (Nat.ble n 9223372036854775807) (MN n k) (Dw (Ju E s d x) k)
def AfQ (v:FV) (want:Bool) (h:Hp) (m:(IV→Hp→List Ref→List Ref→Option β)→Option β) (k:IV→Hp→List Ref→List Ref→Option β):Option β:=match v with
 | .bool b=>cond (cond want b (not b)) (m k) (k E4 h [] [])
 | .tuple l=>List.casesOn (motive:=fun _=>Option β) l (k E4 h [] []) fun _ _=>none
 | _=>none
def Ab (v:IV) (want:Bool) (h:Hp) (m:(IV→Hp→List Ref→List Ref→Option β)→Option β) (k:IV→Hp→List Ref→List Ref→Option β):Option β:=Nw v none fun v=>AfQ v want h m k
def Ej (split:Bool) (ih:Aa) (f:FuncId) (args:List IV) (ext:List Blk):Option (IV×Hp) :=
 if split then match args,ext with
  | [.fv (.sl [])],[]=>if B9 (ih f [.nils] ⟨[],[]⟩) && B9 (ih f [.emp] ⟨[],[]⟩) then some (.fv (.sl []),⟨[],[]⟩) else none
  | _,_=>ih f args ⟨[],ext⟩
 else ih f args ⟨[],ext⟩
def Eh (keep:List Bool) (split raw:Bool) (ih:Aa) (f:FuncId) (args:List IV) (h:Hp) (k:IV→Hp→List Ref→List Ref→Option β):Option β :=
 match (Bm keep args).runLog h [] with
 | none=>none
 | some (
     (vs,rs,u),l1)=>match (BY 4096 rs []).runLog h l1 with
  | none=>none
  | some (
      l,l2)=>match IV.ren.renL (EU l) vs with
   | none=>none
   | some vs' =>
          match AZ (EU l) (l.map (·.2)) with
    | none=>none
    | some ext=>fL (fV 3) vs' fun vs'=>fL fBk ext fun ext=>match Ej split ih f vs' ext with
     | none=>none
     | some (
         res,hp')=>match (if raw then some res else ((CI 4096 res).run hp').map fun (v,_)=>.fv v) with
      | none=>none
      | some res=>match res.ren (Cp l) with
       | none=>none
       | some res=>match AZ (Cp l) hp'.ext with
        | none=>none
        | some ext'=>if ext'.length=l.length∧(Bj u).all (fun r=>!hasRef r l) then
          match laid h (u++(Bj l).zip ext') with
          | none=>none
          | some h'=>fH h' fun h'=>fV 3 res fun res=>k res h' l2 (Bj (u++(Bj l).zip ext'))
         else none
def Vi (r:Ref) (e:Option β) (k:Nat→Option β):Option β:=match r with
 | .own s=>k s
 | .ext _=>e
def PI {α:Type} (u us:List α) (k:List α→Option β):Option β :=
 List.rec (motive:=fun _=>(List α→Option β)→Option β) (fun k=>k us) (fun x _ ih k=>ih fun w=>k (x::w)) u k
theorem Vz {α:Type} (u us:List α) (k:List α→Option β):PI u us k=k (u++us):=by
 induction u generalizing k with
 | nil=>rfl
 | cons x u ih=>rw [show PI (x::u) us k=PI u us (fun w=>k (x::w)) from rfl,ih];rfl
abbrev FzK (β:Type):=IV→Hp→List Ref→Option β→(FV→List (Ref×Blk)→List Ref→Option β)→Option β
def Ei (g:FzK β) (l:List IV):Hp→List Ref→Option β→(List FV→List (Ref×Blk)→List Ref→Option β)→Option β :=
 List.rec (motive:=fun _=>Hp→List Ref→Option β→(List FV→List (Ref×Blk)→List Ref→Option β)→Option β) (fun _ lg _ k=>k [] [] lg)
  (fun x _ rec h lg e k=>g x h lg e fun y u lg=>rec h lg e fun ys us lg=>PI u us fun w=>k (y::ys) w lg) l
def elF (x:FV) (k:FV→Option β):Option β:=match x with
 | .agg l=>k (.agg [.agg l])
 | x=>k x
def elL (x:FV) (t:List FV) (k:FV→Option β):Option β:=match t with
 | []=>elF x k
 | y::t=>k (.agg (x::y::t))
def Ahk (a:List FV) (k:FV→Option β):Option β:=match a with
 | []=>k (.agg [])
 | x::t=>elL x t k
theorem AhV (a:List FV) (k:FV→Option β):Ahk a k=k (QF a):=by
 cases a with
 | nil=>rfl
 | cons x t=>cases t with
  | nil=>cases x<;>rfl
  | cons y t=>cases x<;>rfl
def chK (sz len:Nat) (cs:List FV) (k:List FV→Option β):Option β :=
 Nat.rec (motive:=fun _=>List FV→(List FV→Option β)→Option β) (fun _ k=>k []) (fun _ rec cs k=>FP cs sz fun a=>Fa cs sz fun b=>Ahk a fun x=>rec b fun xs=>k (x::xs)) len cs k
theorem AfG (sz:Nat):∀(len:Nat) (cs:List FV) {k:List FV→Option β} {r:β},chK sz len cs k=some r→k (BE sz len cs)=some r
 | 0,_,_,_,h=>h
 | len+1,cs,k,r,h=>by
  have h:(FP cs sz fun a=>Fa cs sz fun b=>Ahk a fun x=>chK sz len b fun xs=>k (x::xs))=some r:=h;rw [Jz] at h;by_cases h1:sz≤cs.length
  ·rw [if_pos h1,IR,if_pos h1,AhV] at h;exact AfG sz len _ h
  ·rw [if_neg h1] at h;cases h
def F4 (d:Nat):FzK β :=
 Nat.rec (motive:=fun _=>FzK β) (fun _ _ _ e _=>e) (fun _ g v h lg e k=>match v with
  | .fv v=>k v [] lg
  | .nils=>k (.sl []) [] lg
  | .emp=>k (.sl []) [] lg
  | .clip es=>k (.sl es) [] lg
  | .app _ es=>k (.sl es) [] lg
  | .ptr r off=>Vi r e fun s=>Ef (.own s) h fun b=>Ek b fun cells=>cond (Nat.ble cells.length 300) (Ei g cells h (.own s::lg) e fun cs u lg=>k (.fp cs off) ((.own s,.row cells true)::u) lg) e
  | .slc r sz len=>Vi r e fun s=>Ef (.own s) h fun b=>Ek b fun cells=>cond (Nat.ble cells.length 300) (cond (or (Nat.beq sz 0) (not (Nat.ble (len * sz) cells.length))) none
    (Ei g cells h (.own s::lg) e fun cs u lg=>chK sz len cs fun els=>k (.sl els) ((.own s,.row cells true)::u) lg)) e
  | .agg cs=>cond (Nat.ble cs.length 300) (Ei g cs h lg e fun cs u lg=>k (.agg cs) u lg) e
  | .func fn a b=>cond (and (Nat.ble a.length 300) (Nat.ble b.length 300)) (Ei g a h lg e fun x u lg=>Ei g b h lg e fun y v lg=>PI u v fun w=>k (.func fn x y) w lg) e
  | _=>e) d
def fzA (args:List IV):List Bool→Hp→List Ref→Option β→(List IV→List Ref→List (Ref×Blk)→List Ref→Option β)→Option β :=
 List.rec (motive:=fun _=>List Bool→Hp→List Ref→Option β→(List IV→List Ref→List (Ref×Blk)→List Ref→Option β)→Option β) (fun _ _ lg _ k=>k [] [] [] lg)
  (fun x _ rec keep h lg e k=>match keep with
   | []=>F4 12 x h lg e fun y u lg=>rec [] h lg e fun vs rs us lg=>PI u us fun w=>k (.fv y::vs) rs w lg
   | b::ks=>cond b (Ec x (fun r o=>rec ks h lg e fun vs rs us lg=>k (.ptr r o::vs) (r::rs) us lg) fun _ _=>e)
     (F4 12 x h lg e fun y u lg=>rec ks h lg e fun vs rs us lg=>PI u us fun w=>k (.fv y::vs) rs w lg)) args
def Uz (v:IV):List Ref→List Ref :=
 IV.rec (motive_1:=fun _=>List Ref→List Ref) (motive_2:=fun _=>List Ref→List Ref) (fun acc=>acc) (fun _ acc=>acc) (fun r _ acc=>r::acc) (fun r _ _ acc=>r::acc) (fun acc=>acc) (fun acc=>acc) (fun _ acc=>acc)
  (fun r _ acc=>r::acc) (fun _ _ _ f g acc=>f (g acc)) (fun _ f acc=>f acc) (fun _ f acc=>f acc) (fun r acc=>r::acc) (fun acc=>acc) (fun _ _ f g acc=>f (g acc)) v
def Cx (l:List IV):List Ref→List Ref :=
 IV.rec_1 (motive_1:=fun _=>List Ref→List Ref) (motive_2:=fun _=>List Ref→List Ref) (fun acc=>acc) (fun _ acc=>acc) (fun r _ acc=>r::acc) (fun r _ _ acc=>r::acc) (fun acc=>acc) (fun acc=>acc) (fun _ acc=>acc)
  (fun r _ acc=>r::acc) (fun _ _ _ f g acc=>f (g acc)) (fun _ f acc=>f acc) (fun _ f acc=>f acc) (fun r acc=>r::acc) (fun acc=>acc) (fun _ _ f g acc=>f (g acc)) l
def El (b:Blk):List Ref:=match b with
 | .row cells _=>Cx cells []
 | .tok _ _=>[]
 | .map es=>List.rec (motive:=fun _=>List Ref) [] (fun p _ ih=>match p with | (_,v)=>Uz v ih) es
def goR (rec:List Ref→Nat→List Blk→Bool) (t:List Ref) (s:Nat) (rest:List Blk):Bool:=match rest with
 | []=>false
 | b::rest=>rec (t++El b) (Nat.succ s) rest
def Nu (n:Nat):List Ref→Nat→List Blk→Bool :=
 Nat.rec (motive:=fun _=>List Ref→Nat→List Blk→Bool) (fun _ _ _=>false) (fun _ rec todo s rest=>match todo with
  | []=>(match rest with
   | []=>true
   | _::_=>false)
  | r::t=>(match r with
   | .own _=>false
   | .ext j=>cond (Nat.ble (Nat.succ j) s) (rec t s rest) (cond (Nat.beq j s) (goR rec t s rest) false))) n
def okR (m:Nat) (rs:List Ref):Bool :=
 List.rec (motive:=fun _=>Bool) true (fun r _ rec=>match r with
  | .own _=>false
  | .ext j=>cond (Nat.ble (Nat.succ j) m) rec false) rs
def okB (m:Nat) (l:List Blk):Bool:=List.rec (motive:=fun _=>Bool) true (fun b _ rec=>cond (okR m (El b)) rec false) l
def NG (u:List (Ref×Blk)):Hp→(Hp→Option β)→Option β :=
 List.rec (motive:=fun _=>Hp→(Hp→Option β)→Option β) (fun h k=>k h) (fun p _ rec h k=>match p with
  | (r,b)=>Vi r none fun s=>Ef (.own s) h fun _=>Gk (.own s) b h fun h=>rec h k) u
def Dl (m:Nat):List Ref:=(List.range m).map .ext
def Am (keep:List Bool) (split raw:Bool) (ih:Aa) (f:FuncId) (args:List IV) (h:Hp) (k:IV→Hp→List Ref→List Ref→Option β):Option β :=
 cond (
    cond split true raw) (Eh keep split raw ih f args h k)
  (fzA args keep h [] (Eh keep split raw ih f args h k) fun vs rs u lg=>match rs with
   | []=>(match ih f vs ⟨[],[]⟩ with
    | none=>none
    | some p=>match p with
     | (v,h')=>match h' with
      | ⟨own,ext⟩=>List.casesOn (motive:=fun _=>Option β) ext (F4 12 v ⟨own,[]⟩ [] (Eh keep split raw ih f args h k) fun w _ _=>NG u h fun h2=>k (.fv w) h2 lg (Bj u)) fun _ _=>none)
   | r::rs=>(match h with
    | ⟨own,ext⟩=>cond (Nu 400 (r::rs) 0 ext) (match ih f vs ⟨[],ext⟩ with
     | none=>none
     | some p=>match p with
      | (v,h')=>match h' with
       | ⟨own',ext'⟩=>cond (and (Nat.beq ext'.length ext.length) (okB ext.length ext'))
        (F4 12 v ⟨own',ext'⟩ [] (Eh keep split raw ih f args h k) fun w _ _=>NG u ⟨own,ext'⟩ fun h2=>k (.fv w) h2 ((Dl ext.length).reverse++lg) (Bj u++Dl ext.length)) none)
     (Eh keep split raw ih f args h k)))
def ND (E:Env) (ih:Aa) (g:IV) (args:List IV) (h:Hp) (k:IV→Hp→List Ref→List Ref→Option β):Option β:=match callee g with
 | none=>none
 | some (f,first,cap)=>cond (E.pol.inl f) none (spK (first++args++cap) fun args=>Am (E.pol.keep f) (E.pol.split f) (E.pol.raw f) ih f args h k)
def Amq (ih:Aa) (f:FuncId) (args:List IV) (h:Hp) (k:IV→Hp→List Ref→List Ref→Option β):Option β:=match ih f args h with
 | none=>none
 | some p=>match p with
  | (v,h)=>k v h [] []
section
variable (E:Env)
def Aj (t:TypeId) (len:Nat) (parts:List (Nat×IV)):Rd Made:=match E.T t with
  | some ⟨_,_,.slice e,_⟩=>match E.T e with
   | some ei=>if ei.size=0∨len * ei.size > 65536 then .fail else
    match Cw (fun j=>some (j * ei.size,ei.size)) (Qj len ei.zero) parts with
    | some cells=>(frzL 65536 cells).bind fun (vs,u)=>.ret { eff:={ val:=.clip (BE ei.size len vs),upd:=u } }
    | none=>.fail
   | none=>.fail
  | _=>.fail
def KV (t:TypeId) (parts:List (Nat×IV)):Rd Made:=match E.T t with
  | some ⟨_,_,.struct fs,z⟩=>F3 ((Cw (Ee E fs) z parts).map EF)
  | some ⟨_,_,.arr _ e,z⟩=>match E.T e with
   | some ei=>F3 ((Cw (fun j=>some (j * ei.size,ei.size)) z parts).map EF)
   | none=>.fail
  | _=>.fail
def MU (fz:Bool) (s:Nat) (v:IV):Rd Made :=
  if v.alive=false then .fail else
  if fz then (frzL 4096 v.cells).bind fun (vs,u)=>.ret { eff:={ val:=.fv (.fp vs 0),upd:=u } }
  else .ret { eff:={ val:=.ptr (.own s) 0 },new:=some (.row v.cells false) }
def Ab8 (s:Nat):Rd Made:=.ret { eff:={ val:=.mapr (.own s) },new:=some (.map []) }
def Tr (t:TypeId) (m k v:IV):Rd Made:=match E.T t with
  | some ⟨_,_,.map kt _,_⟩=>match E.T kt,m,k with
   | some ⟨_,_,.int .i64,_⟩,.mapr r,.fv (.int .i64 n)=>.get r fun
    | .map es =>
     if v.alive∧FW r v then .ret { eff:={ val:=.dead,upd:=[(r,.map (FO n v es))] } } else .fail
    | _=>.fail
   | _,_,_=>.fail
  | _=>.fail
def AfF (t:TypeId) (m k:IV) (ok:Bool):Rd Made:=match E.T t with
  | some ⟨
      _,_,.map kt et,_⟩=>match E.T kt,E.T et,m,k with
   | some ⟨_,_,.int .i64,_⟩,some ei,.mapr r,.fv (.int .i64 n)=>.get r fun
    | .map es=>match JT n es with
     | some v=>val (if ok then Dh [v,.fv (.bool true)] else v)
     | none=>match VM ei with
      | some z=>val (if ok then Dh [z,.fv (.bool false)] else z)
      | none=>.fail
    | _=>.fail
   | _,_,_,_=>.fail
  | _=>.fail
def Ea (s:Nat) (t:TypeId) (l c:IV):Rd Made:=match E.T t with
  | some ⟨_,_,.slice e,_⟩=>match E.T e,l,c with
   | some ei,.fv (.int .i64 a),.fv (.int .i64 b) =>
    if 0≤a∧a≤b∧b≤1048576∧ei.size≠0∧ei.bytes≤65536 then
     .ret { eff:={ val:=.slc (.own s) ei.size a.toNat },new:=some (.row (Qj b.toNat ei.zero) false) }
    else .fail
   | _,_,_=>.fail
  | _=>.fail
def WO (t:TypeId) (x ix:IV):Rd Made:=match E.T t,x,ix with
  | some ⟨_,_,.str,_⟩,.fv (.str s),.fv (.int _ n)=>if n<0 then .fail else match s[n.toNat]? with
   | some b=>val (.fv (.int .u8 b.toNat))
   | none=>.fail
  | some ⟨_,_,.arr m e,_⟩,.fv (.agg cs),.fv (.int _ n)=>match E.T e with
   | some ei=>if 0≤n∧n<(m:Int) then F3 ((Bl ei.kind.isAgg ei.size (n.toNat * ei.size) cs).map .fv) else .fail
   | none=>.fail
  | _,_,_=>.fail
theorem Adv {ih:Aa} {f rid i:Nat} {ρ:Operand→IV} {t:TypeId} {x:Operand}:CJ E ih f rid i ρ (.box t x)=MU (E.pol.fzBox f rid i) (Bb f rid i) (ρ x):=rfl
end
abbrev Sj {α:Type} (b:Bool) (x y:α):α:=Bool.rec (motive:=fun _=>α) y x b
theorem Bu {α:Type} (b:Bool) (x y:α):Sj b x y=cond b x y:=by cases b<;>rfl
section
variable (E:Env) (ih:Aa)
def EY:Op→Bool
 | .move _ | .assign _ | .pick .. | .nilCheck _ | .binOp .. | .unOp .. | .convert .. | .fieldAddr .. | .field .. | .extract ..=>true
 | .build t _=>match E.T t with
  | some ⟨_,_,.struct _,_⟩=>true
  | _=>false
 | .indexAddr t _ _=>match E.T t with
  | some ⟨_,_,.slice e,_⟩=>(match E.T e with | some _=>true | none=>false)
  | some ⟨_,_,.arr _ e,_⟩=>(match E.T e with | some _=>true | none=>false)
  | _=>false
 | .index t _ _=>match E.T t with
  | some ⟨_,_,.arr _ e,_⟩=>(match E.T e with | some ei=>!ei.kind.isAgg | none=>false)
  | _=>false
 | .call { callee:=.builtin .len,argTypes,args }=>match argTypes.toList,args.toList with
  | [t],[_]=>(match E.T t with | some ⟨_,_,.slice _,_⟩=>true | _=>false)
  | _,_=>false
 | _=>false
def Vl (f:FuncId) (rid i:Nat) (drawn:Bool) (ρ:Operand→IV) (cl:Callee) (args:List Operand) (ts:List TypeId) (h:Hp) (k:IV→Hp→List Ref→List Ref→Option β):Option β:=match cl with
 | .builtin b=>match b,ts,args with
  | .len,[t],[x]=>(match E.T t with
   | some ⟨_,_,.slice _,_⟩=>BV (ρ x) fun v=>k v h [] []
   | _=>AE (AM E (Bb f rid i) (E.pol.rowApp f rid i) b ts (args.map ρ)) (Bb f rid i) h k)
  | _,_,_=>AE (AM E (Bb f rid i) (E.pol.rowApp f rid i) b ts (args.map ρ)) (Bb f rid i) h k
 | .value g=>match g with
  | .func g=>Sj (E.pol.inl g) (Sj drawn none (Amq ih g (args.map ρ) h k)) (Am (E.pol.keep g) (E.pol.split g) (E.pol.raw g) ih g (args.map ρ) h k)
  | g=>ND E ih (ρ g) (args.map ρ) h k
 | _=>none
def H0 (f:FuncId) (rid i:Nat) (drawn:Bool) (ρ:Operand→IV) (op:Op) (h:Hp) (k:IV→Hp→List Ref→List Ref→Option β):Option β:=match op with
 | .move x=>k (ρ x) h [] []
 | .assign x=>k (ρ x) h [] []
 | .pick c a b=>AG (ρ c) (ρ a) (ρ b) fun v=>k v h [] []
 | .alloc t=>match E.T t with
  | some ti=>AB (Bb f rid i) (.row ti.zero false) (.ptr (.own (Bb f rid i)) 0) h k
  | none=>none
 | .box _ x=>Sj (E.pol.fzBox f rid i) (fzS (MU true (Bb f rid i) (ρ x)) (Bb f rid i) (ρ x) h k) (A4 (Bb f rid i) (ρ x) h k)
 | .build t parts=>match E.T t with
  | some ⟨_,_,.struct fs,z⟩=>(match JE (Ee E fs) parts.toList with
   | some l=>BW z (Abq ρ l) fun v=>k v h [] []
   | none=>none)
  | _=>AE (KV E t (parts.toList.map fun (j,x)=>(j,ρ x))) (Bb f rid i) h k
 | .buildSlice t len parts=>AE (Aj E t len (parts.toList.map fun (j,x)=>(j,ρ x))) (Bb f rid i) h k
 | .makeFunc fn a b=>AE (val (QQ fn (a.toList.map ρ) (b.toList.map ρ))) (Bb f rid i) h k
 | .makeMap _ n=>(match n with
  | none=>AE (Ab8 (Bb f rid i)) (Bb f rid i) h k
  | some _=>none)
 | .insert t m j x=>AE (Tr E t (ρ m) (ρ j) (ρ x)) (Bb f rid i) h k
 | .mapUpdate t m j x=>AE (Tr E t (ρ m) (ρ j) (ρ x)) (Bb f rid i) h k
 | .lookup t m j ok=>AE (AfF E t (ρ m) (ρ j) ok) (Bb f rid i) h k
 | .makeSlice t l c=>AE (Ea E (Bb f rid i) t (ρ l) (ρ c)) (Bb f rid i) h k
 | .slice t x lo hi mx=>AE (Ij E t (ρ x) (lo.map ρ) (hi.map ρ) (mx.map ρ)) (Bb f rid i) h k
 | .load t a=>match E.T t with
  | none=>none
  | some ti=>Sj ti.kind.isAgg (Ag ti.size (ρ a) h fun v rd=>k v h rd []) (Ak (ρ a) h fun v rd=>k v h rd [])
 | .store t a x=>match E.T t with
  | none=>none
  | some ti=>Sj (Nat.beq ti.size 1) (Ck (ρ a) (ρ x) h fun h rd wr=>k .dead h rd wr) (Ah ti.size (ρ a) (ρ x) h fun h rd wr=>k .dead h rd wr)
 | .nilCheck x=>AU (ρ x) fun v=>k v h [] []
 | .binOp op t x y _=>AeZ E t op (ρ x) (ρ y) fun v=>k v h [] []
 | .unOp op _ x=>Dw (M5 op (ρ x)) fun v=>k v h [] []
 | .convert s d x=>match E.T s,E.T d with
  | some _,some ⟨_,_,.int .i64,_⟩=>UT E s d (ρ x) fun v=>k v h [] []
  | _,_=>Dw (Ju E s d (ρ x)) fun v=>k v h [] []
 | .fieldAddr s x fd=>match GP E s fd with
  | some (o,ti)=>Sj (Nat.beq ti.size 0) none (Ae o (ρ x) fun v=>k v h [] [])
  | none=>none
 | .field s x fd=>match GP E s fd with
  | some (o,ti)=>Sj ti.kind.isAgg (Ajx ti.size o (ρ x) fun v=>k v h [] []) (Akg o (ρ x) fun v=>k v h [] [])
  | none=>none
 | .indexAddr t x ix=>match E.T t with
  | some ⟨_,_,.slice e,_⟩=>(match E.T e with
   | some ei=>Bh ei.size (ρ x) (ρ ix) fun v=>k v h [] []
   | none=>none)
  | some ⟨_,_,.arr m e,_⟩=>(match E.T e with
   | some ei=>ixA m ei.size (ρ x) (ρ ix) fun v=>k v h [] []
   | none=>none)
  | _=>none
 | .index t x ix=>match E.T t with
  | some ⟨_,_,.arr m e,_⟩=>(match E.T e with
   | some ei=>Sj ei.kind.isAgg (AE (WO E t (ρ x) (ρ ix)) (Bb f rid i) h k) (Al4 m ei.size (ρ x) (ρ ix) fun v=>k v h [] [])
   | none=>none)
  | _=>AE (WO E t (ρ x) (ρ ix)) (Bb f rid i) h k
 | .extract x ix=>AA ix (ρ x) fun v=>k v h [] []
 | .call c=>match c with
  | { callee,args,argTypes }=>Vl E ih f rid i drawn ρ callee args.toList argTypes.toList h k
 | _=>none
end
end
end Idl
end Go.Proofs.Ytdibmackcbpniaa
namespace Go.Proofs.Ytdibmackcbpniaa
namespace Idl
section
variable {β:Type} {E:Env} {ih ih':Aa} {f rid i:Nat} {dr:Bool} {ρ:Operand→IV} {hp:Hp} {k:IV→Hp→List Ref→List Ref→Option β} {r:β}
def AoF (E:Env) (ih:Aa) (f rid i:Nat) (ρ:Operand→IV) (op:Op) (hp:Hp) (v:IV) (hp':Hp) (rd wr:List Ref):Prop :=
 ∃m,(CJ E ih f rid i ρ op).runLog hp []=some (m,rd)∧AN (Bb f rid i) hp m=some hp'∧m.eff.val=v∧wr=Bj m.eff.upd++Hn (Bb f rid i) m
def Ga (E:Env) (ih:Aa) (f rid i:Nat) (ρ:Operand→IV) (op:Op) (hp:Hp) (k:IV→Hp→List Ref→List Ref→Option β) (r:β):Prop :=
 ∃v hp' rd wr,AoF E ih f rid i ρ op hp v hp' rd wr∧k v hp' rd wr=some r∧(EY E op=true→rd=[]∧wr=[])
theorem AT {op:Op} {v:IV} (e:CJ E ih f rid i ρ op=val v) (h:k v hp [] []=some r):Ga E ih f rid i ρ op hp k r :=
 ⟨v,hp,[],[],⟨{ eff:={ val:=v } },by rw [e];rfl,rfl,rfl,rfl⟩,h,fun _=>⟨rfl,rfl⟩⟩
theorem NY {op:Op} {o:Option IV} (e:CJ E ih f rid i ρ op=F3 o) (h:(o.bind fun v=>k v hp [] [])=some r):Ga E ih f rid i ρ op hp k r:=by
 cases o with
 | none=>cases h
 | some v=>exact AT e h
theorem SO {op:Op} {b:Blk} {v:IV} (hq:EY E op=false) (e:CJ E ih f rid i ρ op=.ret { eff:={ val:=v },new:=some b })
  (h:AB (Bb f rid i) b v hp k=some r):Ga E ih f rid i ρ op hp k r:=by
 obtain ⟨own,ext⟩:=hp;have h:CW own (Bb f rid i) (Be own (Bb f rid i) b fun own=>k v ⟨own,ext⟩ [] [.own (Bb f rid i)])=some r:=h;obtain ⟨h1,h2⟩:=NP h;rw [EG] at h2;refine ⟨v,⟨A5 (Bb f rid i) b own,ext⟩,[],[.own (Bb f rid i)],⟨_,by rw [e];rfl,?_,rfl,rfl⟩,h2,fun q=>by rw [hq] at q;cases q⟩;simp only [AN,laid,Option.bind_some,Ct];rw [show (Hp.mk own ext).get (.own (Bb f rid i))=none from h1]
 rfl
theorem BD {op:Op} {m:Rd Made} (hq:EY E op=false) (e:CJ E ih f rid i ρ op=m) (h:AE m (Bb f rid i) hp k=some r):Ga E ih f rid i ρ op hp k r:=by
 unfold AE at h;cases hm:m.runLog hp [] with
 | none=>rw [hm] at h;cases h
 | some p =>
  obtain ⟨m',rd⟩:=p;rw [hm] at h;simp only at h;obtain ⟨h1,l1,h⟩:=Zs _ _ h;have hh:∃h2,Ct (Bb f rid i) m' h1=some h2∧k m'.eff.val h2 rd (Bj m'.eff.upd++Hn (Bb f rid i) m')=some r:=by
   unfold Ml at h;unfold Ct;cases hn:m'.new with
   | none=>rw [hn] at h;simp only [Cv] at h;exact ⟨h1,rfl,h⟩
   | some b =>
    rw [hn] at h;obtain ⟨own,ext⟩:=h1;simp only [CY,EG,Cv] at h;obtain ⟨f1,f2⟩:=NP h;refine ⟨⟨A5 (Bb f rid i) b own,ext⟩,?_,f2⟩;simp only;rw [show (Hp.mk own ext).get (.own (Bb f rid i))=none from f1]
    rfl
  obtain ⟨h2,l2,h⟩:=hh;exact ⟨_,h2,rd,_,⟨m',by rw [e,hm],by simp only [AN,l1,Option.bind_some,l2],rfl,rfl⟩,h,fun q=>by rw [hq] at q;cases q⟩
theorem Nh {x:IV} {e:Option β} {k:FV→Option β} (h:Nw x e k=some r):(∃v,x=.fv v∧k v=some r)∨e=some r:=by
 unfold Nw at h;split at h
 ·exact .inl ⟨_,rfl,h⟩
 ·exact .inr h
theorem Tt {x:IV} {k:List IV→Option β} {kf:List FV→Option β} (h:asAgg x k kf=some r):(∃cs,x=.agg cs∧k cs=some r)∨(∃cs,x=.fv (.agg cs)∧kf cs=some r):=by
 unfold asAgg at h;split at h
 ·exact .inl ⟨_,rfl,h⟩
 ·unfold Gd at h;split at h
  ·exact .inr ⟨_,rfl,h⟩
  ·cases h
 ·cases h
theorem Dc {x:IV} {k:Ref→Nat→Option β} {kf:List FV→Nat→Option β} (h:Ec x k kf=some r):(∃q o,x=.ptr q o∧k q o=some r)∨(∃cs o,x=.fv (.fp cs o)∧kf cs o=some r):=by
 unfold Ec at h;split at h
 ·exact .inl ⟨_,_,rfl,h⟩
 ·unfold Am6 at h;split at h
  ·exact .inr ⟨_,_,rfl,h⟩
  ·cases h
 ·cases h
theorem FZ {b:Blk} {k:List IV→Option β} (h:Ek b k=some r):∃cells ro,b=.row cells ro∧k cells=some r:=by
 unfold Ek at h;split at h
 ·exact ⟨_,_,rfl,h⟩
 ·cases h
theorem N8 {b:Blk} {k:List IV→Option β} (h:Gx b k=some r):∃cells,b=.row cells false∧k cells=some r:=by
 unfold Gx at h;split at h
 ·rename_i ro;cases ro with
  | true=>cases h
  | false=>exact ⟨_,rfl,h⟩
 ·cases h
theorem RA {x:IV} {k:Ref→Nat→Nat→Option β} {e:Option β} (h:X9 x k e=some r):(∃q sz n,x=.slc q sz n∧k q sz n=some r)∨((∀q sz n,x≠.slc q sz n)∧e=some r):=by
 unfold X9 at h;split at h
 ·exact .inl ⟨_,_,_,rfl,h⟩
 ·rename_i hn;exact .inr ⟨hn,h⟩
theorem Bk {α:Type} {o:Option α} {k:α→Option β} (h:o.bind k=some r):∃a,o=some a∧k a=some r:=by
 cases o with
 | none=>cases h
 | some a=>exact ⟨a,rfl,h⟩
theorem Dd {c:Prop} [Decidable c] {a:Option β} (h:(if c then a else none)=some r):c∧a=some r:=by
 by_cases hc:c
 ·rw [if_pos hc] at h;exact ⟨hc,h⟩
 ·rw [if_neg hc] at h;cases h
theorem Dn {c:Bool} {a:Option β} (h:cond c a none=some r):c=true∧a=some r:=by cases c;cases h;exact ⟨rfl,h⟩
theorem Dm {a b:Nat} (h:Nat.beq a b=true):a=b:=Nat.eq_of_beq_eq_true h
theorem Bd {a b:Nat} (h:Nat.ble a b=true):a≤b:=Nat.le_of_ble_eq_true h
theorem Eu {t:TypeId} {op:BinOp} {x y:IV} {k:IV→Option β} (h:CA E t op x y k=some r):∃v,Gh E op t x y=some v∧k v=some r:=by
 rw [CA,Co] at h;exact Bk h
theorem AgO {t:TypeId} {x y:IV} {k:IV→Option β} (h:B2 E t x y k=some r):∃v,Gh E .add t x y=some v∧k v=some r:=by
 unfold B2 at h;rcases EO h with ⟨a,rfl,g'⟩ | h
 ·replace h:=g';clear g';rcases EO h with ⟨b,rfl,g'⟩ | h
  ·replace h:=g';clear g';cases hc:Nat.ble (a+b) 9223372036854775807 with
   | false=>rw [hc] at h;exact Eu h
   | true =>
    rw [hc] at h;simp only [cond,Dk] at h;refine ⟨_,?_,h⟩;have e:IntKind.i64.wrap ((a:Int)+(b:Int))=((a+b:Nat):Int):=by
     rw [← Int.natCast_add];exact Wb (Bd hc)
    show some (IV.fv (.int .i64 (IntKind.i64.wrap ((a:Int)+(b:Int)))))=_
    rw [e]
  ·exact Eu h
 ·exact Eu h
theorem AgL {t:TypeId} {x y:IV} {k:IV→Option β} (h:Bg E t x y k=some r):∃v,Gh E .sub t x y=some v∧k v=some r:=by
 unfold Bg at h;rcases EO h with ⟨a,rfl,g'⟩ | h
 ·replace h:=g';clear g';rcases EO h with ⟨b,rfl,g'⟩ | h
  ·replace h:=g';clear g';cases hc:(and (Nat.ble b a) (Nat.ble a 9223372036854775807)) with
   | false=>rw [hc] at h;exact Eu h
   | true =>
    rw [hc] at h;simp only [cond,Dk] at h;refine ⟨_,?_,h⟩;have hc:(Nat.ble b a && Nat.ble a 9223372036854775807)=true:=hc;simp only [Bool.and_eq_true] at hc;have h1:=Bd hc.1;have h2:=Bd hc.2;have e:IntKind.i64.wrap ((a:Int) - (b:Int))=((a - b:Nat):Int):=by
     rw [← Int.natCast_sub h1];exact Wb (by omega)
    show some (IV.fv (.int .i64 (IntKind.i64.wrap ((a:Int) - (b:Int)))))=_
    rw [e]
  ·exact Eu h
 ·exact Eu h
theorem Hl {t:TypeId} {op:BinOp} {g:Nat→Nat→Bool} (hg:∀a b:Nat,Gh E op t (.fv (.int .i64 a)) (.fv (.int .i64 b))=some (.fv (.bool (g a b)))) {x y:IV} {k:IV→Option β}
  (h:OL E t op g x y k=some r):∃v,Gh E op t x y=some v∧k v=some r:=by
 unfold OL at h;rcases EO h with ⟨a,rfl,g'⟩ | h
 ·replace h:=g';clear g';rcases EO h with ⟨b,rfl,g'⟩ | h
  ·replace h:=g';clear g';rw [Rw] at h;exact ⟨_,hg a b,h⟩
  ·exact Eu h
 ·exact Eu h
theorem Hm (a b:Nat):Nat.beq a b=decide (a=b):=by
 cases h:Nat.beq a b with
 | true=>rw [Dm h];simp
 | false =>
  have:a≠b:=fun e=>by rw [e,show Nat.beq b b=true from Nat.beq_refl b] at h;cases h
  simp [this]
theorem BG (a b:Nat):Nat.ble a b=decide (a≤b):=by
 cases h:Nat.ble a b with
 | true=>have:=Bd h;simp [this]
 | false =>
  have:¬ a≤b:=fun e=>by rw [Nat.ble_eq_true_of_le e] at h;cases h
  simp [this]
theorem Acw {t:TypeId} {op:BinOp} {x y:IV} {k:IV→Option β} (h:AeZ E t op x y k=some r):∃v,Gh E op t x y=some v∧k v=some r:=by
 cases op with
 | add=>exact AgO h
 | sub=>exact AgL h
 | eql =>
  refine Hl (fun a b=>?_) h
  show some (IV.fv (.bool ((a:Int) == (b:Int))))=_
  rw [Hm];congr 3;exact decide_eq_decide.2 Int.ofNat_inj
 | neq =>
  refine Hl (fun a b=>?_) h
  show some (IV.fv (.bool ((a:Int) != (b:Int))))=_
  rw [Hm];congr 3
  show (!decide ((a:Int)=(b:Int)))=!decide (a=b)
  congr 1;exact decide_eq_decide.2 Int.ofNat_inj
 | lss =>
  refine Hl (fun a b=>?_) h
  show some (IV.fv (.bool (decide ((a:Int)<(b:Int)))))=_
  rw [BG];congr 3;exact decide_eq_decide.2 (by omega)
 | leq =>
  refine Hl (fun a b=>?_) h
  show some (IV.fv (.bool (decide ((a:Int)≤(b:Int)))))=_
  rw [BG];congr 3;exact decide_eq_decide.2 (by omega)
 | gtr =>
  refine Hl (fun a b=>?_) h
  show some (IV.fv (.bool (decide ((a:Int) > (b:Int)))))=_
  rw [BG];congr 3;exact decide_eq_decide.2 (by omega)
 | geq =>
  refine Hl (fun a b=>?_) h
  show some (IV.fv (.bool (decide ((a:Int) ≥ (b:Int)))))=_
  rw [BG];congr 3;exact decide_eq_decide.2 (by omega)
 | _=>exact Eu h
theorem Acz {s d:TypeId} {x:IV} {si:TI} {a b:Nat} {z:List IV} (h1:E.T s=some si) (h2:E.T d=some ⟨a,b,.int .i64,z⟩) {k:IV→Option β} (h:UT E s d x k=some r) :
  ∃v,Ju E s d x=some v∧k v=some r:=by
 have hg:Dw (Ju E s d x) k=some r→∃v,Ju E s d x=some v∧k v=some r:=fun h=>by rw [Co] at h;exact Bk h
 unfold UT at h;rcases EO h with ⟨n,rfl,g'⟩ | h
 ·replace h:=g';clear g';cases hc:Nat.ble n 9223372036854775807 with
  | false=>rw [hc] at h;exact hg h
  | true =>
   rw [hc] at h;simp only [cond,Dk] at h;refine ⟨_,?_,h⟩;simp only [Ju,h1,h2];rw [Wb (Bd hc)]
 ·exact hg h
theorem Ai6 {t:TypeId} {a:Operand} (h:H0 E ih' f rid i dr ρ (.load t a) hp k=some r):Ga E ih f rid i ρ (.load t a) hp k r:=by
 simp only [H0,Bu] at h;cases ht:E.T t with
 | none=>rw [ht] at h;cases h
 | some ti =>
  rw [ht] at h;simp only at h;cases hag:ti.kind.isAgg with
  | true =>
   rw [hag] at h;simp only [cond,Ag] at h;rcases Dc h with ⟨q,o,ha,h⟩ | ⟨cs,o,ha,h⟩
   ·rw [DU] at h;obtain ⟨b,hb,h⟩:=Bk h;obtain ⟨cells,ro,rfl,g'⟩:=FZ h;replace h:=g';clear g';rw [IR] at h;obtain ⟨h1,h⟩:=Dd h;rw [Jz] at h;obtain ⟨h2,h⟩:=Dd h;rw [PV] at h;refine ⟨_,hp,[q],[],⟨{ eff:={ val:=EF ((cells.drop o).take ti.size) } },?_,rfl,rfl,rfl⟩,h,fun q=>by cases q⟩;simp only [CJ,ht,ha,Rd.runLog,hb,B8,hag,if_true];rw [if_pos (by simp at h2;omega)];rfl
   ·rw [IR] at h;obtain ⟨h1,h⟩:=Dd h;rw [Jz] at h;obtain ⟨h2,h⟩:=Dd h;refine ⟨_,hp,[],[],⟨{ eff:={ val:=.fv (.agg ((cs.drop o).take ti.size)) } },?_,rfl,rfl,rfl⟩,h,fun q=>by cases q⟩;simp only [CJ,ht,ha,Bl,hag,if_true];rw [if_pos (by simp at h2;omega)];rfl
  | false =>
   rw [hag] at h;simp only [cond,Ak] at h;rcases Dc h with ⟨q,o,ha,h⟩ | ⟨cs,o,ha,h⟩
   ·rw [DU] at h;obtain ⟨b,hb,h⟩:=Bk h;obtain ⟨cells,ro,rfl,g'⟩:=FZ h;replace h:=g';clear g';rw [CS] at h;obtain ⟨v,hv,h⟩:=Bk h;refine ⟨_,hp,[q],[],⟨{ eff:={ val:=v } },?_,rfl,rfl,rfl⟩,h,fun q=>by cases q⟩;simp only [CJ,ht,ha,Rd.runLog,hb,B8,hag,Bool.false_eq_true,if_false,hv];rfl
   ·rw [CS] at h;obtain ⟨v,hv,h⟩:=Bk h;refine ⟨_,hp,[],[],⟨{ eff:={ val:=.fv v } },?_,rfl,rfl,rfl⟩,h,fun q=>by cases q⟩;simp only [CJ,ht,ha,Bl,hag,Bool.false_eq_true,if_false,hv];rfl
theorem WY (cells:List IV) (o:Nat) (v:IV):AW cells o [v]=cells.set o v:=rfl
theorem Ah0 {t:TypeId} {a x:Operand} (h:H0 E ih' f rid i dr ρ (.store t a x) hp k=some r):Ga E ih f rid i ρ (.store t a x) hp k r:=by
 simp only [H0,Bu] at h;cases ht:E.T t with
 | none=>rw [ht] at h;cases h
 | some ti =>
  rw [ht] at h;simp only at h;have key:∀q o cells,ρ a=.ptr q o→hp.get q=some (.row cells false) →
    ((ρ x).alive=true∧(ρ x).cells.length=ti.size∧o+ti.size≤cells.length∧(ρ x).cells.all IV.one=true∧FW q (ρ x)=true) →
    k .dead (hp.set q (.row (AW cells o (ρ x).cells) false)) [q] [q]=some r→Ga E ih f rid i ρ (.store t a x) hp k r:=by
   intro q o cells ha hb hc h;refine ⟨_,_,[q],[q],⟨{ eff:={ val:=.dead,upd:=[(q,.row (AW cells o (ρ x).cells) false)] } },?_,?_,rfl,rfl⟩,h,fun q=>by cases q⟩
   ·simp only [CJ,ht,ha,Rd.runLog,hb];rw [if_pos hc];rfl
   ·simp only [AN,laid,hb,Option.bind_some,Ct]
  have gen:Ah ti.size (ρ a) (ρ x) hp (fun h rd wr=>k .dead h rd wr)=some r→Ga E ih f rid i ρ (.store t a x) hp k r:=by
   intro h;simp only [Ah] at h;rcases Dc h with ⟨q,o,ha,h⟩ | ⟨cs,o,ha,h⟩
   ·rw [DU] at h;obtain ⟨b,hb,h⟩:=Bk h;obtain ⟨cells,rfl,g'⟩:=N8 h;replace h:=g';clear g';rcases Nh h with ⟨v,hx,h⟩ | h
    ·simp only [Gd] at h;split at h
     ·rename_i cs;obtain ⟨hc,h⟩:=Dn h;have hc:(Nat.beq cs.length ti.size && Ez cs)=true:=hc;simp only [Bool.and_eq_true] at hc;obtain ⟨h1,h⟩:=ML cells o cs h;rw [JB] at h;have hl:=Dm hc.1;refine key q o cells ha hb ⟨by rw [hx];rfl,by rw [hx];simp [IV.cells,hl],by omega,by rw [hx];exact Nd cs hc.2,by rw [hx];cases q<;>rfl⟩ ?_;rw [hx];exact h
     ·cases h
    ·obtain ⟨hc,h⟩:=Dd h;rw [GX,JB] at h;exact key q o cells ha hb hc h
   ·cases h
  cases hs:Nat.beq ti.size 1 with
  | true =>
   rw [hs] at h;have hs:=Dm hs;simp only [cond,Ck] at h;cases ho:(ρ x).one with
   | false =>
    rw [ho] at h;rw [← hs] at h;exact gen h
   | true =>
    rw [ho] at h;simp only at h;rcases Dc h with ⟨q,o,ha,h⟩ | ⟨cs,o,ha,h⟩
    ·rw [DU] at h;obtain ⟨b,hb,h⟩:=Bk h;obtain ⟨cells,rfl,g'⟩:=N8 h;replace h:=g';clear g';cases hc:FW q (ρ x) with
     | false=>rw [hc] at h;cases h
     | true =>
      rw [hc] at h;simp only at h;rw [XM] at h;obtain ⟨hlt,h⟩:=Dd h;rw [JB] at h;obtain ⟨c1,c2⟩:=J3 ho;refine key q o cells ha hb ⟨c2,by rw [c1,hs];rfl,by omega,by rw [c1];simp [ho],hc⟩ ?_;rw [c1,WY];exact h
    ·cases h
  | false =>
   rw [hs] at h;exact gen h
end
end Idl
end Go.Proofs.Ytdibmackcbpniaa
set_option linter.unusedSimpArgs false
namespace Go.Proofs.Ytdibmackcbpniaa
namespace Idl
section
variable {β:Type} {E:Env} {ih ih':Aa} {f rid i:Nat} {dr:Bool} {ρ:Operand→IV} {hp:Hp} {k:IV→Hp→List Ref→List Ref→Option β} {r:β}
theorem Oq {size o:Nat} {cs:List IV} {k:IV→Option β} (h:(Fa cs o fun cs=>FP cs size fun cs=>NL cs k)=some r) :
  B8 true size o cs=some (EF ((cs.drop o).take size))∧k (EF ((cs.drop o).take size))=some r:=by
 rw [IR] at h;obtain ⟨h1,h⟩:=Dd h;rw [Jz] at h;obtain ⟨h2,h⟩:=Dd h;rw [PV] at h;refine ⟨?_,h⟩;simp only [B8,if_true];rw [if_pos (by simp at h2;omega)]
theorem LZ {size o:Nat} {cs:List FV} {k:IV→Option β} (h:(Fa cs o fun cs=>FP cs size fun cs=>k (.fv (.agg cs)))=some r) :
  Bl true size o cs=some (.agg ((cs.drop o).take size))∧k (.fv (.agg ((cs.drop o).take size)))=some r:=by
 rw [IR] at h;obtain ⟨h1,h⟩:=Dd h;rw [Jz] at h;obtain ⟨h2,h⟩:=Dd h;refine ⟨?_,h⟩;simp only [Bl,if_true];rw [if_pos (by simp at h2;omega)]
theorem AhS {s:TypeId} {x:Operand} {fd:Nat} (h:H0 E ih' f rid i dr ρ (.field s x fd) hp k=some r):Ga E ih f rid i ρ (.field s x fd) hp k r:=by
 simp only [H0,Bu] at h;cases hf:GP E s fd with
 | none=>rw [hf] at h;cases h
 | some p =>
  obtain ⟨o,ti⟩:=p;rw [hf] at h;simp only at h;cases hag:ti.kind.isAgg with
  | true =>
   rw [hag] at h;simp only [cond,Ajx] at h;rcases Tt h with ⟨cs,hx,h⟩ | ⟨cs,hx,h⟩
   ·obtain ⟨h1,h2⟩:=Oq (k:=fun v=>k v hp [] []) h;exact AT (by simp only [CJ,hf,hx,hag,h1];rfl) h2
   ·obtain ⟨h1,h2⟩:=LZ (k:=fun v=>k v hp [] []) h;exact AT (by simp only [CJ,hf,hx,hag,h1];rfl) h2
  | false =>
   rw [hag] at h;simp only [cond,Akg] at h;rcases Tt h with ⟨cs,hx,h⟩ | ⟨cs,hx,h⟩
   ·rw [CS] at h;obtain ⟨v,hv,h⟩:=Bk h;exact AT (by simp only [CJ,hf,hx,hag,B8,Bool.false_eq_true,if_false,hv];rfl) h
   ·rw [CS] at h;obtain ⟨v,hv,h⟩:=Bk h;exact AT (by simp only [CJ,hf,hx,hag,Bl,Bool.false_eq_true,if_false,hv];rfl) h
theorem Ty {s:TypeId} {x:Operand} {fd:Nat} (h:H0 E ih' f rid i dr ρ (.fieldAddr s x fd) hp k=some r):Ga E ih f rid i ρ (.fieldAddr s x fd) hp k r:=by
 simp only [H0,Bu] at h;cases hf:GP E s fd with
 | none=>rw [hf] at h;cases h
 | some p =>
  obtain ⟨o,ti⟩:=p;rw [hf] at h;simp only [Gw] at h;by_cases hs:ti.size=0
  ·rw [if_pos hs] at h;cases h
  ·rw [if_neg hs] at h;unfold Ae at h;rcases Dc h with ⟨q,off,hx,h⟩ | ⟨cs,off,hx,h⟩
   ·rw [BU] at h;exact AT (by simp only [CJ,hf,hx,if_neg hs]) h
   ·rw [BU] at h;exact AT (by simp only [CJ,hf,hx,if_neg hs]) h
theorem Am2 {x:Operand} (h:H0 E ih' f rid i dr ρ (.nilCheck x) hp k=some r):Ga E ih f rid i ρ (.nilCheck x) hp k r:=by
 simp only [H0,Bu] at h;unfold AU at h;split at h
 ·rename_i hx;exact AT (by simp only [CJ,hx]) h
 ·rename_i hx;unfold Al2 at h;split at h
  ·exact AT (by simp only [CJ,hx]) h
  ·unfold Agn at h;split at h
   ·exact AT (by simp only [CJ,hx]) h
   ·cases h
  ·cases h
 ·rename_i hx;unfold Agn at h;split at h
  ·exact AT (by simp only [CJ,hx]) h
  ·cases h
 ·cases h
theorem AbZ {x:Operand} {ix:Nat} (h:H0 E ih' f rid i dr ρ (.extract x ix) hp k=some r):Ga E ih f rid i ρ (.extract x ix) hp k r:=by
 simp only [H0,Bu] at h;unfold AA at h;split at h
 ·rename_i hx;rw [CS] at h;obtain ⟨v,hv,h⟩:=Bk h;exact AT (by simp only [CJ,hx,hv];rfl) h
 ·rename_i hx;simp only [Anf] at h;split at h
  ·rw [CS] at h;obtain ⟨v,hv,h⟩:=Bk h;exact AT (by simp only [CJ,hx,hv];rfl) h
  ·cases h
 ·cases h
theorem Aj6 {c a b:Operand} (h:H0 E ih' f rid i dr ρ (.pick c a b) hp k=some r):Ga E ih f rid i ρ (.pick c a b) hp k r:=by
 simp only [H0,AG] at h;obtain ⟨t,hc,h⟩:=Ur h;cases t with
 | true=>exact AT (by simp only [CJ,hc];rfl) h
 | false=>exact AT (by simp only [CJ,hc];rfl) h
theorem SR {t:TypeId} {x ix:Operand} (h:H0 E ih' f rid i dr ρ (.indexAddr t x ix) hp k=some r):Ga E ih f rid i ρ (.indexAddr t x ix) hp k r:=by
 simp only [H0,Bu] at h;split at h
 ·rename_i e z ht;split at h
  ·rename_i ei he;unfold Bh at h;obtain ⟨kd,n,hi,h⟩:=QI h;rcases RA h with ⟨q,sz,len,hx,h⟩ | ⟨hx,h⟩
   ·obtain ⟨hc,h⟩:=Dn h;have hc:(Nat.ble (Nat.succ n) len && Nat.beq sz ei.size)=true:=hc;simp only [Bool.and_eq_true] at hc;have h1:=Bd hc.1;have h2:=Dm hc.2;rw [BU] at h;refine AT ?_ h;simp only [CJ,JU,ht,he,hi,hx];rw [if_pos ⟨by omega,by omega,h2⟩];rfl
   ·rw [WC] at h;obtain ⟨es,he2,h⟩:=Bk h;rw [CS] at h;obtain ⟨el,hel,h⟩:=Bk h;rw [Aew] at h;obtain ⟨hl,h⟩:=Dd h;refine AT ?_ h;simp only [CJ,JU,ht,he,hi];cases hxx:ρ x with
    | slc q sz len=>exact absurd hxx (hx q sz len)
    | _ =>
     rw [hxx] at he2;simp only [he2];rw [if_neg (by omega)];simp only [Int.toNat_natCast,hel];rw [if_pos hl]
  ·cases h
 ·rename_i m e z ht;split at h
  ·rename_i ei he;unfold ixA at h;obtain ⟨kd,n,hi,h⟩:=QI h;obtain ⟨hc,h⟩:=Dn h;have hc:=Bd hc;have hlt:(0:Int)≤(n:Int)∧(n:Int)<(m:Int):=⟨by omega,by omega⟩;rcases Dc h with ⟨q,o,hx,h⟩ | ⟨cs,o,hx,h⟩
   ·rw [BU] at h;refine AT ?_ h;simp only [CJ,JU,ht,he,hi,hx];rw [if_pos hlt];rfl
   ·rw [BU] at h;refine AT ?_ h;simp only [CJ,JU,ht,he,hi,hx];rw [if_pos hlt];rfl
  ·cases h
 ·cases h
theorem AhK {t:TypeId} {x ix:Operand} (h:H0 E ih' f rid i dr ρ (.index t x ix) hp k=some r):Ga E ih f rid i ρ (.index t x ix) hp k r:=by
 simp only [H0,Bu] at h;split at h
 ·rename_i m e z ht;split at h
  ·rename_i ei he;cases hag:ei.kind.isAgg with
   | true=>rw [hag] at h;exact BD (by simp only [EY,ht,he,hag];rfl) rfl h
   | false =>
    rw [hag] at h;simp only [cond,Al4] at h;obtain ⟨kd,n,hi,h⟩:=QI h;obtain ⟨hc,h⟩:=Dn h;have hc:=Bd hc;rcases Nh h with ⟨v,hx,h⟩ | h
    ·simp only [Gd] at h;split at h
     ·rw [CS] at h;obtain ⟨w,hw,h⟩:=Bk h;refine AT ?_ h;simp only [CJ,ht,hi,hx,he];rw [if_pos ⟨by omega,by omega⟩];simp only [hag,Bl,Bool.false_eq_true,if_false,Int.toNat_natCast,hw];rfl
     ·cases h
    ·cases h
  ·cases h
 ·rename_i hn;refine BD ?_ rfl h;simp only [EY]
theorem Adl {z:List IV} {o sz:Nat} {v:IV} {k:List IV→Option β} (h:Kc z o sz v k=some r):(v.alive=true∧v.cells.length=sz∧o+sz≤z.length)∧k (AW z o v.cells)=some r:=by
 have one:v.one=true→(cond (Nat.beq sz 1) (IM z o v k) none)=some r→(v.alive=true∧v.cells.length=sz∧o+sz≤z.length)∧k (AW z o v.cells)=some r:=by
  intro ho h;obtain ⟨hs,h⟩:=Dn h;have hs:=Dm hs;rw [XM] at h;obtain ⟨hlt,h⟩:=Dd h;obtain ⟨c1,c2⟩:=J3 ho;refine ⟨⟨c2,by rw [c1,hs];rfl,by omega⟩,?_⟩;rw [c1,WY];exact h
 unfold Kc at h;rcases Nh h with ⟨w,rfl,g'⟩ | h
 ·replace h:=g';clear g';cases ho:Iu w with
  | true =>
   rw [ho] at h;exact one (by cases w<;>first | rfl | cases ho) h
  | false =>
   rw [ho] at h;simp only [cond,Gd] at h;split at h
   ·rename_i cs;cases hc:Nat.beq cs.length sz with
    | false=>rw [hc] at h;cases h
    | true =>
     rw [hc] at h;have hc:=Dm hc;obtain ⟨h1,h⟩:=ML z o cs h;exact ⟨⟨rfl,by simp [IV.cells,hc],by omega⟩,h⟩
   ·cases h
 ·unfold W1 at h;cases ho:v.one with
  | true=>rw [ho] at h;exact one ho h
  | false =>
   rw [ho] at h;simp only [cond] at h;obtain ⟨hc,h⟩:=Dd h;rw [GX] at h;exact ⟨hc,h⟩
theorem Uh:∀(pl:List (Nat×Operand)) (place:Nat→Option (Nat×Nat)) (l:List (Nat×Nat×Operand)) (z:List IV) {k:List IV→Option β},JE place pl=some l→MQ z (Abq ρ l) k=some r →
  ∃cells,Cw place z (pl.map fun (j,x)=>(j,ρ x))=some cells∧k cells=some r
 | [],place,l,z,k,hp,h=>by
  simp only [JE,Aq1] at hp;subst hp;exact ⟨z,rfl,h⟩
 | (j,x)::pl,place,l,z,k,hp,h=>by
  simp only [JE] at hp;cases hj:place j with
  | none=>rw [hj] at hp;cases hp
  | some os =>
   obtain ⟨o,s⟩:=os;rw [hj] at hp;simp only at hp;cases hpl:JE place pl with
   | none=>rw [hpl] at hp;cases hp
   | some l' =>
    rw [hpl] at hp;simp only [Aq1] at hp;subst hp;have h:(Kc z o s (ρ x) fun z=>MQ z (Abq ρ l') k)=some r:=h;simp only [Aq7,Cw,hj];obtain ⟨hc,h⟩:=Adl h;rw [if_pos hc];exact Uh pl place l' _ hpl h
theorem Ahl {t:TypeId} {parts:Array (Nat×Operand)} (h:H0 E ih' f rid i dr ρ (.build t parts) hp k=some r):Ga E ih f rid i ρ (.build t parts) hp k r:=by
 simp only [H0,Bu] at h;split at h
 ·rename_i fs z ht;split at h
  ·rename_i l hl;unfold BW at h;obtain ⟨cells,h1,h2⟩:=Uh _ _ _ _ hl h;rw [PV] at h2;refine AT ?_ h2;simp only [CJ,ht,h1];rfl
  ·cases h
 ·rename_i hn;refine BD ?_ rfl h;simp only [EY]
theorem AmC {t:TypeId} {x:Operand} (h:H0 E ih' f rid i dr ρ (.box t x) hp k=some r):Ga E ih f rid i ρ (.box t x) hp k r:=by
 simp only [H0,Bu] at h;have hg:E.pol.fzBox f rid i=true→CJ E ih f rid i ρ (.box t x)=MU true (Bb f rid i) (ρ x):=fun e=>by rw [Adv,e]
 cases hz:E.pol.fzBox f rid i with
 | true =>
  rw [hz] at h;simp only [cond,fzS] at h;rcases Nh h with ⟨v,hx,h⟩ | h
  ·simp only [Ank] at h;split at h
   ·rename_i cs;cases hc:Nat.ble cs.length 2000 with
    | false=>rw [hc] at h;exact BD rfl (hg hz) h
    | true =>
     rw [hc] at h;have hc:=Bd hc;have key:∀(n:Nat) (cs:List FV),cs.length<n→frzL n (cs.map .fv)=.ret (cs,[]):=by
      intro n
      induction n with
      | zero=>intro cs h;omega
      | succ n ih =>
       intro cs h;cases cs with
       | nil=>rfl
       | cons c cs =>
        cases n with
        | zero=>simp at h
        | succ n =>
         simp only [Aq7,frzL,CI,Rd.bind];rw [ih cs (by simp at h ⊢;omega)];rfl
     refine ⟨_,hp,[],[],⟨{ eff:={ val:=.fv (.fp cs 0),upd:=[] } },?_,rfl,rfl,rfl⟩,h,fun q=>by cases q⟩;simp only [CJ,hx,IV.alive,Bool.true_eq_false,if_false,hz,if_true,IV.cells,key 4096 cs (by omega)];rfl
   ·exact BD rfl (hg hz) h
  ·exact BD rfl (hg hz) h
 | false =>
  rw [hz] at h;simp only [cond,A4] at h;have key:∀cs,(ρ x).cells=cs→(ρ x).alive=true→AB (Bb f rid i) (.row cs false) (.ptr (.own (Bb f rid i)) 0) hp k=some r→Ga E ih f rid i ρ (.box t x) hp k r:=by
   intro cs hcs ha h;refine SO rfl ?_ h;simp only [CJ,ha,Bool.true_eq_false,if_false,hz,Bool.false_eq_true,hcs]
  cases ho:(ρ x).one with
  | true =>
   rw [ho] at h;obtain ⟨c1,c2⟩:=J3 ho;exact key _ c1 c2 h
  | false =>
   rw [ho] at h;simp only at h;obtain ⟨ha,h⟩:=Dn h;rw [GX] at h;exact key _ rfl ha h
theorem AcM {s d:TypeId} {x:Operand} (h:H0 E ih' f rid i dr ρ (.convert s d x) hp k=some r):Ga E ih f rid i ρ (.convert s d x) hp k r:=by
 simp only [H0,Bu] at h;split at h
 ·rename_i hs hd;obtain ⟨v,h1,h2⟩:=Acz hs hd h;exact AT (by simp only [CJ,h1];rfl) h2
 ·rw [Co] at h;exact NY rfl h
def Iso (E:Env) (ih:Aa) (g:FuncId) (args:List IV) (hp:Hp) (k:IV→Hp→List Ref→List Ref→Option β) (r:β):Prop :=
 ∃e rd hp',(Gl E ih g args).runLog hp []=some (e,rd)∧laid hp e.upd=some hp'∧k e.val hp' rd (Bj e.upd)=some r
theorem I3 (hi:∀f args h x,ih' f args h=some x→ih f args h=some x) {g:FuncId} {args:List IV} (h:Eh (E.pol.keep g) (E.pol.split g) (E.pol.raw g) ih' g args hp k=some r):Iso E ih g args hp k r:=by
 have hasked:∀args ext x,Ej (E.pol.split g) ih' g args ext=some x→asked E ih g args ext=some x:=by
  intro args ext x e;unfold Ej at e;unfold asked;split at e
  ·rename_i hs;rw [if_pos hs];split at e
   ·split at e
    ·rename_i hc;simp only [Bool.and_eq_true] at hc;have mono:∀{o o':Option (IV×Hp)},(∀x,o=some x→o'=some x)→B9 o=true→B9 o'=true:=by
      intro o o' hm h;cases o with
      | none=>cases h
      | some x=>rw [hm x rfl];exact h
     rw [if_pos (by rw [mono (hi _ _ _) hc.1,mono (hi _ _ _) hc.2];rfl)];exact e
    ·cases e
   ·rename_i hne
    have:=hi _ _ _ _ e
    split
    ·exact absurd rfl (fun e=>hne rfl e)
    ·exact this
  ·rename_i hs;rw [if_neg hs];exact hi _ _ _ _ e
 unfold Eh at h;split at h
 ·cases h
 rename_i vs rs u l1 h1;split at h
 ·cases h
 rename_i l l2 h2;split at h
 ·cases h
 rename_i vs' h3;split at h
 ·cases h
 rename_i ext h4;simp only [CR (Cv 3),CR CY] at h;split at h
 ·cases h
 rename_i res hp' h5;split at h
 ·cases h
 rename_i res1 h6;split at h
 ·cases h
 rename_i res2 h7;split at h
 ·cases h
 rename_i ext' h8;obtain ⟨hc,h⟩:=Dd h;split at h
 ·cases h
 rename_i hp2 h9;simp only [Ja,Cv] at h;refine ⟨{ val:=res2,upd:=u++(Bj l).zip ext' },l2,hp2,?_,h9,h⟩;simp only [Gl,Bn,h1,h2,Option.bind_some,h3,h4,hasked _ _ _ h5];rw [show GS E g res hp'=some res1 from h6]
 simp only [Option.bind_some,h7,h8];rw [if_pos hc];rfl
def Ajh (M:Nat) (g:FzK β):Prop:=∀v h lg e k r,g v h lg e k=some r→e=some r∨∃x u lg',(∀N,M≤N→(CI N v).runLog h lg=some ((x,u),lg'))∧(∀p∈u,∃s,p.1=Ref.own s)∧k x u lg'=some r
theorem Hh {M:Nat} {g:FzK β} (hg:Ajh M g):∀(l:List IV) h lg e k r,Ei g l h lg e k=some r →
  e=some r∨∃xs us lg',(∀N,M+l.length+1≤N→(frzL N l).runLog h lg=some ((xs,us),lg'))∧(∀p∈us,∃s,p.1=Ref.own s)∧k xs us lg'=some r
 | [],h,lg,e,k,r,hh=>.inr ⟨[],[],lg,fun N hN=>(by cases N with | zero=>simp at hN | succ N=>rfl),fun p hp=>(by cases hp),hh⟩
 | v::l,h,lg,e,k,r,hh=>by
  have hh:(g v h lg e fun y u lg=>Ei g l h lg e fun ys us lg=>PI u us fun w=>k (y::ys) w lg)=some r:=hh;rcases hg _ _ _ _ _ _ hh with h1 | ⟨x,u,lg1,h1,hu,hh⟩
  ·exact .inl h1
  ·rcases Hh hg l _ _ _ _ _ hh with h2 | ⟨xs,us,lg2,h2,hus,hh⟩
   ·exact .inl h2
   ·rw [Vz] at hh;refine .inr ⟨x::xs,u++us,lg2,fun N hN=>?_,fun p hp=>?_,hh⟩
    ·cases N with
     | zero=>simp at hN
     | succ N =>
      simp only [Aq5] at hN;simp only [frzL,Bn,h1 N (by omega),Option.bind_some,h2 N (by omega)];rfl
    ·rcases List.mem_append.1 hp with hp | hp
     ·exact hu p hp
     ·exact hus p hp
theorem LD:∀d,Ajh (β:=β) (310 * d) (F4 d)
 | 0=>fun v h lg e k r hh=>.inl hh
 | d+1=>by
  intro v h lg e k r hh;have ihd:Ajh (β:=β) (310 * d) (F4 d):=LD d;have one:∀{w:FV},(∀N,CI (N+1) v=.ret (w,[]))→k w [] lg=some r→e=some r∨∃x u lg',(∀N,310 * (d+1)≤N→(CI N v).runLog h lg=some ((x,u),lg'))∧(∀p∈u,∃s,p.1=Ref.own s)∧k x u lg'=some r:=by
   intro w hw hk;refine .inr ⟨w,[],lg,fun N hN=>?_,fun p hp=>(by cases hp),hk⟩;cases N with
   | zero=>omega
   | succ N=>rw [hw];rfl
  have own:∀{q:Ref} {e:Option β} {k:Nat→Option β},Vi q e k=some r→e=some r∨∃s,q=.own s∧k s=some r:=by
   intro q e k h;cases q with
   | own s=>exact .inr ⟨s,rfl,h⟩
   | ext j=>exact .inl h
  have cnd2:∀{c:Bool} {a e:Option β},cond c a e=some r→e=some r∨(c=true∧a=some r):=by
   intro c a e h;cases c with
   | true=>exact .inr ⟨rfl,h⟩
   | false=>exact .inl h
  cases v with
  | fv w=>exact one (fun _=>rfl) hh
  | nils=>exact one (fun _=>rfl) hh
  | emp=>exact one (fun _=>rfl) hh
  | clip es=>exact one (fun _=>rfl) hh
  | app q es=>exact one (fun _=>rfl) hh
  | dead=>exact .inl hh
  | tuple vs=>exact .inl hh
  | mapr q=>exact .inl hh
  | ptr q off =>
   have hh:(Vi q e fun s=>Ef (.own s) h fun b=>Ek b fun cells=>cond (Nat.ble cells.length 300) (Ei (F4 d) cells h (.own s::lg) e fun cs u lg=>k (.fp cs off) ((.own s,.row cells true)::u) lg) e)=some r:=hh;rcases own hh with h1 | ⟨s,rfl,g'⟩
   ·exact .inl h1
   ·replace hh:=g';clear g';rw [DU] at hh;obtain ⟨b,hb,hh⟩:=Bk hh;obtain ⟨cells,ro,hbb,hh⟩:=FZ hh;rcases cnd2 hh with h1 | ⟨hl,hh⟩
    ·exact .inl h1
    ·have hl:=Bd hl;rcases Hh ihd cells _ _ _ _ _ hh with h1 | ⟨xs,us,lg2,h2,hus,hh⟩
     ·exact .inl h1
     ·refine .inr ⟨_,_,_,fun N hN=>?_,fun p hp=>?_,hh⟩
      ·cases N with
       | zero=>omega
       | succ N =>
        simp only [CI,Rd.runLog,hb,hbb,Bn,h2 N (by omega),Option.bind_some]
      ·rcases List.mem_cons.1 hp with rfl | hp
       ·exact ⟨s,rfl⟩
       ·exact hus p hp
  | slc q sz len =>
   have hh:(Vi q e fun s=>Ef (.own s) h fun b=>Ek b fun cells=>cond (Nat.ble cells.length 300) (cond (or (Nat.beq sz 0) (not (Nat.ble (len * sz) cells.length))) none
    (Ei (F4 d) cells h (.own s::lg) e fun cs u lg=>chK sz len cs fun els=>k (.sl els) ((.own s,.row cells true)::u) lg)) e)=some r:=hh
   rcases own hh with h1 | ⟨s,rfl,g'⟩
   ·exact .inl h1
   ·replace hh:=g';clear g';rw [DU] at hh;obtain ⟨b,hb,hh⟩:=Bk hh;obtain ⟨cells,ro,hbb,hh⟩:=FZ hh;rcases cnd2 hh with h1 | ⟨hl,hh⟩
    ·exact .inl h1
    ·have hl:=Bd hl;cases hc:(or (Nat.beq sz 0) (not (Nat.ble (len * sz) cells.length))) with
     | true=>rw [hc] at hh;cases hh
     | false =>
      rw [hc] at hh;simp only [cond] at hh;have hc:(Nat.beq sz 0 || !Nat.ble (len * sz) cells.length)=false:=hc;simp only [Bool.or_eq_false_iff,Bool.not_eq_false'] at hc;have c1:sz≠0:=fun e=>by rw [e] at hc;exact absurd hc.1 (by decide)
      have c2:=Bd hc.2;rcases Hh ihd cells _ _ _ _ _ hh with h1 | ⟨xs,us,lg2,h2,hus,hh⟩
      ·exact .inl h1
      ·have hh:=AfG sz len _ hh;refine .inr ⟨_,_,_,fun N hN=>?_,fun p hp=>?_,hh⟩
       ·cases N with
        | zero=>omega
        | succ N =>
         simp only [CI,Rd.runLog,hb,hbb];rw [if_neg (by omega)];simp only [Bn,h2 N (by omega),Option.bind_some,Rd.runLog]
       ·rcases List.mem_cons.1 hp with rfl | hp
        ·exact ⟨s,rfl⟩
        ·exact hus p hp
  | agg cs =>
   have hh:cond (Nat.ble cs.length 300) (Ei (F4 d) cs h lg e fun cs u lg=>k (.agg cs) u lg) e=some r:=hh;rcases cnd2 hh with h1 | ⟨hl,hh⟩
   ·exact .inl h1
   ·have hl:=Bd hl;rcases Hh ihd cs _ _ _ _ _ hh with h1 | ⟨xs,us,lg2,h2,hus,hh⟩
    ·exact .inl h1
    ·refine .inr ⟨_,_,_,fun N hN=>?_,hus,hh⟩;cases N with
     | zero=>omega
     | succ N=>simp only [CI,Bn,h2 N (by omega),Option.bind_some,Rd.runLog]
  | func fn a b =>
   have hh:cond (and (Nat.ble a.length 300) (Nat.ble b.length 300)) (Ei (F4 d) a h lg e fun x u lg=>Ei (F4 d) b h lg e fun y v lg=>PI u v fun w=>k (.func fn x y) w lg) e=some r:=hh;rcases cnd2 hh with h1 | ⟨hl,hh⟩
   ·exact .inl h1
   ·have hl:(Nat.ble a.length 300 && Nat.ble b.length 300)=true:=hl;simp only [Bool.and_eq_true] at hl;have l1:=Bd hl.1;have l2:=Bd hl.2;rcases Hh ihd a _ _ _ _ _ hh with h1 | ⟨xs,us,lg2,h2,hus,hh⟩
    ·exact .inl h1
    ·rcases Hh ihd b _ _ _ _ _ hh with h1 | ⟨ys,vs,lg3,h3,hvs,hh⟩
     ·exact .inl h1
     ·rw [Vz] at hh;refine .inr ⟨_,_,_,fun N hN=>?_,fun p hp=>?_,hh⟩
      ·cases N with
       | zero=>omega
       | succ N=>simp only [CI,Bn,h2 N (by omega),h3 N (by omega),Option.bind_some,Rd.runLog]
      ·rcases List.mem_append.1 hp with hp | hp
       ·exact hus p hp
       ·exact hvs p hp
def JV (m:Nat) (l:List Ref):Prop:=∀r∈l,∃j,r=.ext j∧j<m
theorem VR:∀(args:List IV) (keep:List Bool) h lg e k r,fzA (β:=β) args keep h lg e k=some r →
  e=some r∨∃vs rs us lg',(Bm keep args).runLog h lg=some ((vs,rs,us),lg')∧(∀p∈us,∃s,p.1=Ref.own s)∧(IV.refs.refsL vs=rs)∧k vs rs us lg'=some r
 | [],keep,h,lg,e,k,r,hh=>.inr ⟨[],[],[],lg,by cases keep<;>rfl,fun p hp=>(by cases hp),rfl,hh⟩
 | x::l,keep,h,lg,e,k,r,hh=>by
  have fz:∀ks,(F4 12 x h lg e fun y u lg=>fzA l ks h lg e fun vs rs us lg=>PI u us fun w=>k (.fv y::vs) rs w lg)=some r →
    e=some r∨∃vs rs us lg',((CI 4096 x).bind fun (x,u)=>(Bm ks l).bind fun (vs,rs,u')=>Rd.ret (IV.fv x::vs,rs,u++u')).runLog h lg=some ((vs,rs,us),lg')∧(∀p∈us,∃s,p.1=Ref.own s)∧(IV.refs.refsL vs=rs)∧k vs rs us lg'=some r:=by
   intro ks hh;rcases LD 12 _ _ _ _ _ _ hh with h1 | ⟨y,u,lg1,h1,hu,hh⟩
   ·exact .inl h1
   ·rcases VR l ks _ _ _ _ _ hh with h2 | ⟨vs,rs,us,lg2,h2,hus,hrs,hh⟩
    ·exact .inl h2
    ·rw [Vz] at hh;refine .inr ⟨_,_,_,_,?_,fun p hp=>?_,?_,hh⟩
     ·simp only [Bn,h1 4096 (by decide),Option.bind_some,h2,Rd.runLog]
     ·rcases List.mem_append.1 hp with hp | hp
      ·exact hu p hp
      ·exact hus p hp
     ·simp only [IV.refs.refsL,IV.refs,List.nil_append,hrs]
  cases keep with
  | nil=>exact fz [] hh
  | cons b ks =>
   cases b with
   | false=>exact fz ks hh
   | true =>
    have hh:(Ec x (fun q o=>fzA l ks h lg e fun vs rs us lg=>k (.ptr q o::vs) (q::rs) us lg) fun _ _=>e)=some r:=hh;rcases Dc hh with ⟨q,o,hx,hh⟩ | ⟨cs,o,_,hh⟩
    ·rcases VR l ks _ _ _ _ _ hh with h2 | ⟨vs,rs,us,lg2,h2,hus,hrs,hh⟩
     ·exact .inl h2
     ·refine .inr ⟨_,_,_,_,?_,hus,?_,hh⟩
      ·simp only [Bm,Bn,h2,Option.bind_some,Rd.runLog,hx,IV.refs];rfl
      ·simp only [IV.refs.refsL,IV.refs,hrs];rfl
    ·exact .inl hh
mutual
theorem Ub:∀(v:IV) (acc:List Ref),Uz v acc=v.refs++acc
 | .dead,_=>rfl
 | .fv _,_=>rfl
 | .ptr _ _,_=>rfl
 | .slc _ _ _,_=>rfl
 | .nils,_=>rfl
 | .emp,_=>rfl
 | .clip _,_=>rfl
 | .app _ _,_=>rfl
 | .mapr _,_=>rfl
 | .func _ a b,acc=>by
  show Cx a (Cx b acc)=(IV.refs.refsL a++IV.refs.refsL b)++acc
  rw [refsDL_eq,refsDL_eq,List.append_assoc]
 | .agg cs,acc=>refsDL_eq cs acc
 | .tuple cs,acc=>refsDL_eq cs acc
theorem refsDL_eq:∀(l:List IV) (acc:List Ref),Cx l acc=IV.refs.refsL l++acc
 | [],_=>rfl
 | v::l,acc=>by
  show Uz v (Cx l acc)=(v.refs++IV.refs.refsL l)++acc
  rw [Ub,refsDL_eq,List.append_assoc]
end
theorem Je (b:Blk):El b=b.refs:=by
 cases b with
 | row cells ro =>
  show Cx cells []=_
  rw [refsDL_eq,List.append_nil];rfl
 | tok _ _=>rfl
 | map es =>
  show _=IV.refs.refsL (es.map (·.2))
  induction es with
  | nil=>rfl
  | cons p es ih =>
   obtain ⟨n,v⟩:=p
   show Uz v (El (.map es))=v.refs++_
   rw [Ub];congr 1
mutual
theorem Ak5 {g:Ref→Option Ref}:∀(v:IV),(∀r∈v.refs,g r=some r)→v.ren g=some v
 | .dead,_=>rfl
 | .fv _,_=>rfl
 | .nils,_=>rfl
 | .emp,_=>rfl
 | .clip _,_=>rfl
 | .ptr r o,h=>by simp only [IV.ren,h r (by simp [IV.refs]),Aq4]
 | .slc r sz n,h=>by simp only [IV.ren,h r (by simp [IV.refs]),Aq4]
 | .app r es,h=>by simp only [IV.ren,h r (by simp [IV.refs]),Aq4]
 | .mapr r,h=>by simp only [IV.ren,h r (by simp [IV.refs]),Aq4]
 | .func fn a b,h=>by
  have h1:=renL_id (g:=g) a (fun r hr=>h r (by simp only [IV.refs,List.mem_append];exact .inl hr));have h2:=renL_id (g:=g) b (fun r hr=>h r (by simp only [IV.refs,List.mem_append];exact .inr hr));simp only [IV.ren,h1,h2,Option.bind_some,Aq4]
 | .agg cs,h=>by
  have h1:=renL_id (g:=g) cs h;simp only [IV.ren,h1,Aq4]
 | .tuple cs,h=>by
  have h1:=renL_id (g:=g) cs h;simp only [IV.ren,h1,Aq4]
theorem renL_id {g:Ref→Option Ref}:∀(l:List IV),(∀r∈IV.refs.refsL l,g r=some r)→IV.ren.renL g l=some l
 | [],_=>rfl
 | v::l,h=>by
  have h1:=Ak5 (g:=g) v (fun r hr=>h r (by simp only [IV.refs.refsL,List.mem_append];exact .inl hr));have h2:=renL_id (g:=g) l (fun r hr=>h r (by simp only [IV.refs.refsL,List.mem_append];exact .inr hr));simp only [IV.ren.renL,h1,h2,Option.bind_some,Aq4]
end
theorem Ae9 {α γ:Type}:∀(l:List (α×γ)),(l.map (·.1)).zip (l.map (·.2))=l
 | []=>rfl
 | p::l=>by simp only [Aq7,List.zip_cons_cons,Ae9 l]
theorem Akp {g:Ref→Option Ref} (b:Blk) (h:∀r∈b.refs,g r=some r):b.ren g=some b:=by
 cases b with
 | row cells ro=>simp only [Blk.ren,renL_id cells h,Aq4]
 | tok _ _=>rfl
 | map es =>
  have e:=renL_id (g:=g) (es.map (fun p:Int×IV=>p.2)) h;simp only [Blk.ren,e,Aq4,Ae9]
theorem PX {g:Ref→Option Ref}:∀(l:List Blk),(∀b∈l,∀r∈b.refs,g r=some r)→AZ g l=some l
 | [],_=>rfl
 | b::l,h=>by
  simp only [AZ,Akp b (h b List.mem_cons_self),Option.bind_some,PX l (fun c hc=>h c (List.mem_cons_of_mem _ hc)),Aq4]
def BC:Nat→List Blk→List (Ref×Blk)
 | _,[]=>[]
 | s,b::l=>(.ext s,b)::BC (s+1) l
theorem NW:∀(s:Nat) (l:List Blk) (b:Blk),BC s (l++[b])=BC s l++[(.ext (s+l.length),b)]
 | s,[],b=>rfl
 | s,c::l,b=>by
  simp only [List.cons_append,BC,NW (s+1) l b,Aq5];rw [show s+1+l.length=s+(l.length+1) by omega]
theorem N9:∀(s:Nat) (l:List Blk),(BC s l).map (·.2)=l
 | _,[]=>rfl
 | s,b::l=>by simp only [BC,Aq7,N9 (s+1) l]
theorem J2:∀(s:Nat) (l:List Blk),(BC s l).length=l.length
 | _,[]=>rfl
 | s,b::l=>by simp only [BC,Aq5,J2 (s+1) l]
theorem JW:∀(s j:Nat) (l:List Blk),s≤j→hasRef (.ext j) (BC s l)=decide (j<s+l.length)
 | s,j,[],h=>by simp only [BC,hasRef,List.length_nil];rw [decide_eq_false (by omega)]
 | s,j,b::l,h=>by
  simp only [BC,hasRef,Aq5];by_cases e:j=s
  ·subst e;simp
  ·rw [JW (s+1) j l (by omega),decide_eq_false (by simp [e]),Bool.false_or];congr 1;exact propext ⟨fun h=>by omega,fun h=>by omega⟩
theorem Oy:∀(s k:Nat) (l:List Blk),hasRef (.own k) (BC s l)=false
 | _,_,[]=>rfl
 | s,k,b::l=>by simp only [BC,hasRef,Oy (s+1) k l,Bool.or_false];exact decide_eq_false (by simp)
theorem J4:∀(s j i:Nat) (l:List Blk),s≤j→j<s+l.length→Cn (.ext j) (BC s l) i=some (i+(j - s))
 | s,j,i,[],h1,h2=>by simp at h2;omega
 | s,j,i,b::l,h1,h2=>by
  simp only [Aq5] at h2;simp only [BC,Cn];by_cases e:j=s
  ·subst e;simp
  ·rw [if_neg (by simp [e]),J4 (s+1) j (i+1) l (by omega) (by omega)];congr 1;omega
theorem Oa:∀(s j:Nat) (l:List Blk),j<l.length→((BC s l)[j]?).map (·.1)=some (.ext (s+j))
 | s,j,[],h=>by simp at h
 | s,0,b::l,h=>rfl
 | s,j+1,b::l,h=>by
  simp only [Aq5] at h;simp only [BC,List.getElem?_cons_succ];rw [Oa (s+1) j l (by omega)];congr 2;omega
theorem V1 (s:Nat):∀(l:List Blk),Bj (BC s l)=(List.range' s l.length).map .ext:=by
 intro l
 induction l generalizing s with
 | nil=>rfl
 | cons b l ih=>simp only [BC,Bj,Aq7,Aq5,List.range'_succ];exact congrArg _ (ih (s+1))
theorem AjH {own:List (Nat×Blk)} {ext:List Blk}:∀(n:Nat) (todo:List Ref) (s:Nat) (rest:List Blk),s≤ext.length→ext.drop s=rest→Nu n todo s rest=true →
  (∀N,n≤N→∀lg,(BY N todo (BC 0 (ext.take s))).runLog ⟨own,ext⟩ lg=some (BC 0 ext,((List.range' s (ext.length - s)).map Ref.ext).reverse++lg)) ∧
  JV ext.length todo∧(∀b∈rest,JV ext.length b.refs):=by
 intro n
 induction n with
 | zero=>intro todo s rest _ _ h;cases h
 | succ n ih =>
  intro todo s rest hs hd h;cases todo with
  | nil =>
   cases rest with
   | cons _ _=>cases h
   | nil =>
    have he:s=ext.length:=by
     have:=congrArg List.length hd
     simp at this;omega
    refine ⟨fun N hN lg=>?_,fun r hr=>(by cases hr),fun b hb=>(by cases hb)⟩;cases N with
    | zero=>omega
    | succ N =>
     subst he;simp only [BY,Rd.runLog,List.take_length,Nat.sub_self,List.range'_zero,Aq6,List.reverse_nil,List.nil_append]
  | cons r t =>
   cases r with
   | own k=>cases h
   | ext j =>
    have h:cond (Nat.ble (Nat.succ j) s) (Nu n t s rest) (cond (Nat.beq j s) (goR (Nu n) t s rest) false)=true:=h;have hl:(ext.take s).length=s:=by simp;omega
    cases hj:Nat.ble (Nat.succ j) s with
    | true =>
     rw [hj] at h;have hj:=Bd hj;obtain ⟨h1,h2,h3⟩:=ih t s rest hs hd h;refine ⟨fun N hN lg=>?_,fun r hr=>?_,h3⟩
     ·cases N with
      | zero=>omega
      | succ N =>
       simp only [BY];rw [JW 0 j _ (Nat.zero_le _),hl,decide_eq_true (by omega),if_pos rfl];exact h1 N (by omega) lg
     ·rcases List.mem_cons.1 hr with rfl | hr
      ·exact ⟨j,rfl,by omega⟩
      ·exact h2 r hr
    | false =>
     rw [hj] at h;simp only [cond] at h;have hj':¬ j<s:=fun e=>by rw [Nat.ble_eq_true_of_le (Nat.succ_le_of_lt e)] at hj;cases hj
     cases hb:Nat.beq j s with
     | false=>rw [hb] at h;cases h
     | true =>
      rw [hb] at h;have hb:=Dm hb;subst hb;simp only at h;cases rest with
      | nil=>cases h
      | cons b rest =>
       have h:Nu n (t++El b) (Nat.succ j) rest=true:=h;have hjl:j<ext.length:=by
        have:=congrArg List.length hd
        simp at this;omega
       have hgb:ext[j]?=some b:=by
        rw [← List.head?_drop,hd];rfl
       have hd':ext.drop (j+1)=rest:=by rw [← List.tail_drop,hd];rfl
       obtain ⟨h1,h2,h3⟩:=ih (t++El b) (j+1) rest (by omega) hd' h;rw [Je] at h1 h2;refine ⟨fun N hN lg=>?_,fun r hr=>?_,fun c hc=>?_⟩
       ·cases N with
        | zero=>omega
        | succ N =>
         simp only [BY];rw [JW 0 j _ (Nat.zero_le _),hl,decide_eq_false (by omega)];simp only [Bool.false_eq_true,if_false,Rd.runLog,Hp.get,hgb];have ht:BC 0 (ext.take j)++[(.ext j,b)]=BC 0 (ext.take (j+1)):=by
          have:ext.take (j+1)=ext.take j++[b]:=by
           rw [List.take_add_one,hgb];rfl
          rw [this,NW,hl,Nat.zero_add]
         rw [ht,h1 N (by omega) (.ext j::lg)];rw [show ext.length - j=(ext.length - (j+1))+1 by omega,List.range'_succ]
         simp
       ·rcases List.mem_cons.1 hr with rfl | hr
        ·exact ⟨j,rfl,hjl⟩
        ·exact h2 r (List.mem_append_left _ hr)
       ·rcases List.mem_cons.1 hc with rfl | hc
        ·exact fun r hr=>h2 r (List.mem_append_right _ hr)
        ·exact h3 c hc
theorem Ae8 {m:Nat}:∀(l:List Ref),okR m l=true→JV m l
 | [],_=>fun r hr=>by cases hr
 | .own k::l,h=>by cases h
 | .ext j::l,h=>by
  have h:cond (Nat.ble (Nat.succ j) m) (okR m l) false=true:=h;cases hj:Nat.ble (Nat.succ j) m with
  | false=>rw [hj] at h;cases h
  | true =>
   rw [hj] at h;have hj:=Bd hj;intro r hr;rcases List.mem_cons.1 hr with rfl | hr
   ·exact ⟨j,rfl,by omega⟩
   ·exact Ae8 l h r hr
theorem Aep {m:Nat}:∀(l:List Blk),okB m l=true→∀b∈l,JV m b.refs
 | [],_=>fun b hb=>by cases hb
 | b::l,h=>by
  have h:cond (okR m (El b)) (okB m l) false=true:=h;cases hb:okR m (El b) with
  | false=>rw [hb] at h;cases h
  | true =>
   rw [hb] at h;rw [Je] at hb;intro c hc;rcases List.mem_cons.1 hc with rfl | hc
   ·exact Ae8 _ hb
   ·exact Aep l h c hc
theorem OF:∀(u:List (Ref×Blk)) (own:List (Nat×Blk)) (ext ext':List Blk) {k:Hp→Option β} {r:β},NG u ⟨own,ext'⟩ k=some r →
  ∃own2,laid ⟨own,ext⟩ u=some ⟨own2,ext⟩∧laid ⟨own,ext'⟩ u=some ⟨own2,ext'⟩∧k ⟨own2,ext'⟩=some r
 | [],own,ext,ext',k,r,h=>⟨own,rfl,rfl,h⟩
 | (q,b)::u,own,ext,ext',k,r,h=>by
  have h:(Vi q none fun s=>Ef (.own s) ⟨own,ext'⟩ fun _=>Gk (.own s) b ⟨own,ext'⟩ fun h=>NG u h k)=some r:=h;cases q with
  | ext j=>cases h
  | own s =>
   have h:(Ef (.own s) ⟨own,ext'⟩ fun _=>Gk (.own s) b ⟨own,ext'⟩ fun h=>NG u h k)=some r:=h;rw [DU] at h;obtain ⟨c,hc,h⟩:=Bk h;rw [JB] at h;obtain ⟨own2,h1,h2,h3⟩:=OF u (A5 s b own) ext ext' h;refine ⟨own2,?_,?_,h3⟩
   ·simp only [laid];rw [show (Hp.mk own ext).get (.own s)=some c from hc]
    exact h1
   ·simp only [laid];rw [hc];exact h2
theorem L0:∀(ext' pre ext:List Blk) (own:List (Nat×Blk)),ext.length=ext'.length→laid ⟨own,pre++ext⟩ (((List.range' pre.length ext'.length).map Ref.ext).zip ext')=some ⟨own,pre++ext'⟩
 | [],pre,ext,own,h=>by
  cases ext with
  | nil=>rfl
  | cons _ _=>cases h
 | b::ext',pre,ext,own,h=>by
  cases ext with
  | nil=>cases h
  | cons c ext =>
   simp only [Aq5,Nat.add_right_cancel_iff] at h;simp only [Aq5,List.range'_succ,Aq7,List.zip_cons_cons,laid,Hp.get];rw [List.getElem?_append_right (Nat.le_refl _),Nat.sub_self];simp only [List.getElem?_cons_zero,Hp.set];have e:(pre++c::ext).set pre.length b=(pre++[b])++ext:=by
    rw [List.set_append_right _ _ (Nat.le_refl _),Nat.sub_self];simp
   rw [e]
   have:=L0 ext' (pre++[b]) ext own h
   simp only [List.length_append,List.length_singleton] at this;rw [this];simp
theorem TS:∀(a b:List (Ref×Blk)) (h:Hp),laid h (a++b)=(laid h a).bind fun h=>laid h b
 | [],_,_=>rfl
 | (q,c)::a,b,h=>by
  simp only [List.cons_append,laid];cases h.get q with
  | none=>rfl
  | some _=>exact TS a b _
theorem Aag (hi:∀f args h x,ih' f args h=some x→ih f args h=some x) {g:FuncId} {args:List IV} (h:Am (E.pol.keep g) (E.pol.split g) (E.pol.raw g) ih' g args hp k=some r):Iso E ih g args hp k r:=by
 unfold Am at h;cases hc:(cond (E.pol.split g) true (E.pol.raw g)) with
 | true=>rw [hc] at h;exact I3 hi h
 | false =>
  rw [hc] at h;simp only [cond] at h;have hs:E.pol.split g=false:=by cases e:E.pol.split g with | false=>rfl | true=>rw [e] at hc;cases hc
  rw [hs] at hc;have hr:E.pol.raw g=false:=hc;rcases VR _ _ _ _ _ _ _ h with h1 | ⟨vs,rs,us,lg,hz,hus,hrs,h⟩
  ·exact I3 hi h1
  ·cases rs with
   | nil =>
    simp only at h;cases he:ih' g vs ⟨[],[]⟩ with
    | none=>rw [he] at h;cases h
    | some p =>
     obtain ⟨v,⟨own,ext⟩⟩:=p;rw [he] at h;cases ext with
     | cons b ext=>exact absurd (show (none:Option β)=some r from h) (by simp)
     | nil =>
      have h:(F4 12 v ⟨own,[]⟩ [] (Eh (E.pol.keep g) (E.pol.split g) (E.pol.raw g) ih' g args hp k) fun w _ _=>NG us hp fun h2=>k (.fv w) h2 lg (Bj us))=some r:=h;rcases LD 12 _ _ _ _ _ _ h with h1 | ⟨w,u2,lg2,h2,_,h⟩
      ·exact I3 hi h1
      ·obtain ⟨own0,ext0⟩:=hp;obtain ⟨own2,l1,l2,h⟩:=OF us own0 ext0 ext0 h;refine ⟨{ val:=.fv w,upd:=us },lg,⟨own2,ext0⟩,?_,l1,h⟩;have hw:=EV _ _ _ _ _ (h2 4096 (by decide));have hren:∀q,IV.ren.renL q vs=some vs:=fun q=>renL_id vs (fun r hr=>by rw [hrs] at hr;cases hr);simp only [Gl,Bn,hz,Option.bind_some,BY,Rd.runLog,hren,Aq6,AZ,asked,hs,Bool.false_eq_true,if_false,hi _ _ _ _ he,GS,hr,hw,Aq4,IV.ren,Rd.of];have hk:(Bj us).all (fun r=>!hasRef r [])=true:=List.all_eq_true.2 fun r _=>rfl;rw [if_pos ⟨rfl,hk⟩];simp only [Rd.runLog,Bj,Aq6,List.zip_nil_left,List.append_nil]
   | cons q rs =>
    obtain ⟨own0,ext0⟩:=hp;simp only at h;cases hg:Nu 400 (q::rs) 0 ext0 with
    | false=>rw [hg] at h;exact I3 hi h
    | true =>
     rw [hg] at h;simp only at h;obtain ⟨g1,g2,g3⟩:=AjH (own:=own0) 400 (q::rs) 0 ext0 (Nat.zero_le _) rfl hg;cases he:ih' g vs ⟨[],ext0⟩ with
     | none=>rw [he] at h;cases h
     | some p =>
      obtain ⟨v,⟨own,ext⟩⟩:=p;rw [he] at h;simp only at h;obtain ⟨ho,h⟩:=Dn h;have ho:(Nat.beq ext.length ext0.length && okB ext0.length ext)=true:=ho;simp only [Bool.and_eq_true] at ho;have hlen:=Dm ho.1;have hok:=Aep _ ho.2;rcases LD 12 _ _ _ _ _ _ h with h1 | ⟨w,u2,lg2,h2,_,h⟩
      ·exact I3 hi h1
      ·obtain ⟨own2,l1,l2,h⟩:=OF us own0 ext0 ext h;have hw:=EV _ _ _ _ _ (h2 4096 (by decide));have hin:∀l,JV ext0.length l→∀r∈l,EU (BC 0 ext0) r=some r:=by
        intro l hl r hr;obtain ⟨j,rfl,hj⟩:=hl r hr;simp only [EU];rw [J4 0 j 0 ext0 (Nat.zero_le _) (by omega)];simp
       have hbk:∀l,JV ext0.length l→∀r∈l,Cp (BC 0 ext0) r=some r:=by
        intro l hl r hr;obtain ⟨j,rfl,hj⟩:=hl r hr;simp only [Cp];rw [Oa 0 j ext0 hj,Nat.zero_add]
       have hv:IV.ren.renL (EU (BC 0 ext0)) vs=some vs:=renL_id vs (fun r hr=>hin _ g2 r (by rw [hrs] at hr;exact hr));have hb1:AZ (EU (BC 0 ext0)) ext0=some ext0:=PX ext0 (fun b hb r hr=>hin _ (g3 b hb) r hr);have hb2:AZ (Cp (BC 0 ext0)) ext=some ext:=PX ext (fun b hb r hr=>hbk _ (hok b hb) r hr);have hkeys:Bj (BC 0 ext0)=Dl ext0.length:=by rw [V1,Dl,List.range_eq_range']
       refine ⟨{ val:=.fv w,upd:=us++(Bj (BC 0 ext0)).zip ext },(Dl ext0.length).reverse++lg,⟨own2,ext⟩,?_,?_,?_⟩
       ·have hga:=g1 4096 (by decide) lg;simp only [List.take_zero,BC,Nat.sub_zero] at hga;simp only [Gl,Bn,hz,Option.bind_some,hga,N9,hv,hb1,asked,hs,Bool.false_eq_true,if_false,hi _ _ _ _ he,GS,hr,hw,Aq4,IV.ren,hb2];have hk:(Bj us).all (fun r=>!hasRef r (BC 0 ext0))=true:=List.all_eq_true.2 fun r hr=>by
         obtain ⟨p,hp,rfl⟩:=List.mem_map.1 hr;obtain ⟨s,e⟩:=hus p hp;rw [e,Oy];rfl
        rw [if_pos ⟨by rw [J2,hlen],hk⟩];simp only [Rd.of,Rd.runLog,Dl,List.range_eq_range']
       ·simp only;rw [TS,l1,Option.bind_some,hkeys,Dl,List.range_eq_range',← hlen];exact L0 ext [] ext0 own2 hlen.symm
       ·have hz2:Bj (us++(Bj (BC 0 ext0)).zip ext)=Bj us++Dl ext0.length:=by
         simp only [Bj,List.map_append];congr 1;rw [← hkeys];exact List.map_fst_zip (by simp only [Bj,List.length_map,J2];omega)
        simp only [hz2];exact h
def AcW (E:Env) (ih:Aa) (f rid i:Nat) (dr:Bool) (slots:List IV) (op:Op) (hp:Hp) (k:IV→Hp→List Ref→List Ref→Option β) (r:β):Prop :=
 (D3 E slots op=none∧Ga E ih f rid i (Az slots) op hp k r) ∨
 (dr=false∧EY E op=false∧∃g args v hp',D3 E slots op=some (g,args)∧ih g args hp=some (v,hp')∧k v hp' [] []=some r)
theorem QZ {g:Operand} {args:Array Operand} {ts:Array TypeId} {h':FuncId} {first cap:List IV} {slots:List IV} (hc:callee (Az slots g)=some (h',first,cap)) (hin:E.pol.inl h'=false)
  (h:Iso E ih h' (first++args.toList.map (Az slots)++cap) hp k r):AcW E ih f rid i dr slots (.call ⟨.value g,args,ts⟩) hp k r:=by
 obtain ⟨e,rd,hp',h1,h2,h3⟩:=h;refine .inl ⟨?_,e.val,hp',rd,Bj e.upd,⟨{ eff:=e },?_,?_,rfl,?_⟩,h3,fun q=>by cases q⟩
 ·simp only [D3,hc,hin,Bool.false_eq_true,if_false]
 ·simp only [CJ,hc,hin,Bool.false_eq_true,if_false,Rd.eff,Bn,h1,Option.bind_some,Rd.runLog]
 ·simp only [AN,h2,Option.bind_some,Ct]
 ·simp only [Hn,List.append_nil]
theorem AjK (hi:∀f args h x,ih' f args h=some x→ih f args h=some x) {slots:List IV} {c:Call} (h:H0 E ih' f rid i dr (Az slots) (.call c) hp k=some r):AcW E ih f rid i dr slots (.call c) hp k r:=by
 obtain ⟨cl,args,ts⟩:=c;simp only [H0,Bu] at h;cases cl with
 | invoke _ _=>cases h
 | builtin b =>
  refine .inl ⟨rfl,?_⟩;simp only [Vl,Bu] at h;split at h
  ·rename_i t x hts has;split at h
   ·rename_i e z ht;unfold BV at h;have hop:CJ E ih f rid i (Az slots) (.call ⟨.builtin .len,args,ts⟩)=AM E (Bb f rid i) (E.pol.rowApp f rid i) .len [t] [Az slots x]:=by
     simp only [CJ,hts,has];rfl
    rcases RA h with ⟨q,sz,n,hx,h⟩ | ⟨hx,h⟩
    ·rw [Dk] at h;exact AT (by rw [hop];simp only [AM,ht,hx]) h
    ·rw [WC] at h;obtain ⟨es,he,h⟩:=Bk h;rw [Dk] at h;refine AT (v:=.fv (.int .i64 es.length)) ?_ h;rw [hop];simp only [AM,ht];cases hxx:Az slots x with
     | slc q sz n=>exact absurd hxx (hx q sz n)
     | _=>rw [hxx] at he;simp only [he];rfl
   ·rename_i hn;refine BD ?_ rfl h;simp only [EY,hts,has]
  ·rename_i b0 b1 ts1 args1 hn;refine BD ?_ rfl h;cases b0 with
   | len =>
    simp only [EY];split
    ·rename_i hts has;exact absurd has (hn _ _ rfl hts)
    ·rfl
   | _=>rfl
 | value g =>
  simp only [Vl,Bu] at h;split at h
  ·rename_i g;have hc:callee (Az slots (.func g))=some (g,[],[]):=rfl;cases hin:E.pol.inl g with
   | true =>
    rw [hin] at h;cases dr with
    | true=>cases h
    | false =>
     simp only [cond,Amq] at h;cases he:ih' g (args.toList.map (Az slots)) hp with
     | none=>rw [he] at h;cases h
     | some p =>
      obtain ⟨v,hp'⟩:=p;rw [he] at h;refine .inr ⟨rfl,rfl,g,args.toList.map (Az slots),v,hp',?_,hi _ _ _ _ he,h⟩;simp only [D3,hc,hin,if_true,List.nil_append,List.append_nil]
   | false =>
    rw [hin] at h;refine QZ hc hin ?_;simp only [List.nil_append,List.append_nil];exact Aag hi h
  ·unfold ND at h;split at h
   ·cases h
   ·rename_i h' first cap hc
    cases hin:E.pol.inl h' with
    | true=>rw [hin] at h;cases h
    | false =>
     rw [hin] at h;simp only [cond,GX] at h;exact QZ hc hin (Aag hi h)
theorem Aja (hi:∀f args h x,ih' f args h=some x→ih f args h=some x) {slots:List IV} {op:Op} (h:H0 E ih' f rid i dr (Az slots) op hp k=some r):AcW E ih f rid i dr slots op hp k r:=by
 cases op with
 | call c=>exact AjK hi h
 | move x=>exact .inl ⟨rfl,AT rfl h⟩
 | assign x=>exact .inl ⟨rfl,AT rfl h⟩
 | pick c a b=>exact .inl ⟨rfl,Aj6 h⟩
 | alloc t =>
  refine .inl ⟨rfl,?_⟩;simp only [H0,Bu] at h;cases ht:E.T t with
  | none=>rw [ht] at h;cases h
  | some ti=>rw [ht] at h;exact SO rfl (by simp only [CJ,ht]) h
 | box t x=>exact .inl ⟨rfl,AmC h⟩
 | build t ps=>exact .inl ⟨rfl,Ahl h⟩
 | load t a=>exact .inl ⟨rfl,Ai6 h⟩
 | store t a x=>exact .inl ⟨rfl,Ah0 h⟩
 | nilCheck x=>exact .inl ⟨rfl,Am2 h⟩
 | binOp o t x y yt =>
  refine .inl ⟨rfl,?_⟩;simp only [H0,Bu] at h;obtain ⟨v,h1,h2⟩:=Acw h;exact AT (by simp only [CJ,h1];rfl) h2
 | unOp o t x =>
  refine .inl ⟨rfl,?_⟩;simp only [H0,Co] at h;exact NY rfl h
 | convert s d x=>exact .inl ⟨rfl,AcM h⟩
 | fieldAddr s x fd=>exact .inl ⟨rfl,Ty h⟩
 | field s x fd=>exact .inl ⟨rfl,AhS h⟩
 | indexAddr t x ix=>exact .inl ⟨rfl,SR h⟩
 | index t x ix=>exact .inl ⟨rfl,AhK h⟩
 | extract x ix=>exact .inl ⟨rfl,AbZ h⟩
 | makeMap t n=>cases n with
  | none=>exact .inl ⟨rfl,BD rfl rfl h⟩
  | some _=>cases h
 | buildSlice t n ps=>exact .inl ⟨rfl,BD rfl rfl h⟩
 | makeFunc fn a b=>exact .inl ⟨rfl,BD rfl rfl h⟩
 | insert t m j x=>exact .inl ⟨rfl,BD rfl rfl h⟩
 | mapUpdate t m j x=>exact .inl ⟨rfl,BD rfl rfl h⟩
 | lookup t m j ok=>exact .inl ⟨rfl,BD rfl rfl h⟩
 | makeSlice t l c=>exact .inl ⟨rfl,BD rfl rfl h⟩
 | slice t x lo hi mx=>exact .inl ⟨rfl,BD rfl rfl h⟩
 | _=>cases h
end
end Idl
end Go.Proofs.Ytdibmackcbpniaa
namespace Go.Proofs.Ytdibmackcbpniaa
namespace Idl
section
variable {β:Type}
def B5 (k:Nat) (F:(List IV→Hp→Option β)→List IV→Hp→Option β):List IV→Hp→Option β :=
 Nat.rec (motive:=fun _=>List IV→Hp→Option β) (fun _ _=>none) (fun _ rec=>F rec) k
def Ki (s:Nat) (l:List Nat):Bool:=List.rec (motive:=fun _=>Bool) false (fun x _ ih=>cond (Nat.beq s x) true ih) l
def EK (rm:List Nat) (l:List Ref):Bool:=List.rec (motive:=fun _=>Bool) true (fun r _ ih=>match r with
 | .own s=>cond (Ki s rm) false ih
 | .ext _=>ih) l
def GV (rm:List Nat) (own:List (Nat×Blk)):Bool:=List.rec (motive:=fun _=>Bool) true (fun p _ ih=>match p with
 | (s,b)=>cond (Ki s rm) ih (cond (EK rm (El b)) ih false)) own
def H8 (rm:List Nat) (ext:List Blk):Bool:=List.rec (motive:=fun _=>Bool) true (fun b _ ih=>cond (EK rm (El b)) ih false) ext
def Ahh (rm:List Nat) (own:List (Nat×Blk)):Bool:=List.rec (motive:=fun _=>Bool) false (fun p _ ih=>match p with
 | (s,_)=>cond (Ki s rm) true ih) own
def Tx (rm:List Nat) (own:List (Nat×Blk)) (k:List (Nat×Blk)→Option β):Option β :=
 List.rec (motive:=fun _=>(List (Nat×Blk)→Option β)→Option β) (fun k=>k []) (fun p _ ih k=>match p with
  | (s,b)=>cond (Ki s rm) (ih k) (ih fun l=>k ((s,b)::l))) own k
def BH (base rm:List Nat) (vals:List IV) (h:Hp) (k:Hp→Option β):Option β :=
 cond (
    rm.any base.contains) none (match h with
  | ⟨own,ext⟩=>cond (Ahh rm own)
   (cond (and (EK rm (Cx vals [])) (and (GV rm own) (H8 rm ext))) (Tx rm own fun own=>k ⟨own,ext⟩)
    (match Cu base [] rm ⟨vals,⟨own,ext⟩⟩ with
     | none=>none
     | some S=>fH S.hp k)) (k ⟨own,ext⟩))
def QH (d:Option Nat) (v:IV) (h:Hp) (T:FS):FS:=match d with
 | none=>⟨T.n,T.t,h⟩
 | some d=>cond (Nat.ble T.n d) ⟨T.n,T.t,h⟩ ⟨T.n,T.t.set d v,h⟩
abbrev SlT.setKK {α:Type} (t:SlT):Nat→IV→(SlT→α)→α :=
 SlT.rec (motive:=fun _=>Nat→IV→(SlT→α)→α) (fun j v i x k=>Bool.rec (motive:=fun _=>α) (k (.leaf j v)) (k (.leaf j x)) (Nat.beq i j))
  (fun m l r gl gr i x k=>Bool.rec (motive:=fun _=>α) (gl i x fun l'=>k (.node m l' r)) (gr i x fun r'=>k (.node m l r')) (Nat.ble m i)) t
abbrev Jq (d:Option Nat) (v:IV) (h:Hp) (T:FS) (K:FS→Option β):Option β :=
 FS.rec (motive:=fun _=>Option β) (fun n t _=>Option.rec (motive:=fun _=>Option β) (K ⟨n,t,h⟩) (fun d=>Sj (Nat.ble n d) (K ⟨n,t,h⟩) (t.setKK d v fun t=>K ⟨n,t,h⟩)) d) T
abbrev VG (args:List IV):Nat→FS→(FS→Option β)→Option β :=
 List.rec (motive:=fun _=>Nat→FS→(FS→Option β)→Option β) (fun _ T K=>K T) (fun v _ ih i T K=>Jq (some i) v T.hp T fun T=>ih (Nat.succ i) T K) args
abbrev TU (cs:List Nat):List IV→FS→(FS→Option β)→Option β :=
 List.rec (motive:=fun _=>List IV→FS→(FS→Option β)→Option β) (fun _ T k=>k T) (fun c _ ih vals T k=>AH vals fun v vals=>Jq (some c) v T.hp T fun T=>ih vals T k) cs
def Kf (r s:Ref):Bool:=match r with
 | .own i=>(match s with
  | .own j=>not (Nat.beq i j)
  | .ext _=>true)
 | .ext i=>(match s with
  | .own _=>true
  | .ext j=>not (Nat.beq i j))
def IW (r:Ref) (l:List Ref):Bool:=List.rec (motive:=fun _=>Bool) true (fun s _ ih=>cond (Kf r s) ih false) l
def UG (a b:List Ref):Bool:=List.rec (motive:=fun _=>Bool) true (fun r _ ih=>cond (IW r b) ih false) a
theorem Afu (r s:Ref):Kf r s=decide (r≠s):=by
 cases r<;>cases s<;>simp [Kf,Hm]
theorem Us (r:Ref):∀(l:List Ref),IW r l=l.all fun s=>decide (r≠s)
 | []=>rfl
 | s::l=>by
  rw [show IW r (s::l)=cond (Kf r s) (IW r l) false from rfl,Afu,Us r l,List.all_cons]
  cases decide (r≠s)<;>rfl
theorem Aec:∀(a b:List Ref),UG a b=Mn a b
 | [],_=>rfl
 | r::a,b=>by
  rw [show UG (r::a) b=cond (IW r b) (UG a b) false from rfl,Us,Aec a b]
  simp only [Mn,List.all_cons];cases (b.all fun s=>decide (r≠s))<;>rfl
def Ac (l:List (List Ref×List Ref)) (rd wr:List Ref) (a:Option β):Option β :=
 List.rec (motive:=fun _=>Option β) a (fun q _ ih=>match q with
  | (q1,q2)=>cond (UG q2 rd) (cond (UG q2 wr) (cond (UG wr q1) ih none) none) none) l
def RO (before:Nat) (done:List (Nat×List Ref×List Ref)):List (List Ref×List Ref) :=
 List.rec (motive:=fun _=>List (List Ref×List Ref)) [] (fun p _ ih=>match p with | (j,q)=>cond (before.testBit j) ih (q::ih)) done
section
variable (E:Env) (ih:Aa)
def Kg (f rid:Nat) (ops:Array Oper) (i:Nat) (o:Oper) (dr:Bool) (T:FS) (K:FS→List Ref→List Ref→Option β):Option β :=
 match o.guard with
 | none=>H0 E ih f rid i dr (GL T) o.op T.hp fun v h rd wr=>Jq o.dst v h T fun T=>K T rd wr
 | some (j,want)=>match (ops[j]?).bind (·.dst) with
  | none=>none
  | some d=>Sj (Nat.ble T.n d) none
   (Ab (T.get d) want T.hp (fun k=>H0 E ih f rid i dr (GL T) o.op T.hp k) fun v h rd wr=>Jq o.dst v h T fun T=>K T rd wr)
def AiR (f rid:Nat) (ops:Array Oper) (l:List Oper):Nat→FS→(FS→Option β)→Option β :=
 List.rec (motive:=fun _=>Nat→FS→(FS→Option β)→Option β) (fun _ T K=>K T) (fun o _ rec i T K=>Kg E ih f rid ops i o false T fun T _ _=>rec (Nat.succ i) T K) l
def XQ (f rid:Nat) (ops:Array Oper) (before:Array Nat) (l:List Oper):Nat→List (Nat×List Ref×List Ref)→FS→(FS→Option β)→Option β :=
 List.rec (motive:=fun _=>Nat→List (Nat×List Ref×List Ref)→FS→(FS→Option β)→Option β) (fun _ _ T K=>K T)
  (fun o _ rec i done T K=>Sj (EY E o.op) (Kg E ih f rid ops i o true T fun T _ _=>rec (Nat.succ i) done T K)
   (Kg E ih f rid ops i o true T fun T rd wr=>Ac (RO (before.getD i 0) done) rd wr (rec (Nat.succ i) ((i,rd,wr)::done) T K))) l
def CF (n:Nat) (kills:List Nat):List Nat:=(List.range n).filter fun i=>!kills.contains i
def Og (base kills rm:List Nat) (T:FS) (k:List IV→Hp→Option β):Option β :=
 match rm with
 | []=>k ((CF T.n kills).map T.get) T.hp
 | r::rm=>BH base (r::rm) ((CF T.n kills).map T.get) T.hp fun h=>k ((CF T.n kills).map T.get) h
def ER (f n:Nat) (base:List Nat):Code→FS→(Ex→FS→Option β)→Option β
 | .skip,T,K=>K .normal T
 | .region rid ops draw,T,K=>Sj draw (XQ E ih f rid ops (Region.before ops) ops.toList 0 [] T fun T=>K .normal T) (AiR E ih f rid ops ops.toList 0 T fun T=>K .normal T)
 | .seq a b,T,K=>ER f n base a T fun ex T=>match ex with
  | .normal=>ER f n base b T K
  | .exit j=>K (.exit j) T
  | .ret=>K .ret T
 | .cond c a b,T,K=>An (GL T c) (ER f n base a T K) (ER f n base b T K)
 | .block id c,T,K=>ER f n base c T fun ex T=>match ex with
  | .normal=>K .normal T
  | .exit j=>Sj (Nat.beq j id) (K .normal T) (K (.exit j) T)
  | .ret=>K .ret T
 | .loop c,T,K=>Og base (E.pol.head f (BZ c)).1 (E.pol.head f (BZ c)).2 T (B5 n fun rec vals h =>
   TU (CF T.n (E.pol.head f (BZ c)).1) vals ⟨T.n,dT 10 0 T.n,h⟩ fun T=>ER f n base c T fun ex T=>match ex with
    | .normal=>Og base (E.pol.head f (BZ c)).1 (E.pol.head f (BZ c)).2 T rec
    | .exit j=>K (.exit j) T
    | .ret=>K .ret T)
 | .exit id,T,K=>K (.exit id) T
 | .ret,T,K=>K .ret T
 | _,_,_=>none
def As (agg:Bool) (size:Nat) (a:IV) (h:Hp) (k:IV→Option β):Option β :=
 cond agg (Ag size a h fun v _=>k v) (Ak a h fun v _=>k v)
def Ab2 (T:FS) (rs:List ResultVar):List IV→(List IV→Option β)→Option β :=
 List.rec (motive:=fun _=>List IV→(List IV→Option β)→Option β) (fun acc k=>k acc) (fun v _ rec acc k=>match v with
  | .tmp t=>rec (acc++[T.get t]) k
  | .cell a t=>match E.T t with
   | none=>none
   | some ti=>As ti.kind.isAgg ti.size (T.get a) T.hp fun v=>rec (acc++[v]) k) rs
def Ao (vs:List IV) (h:Hp):Option (IV×Hp):=match vs with
 | [v]=>some (v,h)
 | vs=>Va vs fun v=>some (v,h)
def AC (FT:Nat→Option Func) (n f:Nat) (args:List IV) (h:Hp):Option (IV×Hp):=match FT f with
 | none=>none
 | some fn=>match fn.body with
  | none=>none
  | some c=>Sj (Nat.ble args.length fn.ntmps && Nat.ble fn.ntmps 1024)
   (VG args 0 ⟨fn.ntmps,dT 10 0 fn.ntmps,h⟩ fun T=>ER E ih f n (h.own.map (·.1)) c T fun ex T=>match ex with
    | .exit _=>none
    | .normal=>Ab2 E T fn.results.toList [] fun vs=>Ao vs T.hp
    | .ret=>Ab2 E T fn.results.toList [] fun vs=>Ao vs T.hp) none
end
end
end Idl
end Go.Proofs.Ytdibmackcbpniaa
set_option linter.unusedSimpArgs false
namespace Go.Proofs.Ytdibmackcbpniaa
namespace Idl
section
variable {β:Type} {E:Env} {ih ih':Aa} {f rid:Nat} {r:β}
theorem Qp (d:Option Nat) (v:IV) (h:Hp) (T:FS):QH d v h T=PM d v ⟨T.n,T.t,h⟩:=by cases d<;>rfl
theorem Wd (d:Option Nat) (v:IV) (h:Hp) (T:FS):(QH d v h T).n=T.n:=by
 cases d with
 | none=>rfl
 | some d =>
  show (cond (Nat.ble T.n d) (FS.mk T.n T.t h) ⟨T.n,T.t.set d v,h⟩).n=T.n
  cases Nat.ble T.n d<;>rfl
theorem Afp {α:Type} (t:SlT) (i:Nat) (x:IV) (k:SlT→α):t.setKK i x k=k (t.set i x):=by
 refine Eq.trans ?_ (YF t i x k)
 induction t generalizing k with
 | leaf j v =>
  show Bool.rec (k (.leaf j v)) (k (.leaf j x)) (Nat.beq i j)=cond (Nat.beq i j) (k (.leaf j x)) (k (.leaf j v))
  cases Nat.beq i j<;>rfl
 | node m l r ihl ihr =>
  show Bool.rec (l.setKK i x fun l'=>k (.node m l' r)) (r.setKK i x fun r'=>k (.node m l r')) (Nat.ble m i)=cond (Nat.ble m i) (r.setK i x fun r'=>k (.node m l r')) (l.setK i x fun l'=>k (.node m l' r))
  cases Nat.ble m i
  ·exact ihl _
  ·exact ihr _
theorem Nt (d:Option Nat) (v:IV) (h:Hp) (T:FS) (K:FS→Option β):Jq d v h T K=K (QH d v h T):=by
 obtain ⟨n,t,h0⟩:=T;cases d with
 | none=>rfl
 | some d =>
  show Sj (Nat.ble n d) (K ⟨n,t,h⟩) (t.setKK d v fun t=>K ⟨n,t,h⟩)=K (cond (Nat.ble n d) ⟨n,t,h⟩ ⟨n,t.set d v,h⟩)
  rw [Bu];cases Nat.ble n d
  ·simp only [cond];rw [Afp]
  ·rfl
theorem Oz:∀(args:List IV) (i:Nat) (T:FS) (K:FS→Option β),VG args i T K=WT args i T K
 | [],_,_,_=>rfl
 | v::l,i,T,K=>by
  show Jq (some i) v T.hp T (fun T=>VG l (Nat.succ i) T K)=Aeg (some i) v T fun T=>WT l (Nat.succ i) T K
  rw [Nt,Abx,Qp,Oz l]
theorem LN {T:FS} {S:St} (hr:Rep T S) (d:Option Nat) (v:IV) (h:Hp):Rep (QH d v h T) ⟨BT d v S.slots,h⟩:=by
 rw [Qp];exact AaR (T:=⟨T.n,T.t,h⟩) (S:=⟨S.slots,h⟩) ⟨rfl,hr.len,hr.has,hr.get⟩ d v
theorem L5 (hi:∀f args h x,ih' f args h=some x→ih f args h=some x) {ops:Array Oper} {i:Nat} {o:Oper} (ho:ops[i]?=some o) {dr:Bool} {T:FS} {S:St} (hr:Rep T S)
  {K:FS→List Ref→List Ref→Option β} (h:Kg E ih' f rid ops i o dr T K=some r) :
  ∃S' T' rd wr,step E ih f rid ops i S=some S'∧(dr=true→I0 E ih f rid ops i S=some (S',rd,wr))∧Rep T' S'∧T'.n=T.n∧K T' rd wr=some r∧(EY E o.op=true→rd=[]∧wr=[]):=by
 have done:CT ops S.slots o=some true→H0 E ih' f rid i dr (GL T) o.op T.hp (fun v h rd wr=>K (QH o.dst v h T) rd wr)=some r →
   ∃S' T' rd wr,step E ih f rid ops i S=some S'∧(dr=true→I0 E ih f rid ops i S=some (S',rd,wr))∧Rep T' S'∧T'.n=T.n∧K T' rd wr=some r∧(EY E o.op=true→rd=[]∧wr=[]):=by
  intro hw h;rw [Kd hr,← hr.hp] at h;rcases Aja hi h with ⟨hin,v,hp',rd,wr,⟨m,hm,hh,hv,hwr⟩,hk,hq⟩ | ⟨hdr,hq,g,args,v,hp',hin,he,hk⟩
  ·have ha:Dy (Bb f rid i) o.dst S m=some ⟨BT o.dst v S.slots,hp'⟩:=by simp only [Dy,hh,Aq4,hv]
   refine ⟨⟨BT o.dst v S.slots,hp'⟩,QH o.dst v hp' T,rd,wr,?_,fun _=>?_,LN hr o.dst v hp',Wd ..,hk,hq⟩
   ·simp only [step,ho,hw,hin,Dq];rw [EV _ _ _ _ _ hm];exact ha
   ·simp only [I0,ho,hw,hin,Dq,hm,ha,Aq4,hwr,Hn];rfl
  ·refine ⟨⟨BT o.dst v S.slots,hp'⟩,QH o.dst v hp' T,[],[],?_,fun e=>(by rw [hdr] at e;cases e),LN hr o.dst v hp',Wd ..,hk,fun q=>by rw [hq] at q;cases q⟩;simp only [step,ho,hw,hin,he,Aq4]
 have skip:CT ops S.slots o=some false→K (QH o.dst E4 T.hp T) [] []=some r →
   ∃S' T' rd wr,step E ih f rid ops i S=some S'∧(dr=true→I0 E ih f rid ops i S=some (S',rd,wr))∧Rep T' S'∧T'.n=T.n∧K T' rd wr=some r∧(EY E o.op=true→rd=[]∧wr=[]):=by
  intro hw h;refine ⟨_,_,[],[],?_,fun _=>?_,LN hr o.dst E4 T.hp,Wd ..,h,fun _=>⟨rfl,rfl⟩⟩
  ·simp only [step,ho,hw,← hr.hp]
  ·simp only [I0,ho,hw,← hr.hp]
 unfold Kg at h;have eK:(fun (v:IV) (h:Hp) (rd wr:List Ref)=>Jq o.dst v h T fun T=>K T rd wr)=fun v h rd wr=>K (QH o.dst v h T) rd wr:=by
  funext v h rd wr
  exact Nt o.dst v h T fun T=>K T rd wr
 rw [eK] at h;simp only [Bu] at h;cases hg:o.guard with
 | none =>
  rw [hg] at h;exact done (by simp only [CT,hg]) h
 | some jw =>
  obtain ⟨j,want⟩:=jw;rw [hg] at h;simp only at h;cases hd:(ops[j]?).bind (·.dst) with
  | none=>rw [hd] at h;cases h
  | some d =>
   rw [hd] at h;simp only at h;cases hb:Nat.ble T.n d with
   | true=>rw [hb] at h;cases h
   | false =>
    rw [hb] at h;simp only [cond] at h;have hdn:d<T.n:=Nat.lt_of_not_le fun h=>by rw [Nat.ble_eq_true_of_le h] at hb;cases hb
    have hs:S.slots[d]?=some (T.get d):=by
     rw [hr.at_,List.getD_eq_getElem?_getD,List.getElem?_eq_getElem (by rw [hr.len];exact hdn)];rfl
    have hw:CT ops S.slots o=match T.get d with
      | .fv (.bool b)=>some (b == want)
      | .fv (.tuple [])=>some false
      | _=>none:=by
     simp only [CT,hg,hd,Option.bind_some,hs];generalize T.get d=v;split
     ·rename_i e;simp only [Aq1] at e;subst e;rfl
     ·rename_i e;simp only [Aq1] at e;subst e;rfl
     ·rename_i h1 h2;split
      ·exact absurd rfl (h1 _)
      ·exact absurd rfl h2
      ·rfl
    unfold Ab at h;rcases Nh h with ⟨v,hv,h⟩ | h
    ·rw [hv] at hw;unfold AfQ at h;split at h
     ·rename_i b;have e:(b == want)=(cond want b (not b)):=by cases b<;>cases want<;>rfl
      cases hc:(cond want b (not b)) with
      | true =>
       rw [hc] at h;exact done (by rw [hw];simp only [e,hc]) h
      | false =>
       rw [hc] at h;exact skip (by rw [hw];simp only [e,hc]) h
     ·rename_i l;cases l with
      | nil=>exact skip hw h
      | cons _ _=>cases h
     ·cases h
    ·cases h
theorem AhM (hi:∀f args h x,ih' f args h=some x→ih f args h=some x) {ops:Array Oper}:∀(l:List Oper) (i:Nat),ops.toList.drop i=l→∀{T:FS} {S:St},Rep T S→∀{K:FS→Option β},AiR E ih' f rid ops l i T K=some r →
  ∃S' T',Iw E ih f rid ops (List.range' i l.length) S=some S'∧Rep T' S'∧T'.n=T.n∧K T'=some r:=by
 intro l
 induction l with
 | nil=>intro i _ T S hr K h;exact ⟨S,T,rfl,hr,rfl,h⟩
 | cons o l ihl =>
  intro i hd T S hr K h;have ho:ops[i]?=some o:=by
   have:ops.toList[i]?=some o:=by rw [← List.head?_drop,hd];rfl
   simpa using this
  have hd':ops.toList.drop (i+1)=l:=by rw [← List.tail_drop,hd];rfl
  have h:Kg E ih' f rid ops i o false T (fun T _ _=>AiR E ih' f rid ops l (Nat.succ i) T K)=some r:=h;obtain ⟨S1,T1,rd,wr,h1,_,h2,hn,h3,_⟩:=L5 hi ho hr h;obtain ⟨S',T',h4,h5,hn2,h6⟩:=ihl (i+1) hd' h2 h3;refine ⟨S',T',?_,h5,hn2.trans hn,h6⟩;rw [Aq5,List.range'_succ];simp only [Iw,h1,Option.bind_some];exact h4
theorem Aha {l:List (List Ref×List Ref)} {rd wr:List Ref} {a:Option β} (h:Ac l rd wr a=some r):(∀q∈l,clash q (rd,wr)=true)∧a=some r:=by
 induction l with
 | nil=>exact ⟨fun q hq=>(by cases hq),h⟩
 | cons p l ih =>
  obtain ⟨q1,q2⟩:=p;have h:cond (UG q2 rd) (cond (UG q2 wr) (cond (UG wr q1) (Ac l rd wr a) none) none) none=some r:=h;obtain ⟨h1,h⟩:=Dn h;obtain ⟨h2,h⟩:=Dn h;obtain ⟨h3,h⟩:=Dn h;rw [Aec] at h1 h2 h3;obtain ⟨h4,h5⟩:=ih h;refine ⟨fun q hq=>?_,h5⟩;rcases List.mem_cons.1 hq with rfl | hq
  ·simp only [clash,h1,h2,h3,Bool.and_self]
  ·exact h4 q hq
theorem Acj {b:Nat} {done:List (Nat×List Ref×List Ref)} {j:Nat} {q:List Ref×List Ref} (h:(j,q)∈done) (hj:b.testBit j=false):q∈RO b done:=by
 induction done with
 | nil=>cases h
 | cons p l ih =>
  obtain ⟨j',q'⟩:=p
  show q∈cond (b.testBit j') (RO b l) (q'::RO b l)
  rcases List.mem_cons.1 h with e | h
  ·simp only [Aq2] at e;obtain ⟨rfl,rfl⟩:=e;rw [hj];exact List.mem_cons_self
  ·cases b.testBit j' with
   | true=>exact ih h
   | false=>exact List.mem_cons_of_mem _ (ih h)
theorem Afk (hi:∀f args h x,ih' f args h=some x→ih f args h=some x) {ops:Array Oper} {before:Array Nat}:∀(l:List Oper) (i:Nat),ops.toList.drop i=l→∀{T:FS} {S:St} (done full:List (Nat×List Ref×List Ref)),
  (∀x∈full,x.2=([],[])∨x∈done)→Rep T S→∀{K:FS→Option β},XQ E ih' f rid ops before l i done T K=some r →
  ∃S' T',Ey E ih f rid ops before (List.range' i l.length) full S=some S'∧Rep T' S'∧T'.n=T.n∧K T'=some r:=by
 intro l
 induction l with
 | nil=>intro i _ T S done full _ hr K h;exact ⟨S,T,rfl,hr,rfl,h⟩
 | cons o l ihl =>
  intro i hd T S done full hf hr K h;have ho:ops[i]?=some o:=by
   have:ops.toList[i]?=some o:=by rw [← List.head?_drop,hd];rfl
   simpa using this
  have hd':ops.toList.drop (i+1)=l:=by rw [← List.tail_drop,hd];rfl
  have h:Sj (EY E o.op) (Kg E ih' f rid ops i o true T fun T _ _=>XQ E ih' f rid ops before l (Nat.succ i) done T K)
   (Kg E ih' f rid ops i o true T fun T rd wr=>Ac (RO (before.getD i 0) done) rd wr (XQ E ih' f rid ops before l (Nat.succ i) ((i,rd,wr)::done) T K))=some r:=h
  rw [Bu] at h;rw [Aq5,List.range'_succ];cases hq:EY E o.op with
  | true =>
   rw [hq] at h;simp only [cond] at h;obtain ⟨S1,T1,rd,wr,_,h1,h2,hn,h3,h4⟩:=L5 hi ho hr h;have h1:=h1 rfl;obtain ⟨rfl,rfl⟩:=h4 hq;obtain ⟨S',T',h4,h5,hn2,h6⟩:=ihl (i+1) hd' done ((i,[],[])::full) (fun x hx=>by
    rcases List.mem_cons.1 hx with rfl | hx
    ·exact .inl rfl
    ·exact hf x hx) h2 h3
   refine ⟨S',T',?_,h5,hn2.trans hn,h6⟩;simp only [Ey,h1]
   have:(full.all fun x=>(before.getD i 0).testBit x.1 || clash x.2 ([],[]))=true:=List.all_eq_true.2 fun x _=>by rw [AcF];simp
   rw [if_pos this];exact h4
  | false =>
   rw [hq] at h;simp only [cond] at h;obtain ⟨S1,T1,rd,wr,_,h1,h2,hn,h3,_⟩:=L5 hi ho hr h;have h1:=h1 rfl;obtain ⟨hc,h3⟩:=Aha h3;obtain ⟨S',T',h4,h5,hn2,h6⟩:=ihl (i+1) hd' ((i,rd,wr)::done) ((i,rd,wr)::full) (fun x hx=>by
    rcases List.mem_cons.1 hx with rfl | hx
    ·exact .inr List.mem_cons_self
    ·exact (hf x hx).imp id (List.mem_cons_of_mem _)) h2 h3
   refine ⟨S',T',?_,h5,hn2.trans hn,h6⟩;simp only [Ey,h1]
   have:(full.all fun x=>(before.getD i 0).testBit x.1 || clash x.2 (rd,wr))=true:=List.all_eq_true.2 fun x hx=>by
    rcases hf x hx with e | e
    ·rw [e,Aco];simp
    ·cases hb:(before.getD i 0).testBit x.1 with
     | true=>rfl
     | false=>rw [hc x.2 (Acj (j:=x.1) e hb)];rfl
   rw [if_pos this];exact h4
theorem AdT (ks:List Nat) (l:List IV):(AR ks l).length=l.length:=by
 induction ks generalizing l with
 | nil=>rfl
 | cons i ks ih=>simp [AR,ih]
theorem Q0 (ks:List Nat) (l:List IV) (i:Nat) (hi:i<l.length):(AR ks l).getD i .dead=if i∈ks then .dead else l.getD i .dead:=by
 induction ks generalizing l with
 | nil=>simp [AR]
 | cons j ks ih =>
  rw [AR,ih _ (by simpa using hi)];by_cases h:i∈ks
  ·rw [if_pos h,if_pos (List.mem_cons_of_mem _ h)]
  ·rw [if_neg h];by_cases e:i=j
   ·subst e;rw [if_pos List.mem_cons_self,List.getD_eq_getElem?_getD,List.getElem?_set_self hi];rfl
   ·rw [if_neg (by simp [e,h]),List.getD_eq_getElem?_getD,List.getElem?_set_ne (Ne.symm e),← List.getD_eq_getElem?_getD]
structure AtHead (n:Nat) (kills:List Nat) (vals:List IV) (h:Hp) (S:St):Prop where
 len:S.slots.length=n
 hp:S.hp=h
 vals:vals=(CF n kills).map fun i=>S.slots.getD i .dead
 dead:∀i,i<n→i∈kills→S.slots.getD i .dead=.dead
theorem LF {n:Nat} {kills:List Nat} {i:Nat}:i∈CF n kills ↔ i<n∧i ∉ kills:=by
 simp [CF]
theorem HG {T:FS} {S:St} (hr:Rep T S) (kills:List Nat) (h:Hp):AtHead T.n kills ((CF T.n kills).map T.get) h ⟨AR kills S.slots,h⟩:=by
 refine ⟨by simp [AdT,hr.len],rfl,?_,fun i hi hk=>?_⟩
 ·apply List.map_congr_left;intro i hi
  have:=LF.1 hi
  rw [hr.at_];simp only;rw [Q0 _ _ _ (by rw [hr.len];exact this.1),if_neg this.2]
 ·simp only;rw [Q0 _ _ _ (by rw [hr.len];exact hi),if_pos hk]
theorem O0 {l:List IV}:∀(g:Nat→Bool) (n:Nat),l.length=n→(∀i,i<n→g i=false→l.getD i .dead=.dead) →
  IV.refs.refsL (((List.range n).filter g).map fun i=>l.getD i .dead)=IV.refs.refsL l:=by
 intro g n
 induction n generalizing l g with
 | zero=>intro hl _;cases l with | nil=>rfl | cons _ _=>cases hl
 | succ n ih =>
  intro hl hd;cases l with
  | nil=>cases hl
  | cons x l =>
   simp only [Aq5,Nat.add_right_cancel_iff] at hl;rw [List.range_succ_eq_map];have ih:=ih (l:=l) (fun i=>g (i+1)) hl (fun i hi hg=>by simpa using hd (i+1) (by omega) hg);have e:(((List.range n).map Nat.succ).filter g).map (fun i=>(x::l).getD i .dead)=(((List.range n).filter fun i=>g (i+1))).map fun i=>l.getD i .dead:=by
    rw [List.filter_map,List.map_map];rfl
   cases hg:g 0 with
   | true =>
    rw [List.filter_cons_of_pos hg,Aq7,e];simp only [IV.refs.refsL,ih];rfl
   | false =>
    rw [List.filter_cons_of_neg (by rw [hg];simp),e]
    have:x=.dead:=by simpa using hd 0 (by omega) hg
    subst this;simp only [IV.refs.refsL,ih];rfl
def Nb (rm:List Nat) (rs:List Ref) (h:Hp):Option Hp :=
 let held:=rs++(h.own.filter fun p=>!rm.contains p.1).flatMap (fun p=>p.2.refs)++h.ext.flatMap Blk.refs
 let gone:=rm.filter fun k=>!anyIn [k] held
 let h2:Hp:={ h with own:=h.own.filter fun p=>!gone.contains p.1 }
 if anyIn gone (rs++h2.own.flatMap (fun p=>p.2.refs)++h2.ext.flatMap Blk.refs) then none else some h2
theorem Ahe {α γ:Type} {c c':Bool} {y:α} (g:α→γ) (h:c=c'):(if c=true then none else some (g y))=(if c'=true then none else some y).map g:=by
 subst h;cases c<;>rfl
theorem GU {base kills rm:List Nat} {sl:List IV} {h:Hp} (hb:rm.any base.contains=false) (ha:(h.own.all fun p=>!rm.contains p.1)=false) :
  Cu base kills rm ⟨sl,h⟩=(Nb rm (IV.refs.refsL (AR kills sl)) h).map fun h'=>⟨AR kills sl,h'⟩:=by
 simp only [Cu,hb,ha,Bool.false_eq_true,if_false,CN,Nb];exact Ahe _ rfl
theorem NF {base rm:List Nat} {S1:St} {kills:List Nat} {sl:List IV} (hsl:IV.refs.refsL sl=IV.refs.refsL (AR kills S1.slots)) (hb:rm.any base.contains=false)
  (ha:(S1.hp.own.all fun p=>!rm.contains p.1)=false) {S:St} (h:Cu base [] rm ⟨sl,S1.hp⟩=some S):Cu base kills rm S1=some ⟨AR kills S1.slots,S.hp⟩:=by
 obtain ⟨s1,h1⟩:=S1;rw [GU hb ha] at h;rw [GU hb ha];simp only [AR] at h;rw [hsl] at h;cases hd:Nb rm (IV.refs.refsL (AR kills s1)) h1 with
 | none=>rw [hd] at h;cases h
 | some h' =>
  rw [hd] at h;simp only [Aq4,Aq1] at h;subst h;rfl
theorem Kz (s:Nat) (l:List Nat):Ki s l=l.contains s:=by
 induction l with
 | nil=>rfl
 | cons x l ih =>
  rw [show Ki s (x::l)=cond (Nat.beq s x) true (Ki s l) from rfl,Gw,ih,List.contains_cons]
  by_cases e:s=x
  ·subst e;simp
  ·rw [if_neg e];simp [e]
theorem E8 {rm:List Nat}:∀{l:List Ref},EK rm l=true→∀k∈rm,Ref.own k ∉ l
 | [],_,k,_,h=>by cases h
 | .ext j::l,h,k,hk,hm=>by
  rcases List.mem_cons.1 hm with e | hm
  ·cases e
  ·exact E8 (l:=l) h k hk hm
 | .own s::l,h,k,hk,hm=>by
  have h:cond (Ki s rm) false (EK rm l)=true:=h;cases hs:Ki s rm with
  | true=>rw [hs] at h;cases h
  | false =>
   rw [hs] at h;rcases List.mem_cons.1 hm with e | hm
   ·simp only [Ref.own.injEq] at e;subst e;rw [Kz] at hs;rw [List.contains_iff_mem.2 hk] at hs;cases hs
   ·exact E8 (l:=l) h k hk hm
theorem G4 {rm:List Nat}:∀{own:List (Nat×Blk)},GV rm own=true→∀k∈rm,Ref.own k ∉ (own.filter fun p=>!rm.contains p.1).flatMap fun p=>p.2.refs
 | [],_,k,_,h=>by cases h
 | (s,b)::own,h,k,hk,hm=>by
  have h:cond (Ki s rm) (GV rm own) (cond (EK rm (El b)) (GV rm own) false)=true:=h;rw [Kz,Je] at h;cases hs:rm.contains s with
  | true =>
   rw [hs] at h;rw [List.filter_cons_of_neg (by rw [hs];simp)] at hm;exact G4 (own:=own) h k hk hm
  | false =>
   rw [hs] at h;rw [List.filter_cons_of_pos (by rw [hs];rfl)] at hm;cases hf:EK rm b.refs with
   | false=>rw [hf] at h;cases h
   | true =>
    rw [hf] at h;simp only [List.flatMap_cons,List.mem_append] at hm;rcases hm with hm | hm
    ·exact E8 hf k hk hm
    ·exact G4 (own:=own) h k hk hm
theorem Mv {rm:List Nat}:∀{ext:List Blk},H8 rm ext=true→∀k∈rm,Ref.own k ∉ ext.flatMap Blk.refs
 | [],_,k,_,h=>by cases h
 | b::ext,h,k,hk,hm=>by
  have h:cond (EK rm (El b)) (H8 rm ext) false=true:=h;rw [Je] at h;cases hf:EK rm b.refs with
  | false=>rw [hf] at h;cases h
  | true =>
   rw [hf] at h;simp only [List.flatMap_cons,List.mem_append] at hm;rcases hm with hm | hm
   ·exact E8 hf k hk hm
   ·exact Mv (ext:=ext) h k hk hm
theorem K6 {rm:List Nat}:∀(own:List (Nat×Blk)),Ahh rm own=!(own.all fun p=>!rm.contains p.1)
 | []=>rfl
 | (s,b)::own=>by
  rw [show Ahh rm ((s,b)::own)=cond (Ki s rm) true (Ahh rm own) from rfl,Kz,K6 own,List.all_cons]
  cases rm.contains s<;>rfl
theorem GH {rm:List Nat}:∀(own:List (Nat×Blk)) (k:List (Nat×Blk)→Option β),Tx rm own k=k (own.filter fun p=>!rm.contains p.1)
 | [],_=>rfl
 | (s,b)::own,k=>by
  rw [show Tx rm ((s,b)::own) k=cond (Ki s rm) (Tx rm own k) (Tx rm own fun l=>k ((s,b)::l)) from rfl,Kz]
  cases hs:rm.contains s with
  | true=>rw [List.filter_cons_of_neg (by rw [hs];simp)];exact GH own k
  | false=>rw [List.filter_cons_of_pos (by rw [hs];rfl)];exact GH own _
theorem DB {ks:List Nat}:∀{l:List Ref},(∀k∈ks,Ref.own k ∉ l)→anyIn ks l=false
 | [],_=>rfl
 | .ext j::l,h=>DB (l:=l) fun k hk hm=>h k hk (List.mem_cons_of_mem _ hm)
 | .own s::l,h=>by
  simp only [anyIn,Bool.or_eq_false_iff];refine ⟨?_,DB (l:=l) fun k hk hm=>h k hk (List.mem_cons_of_mem _ hm)⟩;cases hc:ks.contains s with
  | false=>rfl
  | true=>exact absurd List.mem_cons_self (h s (List.contains_iff_mem.1 hc))
theorem Tz {rm:List Nat} {rs:List Ref} {own:List (Nat×Blk)} {ext:List Blk} (h1:∀k∈rm,Ref.own k ∉ rs) (h2:GV rm own=true) (h3:H8 rm ext=true) :
  Nb rm rs ⟨own,ext⟩=some ⟨own.filter fun p=>!rm.contains p.1,ext⟩:=by
 have h2:=G4 h2;have h3:=Mv h3;have hh:∀k∈rm,Ref.own k ∉ rs++(own.filter fun p=>!rm.contains p.1).flatMap (fun p=>p.2.refs)++ext.flatMap Blk.refs:=fun k hk hm=>by
  rcases List.mem_append.1 hm with hm | hm
  ·rcases List.mem_append.1 hm with hm | hm
   ·exact h1 k hk hm
   ·exact h2 k hk hm
  ·exact h3 k hk hm
 have hg:(rm.filter fun k=>!anyIn [k] (rs++(own.filter fun p=>!rm.contains p.1).flatMap (fun p=>p.2.refs)++ext.flatMap Blk.refs))=rm:=by
  apply List.filter_eq_self.2;intro k hk;rw [DB fun j hj hm=>hh j (by simp only [List.mem_singleton] at hj;rw [hj];exact hk) hm];rfl
 simp only [Nb,hg];rw [DB hh];rfl
theorem Sb {base kills rm:List Nat} {T:FS} {S:St} (hr:Rep T S) {k:List IV→Hp→Option β} (h:Og base kills rm T k=some r) :
  ∃S' vals hp,Cu base kills rm S=some S'∧AtHead T.n kills vals hp S'∧k vals hp=some r:=by
 unfold Og at h;split at h
 ·refine ⟨⟨AR kills S.slots,T.hp⟩,_,_,?_,HG hr kills T.hp,h⟩;simp [Cu,hr.hp]
 ·rename_i q rm;generalize hrm:q::rm=rm' at h ⊢;have hv:=HG hr kills S.hp;unfold BH at h;rw [← hr.hp] at h;cases hb:rm'.any base.contains with
  | true=>rw [hb] at h;cases h
  | false =>
   rw [hb] at h;obtain ⟨sl,hp0⟩:=S;obtain ⟨own,ext⟩:=hp0;simp only [cond] at h;have hsl:IV.refs.refsL ((CF T.n kills).map T.get)=IV.refs.refsL (AR kills sl):=by
    rw [hv.vals];exact O0 _ _ (by simpa using hv.len) (fun i hi hg=>hv.dead i hi (by simpa using hg))
   rw [K6] at h;cases ha:(own.all fun p=>!rm'.contains p.1) with
   | true =>
    rw [ha] at h;refine ⟨⟨AR kills sl,⟨own,ext⟩⟩,_,_,?_,hv,h⟩;simp only [Cu,hb,Bool.false_eq_true,if_false,ha,if_true]
   | false =>
    rw [ha] at h;simp only [Bool.not_false] at h;cases hf:(and (EK rm' (Cx ((CF T.n kills).map T.get) [])) (and (GV rm' own) (H8 rm' ext))) with
    | true =>
     rw [hf] at h;simp only at h;have hf:(EK rm' (Cx ((CF T.n kills).map T.get) []) && (GV rm' own && H8 rm' ext))=true:=hf;simp only [Bool.and_eq_true] at hf;rw [GH] at h;have h1:=E8 hf.1;rw [refsDL_eq,List.append_nil,hsl] at h1;refine ⟨⟨AR kills sl,⟨own.filter fun p=>!rm'.contains p.1,ext⟩⟩,_,_,?_,HG hr kills _,h⟩;rw [GU hb ha,Tz h1 hf.2.1 hf.2.2];rfl
    | false =>
     rw [hf] at h;simp only at h;split at h
     ·cases h
     ·rename_i S2 hd;rw [Ja] at h;exact ⟨⟨AR kills sl,S2.hp⟩,_,_,NF (S1:=⟨sl,⟨own,ext⟩⟩) (sl:=(CF T.n kills).map T.get) hsl hb ha hd,HG hr kills S2.hp,h⟩
theorem ZO:∀(cs:List Nat) (vals:List IV) (T:FS) {K:FS→Option β},(∀i∈cs,i<T.n)→(∀i,i<T.n→T.t.has i=true)→TU cs vals T K=some r →
  ∃T',T'.n=T.n∧T'.hp=T.hp∧(∀i,i<T.n→T'.t.has i=true)∧K T'=some r∧∀g:Nat→IV,vals=cs.map g→∀i,i<T.n→T'.t.get i=if i∈cs then g i else T.t.get i
 | [],vals,T,K,_,hh,h=>⟨T,rfl,rfl,hh,h,fun g _ i _=>by simp⟩
 | c::cs,vals,T,K,hc,hh,h=>by
  have h:AH vals (fun v vals=>Jq (some c) v T.hp T fun T=>TU cs vals T K)=some r:=h;have eK:(fun (v:IV) vals=>Jq (some c) v T.hp T fun T=>TU cs vals T K)=fun v vals=>TU cs vals (PM (some c) v T) K:=by
   funext v vals
   rw [Nt,Qp]
  rw [eK] at h;cases vals with
  | nil=>cases h
  | cons v vals =>
   have h:TU cs vals (PM (some c) v T) K=some r:=h;have hcn:c<T.n:=hc c List.mem_cons_self;have hput:PM (some c) v T=⟨T.n,T.t.set c v,T.hp⟩:=by
    simp only [PM];cases hb:Nat.ble T.n c with
    | true=>have:=Bd hb;omega
    | false=>rfl
   rw [hput] at h;obtain ⟨T',h1,h2,h3,h4,h5⟩:=ZO cs vals ⟨T.n,T.t.set c v,T.hp⟩ (fun i hi=>hc i (List.mem_cons_of_mem _ hi)) (fun i hi=>by rw [AaT];exact hh i hi) h;refine ⟨T',h1,h2,h3,h4,fun g hg i hi=>?_⟩;simp only [Aq7,List.cons.injEq] at hg;rw [h5 g hg.2 i hi];by_cases hm:i∈cs
   ·rw [if_pos hm,if_pos (List.mem_cons_of_mem _ hm)]
   ·rw [if_neg hm];simp only;rw [AaP _ _ _ (hh c hcn)];by_cases e:i=c
    ·subst e;rw [if_pos rfl,if_pos List.mem_cons_self,hg.1]
    ·rw [if_neg e,if_neg (by simp [e,hm])]
theorem AhX {n:Nat} (hn:n≤1024) {kills:List Nat} {vals:List IV} {h:Hp} {S:St} (ha:AtHead n kills vals h S) {K:FS→Option β} (e:TU (CF n kills) vals ⟨n,dT 10 0 n,h⟩ K=some r) :
  ∃T',T'.n=n∧Rep T' S∧K T'=some r:=by
 obtain ⟨T',h1,h2,h3,h4,h5⟩:=ZO (CF n kills) vals ⟨n,dT 10 0 n,h⟩ (fun i hi=>(LF.1 hi).1) (fun i hi=>(ZE 10 0 n i (by simpa using hn) (Nat.zero_le _) (by simpa using hi)).1) e;refine ⟨T',h1,⟨by rw [ha.hp,h2],by rw [ha.len,h1],fun i hi=>h3 i (by rw [h1] at hi;exact hi),fun i hi=>?_⟩,h4⟩;rw [h1] at hi;rw [h5 _ ha.vals i hi];by_cases hm:i∈CF n kills
 ·rw [if_pos hm]
 ·rw [if_neg hm];have hk:i∈kills:=Classical.byContradiction fun hk=>hm (LF.2 ⟨hi,hk⟩);rw [ha.dead i hi hk];exact (ZE 10 0 n i (by simpa using hn) (Nat.zero_le _) (by simpa using hi)).2
theorem AdN (hi:∀f args h x,ih' f args h=some x→ih f args h=some x) {n:Nat} {base:List Nat}:∀(c:Code) {T:FS} {S:St},Rep T S→T.n≤1024→∀{K:Ex→FS→Option β},ER E ih' f n base c T K=some r →
  ∃ex S' T',Db E ih f n base c S=some (ex,S')∧Rep T' S'∧T'.n=T.n∧K ex T'=some r:=by
 intro c
 induction c with
 | skip=>intro T S hr _ K h;exact ⟨_,S,T,rfl,hr,rfl,h⟩
 | region rid ops d =>
  intro T S hr _ K h;simp only [ER,Bu] at h;simp only [Db];rw [List.range_eq_range'];cases d with
  | true =>
   obtain ⟨S',T',h1,h2,h3,h4⟩:=Afk hi ops.toList 0 rfl [] [] (fun x hx=>by cases hx) hr h;simp only [Array.length_toList] at h1;exact ⟨_,S',T',by simp only [if_true,h1,Aq4],h2,h3,h4⟩
  | false =>
   obtain ⟨S',T',h1,h2,h3,h4⟩:=AhM hi ops.toList 0 rfl hr h;simp only [Array.length_toList] at h1;exact ⟨_,S',T',by simp only [Bool.false_eq_true,if_false,h1,Aq4],h2,h3,h4⟩
 | seq x y ihx ihy =>
  intro T S hr hl K h;simp only [ER,Bu] at h;obtain ⟨ex,S1,T1,h1,h2,hn,h3⟩:=ihx hr hl h;simp only [Db,h1];cases ex with
  | normal =>
   obtain ⟨ex,S2,T2,h4,h5,hn2,h6⟩:=ihy h2 (by rw [hn];exact hl) h3;exact ⟨ex,S2,T2,h4,h5,hn2.trans hn,h6⟩
  | exit j=>exact ⟨_,_,_,rfl,h2,hn,h3⟩
  | ret=>exact ⟨_,_,_,rfl,h2,hn,h3⟩
 | cond c x y ihx ihy =>
  intro T S hr hl K h;simp only [ER,Bu,Kd hr] at h;obtain ⟨t,ht,h⟩:=Ur h;cases t with
  | true=>simp only [Db,ht];exact ihx hr hl h
  | false=>simp only [Db,ht];exact ihy hr hl h
 | block id x ihx =>
  intro T S hr hl K h;simp only [ER,Bu] at h;obtain ⟨ex,S1,T1,h1,h2,hn,h3⟩:=ihx hr hl h;simp only [Db,h1];cases ex with
  | normal=>exact ⟨_,_,_,rfl,h2,hn,h3⟩
  | exit j =>
   simp only [Gw] at h3 ⊢;by_cases e:j=id
   ·rw [if_pos e] at h3;rw [if_pos e];exact ⟨_,_,_,rfl,h2,hn,h3⟩
   ·rw [if_neg e] at h3;rw [if_neg e];exact ⟨_,_,_,rfl,h2,hn,h3⟩
  | ret=>exact ⟨_,_,_,rfl,h2,hn,h3⟩
 | loop x ihx =>
  intro T S hr hl K h;simp only [ER,Bu] at h;simp only [Db];generalize (E.pol.head f (BZ x)).1=kills at h ⊢;generalize (E.pol.head f (BZ x)).2=rm at h ⊢;generalize hF:(fun (rec:List IV→Hp→Option β) vals h=>TU (CF T.n kills) vals ⟨T.n,dT 10 0 T.n,h⟩ fun T=>ER E ih' f n base x T fun ex T=>match ex with
   | .normal=>Og base kills rm T rec
   | .exit j=>K (.exit j) T
   | .ret=>K .ret T)=F at h
  have key:∀(k:Nat) (S1:St) (T1:FS),Rep T1 S1→T1.n=T.n→Og base kills rm T1 (B5 k F)=some r →
    ∃ex S' T',iterate (Cu base kills rm) (Db E ih f n base x) k S1=some (ex,S')∧Rep T' S'∧T'.n=T.n∧K ex T'=some r:=by
   intro k
   induction k with
   | zero =>
    intro S1 T1 hr1 hn1 h;obtain ⟨S2,vals,hp,_,_,h⟩:=Sb hr1 h;cases h
   | succ k ihk =>
    intro S1 T1 hr1 hn1 h;obtain ⟨S2,vals,hp,h1,h2,h⟩:=Sb hr1 h;have h:F (B5 k F) vals hp=some r:=h;rw [← hF] at h;rw [hn1] at h2;simp only at h;obtain ⟨T2,hn2,hr2,h⟩:=AhX hl h2 h;obtain ⟨ex,S3,T3,h3,hr3,hn3,h⟩:=ihx hr2 (by rw [hn2];exact hl) h;simp only [iterate,h1,Option.bind_some,h3];cases ex with
    | normal =>
     simp only at h;rw [hF] at h;exact ihk S3 T3 hr3 (hn3.trans hn2) h
    | exit j=>exact ⟨_,_,_,rfl,hr3,hn3.trans hn2,h⟩
    | ret=>exact ⟨_,_,_,rfl,hr3,hn3.trans hn2,h⟩
  exact key n S T hr rfl h
 | exit id=>intro T S hr _ K h;exact ⟨_,S,T,rfl,hr,rfl,h⟩
 | ret=>intro T S hr _ K h;exact ⟨_,S,T,rfl,hr,rfl,h⟩
 | _=>intro T S hr _ K h;simp only [ER,Bu] at h;cases h
theorem Adt {agg:Bool} {size:Nat} {a:IV} {hp:Hp} {k:IV→Option β} (h:As agg size a hp k=some r) :
  ∃v,(match a with
   | .ptr q off=>match hp.get q with
    | some (.row cells _)=>B8 agg size off cells
    | _=>none
   | .fv (.fp cells off)=>(Bl agg size off cells).map .fv
   | _=>none)=some v∧k v=some r:=by
 cases agg with
 | true =>
  have h:Ag size a hp (fun v _=>k v)=some r:=h;unfold Ag at h;rcases Dc h with ⟨q,o,rfl,g'⟩ | ⟨cs,o,rfl,g'⟩<;>replace h:=g'<;>clear g'
  ·rw [DU] at h;obtain ⟨b,hb,h⟩:=Bk h;obtain ⟨cells,ro,rfl,g'⟩:=FZ h;replace h:=g';clear g';obtain ⟨h1,h2⟩:=Oq h;exact ⟨_,by simp only [hb,h1],h2⟩
  ·obtain ⟨h1,h2⟩:=LZ h;exact ⟨_,by simp only [h1,Aq4],h2⟩
 | false =>
  have h:Ak a hp (fun v _=>k v)=some r:=h;unfold Ak at h;rcases Dc h with ⟨q,o,rfl,g'⟩ | ⟨cs,o,rfl,g'⟩<;>replace h:=g'<;>clear g'
  ·rw [DU] at h;obtain ⟨b,hb,h⟩:=Bk h;obtain ⟨cells,ro,rfl,g'⟩:=FZ h;replace h:=g';clear g';rw [CS] at h;obtain ⟨v,hv,h⟩:=Bk h;exact ⟨_,by simp only [hb,B8,Bool.false_eq_true,if_false,hv],h⟩
  ·rw [CS] at h;obtain ⟨v,hv,h⟩:=Bk h;exact ⟨_,by simp only [Bl,Bool.false_eq_true,if_false,hv,Aq4],h⟩
theorem OK {T:FS} {S:St} (hr:Rep T S):∀(rs:List ResultVar) (acc:List IV) {k:List IV→Option β},Ab2 E T rs acc k=some r→∃vs,Fc E S rs=some vs∧k (acc++vs)=some r
 | [],acc,k,h=>⟨[],rfl,by rw [List.append_nil];exact h⟩
 | .tmp t::rs,acc,k,h=>by
  have h:Ab2 E T rs (acc++[T.get t]) k=some r:=h;obtain ⟨vs,h1,h2⟩:=OK hr rs _ h;refine ⟨T.get t::vs,?_,by simpa using h2⟩;simp only [Fc,ID,Option.bind_some,h1,Aq4,hr.at_]
 | .cell a t::rs,acc,k,h=>by
  have h:(match E.T t with
   | none=>none
   | some ti=>As ti.kind.isAgg ti.size (T.get a) T.hp fun v=>Ab2 E T rs (acc++[v]) k)=some r:=h
  cases ht:E.T t with
  | none=>rw [ht] at h;cases h
  | some ti =>
   rw [ht] at h;obtain ⟨v,h1,h⟩:=Adt h;obtain ⟨vs,h2,h3⟩:=OK hr rs _ h;refine ⟨v::vs,?_,by simpa using h3⟩
   have:ID E S (.cell a t)=some v:=by
    simp only [ID,ht,← hr.at_,hr.hp];rw [← h1];cases T.get a with
    | fv w=>cases w<;>rfl
    | _=>rfl
   simp only [Fc,this,Option.bind_some,h2,Aq4]
theorem Agh {FT:Nat→Option Func} (hFT:∀f fn,FT f=some fn→E.P.funcs[f]?=some fn) {n:Nat} {sh:Aa} (hi:∀f args h x,sh f args h=some x→run E n f args h=some x) {args:List IV} {h:Hp} {x:IV×Hp}
  (e:AC E sh FT n f args h=some x):run E (n+1) f args h=some x:=by
 unfold AC at e;simp only [Bu] at e;simp only [run];cases hf:FT f with
 | none=>rw [hf] at e;cases e
 | some fn =>
  rw [hf] at e;rw [hFT f fn hf];simp only at e ⊢;cases hc:fn.body with
  | none=>rw [hc] at e;cases e
  | some c =>
   rw [hc] at e;simp only at e ⊢;obtain ⟨hl,e⟩:=Dn e;rw [Oz] at e;simp only [Bool.and_eq_true] at hl;have hl1:=Bd hl.1;have hl2:=Bd hl.2;have hrep0:Rep ⟨fn.ntmps,dT 10 0 fn.ntmps,h⟩ ⟨List.replicate fn.ntmps .dead,h⟩:=by
    refine ⟨rfl,by simp,fun i hi=>(ZE 10 0 fn.ntmps i (by simpa using hl2) (Nat.zero_le _) (by simpa using hi)).1,fun i hi=>?_⟩;rw [(ZE 10 0 fn.ntmps i (by simpa using hl2) (Nat.zero_le _) (by simpa using hi)).2,List.getD_eq_getElem?_getD,List.getElem?_replicate];simp [hi]
   obtain ⟨T0,h1,h2⟩:=AfA args 0 (K:=_) hrep0;rw [h1] at e;have hs:II args 0 (List.replicate fn.ntmps .dead)=args++List.replicate (fn.ntmps - args.length) .dead:=by
    apply List.ext_getElem?;intro j;rw [Kh _ _ _ _ (by simpa using hl1)];by_cases hj:j<args.length
    ·rw [if_pos (by omega),List.getElem?_append_left hj];simp
    ·rw [if_neg (by omega),List.getElem?_append_right (by omega),List.getElem?_replicate,List.getElem?_replicate];by_cases hj2:j<fn.ntmps
     ·rw [if_pos hj2,if_pos (by omega)]
     ·rw [if_neg hj2,if_neg (by omega)]
   simp only [hs] at h2;have hT0:T0.n≤1024:=by
    have:=h2.len
    simp at this;omega
   obtain ⟨ex,S',T',h3,h4,_,h5⟩:=AdN hi c h2 hT0 e;rw [h3];have hres:(Ab2 E T' fn.results.toList [] fun vs=>Ao vs T'.hp)=some x→(FY E S' fn.results.toList).map (fun v=>(v,S'.hp))=some x:=by
    intro h;obtain ⟨vs,h1,h⟩:=OK h4 _ _ h;rw [List.nil_append] at h;simp only [FY,h1,Aq4,h4.hp]
    match vs,h with
    | [],h=>simp only [Ao,X5] at h;exact h
    | [v],h=>exact h
    | v::w::l,h=>simp only [Ao,X5] at h;exact h
   cases ex with
   | exit j=>cases h5
   | normal=>exact hres h5
   | ret=>exact hres h5
end
end Idl
end Go.Proofs.Ytdibmackcbpniaa
namespace Go.Proofs.Ytdibmackcbpniaa
namespace Idl
section
variable {β:Type}
def SL {α:Type} (l:List α) (a:Option β):Option β:=List.casesOn (motive:=fun _=>Option β) l a fun _ _=>none
def NK (g:Hp→Option β) (args:List IV) (h:Hp):Option β:=SL args (g h)
def F5 (g:IV→Hp→Option β) (args:List IV) (h:Hp):Option β:=AH args fun a l=>SL l (g a h)
def ED (g:IV→IV→Hp→Option β) (args:List IV) (h:Hp):Option β:=AH args fun a l=>AH l fun b l=>SL l (g a b h)
def KX (g:IV→IV→IV→Hp→Option β) (args:List IV) (h:Hp):Option β:=AH args fun a l=>AH l fun b l=>AH l fun c l=>SL l (g a b c h)
def OA (g:IV→IV→IV→IV→Hp→Option β) (args:List IV) (h:Hp):Option β:=AH args fun a l=>AH l fun b l=>AH l fun c l=>AH l fun d l=>SL l (g a b c d h)
def ar5 (g:IV→IV→IV→IV→IV→Hp→Option β) (args:List IV) (h:Hp):Option β:=AH args fun a l=>AH l fun b l=>AH l fun c l=>AH l fun d l=>AH l fun e l=>SL l (g a b c d e h)
def ar6 (g:IV→IV→IV→IV→IV→IV→Hp→Option β) (args:List IV) (h:Hp):Option β:=AH args fun a l=>AH l fun b l=>AH l fun c l=>AH l fun d l=>AH l fun e l=>AH l fun f l=>SL l (g a b c d e f h)
theorem B4 {α:Type} {l:List α} {k:α→List α→Option β} {r:β} (h:AH l k=some r):∃a t,l=a::t∧k a t=some r:=by
 cases l with
 | nil=>cases h
 | cons a t=>exact ⟨a,t,rfl,h⟩
theorem Ih {α:Type} {l:List α} {a:Option β} {r:β} (h:SL l a=some r):l=[]∧a=some r:=by
 cases l with
 | nil=>exact ⟨rfl,h⟩
 | cons _ _=>cases h
variable {F:List IV→Hp→Option β} {args:List IV} {h:Hp} {r:β}
theorem AeW {g:Hp→Option β} (hg:∀h,F [] h=g h) (e:NK g args h=some r):F args h=some r:=by
 obtain ⟨rfl,e9⟩:=Ih e;rw [hg];exact e9
theorem Ca {g:IV→Hp→Option β} (hg:∀a h,F [a] h=g a h) (e:F5 g args h=some r):F args h=some r:=by
 obtain ⟨a,l1,rfl,e1⟩:=B4 e;obtain ⟨rfl,e9⟩:=Ih e1;rw [hg];exact e9
theorem BQ {g:IV→IV→Hp→Option β} (hg:∀a b h,F [a,b] h=g a b h) (e:ED g args h=some r):F args h=some r:=by
 obtain ⟨a,l1,rfl,e1⟩:=B4 e;obtain ⟨b,l2,rfl,e2⟩:=B4 e1;obtain ⟨rfl,e9⟩:=Ih e2;rw [hg];exact e9
theorem E5 {g:IV→IV→IV→Hp→Option β} (hg:∀a b c h,F [a,b,c] h=g a b c h) (e:KX g args h=some r):F args h=some r:=by
 obtain ⟨a,l1,rfl,e1⟩:=B4 e;obtain ⟨b,l2,rfl,e2⟩:=B4 e1;obtain ⟨c,l3,rfl,e3⟩:=B4 e2;obtain ⟨rfl,e9⟩:=Ih e3;rw [hg];exact e9
theorem Gz {g:IV→IV→IV→IV→Hp→Option β} (hg:∀a b c d h,F [a,b,c,d] h=g a b c d h) (e:OA g args h=some r):F args h=some r:=by
 obtain ⟨a,l1,rfl,e1⟩:=B4 e;obtain ⟨b,l2,rfl,e2⟩:=B4 e1;obtain ⟨c,l3,rfl,e3⟩:=B4 e2;obtain ⟨d,l4,rfl,e4⟩:=B4 e3;obtain ⟨rfl,e9⟩:=Ih e4;rw [hg];exact e9
theorem Aob {g:IV→IV→IV→IV→IV→Hp→Option β} (hg:∀a b c d x h,F [a,b,c,d,x] h=g a b c d x h) (e:ar5 g args h=some r):F args h=some r:=by
 obtain ⟨a,l1,rfl,e1⟩:=B4 e;obtain ⟨b,l2,rfl,e2⟩:=B4 e1;obtain ⟨c,l3,rfl,e3⟩:=B4 e2;obtain ⟨d,l4,rfl,e4⟩:=B4 e3;obtain ⟨x,l5,rfl,e5⟩:=B4 e4;obtain ⟨rfl,e9⟩:=Ih e5;rw [hg];exact e9
theorem AoZ {g:IV→IV→IV→IV→IV→IV→Hp→Option β} (hg:∀a b c d x y h,F [a,b,c,d,x,y] h=g a b c d x y h) (e:ar6 g args h=some r):F args h=some r:=by
 obtain ⟨a,l1,rfl,e1⟩:=B4 e;obtain ⟨b,l2,rfl,e2⟩:=B4 e1;obtain ⟨c,l3,rfl,e3⟩:=B4 e2;obtain ⟨d,l4,rfl,e4⟩:=B4 e3;obtain ⟨x,l5,rfl,e5⟩:=B4 e4;obtain ⟨y,l6,rfl,e6⟩:=B4 e5;obtain ⟨rfl,e9⟩:=Ih e6;rw [hg];exact e9
end
abbrev Sh:=Aa→Nat→List IV→Hp→Option (IV×Hp)
inductive DT where
 | nil
 | leaf (f:Nat) (g:Sh)
 | node (m:Nat) (l r:DT)
def DT.call (t:DT):Nat→Sh :=
 DT.rec (motive:=fun _=>Nat→Sh) (fun _ _ _ _ _=>none) (fun f g i=>cond (Nat.beq i f) g fun _ _ _ _=>none) (fun m _ _ gl gr i=>cond (Nat.ble m i) (gr i) (gl i)) t
def SS (t:DT) (n:Nat):Aa:=Nat.rec (motive:=fun _=>Aa) (fun _ _ _=>none) (fun n ih f args h=>t.call f ih n args h) n
def Ana (E:Env) (FT:Nat→Option Func) (f:Nat) (g:Sh):Prop:=∀ih n args h x,g ih n args h=some x→AC E ih FT n f args h=some x
def DT.Ok (E:Env) (FT:Nat→Option Func):DT→Prop
 | .nil=>True
 | .leaf f g=>Ana E FT f g
 | .node _ l r=>l.Ok E FT∧r.Ok E FT
theorem DT.call_ok {E:Env} {FT:Nat→Option Func} {t:DT} (ht:t.Ok E FT):∀f,Ana E FT f (t.call f):=by
 induction t with
 | nil=>intro f ih n args h x e;cases e
 | leaf j g =>
  intro f ih n args h x e;have e:(cond (Nat.beq f j) g fun _ _ _ _=>none) ih n args h=some x:=e;cases hb:Nat.beq f j with
  | false=>rw [hb] at e;cases e
  | true=>rw [hb] at e;rw [Dm hb];exact ht ih n args h x e
 | node m l r ihl ihr =>
  intro f ih n args h x e;have e:(cond (Nat.ble m f) (r.call f) (l.call f)) ih n args h=some x:=e;cases hb:Nat.ble m f with
  | true=>rw [hb] at e;exact ihr ht.2 f ih n args h x e
  | false=>rw [hb] at e;exact ihl ht.1 f ih n args h x e
theorem Anb {E:Env} {FT:Nat→Option Func} (hFT:∀f fn,FT f=some fn→E.P.funcs[f]?=some fn) {t:DT} (ht:t.Ok E FT):∀n f args h x,SS t n f args h=some x→run E n f args h=some x:=by
 intro n
 induction n with
 | zero=>intro f args h x e;cases e
 | succ n ihn=>intro f args h x e;exact Agh hFT ihn (DT.call_ok ht f _ _ _ _ _ e)
end Idl
end Go.Proofs.Ytdibmackcbpniaa

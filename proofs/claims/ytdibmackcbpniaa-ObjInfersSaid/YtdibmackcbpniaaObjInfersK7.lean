/-
  Texts of a proof, part 7: an ideal semantics of the program, its functions in shallow form, contracts of them. No statement of the seat is proved here.
-/
import Derived.Test.YtdibmackcbpniaaChecked
import Derived.KernelRfl
import Derived.Test.YtdibmackcbpniaaObjInfersK6
set_option linter.all false
noncomputable section
namespace Go.Proofs.Ytdibmackcbpniaa
namespace Idl
def tab:TTree :=
 .node 41 (.node 14 (.node 8 (.node 4 (.node 3 (.leaf 2 ⟨1,8,.int .i64,[.fv (.int .i64 0)]⟩)
 (.leaf 3 ⟨1,8,.int .i64,[.fv (.int .i64 0)]⟩))
 (.node 5 (.leaf 4 ⟨1,1,.bool,[.fv (.bool false)]⟩)
 (.node 6 (.leaf 5 ⟨1,1,.int .u8,[.fv (.int .u8 0)]⟩)
 (.leaf 6 ⟨1,1,.int .u8,[.fv (.int .u8 0)]⟩))))
 (.node 10 (.node 9 (.leaf 8 ⟨4,24,.struct [(0,2),(1,3),(2,4),(3,6)],[.fv (.int .i64 0),.fv (.int .i64 0),.fv (.bool false),.fv (.int .u8 0)]⟩)
 (.leaf 9 ⟨1,16,.str,[.fv (.str .empty)]⟩))
 (.node 11 (.leaf 10 ⟨1,16,.str,[.fv (.str .empty)]⟩)
 (.node 12 (.leaf 11 ⟨1,16,.str,[.fv (.str .empty)]⟩)
 (.leaf 12 ⟨1,8,.int .u64,[.fv (.int .u64 0)]⟩)))))
 (.node 22 (.node 16 (.node 15 (.leaf 14 ⟨2,24,.struct [(0,9),(1,12)],[.fv (.str .empty),.fv (.int .u64 0)]⟩)
 (.leaf 15 ⟨1,8,.ptr,[.fv (.nilp)]⟩))
 (.node 17 (.leaf 16 ⟨1,8,.ptr,[.fv (.nilp)]⟩)
 (.node 19 (.leaf 17 ⟨1,8,.ptr,[.fv (.nilp)]⟩)
 (.leaf 19 ⟨1,8,.struct [(0,17)],[.fv (.nilp)]⟩))))
 (.node 30 (.node 24 (.leaf 22 ⟨1,24,.slice 24,[.nils]⟩)
 (.node 28 (.leaf 24 ⟨3,40,.struct [(0,3),(1,3),(2,22)],[.fv (.int .i64 0),.fv (.int .i64 0),.nils]⟩)
 (.leaf 28 ⟨1,24,.slice 30,[.nils]⟩)))
 (.node 35 (.leaf 30 ⟨3,40,.struct [(0,3),(1,3),(2,28)],[.fv (.int .i64 0),.fv (.int .i64 0),.nils]⟩)
 (.node 38 (.leaf 35 ⟨1,8,.int .i64,[.fv (.int .i64 0)]⟩)
 (.leaf 38 ⟨1,8,.func,[.fv (.nilf)]⟩))))))
 (.node 87 (.node 67 (.node 55 (.node 51 (.leaf 41 ⟨1,8,.func,[.fv (.nilf)]⟩)
 (.leaf 51 ⟨1,24,.slice 3,[.nils]⟩))
 (.node 58 (.leaf 55 ⟨1,8,.int .u64,[.fv (.int .u64 0)]⟩)
 (.node 60 (.leaf 58 ⟨1,24,.slice 60,[.nils]⟩)
 (.leaf 60 ⟨3,40,.struct [(0,3),(1,3),(2,58)],[.fv (.int .i64 0),.fv (.int .i64 0),.nils]⟩))))
 (.node 78 (.node 71 (.leaf 67 ⟨1,24,.slice 9,[.nils]⟩)
 (.leaf 71 ⟨1,24,.slice 87,[.nils]⟩))
 (.node 81 (.leaf 78 ⟨1,24,.slice 30,[.nils]⟩)
 (.node 83 (.leaf 81 ⟨1,8,.ptr,[.fv (.nilp)]⟩)
 (.leaf 83 ⟨2,16,.struct [(0,3),(1,3)],[.fv (.int .i64 0),.fv (.int .i64 0)]⟩)))))
 (.node 123 (.node 106 (.node 97 (.leaf 87 ⟨4,48,.struct [(0,3),(1,30)],[.fv (.int .i64 0),.fv (.int .i64 0),.fv (.int .i64 0),.nils]⟩)
 (.leaf 97 ⟨1,8,.ptr,[.fv (.nilp)]⟩))
 (.node 108 (.leaf 106 ⟨1,8,.ptr,[.fv (.nilp)]⟩)
 (.node 110 (.leaf 108 ⟨3,24,.struct [(0,3),(1,3),(2,3)],[.fv (.int .i64 0),.fv (.int .i64 0),.fv (.int .i64 0)]⟩)
 (.leaf 110 ⟨1,8,.ptr,[.fv (.nilp)]⟩))))
 (.node 135 (.node 129 (.leaf 123 ⟨1,8,.int .i64,[.fv (.int .i64 0)]⟩)
 (.node 131 (.leaf 129 ⟨1,24,.slice 110,[.nils]⟩)
 (.leaf 131 ⟨7,104,.struct [(0,3),(1,3),(2,129),(3,129),(4,30)],[.fv (.int .i64 0),.fv (.int .i64 0),.nils,.nils,.fv (.int .i64 0),.fv (.int .i64 0),.nils]⟩)))
 (.node 136 (.leaf 135 ⟨1,24,.slice 5,[.nils]⟩)
 (.node 146 (.leaf 136 ⟨31,248,.arr 31 3,[.fv (.int .i64 0),.fv (.int .i64 0),.fv (.int .i64 0),.fv (.int .i64 0),.fv (.int .i64 0),.fv (.int .i64 0),.fv (.int .i64 0),.fv (.int .i64 0),.fv (.int .i64 0),.fv (.int .i64 0),.fv (.int .i64 0),.fv (.int .i64 0),.fv (.int .i64 0),.fv (.int .i64 0),.fv (.int .i64 0),.fv (.int .i64 0),.fv (.int .i64 0),.fv (.int .i64 0),.fv (.int .i64 0),.fv (.int .i64 0),.fv (.int .i64 0),.fv (.int .i64 0),.fv (.int .i64 0),.fv (.int .i64 0),.fv (.int .i64 0),.fv (.int .i64 0),.fv (.int .i64 0),.fv (.int .i64 0),.fv (.int .i64 0),.fv (.int .i64 0),.fv (.int .i64 0)]⟩)
 (.leaf 146 ⟨1,1,.int .u8,[.fv (.int .u8 0)]⟩))))))
def Ak4:List (Nat×List Bool):=[(56,[true,false,false]),(71,[false,true,false]),(81,[true,false,false,false]),(82,[true,false,false]),(110,[true,false]),(117,[true])]
def Any:List (Nat×Nat×List Nat×List Nat):=[(3,7,[0,1,2,7,8,11,12,13,14,15,16,17,18,19,20,21,22,23,24,25,26,27,28,29,30,31,32,33,34,35,36,37,38,39,40,41,42,43,44,45,46,47,48,49,50,51,52,53,54,55,56,57,58,59,60,61,62,63,64,65,66,67,68,69,70,71,72,73,74,75,76,77,78,79,80,81,82,83,84,85,86,87,88,89,90,91,92,93,94,95,96,97,98,99,100,101,102,103,104,105,106,107,108,109,110,111,112,113,114,115,116,117,118,119,120,121,122,123,124,125,126,127,128,129,130,131,132],[3154951]),
 (3,18,[0,1,2,3,4,5,6,7,8,10,11,12,13,15,16,18,19,20,21,22,23,24,25,26,27,28,29,30,31,32,33,34,35,36,37,38,39,40,41,42,43,44,45,46,47,48,49,50,51,52,53,54,55,56,57,58,59,60,61,62,63,64,65,66,67,68,69,70,71,72,73,74,75,76,77,78,79,80,81,82,83,84,85,86,87,88,89,90,91,92,93,94,95,96,97,98,99,100,101,102,103,104,105,106,107,108,109,110,111,112,113,114,115,116,117,118,119,120,121,122,123,124,125,126,127,128,129,130,131,132],[3166217,3167241]),
 (5,10,[0,1,3,4,5,6,9,12,13,14,15,16,17,18,19,20,21,22,23,24,25,26,27,28,29,30,31,32,33,34,35,36,37,38,39,40,41,42,43,44,45,46,47,48,49,50,51,52,53,54,55,56,57,58,59,60,61,62,63,64,65,66,67,68,69,70,71,72,73,74,75,76,77,78,79,80,81,82,83,84,85,86,87,88,89,90],[5257223]),
 (7,6,[2,3,4,8,9,10,11,12,13,14,15,16,17,18,19,20,21,22,23,24,25,26,27,28,29,30,31,32,33,34,35,36,37,38,39,40,41,42,43,44,45,46,47,48,49,50,51,52,53,54,55,56,57,58,59,60,61,62,63,64,65,66,67,68,69,70,71],[]),
 (9,11,[0,1,2,3,4,5,6,8,11,12,13,14,15,16,17,18,19,20,21,22,23,24,25,26,27,28,29,30,31,32,33,34,35,36,37,38,39,40,41,42,43,44,45,46,47,48,49,50,51,52,53,54,55,56,57,58,59,60,61,62,63,64,65,66,67,68,69,70,71,72,73,74,75,76,77,78,79,80,81,82,83,84,85,86,87,88,89,90,91,92,93,94,95],[9450504,9451528,9455621]),
 (13,2,[1,2,4,5,6,7,8,9,10,11,12,13,14,15,16,17,18],[]),
 (16,15,[0,4,5,10,11,12,13,14,15,16,17,18,19,20,21,22,23,24,25,26,27,28,29,30,31,32,33,34,35,36,37,38,39,40,41,42,43,44,45,46,47,48,49,50,51,52,53,54,55,56,57,58,59,60,61,62,63,64,65,66,67,68,69,70,71,72,73,74,75,76,77],[16794638]),
 (18,4,[0,1,4,6,7,8,9,10,11,12,13,14,15,16,17,18,19,20,21,22,23,24,25,26,27,28,29,30,31,32,33,34,35,36,37,38,39,40,41,42,43,44,45],[]),
 (21,4,[0,2,4,5,6,7,8,9,10,11,12,13,14,15,16,17,18,19,20,21,22,23,24,25,26,27,28,29,30],[]),
 (22,6,[0,2,3,4,9,10,11,12,13,14,15,16,17,18,19,20,21,22,23,24,25,26,27,28,29,30,31,32,33,34,35,36,37,38,39,40,41,42,43,44,45,46,47,48,49,50,51,52,53,54,55,56,57,58,59],[]),
 (24,3,[0,2,5,6,7,8,9,10,11,12,13,14,15,16,17,18,19,20],[]),
 (28,5,[0,4,5,9,10,11,12,13,14,15,16,17,18,19,20,21,22,23,24,25,26,27,28,29,30,31,32,33,34,35,36,37,38,39,40,41,42,43,44,45,46,47,48,49,50,51,52,53],[29367312]),
 (35,4,[0,3,4,6,7,8,9,10,11,12,13,14,15,16,17,18,19,20,21,22,23,24,25,26,27,28,29],[]),
 (40,3,[0,3,4,7,8,9,10,11,12,13,14,15,16,17,18,19,20,21,22,23,24,25,26,27,28,29,30],[]),
 (54,3,[0,4,5,6,7,8,9,10,14,15,16,17,18,19,20,21,22,23,24,25,26,27,28,29],[56627203]),
 (56,7,[1,3,5,7,8,9,10,11,12,13,14,15,16,17,18,19,20,21,22,23,24,25,26,27,28,29,30,31,32,33,34,35,36,37,38,39,40,41,42,43,44,45,46,47,48,49,50,51,52,53,54,55,56,57,58,59,60,61,62,63,64,65,66,67,68],[]),
 (62,2,[3,4,5,6,8,10,11,12,13,14,15,16,17,18,19,20,21,22,23,24,25,26,27],[]),
 (66,15,[0,2,3,6,7,8,9,10,11,12,13,14,15,16,17,18,19,20,21,22,23,24,25,26,27,28,29,30,31,32,33,34,35,36,37,38,39,40,41,42,43,44,45,46,47,48,49,50,51,52,53,54,55,56,57,58,59,60,61],[]),
 (67,3,[1,2,5,6,7,8,9,10,11,12,13,14,15,16,17,18,19,20,21,22,23,24,25,26,27,28,29,30,31,32,33,34,35,36,37,38,39,40,41,42,43,44,45,46],[70260746]),
 (71,7,[0,3,4,5,6,7,8,9,10,11,12,13,14,15,16,17,18,19,20,21,22,23,24,25,26,27,28,29,30,31,32,33,34,35,36,37,38,42,43,44,45,46,47,48,49,50,51,52,53],[74457090]),
 (72,2,[2,3,4,5,6,9,10,11,12,13,14,15,16,17,18],[]),
 (81,10,[4,5,6,7,11,12,13,14,15,16,17,18,19,20,21,22,23,24,25,26,27,28,29,30,31,32,33,34,35,36,37,38,39,40,41,42,43,44,45,46,47,48,49,50,51,52,53,54,55,56,57,58,59,60,61,62,63,64,65,66,67,68,69,70,71,72,73,74,75,76,77,78,79,80,81,82,83,84,85,86,87,88,89,90,91,92,93,94,95,96,97,98,99,100,101,102,103,104,105,106,107,108,109,110,111,112,113,114,115,116,117,118,119,120,121,122,123,124,125,126,127,128,129,130],[84954117,84956171]),
 (81,17,[4,5,6,7,15,16,17,18,19,20,21,22,23,24,25,26,27,28,29,30,31,32,33,34,35,36,37,38,39,40,41,42,43,44,45,46,47,48,49,50,51,52,53,54,55,56,57,58,59,60,61,62,63,64,65,66,67,68,69,70,71,72,73,74,75,76,77,78,79,80,81,82,83,84,85,86,87,88,89,90,91,92,93,94,95,96,97,98,99,100,101,102,103,104,105,106,107,108,109,110,111,112,113,114,115,116,117,118,119,120,121,122,123,124,125,126,127,128,129,130],[84954117]),
 (82,9,[1,3,5,6,9,10,11,12,13,14,15,16,17,18,19,20,21,22,23,24,25,26,27,28,29,30,31,32,33,34,35,36,37,38,39,40,41,42,43,44,45,46,47,48,49,50,51,52,53,54,55,56,57,58,59,60,61,62,63,64,65,66,67,68,69,70,71,72,73,74,75,76,77,78,79,80,81,82,83,84,85,86,87,88,89,90,91,92,93,94,95],[85995532,85995534,85996558]),
 (97,3,[2,4,5,7,9,12,13,14,15,16,17,18,19,20,21,22,23,24,25,26,27,28,29,30,31,32,33,34,35,36,37,38,39,40,41,42,43,44,45,46,47,48,49,50,51,52,53,54,55,56,57,58,59,60,61,62,63,64,65,66,67,68,69,70,71],[101718032,101720067]),
 (112,3,[0,5,6,7,8,9,10,11,12,13,14,15,16,17,18,19,20,21,22,23,24,25,26,27,28,29,30,31,32,33,34,35,36,37,38,39,40,41,42,43,44,45,46,47,48,49,50,51,52,53,54,55,56,57,58,59,60,61,62,63,64,65,66,67,68,69,70,71,72,73,74,75,76,77,78,79,80,81,82,83,84,85,86,87,88,89,90,91,92,93,94,95,96,97,98,99,100,101,102,103,104,105,106,107,108,109,110,111,112,113,114,115,116,117,118,119,120,121,122,123,124,125,126,127,128,129,130],[117445638,117448708]),
 (113,9,[0,3,5,6,11,12,13,14,15,16,17,18,19,20,21,22,23,24,25,26,27,28,29,30,31,32,33,34,35,36,37,38,39,40,41,42,43,44,45,46,47,48,49,50,51,52,53,54,55,56,57,58,59,60,61,62,63,64,65,66,67],[118501392]),
 (115,3,[1,5,6,7,8,9,10,11,12,13,14],[]),
 (116,4,[0,3,4,5,6,7,8,9,10,11,12,13,14,18,19,20,21,22,23,24,25,26,27,28,29,30,31],[121639939,121640964]),
 (118,4,[0,3,4,6,7,8,9,10,11,12,13,14,15,16,17,18,19,20,21,22,23,24,25,26,27,28,29,30,31],[])]
def UB (l:List Nat) (f:Nat):Bool:=l.any fun g=>Nat.beq g f
def Aif (f:Nat):List (Nat×List Bool)→List Bool
 | []=>[]
 | (g,k)::l=>if Nat.beq g f then k else Aif f l
def AhV (f r:Nat):List (Nat×Nat×List Nat×List Nat)→List Nat×List Nat
 | []=>([],[])
 | (g,q,k)::l=>if Nat.beq g f && Nat.beq q r then k else AhV f r l
def pol:Pol where
 inl:=UB []
 keep:=fun f=>Aif f Ak4
 raw:=UB [106]
 head:=fun f r=>AhV f r Any
 rowApp:=fun f _ _=>UB [22] f
 fzBox:=fun f _ _=>UB [81] f
 split:=UB [107]
def EE:Env:=⟨Try.prog,tab.get,pol⟩
set_option maxRecDepth 100000 in
theorem ArV:tab.leaves.map (fun p=>Amk Try.prog p.1)=tab.leaves.map (fun p=>some p.2):=by kernel_rfl
theorem AgS:Try.prog.follows .mixedOrders=true:=by kernel_rfl
theorem AhX:Ads Try.prog=true:=by kernel_rfl
theorem Ag1:AcB Try.prog=true:=by kernel_rfl
def ft:FTr :=
 .node 60 (.node 31 (.node 16 (.node 9 (.node 5 (.node 3 (.leaf 2 Try.f2)
 (.node 4 (.leaf 3 Try.f3)
 (.leaf 4 Try.f4)))
 (.node 7 (.node 6 (.leaf 5 Try.f5)
 (.leaf 6 Try.f6))
 (.node 8 (.leaf 7 Try.f7)
 (.leaf 8 Try.f8))))
 (.node 12 (.node 10 (.leaf 9 Try.f9)
 (.node 11 (.leaf 10 Try.f10)
 (.leaf 11 Try.f11)))
 (.node 14 (.node 13 (.leaf 12 Try.f12)
 (.leaf 13 Try.f13))
 (.node 15 (.leaf 14 Try.f14)
 (.leaf 15 Try.f15)))))
 (.node 23 (.node 19 (.node 17 (.leaf 16 Try.f16)
 (.node 18 (.leaf 17 Try.f17)
 (.leaf 18 Try.f18)))
 (.node 21 (.node 20 (.leaf 19 Try.f19)
 (.leaf 20 Try.f20))
 (.node 22 (.leaf 21 Try.f21)
 (.leaf 22 Try.f22))))
 (.node 27 (.node 25 (.node 24 (.leaf 23 Try.f23)
 (.leaf 24 Try.f24))
 (.node 26 (.leaf 25 Try.f25)
 (.leaf 26 Try.f26)))
 (.node 29 (.node 28 (.leaf 27 Try.f27)
 (.leaf 28 Try.f28))
 (.node 30 (.leaf 29 Try.f29)
 (.leaf 30 Try.f30))))))
 (.node 45 (.node 38 (.node 34 (.node 32 (.leaf 31 Try.f31)
 (.node 33 (.leaf 32 Try.f32)
 (.leaf 33 Try.f33)))
 (.node 36 (.node 35 (.leaf 34 Try.f34)
 (.leaf 35 Try.f35))
 (.node 37 (.leaf 36 Try.f36)
 (.leaf 37 Try.f37))))
 (.node 41 (.node 39 (.leaf 38 Try.f38)
 (.node 40 (.leaf 39 Try.f39)
 (.leaf 40 Try.f40)))
 (.node 43 (.node 42 (.leaf 41 Try.f41)
 (.leaf 42 Try.f42))
 (.node 44 (.leaf 43 Try.f43)
 (.leaf 44 Try.f44)))))
 (.node 52 (.node 48 (.node 46 (.leaf 45 Try.f45)
 (.node 47 (.leaf 46 Try.f46)
 (.leaf 47 Try.f47)))
 (.node 50 (.node 49 (.leaf 48 Try.f48)
 (.leaf 49 Try.f49))
 (.node 51 (.leaf 50 Try.f50)
 (.leaf 51 Try.f51))))
 (.node 56 (.node 54 (.node 53 (.leaf 52 Try.f52)
 (.leaf 53 Try.f53))
 (.node 55 (.leaf 54 Try.f54)
 (.leaf 55 Try.f55)))
 (.node 58 (.node 57 (.leaf 56 Try.f56)
 (.leaf 57 Try.f57))
 (.node 59 (.leaf 58 Try.f58)
 (.leaf 59 Try.f59)))))))
 (.node 89 (.node 74 (.node 67 (.node 63 (.node 61 (.leaf 60 Try.f60)
 (.node 62 (.leaf 61 Try.f61)
 (.leaf 62 Try.f62)))
 (.node 65 (.node 64 (.leaf 63 Try.f63)
 (.leaf 64 Try.f64))
 (.node 66 (.leaf 65 Try.f65)
 (.leaf 66 Try.f66))))
 (.node 70 (.node 68 (.leaf 67 Try.f67)
 (.node 69 (.leaf 68 Try.f68)
 (.leaf 69 Try.f69)))
 (.node 72 (.node 71 (.leaf 70 Try.f70)
 (.leaf 71 Try.f71))
 (.node 73 (.leaf 72 Try.f72)
 (.leaf 73 Try.f73)))))
 (.node 81 (.node 77 (.node 75 (.leaf 74 Try.f74)
 (.node 76 (.leaf 75 Try.f75)
 (.leaf 76 Try.f76)))
 (.node 79 (.node 78 (.leaf 77 Try.f77)
 (.leaf 78 Try.f78))
 (.node 80 (.leaf 79 Try.f79)
 (.leaf 80 Try.f80))))
 (.node 85 (.node 83 (.node 82 (.leaf 81 Try.f81)
 (.leaf 82 Try.f82))
 (.node 84 (.leaf 83 Try.f83)
 (.leaf 84 Try.f84)))
 (.node 87 (.node 86 (.leaf 85 Try.f85)
 (.leaf 86 Try.f86))
 (.node 88 (.leaf 87 Try.f87)
 (.leaf 88 Try.f88))))))
 (.node 104 (.node 96 (.node 92 (.node 90 (.leaf 89 Try.f89)
 (.node 91 (.leaf 90 Try.f90)
 (.leaf 91 Try.f91)))
 (.node 94 (.node 93 (.leaf 92 Try.f92)
 (.leaf 93 Try.f93))
 (.node 95 (.leaf 94 Try.f94)
 (.leaf 95 Try.f95))))
 (.node 100 (.node 98 (.node 97 (.leaf 96 Try.f96)
 (.leaf 97 Try.f97))
 (.node 99 (.leaf 98 Try.f98)
 (.leaf 99 Try.f99)))
 (.node 102 (.node 101 (.leaf 100 Try.f100)
 (.leaf 101 Try.f101))
 (.node 103 (.leaf 102 Try.f102)
 (.leaf 103 Try.f103)))))
 (.node 111 (.node 107 (.node 105 (.leaf 104 Try.f104)
 (.node 106 (.leaf 105 Try.f105)
 (.leaf 106 Try.f106)))
 (.node 109 (.node 108 (.leaf 107 Try.f107)
 (.leaf 108 Try.f108))
 (.node 110 (.leaf 109 Try.f109)
 (.leaf 110 Try.f110))))
 (.node 115 (.node 113 (.node 112 (.leaf 111 Try.f111)
 (.leaf 112 Try.f112))
 (.node 114 (.leaf 113 Try.f113)
 (.leaf 114 Try.f114)))
 (.node 117 (.node 116 (.leaf 115 Try.f115)
 (.leaf 116 Try.f116))
 (.node 118 (.leaf 117 Try.f117)
 (.leaf 118 Try.f118)))))))
theorem Auz:∀f fn,ft.get f=some fn→EE.P.funcs[f]?=some fn:=FTr.ok (by kernel_rfl)
theorem Ato:EnvOk EE:=Ard ArV AgS AhX Ag1
section lists
variable {α β:Type}
def Dh (l:List α) (i:Nat) (k:α→Option β):Option β :=
 List.rec (motive:=fun _=>Nat→Option β) (fun _=>none) (fun x _ ih i=>Nat.rec (motive:=fun _=>Option β) (k x) (fun p _=>ih p) i) l i
theorem C2 (l:List α) (i:Nat) (k:α→Option β):Dh l i k=(l[i]?).bind k:=by
 induction l generalizing i with
 | nil=>rfl
 | cons x l ih=>cases i with
  | zero=>rfl
  | succ i=>exact ih i
def Fi (l:List α) (n:Nat) (k:List α→Option β):Option β :=
 List.rec (motive:=fun _=>Nat→Option β) (fun n=>Nat.rec (motive:=fun _=>Option β) (k []) (fun _ _=>none) n) (fun x t ih n=>Nat.rec (motive:=fun _=>Option β) (k (x::t)) (fun p _=>ih p) n) l n
theorem JW (l:List α) (n:Nat) (k:List α→Option β):Fi l n k=if n≤l.length then k (l.drop n) else none:=by
 induction l generalizing n with
 | nil=>cases n with
  | zero=>rfl
  | succ n=>rw [if_neg (by simp)];rfl
 | cons x l ih=>cases n with
  | zero=>rw [if_pos (Nat.zero_le _)];rfl
  | succ n=>rw [show Fi (x::l) (n+1) k=Fi l n k from rfl,ih];simp
def F4 (l:List α) (n:Nat) (k:List α→Option β):Option β :=
 List.rec (motive:=fun _=>Nat→(List α→Option β)→Option β) (fun n k=>Nat.rec (motive:=fun _=>Option β) (k []) (fun _ _=>none) n)
  (fun x _ ih n k=>Nat.rec (motive:=fun _=>Option β) (k []) (fun p _=>ih p fun xs=>k (x::xs)) n) l n k
theorem Kb (l:List α) (n:Nat) (k:List α→Option β):F4 l n k=if n≤l.length then k (l.take n) else none:=by
 induction l generalizing n k with
 | nil=>cases n with
  | zero=>rfl
  | succ n=>rw [if_neg (by simp)];rfl
 | cons x l ih=>cases n with
  | zero=>rw [if_pos (Nat.zero_le _)];rfl
  | succ n=>rw [show F4 (x::l) (n+1) k=F4 l n (fun xs=>k (x::xs)) from rfl,ih];simp
def ON (l:List α) (j:Nat) (b:α) (k:List α→Option β):Option β :=
 List.rec (motive:=fun _=>Nat→(List α→Option β)→Option β) (fun _ k=>k []) (fun x t ih j k=>Nat.rec (motive:=fun _=>Option β) (k (b::t)) (fun p _=>ih p fun xs=>k (x::xs)) j) l j k
theorem AgU (l:List α) (j:Nat) (b:α) (k:List α→Option β):ON l j b k=k (l.set j b):=by
 induction l generalizing j k with
 | nil=>rfl
 | cons x l ih=>cases j with
  | zero=>rfl
  | succ j=>rw [show ON (x::l) (j+1) b k=ON l j b (fun xs=>k (x::xs)) from rfl,ih];rfl
def AF (l:List α) (k:α→List α→Option β):Option β:=List.casesOn (motive:=fun _=>Option β) l none k
end lists
section
variable {α:Type}
def fRf (r:Ref) (k:Ref→α):α:=match r with
 | .own n=>Em n fun n=>k (.own n)
 | .ext n=>Em n fun n=>k (.ext n)
theorem Sc (r:Ref) (k:Ref→α):fRf r k=k r:=by cases r<;>simp [fRf,B4]
def fV:Nat→IV→(IV→α)→α
 | 0,v,k=>k v
 | d+1,v,k=>match v with
  | .dead=>k .dead
  | .fv v=>fFV d v fun v=>k (.fv v)
  | .ptr r o=>fRf r fun r=>Em o fun o=>k (.ptr r o)
  | .slc r sz n=>fRf r fun r=>Em sz fun sz=>Em n fun n=>k (.slc r sz n)
  | .nils=>k .nils
  | .emp=>k .emp
  | .clip es=>fL (fFV d) es fun es=>k (.clip es)
  | .app r es=>fRf r fun r=>fL (fFV d) es fun es=>k (.app r es)
  | .func fn a b=>fL (fV d) a fun a=>fL (fV d) b fun b=>k (.func fn a b)
  | .agg cs=>fL (fV d) cs fun cs=>k (.agg cs)
  | .tuple cs=>fL (fV d) cs fun cs=>k (.tuple cs)
  | .mapr r=>fRf r fun r=>k (.mapr r)
theorem CD:∀(d:Nat) (v:IV) (k:IV→α),fV d v k=k v
 | 0,_,_=>rfl
 | d+1,v,k=>by cases v<;>simp [fV,CZ (CD d),CZ (Nn d),Nn,B4,Sc]
def fBk (b:Blk) (k:Blk→α):α:=match b with
 | .row cs ro=>fL (fV 3) cs fun cs=>k (.row cs ro)
 | .tok n sz=>Em n fun n=>Em sz fun sz=>k (.tok n sz)
 | .map es=>fL (fun (p:Int×IV) k=>match p with | (n,v)=>Aku n fun n=>fV 4 v fun v=>k (n,v)) es fun es=>k (.map es)
theorem C5 (b:Blk) (k:Blk→α):fBk b k=k b:=by
 cases b with
 | row cs ro=>simp only [fBk];rw [CZ (CD 3)]
 | tok n sz=>simp only [fBk];rw [B4,B4]
 | map es =>
  simp only [fBk];rw [CZ];rintro ⟨n,v⟩ k;simp only;rw [Yh,CD]
def fOw (p:Nat×Blk) (k:Nat×Blk→α):α:=match p with | (n,b)=>Em n fun n=>fBk b fun b=>k (n,b)
theorem AoZ (p:Nat×Blk) (k:Nat×Blk→α):fOw p k=k p:=by
 obtain ⟨n,b⟩:=p;simp only [fOw];rw [B4,C5]
def fH (h:Hp) (k:Hp→α):α:=match h with | ⟨own,ext⟩=>fL fOw own fun own=>fL fBk ext fun ext=>k ⟨own,ext⟩
theorem JS (h:Hp) (k:Hp→α):fH h k=k h:=by
 obtain ⟨a,b⟩:=h;simp only [fH];rw [CZ AoZ,CZ C5]
end
section
variable {β:Type}
def I8 (l:List (Nat×Blk)) (s:Nat) (k:Blk→Option β):Option β :=
 List.rec (motive:=fun _=>Option β) none (fun p _ ih=>match p with | (j,b)=>cond (Nat.beq s j) (k b) ih) l
theorem GB {α:Type} (a b:Nat) (x y:α):cond (Nat.beq a b) x y=if a=b then x else y:=by
 cases h:Nat.beq a b with
 | true=>rw [if_pos (Nat.eq_of_beq_eq_true h)];rfl
 | false=>rw [if_neg (fun e=>by rw [e,show Nat.beq b b=true from Nat.beq_refl b] at h;cases h)];rfl
theorem EH (l:List (Nat×Blk)) (s:Nat) (k:Blk→Option β):I8 l s k=(Au s l).bind k:=by
 induction l with
 | nil=>rfl
 | cons p l ih =>
  obtain ⟨j,b⟩:=p;rw [show I8 ((j,b)::l) s k=cond (Nat.beq s j) (k b) (I8 l s k) from rfl,GB,ih]
  simp only [Au];split<;>rfl
def Ep (r:Ref) (h:Hp) (k:Blk→Option β):Option β:=match h with
 | ⟨own,ext⟩=>match r with
  | .own s=>I8 own s k
  | .ext j=>Dh ext j k
theorem D5 (r:Ref) (h:Hp) (k:Blk→Option β):Ep r h k=(h.get r).bind k:=by
 obtain ⟨own,ext⟩:=h;cases r with
 | own s=>exact EH ..
 | ext j=>exact C2 ..
def Bk (l:List (Nat×Blk)) (s:Nat) (b:Blk) (k:List (Nat×Blk)→Option β):Option β :=
 List.rec (motive:=fun _=>(List (Nat×Blk)→Option β)→Option β) (fun k=>k [(s,b)])
  (fun p t ih k=>match p with | (j,c)=>cond (Nat.beq s j) (k ((j,b)::t)) (ih fun l=>k ((j,c)::l))) l k
theorem E5 (l:List (Nat×Blk)) (s:Nat) (b:Blk) (k:List (Nat×Blk)→Option β):Bk l s b k=k (Bb s b l):=by
 induction l generalizing k with
 | nil=>rfl
 | cons p l ih =>
  obtain ⟨j,c⟩:=p;rw [show Bk ((j,c)::l) s b k=cond (Nat.beq s j) (k ((j,b)::l)) (Bk l s b fun l=>k ((j,c)::l)) from rfl,GB,ih]
  simp only [Bb];split<;>rfl
def Gs (r:Ref) (b:Blk) (h:Hp) (k:Hp→Option β):Option β:=match h with
 | ⟨own,ext⟩=>match r with
  | .own s=>Bk own s b fun own=>k ⟨own,ext⟩
  | .ext j=>ON ext j b fun ext=>k ⟨own,ext⟩
theorem Jl (r:Ref) (b:Blk) (h:Hp) (k:Hp→Option β):Gs r b h k=k (h.set r b):=by
 obtain ⟨own,ext⟩:=h;cases r with
 | own s=>exact E5 ..
 | ext j=>exact AgU ..
def Oj (x:IV) (e:Option β) (k:FV→Option β):Option β:=match x with
 | .fv v=>k v
 | _=>e
def Agh (v:FV) (e:Option β) (k:Nat→Option β):Option β:=match v with
 | .int .i64 (.ofNat n)=>k n
 | _=>e
def JX (x:IV) (e:Option β) (k:Nat→Option β):Option β:=Oj x e fun v=>Agh v e k
theorem Fg {x:IV} {e:Option β} {k:Nat→Option β} {r:β} (h:JX x e k=some r):(∃n:Nat,x=.fv (.int .i64 n)∧k n=some r)∨e=some r:=by
 unfold JX Oj at h;split at h
 ·simp only [Agh] at h;split at h
  ·exact .inl ⟨_,rfl,h⟩
  ·exact .inr h
 ·exact .inr h
def MQ (n:Nat) (k:IV→Option β):Option β:=Em n fun n=>k (.fv (.int .i64 (.ofNat n)))
theorem Ds (n:Nat) (k:IV→Option β):MQ n k=k (.fv (.int .i64 n)):=by rw [MQ,B4];rfl
def Ahu (b:Bool) (k:IV→Option β):Option β:=cond b (k (.fv (.bool true))) (k (.fv (.bool false)))
theorem UP (b:Bool) (k:IV→Option β):Ahu b k=k (.fv (.bool b)):=by cases b<;>rfl
def CI (o:Option IV) (k:IV→Option β):Option β:=match o with
 | none=>none
 | some v=>fS v k
theorem Cu (o:Option IV) (k:IV→Option β):CI o k=o.bind k:=by
 cases o with
 | none=>rfl
 | some v=>exact Aut v k
def Cx (l:List IV) (e:Option β) (k:List FV→Option β):Option β :=
 List.rec (motive:=fun _=>(List FV→Option β)→Option β) (fun k=>k []) (fun x _ ih k=>Oj x e fun v=>ih fun vs=>k (v::vs)) l k
theorem Pf (l:List IV) (e:Option β) (k:List FV→Option β):Cx l e k=match Fo l with | some vs=>k vs | none=>e:=by
 induction l generalizing k with
 | nil=>rfl
 | cons x l ih =>
  rw [show Cx (x::l) e k=Oj x e fun v=>Cx l e fun vs=>k (v::vs) from rfl]
  cases x<;>simp only [Oj,Fo];rw [ih];cases Fo l<;>rfl
def Ol (l:List IV) (k:IV→Option β):Option β:=Cx l (k (.agg l)) fun vs=>k (.fv (.agg vs))
theorem Qp (l:List IV) (k:IV→Option β):Ol l k=k (EV l):=by
 rw [Ol,Pf,EV];cases Fo l<;>rfl
def WP (l:List IV) (k:IV→Option β):Option β:=Cx l (k (.tuple l)) fun vs=>k (.fv (.tuple vs))
theorem AcE (l:List IV) (k:IV→Option β):WP l k=k (Dd l):=by
 rw [WP,Pf,Dd];cases Fo l<;>rfl
def An5 (v:FV) (a b:Option β):Option β:=match v with
 | .bool t=>cond t a b
 | _=>none
def Aj (v:IV) (a b:Option β):Option β:=match v with
 | .fv v=>An5 v a b
 | _=>none
theorem UZ {v:IV} {a b:Option β} {r:β} (h:Aj v a b=some r):∃t:Bool,v=.fv (.bool t)∧(if t then a else b)=some r:=by
 unfold Aj at h;split at h
 ·unfold An5 at h;split at h
  ·rename_i t;refine ⟨t,rfl,?_⟩;cases t<;>exact h
  ·cases h
 ·cases h
def AH (c a b:IV) (k:IV→Option β):Option β:=Aj c (k a) (k b)
section
variable (E:Env) (t:TypeId)
def CC (op:BinOp) (x y:IV) (k:IV→Option β):Option β:=CI (Gq E op t x y) k
def Bv (x y:IV) (k:IV→Option β):Option β :=
 JX x (CC E t .add x y k) fun a=>JX y (CC E t .add x y k) fun b=>cond (Nat.ble (a+b) 9223372036854775807) (MQ (a+b) k) (CC E t .add x y k)
def Bd (x y:IV) (k:IV→Option β):Option β :=
 JX x (CC E t .sub x y k) fun a=>JX y (CC E t .sub x y k) fun b=>cond (and (Nat.ble b a) (Nat.ble a 9223372036854775807)) (MQ (a - b) k) (CC E t .sub x y k)
def Rj (op:BinOp) (g:Nat→Nat→Bool) (x y:IV) (k:IV→Option β):Option β :=
 JX x (CC E t op x y k) fun a=>JX y (CC E t op x y k) fun b=>Ahu (g a b) k
def AQ (x y:IV) (k:IV→Option β):Option β:=Rj E t .eql Nat.beq x y k
def Cg (x y:IV) (k:IV→Option β):Option β:=Rj E t .neq (fun a b=>not (Nat.beq a b)) x y k
def GM (x y:IV) (k:IV→Option β):Option β:=Rj E t .lss (fun a b=>Nat.ble (Nat.succ a) b) x y k
def leS (x y:IV) (k:IV→Option β):Option β:=Rj E t .leq Nat.ble x y k
def K5 (x y:IV) (k:IV→Option β):Option β:=Rj E t .gtr (fun a b=>Nat.ble (Nat.succ b) a) x y k
def VX (x y:IV) (k:IV→Option β):Option β:=Rj E t .geq (fun a b=>Nat.ble b a) x y k
def AhA (op:BinOp) (x y:IV) (k:IV→Option β):Option β:=match op with
 | .add=>Bv E t x y k
 | .sub=>Bd E t x y k
 | .eql=>AQ E t x y k
 | .neq=>Cg E t x y k
 | .lss=>GM E t x y k
 | .leq=>leS E t x y k
 | .gtr=>K5 E t x y k
 | .geq=>VX E t x y k
 | op=>CC E t op x y k
end
theorem Wd {n:Nat} (h:n≤9223372036854775807):IntKind.i64.wrap (n:Int)=n:=by
 have e:(n:Int) % (18446744073709551616:Int)=n:=by omega
 have e2:¬ (n:Int) ≥ (9223372036854775808:Int):=by omega
 show (if (true && decide (((n:Int) % (18446744073709551616:Int)) ≥ (9223372036854775808:Int)))=true then ((n:Int) % (18446744073709551616:Int)) - (18446744073709551616:Int) else ((n:Int) % (18446744073709551616:Int)))=n
 rw [e,decide_eq_false e2];rfl
def GI (v:FV) (k:List FV→Option β):Option β:=match v with
 | .agg cs=>k cs
 | _=>none
def asAgg (x:IV) (k:List IV→Option β) (kf:List FV→Option β):Option β:=match x with
 | .agg cs=>k cs
 | .fv v=>GI v kf
 | _=>none
def Ari (o:Nat) (x:IV) (k:IV→Option β):Option β:=asAgg x (fun cs=>Dh cs o k) fun cs=>Dh cs o fun v=>k (.fv v)
def AqJ (size o:Nat) (x:IV) (k:IV→Option β):Option β :=
 asAgg x (fun cs=>Fi cs o fun cs=>F4 cs size fun cs=>Ol cs k) fun cs=>Fi cs o fun cs=>F4 cs size fun cs=>k (.fv (.agg cs))
def Ez (b:Blk) (k:List IV→Option β):Option β:=match b with
 | .row cells _=>k cells
 | _=>none
def Gt (b:Blk) (k:List IV→Option β):Option β:=match b with
 | .row cells ro=>cond ro none (k cells)
 | _=>none
def Ata (v:FV) (k:List FV→Nat→Option β):Option β:=match v with
 | .fp cs o=>k cs o
 | _=>none
def El (x:IV) (k:Ref→Nat→Option β) (kf:List FV→Nat→Option β):Option β:=match x with
 | .ptr r o=>k r o
 | .fv v=>Ata v kf
 | _=>none
def Ak (a:IV) (h:Hp) (k:IV→List Ref→Option β):Option β :=
 El a (fun r o=>Ep r h fun b=>Ez b fun cells=>Dh cells o fun v=>k v [r]) fun cells o=>Dh cells o fun v=>k (.fv v) []
def Ad (size:Nat) (a:IV) (h:Hp) (k:IV→List Ref→Option β):Option β :=
 El a (fun r o=>Ep r h fun b=>Ez b fun cells=>Fi cells o fun cs=>F4 cs size fun cs=>Ol cs fun v=>k v [r])
  fun cells o=>Fi cells o fun cs=>F4 cs size fun cs=>k (.fv (.agg cs)) []
def spK {α:Type} (l:List α) (k:List α→Option β):Option β :=
 List.rec (motive:=fun _=>(List α→Option β)→Option β) (fun k=>k []) (fun x _ ih k=>ih fun xs=>k (x::xs)) l k
theorem GW {α:Type} (l:List α) (k:List α→Option β):spK l k=k l:=by
 induction l generalizing k with
 | nil=>rfl
 | cons x l ih=>rw [show spK (x::l) k=spK l (fun xs=>k (x::xs)) from rfl,ih]
def Jq (l:List IV) (j:Nat) (b:IV) (k:List IV→Option β):Option β :=
 List.rec (motive:=fun _=>Nat→(List IV→Option β)→Option β) (fun _ _=>none) (fun x t ih j k=>Nat.rec (motive:=fun _=>Option β) (k (b::t)) (fun p _=>ih p fun xs=>k (x::xs)) j) l j k
theorem AaT (l:List IV) (j:Nat) (b:IV) (k:List IV→Option β):Jq l j b k=if j<l.length then k (l.set j b) else none:=by
 induction l generalizing j k with
 | nil=>rw [if_neg (by simp)];rfl
 | cons x l ih=>cases j with
  | zero=>rw [if_pos (by simp)];rfl
  | succ j=>rw [show Jq (x::l) (j+1) b k=Jq l j b (fun xs=>k (x::xs)) from rfl,ih];simp
theorem KI {v:IV} (h:v.one=true):v.cells=[v]∧v.alive=true:=by
 cases v with
 | fv w=>cases w<;>simp_all [IV.one,IV.cells,IV.alive]
 | _=>simp_all [IV.one,IV.cells,IV.alive]
def wrK (cs:List FV):List IV→(List IV→Option β)→Option β :=
 List.rec (motive:=fun _=>List IV→(List IV→Option β)→Option β) (fun l k=>k l) (fun c _ ih l k=>AF l fun _ t=>ih t fun t'=>k (.fv c::t')) cs
def DA (l:List IV) (o:Nat) (cs:List FV) (k:List IV→Option β):Option β :=
 List.rec (motive:=fun _=>Nat→(List IV→Option β)→Option β) (fun o k=>Nat.rec (motive:=fun _=>Option β) (wrK cs [] k) (fun _ _=>none) o)
  (fun x t ih o k=>Nat.rec (motive:=fun _=>Option β) (wrK cs (x::t) k) (fun p _=>ih p fun t'=>k (x::t')) o) l o k
theorem F5 (x:IV):∀(vs l:List IV) (o:Nat),A3 (x::l) (o+1) vs=x::A3 l o vs
 | [],_,_=>rfl
 | v::vs,l,o=>by
  simp only [A3,List.set_cons_succ];exact F5 x vs (l.set o v) (o+1)
theorem V4:∀(cs:List FV) (l:List IV) {k:List IV→Option β} {r:β},wrK cs l k=some r→cs.length≤l.length∧k (A3 l 0 (cs.map .fv))=some r
 | [],l,k,r,h=>⟨Nat.zero_le _,h⟩
 | c::cs,l,k,r,h=>by
  have h:(AF l fun _ t=>wrK cs t fun t'=>k (.fv c::t'))=some r:=h;cases l with
  | nil=>cases h
  | cons x t =>
   have h:(wrK cs t fun t'=>k (.fv c::t'))=some r:=h;obtain ⟨h1,h2⟩:=V4 cs t h;refine ⟨by simp;omega,?_⟩;simp only [Ayo,A3,List.set_cons_zero,Nat.zero_add];rw [F5];exact h2
theorem N5:∀(l:List IV) (o:Nat) (cs:List FV) {k:List IV→Option β} {r:β},DA l o cs k=some r→o+cs.length≤l.length∧k (A3 l o (cs.map .fv))=some r
 | [],0,cs,k,r,h=>by
  obtain ⟨h1,h2⟩:=V4 cs [] h;exact ⟨by simpa using h1,h2⟩
 | [],o+1,cs,k,r,h=>by cases h
 | x::t,0,cs,k,r,h=>by
  obtain ⟨h1,h2⟩:=V4 cs (x::t) h;exact ⟨by simpa using h1,h2⟩
 | x::t,o+1,cs,k,r,h=>by
  have h:(DA t o cs fun t'=>k (x::t'))=some r:=h;obtain ⟨h1,h2⟩:=N5 t o cs h;exact ⟨by simp;omega,by rw [F5];exact h2⟩
def IX (v:FV):Bool:=match v with
 | .agg _=>false
 | .tuple _=>false
 | _=>true
def EN (l:List FV):Bool:=List.rec (motive:=fun _=>Bool) true (fun v _ ih=>cond (IX v) ih false) l
theorem Nc:∀(l:List FV),EN l=true→(l.map IV.fv).all IV.one=true
 | [],_=>rfl
 | v::l,h=>by
  have h:cond (IX v) (EN l) false=true:=h;cases hv:IX v with
  | false=>rw [hv] at h;cases h
  | true =>
   rw [hv] at h;simp only [Ayo,List.all_cons,Nc l h,Bool.and_true];cases v<;>first | rfl | cases hv
def Ae (size:Nat) (a x:IV) (h:Hp) (k:Hp→List Ref→List Ref→Option β):Option β :=
 El a (fun r o=>Ep r h fun b=>Gt b fun cells=>Oj x (if x.alive∧x.cells.length=size∧o+size≤cells.length∧x.cells.all IV.one∧F6 r x then
  spK (A3 cells o x.cells) fun cells=>Gs r (.row cells false) h fun h=>k h [r] [r] else none) fun v=>GI v fun cs=>cond (and (Nat.beq cs.length size) (EN cs)) (DA cells o cs fun cells=>Gs r (.row cells false) h fun h=>k h [r] [r]) none) fun _ _=>none
def B3 (a x:IV) (h:Hp) (k:Hp→List Ref→List Ref→Option β):Option β :=
 cond x.one (El a (fun r o=>Ep r h fun b=>Gt b fun cells=>cond (F6 r x) (Jq cells o x fun cells=>Gs r (.row cells false) h fun h=>k h [r] [r]) none) fun _ _=>none) (Ae 1 a x h k)
def Amy (fn:Fn) (k:FuncId→Option β):Option β:=match fn with
 | .func g=>k g
 | _=>none
def AtL (v:FV) (k:IV→Option β):Option β:=match v with
 | .fp cs o=>k (.fv (.fp cs o))
 | .func fn a b=>Amy fn fun g=>k (.fv (.func (.func g) a b))
 | _=>none
def AX (x:IV) (k:IV→Option β):Option β:=match x with
 | .ptr r o=>k (.ptr r o)
 | .fv v=>AtL v k
 | .func fn a b=>Amy fn fun g=>k (.func (.func g) a b)
 | _=>none
def Af (o:Nat) (x:IV) (k:IV→Option β):Option β :=
 El x (fun r off=>Em (off+o) fun o=>k (.ptr r o)) fun cs off=>Em (off+o) fun o=>k (.fv (.fp cs o))
def Aoh (n:Int) (k:Nat→Option β):Option β:=match n with
 | .ofNat m=>k m
 | _=>none
def Aok (v:FV) (k:Nat→Option β):Option β:=match v with
 | .int _ n=>Aoh n k
 | _=>none
def AgB (i:IV) (k:Nat→Option β):Option β:=Oj i none fun v=>Aok v k
theorem Ru {i:IV} {k:Nat→Option β} {r:β} (h:AgB i k=some r):∃kd,∃n:Nat,i=.fv (.int kd n)∧k n=some r:=by
 unfold AgB Oj at h;split at h
 ·simp only [Aok] at h;split at h
  ·simp only [Aoh] at h;split at h
   ·exact ⟨_,_,rfl,h⟩
   ·cases h
  ·cases h
 ·cases h
def AuX (v:FV) (k:List FV→Option β):Option β:=match v with
 | .sl es=>k es
 | _=>none
def ApT (x:IV) (k:List FV→Option β):Option β:=match x with
 | .nils=>k []
 | .emp=>k []
 | .clip es=>k es
 | .app _ es=>k es
 | .fv v=>AuX v k
 | _=>none
theorem Zu (x:IV) (k:List FV→Option β):ApT x k=(Cb x).bind k:=by
 cases x with
 | fv v=>cases v<;>rfl
 | _=>rfl
def elK (size:Nat) (el:FV) (k:IV→Option β):Option β:=match el with
 | .agg cs=>cond (Nat.beq cs.length size) (k (.fv (.fp cs 0))) none
 | v=>cond (Nat.beq 1 size) (k (.fv (.fp [v] 0))) none
theorem AfM (size:Nat) (el:FV) (k:IV→Option β):elK size el k=if el.cells.length=size then k (.fv (.fp el.cells 0)) else none:=by
 cases el<;>simp only [elK,GB,FV.cells]<;>rfl
def XZ (x:IV) (k:Ref→Nat→Nat→Option β) (e:Option β):Option β:=match x with
 | .slc r sz len=>k r sz len
 | _=>e
def AP (size:Nat) (x i:IV) (k:IV→Option β):Option β :=
 AgB i fun n=>XZ x (fun r sz len=>cond (and (Nat.ble (Nat.succ n) len) (Nat.beq sz size)) (Em (n * sz) fun o=>k (.ptr r o)) none) (ApT x fun es=>Dh es n fun el=>elK size el k)
def ixA (m size:Nat) (x i:IV) (k:IV→Option β):Option β :=
 AgB i fun n=>cond (Nat.ble (Nat.succ n) m) (El x (fun r o=>Em (o+n * size) fun o=>k (.ptr r o)) fun cells o=>Em (o+n * size) fun o=>k (.fv (.fp cells o))) none
def AsR (m size:Nat) (x i:IV) (k:IV→Option β):Option β :=
 AgB i fun n=>cond (Nat.ble (Nat.succ n) m) (Oj x none fun v=>GI v fun cs=>Dh cs (n * size) fun v=>k (.fv v)) none
def Atk (v:FV) (k:List FV→Option β):Option β:=match v with
 | .tuple vs=>k vs
 | _=>none
def Aq (ix:Nat) (x:IV) (k:IV→Option β):Option β:=match x with
 | .tuple vs=>Dh vs ix k
 | .fv v=>Atk v fun vs=>Dh vs ix fun v=>k (.fv v)
 | _=>none
def Bz (x:IV) (k:IV→Option β):Option β:=XZ x (fun _ _ n=>MQ n k) (ApT x fun es=>MQ es.length k)
def AcF (z:List IV) (o sz:Nat) (v:IV) (k:List IV→Option β):Option β :=
 cond v.one (cond (Nat.beq sz 1) (Jq z o v k) none) (if v.alive∧v.cells.length=sz∧o+sz≤z.length then spK (A3 z o v.cells) k else none)
def K1 (z:List IV) (o sz:Nat) (v:IV) (k:List IV→Option β):Option β :=
 Oj v (AcF z o sz v k) fun w=>cond (IX w) (cond (Nat.beq sz 1) (Jq z o v k) none) (GI w fun cs=>cond (Nat.beq cs.length sz) (DA z o cs k) none)
def L6 (z:List IV) (pl:List (Nat×Nat×IV)) (k:List IV→Option β):Option β :=
 List.rec (motive:=fun _=>List IV→Option β) (fun z=>k z) (fun p _ ih z=>match p with
  | (o,sz,v)=>K1 z o sz v ih) pl z
def BL (z:List IV) (pl:List (Nat×Nat×IV)) (k:IV→Option β):Option β:=L6 z pl fun cells=>Ol cells k
def Kr {α:Type} (place:Nat→Option (Nat×Nat)):List (Nat×α)→Option (List (Nat×Nat×α))
 | []=>some []
 | (i,x)::l=>match place i with
  | none=>none
  | some (o,s)=>match Kr place l with
   | none=>none
   | some r=>some ((o,s,x)::r)
def ZE {α:Type} (g:α→IV):List (Nat×Nat×α)→List (Nat×Nat×IV)
 | []=>[]
 | (o,s,x)::l=>(o,s,g x)::ZE g l
def C7 (l:List (Nat×Blk)) (s:Nat) (a:Option β):Option β :=
 List.rec (motive:=fun _=>Option β) a (fun p _ ih=>match p with | (j,_)=>cond (Nat.beq s j) none ih) l
theorem Pk {l:List (Nat×Blk)} {s:Nat} {a:Option β} {r:β} (h:C7 l s a=some r):Au s l=none∧a=some r:=by
 induction l with
 | nil=>exact ⟨rfl,h⟩
 | cons p l ih =>
  obtain ⟨j,b⟩:=p;have h:cond (Nat.beq s j) none (C7 l s a)=some r:=h;rw [GB] at h;split at h
  ·cases h
  ·rename_i hn;obtain ⟨h1,h2⟩:=ih h;exact ⟨by simp only [Au,if_neg hn,h1],h2⟩
def Ay (s:Nat) (b:Blk) (v:IV) (h:Hp) (k:IV→Hp→List Ref→List Ref→Option β):Option β:=match h with
 | ⟨own,ext⟩=>C7 own s (Bk own s b fun own=>k v ⟨own,ext⟩ [] [.own s])
def AS (s:Nat) (x:IV) (h:Hp) (k:IV→Hp→List Ref→List Ref→Option β):Option β :=
 cond x.one (Ay s (.row [x] false) (.ptr (.own s) 0) h k) (cond x.alive (spK x.cells fun cs=>Ay s (.row cs false) (.ptr (.own s) 0) h k) none)
def ApB (u:List (Ref×Blk)):Hp→(Hp→Option β)→Option β :=
 List.rec (motive:=fun _=>Hp→(Hp→Option β)→Option β) (fun h k=>k h) (fun p _ rec h k=>match p with
  | (r,b)=>fRf r fun r=>Ep r h fun _=>fBk b fun b=>Gs r b h fun h=>rec h k) u
theorem Ad2:∀(u:List (Ref×Blk)) (h:Hp) {k:Hp→Option β} {r:β},ApB u h k=some r→∃h',laid h u=some h'∧k h'=some r
 | [],h,k,r,e=>⟨h,rfl,e⟩
 | (q,b)::u,h,k,r,e=>by
  have e:(fRf q fun q=>Ep q h fun _=>fBk b fun b=>Gs q b h fun h=>ApB u h k)=some r:=e;rw [Sc,D5] at e;simp only [C5,Jl] at e;cases hg:h.get q with
  | none=>rw [hg] at e;cases e
  | some c =>
   rw [hg] at e;obtain ⟨h',h1,h2⟩:=Ad2 u (h.set q b) e;exact ⟨h',by simp only [laid,hg,h1],h2⟩
def Mr (o:Option Blk) (s:Nat) (h:Hp) (k:Hp→Option β):Option β:=match o with
 | none=>k h
 | some b=>match h with
  | ⟨own,ext⟩=>C7 own s (fBk b fun b=>Bk own s b fun own=>k ⟨own,ext⟩)
def AD (m:Rd Made) (s:Nat) (h:Hp) (k:IV→Hp→List Ref→List Ref→Option β):Option β:=match m.runLog h [] with
 | none=>none
 | some (m,rd)=>ApB m.eff.upd h fun h=>Mr m.new s h fun h=>fV 3 m.eff.val fun v=>k v h rd (Bo m.eff.upd++HP s m)
def AsB (v:FV) (e:Option β) (k:List FV→Option β):Option β:=match v with
 | .agg cs=>k cs
 | _=>e
def fzS (m:Rd Made) (s:Nat) (x:IV) (h:Hp) (k:IV→Hp→List Ref→List Ref→Option β):Option β :=
 Oj x (AD m s h k) fun v=>AsB v (AD m s h k) fun cs=>cond (Nat.ble cs.length 2000) (k (.fv (.fp cs 0)) h [] []) (AD m s h k)
def V6 (E:Env) (s d:TypeId) (x:IV) (k:IV→Option β):Option β :=
 JX x (CI (JF E s d x) k) fun n=>cond (Nat.ble n 9223372036854775807) (MQ n k) (CI (JF E s d x) k)
def Ahp (v:FV) (want:Bool) (h:Hp) (m:(IV→Hp→List Ref→List Ref→Option β)→Option β) (k:IV→Hp→List Ref→List Ref→Option β):Option β:=match v with
 | .bool b=>cond (cond want b (not b)) (m k) (k EU h [] [])
 | .tuple l=>List.casesOn (motive:=fun _=>Option β) l (k EU h [] []) fun _ _=>none
 | _=>none
def Ac (v:IV) (want:Bool) (h:Hp) (m:(IV→Hp→List Ref→List Ref→Option β)→Option β) (k:IV→Hp→List Ref→List Ref→Option β):Option β:=Oj v none fun v=>Ahp v want h m k
def Eu (split:Bool) (ih:Aa) (f:FuncId) (args:List IV) (ext:List Blk):Option (IV×Hp) :=
 if split then match args,ext with
  | [.fv (.sl [])],[]=>if Cj (ih f [.nils] ⟨[],[]⟩) && Cj (ih f [.emp] ⟨[],[]⟩) then some (.fv (.sl []),⟨[],[]⟩) else none
  | _,_=>ih f args ⟨[],ext⟩
 else ih f args ⟨[],ext⟩
def Et (keep:List Bool) (split raw:Bool) (ih:Aa) (f:FuncId) (args:List IV) (h:Hp) (k:IV→Hp→List Ref→List Ref→Option β):Option β :=
 match (Bs keep args).runLog h [] with
 | none=>none
 | some (
     (vs,rs,u),l1)=>match (B9 4096 rs []).runLog h l1 with
  | none=>none
  | some (
      l,l2)=>match IV.ren.renL (Ff l) vs with
   | none=>none
   | some vs' =>
          match A6 (Ff l) (l.map (·.2)) with
    | none=>none
    | some ext=>fL (fV 3) vs' fun vs'=>fL fBk ext fun ext=>match Eu split ih f vs' ext with
     | none=>none
     | some (
         res,hp')=>match (if raw then some res else ((CR 4096 res).run hp').map fun (v,_)=>.fv v) with
      | none=>none
      | some res=>match res.ren (Cw l) with
       | none=>none
       | some res=>match A6 (Cw l) hp'.ext with
        | none=>none
        | some ext'=>if ext'.length=l.length∧(Bo u).all (fun r=>!hasRef r l) then
          match laid h (u++(Bo l).zip ext') with
          | none=>none
          | some h'=>fH h' fun h'=>fV 3 res fun res=>k res h' l2 (Bo (u++(Bo l).zip ext'))
         else none
def Wz (r:Ref) (e:Option β) (k:Nat→Option β):Option β:=match r with
 | .own s=>k s
 | .ext _=>e
def Rt {α:Type} (u us:List α) (k:List α→Option β):Option β :=
 List.rec (motive:=fun _=>(List α→Option β)→Option β) (fun k=>k us) (fun x _ ih k=>ih fun w=>k (x::w)) u k
theorem WW {α:Type} (u us:List α) (k:List α→Option β):Rt u us k=k (u++us):=by
 induction u generalizing k with
 | nil=>rfl
 | cons x u ih=>rw [show Rt (x::u) us k=Rt u us (fun w=>k (x::w)) from rfl,ih];rfl
abbrev FzK (β:Type):=IV→Hp→List Ref→Option β→(FV→List (Ref×Blk)→List Ref→Option β)→Option β
def Ew (g:FzK β) (l:List IV):Hp→List Ref→Option β→(List FV→List (Ref×Blk)→List Ref→Option β)→Option β :=
 List.rec (motive:=fun _=>Hp→List Ref→Option β→(List FV→List (Ref×Blk)→List Ref→Option β)→Option β) (fun _ lg _ k=>k [] [] lg)
  (fun x _ rec h lg e k=>g x h lg e fun y u lg=>rec h lg e fun ys us lg=>Rt u us fun w=>k (y::ys) w lg) l
def elF (x:FV) (k:FV→Option β):Option β:=match x with
 | .agg l=>k (.agg [.agg l])
 | x=>k x
def elL (x:FV) (t:List FV) (k:FV→Option β):Option β:=match t with
 | []=>elF x k
 | y::t=>k (.agg (x::y::t))
def Aj6 (a:List FV) (k:FV→Option β):Option β:=match a with
 | []=>k (.agg [])
 | x::t=>elL x t k
theorem Anc (a:List FV) (k:FV→Option β):Aj6 a k=k (R3 a):=by
 cases a with
 | nil=>rfl
 | cons x t=>cases t with
  | nil=>cases x<;>rfl
  | cons y t=>cases x<;>rfl
def chK (sz len:Nat) (cs:List FV) (k:List FV→Option β):Option β :=
 Nat.rec (motive:=fun _=>List FV→(List FV→Option β)→Option β) (fun _ k=>k []) (fun _ rec cs k=>F4 cs sz fun a=>Fi cs sz fun b=>Aj6 a fun x=>rec b fun xs=>k (x::xs)) len cs k
theorem Ah5 (sz:Nat):∀(len:Nat) (cs:List FV) {k:List FV→Option β} {r:β},chK sz len cs k=some r→k (BT sz len cs)=some r
 | 0,_,_,_,h=>h
 | len+1,cs,k,r,h=>by
  have h:(F4 cs sz fun a=>Fi cs sz fun b=>Aj6 a fun x=>chK sz len b fun xs=>k (x::xs))=some r:=h;rw [Kb] at h;by_cases h1:sz≤cs.length
  ·rw [if_pos h1,JW,if_pos h1,Anc] at h;exact Ah5 sz len _ h
  ·rw [if_neg h1] at h;cases h
def Gh (d:Nat):FzK β :=
 Nat.rec (motive:=fun _=>FzK β) (fun _ _ _ e _=>e) (fun _ g v h lg e k=>match v with
  | .fv v=>k v [] lg
  | .nils=>k (.sl []) [] lg
  | .emp=>k (.sl []) [] lg
  | .clip es=>k (.sl es) [] lg
  | .app _ es=>k (.sl es) [] lg
  | .ptr r off=>Wz r e fun s=>Ep (.own s) h fun b=>Ez b fun cells=>cond (Nat.ble cells.length 300) (Ew g cells h (.own s::lg) e fun cs u lg=>k (.fp cs off) ((.own s,.row cells true)::u) lg) e
  | .slc r sz len=>Wz r e fun s=>Ep (.own s) h fun b=>Ez b fun cells=>cond (Nat.ble cells.length 300) (cond (or (Nat.beq sz 0) (not (Nat.ble (len * sz) cells.length))) none
    (Ew g cells h (.own s::lg) e fun cs u lg=>chK sz len cs fun els=>k (.sl els) ((.own s,.row cells true)::u) lg)) e
  | .agg cs=>cond (Nat.ble cs.length 300) (Ew g cs h lg e fun cs u lg=>k (.agg cs) u lg) e
  | .func fn a b=>cond (and (Nat.ble a.length 300) (Nat.ble b.length 300)) (Ew g a h lg e fun x u lg=>Ew g b h lg e fun y v lg=>Rt u v fun w=>k (.func fn x y) w lg) e
  | _=>e) d
def fzA (args:List IV):List Bool→Hp→List Ref→Option β→(List IV→List Ref→List (Ref×Blk)→List Ref→Option β)→Option β :=
 List.rec (motive:=fun _=>List Bool→Hp→List Ref→Option β→(List IV→List Ref→List (Ref×Blk)→List Ref→Option β)→Option β) (fun _ _ lg _ k=>k [] [] [] lg)
  (fun x _ rec keep h lg e k=>match keep with
   | []=>Gh 12 x h lg e fun y u lg=>rec [] h lg e fun vs rs us lg=>Rt u us fun w=>k (.fv y::vs) rs w lg
   | b::ks=>cond b (El x (fun r o=>rec ks h lg e fun vs rs us lg=>k (.ptr r o::vs) (r::rs) us lg) fun _ _=>e)
     (Gh 12 x h lg e fun y u lg=>rec ks h lg e fun vs rs us lg=>Rt u us fun w=>k (.fv y::vs) rs w lg)) args
def Ty (v:IV):List Ref→List Ref :=
 IV.rec (motive_1:=fun _=>List Ref→List Ref) (motive_2:=fun _=>List Ref→List Ref) (fun acc=>acc) (fun _ acc=>acc) (fun r _ acc=>r::acc) (fun r _ _ acc=>r::acc) (fun acc=>acc) (fun acc=>acc) (fun _ acc=>acc)
  (fun r _ acc=>r::acc) (fun _ _ _ f g acc=>f (g acc)) (fun _ f acc=>f acc) (fun _ f acc=>f acc) (fun r acc=>r::acc) (fun acc=>acc) (fun _ _ f g acc=>f (g acc)) v
def CB (l:List IV):List Ref→List Ref :=
 IV.rec_1 (motive_1:=fun _=>List Ref→List Ref) (motive_2:=fun _=>List Ref→List Ref) (fun acc=>acc) (fun _ acc=>acc) (fun r _ acc=>r::acc) (fun r _ _ acc=>r::acc) (fun acc=>acc) (fun acc=>acc) (fun _ acc=>acc)
  (fun r _ acc=>r::acc) (fun _ _ _ f g acc=>f (g acc)) (fun _ f acc=>f acc) (fun _ f acc=>f acc) (fun r acc=>r::acc) (fun acc=>acc) (fun _ _ f g acc=>f (g acc)) l
def Ey (b:Blk):List Ref:=match b with
 | .row cells _=>CB cells []
 | .tok _ _=>[]
 | .map es=>List.rec (motive:=fun _=>List Ref) [] (fun p _ ih=>match p with | (_,v)=>Ty v ih) es
def goR (rec:List Ref→Nat→List Blk→Bool) (t:List Ref) (s:Nat) (rest:List Blk):Bool:=match rest with
 | []=>false
 | b::rest=>rec (t++Ey b) (Nat.succ s) rest
def Oh (n:Nat):List Ref→Nat→List Blk→Bool :=
 Nat.rec (motive:=fun _=>List Ref→Nat→List Blk→Bool) (fun _ _ _=>false) (fun _ rec todo s rest=>match todo with
  | []=>(match rest with
   | []=>true
   | _::_=>false)
  | r::t=>(match r with
   | .own _=>false
   | .ext j=>cond (Nat.ble (Nat.succ j) s) (rec t s rest) (cond (Nat.beq j s) (goR rec t s rest) false))) n
def okR (m:Nat) (rs:List Ref):Bool :=
 List.rec (motive:=fun _=>Bool) true (fun r _ rec=>match r with
  | .own _=>false
  | .ext j=>cond (Nat.ble (Nat.succ j) m) rec false) rs
def okB (m:Nat) (l:List Blk):Bool:=List.rec (motive:=fun _=>Bool) true (fun b _ rec=>cond (okR m (Ey b)) rec false) l
def On (u:List (Ref×Blk)):Hp→(Hp→Option β)→Option β :=
 List.rec (motive:=fun _=>Hp→(Hp→Option β)→Option β) (fun h k=>k h) (fun p _ rec h k=>match p with
  | (r,b)=>Wz r none fun s=>Ep (.own s) h fun _=>Gs (.own s) b h fun h=>rec h k) u
def Dq (m:Nat):List Ref:=(List.range m).map .ext
def Ai (keep:List Bool) (split raw:Bool) (ih:Aa) (f:FuncId) (args:List IV) (h:Hp) (k:IV→Hp→List Ref→List Ref→Option β):Option β :=
 cond (
    cond split true raw) (Et keep split raw ih f args h k)
  (fzA args keep h [] (Et keep split raw ih f args h k) fun vs rs u lg=>match rs with
   | []=>(match ih f vs ⟨[],[]⟩ with
    | none=>none
    | some p=>match p with
     | (v,h')=>match h' with
      | ⟨own,ext⟩=>List.casesOn (motive:=fun _=>Option β) ext (Gh 12 v ⟨own,[]⟩ [] (Et keep split raw ih f args h k) fun w _ _=>On u h fun h2=>k (.fv w) h2 lg (Bo u)) fun _ _=>none)
   | r::rs=>(match h with
    | ⟨own,ext⟩=>cond (Oh 400 (r::rs) 0 ext) (match ih f vs ⟨[],ext⟩ with
     | none=>none
     | some p=>match p with
      | (v,h')=>match h' with
       | ⟨own',ext'⟩=>cond (and (Nat.beq ext'.length ext.length) (okB ext.length ext'))
        (Gh 12 v ⟨own',ext'⟩ [] (Et keep split raw ih f args h k) fun w _ _=>On u ⟨own,ext'⟩ fun h2=>k (.fv w) h2 ((Dq ext.length).reverse++lg) (Bo u++Dq ext.length)) none)
     (Et keep split raw ih f args h k)))
def Om (E:Env) (ih:Aa) (g:IV) (args:List IV) (h:Hp) (k:IV→Hp→List Ref→List Ref→Option β):Option β:=match callee g with
 | none=>none
 | some (f,first,cap)=>cond (E.pol.inl f) none (spK (first++args++cap) fun args=>Ai (E.pol.keep f) (E.pol.split f) (E.pol.raw f) ih f args h k)
def AsZ (ih:Aa) (f:FuncId) (args:List IV) (h:Hp) (k:IV→Hp→List Ref→List Ref→Option β):Option β:=match ih f args h with
 | none=>none
 | some p=>match p with
  | (v,h)=>k v h [] []
section
variable (E:Env)
def Al (t:TypeId) (len:Nat) (parts:List (Nat×IV)):Rd Made:=match E.T t with
  | some ⟨_,_,.slice e,_⟩=>match E.T e with
   | some ei=>if ei.size=0∨len * ei.size > 65536 then .fail else
    match CF (fun j=>some (j * ei.size,ei.size)) (QQ len ei.zero) parts with
    | some cells=>(frzL 65536 cells).bind fun (vs,u)=>.ret { eff:={ val:=.clip (BT ei.size len vs),upd:=u } }
    | none=>.fail
   | none=>.fail
  | _=>.fail
def L1 (t:TypeId) (parts:List (Nat×IV)):Rd Made:=match E.T t with
  | some ⟨_,_,.struct fs,z⟩=>Gf ((CF (Er E fs) z parts).map EV)
  | some ⟨_,_,.arr _ e,z⟩=>match E.T e with
   | some ei=>Gf ((CF (fun j=>some (j * ei.size,ei.size)) z parts).map EV)
   | none=>.fail
  | _=>.fail
def NW (fz:Bool) (s:Nat) (v:IV):Rd Made :=
  if v.alive=false then .fail else
  if fz then (frzL 4096 v.cells).bind fun (vs,u)=>.ret { eff:={ val:=.fv (.fp vs 0),upd:=u } }
  else .ret { eff:={ val:=.ptr (.own s) 0 },new:=some (.row v.cells false) }
def Aeh (s:Nat):Rd Made:=.ret { eff:={ val:=.mapr (.own s) },new:=some (.map []) }
def TM (t:TypeId) (m k v:IV):Rd Made:=match E.T t with
  | some ⟨_,_,.map kt _,_⟩=>match E.T kt,m,k with
   | some ⟨_,_,.int .i64,_⟩,.mapr r,.fv (.int .i64 n)=>.get r fun
    | .map es =>
     if v.alive∧F6 r v then .ret { eff:={ val:=.dead,upd:=[(r,.map (F7 n v es))] } } else .fail
    | _=>.fail
   | _,_,_=>.fail
  | _=>.fail
def AhN (t:TypeId) (m k:IV) (ok:Bool):Rd Made:=match E.T t with
  | some ⟨
      _,_,.map kt et,_⟩=>match E.T kt,E.T et,m,k with
   | some ⟨_,_,.int .i64,_⟩,some ei,.mapr r,.fv (.int .i64 n)=>.get r fun
    | .map es=>match Ki n es with
     | some v=>val (if ok then Dd [v,.fv (.bool true)] else v)
     | none=>match Xk ei with
      | some z=>val (if ok then Dd [z,.fv (.bool false)] else z)
      | none=>.fail
    | _=>.fail
   | _,_,_,_=>.fail
  | _=>.fail
def Es (s:Nat) (t:TypeId) (l c:IV):Rd Made:=match E.T t with
  | some ⟨_,_,.slice e,_⟩=>match E.T e,l,c with
   | some ei,.fv (.int .i64 a),.fv (.int .i64 b) =>
    if 0≤a∧a≤b∧b≤1048576∧ei.size≠0∧ei.bytes≤65536 then
     .ret { eff:={ val:=.slc (.own s) ei.size a.toNat },new:=some (.row (QQ b.toNat ei.zero) false) }
    else .fail
   | _,_,_=>.fail
  | _=>.fail
def Zh (t:TypeId) (x ix:IV):Rd Made:=match E.T t,x,ix with
  | some ⟨_,_,.str,_⟩,.fv (.str s),.fv (.int _ n)=>if n<0 then .fail else match s[n.toNat]? with
   | some b=>val (.fv (.int .u8 b.toNat))
   | none=>.fail
  | some ⟨_,_,.arr m e,_⟩,.fv (.agg cs),.fv (.int _ n)=>match E.T e with
   | some ei=>if 0≤n∧n<(m:Int) then Gf ((Bq ei.kind.isAgg ei.size (n.toNat * ei.size) cs).map .fv) else .fail
   | none=>.fail
  | _,_,_=>.fail
theorem AfL {ih:Aa} {f rid i:Nat} {ρ:Operand→IV} {t:TypeId} {x:Operand}:CS E ih f rid i ρ (.box t x)=NW (E.pol.fzBox f rid i) (Bg f rid i) (ρ x):=rfl
end
abbrev SF {α:Type} (b:Bool) (x y:α):α:=Bool.rec (motive:=fun _=>α) y x b
theorem BD {α:Type} (b:Bool) (x y:α):SF b x y=cond b x y:=by cases b<;>rfl
section
variable (E:Env) (ih:Aa)
def EZ:Op→Bool
 | .move _ | .assign _ | .pick .. | .nilCheck _ | .binOp .. | .unOp .. | .convert .. | .fieldAddr .. | .field .. | .extract ..=>true
 | .build t _=>match E.T t with
  | some ⟨_,_,.struct _,_⟩=>true
  | _=>false
 | .indexAddr t _ _=>match E.T t with
  | some ⟨_,_,.slice e,_⟩=>(match E.T e with | some _=>true | none=>false)
  | some ⟨_,_,.arr _ e,_⟩=>(match E.T e with | some _=>true | none=>false)
  | _=>false
 | .index t _ _=>match E.T t with
  | some ⟨_,_,.arr _ e,_⟩=>(match E.T e with | some ei=>!ei.kind.isAgg | none=>false)
  | _=>false
 | .call { callee:=.builtin .len,argTypes,args }=>match argTypes.toList,args.toList with
  | [t],[_]=>(match E.T t with | some ⟨_,_,.slice _,_⟩=>true | _=>false)
  | _,_=>false
 | _=>false
def Wt (f:FuncId) (rid i:Nat) (drawn:Bool) (ρ:Operand→IV) (cl:Callee) (args:List Operand) (ts:List TypeId) (h:Hp) (k:IV→Hp→List Ref→List Ref→Option β):Option β:=match cl with
 | .builtin b=>match b,ts,args with
  | .len,[t],[x]=>(match E.T t with
   | some ⟨_,_,.slice _,_⟩=>Bz (ρ x) fun v=>k v h [] []
   | _=>AD (AK E (Bg f rid i) (E.pol.rowApp f rid i) b ts (args.map ρ)) (Bg f rid i) h k)
  | _,_,_=>AD (AK E (Bg f rid i) (E.pol.rowApp f rid i) b ts (args.map ρ)) (Bg f rid i) h k
 | .value g=>match g with
  | .func g=>SF (E.pol.inl g) (SF drawn none (AsZ ih g (args.map ρ) h k)) (Ai (E.pol.keep g) (E.pol.split g) (E.pol.raw g) ih g (args.map ρ) h k)
  | g=>Om E ih (ρ g) (args.map ρ) h k
 | _=>none
def II (f:FuncId) (rid i:Nat) (drawn:Bool) (ρ:Operand→IV) (op:Op) (h:Hp) (k:IV→Hp→List Ref→List Ref→Option β):Option β:=match op with
 | .move x=>k (ρ x) h [] []
 | .assign x=>k (ρ x) h [] []
 | .pick c a b=>AH (ρ c) (ρ a) (ρ b) fun v=>k v h [] []
 | .alloc t=>match E.T t with
  | some ti=>Ay (Bg f rid i) (.row ti.zero false) (.ptr (.own (Bg f rid i)) 0) h k
  | none=>none
 | .box _ x=>SF (E.pol.fzBox f rid i) (fzS (NW true (Bg f rid i) (ρ x)) (Bg f rid i) (ρ x) h k) (AS (Bg f rid i) (ρ x) h k)
 | .build t parts=>match E.T t with
  | some ⟨_,_,.struct fs,z⟩=>(match Kr (Er E fs) parts.toList with
   | some l=>BL z (ZE ρ l) fun v=>k v h [] []
   | none=>none)
  | _=>AD (L1 E t (parts.toList.map fun (j,x)=>(j,ρ x))) (Bg f rid i) h k
 | .buildSlice t len parts=>AD (Al E t len (parts.toList.map fun (j,x)=>(j,ρ x))) (Bg f rid i) h k
 | .makeFunc fn a b=>AD (val (QM fn (a.toList.map ρ) (b.toList.map ρ))) (Bg f rid i) h k
 | .makeMap _ n=>(match n with
  | none=>AD (Aeh (Bg f rid i)) (Bg f rid i) h k
  | some _=>none)
 | .insert t m j x=>AD (TM E t (ρ m) (ρ j) (ρ x)) (Bg f rid i) h k
 | .mapUpdate t m j x=>AD (TM E t (ρ m) (ρ j) (ρ x)) (Bg f rid i) h k
 | .lookup t m j ok=>AD (AhN E t (ρ m) (ρ j) ok) (Bg f rid i) h k
 | .makeSlice t l c=>AD (Es E (Bg f rid i) t (ρ l) (ρ c)) (Bg f rid i) h k
 | .slice t x lo hi mx=>AD (I4 E t (ρ x) (lo.map ρ) (hi.map ρ) (mx.map ρ)) (Bg f rid i) h k
 | .load t a=>match E.T t with
  | none=>none
  | some ti=>SF ti.kind.isAgg (Ad ti.size (ρ a) h fun v rd=>k v h rd []) (Ak (ρ a) h fun v rd=>k v h rd [])
 | .store t a x=>match E.T t with
  | none=>none
  | some ti=>SF (Nat.beq ti.size 1) (B3 (ρ a) (ρ x) h fun h rd wr=>k .dead h rd wr) (Ae ti.size (ρ a) (ρ x) h fun h rd wr=>k .dead h rd wr)
 | .nilCheck x=>AX (ρ x) fun v=>k v h [] []
 | .binOp op t x y _=>AhA E t op (ρ x) (ρ y) fun v=>k v h [] []
 | .unOp op _ x=>CI (Ji op (ρ x)) fun v=>k v h [] []
 | .convert s d x=>match E.T s,E.T d with
  | some _,some ⟨_,_,.int .i64,_⟩=>V6 E s d (ρ x) fun v=>k v h [] []
  | _,_=>CI (JF E s d (ρ x)) fun v=>k v h [] []
 | .fieldAddr s x fd=>match Hh E s fd with
  | some (o,ti)=>SF (Nat.beq ti.size 0) none (Af o (ρ x) fun v=>k v h [] [])
  | none=>none
 | .field s x fd=>match Hh E s fd with
  | some (o,ti)=>SF ti.kind.isAgg (AqJ ti.size o (ρ x) fun v=>k v h [] []) (Ari o (ρ x) fun v=>k v h [] [])
  | none=>none
 | .indexAddr t x ix=>match E.T t with
  | some ⟨_,_,.slice e,_⟩=>(match E.T e with
   | some ei=>AP ei.size (ρ x) (ρ ix) fun v=>k v h [] []
   | none=>none)
  | some ⟨_,_,.arr m e,_⟩=>(match E.T e with
   | some ei=>ixA m ei.size (ρ x) (ρ ix) fun v=>k v h [] []
   | none=>none)
  | _=>none
 | .index t x ix=>match E.T t with
  | some ⟨_,_,.arr m e,_⟩=>(match E.T e with
   | some ei=>SF ei.kind.isAgg (AD (Zh E t (ρ x) (ρ ix)) (Bg f rid i) h k) (AsR m ei.size (ρ x) (ρ ix) fun v=>k v h [] [])
   | none=>none)
  | _=>AD (Zh E t (ρ x) (ρ ix)) (Bg f rid i) h k
 | .extract x ix=>Aq ix (ρ x) fun v=>k v h [] []
 | .call c=>match c with
  | { callee,args,argTypes }=>Wt E ih f rid i drawn ρ callee args.toList argTypes.toList h k
 | _=>none
end
end
end Idl
end Go.Proofs.Ytdibmackcbpniaa
namespace Go.Proofs.Ytdibmackcbpniaa
namespace Idl
section
variable {β:Type} {E:Env} {ih ih':Aa} {f rid i:Nat} {dr:Bool} {ρ:Operand→IV} {hp:Hp} {k:IV→Hp→List Ref→List Ref→Option β} {r:β}
def Avb (E:Env) (ih:Aa) (f rid i:Nat) (ρ:Operand→IV) (op:Op) (hp:Hp) (v:IV) (hp':Hp) (rd wr:List Ref):Prop :=
 ∃m,(CS E ih f rid i ρ op).runLog hp []=some (m,rd)∧AR (Bg f rid i) hp m=some hp'∧m.eff.val=v∧wr=Bo m.eff.upd++HP (Bg f rid i) m
def Gc (E:Env) (ih:Aa) (f rid i:Nat) (ρ:Operand→IV) (op:Op) (hp:Hp) (k:IV→Hp→List Ref→List Ref→Option β) (r:β):Prop :=
 ∃v hp' rd wr,Avb E ih f rid i ρ op hp v hp' rd wr∧k v hp' rd wr=some r∧(EZ E op=true→rd=[]∧wr=[])
theorem AW {op:Op} {v:IV} (e:CS E ih f rid i ρ op=val v) (h:k v hp [] []=some r):Gc E ih f rid i ρ op hp k r :=
 ⟨v,hp,[],[],⟨{ eff:={ val:=v } },by rw [e];rfl,rfl,rfl,rfl⟩,h,fun _=>⟨rfl,rfl⟩⟩
theorem OQ {op:Op} {o:Option IV} (e:CS E ih f rid i ρ op=Gf o) (h:(o.bind fun v=>k v hp [] [])=some r):Gc E ih f rid i ρ op hp k r:=by
 cases o with
 | none=>cases h
 | some v=>exact AW e h
theorem ST {op:Op} {b:Blk} {v:IV} (hq:EZ E op=false) (e:CS E ih f rid i ρ op=.ret { eff:={ val:=v },new:=some b })
  (h:Ay (Bg f rid i) b v hp k=some r):Gc E ih f rid i ρ op hp k r:=by
 obtain ⟨own,ext⟩:=hp;have h:C7 own (Bg f rid i) (Bk own (Bg f rid i) b fun own=>k v ⟨own,ext⟩ [] [.own (Bg f rid i)])=some r:=h;obtain ⟨h1,h2⟩:=Pk h;rw [E5] at h2;refine ⟨v,⟨Bb (Bg f rid i) b own,ext⟩,[],[.own (Bg f rid i)],⟨_,by rw [e];rfl,?_,rfl,rfl⟩,h2,fun q=>by rw [hq] at q;cases q⟩;simp only [AR,laid,Option.bind_some,Cy];rw [show (Hp.mk own ext).get (.own (Bg f rid i))=none from h1]
 rfl
theorem BP {op:Op} {m:Rd Made} (hq:EZ E op=false) (e:CS E ih f rid i ρ op=m) (h:AD m (Bg f rid i) hp k=some r):Gc E ih f rid i ρ op hp k r:=by
 unfold AD at h;cases hm:m.runLog hp [] with
 | none=>rw [hm] at h;cases h
 | some p =>
  obtain ⟨m',rd⟩:=p;rw [hm] at h;simp only at h;obtain ⟨h1,l1,h⟩:=Ad2 _ _ h;have hh:∃h2,Cy (Bg f rid i) m' h1=some h2∧k m'.eff.val h2 rd (Bo m'.eff.upd++HP (Bg f rid i) m')=some r:=by
   unfold Mr at h;unfold Cy;cases hn:m'.new with
   | none=>rw [hn] at h;simp only [CD] at h;exact ⟨h1,rfl,h⟩
   | some b =>
    rw [hn] at h;obtain ⟨own,ext⟩:=h1;simp only [C5,E5,CD] at h;obtain ⟨f1,f2⟩:=Pk h;refine ⟨⟨Bb (Bg f rid i) b own,ext⟩,?_,f2⟩;simp only;rw [show (Hp.mk own ext).get (.own (Bg f rid i))=none from f1]
    rfl
  obtain ⟨h2,l2,h⟩:=hh;exact ⟨_,h2,rd,_,⟨m',by rw [e,hm],by simp only [AR,l1,Option.bind_some,l2],rfl,rfl⟩,h,fun q=>by rw [hq] at q;cases q⟩
theorem NP {x:IV} {e:Option β} {k:FV→Option β} (h:Oj x e k=some r):(∃v,x=.fv v∧k v=some r)∨e=some r:=by
 unfold Oj at h;split at h
 ·exact .inl ⟨_,rfl,h⟩
 ·exact .inr h
theorem Vc {x:IV} {k:List IV→Option β} {kf:List FV→Option β} (h:asAgg x k kf=some r):(∃cs,x=.agg cs∧k cs=some r)∨(∃cs,x=.fv (.agg cs)∧kf cs=some r):=by
 unfold asAgg at h;split at h
 ·exact .inl ⟨_,rfl,h⟩
 ·unfold GI at h;split at h
  ·exact .inr ⟨_,rfl,h⟩
  ·cases h
 ·cases h
theorem Dn {x:IV} {k:Ref→Nat→Option β} {kf:List FV→Nat→Option β} (h:El x k kf=some r):(∃q o,x=.ptr q o∧k q o=some r)∨(∃cs o,x=.fv (.fp cs o)∧kf cs o=some r):=by
 unfold El at h;split at h
 ·exact .inl ⟨_,_,rfl,h⟩
 ·unfold Ata at h;split at h
  ·exact .inr ⟨_,_,rfl,h⟩
  ·cases h
 ·cases h
theorem Gg {b:Blk} {k:List IV→Option β} (h:Ez b k=some r):∃cells ro,b=.row cells ro∧k cells=some r:=by
 unfold Ez at h;split at h
 ·exact ⟨_,_,rfl,h⟩
 ·cases h
theorem OJ {b:Blk} {k:List IV→Option β} (h:Gt b k=some r):∃cells,b=.row cells false∧k cells=some r:=by
 unfold Gt at h;split at h
 ·rename_i ro;cases ro with
  | true=>cases h
  | false=>exact ⟨_,rfl,h⟩
 ·cases h
theorem Sp {x:IV} {k:Ref→Nat→Nat→Option β} {e:Option β} (h:XZ x k e=some r):(∃q sz n,x=.slc q sz n∧k q sz n=some r)∨((∀q sz n,x≠.slc q sz n)∧e=some r):=by
 unfold XZ at h;split at h
 ·exact .inl ⟨_,_,_,rfl,h⟩
 ·rename_i hn;exact .inr ⟨hn,h⟩
theorem Br {α:Type} {o:Option α} {k:α→Option β} (h:o.bind k=some r):∃a,o=some a∧k a=some r:=by
 cases o with
 | none=>cases h
 | some a=>exact ⟨a,rfl,h⟩
theorem Dp {c:Prop} [Decidable c] {a:Option β} (h:(if c then a else none)=some r):c∧a=some r:=by
 by_cases hc:c
 ·rw [if_pos hc] at h;exact ⟨hc,h⟩
 ·rw [if_neg hc] at h;cases h
theorem Dx {c:Bool} {a:Option β} (h:cond c a none=some r):c=true∧a=some r:=by cases c;cases h;exact ⟨rfl,h⟩
theorem Dk {a b:Nat} (h:Nat.beq a b=true):a=b:=Nat.eq_of_beq_eq_true h
theorem Bj {a b:Nat} (h:Nat.ble a b=true):a≤b:=Nat.le_of_ble_eq_true h
theorem EK {t:TypeId} {op:BinOp} {x y:IV} {k:IV→Option β} (h:CC E t op x y k=some r):∃v,Gq E op t x y=some v∧k v=some r:=by
 rw [CC,Cu] at h;exact Br h
theorem AiE {t:TypeId} {x y:IV} {k:IV→Option β} (h:Bv E t x y k=some r):∃v,Gq E .add t x y=some v∧k v=some r:=by
 unfold Bv at h;rcases Fg h with ⟨a,rfl,g'⟩ | h
 ·replace h:=g';clear g';rcases Fg h with ⟨b,rfl,g'⟩ | h
  ·replace h:=g';clear g';cases hc:Nat.ble (a+b) 9223372036854775807 with
   | false=>rw [hc] at h;exact EK h
   | true =>
    rw [hc] at h;simp only [cond,Ds] at h;refine ⟨_,?_,h⟩;have e:IntKind.i64.wrap ((a:Int)+(b:Int))=((a+b:Nat):Int):=by
     rw [← Int.natCast_add];exact Wd (Bj hc)
    show some (IV.fv (.int .i64 (IntKind.i64.wrap ((a:Int)+(b:Int)))))=_
    rw [e]
  ·exact EK h
 ·exact EK h
theorem AjL {t:TypeId} {x y:IV} {k:IV→Option β} (h:Bd E t x y k=some r):∃v,Gq E .sub t x y=some v∧k v=some r:=by
 unfold Bd at h;rcases Fg h with ⟨a,rfl,g'⟩ | h
 ·replace h:=g';clear g';rcases Fg h with ⟨b,rfl,g'⟩ | h
  ·replace h:=g';clear g';cases hc:(and (Nat.ble b a) (Nat.ble a 9223372036854775807)) with
   | false=>rw [hc] at h;exact EK h
   | true =>
    rw [hc] at h;simp only [cond,Ds] at h;refine ⟨_,?_,h⟩;have hc:(Nat.ble b a && Nat.ble a 9223372036854775807)=true:=hc;simp only [Bool.and_eq_true] at hc;have h1:=Bj hc.1;have h2:=Bj hc.2;have e:IntKind.i64.wrap ((a:Int) - (b:Int))=((a - b:Nat):Int):=by
     rw [← Int.natCast_sub h1];exact Wd (by omega)
    show some (IV.fv (.int .i64 (IntKind.i64.wrap ((a:Int) - (b:Int)))))=_
    rw [e]
  ·exact EK h
 ·exact EK h
theorem HZ {t:TypeId} {op:BinOp} {g:Nat→Nat→Bool} (hg:∀a b:Nat,Gq E op t (.fv (.int .i64 a)) (.fv (.int .i64 b))=some (.fv (.bool (g a b)))) {x y:IV} {k:IV→Option β}
  (h:Rj E t op g x y k=some r):∃v,Gq E op t x y=some v∧k v=some r:=by
 unfold Rj at h;rcases Fg h with ⟨a,rfl,g'⟩ | h
 ·replace h:=g';clear g';rcases Fg h with ⟨b,rfl,g'⟩ | h
  ·replace h:=g';clear g';rw [UP] at h;exact ⟨_,hg a b,h⟩
  ·exact EK h
 ·exact EK h
theorem HK (a b:Nat):Nat.beq a b=decide (a=b):=by
 cases h:Nat.beq a b with
 | true=>rw [Dk h];simp
 | false =>
  have:a≠b:=fun e=>by rw [e,show Nat.beq b b=true from Nat.beq_refl b] at h;cases h
  simp [this]
theorem BU (a b:Nat):Nat.ble a b=decide (a≤b):=by
 cases h:Nat.ble a b with
 | true=>have:=Bj h;simp [this]
 | false =>
  have:¬ a≤b:=fun e=>by rw [Nat.ble_eq_true_of_le e] at h;cases h
  simp [this]
theorem AeW {t:TypeId} {op:BinOp} {x y:IV} {k:IV→Option β} (h:AhA E t op x y k=some r):∃v,Gq E op t x y=some v∧k v=some r:=by
 cases op with
 | add=>exact AiE h
 | sub=>exact AjL h
 | eql =>
  refine HZ (fun a b=>?_) h
  show some (IV.fv (.bool ((a:Int) == (b:Int))))=_
  rw [HK];congr 3;exact decide_eq_decide.2 Int.ofNat_inj
 | neq =>
  refine HZ (fun a b=>?_) h
  show some (IV.fv (.bool ((a:Int) != (b:Int))))=_
  rw [HK];congr 3
  show (!decide ((a:Int)=(b:Int)))=!decide (a=b)
  congr 1;exact decide_eq_decide.2 Int.ofNat_inj
 | lss =>
  refine HZ (fun a b=>?_) h
  show some (IV.fv (.bool (decide ((a:Int)<(b:Int)))))=_
  rw [BU];congr 3;exact decide_eq_decide.2 (by omega)
 | leq =>
  refine HZ (fun a b=>?_) h
  show some (IV.fv (.bool (decide ((a:Int)≤(b:Int)))))=_
  rw [BU];congr 3;exact decide_eq_decide.2 (by omega)
 | gtr =>
  refine HZ (fun a b=>?_) h
  show some (IV.fv (.bool (decide ((a:Int) > (b:Int)))))=_
  rw [BU];congr 3;exact decide_eq_decide.2 (by omega)
 | geq =>
  refine HZ (fun a b=>?_) h
  show some (IV.fv (.bool (decide ((a:Int) ≥ (b:Int)))))=_
  rw [BU];congr 3;exact decide_eq_decide.2 (by omega)
 | _=>exact EK h
theorem AeV {s d:TypeId} {x:IV} {si:TI} {a b:Nat} {z:List IV} (h1:E.T s=some si) (h2:E.T d=some ⟨a,b,.int .i64,z⟩) {k:IV→Option β} (h:V6 E s d x k=some r) :
  ∃v,JF E s d x=some v∧k v=some r:=by
 have hg:CI (JF E s d x) k=some r→∃v,JF E s d x=some v∧k v=some r:=fun h=>by rw [Cu] at h;exact Br h
 unfold V6 at h;rcases Fg h with ⟨n,rfl,g'⟩ | h
 ·replace h:=g';clear g';cases hc:Nat.ble n 9223372036854775807 with
  | false=>rw [hc] at h;exact hg h
  | true =>
   rw [hc] at h;simp only [cond,Ds] at h;refine ⟨_,?_,h⟩;simp only [JF,h1,h2];rw [Wd (Bj hc)]
 ·exact hg h
theorem AqU {t:TypeId} {a:Operand} (h:II E ih' f rid i dr ρ (.load t a) hp k=some r):Gc E ih f rid i ρ (.load t a) hp k r:=by
 simp only [II,BD] at h;cases ht:E.T t with
 | none=>rw [ht] at h;cases h
 | some ti =>
  rw [ht] at h;simp only at h;cases hag:ti.kind.isAgg with
  | true =>
   rw [hag] at h;simp only [cond,Ad] at h;rcases Dn h with ⟨q,o,ha,h⟩ | ⟨cs,o,ha,h⟩
   ·rw [D5] at h;obtain ⟨b,hb,h⟩:=Br h;obtain ⟨cells,ro,rfl,g'⟩:=Gg h;replace h:=g';clear g';rw [JW] at h;obtain ⟨h1,h⟩:=Dp h;rw [Kb] at h;obtain ⟨h2,h⟩:=Dp h;rw [Qp] at h;refine ⟨_,hp,[q],[],⟨{ eff:={ val:=EV ((cells.drop o).take ti.size) } },?_,rfl,rfl,rfl⟩,h,fun q=>by cases q⟩;simp only [CS,ht,ha,Rd.runLog,hb,Ci,hag,if_true];rw [if_pos (by simp at h2;omega)];rfl
   ·rw [JW] at h;obtain ⟨h1,h⟩:=Dp h;rw [Kb] at h;obtain ⟨h2,h⟩:=Dp h;refine ⟨_,hp,[],[],⟨{ eff:={ val:=.fv (.agg ((cs.drop o).take ti.size)) } },?_,rfl,rfl,rfl⟩,h,fun q=>by cases q⟩;simp only [CS,ht,ha,Bq,hag,if_true];rw [if_pos (by simp at h2;omega)];rfl
  | false =>
   rw [hag] at h;simp only [cond,Ak] at h;rcases Dn h with ⟨q,o,ha,h⟩ | ⟨cs,o,ha,h⟩
   ·rw [D5] at h;obtain ⟨b,hb,h⟩:=Br h;obtain ⟨cells,ro,rfl,g'⟩:=Gg h;replace h:=g';clear g';rw [C2] at h;obtain ⟨v,hv,h⟩:=Br h;refine ⟨_,hp,[q],[],⟨{ eff:={ val:=v } },?_,rfl,rfl,rfl⟩,h,fun q=>by cases q⟩;simp only [CS,ht,ha,Rd.runLog,hb,Ci,hag,Bool.false_eq_true,if_false,hv];rfl
   ·rw [C2] at h;obtain ⟨v,hv,h⟩:=Br h;refine ⟨_,hp,[],[],⟨{ eff:={ val:=.fv v } },?_,rfl,rfl,rfl⟩,h,fun q=>by cases q⟩;simp only [CS,ht,ha,Bq,hag,Bool.false_eq_true,if_false,hv];rfl
theorem YW (cells:List IV) (o:Nat) (v:IV):A3 cells o [v]=cells.set o v:=rfl
theorem AlM {t:TypeId} {a x:Operand} (h:II E ih' f rid i dr ρ (.store t a x) hp k=some r):Gc E ih f rid i ρ (.store t a x) hp k r:=by
 simp only [II,BD] at h;cases ht:E.T t with
 | none=>rw [ht] at h;cases h
 | some ti =>
  rw [ht] at h;simp only at h;have key:∀q o cells,ρ a=.ptr q o→hp.get q=some (.row cells false) →
    ((ρ x).alive=true∧(ρ x).cells.length=ti.size∧o+ti.size≤cells.length∧(ρ x).cells.all IV.one=true∧F6 q (ρ x)=true) →
    k .dead (hp.set q (.row (A3 cells o (ρ x).cells) false)) [q] [q]=some r→Gc E ih f rid i ρ (.store t a x) hp k r:=by
   intro q o cells ha hb hc h;refine ⟨_,_,[q],[q],⟨{ eff:={ val:=.dead,upd:=[(q,.row (A3 cells o (ρ x).cells) false)] } },?_,?_,rfl,rfl⟩,h,fun q=>by cases q⟩
   ·simp only [CS,ht,ha,Rd.runLog,hb];rw [if_pos hc];rfl
   ·simp only [AR,laid,hb,Option.bind_some,Cy]
  have gen:Ae ti.size (ρ a) (ρ x) hp (fun h rd wr=>k .dead h rd wr)=some r→Gc E ih f rid i ρ (.store t a x) hp k r:=by
   intro h;simp only [Ae] at h;rcases Dn h with ⟨q,o,ha,h⟩ | ⟨cs,o,ha,h⟩
   ·rw [D5] at h;obtain ⟨b,hb,h⟩:=Br h;obtain ⟨cells,rfl,g'⟩:=OJ h;replace h:=g';clear g';rcases NP h with ⟨v,hx,h⟩ | h
    ·simp only [GI] at h;split at h
     ·rename_i cs;obtain ⟨hc,h⟩:=Dx h;have hc:(Nat.beq cs.length ti.size && EN cs)=true:=hc;simp only [Bool.and_eq_true] at hc;obtain ⟨h1,h⟩:=N5 cells o cs h;rw [Jl] at h;have hl:=Dk hc.1;refine key q o cells ha hb ⟨by rw [hx];rfl,by rw [hx];simp [IV.cells,hl],by omega,by rw [hx];exact Nc cs hc.2,by rw [hx];cases q<;>rfl⟩ ?_;rw [hx];exact h
     ·cases h
    ·obtain ⟨hc,h⟩:=Dp h;rw [GW,Jl] at h;exact key q o cells ha hb hc h
   ·cases h
  cases hs:Nat.beq ti.size 1 with
  | true =>
   rw [hs] at h;have hs:=Dk hs;simp only [cond,B3] at h;cases ho:(ρ x).one with
   | false =>
    rw [ho] at h;rw [← hs] at h;exact gen h
   | true =>
    rw [ho] at h;simp only at h;rcases Dn h with ⟨q,o,ha,h⟩ | ⟨cs,o,ha,h⟩
    ·rw [D5] at h;obtain ⟨b,hb,h⟩:=Br h;obtain ⟨cells,rfl,g'⟩:=OJ h;replace h:=g';clear g';cases hc:F6 q (ρ x) with
     | false=>rw [hc] at h;cases h
     | true =>
      rw [hc] at h;simp only at h;rw [AaT] at h;obtain ⟨hlt,h⟩:=Dp h;rw [Jl] at h;obtain ⟨c1,c2⟩:=KI ho;refine key q o cells ha hb ⟨c2,by rw [c1,hs];rfl,by omega,by rw [c1];simp [ho],hc⟩ ?_;rw [c1,YW];exact h
    ·cases h
  | false =>
   rw [hs] at h;exact gen h
end
end Idl
end Go.Proofs.Ytdibmackcbpniaa
set_option linter.unusedSimpArgs false
namespace Go.Proofs.Ytdibmackcbpniaa
namespace Idl
section
variable {β:Type} {E:Env} {ih ih':Aa} {f rid i:Nat} {dr:Bool} {ρ:Operand→IV} {hp:Hp} {k:IV→Hp→List Ref→List Ref→Option β} {r:β}
theorem O1 {size o:Nat} {cs:List IV} {k:IV→Option β} (h:(Fi cs o fun cs=>F4 cs size fun cs=>Ol cs k)=some r) :
  Ci true size o cs=some (EV ((cs.drop o).take size))∧k (EV ((cs.drop o).take size))=some r:=by
 rw [JW] at h;obtain ⟨h1,h⟩:=Dp h;rw [Kb] at h;obtain ⟨h2,h⟩:=Dp h;rw [Qp] at h;refine ⟨?_,h⟩;simp only [Ci,if_true];rw [if_pos (by simp at h2;omega)]
theorem Mt {size o:Nat} {cs:List FV} {k:IV→Option β} (h:(Fi cs o fun cs=>F4 cs size fun cs=>k (.fv (.agg cs)))=some r) :
  Bq true size o cs=some (.agg ((cs.drop o).take size))∧k (.fv (.agg ((cs.drop o).take size)))=some r:=by
 rw [JW] at h;obtain ⟨h1,h⟩:=Dp h;rw [Kb] at h;obtain ⟨h2,h⟩:=Dp h;refine ⟨?_,h⟩;simp only [Bq,if_true];rw [if_pos (by simp at h2;omega)]
theorem Anf {s:TypeId} {x:Operand} {fd:Nat} (h:II E ih' f rid i dr ρ (.field s x fd) hp k=some r):Gc E ih f rid i ρ (.field s x fd) hp k r:=by
 simp only [II,BD] at h;cases hf:Hh E s fd with
 | none=>rw [hf] at h;cases h
 | some p =>
  obtain ⟨o,ti⟩:=p;rw [hf] at h;simp only at h;cases hag:ti.kind.isAgg with
  | true =>
   rw [hag] at h;simp only [cond,AqJ] at h;rcases Vc h with ⟨cs,hx,h⟩ | ⟨cs,hx,h⟩
   ·obtain ⟨h1,h2⟩:=O1 (k:=fun v=>k v hp [] []) h;exact AW (by simp only [CS,hf,hx,hag,h1];rfl) h2
   ·obtain ⟨h1,h2⟩:=Mt (k:=fun v=>k v hp [] []) h;exact AW (by simp only [CS,hf,hx,hag,h1];rfl) h2
  | false =>
   rw [hag] at h;simp only [cond,Ari] at h;rcases Vc h with ⟨cs,hx,h⟩ | ⟨cs,hx,h⟩
   ·rw [C2] at h;obtain ⟨v,hv,h⟩:=Br h;exact AW (by simp only [CS,hf,hx,hag,Ci,Bool.false_eq_true,if_false,hv];rfl) h
   ·rw [C2] at h;obtain ⟨v,hv,h⟩:=Br h;exact AW (by simp only [CS,hf,hx,hag,Bq,Bool.false_eq_true,if_false,hv];rfl) h
theorem UN {s:TypeId} {x:Operand} {fd:Nat} (h:II E ih' f rid i dr ρ (.fieldAddr s x fd) hp k=some r):Gc E ih f rid i ρ (.fieldAddr s x fd) hp k r:=by
 simp only [II,BD] at h;cases hf:Hh E s fd with
 | none=>rw [hf] at h;cases h
 | some p =>
  obtain ⟨o,ti⟩:=p;rw [hf] at h;simp only [GB] at h;by_cases hs:ti.size=0
  ·rw [if_pos hs] at h;cases h
  ·rw [if_neg hs] at h;unfold Af at h;rcases Dn h with ⟨q,off,hx,h⟩ | ⟨cs,off,hx,h⟩
   ·rw [B4] at h;exact AW (by simp only [CS,hf,hx,if_neg hs]) h
   ·rw [B4] at h;exact AW (by simp only [CS,hf,hx,if_neg hs]) h
theorem Atm {x:Operand} (h:II E ih' f rid i dr ρ (.nilCheck x) hp k=some r):Gc E ih f rid i ρ (.nilCheck x) hp k r:=by
 simp only [II,BD] at h;unfold AX at h;split at h
 ·rename_i hx;exact AW (by simp only [CS,hx]) h
 ·rename_i hx;unfold AtL at h;split at h
  ·exact AW (by simp only [CS,hx]) h
  ·unfold Amy at h;split at h
   ·exact AW (by simp only [CS,hx]) h
   ·cases h
  ·cases h
 ·rename_i hx;unfold Amy at h;split at h
  ·exact AW (by simp only [CS,hx]) h
  ·cases h
 ·cases h
theorem Ae4 {x:Operand} {ix:Nat} (h:II E ih' f rid i dr ρ (.extract x ix) hp k=some r):Gc E ih f rid i ρ (.extract x ix) hp k r:=by
 simp only [II,BD] at h;unfold Aq at h;split at h
 ·rename_i hx;rw [C2] at h;obtain ⟨v,hv,h⟩:=Br h;exact AW (by simp only [CS,hx,hv];rfl) h
 ·rename_i hx;simp only [Atk] at h;split at h
  ·rw [C2] at h;obtain ⟨v,hv,h⟩:=Br h;exact AW (by simp only [CS,hx,hv];rfl) h
  ·cases h
 ·cases h
theorem Aq2 {c a b:Operand} (h:II E ih' f rid i dr ρ (.pick c a b) hp k=some r):Gc E ih f rid i ρ (.pick c a b) hp k r:=by
 simp only [II,AH] at h;obtain ⟨t,hc,h⟩:=UZ h;cases t with
 | true=>exact AW (by simp only [CS,hc];rfl) h
 | false=>exact AW (by simp only [CS,hc];rfl) h
theorem VB {t:TypeId} {x ix:Operand} (h:II E ih' f rid i dr ρ (.indexAddr t x ix) hp k=some r):Gc E ih f rid i ρ (.indexAddr t x ix) hp k r:=by
 simp only [II,BD] at h;split at h
 ·rename_i e z ht;split at h
  ·rename_i ei he;unfold AP at h;obtain ⟨kd,n,hi,h⟩:=Ru h;rcases Sp h with ⟨q,sz,len,hx,h⟩ | ⟨hx,h⟩
   ·obtain ⟨hc,h⟩:=Dx h;have hc:(Nat.ble (Nat.succ n) len && Nat.beq sz ei.size)=true:=hc;simp only [Bool.and_eq_true] at hc;have h1:=Bj hc.1;have h2:=Dk hc.2;rw [B4] at h;refine AW ?_ h;simp only [CS,KO,ht,he,hi,hx];rw [if_pos ⟨by omega,by omega,h2⟩];rfl
   ·rw [Zu] at h;obtain ⟨es,he2,h⟩:=Br h;rw [C2] at h;obtain ⟨el,hel,h⟩:=Br h;rw [AfM] at h;obtain ⟨hl,h⟩:=Dp h;refine AW ?_ h;simp only [CS,KO,ht,he,hi];cases hxx:ρ x with
    | slc q sz len=>exact absurd hxx (hx q sz len)
    | _ =>
     rw [hxx] at he2;simp only [he2];rw [if_neg (by omega)];simp only [Int.toNat_natCast,hel];rw [if_pos hl]
  ·cases h
 ·rename_i m e z ht;split at h
  ·rename_i ei he;unfold ixA at h;obtain ⟨kd,n,hi,h⟩:=Ru h;obtain ⟨hc,h⟩:=Dx h;have hc:=Bj hc;have hlt:(0:Int)≤(n:Int)∧(n:Int)<(m:Int):=⟨by omega,by omega⟩;rcases Dn h with ⟨q,o,hx,h⟩ | ⟨cs,o,hx,h⟩
   ·rw [B4] at h;refine AW ?_ h;simp only [CS,KO,ht,he,hi,hx];rw [if_pos hlt];rfl
   ·rw [B4] at h;refine AW ?_ h;simp only [CS,KO,ht,he,hi,hx];rw [if_pos hlt];rfl
  ·cases h
 ·cases h
theorem AlF {t:TypeId} {x ix:Operand} (h:II E ih' f rid i dr ρ (.index t x ix) hp k=some r):Gc E ih f rid i ρ (.index t x ix) hp k r:=by
 simp only [II,BD] at h;split at h
 ·rename_i m e z ht;split at h
  ·rename_i ei he;cases hag:ei.kind.isAgg with
   | true=>rw [hag] at h;exact BP (by simp only [EZ,ht,he,hag];rfl) rfl h
   | false =>
    rw [hag] at h;simp only [cond,AsR] at h;obtain ⟨kd,n,hi,h⟩:=Ru h;obtain ⟨hc,h⟩:=Dx h;have hc:=Bj hc;rcases NP h with ⟨v,hx,h⟩ | h
    ·simp only [GI] at h;split at h
     ·rw [C2] at h;obtain ⟨w,hw,h⟩:=Br h;refine AW ?_ h;simp only [CS,ht,hi,hx,he];rw [if_pos ⟨by omega,by omega⟩];simp only [hag,Bq,Bool.false_eq_true,if_false,Int.toNat_natCast,hw];rfl
     ·cases h
    ·cases h
  ·cases h
 ·rename_i hn;refine BP ?_ rfl h;simp only [EZ]
theorem AfW {z:List IV} {o sz:Nat} {v:IV} {k:List IV→Option β} (h:K1 z o sz v k=some r):(v.alive=true∧v.cells.length=sz∧o+sz≤z.length)∧k (A3 z o v.cells)=some r:=by
 have one:v.one=true→(cond (Nat.beq sz 1) (Jq z o v k) none)=some r→(v.alive=true∧v.cells.length=sz∧o+sz≤z.length)∧k (A3 z o v.cells)=some r:=by
  intro ho h;obtain ⟨hs,h⟩:=Dx h;have hs:=Dk hs;rw [AaT] at h;obtain ⟨hlt,h⟩:=Dp h;obtain ⟨c1,c2⟩:=KI ho;refine ⟨⟨c2,by rw [c1,hs];rfl,by omega⟩,?_⟩;rw [c1,YW];exact h
 unfold K1 at h;rcases NP h with ⟨w,rfl,g'⟩ | h
 ·replace h:=g';clear g';cases ho:IX w with
  | true =>
   rw [ho] at h;exact one (by cases w<;>first | rfl | cases ho) h
  | false =>
   rw [ho] at h;simp only [cond,GI] at h;split at h
   ·rename_i cs;cases hc:Nat.beq cs.length sz with
    | false=>rw [hc] at h;cases h
    | true =>
     rw [hc] at h;have hc:=Dk hc;obtain ⟨h1,h⟩:=N5 z o cs h;exact ⟨⟨rfl,by simp [IV.cells,hc],by omega⟩,h⟩
   ·cases h
 ·unfold AcF at h;cases ho:v.one with
  | true=>rw [ho] at h;exact one ho h
  | false =>
   rw [ho] at h;simp only [cond] at h;obtain ⟨hc,h⟩:=Dp h;rw [GW] at h;exact ⟨hc,h⟩
theorem SO:∀(pl:List (Nat×Operand)) (place:Nat→Option (Nat×Nat)) (l:List (Nat×Nat×Operand)) (z:List IV) {k:List IV→Option β},Kr place pl=some l→L6 z (ZE ρ l) k=some r →
  ∃cells,CF place z (pl.map fun (j,x)=>(j,ρ x))=some cells∧k cells=some r
 | [],place,l,z,k,hp,h=>by
  simp only [Kr,Ayi] at hp;subst hp;exact ⟨z,rfl,h⟩
 | (j,x)::pl,place,l,z,k,hp,h=>by
  simp only [Kr] at hp;cases hj:place j with
  | none=>rw [hj] at hp;cases hp
  | some os =>
   obtain ⟨o,s⟩:=os;rw [hj] at hp;simp only at hp;cases hpl:Kr place pl with
   | none=>rw [hpl] at hp;cases hp
   | some l' =>
    rw [hpl] at hp;simp only [Ayi] at hp;subst hp;have h:(K1 z o s (ρ x) fun z=>L6 z (ZE ρ l') k)=some r:=h;simp only [Ayo,CF,hj];obtain ⟨hc,h⟩:=AfW h;rw [if_pos hc];exact SO pl place l' _ hpl h
theorem Ama {t:TypeId} {parts:Array (Nat×Operand)} (h:II E ih' f rid i dr ρ (.build t parts) hp k=some r):Gc E ih f rid i ρ (.build t parts) hp k r:=by
 simp only [II,BD] at h;split at h
 ·rename_i fs z ht;split at h
  ·rename_i l hl;unfold BL at h;obtain ⟨cells,h1,h2⟩:=SO _ _ _ _ hl h;rw [Qp] at h2;refine AW ?_ h2;simp only [CS,ht,h1];rfl
  ·cases h
 ·rename_i hn;refine BP ?_ rfl h;simp only [EZ]
theorem At4 {t:TypeId} {x:Operand} (h:II E ih' f rid i dr ρ (.box t x) hp k=some r):Gc E ih f rid i ρ (.box t x) hp k r:=by
 simp only [II,BD] at h;have hg:E.pol.fzBox f rid i=true→CS E ih f rid i ρ (.box t x)=NW true (Bg f rid i) (ρ x):=fun e=>by rw [AfL,e]
 cases hz:E.pol.fzBox f rid i with
 | true =>
  rw [hz] at h;simp only [cond,fzS] at h;rcases NP h with ⟨v,hx,h⟩ | h
  ·simp only [AsB] at h;split at h
   ·rename_i cs;cases hc:Nat.ble cs.length 2000 with
    | false=>rw [hc] at h;exact BP rfl (hg hz) h
    | true =>
     rw [hc] at h;have hc:=Bj hc;have key:∀(n:Nat) (cs:List FV),cs.length<n→frzL n (cs.map .fv)=.ret (cs,[]):=by
      intro n
      induction n with
      | zero=>intro cs h;omega
      | succ n ih =>
       intro cs h;cases cs with
       | nil=>rfl
       | cons c cs =>
        cases n with
        | zero=>simp at h
        | succ n =>
         simp only [Ayo,frzL,CR,Rd.bind];rw [ih cs (by simp at h ⊢;omega)];rfl
     refine ⟨_,hp,[],[],⟨{ eff:={ val:=.fv (.fp cs 0),upd:=[] } },?_,rfl,rfl,rfl⟩,h,fun q=>by cases q⟩;simp only [CS,hx,IV.alive,Bool.true_eq_false,if_false,hz,if_true,IV.cells,key 4096 cs (by omega)];rfl
   ·exact BP rfl (hg hz) h
  ·exact BP rfl (hg hz) h
 | false =>
  rw [hz] at h;simp only [cond,AS] at h;have key:∀cs,(ρ x).cells=cs→(ρ x).alive=true→Ay (Bg f rid i) (.row cs false) (.ptr (.own (Bg f rid i)) 0) hp k=some r→Gc E ih f rid i ρ (.box t x) hp k r:=by
   intro cs hcs ha h;refine ST rfl ?_ h;simp only [CS,ha,Bool.true_eq_false,if_false,hz,Bool.false_eq_true,hcs]
  cases ho:(ρ x).one with
  | true =>
   rw [ho] at h;obtain ⟨c1,c2⟩:=KI ho;exact key _ c1 c2 h
  | false =>
   rw [ho] at h;simp only at h;obtain ⟨ha,h⟩:=Dx h;rw [GW] at h;exact key _ rfl ha h
theorem Aen {s d:TypeId} {x:Operand} (h:II E ih' f rid i dr ρ (.convert s d x) hp k=some r):Gc E ih f rid i ρ (.convert s d x) hp k r:=by
 simp only [II,BD] at h;split at h
 ·rename_i hs hd;obtain ⟨v,h1,h2⟩:=AeV hs hd h;exact AW (by simp only [CS,h1];rfl) h2
 ·rw [Cu] at h;exact OQ rfl h
def Iso (E:Env) (ih:Aa) (g:FuncId) (args:List IV) (hp:Hp) (k:IV→Hp→List Ref→List Ref→Option β) (r:β):Prop :=
 ∃e rd hp',(GF E ih g args).runLog hp []=some (e,rd)∧laid hp e.upd=some hp'∧k e.val hp' rd (Bo e.upd)=some r
theorem Jr (hi:∀f args h x,ih' f args h=some x→ih f args h=some x) {g:FuncId} {args:List IV} (h:Et (E.pol.keep g) (E.pol.split g) (E.pol.raw g) ih' g args hp k=some r):Iso E ih g args hp k r:=by
 have hasked:∀args ext x,Eu (E.pol.split g) ih' g args ext=some x→asked E ih g args ext=some x:=by
  intro args ext x e;unfold Eu at e;unfold asked;split at e
  ·rename_i hs;rw [if_pos hs];split at e
   ·split at e
    ·rename_i hc;simp only [Bool.and_eq_true] at hc;have mono:∀{o o':Option (IV×Hp)},(∀x,o=some x→o'=some x)→Cj o=true→Cj o'=true:=by
      intro o o' hm h;cases o with
      | none=>cases h
      | some x=>rw [hm x rfl];exact h
     rw [if_pos (by rw [mono (hi _ _ _) hc.1,mono (hi _ _ _) hc.2];rfl)];exact e
    ·cases e
   ·rename_i hne
    have:=hi _ _ _ _ e
    split
    ·exact absurd rfl (fun e=>hne rfl e)
    ·exact this
  ·rename_i hs;rw [if_neg hs];exact hi _ _ _ _ e
 unfold Et at h;split at h
 ·cases h
 rename_i vs rs u l1 h1;split at h
 ·cases h
 rename_i l l2 h2;split at h
 ·cases h
 rename_i vs' h3;split at h
 ·cases h
 rename_i ext h4;simp only [CZ (CD 3),CZ C5] at h;split at h
 ·cases h
 rename_i res hp' h5;split at h
 ·cases h
 rename_i res1 h6;split at h
 ·cases h
 rename_i res2 h7;split at h
 ·cases h
 rename_i ext' h8;obtain ⟨hc,h⟩:=Dp h;split at h
 ·cases h
 rename_i hp2 h9;simp only [JS,CD] at h;refine ⟨{ val:=res2,upd:=u++(Bo l).zip ext' },l2,hp2,?_,h9,h⟩;simp only [GF,Bt,h1,h2,Option.bind_some,h3,h4,hasked _ _ _ h5];rw [show G9 E g res hp'=some res1 from h6]
 simp only [Option.bind_some,h7,h8];rw [if_pos hc];rfl
def Aqm (M:Nat) (g:FzK β):Prop:=∀v h lg e k r,g v h lg e k=some r→e=some r∨∃x u lg',(∀N,M≤N→(CR N v).runLog h lg=some ((x,u),lg'))∧(∀p∈u,∃s,p.1=Ref.own s)∧k x u lg'=some r
theorem HM {M:Nat} {g:FzK β} (hg:Aqm M g):∀(l:List IV) h lg e k r,Ew g l h lg e k=some r →
  e=some r∨∃xs us lg',(∀N,M+l.length+1≤N→(frzL N l).runLog h lg=some ((xs,us),lg'))∧(∀p∈us,∃s,p.1=Ref.own s)∧k xs us lg'=some r
 | [],h,lg,e,k,r,hh=>.inr ⟨[],[],lg,fun N hN=>(by cases N with | zero=>simp at hN | succ N=>rfl),fun p hp=>(by cases hp),hh⟩
 | v::l,h,lg,e,k,r,hh=>by
  have hh:(g v h lg e fun y u lg=>Ew g l h lg e fun ys us lg=>Rt u us fun w=>k (y::ys) w lg)=some r:=hh;rcases hg _ _ _ _ _ _ hh with h1 | ⟨x,u,lg1,h1,hu,hh⟩
  ·exact .inl h1
  ·rcases HM hg l _ _ _ _ _ hh with h2 | ⟨xs,us,lg2,h2,hus,hh⟩
   ·exact .inl h2
   ·rw [WW] at hh;refine .inr ⟨x::xs,u++us,lg2,fun N hN=>?_,fun p hp=>?_,hh⟩
    ·cases N with
     | zero=>simp at hN
     | succ N =>
      simp only [Aym] at hN;simp only [frzL,Bt,h1 N (by omega),Option.bind_some,h2 N (by omega)];rfl
    ·rcases List.mem_append.1 hp with hp | hp
     ·exact hu p hp
     ·exact hus p hp
theorem NX:∀d,Aqm (β:=β) (310 * d) (Gh d)
 | 0=>fun v h lg e k r hh=>.inl hh
 | d+1=>by
  intro v h lg e k r hh;have ihd:Aqm (β:=β) (310 * d) (Gh d):=NX d;have one:∀{w:FV},(∀N,CR (N+1) v=.ret (w,[]))→k w [] lg=some r→e=some r∨∃x u lg',(∀N,310 * (d+1)≤N→(CR N v).runLog h lg=some ((x,u),lg'))∧(∀p∈u,∃s,p.1=Ref.own s)∧k x u lg'=some r:=by
   intro w hw hk;refine .inr ⟨w,[],lg,fun N hN=>?_,fun p hp=>(by cases hp),hk⟩;cases N with
   | zero=>omega
   | succ N=>rw [hw];rfl
  have own:∀{q:Ref} {e:Option β} {k:Nat→Option β},Wz q e k=some r→e=some r∨∃s,q=.own s∧k s=some r:=by
   intro q e k h;cases q with
   | own s=>exact .inr ⟨s,rfl,h⟩
   | ext j=>exact .inl h
  have cnd2:∀{c:Bool} {a e:Option β},cond c a e=some r→e=some r∨(c=true∧a=some r):=by
   intro c a e h;cases c with
   | true=>exact .inr ⟨rfl,h⟩
   | false=>exact .inl h
  cases v with
  | fv w=>exact one (fun _=>rfl) hh
  | nils=>exact one (fun _=>rfl) hh
  | emp=>exact one (fun _=>rfl) hh
  | clip es=>exact one (fun _=>rfl) hh
  | app q es=>exact one (fun _=>rfl) hh
  | dead=>exact .inl hh
  | tuple vs=>exact .inl hh
  | mapr q=>exact .inl hh
  | ptr q off =>
   have hh:(Wz q e fun s=>Ep (.own s) h fun b=>Ez b fun cells=>cond (Nat.ble cells.length 300) (Ew (Gh d) cells h (.own s::lg) e fun cs u lg=>k (.fp cs off) ((.own s,.row cells true)::u) lg) e)=some r:=hh;rcases own hh with h1 | ⟨s,rfl,g'⟩
   ·exact .inl h1
   ·replace hh:=g';clear g';rw [D5] at hh;obtain ⟨b,hb,hh⟩:=Br hh;obtain ⟨cells,ro,hbb,hh⟩:=Gg hh;rcases cnd2 hh with h1 | ⟨hl,hh⟩
    ·exact .inl h1
    ·have hl:=Bj hl;rcases HM ihd cells _ _ _ _ _ hh with h1 | ⟨xs,us,lg2,h2,hus,hh⟩
     ·exact .inl h1
     ·refine .inr ⟨_,_,_,fun N hN=>?_,fun p hp=>?_,hh⟩
      ·cases N with
       | zero=>omega
       | succ N =>
        simp only [CR,Rd.runLog,hb,hbb,Bt,h2 N (by omega),Option.bind_some]
      ·rcases List.mem_cons.1 hp with rfl | hp
       ·exact ⟨s,rfl⟩
       ·exact hus p hp
  | slc q sz len =>
   have hh:(Wz q e fun s=>Ep (.own s) h fun b=>Ez b fun cells=>cond (Nat.ble cells.length 300) (cond (or (Nat.beq sz 0) (not (Nat.ble (len * sz) cells.length))) none
    (Ew (Gh d) cells h (.own s::lg) e fun cs u lg=>chK sz len cs fun els=>k (.sl els) ((.own s,.row cells true)::u) lg)) e)=some r:=hh
   rcases own hh with h1 | ⟨s,rfl,g'⟩
   ·exact .inl h1
   ·replace hh:=g';clear g';rw [D5] at hh;obtain ⟨b,hb,hh⟩:=Br hh;obtain ⟨cells,ro,hbb,hh⟩:=Gg hh;rcases cnd2 hh with h1 | ⟨hl,hh⟩
    ·exact .inl h1
    ·have hl:=Bj hl;cases hc:(or (Nat.beq sz 0) (not (Nat.ble (len * sz) cells.length))) with
     | true=>rw [hc] at hh;cases hh
     | false =>
      rw [hc] at hh;simp only [cond] at hh;have hc:(Nat.beq sz 0 || !Nat.ble (len * sz) cells.length)=false:=hc;simp only [Bool.or_eq_false_iff,Bool.not_eq_false'] at hc;have c1:sz≠0:=fun e=>by rw [e] at hc;exact absurd hc.1 (by decide)
      have c2:=Bj hc.2;rcases HM ihd cells _ _ _ _ _ hh with h1 | ⟨xs,us,lg2,h2,hus,hh⟩
      ·exact .inl h1
      ·have hh:=Ah5 sz len _ hh;refine .inr ⟨_,_,_,fun N hN=>?_,fun p hp=>?_,hh⟩
       ·cases N with
        | zero=>omega
        | succ N =>
         simp only [CR,Rd.runLog,hb,hbb];rw [if_neg (by omega)];simp only [Bt,h2 N (by omega),Option.bind_some,Rd.runLog]
       ·rcases List.mem_cons.1 hp with rfl | hp
        ·exact ⟨s,rfl⟩
        ·exact hus p hp
  | agg cs =>
   have hh:cond (Nat.ble cs.length 300) (Ew (Gh d) cs h lg e fun cs u lg=>k (.agg cs) u lg) e=some r:=hh;rcases cnd2 hh with h1 | ⟨hl,hh⟩
   ·exact .inl h1
   ·have hl:=Bj hl;rcases HM ihd cs _ _ _ _ _ hh with h1 | ⟨xs,us,lg2,h2,hus,hh⟩
    ·exact .inl h1
    ·refine .inr ⟨_,_,_,fun N hN=>?_,hus,hh⟩;cases N with
     | zero=>omega
     | succ N=>simp only [CR,Bt,h2 N (by omega),Option.bind_some,Rd.runLog]
  | func fn a b =>
   have hh:cond (and (Nat.ble a.length 300) (Nat.ble b.length 300)) (Ew (Gh d) a h lg e fun x u lg=>Ew (Gh d) b h lg e fun y v lg=>Rt u v fun w=>k (.func fn x y) w lg) e=some r:=hh;rcases cnd2 hh with h1 | ⟨hl,hh⟩
   ·exact .inl h1
   ·have hl:(Nat.ble a.length 300 && Nat.ble b.length 300)=true:=hl;simp only [Bool.and_eq_true] at hl;have l1:=Bj hl.1;have l2:=Bj hl.2;rcases HM ihd a _ _ _ _ _ hh with h1 | ⟨xs,us,lg2,h2,hus,hh⟩
    ·exact .inl h1
    ·rcases HM ihd b _ _ _ _ _ hh with h1 | ⟨ys,vs,lg3,h3,hvs,hh⟩
     ·exact .inl h1
     ·rw [WW] at hh;refine .inr ⟨_,_,_,fun N hN=>?_,fun p hp=>?_,hh⟩
      ·cases N with
       | zero=>omega
       | succ N=>simp only [CR,Bt,h2 N (by omega),h3 N (by omega),Option.bind_some,Rd.runLog]
      ·rcases List.mem_append.1 hp with hp | hp
       ·exact hus p hp
       ·exact hvs p hp
def KM (m:Nat) (l:List Ref):Prop:=∀r∈l,∃j,r=.ext j∧j<m
theorem Wq:∀(args:List IV) (keep:List Bool) h lg e k r,fzA (β:=β) args keep h lg e k=some r →
  e=some r∨∃vs rs us lg',(Bs keep args).runLog h lg=some ((vs,rs,us),lg')∧(∀p∈us,∃s,p.1=Ref.own s)∧(IV.refs.refsL vs=rs)∧k vs rs us lg'=some r
 | [],keep,h,lg,e,k,r,hh=>.inr ⟨[],[],[],lg,by cases keep<;>rfl,fun p hp=>(by cases hp),rfl,hh⟩
 | x::l,keep,h,lg,e,k,r,hh=>by
  have fz:∀ks,(Gh 12 x h lg e fun y u lg=>fzA l ks h lg e fun vs rs us lg=>Rt u us fun w=>k (.fv y::vs) rs w lg)=some r →
    e=some r∨∃vs rs us lg',((CR 4096 x).bind fun (x,u)=>(Bs ks l).bind fun (vs,rs,u')=>Rd.ret (IV.fv x::vs,rs,u++u')).runLog h lg=some ((vs,rs,us),lg')∧(∀p∈us,∃s,p.1=Ref.own s)∧(IV.refs.refsL vs=rs)∧k vs rs us lg'=some r:=by
   intro ks hh;rcases NX 12 _ _ _ _ _ _ hh with h1 | ⟨y,u,lg1,h1,hu,hh⟩
   ·exact .inl h1
   ·rcases Wq l ks _ _ _ _ _ hh with h2 | ⟨vs,rs,us,lg2,h2,hus,hrs,hh⟩
    ·exact .inl h2
    ·rw [WW] at hh;refine .inr ⟨_,_,_,_,?_,fun p hp=>?_,?_,hh⟩
     ·simp only [Bt,h1 4096 (by decide),Option.bind_some,h2,Rd.runLog]
     ·rcases List.mem_append.1 hp with hp | hp
      ·exact hu p hp
      ·exact hus p hp
     ·simp only [IV.refs.refsL,IV.refs,List.nil_append,hrs]
  cases keep with
  | nil=>exact fz [] hh
  | cons b ks =>
   cases b with
   | false=>exact fz ks hh
   | true =>
    have hh:(El x (fun q o=>fzA l ks h lg e fun vs rs us lg=>k (.ptr q o::vs) (q::rs) us lg) fun _ _=>e)=some r:=hh;rcases Dn hh with ⟨q,o,hx,hh⟩ | ⟨cs,o,_,hh⟩
    ·rcases Wq l ks _ _ _ _ _ hh with h2 | ⟨vs,rs,us,lg2,h2,hus,hrs,hh⟩
     ·exact .inl h2
     ·refine .inr ⟨_,_,_,_,?_,hus,?_,hh⟩
      ·simp only [Bs,Bt,h2,Option.bind_some,Rd.runLog,hx,IV.refs];rfl
      ·simp only [IV.refs.refsL,IV.refs,hrs];rfl
    ·exact .inl hh
mutual
theorem VN:∀(v:IV) (acc:List Ref),Ty v acc=v.refs++acc
 | .dead,_=>rfl
 | .fv _,_=>rfl
 | .ptr _ _,_=>rfl
 | .slc _ _ _,_=>rfl
 | .nils,_=>rfl
 | .emp,_=>rfl
 | .clip _,_=>rfl
 | .app _ _,_=>rfl
 | .mapr _,_=>rfl
 | .func _ a b,acc=>by
  show CB a (CB b acc)=(IV.refs.refsL a++IV.refs.refsL b)++acc
  rw [refsDL_eq,refsDL_eq,List.append_assoc]
 | .agg cs,acc=>refsDL_eq cs acc
 | .tuple cs,acc=>refsDL_eq cs acc
theorem refsDL_eq:∀(l:List IV) (acc:List Ref),CB l acc=IV.refs.refsL l++acc
 | [],_=>rfl
 | v::l,acc=>by
  show Ty v (CB l acc)=(v.refs++IV.refs.refsL l)++acc
  rw [VN,refsDL_eq,List.append_assoc]
end
theorem Ke (b:Blk):Ey b=b.refs:=by
 cases b with
 | row cells ro =>
  show CB cells []=_
  rw [refsDL_eq,List.append_nil];rfl
 | tok _ _=>rfl
 | map es =>
  show _=IV.refs.refsL (es.map (·.2))
  induction es with
  | nil=>rfl
  | cons p es ih =>
   obtain ⟨n,v⟩:=p
   show Ty v (Ey (.map es))=v.refs++_
   rw [VN];congr 1
mutual
theorem ArC {g:Ref→Option Ref}:∀(v:IV),(∀r∈v.refs,g r=some r)→v.ren g=some v
 | .dead,_=>rfl
 | .fv _,_=>rfl
 | .nils,_=>rfl
 | .emp,_=>rfl
 | .clip _,_=>rfl
 | .ptr r o,h=>by simp only [IV.ren,h r (by simp [IV.refs]),Ayl]
 | .slc r sz n,h=>by simp only [IV.ren,h r (by simp [IV.refs]),Ayl]
 | .app r es,h=>by simp only [IV.ren,h r (by simp [IV.refs]),Ayl]
 | .mapr r,h=>by simp only [IV.ren,h r (by simp [IV.refs]),Ayl]
 | .func fn a b,h=>by
  have h1:=renL_id (g:=g) a (fun r hr=>h r (by simp only [IV.refs,List.mem_append];exact .inl hr));have h2:=renL_id (g:=g) b (fun r hr=>h r (by simp only [IV.refs,List.mem_append];exact .inr hr));simp only [IV.ren,h1,h2,Option.bind_some,Ayl]
 | .agg cs,h=>by
  have h1:=renL_id (g:=g) cs h;simp only [IV.ren,h1,Ayl]
 | .tuple cs,h=>by
  have h1:=renL_id (g:=g) cs h;simp only [IV.ren,h1,Ayl]
theorem renL_id {g:Ref→Option Ref}:∀(l:List IV),(∀r∈IV.refs.refsL l,g r=some r)→IV.ren.renL g l=some l
 | [],_=>rfl
 | v::l,h=>by
  have h1:=ArC (g:=g) v (fun r hr=>h r (by simp only [IV.refs.refsL,List.mem_append];exact .inl hr));have h2:=renL_id (g:=g) l (fun r hr=>h r (by simp only [IV.refs.refsL,List.mem_append];exact .inr hr));simp only [IV.ren.renL,h1,h2,Option.bind_some,Ayl]
end
theorem Ahq {α γ:Type}:∀(l:List (α×γ)),(l.map (·.1)).zip (l.map (·.2))=l
 | []=>rfl
 | p::l=>by simp only [Ayo,List.zip_cons_cons,Ahq l]
theorem Ar7 {g:Ref→Option Ref} (b:Blk) (h:∀r∈b.refs,g r=some r):b.ren g=some b:=by
 cases b with
 | row cells ro=>simp only [Blk.ren,renL_id cells h,Ayl]
 | tok _ _=>rfl
 | map es =>
  have e:=renL_id (g:=g) (es.map (fun p:Int×IV=>p.2)) h;simp only [Blk.ren,e,Ayl,Ahq]
theorem PL {g:Ref→Option Ref}:∀(l:List Blk),(∀b∈l,∀r∈b.refs,g r=some r)→A6 g l=some l
 | [],_=>rfl
 | b::l,h=>by
  simp only [A6,Ar7 b (h b List.mem_cons_self),Option.bind_some,PL l (fun c hc=>h c (List.mem_cons_of_mem _ hc)),Ayl]
def BO:Nat→List Blk→List (Ref×Blk)
 | _,[]=>[]
 | s,b::l=>(.ext s,b)::BO (s+1) l
theorem O4:∀(s:Nat) (l:List Blk) (b:Blk),BO s (l++[b])=BO s l++[(.ext (s+l.length),b)]
 | s,[],b=>rfl
 | s,c::l,b=>by
  simp only [List.cons_append,BO,O4 (s+1) l b,Aym];rw [show s+1+l.length=s+(l.length+1) by omega]
theorem OW:∀(s:Nat) (l:List Blk),(BO s l).map (·.2)=l
 | _,[]=>rfl
 | s,b::l=>by simp only [BO,Ayo,OW (s+1) l]
theorem Ks:∀(s:Nat) (l:List Blk),(BO s l).length=l.length
 | _,[]=>rfl
 | s,b::l=>by simp only [BO,Aym,Ks (s+1) l]
theorem Km:∀(s j:Nat) (l:List Blk),s≤j→hasRef (.ext j) (BO s l)=decide (j<s+l.length)
 | s,j,[],h=>by simp only [BO,hasRef,List.length_nil];rw [decide_eq_false (by omega)]
 | s,j,b::l,h=>by
  simp only [BO,hasRef,Aym];by_cases e:j=s
  ·subst e;simp
  ·rw [Km (s+1) j l (by omega),decide_eq_false (by simp [e]),Bool.false_or];congr 1;exact propext ⟨fun h=>by omega,fun h=>by omega⟩
theorem OR:∀(s k:Nat) (l:List Blk),hasRef (.own k) (BO s l)=false
 | _,_,[]=>rfl
 | s,k,b::l=>by simp only [BO,hasRef,OR (s+1) k l,Bool.or_false];exact decide_eq_false (by simp)
theorem KT:∀(s j i:Nat) (l:List Blk),s≤j→j<s+l.length→Cv (.ext j) (BO s l) i=some (i+(j - s))
 | s,j,i,[],h1,h2=>by simp at h2;omega
 | s,j,i,b::l,h1,h2=>by
  simp only [Aym] at h2;simp only [BO,Cv];by_cases e:j=s
  ·subst e;simp
  ·rw [if_neg (by simp [e]),KT (s+1) j (i+1) l (by omega) (by omega)];congr 1;omega
theorem OF:∀(s j:Nat) (l:List Blk),j<l.length→((BO s l)[j]?).map (·.1)=some (.ext (s+j))
 | s,j,[],h=>by simp at h
 | s,0,b::l,h=>rfl
 | s,j+1,b::l,h=>by
  simp only [Aym] at h;simp only [BO,List.getElem?_cons_succ];rw [OF (s+1) j l (by omega)];congr 2;omega
theorem W1 (s:Nat):∀(l:List Blk),Bo (BO s l)=(List.range' s l.length).map .ext:=by
 intro l
 induction l generalizing s with
 | nil=>rfl
 | cons b l ih=>simp only [BO,Bo,Ayo,Aym,List.range'_succ];exact congrArg _ (ih (s+1))
theorem Ao5 {own:List (Nat×Blk)} {ext:List Blk}:∀(n:Nat) (todo:List Ref) (s:Nat) (rest:List Blk),s≤ext.length→ext.drop s=rest→Oh n todo s rest=true →
  (∀N,n≤N→∀lg,(B9 N todo (BO 0 (ext.take s))).runLog ⟨own,ext⟩ lg=some (BO 0 ext,((List.range' s (ext.length - s)).map Ref.ext).reverse++lg)) ∧
  KM ext.length todo∧(∀b∈rest,KM ext.length b.refs):=by
 intro n
 induction n with
 | zero=>intro todo s rest _ _ h;cases h
 | succ n ih =>
  intro todo s rest hs hd h;cases todo with
  | nil =>
   cases rest with
   | cons _ _=>cases h
   | nil =>
    have he:s=ext.length:=by
     have:=congrArg List.length hd
     simp at this;omega
    refine ⟨fun N hN lg=>?_,fun r hr=>(by cases hr),fun b hb=>(by cases hb)⟩;cases N with
    | zero=>omega
    | succ N =>
     subst he;simp only [B9,Rd.runLog,List.take_length,Nat.sub_self,List.range'_zero,Ayn,List.reverse_nil,List.nil_append]
  | cons r t =>
   cases r with
   | own k=>cases h
   | ext j =>
    have h:cond (Nat.ble (Nat.succ j) s) (Oh n t s rest) (cond (Nat.beq j s) (goR (Oh n) t s rest) false)=true:=h;have hl:(ext.take s).length=s:=by simp;omega
    cases hj:Nat.ble (Nat.succ j) s with
    | true =>
     rw [hj] at h;have hj:=Bj hj;obtain ⟨h1,h2,h3⟩:=ih t s rest hs hd h;refine ⟨fun N hN lg=>?_,fun r hr=>?_,h3⟩
     ·cases N with
      | zero=>omega
      | succ N =>
       simp only [B9];rw [Km 0 j _ (Nat.zero_le _),hl,decide_eq_true (by omega),if_pos rfl];exact h1 N (by omega) lg
     ·rcases List.mem_cons.1 hr with rfl | hr
      ·exact ⟨j,rfl,by omega⟩
      ·exact h2 r hr
    | false =>
     rw [hj] at h;simp only [cond] at h;have hj':¬ j<s:=fun e=>by rw [Nat.ble_eq_true_of_le (Nat.succ_le_of_lt e)] at hj;cases hj
     cases hb:Nat.beq j s with
     | false=>rw [hb] at h;cases h
     | true =>
      rw [hb] at h;have hb:=Dk hb;subst hb;simp only at h;cases rest with
      | nil=>cases h
      | cons b rest =>
       have h:Oh n (t++Ey b) (Nat.succ j) rest=true:=h;have hjl:j<ext.length:=by
        have:=congrArg List.length hd
        simp at this;omega
       have hgb:ext[j]?=some b:=by
        rw [← List.head?_drop,hd];rfl
       have hd':ext.drop (j+1)=rest:=by rw [← List.tail_drop,hd];rfl
       obtain ⟨h1,h2,h3⟩:=ih (t++Ey b) (j+1) rest (by omega) hd' h;rw [Ke] at h1 h2;refine ⟨fun N hN lg=>?_,fun r hr=>?_,fun c hc=>?_⟩
       ·cases N with
        | zero=>omega
        | succ N =>
         simp only [B9];rw [Km 0 j _ (Nat.zero_le _),hl,decide_eq_false (by omega)];simp only [Bool.false_eq_true,if_false,Rd.runLog,Hp.get,hgb];have ht:BO 0 (ext.take j)++[(.ext j,b)]=BO 0 (ext.take (j+1)):=by
          have:ext.take (j+1)=ext.take j++[b]:=by
           rw [List.take_add_one,hgb];rfl
          rw [this,O4,hl,Nat.zero_add]
         rw [ht,h1 N (by omega) (.ext j::lg)];rw [show ext.length - j=(ext.length - (j+1))+1 by omega,List.range'_succ]
         simp
       ·rcases List.mem_cons.1 hr with rfl | hr
        ·exact ⟨j,rfl,hjl⟩
        ·exact h2 r (List.mem_append_left _ hr)
       ·rcases List.mem_cons.1 hc with rfl | hc
        ·exact fun r hr=>h2 r (List.mem_append_right _ hr)
        ·exact h3 c hc
theorem Af1 {m:Nat}:∀(l:List Ref),okR m l=true→KM m l
 | [],_=>fun r hr=>by cases hr
 | .own k::l,h=>by cases h
 | .ext j::l,h=>by
  have h:cond (Nat.ble (Nat.succ j) m) (okR m l) false=true:=h;cases hj:Nat.ble (Nat.succ j) m with
  | false=>rw [hj] at h;cases h
  | true =>
   rw [hj] at h;have hj:=Bj hj;intro r hr;rcases List.mem_cons.1 hr with rfl | hr
   ·exact ⟨j,rfl,by omega⟩
   ·exact Af1 l h r hr
theorem Agu {m:Nat}:∀(l:List Blk),okB m l=true→∀b∈l,KM m b.refs
 | [],_=>fun b hb=>by cases hb
 | b::l,h=>by
  have h:cond (okR m (Ey b)) (okB m l) false=true:=h;cases hb:okR m (Ey b) with
  | false=>rw [hb] at h;cases h
  | true =>
   rw [hb] at h;rw [Ke] at hb;intro c hc;rcases List.mem_cons.1 hc with rfl | hc
   ·exact Af1 _ hb
   ·exact Agu l h c hc
theorem Q4:∀(u:List (Ref×Blk)) (own:List (Nat×Blk)) (ext ext':List Blk) {k:Hp→Option β} {r:β},On u ⟨own,ext'⟩ k=some r →
  ∃own2,laid ⟨own,ext⟩ u=some ⟨own2,ext⟩∧laid ⟨own,ext'⟩ u=some ⟨own2,ext'⟩∧k ⟨own2,ext'⟩=some r
 | [],own,ext,ext',k,r,h=>⟨own,rfl,rfl,h⟩
 | (q,b)::u,own,ext,ext',k,r,h=>by
  have h:(Wz q none fun s=>Ep (.own s) ⟨own,ext'⟩ fun _=>Gs (.own s) b ⟨own,ext'⟩ fun h=>On u h k)=some r:=h;cases q with
  | ext j=>cases h
  | own s =>
   have h:(Ep (.own s) ⟨own,ext'⟩ fun _=>Gs (.own s) b ⟨own,ext'⟩ fun h=>On u h k)=some r:=h;rw [D5] at h;obtain ⟨c,hc,h⟩:=Br h;rw [Jl] at h;obtain ⟨own2,h1,h2,h3⟩:=Q4 u (Bb s b own) ext ext' h;refine ⟨own2,?_,?_,h3⟩
   ·simp only [laid];rw [show (Hp.mk own ext).get (.own s)=some c from hc]
    exact h1
   ·simp only [laid];rw [hc];exact h2
theorem Mz:∀(ext' pre ext:List Blk) (own:List (Nat×Blk)),ext.length=ext'.length→laid ⟨own,pre++ext⟩ (((List.range' pre.length ext'.length).map Ref.ext).zip ext')=some ⟨own,pre++ext'⟩
 | [],pre,ext,own,h=>by
  cases ext with
  | nil=>rfl
  | cons _ _=>cases h
 | b::ext',pre,ext,own,h=>by
  cases ext with
  | nil=>cases h
  | cons c ext =>
   simp only [Aym,Nat.add_right_cancel_iff] at h;simp only [Aym,List.range'_succ,Ayo,List.zip_cons_cons,laid,Hp.get];rw [List.getElem?_append_right (Nat.le_refl _),Nat.sub_self];simp only [List.getElem?_cons_zero,Hp.set];have e:(pre++c::ext).set pre.length b=(pre++[b])++ext:=by
    rw [List.set_append_right _ _ (Nat.le_refl _),Nat.sub_self];simp
   rw [e]
   have:=Mz ext' (pre++[b]) ext own h
   simp only [List.length_append,List.length_singleton] at this;rw [this];simp
theorem Tu:∀(a b:List (Ref×Blk)) (h:Hp),laid h (a++b)=(laid h a).bind fun h=>laid h b
 | [],_,_=>rfl
 | (q,c)::a,b,h=>by
  simp only [List.cons_append,laid];cases h.get q with
  | none=>rfl
  | some _=>exact Tu a b _
theorem AbV (hi:∀f args h x,ih' f args h=some x→ih f args h=some x) {g:FuncId} {args:List IV} (h:Ai (E.pol.keep g) (E.pol.split g) (E.pol.raw g) ih' g args hp k=some r):Iso E ih g args hp k r:=by
 unfold Ai at h;cases hc:(cond (E.pol.split g) true (E.pol.raw g)) with
 | true=>rw [hc] at h;exact Jr hi h
 | false =>
  rw [hc] at h;simp only [cond] at h;have hs:E.pol.split g=false:=by cases e:E.pol.split g with | false=>rfl | true=>rw [e] at hc;cases hc
  rw [hs] at hc;have hr:E.pol.raw g=false:=hc;rcases Wq _ _ _ _ _ _ _ h with h1 | ⟨vs,rs,us,lg,hz,hus,hrs,h⟩
  ·exact Jr hi h1
  ·cases rs with
   | nil =>
    simp only at h;cases he:ih' g vs ⟨[],[]⟩ with
    | none=>rw [he] at h;cases h
    | some p =>
     obtain ⟨v,⟨own,ext⟩⟩:=p;rw [he] at h;cases ext with
     | cons b ext=>exact absurd (show (none:Option β)=some r from h) (by simp)
     | nil =>
      have h:(Gh 12 v ⟨own,[]⟩ [] (Et (E.pol.keep g) (E.pol.split g) (E.pol.raw g) ih' g args hp k) fun w _ _=>On us hp fun h2=>k (.fv w) h2 lg (Bo us))=some r:=h;rcases NX 12 _ _ _ _ _ _ h with h1 | ⟨w,u2,lg2,h2,_,h⟩
      ·exact Jr hi h1
      ·obtain ⟨own0,ext0⟩:=hp;obtain ⟨own2,l1,l2,h⟩:=Q4 us own0 ext0 ext0 h;refine ⟨{ val:=.fv w,upd:=us },lg,⟨own2,ext0⟩,?_,l1,h⟩;have hw:=Fa _ _ _ _ _ (h2 4096 (by decide));have hren:∀q,IV.ren.renL q vs=some vs:=fun q=>renL_id vs (fun r hr=>by rw [hrs] at hr;cases hr);simp only [GF,Bt,hz,Option.bind_some,B9,Rd.runLog,hren,Ayn,A6,asked,hs,Bool.false_eq_true,if_false,hi _ _ _ _ he,G9,hr,hw,Ayl,IV.ren,Rd.of];have hk:(Bo us).all (fun r=>!hasRef r [])=true:=List.all_eq_true.2 fun r _=>rfl;rw [if_pos ⟨rfl,hk⟩];simp only [Rd.runLog,Bo,Ayn,List.zip_nil_left,List.append_nil]
   | cons q rs =>
    obtain ⟨own0,ext0⟩:=hp;simp only at h;cases hg:Oh 400 (q::rs) 0 ext0 with
    | false=>rw [hg] at h;exact Jr hi h
    | true =>
     rw [hg] at h;simp only at h;obtain ⟨g1,g2,g3⟩:=Ao5 (own:=own0) 400 (q::rs) 0 ext0 (Nat.zero_le _) rfl hg;cases he:ih' g vs ⟨[],ext0⟩ with
     | none=>rw [he] at h;cases h
     | some p =>
      obtain ⟨v,⟨own,ext⟩⟩:=p;rw [he] at h;simp only at h;obtain ⟨ho,h⟩:=Dx h;have ho:(Nat.beq ext.length ext0.length && okB ext0.length ext)=true:=ho;simp only [Bool.and_eq_true] at ho;have hlen:=Dk ho.1;have hok:=Agu _ ho.2;rcases NX 12 _ _ _ _ _ _ h with h1 | ⟨w,u2,lg2,h2,_,h⟩
      ·exact Jr hi h1
      ·obtain ⟨own2,l1,l2,h⟩:=Q4 us own0 ext0 ext h;have hw:=Fa _ _ _ _ _ (h2 4096 (by decide));have hin:∀l,KM ext0.length l→∀r∈l,Ff (BO 0 ext0) r=some r:=by
        intro l hl r hr;obtain ⟨j,rfl,hj⟩:=hl r hr;simp only [Ff];rw [KT 0 j 0 ext0 (Nat.zero_le _) (by omega)];simp
       have hbk:∀l,KM ext0.length l→∀r∈l,Cw (BO 0 ext0) r=some r:=by
        intro l hl r hr;obtain ⟨j,rfl,hj⟩:=hl r hr;simp only [Cw];rw [OF 0 j ext0 hj,Nat.zero_add]
       have hv:IV.ren.renL (Ff (BO 0 ext0)) vs=some vs:=renL_id vs (fun r hr=>hin _ g2 r (by rw [hrs] at hr;exact hr));have hb1:A6 (Ff (BO 0 ext0)) ext0=some ext0:=PL ext0 (fun b hb r hr=>hin _ (g3 b hb) r hr);have hb2:A6 (Cw (BO 0 ext0)) ext=some ext:=PL ext (fun b hb r hr=>hbk _ (hok b hb) r hr);have hkeys:Bo (BO 0 ext0)=Dq ext0.length:=by rw [W1,Dq,List.range_eq_range']
       refine ⟨{ val:=.fv w,upd:=us++(Bo (BO 0 ext0)).zip ext },(Dq ext0.length).reverse++lg,⟨own2,ext⟩,?_,?_,?_⟩
       ·have hga:=g1 4096 (by decide) lg;simp only [List.take_zero,BO,Nat.sub_zero] at hga;simp only [GF,Bt,hz,Option.bind_some,hga,OW,hv,hb1,asked,hs,Bool.false_eq_true,if_false,hi _ _ _ _ he,G9,hr,hw,Ayl,IV.ren,hb2];have hk:(Bo us).all (fun r=>!hasRef r (BO 0 ext0))=true:=List.all_eq_true.2 fun r hr=>by
         obtain ⟨p,hp,rfl⟩:=List.mem_map.1 hr;obtain ⟨s,e⟩:=hus p hp;rw [e,OR];rfl
        rw [if_pos ⟨by rw [Ks,hlen],hk⟩];simp only [Rd.of,Rd.runLog,Dq,List.range_eq_range']
       ·simp only;rw [Tu,l1,Option.bind_some,hkeys,Dq,List.range_eq_range',← hlen];exact Mz ext [] ext0 own2 hlen.symm
       ·have hz2:Bo (us++(Bo (BO 0 ext0)).zip ext)=Bo us++Dq ext0.length:=by
         simp only [Bo,List.map_append];congr 1;rw [← hkeys];exact List.map_fst_zip (by simp only [Bo,List.length_map,Ks];omega)
        simp only [hz2];exact h
def AfX (E:Env) (ih:Aa) (f rid i:Nat) (dr:Bool) (slots:List IV) (op:Op) (hp:Hp) (k:IV→Hp→List Ref→List Ref→Option β) (r:β):Prop :=
 (DX E slots op=none∧Gc E ih f rid i (AE slots) op hp k r) ∨
 (dr=false∧EZ E op=false∧∃g args v hp',DX E slots op=some (g,args)∧ih g args hp=some (v,hp')∧k v hp' [] []=some r)
theorem Vd {g:Operand} {args:Array Operand} {ts:Array TypeId} {h':FuncId} {first cap:List IV} {slots:List IV} (hc:callee (AE slots g)=some (h',first,cap)) (hin:E.pol.inl h'=false)
  (h:Iso E ih h' (first++args.toList.map (AE slots)++cap) hp k r):AfX E ih f rid i dr slots (.call ⟨.value g,args,ts⟩) hp k r:=by
 obtain ⟨e,rd,hp',h1,h2,h3⟩:=h;refine .inl ⟨?_,e.val,hp',rd,Bo e.upd,⟨{ eff:=e },?_,?_,rfl,?_⟩,h3,fun q=>by cases q⟩
 ·simp only [DX,hc,hin,Bool.false_eq_true,if_false]
 ·simp only [CS,hc,hin,Bool.false_eq_true,if_false,Rd.eff,Bt,h1,Option.bind_some,Rd.runLog]
 ·simp only [AR,h2,Option.bind_some,Cy]
 ·simp only [HP,List.append_nil]
theorem Ap6 (hi:∀f args h x,ih' f args h=some x→ih f args h=some x) {slots:List IV} {c:Call} (h:II E ih' f rid i dr (AE slots) (.call c) hp k=some r):AfX E ih f rid i dr slots (.call c) hp k r:=by
 obtain ⟨cl,args,ts⟩:=c;simp only [II,BD] at h;cases cl with
 | invoke _ _=>cases h
 | builtin b =>
  refine .inl ⟨rfl,?_⟩;simp only [Wt,BD] at h;split at h
  ·rename_i t x hts has;split at h
   ·rename_i e z ht;unfold Bz at h;have hop:CS E ih f rid i (AE slots) (.call ⟨.builtin .len,args,ts⟩)=AK E (Bg f rid i) (E.pol.rowApp f rid i) .len [t] [AE slots x]:=by
     simp only [CS,hts,has];rfl
    rcases Sp h with ⟨q,sz,n,hx,h⟩ | ⟨hx,h⟩
    ·rw [Ds] at h;exact AW (by rw [hop];simp only [AK,ht,hx]) h
    ·rw [Zu] at h;obtain ⟨es,he,h⟩:=Br h;rw [Ds] at h;refine AW (v:=.fv (.int .i64 es.length)) ?_ h;rw [hop];simp only [AK,ht];cases hxx:AE slots x with
     | slc q sz n=>exact absurd hxx (hx q sz n)
     | _=>rw [hxx] at he;simp only [he];rfl
   ·rename_i hn;refine BP ?_ rfl h;simp only [EZ,hts,has]
  ·rename_i b0 b1 ts1 args1 hn;refine BP ?_ rfl h;cases b0 with
   | len =>
    simp only [EZ];split
    ·rename_i hts has;exact absurd has (hn _ _ rfl hts)
    ·rfl
   | _=>rfl
 | value g =>
  simp only [Wt,BD] at h;split at h
  ·rename_i g;have hc:callee (AE slots (.func g))=some (g,[],[]):=rfl;cases hin:E.pol.inl g with
   | true =>
    rw [hin] at h;cases dr with
    | true=>cases h
    | false =>
     simp only [cond,AsZ] at h;cases he:ih' g (args.toList.map (AE slots)) hp with
     | none=>rw [he] at h;cases h
     | some p =>
      obtain ⟨v,hp'⟩:=p;rw [he] at h;refine .inr ⟨rfl,rfl,g,args.toList.map (AE slots),v,hp',?_,hi _ _ _ _ he,h⟩;simp only [DX,hc,hin,if_true,List.nil_append,List.append_nil]
   | false =>
    rw [hin] at h;refine Vd hc hin ?_;simp only [List.nil_append,List.append_nil];exact AbV hi h
  ·unfold Om at h;split at h
   ·cases h
   ·rename_i h' first cap hc
    cases hin:E.pol.inl h' with
    | true=>rw [hin] at h;cases h
    | false =>
     rw [hin] at h;simp only [cond,GW] at h;exact Vd hc hin (AbV hi h)
theorem Ar1 (hi:∀f args h x,ih' f args h=some x→ih f args h=some x) {slots:List IV} {op:Op} (h:II E ih' f rid i dr (AE slots) op hp k=some r):AfX E ih f rid i dr slots op hp k r:=by
 cases op with
 | call c=>exact Ap6 hi h
 | move x=>exact .inl ⟨rfl,AW rfl h⟩
 | assign x=>exact .inl ⟨rfl,AW rfl h⟩
 | pick c a b=>exact .inl ⟨rfl,Aq2 h⟩
 | alloc t =>
  refine .inl ⟨rfl,?_⟩;simp only [II,BD] at h;cases ht:E.T t with
  | none=>rw [ht] at h;cases h
  | some ti=>rw [ht] at h;exact ST rfl (by simp only [CS,ht]) h
 | box t x=>exact .inl ⟨rfl,At4 h⟩
 | build t ps=>exact .inl ⟨rfl,Ama h⟩
 | load t a=>exact .inl ⟨rfl,AqU h⟩
 | store t a x=>exact .inl ⟨rfl,AlM h⟩
 | nilCheck x=>exact .inl ⟨rfl,Atm h⟩
 | binOp o t x y yt =>
  refine .inl ⟨rfl,?_⟩;simp only [II,BD] at h;obtain ⟨v,h1,h2⟩:=AeW h;exact AW (by simp only [CS,h1];rfl) h2
 | unOp o t x =>
  refine .inl ⟨rfl,?_⟩;simp only [II,Cu] at h;exact OQ rfl h
 | convert s d x=>exact .inl ⟨rfl,Aen h⟩
 | fieldAddr s x fd=>exact .inl ⟨rfl,UN h⟩
 | field s x fd=>exact .inl ⟨rfl,Anf h⟩
 | indexAddr t x ix=>exact .inl ⟨rfl,VB h⟩
 | index t x ix=>exact .inl ⟨rfl,AlF h⟩
 | extract x ix=>exact .inl ⟨rfl,Ae4 h⟩
 | makeMap t n=>cases n with
  | none=>exact .inl ⟨rfl,BP rfl rfl h⟩
  | some _=>cases h
 | buildSlice t n ps=>exact .inl ⟨rfl,BP rfl rfl h⟩
 | makeFunc fn a b=>exact .inl ⟨rfl,BP rfl rfl h⟩
 | insert t m j x=>exact .inl ⟨rfl,BP rfl rfl h⟩
 | mapUpdate t m j x=>exact .inl ⟨rfl,BP rfl rfl h⟩
 | lookup t m j ok=>exact .inl ⟨rfl,BP rfl rfl h⟩
 | makeSlice t l c=>exact .inl ⟨rfl,BP rfl rfl h⟩
 | slice t x lo hi mx=>exact .inl ⟨rfl,BP rfl rfl h⟩
 | _=>cases h
end
end Idl
end Go.Proofs.Ytdibmackcbpniaa
namespace Go.Proofs.Ytdibmackcbpniaa
namespace Idl
section
variable {β:Type}
def Bh (k:Nat) (F:(List IV→Hp→Option β)→List IV→Hp→Option β):List IV→Hp→Option β :=
 Nat.rec (motive:=fun _=>List IV→Hp→Option β) (fun _ _=>none) (fun _ rec=>F rec) k
def La (s:Nat) (l:List Nat):Bool:=List.rec (motive:=fun _=>Bool) false (fun x _ ih=>cond (Nat.beq s x) true ih) l
def E8 (rm:List Nat) (l:List Ref):Bool:=List.rec (motive:=fun _=>Bool) true (fun r _ ih=>match r with
 | .own s=>cond (La s rm) false ih
 | .ext _=>ih) l
def Hv (rm:List Nat) (own:List (Nat×Blk)):Bool:=List.rec (motive:=fun _=>Bool) true (fun p _ ih=>match p with
 | (s,b)=>cond (La s rm) ih (cond (E8 rm (Ey b)) ih false)) own
def IL (rm:List Nat) (ext:List Blk):Bool:=List.rec (motive:=fun _=>Bool) true (fun b _ ih=>cond (E8 rm (Ey b)) ih false) ext
def AkR (rm:List Nat) (own:List (Nat×Blk)):Bool:=List.rec (motive:=fun _=>Bool) false (fun p _ ih=>match p with
 | (s,_)=>cond (La s rm) true ih) own
def TN (rm:List Nat) (own:List (Nat×Blk)) (k:List (Nat×Blk)→Option β):Option β :=
 List.rec (motive:=fun _=>(List (Nat×Blk)→Option β)→Option β) (fun k=>k []) (fun p _ ih k=>match p with
  | (s,b)=>cond (La s rm) (ih k) (ih fun l=>k ((s,b)::l))) own k
def BB (base rm:List Nat) (vals:List IV) (h:Hp) (k:Hp→Option β):Option β :=
 cond (
    rm.any base.contains) none (match h with
  | ⟨own,ext⟩=>cond (AkR rm own)
   (cond (and (E8 rm (CB vals [])) (and (Hv rm own) (IL rm ext))) (TN rm own fun own=>k ⟨own,ext⟩)
    (match Cz base [] rm ⟨vals,⟨own,ext⟩⟩ with
     | none=>none
     | some S=>fH S.hp k)) (k ⟨own,ext⟩))
def PA (d:Option Nat) (v:IV) (h:Hp) (T:FS):FS:=match d with
 | none=>⟨T.n,T.t,h⟩
 | some d=>cond (Nat.ble T.n d) ⟨T.n,T.t,h⟩ ⟨T.n,T.t.set d v,h⟩
abbrev SlT.setKK {α:Type} (t:SlT):Nat→IV→(SlT→α)→α :=
 SlT.rec (motive:=fun _=>Nat→IV→(SlT→α)→α) (fun j v i x k=>Bool.rec (motive:=fun _=>α) (k (.leaf j v)) (k (.leaf j x)) (Nat.beq i j))
  (fun m l r gl gr i x k=>Bool.rec (motive:=fun _=>α) (gl i x fun l'=>k (.node m l' r)) (gr i x fun r'=>k (.node m l r')) (Nat.ble m i)) t
abbrev JJ (d:Option Nat) (v:IV) (h:Hp) (T:FS) (K:FS→Option β):Option β :=
 FS.rec (motive:=fun _=>Option β) (fun n t _=>Option.rec (motive:=fun _=>Option β) (K ⟨n,t,h⟩) (fun d=>SF (Nat.ble n d) (K ⟨n,t,h⟩) (t.setKK d v fun t=>K ⟨n,t,h⟩)) d) T
abbrev WZ (args:List IV):Nat→FS→(FS→Option β)→Option β :=
 List.rec (motive:=fun _=>Nat→FS→(FS→Option β)→Option β) (fun _ T K=>K T) (fun v _ ih i T K=>JJ (some i) v T.hp T fun T=>ih (Nat.succ i) T K) args
abbrev Vw (cs:List Nat):List IV→FS→(FS→Option β)→Option β :=
 List.rec (motive:=fun _=>List IV→FS→(FS→Option β)→Option β) (fun _ T k=>k T) (fun c _ ih vals T k=>AF vals fun v vals=>JJ (some c) v T.hp T fun T=>ih vals T k) cs
def KZ (r s:Ref):Bool:=match r with
 | .own i=>(match s with
  | .own j=>not (Nat.beq i j)
  | .ext _=>true)
 | .ext i=>(match s with
  | .own _=>true
  | .ext j=>not (Nat.beq i j))
def JO (r:Ref) (l:List Ref):Bool:=List.rec (motive:=fun _=>Bool) true (fun s _ ih=>cond (KZ r s) ih false) l
def VW (a b:List Ref):Bool:=List.rec (motive:=fun _=>Bool) true (fun r _ ih=>cond (JO r b) ih false) a
theorem Ahs (r s:Ref):KZ r s=decide (r≠s):=by
 cases r<;>cases s<;>simp [KZ,HK]
theorem Sd (r:Ref):∀(l:List Ref),JO r l=l.all fun s=>decide (r≠s)
 | []=>rfl
 | s::l=>by
  rw [show JO r (s::l)=cond (KZ r s) (JO r l) false from rfl,Ahs,Sd r l,List.all_cons]
  cases decide (r≠s)<;>rfl
theorem Af4:∀(a b:List Ref),VW a b=L3 a b
 | [],_=>rfl
 | r::a,b=>by
  rw [show VW (r::a) b=cond (JO r b) (VW a b) false from rfl,Sd,Af4 a b]
  simp only [L3,List.all_cons];cases (b.all fun s=>decide (r≠s))<;>rfl
def Ab (l:List (List Ref×List Ref)) (rd wr:List Ref) (a:Option β):Option β :=
 List.rec (motive:=fun _=>Option β) a (fun q _ ih=>match q with
  | (q1,q2)=>cond (VW q2 rd) (cond (VW q2 wr) (cond (VW wr q1) ih none) none) none) l
def TE (before:Nat) (done:List (Nat×List Ref×List Ref)):List (List Ref×List Ref) :=
 List.rec (motive:=fun _=>List (List Ref×List Ref)) [] (fun p _ ih=>match p with | (j,q)=>cond (before.testBit j) ih (q::ih)) done
section
variable (E:Env) (ih:Aa)
def KU (f rid:Nat) (ops:Array Oper) (i:Nat) (o:Oper) (dr:Bool) (T:FS) (K:FS→List Ref→List Ref→Option β):Option β :=
 match o.guard with
 | none=>II E ih f rid i dr (Hf T) o.op T.hp fun v h rd wr=>JJ o.dst v h T fun T=>K T rd wr
 | some (j,want)=>match (ops[j]?).bind (·.dst) with
  | none=>none
  | some d=>SF (Nat.ble T.n d) none
   (Ac (T.get d) want T.hp (fun k=>II E ih f rid i dr (Hf T) o.op T.hp k) fun v h rd wr=>JJ o.dst v h T fun T=>K T rd wr)
def ArE (f rid:Nat) (ops:Array Oper) (l:List Oper):Nat→FS→(FS→Option β)→Option β :=
 List.rec (motive:=fun _=>Nat→FS→(FS→Option β)→Option β) (fun _ T K=>K T) (fun o _ rec i T K=>KU E ih f rid ops i o false T fun T _ _=>rec (Nat.succ i) T K) l
def Aan (f rid:Nat) (ops:Array Oper) (before:Array Nat) (l:List Oper):Nat→List (Nat×List Ref×List Ref)→FS→(FS→Option β)→Option β :=
 List.rec (motive:=fun _=>Nat→List (Nat×List Ref×List Ref)→FS→(FS→Option β)→Option β) (fun _ _ T K=>K T)
  (fun o _ rec i done T K=>SF (EZ E o.op) (KU E ih f rid ops i o true T fun T _ _=>rec (Nat.succ i) done T K)
   (KU E ih f rid ops i o true T fun T rd wr=>Ab (TE (before.getD i 0) done) rd wr (rec (Nat.succ i) ((i,rd,wr)::done) T K))) l
def CP (n:Nat) (kills:List Nat):List Nat:=(List.range n).filter fun i=>!kills.contains i
def OP (base kills rm:List Nat) (T:FS) (k:List IV→Hp→Option β):Option β :=
 match rm with
 | []=>k ((CP T.n kills).map T.get) T.hp
 | r::rm=>BB base (r::rm) ((CP T.n kills).map T.get) T.hp fun h=>k ((CP T.n kills).map T.get) h
def E3 (f n:Nat) (base:List Nat):Code→FS→(Ex→FS→Option β)→Option β
 | .skip,T,K=>K .normal T
 | .region rid ops draw,T,K=>SF draw (Aan E ih f rid ops (Region.before ops) ops.toList 0 [] T fun T=>K .normal T) (ArE E ih f rid ops ops.toList 0 T fun T=>K .normal T)
 | .seq a b,T,K=>E3 f n base a T fun ex T=>match ex with
  | .normal=>E3 f n base b T K
  | .exit j=>K (.exit j) T
  | .ret=>K .ret T
 | .cond c a b,T,K=>Aj (Hf T c) (E3 f n base a T K) (E3 f n base b T K)
 | .block id c,T,K=>E3 f n base c T fun ex T=>match ex with
  | .normal=>K .normal T
  | .exit j=>SF (Nat.beq j id) (K .normal T) (K (.exit j) T)
  | .ret=>K .ret T
 | .loop c,T,K=>OP base (E.pol.head f (Cd c)).1 (E.pol.head f (Cd c)).2 T (Bh n fun rec vals h =>
   Vw (CP T.n (E.pol.head f (Cd c)).1) vals ⟨T.n,dT 10 0 T.n,h⟩ fun T=>E3 f n base c T fun ex T=>match ex with
    | .normal=>OP base (E.pol.head f (Cd c)).1 (E.pol.head f (Cd c)).2 T rec
    | .exit j=>K (.exit j) T
    | .ret=>K .ret T)
 | .exit id,T,K=>K (.exit id) T
 | .ret,T,K=>K .ret T
 | _,_,_=>none
def Ap (agg:Bool) (size:Nat) (a:IV) (h:Hp) (k:IV→Option β):Option β :=
 cond agg (Ad size a h fun v _=>k v) (Ak a h fun v _=>k v)
def AeO (T:FS) (rs:List ResultVar):List IV→(List IV→Option β)→Option β :=
 List.rec (motive:=fun _=>List IV→(List IV→Option β)→Option β) (fun acc k=>k acc) (fun v _ rec acc k=>match v with
  | .tmp t=>rec (acc++[T.get t]) k
  | .cell a t=>match E.T t with
   | none=>none
   | some ti=>Ap ti.kind.isAgg ti.size (T.get a) T.hp fun v=>rec (acc++[v]) k) rs
def Am (vs:List IV) (h:Hp):Option (IV×Hp):=match vs with
 | [v]=>some (v,h)
 | vs=>WP vs fun v=>some (v,h)
def Ax (FT:Nat→Option Func) (n f:Nat) (args:List IV) (h:Hp):Option (IV×Hp):=match FT f with
 | none=>none
 | some fn=>match fn.body with
  | none=>none
  | some c=>SF (Nat.ble args.length fn.ntmps && Nat.ble fn.ntmps 1024)
   (WZ args 0 ⟨fn.ntmps,dT 10 0 fn.ntmps,h⟩ fun T=>E3 E ih f n (h.own.map (·.1)) c T fun ex T=>match ex with
    | .exit _=>none
    | .normal=>AeO E T fn.results.toList [] fun vs=>Am vs T.hp
    | .ret=>AeO E T fn.results.toList [] fun vs=>Am vs T.hp) none
end
end
end Idl
end Go.Proofs.Ytdibmackcbpniaa
set_option linter.unusedSimpArgs false
namespace Go.Proofs.Ytdibmackcbpniaa
namespace Idl
section
variable {β:Type} {E:Env} {ih ih':Aa} {f rid:Nat} {r:β}
theorem RW (d:Option Nat) (v:IV) (h:Hp) (T:FS):PA d v h T=Qb d v ⟨T.n,T.t,h⟩:=by cases d<;>rfl
theorem Xe (d:Option Nat) (v:IV) (h:Hp) (T:FS):(PA d v h T).n=T.n:=by
 cases d with
 | none=>rfl
 | some d =>
  show (cond (Nat.ble T.n d) (FS.mk T.n T.t h) ⟨T.n,T.t.set d v,h⟩).n=T.n
  cases Nat.ble T.n d<;>rfl
theorem Afn {α:Type} (t:SlT) (i:Nat) (x:IV) (k:SlT→α):t.setKK i x k=k (t.set i x):=by
 refine Eq.trans ?_ (Z5 t i x k)
 induction t generalizing k with
 | leaf j v =>
  show Bool.rec (k (.leaf j v)) (k (.leaf j x)) (Nat.beq i j)=cond (Nat.beq i j) (k (.leaf j x)) (k (.leaf j v))
  cases Nat.beq i j<;>rfl
 | node m l r ihl ihr =>
  show Bool.rec (l.setKK i x fun l'=>k (.node m l' r)) (r.setKK i x fun r'=>k (.node m l r')) (Nat.ble m i)=cond (Nat.ble m i) (r.setK i x fun r'=>k (.node m l r')) (l.setK i x fun l'=>k (.node m l' r))
  cases Nat.ble m i
  ·exact ihl _
  ·exact ihr _
theorem Ny (d:Option Nat) (v:IV) (h:Hp) (T:FS) (K:FS→Option β):JJ d v h T K=K (PA d v h T):=by
 obtain ⟨n,t,h0⟩:=T;cases d with
 | none=>rfl
 | some d =>
  show SF (Nat.ble n d) (K ⟨n,t,h⟩) (t.setKK d v fun t=>K ⟨n,t,h⟩)=K (cond (Nat.ble n d) ⟨n,t,h⟩ ⟨n,t.set d v,h⟩)
  rw [BD];cases Nat.ble n d
  ·simp only [cond];rw [Afn]
  ·rfl
theorem O2:∀(args:List IV) (i:Nat) (T:FS) (K:FS→Option β),WZ args i T K=XS args i T K
 | [],_,_,_=>rfl
 | v::l,i,T,K=>by
  show JJ (some i) v T.hp T (fun T=>WZ l (Nat.succ i) T K)=Aig (some i) v T fun T=>XS l (Nat.succ i) T K
  rw [Ny,AaJ,RW,O2 l]
theorem NG {T:FS} {S:St} (hr:Rep T S) (d:Option Nat) (v:IV) (h:Hp):Rep (PA d v h T) ⟨B5 d v S.slots,h⟩:=by
 rw [RW];exact AdY (T:=⟨T.n,T.t,h⟩) (S:=⟨S.slots,h⟩) ⟨rfl,hr.len,hr.has,hr.get⟩ d v
theorem ML (hi:∀f args h x,ih' f args h=some x→ih f args h=some x) {ops:Array Oper} {i:Nat} {o:Oper} (ho:ops[i]?=some o) {dr:Bool} {T:FS} {S:St} (hr:Rep T S)
  {K:FS→List Ref→List Ref→Option β} (h:KU E ih' f rid ops i o dr T K=some r) :
  ∃S' T' rd wr,step E ih f rid ops i S=some S'∧(dr=true→JY E ih f rid ops i S=some (S',rd,wr))∧Rep T' S'∧T'.n=T.n∧K T' rd wr=some r∧(EZ E o.op=true→rd=[]∧wr=[]):=by
 have done:C3 ops S.slots o=some true→II E ih' f rid i dr (Hf T) o.op T.hp (fun v h rd wr=>K (PA o.dst v h T) rd wr)=some r →
   ∃S' T' rd wr,step E ih f rid ops i S=some S'∧(dr=true→JY E ih f rid ops i S=some (S',rd,wr))∧Rep T' S'∧T'.n=T.n∧K T' rd wr=some r∧(EZ E o.op=true→rd=[]∧wr=[]):=by
  intro hw h;rw [K0 hr,← hr.hp] at h;rcases Ar1 hi h with ⟨hin,v,hp',rd,wr,⟨m,hm,hh,hv,hwr⟩,hk,hq⟩ | ⟨hdr,hq,g,args,v,hp',hin,he,hk⟩
  ·have ha:DG (Bg f rid i) o.dst S m=some ⟨B5 o.dst v S.slots,hp'⟩:=by simp only [DG,hh,Ayl,hv]
   refine ⟨⟨B5 o.dst v S.slots,hp'⟩,PA o.dst v hp' T,rd,wr,?_,fun _=>?_,NG hr o.dst v hp',Xe ..,hk,hq⟩
   ·simp only [step,ho,hw,hin,Dz];rw [Fa _ _ _ _ _ hm];exact ha
   ·simp only [JY,ho,hw,hin,Dz,hm,ha,Ayl,hwr,HP];rfl
  ·refine ⟨⟨B5 o.dst v S.slots,hp'⟩,PA o.dst v hp' T,[],[],?_,fun e=>(by rw [hdr] at e;cases e),NG hr o.dst v hp',Xe ..,hk,fun q=>by rw [hq] at q;cases q⟩;simp only [step,ho,hw,hin,he,Ayl]
 have skip:C3 ops S.slots o=some false→K (PA o.dst EU T.hp T) [] []=some r →
   ∃S' T' rd wr,step E ih f rid ops i S=some S'∧(dr=true→JY E ih f rid ops i S=some (S',rd,wr))∧Rep T' S'∧T'.n=T.n∧K T' rd wr=some r∧(EZ E o.op=true→rd=[]∧wr=[]):=by
  intro hw h;refine ⟨_,_,[],[],?_,fun _=>?_,NG hr o.dst EU T.hp,Xe ..,h,fun _=>⟨rfl,rfl⟩⟩
  ·simp only [step,ho,hw,← hr.hp]
  ·simp only [JY,ho,hw,← hr.hp]
 unfold KU at h;have eK:(fun (v:IV) (h:Hp) (rd wr:List Ref)=>JJ o.dst v h T fun T=>K T rd wr)=fun v h rd wr=>K (PA o.dst v h T) rd wr:=by
  funext v h rd wr
  exact Ny o.dst v h T fun T=>K T rd wr
 rw [eK] at h;simp only [BD] at h;cases hg:o.guard with
 | none =>
  rw [hg] at h;exact done (by simp only [C3,hg]) h
 | some jw =>
  obtain ⟨j,want⟩:=jw;rw [hg] at h;simp only at h;cases hd:(ops[j]?).bind (·.dst) with
  | none=>rw [hd] at h;cases h
  | some d =>
   rw [hd] at h;simp only at h;cases hb:Nat.ble T.n d with
   | true=>rw [hb] at h;cases h
   | false =>
    rw [hb] at h;simp only [cond] at h;have hdn:d<T.n:=Nat.lt_of_not_le fun h=>by rw [Nat.ble_eq_true_of_le h] at hb;cases hb
    have hs:S.slots[d]?=some (T.get d):=by
     rw [hr.at_,List.getD_eq_getElem?_getD,List.getElem?_eq_getElem (by rw [hr.len];exact hdn)];rfl
    have hw:C3 ops S.slots o=match T.get d with
      | .fv (.bool b)=>some (b == want)
      | .fv (.tuple [])=>some false
      | _=>none:=by
     simp only [C3,hg,hd,Option.bind_some,hs];generalize T.get d=v;split
     ·rename_i e;simp only [Ayi] at e;subst e;rfl
     ·rename_i e;simp only [Ayi] at e;subst e;rfl
     ·rename_i h1 h2;split
      ·exact absurd rfl (h1 _)
      ·exact absurd rfl h2
      ·rfl
    unfold Ac at h;rcases NP h with ⟨v,hv,h⟩ | h
    ·rw [hv] at hw;unfold Ahp at h;split at h
     ·rename_i b;have e:(b == want)=(cond want b (not b)):=by cases b<;>cases want<;>rfl
      cases hc:(cond want b (not b)) with
      | true =>
       rw [hc] at h;exact done (by rw [hw];simp only [e,hc]) h
      | false =>
       rw [hc] at h;exact skip (by rw [hw];simp only [e,hc]) h
     ·rename_i l;cases l with
      | nil=>exact skip hw h
      | cons _ _=>cases h
     ·cases h
    ·cases h
theorem Air (hi:∀f args h x,ih' f args h=some x→ih f args h=some x) {ops:Array Oper}:∀(l:List Oper) (i:Nat),ops.toList.drop i=l→∀{T:FS} {S:St},Rep T S→∀{K:FS→Option β},ArE E ih' f rid ops l i T K=some r →
  ∃S' T',I1 E ih f rid ops (List.range' i l.length) S=some S'∧Rep T' S'∧T'.n=T.n∧K T'=some r:=by
 intro l
 induction l with
 | nil=>intro i _ T S hr K h;exact ⟨S,T,rfl,hr,rfl,h⟩
 | cons o l ihl =>
  intro i hd T S hr K h;have ho:ops[i]?=some o:=by
   have:ops.toList[i]?=some o:=by rw [← List.head?_drop,hd];rfl
   simpa using this
  have hd':ops.toList.drop (i+1)=l:=by rw [← List.tail_drop,hd];rfl
  have h:KU E ih' f rid ops i o false T (fun T _ _=>ArE E ih' f rid ops l (Nat.succ i) T K)=some r:=h;obtain ⟨S1,T1,rd,wr,h1,_,h2,hn,h3,_⟩:=ML hi ho hr h;obtain ⟨S',T',h4,h5,hn2,h6⟩:=ihl (i+1) hd' h2 h3;refine ⟨S',T',?_,h5,hn2.trans hn,h6⟩;rw [Aym,List.range'_succ];simp only [I1,h1,Option.bind_some];exact h4
theorem AmF {l:List (List Ref×List Ref)} {rd wr:List Ref} {a:Option β} (h:Ab l rd wr a=some r):(∀q∈l,clash q (rd,wr)=true)∧a=some r:=by
 induction l with
 | nil=>exact ⟨fun q hq=>(by cases hq),h⟩
 | cons p l ih =>
  obtain ⟨q1,q2⟩:=p;have h:cond (VW q2 rd) (cond (VW q2 wr) (cond (VW wr q1) (Ab l rd wr a) none) none) none=some r:=h;obtain ⟨h1,h⟩:=Dx h;obtain ⟨h2,h⟩:=Dx h;obtain ⟨h3,h⟩:=Dx h;rw [Af4] at h1 h2 h3;obtain ⟨h4,h5⟩:=ih h;refine ⟨fun q hq=>?_,h5⟩;rcases List.mem_cons.1 hq with rfl | hq
  ·simp only [clash,h1,h2,h3,Bool.and_self]
  ·exact h4 q hq
theorem Ae2 {b:Nat} {done:List (Nat×List Ref×List Ref)} {j:Nat} {q:List Ref×List Ref} (h:(j,q)∈done) (hj:b.testBit j=false):q∈TE b done:=by
 induction done with
 | nil=>cases h
 | cons p l ih =>
  obtain ⟨j',q'⟩:=p
  show q∈cond (b.testBit j') (TE b l) (q'::TE b l)
  rcases List.mem_cons.1 h with e | h
  ·simp only [Ayj] at e;obtain ⟨rfl,rfl⟩:=e;rw [hj];exact List.mem_cons_self
  ·cases b.testBit j' with
   | true=>exact ih h
   | false=>exact List.mem_cons_of_mem _ (ih h)
theorem Afx (hi:∀f args h x,ih' f args h=some x→ih f args h=some x) {ops:Array Oper} {before:Array Nat}:∀(l:List Oper) (i:Nat),ops.toList.drop i=l→∀{T:FS} {S:St} (done full:List (Nat×List Ref×List Ref)),
  (∀x∈full,x.2=([],[])∨x∈done)→Rep T S→∀{K:FS→Option β},Aan E ih' f rid ops before l i done T K=some r →
  ∃S' T',ED E ih f rid ops before (List.range' i l.length) full S=some S'∧Rep T' S'∧T'.n=T.n∧K T'=some r:=by
 intro l
 induction l with
 | nil=>intro i _ T S done full _ hr K h;exact ⟨S,T,rfl,hr,rfl,h⟩
 | cons o l ihl =>
  intro i hd T S done full hf hr K h;have ho:ops[i]?=some o:=by
   have:ops.toList[i]?=some o:=by rw [← List.head?_drop,hd];rfl
   simpa using this
  have hd':ops.toList.drop (i+1)=l:=by rw [← List.tail_drop,hd];rfl
  have h:SF (EZ E o.op) (KU E ih' f rid ops i o true T fun T _ _=>Aan E ih' f rid ops before l (Nat.succ i) done T K)
   (KU E ih' f rid ops i o true T fun T rd wr=>Ab (TE (before.getD i 0) done) rd wr (Aan E ih' f rid ops before l (Nat.succ i) ((i,rd,wr)::done) T K))=some r:=h
  rw [BD] at h;rw [Aym,List.range'_succ];cases hq:EZ E o.op with
  | true =>
   rw [hq] at h;simp only [cond] at h;obtain ⟨S1,T1,rd,wr,_,h1,h2,hn,h3,h4⟩:=ML hi ho hr h;have h1:=h1 rfl;obtain ⟨rfl,rfl⟩:=h4 hq;obtain ⟨S',T',h4,h5,hn2,h6⟩:=ihl (i+1) hd' done ((i,[],[])::full) (fun x hx=>by
    rcases List.mem_cons.1 hx with rfl | hx
    ·exact .inl rfl
    ·exact hf x hx) h2 h3
   refine ⟨S',T',?_,h5,hn2.trans hn,h6⟩;simp only [ED,h1]
   have:(full.all fun x=>(before.getD i 0).testBit x.1 || clash x.2 ([],[]))=true:=List.all_eq_true.2 fun x _=>by rw [Aeb];simp
   rw [if_pos this];exact h4
  | false =>
   rw [hq] at h;simp only [cond] at h;obtain ⟨S1,T1,rd,wr,_,h1,h2,hn,h3,_⟩:=ML hi ho hr h;have h1:=h1 rfl;obtain ⟨hc,h3⟩:=AmF h3;obtain ⟨S',T',h4,h5,hn2,h6⟩:=ihl (i+1) hd' ((i,rd,wr)::done) ((i,rd,wr)::full) (fun x hx=>by
    rcases List.mem_cons.1 hx with rfl | hx
    ·exact .inr List.mem_cons_self
    ·exact (hf x hx).imp id (List.mem_cons_of_mem _)) h2 h3
   refine ⟨S',T',?_,h5,hn2.trans hn,h6⟩;simp only [ED,h1]
   have:(full.all fun x=>(before.getD i 0).testBit x.1 || clash x.2 (rd,wr))=true:=List.all_eq_true.2 fun x hx=>by
    rcases hf x hx with e | e
    ·rw [e,Aek];simp
    ·cases hb:(before.getD i 0).testBit x.1 with
     | true=>rfl
     | false=>rw [hc x.2 (Ae2 (j:=x.1) e hb)];rfl
   rw [if_pos this];exact h4
theorem Af9 (ks:List Nat) (l:List IV):(AU ks l).length=l.length:=by
 induction ks generalizing l with
 | nil=>rfl
 | cons i ks ih=>simp [AU,ih]
theorem SE (ks:List Nat) (l:List IV) (i:Nat) (hi:i<l.length):(AU ks l).getD i .dead=if i∈ks then .dead else l.getD i .dead:=by
 induction ks generalizing l with
 | nil=>simp [AU]
 | cons j ks ih =>
  rw [AU,ih _ (by simpa using hi)];by_cases h:i∈ks
  ·rw [if_pos h,if_pos (List.mem_cons_of_mem _ h)]
  ·rw [if_neg h];by_cases e:i=j
   ·subst e;rw [if_pos List.mem_cons_self,List.getD_eq_getElem?_getD,List.getElem?_set_self hi];rfl
   ·rw [if_neg (by simp [e,h]),List.getD_eq_getElem?_getD,List.getElem?_set_ne (Ne.symm e),← List.getD_eq_getElem?_getD]
structure AtHead (n:Nat) (kills:List Nat) (vals:List IV) (h:Hp) (S:St):Prop where
 len:S.slots.length=n
 hp:S.hp=h
 vals:vals=(CP n kills).map fun i=>S.slots.getD i .dead
 dead:∀i,i<n→i∈kills→S.slots.getD i .dead=.dead
theorem NK {n:Nat} {kills:List Nat} {i:Nat}:i∈CP n kills ↔ i<n∧i ∉ kills:=by
 simp [CP]
theorem HQ {T:FS} {S:St} (hr:Rep T S) (kills:List Nat) (h:Hp):AtHead T.n kills ((CP T.n kills).map T.get) h ⟨AU kills S.slots,h⟩:=by
 refine ⟨by simp [Af9,hr.len],rfl,?_,fun i hi hk=>?_⟩
 ·apply List.map_congr_left;intro i hi
  have:=NK.1 hi
  rw [hr.at_];simp only;rw [SE _ _ _ (by rw [hr.len];exact this.1),if_neg this.2]
 ·simp only;rw [SE _ _ _ (by rw [hr.len];exact hi),if_pos hk]
theorem Pr {l:List IV}:∀(g:Nat→Bool) (n:Nat),l.length=n→(∀i,i<n→g i=false→l.getD i .dead=.dead) →
  IV.refs.refsL (((List.range n).filter g).map fun i=>l.getD i .dead)=IV.refs.refsL l:=by
 intro g n
 induction n generalizing l g with
 | zero=>intro hl _;cases l with | nil=>rfl | cons _ _=>cases hl
 | succ n ih =>
  intro hl hd;cases l with
  | nil=>cases hl
  | cons x l =>
   simp only [Aym,Nat.add_right_cancel_iff] at hl;rw [List.range_succ_eq_map];have ih:=ih (l:=l) (fun i=>g (i+1)) hl (fun i hi hg=>by simpa using hd (i+1) (by omega) hg);have e:(((List.range n).map Nat.succ).filter g).map (fun i=>(x::l).getD i .dead)=(((List.range n).filter fun i=>g (i+1))).map fun i=>l.getD i .dead:=by
    rw [List.filter_map,List.map_map];rfl
   cases hg:g 0 with
   | true =>
    rw [List.filter_cons_of_pos hg,Ayo,e];simp only [IV.refs.refsL,ih];rfl
   | false =>
    rw [List.filter_cons_of_neg (by rw [hg];simp),e]
    have:x=.dead:=by simpa using hd 0 (by omega) hg
    subst this;simp only [IV.refs.refsL,ih];rfl
def Mh (rm:List Nat) (rs:List Ref) (h:Hp):Option Hp :=
 let held:=rs++(h.own.filter fun p=>!rm.contains p.1).flatMap (fun p=>p.2.refs)++h.ext.flatMap Blk.refs
 let gone:=rm.filter fun k=>!anyIn [k] held
 let h2:Hp:={ h with own:=h.own.filter fun p=>!gone.contains p.1 }
 if anyIn gone (rs++h2.own.flatMap (fun p=>p.2.refs)++h2.ext.flatMap Blk.refs) then none else some h2
theorem AkO {α γ:Type} {c c':Bool} {y:α} (g:α→γ) (h:c=c'):(if c=true then none else some (g y))=(if c'=true then none else some y).map g:=by
 subst h;cases c<;>rfl
theorem GU {base kills rm:List Nat} {sl:List IV} {h:Hp} (hb:rm.any base.contains=false) (ha:(h.own.all fun p=>!rm.contains p.1)=false) :
  Cz base kills rm ⟨sl,h⟩=(Mh rm (IV.refs.refsL (AU kills sl)) h).map fun h'=>⟨AU kills sl,h'⟩:=by
 simp only [Cz,hb,ha,Bool.false_eq_true,if_false,CX,Mh];exact AkO _ rfl
theorem Oo {base rm:List Nat} {S1:St} {kills:List Nat} {sl:List IV} (hsl:IV.refs.refsL sl=IV.refs.refsL (AU kills S1.slots)) (hb:rm.any base.contains=false)
  (ha:(S1.hp.own.all fun p=>!rm.contains p.1)=false) {S:St} (h:Cz base [] rm ⟨sl,S1.hp⟩=some S):Cz base kills rm S1=some ⟨AU kills S1.slots,S.hp⟩:=by
 obtain ⟨s1,h1⟩:=S1;rw [GU hb ha] at h;rw [GU hb ha];simp only [AU] at h;rw [hsl] at h;cases hd:Mh rm (IV.refs.refsL (AU kills s1)) h1 with
 | none=>rw [hd] at h;cases h
 | some h' =>
  rw [hd] at h;simp only [Ayl,Ayi] at h;subst h;rfl
theorem LQ (s:Nat) (l:List Nat):La s l=l.contains s:=by
 induction l with
 | nil=>rfl
 | cons x l ih =>
  rw [show La s (x::l)=cond (Nat.beq s x) true (La s l) from rfl,GB,ih,List.contains_cons]
  by_cases e:s=x
  ·subst e;simp
  ·rw [if_neg e];simp [e]
theorem EY {rm:List Nat}:∀{l:List Ref},E8 rm l=true→∀k∈rm,Ref.own k ∉ l
 | [],_,k,_,h=>by cases h
 | .ext j::l,h,k,hk,hm=>by
  rcases List.mem_cons.1 hm with e | hm
  ·cases e
  ·exact EY (l:=l) h k hk hm
 | .own s::l,h,k,hk,hm=>by
  have h:cond (La s rm) false (E8 rm l)=true:=h;cases hs:La s rm with
  | true=>rw [hs] at h;cases h
  | false =>
   rw [hs] at h;rcases List.mem_cons.1 hm with e | hm
   ·simp only [Ref.own.injEq] at e;subst e;rw [LQ] at hs;rw [List.contains_iff_mem.2 hk] at hs;cases hs
   ·exact EY (l:=l) h k hk hm
theorem GY {rm:List Nat}:∀{own:List (Nat×Blk)},Hv rm own=true→∀k∈rm,Ref.own k ∉ (own.filter fun p=>!rm.contains p.1).flatMap fun p=>p.2.refs
 | [],_,k,_,h=>by cases h
 | (s,b)::own,h,k,hk,hm=>by
  have h:cond (La s rm) (Hv rm own) (cond (E8 rm (Ey b)) (Hv rm own) false)=true:=h;rw [LQ,Ke] at h;cases hs:rm.contains s with
  | true =>
   rw [hs] at h;rw [List.filter_cons_of_neg (by rw [hs];simp)] at hm;exact GY (own:=own) h k hk hm
  | false =>
   rw [hs] at h;rw [List.filter_cons_of_pos (by rw [hs];rfl)] at hm;cases hf:E8 rm b.refs with
   | false=>rw [hf] at h;cases h
   | true =>
    rw [hf] at h;simp only [List.flatMap_cons,List.mem_append] at hm;rcases hm with hm | hm
    ·exact EY hf k hk hm
    ·exact GY (own:=own) h k hk hm
theorem Mg {rm:List Nat}:∀{ext:List Blk},IL rm ext=true→∀k∈rm,Ref.own k ∉ ext.flatMap Blk.refs
 | [],_,k,_,h=>by cases h
 | b::ext,h,k,hk,hm=>by
  have h:cond (E8 rm (Ey b)) (IL rm ext) false=true:=h;rw [Ke] at h;cases hf:E8 rm b.refs with
  | false=>rw [hf] at h;cases h
  | true =>
   rw [hf] at h;simp only [List.flatMap_cons,List.mem_append] at hm;rcases hm with hm | hm
   ·exact EY hf k hk hm
   ·exact Mg (ext:=ext) h k hk hm
theorem LJ {rm:List Nat}:∀(own:List (Nat×Blk)),AkR rm own=!(own.all fun p=>!rm.contains p.1)
 | []=>rfl
 | (s,b)::own=>by
  rw [show AkR rm ((s,b)::own)=cond (La s rm) true (AkR rm own) from rfl,LQ,LJ own,List.all_cons]
  cases rm.contains s<;>rfl
theorem Hk {rm:List Nat}:∀(own:List (Nat×Blk)) (k:List (Nat×Blk)→Option β),TN rm own k=k (own.filter fun p=>!rm.contains p.1)
 | [],_=>rfl
 | (s,b)::own,k=>by
  rw [show TN rm ((s,b)::own) k=cond (La s rm) (TN rm own k) (TN rm own fun l=>k ((s,b)::l)) from rfl,LQ]
  cases hs:rm.contains s with
  | true=>rw [List.filter_cons_of_neg (by rw [hs];simp)];exact Hk own k
  | false=>rw [List.filter_cons_of_pos (by rw [hs];rfl)];exact Hk own _
theorem DE {ks:List Nat}:∀{l:List Ref},(∀k∈ks,Ref.own k ∉ l)→anyIn ks l=false
 | [],_=>rfl
 | .ext j::l,h=>DE (l:=l) fun k hk hm=>h k hk (List.mem_cons_of_mem _ hm)
 | .own s::l,h=>by
  simp only [anyIn,Bool.or_eq_false_iff];refine ⟨?_,DE (l:=l) fun k hk hm=>h k hk (List.mem_cons_of_mem _ hm)⟩;cases hc:ks.contains s with
  | false=>rfl
  | true=>exact absurd List.mem_cons_self (h s (List.contains_iff_mem.1 hc))
theorem VO {rm:List Nat} {rs:List Ref} {own:List (Nat×Blk)} {ext:List Blk} (h1:∀k∈rm,Ref.own k ∉ rs) (h2:Hv rm own=true) (h3:IL rm ext=true) :
  Mh rm rs ⟨own,ext⟩=some ⟨own.filter fun p=>!rm.contains p.1,ext⟩:=by
 have h2:=GY h2;have h3:=Mg h3;have hh:∀k∈rm,Ref.own k ∉ rs++(own.filter fun p=>!rm.contains p.1).flatMap (fun p=>p.2.refs)++ext.flatMap Blk.refs:=fun k hk hm=>by
  rcases List.mem_append.1 hm with hm | hm
  ·rcases List.mem_append.1 hm with hm | hm
   ·exact h1 k hk hm
   ·exact h2 k hk hm
  ·exact h3 k hk hm
 have hg:(rm.filter fun k=>!anyIn [k] (rs++(own.filter fun p=>!rm.contains p.1).flatMap (fun p=>p.2.refs)++ext.flatMap Blk.refs))=rm:=by
  apply List.filter_eq_self.2;intro k hk;rw [DE fun j hj hm=>hh j (by simp only [List.mem_singleton] at hj;rw [hj];exact hk) hm];rfl
 simp only [Mh,hg];rw [DE hh];rfl
theorem Tg {base kills rm:List Nat} {T:FS} {S:St} (hr:Rep T S) {k:List IV→Hp→Option β} (h:OP base kills rm T k=some r) :
  ∃S' vals hp,Cz base kills rm S=some S'∧AtHead T.n kills vals hp S'∧k vals hp=some r:=by
 unfold OP at h;split at h
 ·refine ⟨⟨AU kills S.slots,T.hp⟩,_,_,?_,HQ hr kills T.hp,h⟩;simp [Cz,hr.hp]
 ·rename_i q rm;generalize hrm:q::rm=rm' at h ⊢;have hv:=HQ hr kills S.hp;unfold BB at h;rw [← hr.hp] at h;cases hb:rm'.any base.contains with
  | true=>rw [hb] at h;cases h
  | false =>
   rw [hb] at h;obtain ⟨sl,hp0⟩:=S;obtain ⟨own,ext⟩:=hp0;simp only [cond] at h;have hsl:IV.refs.refsL ((CP T.n kills).map T.get)=IV.refs.refsL (AU kills sl):=by
    rw [hv.vals];exact Pr _ _ (by simpa using hv.len) (fun i hi hg=>hv.dead i hi (by simpa using hg))
   rw [LJ] at h;cases ha:(own.all fun p=>!rm'.contains p.1) with
   | true =>
    rw [ha] at h;refine ⟨⟨AU kills sl,⟨own,ext⟩⟩,_,_,?_,hv,h⟩;simp only [Cz,hb,Bool.false_eq_true,if_false,ha,if_true]
   | false =>
    rw [ha] at h;simp only [Bool.not_false] at h;cases hf:(and (E8 rm' (CB ((CP T.n kills).map T.get) [])) (and (Hv rm' own) (IL rm' ext))) with
    | true =>
     rw [hf] at h;simp only at h;have hf:(E8 rm' (CB ((CP T.n kills).map T.get) []) && (Hv rm' own && IL rm' ext))=true:=hf;simp only [Bool.and_eq_true] at hf;rw [Hk] at h;have h1:=EY hf.1;rw [refsDL_eq,List.append_nil,hsl] at h1;refine ⟨⟨AU kills sl,⟨own.filter fun p=>!rm'.contains p.1,ext⟩⟩,_,_,?_,HQ hr kills _,h⟩;rw [GU hb ha,VO h1 hf.2.1 hf.2.2];rfl
    | false =>
     rw [hf] at h;simp only at h;split at h
     ·cases h
     ·rename_i S2 hd;rw [JS] at h;exact ⟨⟨AU kills sl,S2.hp⟩,_,_,Oo (S1:=⟨sl,⟨own,ext⟩⟩) (sl:=(CP T.n kills).map T.get) hsl hb ha hd,HQ hr kills S2.hp,h⟩
theorem Y3:∀(cs:List Nat) (vals:List IV) (T:FS) {K:FS→Option β},(∀i∈cs,i<T.n)→(∀i,i<T.n→T.t.has i=true)→Vw cs vals T K=some r →
  ∃T',T'.n=T.n∧T'.hp=T.hp∧(∀i,i<T.n→T'.t.has i=true)∧K T'=some r∧∀g:Nat→IV,vals=cs.map g→∀i,i<T.n→T'.t.get i=if i∈cs then g i else T.t.get i
 | [],vals,T,K,_,hh,h=>⟨T,rfl,rfl,hh,h,fun g _ i _=>by simp⟩
 | c::cs,vals,T,K,hc,hh,h=>by
  have h:AF vals (fun v vals=>JJ (some c) v T.hp T fun T=>Vw cs vals T K)=some r:=h;have eK:(fun (v:IV) vals=>JJ (some c) v T.hp T fun T=>Vw cs vals T K)=fun v vals=>Vw cs vals (Qb (some c) v T) K:=by
   funext v vals
   rw [Ny,RW]
  rw [eK] at h;cases vals with
  | nil=>cases h
  | cons v vals =>
   have h:Vw cs vals (Qb (some c) v T) K=some r:=h;have hcn:c<T.n:=hc c List.mem_cons_self;have hput:Qb (some c) v T=⟨T.n,T.t.set c v,T.hp⟩:=by
    simp only [Qb];cases hb:Nat.ble T.n c with
    | true=>have:=Bj hb;omega
    | false=>rfl
   rw [hput] at h;obtain ⟨T',h1,h2,h3,h4,h5⟩:=Y3 cs vals ⟨T.n,T.t.set c v,T.hp⟩ (fun i hi=>hc i (List.mem_cons_of_mem _ hi)) (fun i hi=>by rw [Adu];exact hh i hi) h;refine ⟨T',h1,h2,h3,h4,fun g hg i hi=>?_⟩;simp only [Ayo,List.cons.injEq] at hg;rw [h5 g hg.2 i hi];by_cases hm:i∈cs
   ·rw [if_pos hm,if_pos (List.mem_cons_of_mem _ hm)]
   ·rw [if_neg hm];simp only;rw [Aa4 _ _ _ (hh c hcn)];by_cases e:i=c
    ·subst e;rw [if_pos rfl,if_pos List.mem_cons_self,hg.1]
    ·rw [if_neg e,if_neg (by simp [e,hm])]
theorem Al5 {n:Nat} (hn:n≤1024) {kills:List Nat} {vals:List IV} {h:Hp} {S:St} (ha:AtHead n kills vals h S) {K:FS→Option β} (e:Vw (CP n kills) vals ⟨n,dT 10 0 n,h⟩ K=some r) :
  ∃T',T'.n=n∧Rep T' S∧K T'=some r:=by
 obtain ⟨T',h1,h2,h3,h4,h5⟩:=Y3 (CP n kills) vals ⟨n,dT 10 0 n,h⟩ (fun i hi=>(NK.1 hi).1) (fun i hi=>(AbI 10 0 n i (by simpa using hn) (Nat.zero_le _) (by simpa using hi)).1) e;refine ⟨T',h1,⟨by rw [ha.hp,h2],by rw [ha.len,h1],fun i hi=>h3 i (by rw [h1] at hi;exact hi),fun i hi=>?_⟩,h4⟩;rw [h1] at hi;rw [h5 _ ha.vals i hi];by_cases hm:i∈CP n kills
 ·rw [if_pos hm]
 ·rw [if_neg hm];have hk:i∈kills:=Classical.byContradiction fun hk=>hm (NK.2 ⟨hi,hk⟩);rw [ha.dead i hi hk];exact (AbI 10 0 n i (by simpa using hn) (Nat.zero_le _) (by simpa using hi)).2
theorem AfN (hi:∀f args h x,ih' f args h=some x→ih f args h=some x) {n:Nat} {base:List Nat}:∀(c:Code) {T:FS} {S:St},Rep T S→T.n≤1024→∀{K:Ex→FS→Option β},E3 E ih' f n base c T K=some r →
  ∃ex S' T',Dj E ih f n base c S=some (ex,S')∧Rep T' S'∧T'.n=T.n∧K ex T'=some r:=by
 intro c
 induction c with
 | skip=>intro T S hr _ K h;exact ⟨_,S,T,rfl,hr,rfl,h⟩
 | region rid ops d =>
  intro T S hr _ K h;simp only [E3,BD] at h;simp only [Dj];rw [List.range_eq_range'];cases d with
  | true =>
   obtain ⟨S',T',h1,h2,h3,h4⟩:=Afx hi ops.toList 0 rfl [] [] (fun x hx=>by cases hx) hr h;simp only [Array.length_toList] at h1;exact ⟨_,S',T',by simp only [if_true,h1,Ayl],h2,h3,h4⟩
  | false =>
   obtain ⟨S',T',h1,h2,h3,h4⟩:=Air hi ops.toList 0 rfl hr h;simp only [Array.length_toList] at h1;exact ⟨_,S',T',by simp only [Bool.false_eq_true,if_false,h1,Ayl],h2,h3,h4⟩
 | seq x y ihx ihy =>
  intro T S hr hl K h;simp only [E3,BD] at h;obtain ⟨ex,S1,T1,h1,h2,hn,h3⟩:=ihx hr hl h;simp only [Dj,h1];cases ex with
  | normal =>
   obtain ⟨ex,S2,T2,h4,h5,hn2,h6⟩:=ihy h2 (by rw [hn];exact hl) h3;exact ⟨ex,S2,T2,h4,h5,hn2.trans hn,h6⟩
  | exit j=>exact ⟨_,_,_,rfl,h2,hn,h3⟩
  | ret=>exact ⟨_,_,_,rfl,h2,hn,h3⟩
 | cond c x y ihx ihy =>
  intro T S hr hl K h;simp only [E3,BD,K0 hr] at h;obtain ⟨t,ht,h⟩:=UZ h;cases t with
  | true=>simp only [Dj,ht];exact ihx hr hl h
  | false=>simp only [Dj,ht];exact ihy hr hl h
 | block id x ihx =>
  intro T S hr hl K h;simp only [E3,BD] at h;obtain ⟨ex,S1,T1,h1,h2,hn,h3⟩:=ihx hr hl h;simp only [Dj,h1];cases ex with
  | normal=>exact ⟨_,_,_,rfl,h2,hn,h3⟩
  | exit j =>
   simp only [GB] at h3 ⊢;by_cases e:j=id
   ·rw [if_pos e] at h3;rw [if_pos e];exact ⟨_,_,_,rfl,h2,hn,h3⟩
   ·rw [if_neg e] at h3;rw [if_neg e];exact ⟨_,_,_,rfl,h2,hn,h3⟩
  | ret=>exact ⟨_,_,_,rfl,h2,hn,h3⟩
 | loop x ihx =>
  intro T S hr hl K h;simp only [E3,BD] at h;simp only [Dj];generalize (E.pol.head f (Cd x)).1=kills at h ⊢;generalize (E.pol.head f (Cd x)).2=rm at h ⊢;generalize hF:(fun (rec:List IV→Hp→Option β) vals h=>Vw (CP T.n kills) vals ⟨T.n,dT 10 0 T.n,h⟩ fun T=>E3 E ih' f n base x T fun ex T=>match ex with
   | .normal=>OP base kills rm T rec
   | .exit j=>K (.exit j) T
   | .ret=>K .ret T)=F at h
  have key:∀(k:Nat) (S1:St) (T1:FS),Rep T1 S1→T1.n=T.n→OP base kills rm T1 (Bh k F)=some r →
    ∃ex S' T',iterate (Cz base kills rm) (Dj E ih f n base x) k S1=some (ex,S')∧Rep T' S'∧T'.n=T.n∧K ex T'=some r:=by
   intro k
   induction k with
   | zero =>
    intro S1 T1 hr1 hn1 h;obtain ⟨S2,vals,hp,_,_,h⟩:=Tg hr1 h;cases h
   | succ k ihk =>
    intro S1 T1 hr1 hn1 h;obtain ⟨S2,vals,hp,h1,h2,h⟩:=Tg hr1 h;have h:F (Bh k F) vals hp=some r:=h;rw [← hF] at h;rw [hn1] at h2;simp only at h;obtain ⟨T2,hn2,hr2,h⟩:=Al5 hl h2 h;obtain ⟨ex,S3,T3,h3,hr3,hn3,h⟩:=ihx hr2 (by rw [hn2];exact hl) h;simp only [iterate,h1,Option.bind_some,h3];cases ex with
    | normal =>
     simp only at h;rw [hF] at h;exact ihk S3 T3 hr3 (hn3.trans hn2) h
    | exit j=>exact ⟨_,_,_,rfl,hr3,hn3.trans hn2,h⟩
    | ret=>exact ⟨_,_,_,rfl,hr3,hn3.trans hn2,h⟩
  exact key n S T hr rfl h
 | exit id=>intro T S hr _ K h;exact ⟨_,S,T,rfl,hr,rfl,h⟩
 | ret=>intro T S hr _ K h;exact ⟨_,S,T,rfl,hr,rfl,h⟩
 | _=>intro T S hr _ K h;simp only [E3,BD] at h;cases h
theorem Ahx {agg:Bool} {size:Nat} {a:IV} {hp:Hp} {k:IV→Option β} (h:Ap agg size a hp k=some r) :
  ∃v,(match a with
   | .ptr q off=>match hp.get q with
    | some (.row cells _)=>Ci agg size off cells
    | _=>none
   | .fv (.fp cells off)=>(Bq agg size off cells).map .fv
   | _=>none)=some v∧k v=some r:=by
 cases agg with
 | true =>
  have h:Ad size a hp (fun v _=>k v)=some r:=h;unfold Ad at h;rcases Dn h with ⟨q,o,rfl,g'⟩ | ⟨cs,o,rfl,g'⟩<;>replace h:=g'<;>clear g'
  ·rw [D5] at h;obtain ⟨b,hb,h⟩:=Br h;obtain ⟨cells,ro,rfl,g'⟩:=Gg h;replace h:=g';clear g';obtain ⟨h1,h2⟩:=O1 h;exact ⟨_,by simp only [hb,h1],h2⟩
  ·obtain ⟨h1,h2⟩:=Mt h;exact ⟨_,by simp only [h1,Ayl],h2⟩
 | false =>
  have h:Ak a hp (fun v _=>k v)=some r:=h;unfold Ak at h;rcases Dn h with ⟨q,o,rfl,g'⟩ | ⟨cs,o,rfl,g'⟩<;>replace h:=g'<;>clear g'
  ·rw [D5] at h;obtain ⟨b,hb,h⟩:=Br h;obtain ⟨cells,ro,rfl,g'⟩:=Gg h;replace h:=g';clear g';rw [C2] at h;obtain ⟨v,hv,h⟩:=Br h;exact ⟨_,by simp only [hb,Ci,Bool.false_eq_true,if_false,hv],h⟩
  ·rw [C2] at h;obtain ⟨v,hv,h⟩:=Br h;exact ⟨_,by simp only [Bq,Bool.false_eq_true,if_false,hv,Ayl],h⟩
theorem R2 {T:FS} {S:St} (hr:Rep T S):∀(rs:List ResultVar) (acc:List IV) {k:List IV→Option β},AeO E T rs acc k=some r→∃vs,FO E S rs=some vs∧k (acc++vs)=some r
 | [],acc,k,h=>⟨[],rfl,by rw [List.append_nil];exact h⟩
 | .tmp t::rs,acc,k,h=>by
  have h:AeO E T rs (acc++[T.get t]) k=some r:=h;obtain ⟨vs,h1,h2⟩:=R2 hr rs _ h;refine ⟨T.get t::vs,?_,by simpa using h2⟩;simp only [FO,I0,Option.bind_some,h1,Ayl,hr.at_]
 | .cell a t::rs,acc,k,h=>by
  have h:(match E.T t with
   | none=>none
   | some ti=>Ap ti.kind.isAgg ti.size (T.get a) T.hp fun v=>AeO E T rs (acc++[v]) k)=some r:=h
  cases ht:E.T t with
  | none=>rw [ht] at h;cases h
  | some ti =>
   rw [ht] at h;obtain ⟨v,h1,h⟩:=Ahx h;obtain ⟨vs,h2,h3⟩:=R2 hr rs _ h;refine ⟨v::vs,?_,by simpa using h3⟩
   have:I0 E S (.cell a t)=some v:=by
    simp only [I0,ht,← hr.at_,hr.hp];rw [← h1];cases T.get a with
    | fv w=>cases w<;>rfl
    | _=>rfl
   simp only [FO,this,Option.bind_some,h2,Ayl]
theorem Ams {FT:Nat→Option Func} (hFT:∀f fn,FT f=some fn→E.P.funcs[f]?=some fn) {n:Nat} {sh:Aa} (hi:∀f args h x,sh f args h=some x→run E n f args h=some x) {args:List IV} {h:Hp} {x:IV×Hp}
  (e:Ax E sh FT n f args h=some x):run E (n+1) f args h=some x:=by
 unfold Ax at e;simp only [BD] at e;simp only [run];cases hf:FT f with
 | none=>rw [hf] at e;cases e
 | some fn =>
  rw [hf] at e;rw [hFT f fn hf];simp only at e ⊢;cases hc:fn.body with
  | none=>rw [hc] at e;cases e
  | some c =>
   rw [hc] at e;simp only at e ⊢;obtain ⟨hl,e⟩:=Dx e;rw [O2] at e;simp only [Bool.and_eq_true] at hl;have hl1:=Bj hl.1;have hl2:=Bj hl.2;have hrep0:Rep ⟨fn.ntmps,dT 10 0 fn.ntmps,h⟩ ⟨List.replicate fn.ntmps .dead,h⟩:=by
    refine ⟨rfl,by simp,fun i hi=>(AbI 10 0 fn.ntmps i (by simpa using hl2) (Nat.zero_le _) (by simpa using hi)).1,fun i hi=>?_⟩;rw [(AbI 10 0 fn.ntmps i (by simpa using hl2) (Nat.zero_le _) (by simpa using hi)).2,List.getD_eq_getElem?_getD,List.getElem?_replicate];simp [hi]
   obtain ⟨T0,h1,h2⟩:=Afy args 0 (K:=_) hrep0;rw [h1] at e;have hs:Jp args 0 (List.replicate fn.ntmps .dead)=args++List.replicate (fn.ntmps - args.length) .dead:=by
    apply List.ext_getElem?;intro j;rw [KQ _ _ _ _ (by simpa using hl1)];by_cases hj:j<args.length
    ·rw [if_pos (by omega),List.getElem?_append_left hj];simp
    ·rw [if_neg (by omega),List.getElem?_append_right (by omega),List.getElem?_replicate,List.getElem?_replicate];by_cases hj2:j<fn.ntmps
     ·rw [if_pos hj2,if_pos (by omega)]
     ·rw [if_neg hj2,if_neg (by omega)]
   simp only [hs] at h2;have hT0:T0.n≤1024:=by
    have:=h2.len
    simp at this;omega
   obtain ⟨ex,S',T',h3,h4,_,h5⟩:=AfN hi c h2 hT0 e;rw [h3];have hres:(AeO E T' fn.results.toList [] fun vs=>Am vs T'.hp)=some x→(Gb E S' fn.results.toList).map (fun v=>(v,S'.hp))=some x:=by
    intro h;obtain ⟨vs,h1,h⟩:=R2 h4 _ _ h;rw [List.nil_append] at h;simp only [Gb,h1,Ayl,h4.hp]
    match vs,h with
    | [],h=>simp only [Am,AcE] at h;exact h
    | [v],h=>exact h
    | v::w::l,h=>simp only [Am,AcE] at h;exact h
   cases ex with
   | exit j=>cases h5
   | normal=>exact hres h5
   | ret=>exact hres h5
end
end Idl
end Go.Proofs.Ytdibmackcbpniaa
namespace Go.Proofs.Ytdibmackcbpniaa
namespace Idl
section
variable {β:Type}
def Ua {α:Type} (l:List α) (a:Option β):Option β:=List.casesOn (motive:=fun _=>Option β) l a fun _ _=>none
def OB (g:Hp→Option β) (args:List IV) (h:Hp):Option β:=Ua args (g h)
def EP (g:IV→Hp→Option β) (args:List IV) (h:Hp):Option β:=AF args fun a l=>Ua l (g a h)
def CN (g:IV→IV→Hp→Option β) (args:List IV) (h:Hp):Option β:=AF args fun a l=>AF l fun b l=>Ua l (g a b h)
def Jh (g:IV→IV→IV→Hp→Option β) (args:List IV) (h:Hp):Option β:=AF args fun a l=>AF l fun b l=>AF l fun c l=>Ua l (g a b c h)
def Lc (g:IV→IV→IV→IV→Hp→Option β) (args:List IV) (h:Hp):Option β:=AF args fun a l=>AF l fun b l=>AF l fun c l=>AF l fun d l=>Ua l (g a b c d h)
def ar5 (g:IV→IV→IV→IV→IV→Hp→Option β) (args:List IV) (h:Hp):Option β:=AF args fun a l=>AF l fun b l=>AF l fun c l=>AF l fun d l=>AF l fun e l=>Ua l (g a b c d e h)
def ar6 (g:IV→IV→IV→IV→IV→IV→Hp→Option β) (args:List IV) (h:Hp):Option β:=AF args fun a l=>AF l fun b l=>AF l fun c l=>AF l fun d l=>AF l fun e l=>AF l fun f l=>Ua l (g a b c d e f h)
theorem Cf {α:Type} {l:List α} {k:α→List α→Option β} {r:β} (h:AF l k=some r):∃a t,l=a::t∧k a t=some r:=by
 cases l with
 | nil=>cases h
 | cons a t=>exact ⟨a,t,rfl,h⟩
theorem Jd {α:Type} {l:List α} {a:Option β} {r:β} (h:Ua l a=some r):l=[]∧a=some r:=by
 cases l with
 | nil=>exact ⟨rfl,h⟩
 | cons _ _=>cases h
variable {F:List IV→Hp→Option β} {args:List IV} {h:Hp} {r:β}
theorem AhK {g:Hp→Option β} (hg:∀h,F [] h=g h) (e:OB g args h=some r):F args h=some r:=by
 obtain ⟨rfl,e9⟩:=Jd e;rw [hg];exact e9
theorem BK {g:IV→Hp→Option β} (hg:∀a h,F [a] h=g a h) (e:EP g args h=some r):F args h=some r:=by
 obtain ⟨a,l1,rfl,e1⟩:=Cf e;obtain ⟨rfl,e9⟩:=Jd e1;rw [hg];exact e9
theorem A8 {g:IV→IV→Hp→Option β} (hg:∀a b h,F [a,b] h=g a b h) (e:CN g args h=some r):F args h=some r:=by
 obtain ⟨a,l1,rfl,e1⟩:=Cf e;obtain ⟨b,l2,rfl,e2⟩:=Cf e1;obtain ⟨rfl,e9⟩:=Jd e2;rw [hg];exact e9
theorem C6 {g:IV→IV→IV→Hp→Option β} (hg:∀a b c h,F [a,b,c] h=g a b c h) (e:Jh g args h=some r):F args h=some r:=by
 obtain ⟨a,l1,rfl,e1⟩:=Cf e;obtain ⟨b,l2,rfl,e2⟩:=Cf e1;obtain ⟨c,l3,rfl,e3⟩:=Cf e2;obtain ⟨rfl,e9⟩:=Jd e3;rw [hg];exact e9
theorem DK {g:IV→IV→IV→IV→Hp→Option β} (hg:∀a b c d h,F [a,b,c,d] h=g a b c d h) (e:Lc g args h=some r):F args h=some r:=by
 obtain ⟨a,l1,rfl,e1⟩:=Cf e;obtain ⟨b,l2,rfl,e2⟩:=Cf e1;obtain ⟨c,l3,rfl,e3⟩:=Cf e2;obtain ⟨d,l4,rfl,e4⟩:=Cf e3;obtain ⟨rfl,e9⟩:=Jd e4;rw [hg];exact e9
theorem Avn {g:IV→IV→IV→IV→IV→Hp→Option β} (hg:∀a b c d x h,F [a,b,c,d,x] h=g a b c d x h) (e:ar5 g args h=some r):F args h=some r:=by
 obtain ⟨a,l1,rfl,e1⟩:=Cf e;obtain ⟨b,l2,rfl,e2⟩:=Cf e1;obtain ⟨c,l3,rfl,e3⟩:=Cf e2;obtain ⟨d,l4,rfl,e4⟩:=Cf e3;obtain ⟨x,l5,rfl,e5⟩:=Cf e4;obtain ⟨rfl,e9⟩:=Jd e5;rw [hg];exact e9
theorem AvA {g:IV→IV→IV→IV→IV→IV→Hp→Option β} (hg:∀a b c d x y h,F [a,b,c,d,x,y] h=g a b c d x y h) (e:ar6 g args h=some r):F args h=some r:=by
 obtain ⟨a,l1,rfl,e1⟩:=Cf e;obtain ⟨b,l2,rfl,e2⟩:=Cf e1;obtain ⟨c,l3,rfl,e3⟩:=Cf e2;obtain ⟨d,l4,rfl,e4⟩:=Cf e3;obtain ⟨x,l5,rfl,e5⟩:=Cf e4;obtain ⟨y,l6,rfl,e6⟩:=Cf e5;obtain ⟨rfl,e9⟩:=Jd e6;rw [hg];exact e9
end
abbrev Sh:=Aa→Nat→List IV→Hp→Option (IV×Hp)
inductive DT where
 | nil
 | leaf (f:Nat) (g:Sh)
 | node (m:Nat) (l r:DT)
def DT.call (t:DT):Nat→Sh :=
 DT.rec (motive:=fun _=>Nat→Sh) (fun _ _ _ _ _=>none) (fun f g i=>cond (Nat.beq i f) g fun _ _ _ _=>none) (fun m _ _ gl gr i=>cond (Nat.ble m i) (gr i) (gl i)) t
def SS (t:DT) (n:Nat):Aa:=Nat.rec (motive:=fun _=>Aa) (fun _ _ _=>none) (fun n ih f args h=>t.call f ih n args h) n
def Aub (E:Env) (FT:Nat→Option Func) (f:Nat) (g:Sh):Prop:=∀ih n args h x,g ih n args h=some x→Ax E ih FT n f args h=some x
def DT.Ok (E:Env) (FT:Nat→Option Func):DT→Prop
 | .nil=>True
 | .leaf f g=>Aub E FT f g
 | .node _ l r=>l.Ok E FT∧r.Ok E FT
theorem DT.call_ok {E:Env} {FT:Nat→Option Func} {t:DT} (ht:t.Ok E FT):∀f,Aub E FT f (t.call f):=by
 induction t with
 | nil=>intro f ih n args h x e;cases e
 | leaf j g =>
  intro f ih n args h x e;have e:(cond (Nat.beq f j) g fun _ _ _ _=>none) ih n args h=some x:=e;cases hb:Nat.beq f j with
  | false=>rw [hb] at e;cases e
  | true=>rw [hb] at e;rw [Dk hb];exact ht ih n args h x e
 | node m l r ihl ihr =>
  intro f ih n args h x e;have e:(cond (Nat.ble m f) (r.call f) (l.call f)) ih n args h=some x:=e;cases hb:Nat.ble m f with
  | true=>rw [hb] at e;exact ihr ht.2 f ih n args h x e
  | false=>rw [hb] at e;exact ihl ht.1 f ih n args h x e
theorem AtU {E:Env} {FT:Nat→Option Func} (hFT:∀f fn,FT f=some fn→E.P.funcs[f]?=some fn) {t:DT} (ht:t.Ok E FT):∀n f args h x,SS t n f args h=some x→run E n f args h=some x:=by
 intro n
 induction n with
 | zero=>intro f args h x e;cases e
 | succ n ihn=>intro f args h x e;exact Ams hFT ihn (DT.call_ok ht f _ _ _ _ _ e)
end Idl
end Go.Proofs.Ytdibmackcbpniaa

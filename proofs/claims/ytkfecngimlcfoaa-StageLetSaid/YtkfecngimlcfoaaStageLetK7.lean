/-
  Texts of a proof, part 7: an ideal semantics of the program, its functions in shallow form, contracts of them. No statement of the seat is proved here.
-/
import Derived.Test.YtkfecngimlcfoaaChecked
import Derived.KernelRfl
import Derived.Test.YtkfecngimlcfoaaStageLetK6
set_option linter.all false
set_option maxRecDepth 20000
set_option maxHeartbeats 16000000
noncomputable section
namespace Go.Proofs.Ytkfecngimlcfoaa
namespace Idl
def tab:TTree :=
 .node 66 (.node 16 (.node 9 (.node 5 (.node 3 (.leaf 2 ⟨1,8,.int .i64,[.fv (.int .i64 0)]⟩)
 (.node 4 (.leaf 3 ⟨1,8,.int .i64,[.fv (.int .i64 0)]⟩)
 (.leaf 4 ⟨1,1,.bool,[.fv (.bool false)]⟩)))
 (.node 6 (.leaf 5 ⟨1,1,.int .u8,[.fv (.int .u8 0)]⟩)
 (.node 8 (.leaf 6 ⟨1,1,.int .u8,[.fv (.int .u8 0)]⟩)
 (.leaf 8 ⟨4,24,.struct [(0,2),(1,3),(2,4),(3,6)],[.fv (.int .i64 0),.fv (.int .i64 0),.fv (.bool false),.fv (.int .u8 0)]⟩))))
 (.node 12 (.node 10 (.leaf 9 ⟨1,16,.str,[.fv (.str .empty)]⟩)
 (.node 11 (.leaf 10 ⟨1,16,.str,[.fv (.str .empty)]⟩)
 (.leaf 11 ⟨1,16,.str,[.fv (.str .empty)]⟩)))
 (.node 14 (.leaf 12 ⟨1,8,.int .u64,[.fv (.int .u64 0)]⟩)
 (.node 15 (.leaf 14 ⟨2,24,.struct [(0,9),(1,12)],[.fv (.str .empty),.fv (.int .u64 0)]⟩)
 (.leaf 15 ⟨1,8,.ptr,[.fv (.nilp)]⟩)))))
 (.node 28 (.node 22 (.node 17 (.leaf 16 ⟨1,8,.ptr,[.fv (.nilp)]⟩)
 (.node 19 (.leaf 17 ⟨1,8,.ptr,[.fv (.nilp)]⟩)
 (.leaf 19 ⟨1,8,.struct [(0,17)],[.fv (.nilp)]⟩)))
 (.node 24 (.leaf 22 ⟨1,24,.slice 24,[.nils]⟩)
 (.node 27 (.leaf 24 ⟨3,40,.struct [(0,3),(1,3),(2,22)],[.fv (.int .i64 0),.fv (.int .i64 0),.nils]⟩)
 (.leaf 27 ⟨1,24,.slice 69,[.nils]⟩))))
 (.node 40 (.node 30 (.leaf 28 ⟨1,24,.slice 30,[.nils]⟩)
 (.node 36 (.leaf 30 ⟨3,40,.struct [(0,3),(1,3),(2,28)],[.fv (.int .i64 0),.fv (.int .i64 0),.nils]⟩)
 (.leaf 36 ⟨1,8,.int .i64,[.fv (.int .i64 0)]⟩)))
 (.node 52 (.leaf 40 ⟨1,8,.func,[.fv (.nilf)]⟩)
 (.node 55 (.leaf 52 ⟨1,24,.slice 9,[.nils]⟩)
 (.leaf 55 ⟨1,8,.int .u64,[.fv (.int .u64 0)]⟩))))))
 (.node 100 (.node 86 (.node 80 (.node 69 (.leaf 66 ⟨2,16,.struct [(0,3),(1,3)],[.fv (.int .i64 0),.fv (.int .i64 0)]⟩)
 (.node 75 (.leaf 69 ⟨4,48,.struct [(0,3),(1,30)],[.fv (.int .i64 0),.fv (.int .i64 0),.fv (.int .i64 0),.nils]⟩)
 (.leaf 75 ⟨1,24,.slice 3,[.nils]⟩)))
 (.node 82 (.leaf 80 ⟨1,8,.ptr,[.fv (.nilp)]⟩)
 (.node 84 (.leaf 82 ⟨3,24,.struct [(0,3),(1,3),(2,3)],[.fv (.int .i64 0),.fv (.int .i64 0),.fv (.int .i64 0)]⟩)
 (.leaf 84 ⟨1,8,.ptr,[.fv (.nilp)]⟩))))
 (.node 94 (.node 88 (.leaf 86 ⟨1,8,.ptr,[.fv (.nilp)]⟩)
 (.node 93 (.leaf 88 ⟨2,16,.struct [(0,3),(1,3)],[.fv (.int .i64 0),.fv (.int .i64 0)]⟩)
 (.leaf 93 ⟨1,8,.ptr,[.fv (.nilp)]⟩)))
 (.node 96 (.leaf 94 ⟨1,8,.ptr,[.fv (.nilp)]⟩)
 (.node 98 (.leaf 96 ⟨1,8,.ptr,[.fv (.nilp)]⟩)
 (.leaf 98 ⟨1,8,.map 3 124,[.dead]⟩)))))
 (.node 124 (.node 116 (.node 112 (.leaf 100 ⟨5,40,.struct [(0,3),(1,3),(2,3),(3,36),(4,98)],[.fv (.int .i64 0),.fv (.int .i64 0),.fv (.int .i64 0),.fv (.int .i64 0),.dead]⟩)
 (.node 114 (.leaf 112 ⟨1,24,.slice 5,[.nils]⟩)
 (.leaf 114 ⟨1,24,.slice 84,[.nils]⟩)))
 (.node 120 (.leaf 116 ⟨7,104,.struct [(0,3),(1,3),(2,114),(3,114),(4,30)],[.fv (.int .i64 0),.fv (.int .i64 0),.nils,.nils,.fv (.int .i64 0),.fv (.int .i64 0),.nils]⟩)
 (.node 122 (.leaf 120 ⟨1,8,.int .i64,[.fv (.int .i64 0)]⟩)
 (.leaf 122 ⟨1,8,.func,[.fv (.nilf)]⟩))))
 (.node 129 (.node 125 (.leaf 124 ⟨1,8,.struct [(0,122)],[.fv (.nilf)]⟩)
 (.node 127 (.leaf 125 ⟨1,8,.ptr,[.fv (.nilp)]⟩)
 (.leaf 127 ⟨1,24,.slice 96,[.nils]⟩)))
 (.node 135 (.node 132 (.leaf 129 ⟨7,88,.struct [(0,3),(1,3),(2,127),(3,30),(6,125)],[.fv (.int .i64 0),.fv (.int .i64 0),.nils,.fv (.int .i64 0),.fv (.int .i64 0),.nils,.fv (.nilp)]⟩)
 (.leaf 132 ⟨31,248,.arr 31 3,[.fv (.int .i64 0),.fv (.int .i64 0),.fv (.int .i64 0),.fv (.int .i64 0),.fv (.int .i64 0),.fv (.int .i64 0),.fv (.int .i64 0),.fv (.int .i64 0),.fv (.int .i64 0),.fv (.int .i64 0),.fv (.int .i64 0),.fv (.int .i64 0),.fv (.int .i64 0),.fv (.int .i64 0),.fv (.int .i64 0),.fv (.int .i64 0),.fv (.int .i64 0),.fv (.int .i64 0),.fv (.int .i64 0),.fv (.int .i64 0),.fv (.int .i64 0),.fv (.int .i64 0),.fv (.int .i64 0),.fv (.int .i64 0),.fv (.int .i64 0),.fv (.int .i64 0),.fv (.int .i64 0),.fv (.int .i64 0),.fv (.int .i64 0),.fv (.int .i64 0),.fv (.int .i64 0)]⟩))
 (.node 147 (.leaf 135 ⟨2,16,.struct [(0,96),(1,125)],[.fv (.nilp),.fv (.nilp)]⟩)
 (.leaf 147 ⟨1,1,.int .u8,[.fv (.int .u8 0)]⟩))))))
def Ap4:List (Nat×List Bool):=[(61,[true,false,false,false]),(62,[true,false,false]),(63,[true,false,false]),(68,[false,true,false]),(71,[true,false,false]),(72,[true,false,false,false]),(88,[true,false]),(94,[true,false]),(95,[true,false]),(96,[true,false]),(97,[true,false]),(98,[true,false]),(99,[true]),(102,[true,false]),(103,[true,false,false,false]),(108,[true])]
def An9:List (Nat×Nat×List Nat×List Nat):=[(5,11,[1,2,3,4,6,7,8,12,13,14,15,16,17,18,19,20,21,22,23,24,25,26,27,28,29,30,31,32,33,34,35,36,37,38,39,40,41,42,43,44,45,46,47,48,49,50,51,52,53,54,55,56,57,58,59,60,61,62,63,64,65,66,67,68,69,70,71,72,73,74,75,76,77,78,79,80,81,82,83,84,85,86,87,88,89,90],[]),
 (6,11,[1,2,3,4,5,6,7,11,12,13,14,15,16,17,18,19,20,21,22,23,24,25,26,27,28,29,30,31,32,33,34,35,36,37,38,39,40,41,42,43,44,45,46,47,48,49,50,51,52,53,54,55,56,57,58,59,60,61,62,63,64,65,66,67,68,69,70,71,72,73,74,75,76,77,78,79,80,81],[]),
 (9,11,[0,1,3,4,5,6,7,8,14,15,16,17,18,19,20,21,22,23,24,25,26,27,28,29,30,31,32,33,34,35,36,37,38,39,40,41,42,43,44,45,46,47,48,49,50,51,52,53,54,55,56,57,58,59,60,61,62,63,64,65,66,67,68,69,70,71,72,73,74,75,76,77,78,79,80,81,82,83],[]),
 (10,11,[0,2,3,4,12,13,14,15,16,17,18,19,20,21,22,23,24,25,26,27,28,29,30,31,32,33,34,35,36,37,38,39,40,41,42,43,44,45,46,47,48,49,50,51,52,53,54,55,56,57,58,59,60,61,62,63,64,65,66,67,68,69,70,71,72,73,74,75,76,77,78,79,80,81,82,83,84,85,86,87,88,89,90,91,92,93,94,95,96,97,98,99,100,101,102,103,104,105,106,107,108,109,110,111,112,113,114,115,116,117,118,119,120,121,122,123,124],[]),
 (17,4,[0,1,4,6,7,8,9,10,11,12,13,14,15,16,17,18,19,20,21,22,23,24,25,26,27,28,29,30,31,32,33,34,35,36,37,38,39,40,41,42,43,44,45],[]),
 (21,15,[0,4,5,10,11,12,13,14,15,16,17,18,19,20,21,22,23,24,25,26,27,28,29,30,31,32,33,34,35,36,37,38,39,40,41,42,43,44,45,46,47,48,49,50,51,52,53,54,55,56,57,58,59,60,61,62,63,64,65,66,67,68,69,70,71,72,73,74,75,76,77],[22037518]),
 (22,3,[0,2,5,6,7,8,9,10,11,12,13,14,15,16,17,18,19,20,21,22,23,24,25,26,27,28,29,30,31,32,33,34,35,36,37,38,39,40,41,42,43,44,45,46,47,48,49],[]),
 (27,3,[1,5,6,7,8,9,10,11,12,13,14],[]),
 (29,4,[0,2,4,5,6,7,8,9,10,11,12,13,14,15,16,17,18,19,20,21,22,23,24,25,26,27,28,29,30],[]),
 (30,15,[0,2,3,6,7,8,9,10,11,12,13,14,15,16,17,18,19,20,21,22,23,24,25,26,27,28,29,30,31,32,33,34,35,36,37,38,39,40,41,42,43,44,45,46,47,48,49,50,51,52,53,54,55,56,57,58,59,60,61],[]),
 (31,3,[0,2,5,6,7,8,9,10,11,12,13,14,15,16,17,18,19,20],[]),
 (36,3,[0,3,4,7,8,9,10,11,12,13,14,15,16,17,18,19,20,21,22,23,24,25,26,27,28,29,30],[]),
 (37,3,[1,2,5,6,7,8,9,10,11,12,13,14,15,16,17,18,19,20,21,22,23,24,25,26,27,28,29,30,31,32,33,34,35,36,37,38,39,40,41,42,43,44,45,46],[38803466]),
 (45,5,[0,4,5,9,10,11,12,13,14,15,16,17,18,19,20,21,22,23,24,25,26,27,28,29,30,31,32,33,34,35,36,37,38,39,40,41,42,43,44,45,46,47,48,49,50,51,52,53],[47193104]),
 (49,2,[3,4,5,6,8,10,11,12,13,14,15,16,17,18,19,20,21,22,23,24,25,26,27],[]),
 (58,3,[2,4,5,7,9,12,13,14,15,16,17,18,19,20,21,22,23,24,25,26,27,28,29,30,31,32,33,34,35,36,37,38,39,40,41,42,43,44,45,46,47,48,49,50,51,52,53,54,55,56,57,58,59,60,61,62,63,64,65,66,67,68,69,70,71],[60823568,60825603]),
 (61,10,[4,5,6,7,11,12,13,14,15,16,17,18,19,20,21,22,23,24,25,26,27,28,29,30,31,32,33,34,35,36,37,38,39,40,41,42,43,44,45,46,47,48,49,50,51,52,53,54,55,56,57,58,59,60,61,62,63,64,65,66,67,68,69,70,71,72,73,74,75,76,77,78,79,80,81,82,83,84,85,86,87,88,89,90,91,92,93,94,95,96,97,98,99,100,101,102,103,104,105,106,107,108,109,110,111,112,113,114,115,116,117,118,119,120,121,122,123,124,125,126,127,128,129,130],[63982597,63984651]),
 (61,17,[4,5,6,7,15,16,17,18,19,20,21,22,23,24,25,26,27,28,29,30,31,32,33,34,35,36,37,38,39,40,41,42,43,44,45,46,47,48,49,50,51,52,53,54,55,56,57,58,59,60,61,62,63,64,65,66,67,68,69,70,71,72,73,74,75,76,77,78,79,80,81,82,83,84,85,86,87,88,89,90,91,92,93,94,95,96,97,98,99,100,101,102,103,104,105,106,107,108,109,110,111,112,113,114,115,116,117,118,119,120,121,122,123,124,125,126,127,128,129,130],[63982597]),
 (62,9,[1,3,5,6,9,10,11,12,13,14,15,16,17,18,19,20,21,22,23,24,25,26,27,28,29,30,31,32,33,34,35,36,37,38,39,40,41,42,43,44,45,46,47,48,49,50,51,52,53,54,55,56,57,58,59,60,61,62,63,64,65,66,67,68,69,70,71,72,73,74,75,76,77,78,79,80,81,82,83,84,85,86,87,88,89,90,91,92,93,94,95],[65024012,65024014,65025038]),
 (63,7,[1,3,5,7,8,9,10,11,12,13,14,15,16,17,18,19,20,21,22,23,24,25,26,27,28,29,30,31,32,33,34,35,36,37,38,39,40,41,42,43,44,45,46,47,48,49,50,51,52,53,54,55,56,57,58,59,60,61,62,63,64,65,66,67,68],[]),
 (68,7,[0,3,4,5,6,7,8,9,10,11,12,13,14,15,16,17,18,19,20,21,22,23,24,25,26,27,28,29,30,31,32,33,34,35,36,37,38,42,43,44,45,46,47,48,49,50,51,52,53],[71311362]),
 (69,5,[0,1,2,3,4,5,6,7,8,9,10,11,12,13,14,15,16,17,18,19,20,21,22,23,24,25,26,27,28,32,33,34,35,36,37,38],[72357890]),
 (71,8,[2,3,4,6,8,9,10,11,12,13,14,15,16,17,18,19,20,21,22,23,24,25,26,27,28,29,30,31,32,33,34,35,36,37,41,42,43,44,45,46,47,48,49,50,51,52,53,54,55,56,57,58,59,60,61,62,63,64,65,66,67,68,69],[74458115]),
 (72,11,[4,5,6,7,10,11,12,13,14,15,16,17,18,19,20,21,22,23,24,25,26,27,28,29,30,31,32,33,34,35,36,37,38,39,40,41,42,43,44,45,46,47,48,49,50,51,52,53,54,55,56,57,58,59,60,61,62,63,64,65,66,67,68,71,72,73,74,75,76,77,78,79,80,81,82,83,84,85,86,87,88,89,90,91,92,93,94,95,96,97,98,99,100,101,102,103,104,105,106,107,108,109,110,111,112,113,114,115,116,117,118,119,120,121,122,123,124,125,126,127,128,129,130,131,132,133,134,135,136],[75512833,75516934]),
 (72,17,[4,5,6,7,11,14,15,16,17,18,19,20,21,22,23,24,25,26,27,28,29,30,31,32,33,34,35,36,37,38,39,40,41,42,43,44,45,46,47,48,49,50,51,52,53,54,55,56,57,58,59,60,61,62,63,64,65,66,67,68,71,72,73,74,75,76,77,78,79,80,81,82,83,84,85,86,87,88,89,90,93,94,95,96,97,98,99,100,101,102,103,104,105,106,107,108,109,110,111,112,113,114,115,116,117,118,119,120,121,122,123,124,125,126,127,128,129,130,131,132,133,134,135,136],[75516934]),
 (86,3,[0,5,6,7,8,9,10,11,12,13,14,15,16,17,18,19,20,21,22,23,24,25,26,27,28,29,30,31,32,33,34,35,36,37,38,39,40,41,42,43,44,45,46,47,48,49,50,51,52,53,54,55,56,57,58,59,60,61,62,63,64,65,66,67,68,69,70,71,72,73,74,75,76,77,78,79,80,81,82,83,84,85,86,87,88,89,90,91,92,93,94,95,96,97,98,99,100,101,102,103,104,105,106,107,108,109,110,111,112,113,114,115,116,117,118,119,120,121,122,123,124,125,126,127,128,129,130],[90182662,90185732]),
 (90,9,[0,3,5,6,11,12,13,14,15,16,17,18,19,20,21,22,23,24,25,26,27,28,29,30,31,32,33,34,35,36,37,38,39,40,41,42,43,44,45,46,47,48,49,50,51,52,53,54,55,56,57,58,59,60,61,62,63,64,65,66,67],[94384144]),
 (100,1,[2,3,4,5,6,7,8,9,10,11,12,13,14,15,16,17,18,19,20,21,22],[]),
 (104,2,[2,3,4,5,6,9,10,11,12,13,14,15,16,17,18],[]),
 (107,4,[0,3,4,6,7,8,9,10,11,12,13,14,15,16,17,18,19,20,21,22,23,24,25,26,27,28,29,30,31],[]),
 (111,2,[1,2,3,4,5,6,10,11,12,13,14,15,16,17,18],[116396035])]
def VP (l:List Nat) (f:Nat):Bool:=l.any fun g=>Nat.beq g f
def AkQ (f:Nat):List (Nat×List Bool)->List Bool
 | []=>[]
 | (g,k)::l=>if Nat.beq g f then k else AkQ f l
def Akr (f r:Nat):List (Nat×Nat×List Nat×List Nat)->List Nat×List Nat
 | []=>([],[])
 | (g,q,k)::l=>if Nat.beq g f && Nat.beq q r then k else Akr f r l
def pol:Pol where
 inl:=VP [70]
 keep:=fun f=>AkQ f Ap4
 raw:=VP [70]
 head:=fun f r=>Akr f r An9
 rowApp:=fun f _ _=>VP [] f
 fzBox:=fun f _ _=>VP [61,72,111] f
 split:=VP []
def EE:Env:=⟨Try.prog,tab.get,pol⟩
set_option maxRecDepth 100000 in
def Aud:tab.leaves.map (fun p=>ApP Try.prog p.1)=tab.leaves.map (fun p=>some p.2):=by kernel_rfl
def AkS:Try.prog.follows .mixedOrders=true:=by kernel_rfl
def Anw:Ah2 Try.prog=true:=by kernel_rfl
def Alj:Ade Try.prog=true:=by kernel_rfl
def ft:FTr :=
 .node 57 (.node 29 (.node 15 (.node 8 (.node 5 (.node 3 (.leaf 2 Try.f2)
 (.node 4 (.leaf 3 Try.f3)
 (.leaf 4 Try.f4)))
 (.node 6 (.leaf 5 Try.f5)
 (.node 7 (.leaf 6 Try.f6)
 (.leaf 7 Try.f7))))
 (.node 11 (.node 9 (.leaf 8 Try.f8)
 (.node 10 (.leaf 9 Try.f9)
 (.leaf 10 Try.f10)))
 (.node 13 (.node 12 (.leaf 11 Try.f11)
 (.leaf 12 Try.f12))
 (.node 14 (.leaf 13 Try.f13)
 (.leaf 14 Try.f14)))))
 (.node 22 (.node 18 (.node 16 (.leaf 15 Try.f15)
 (.node 17 (.leaf 16 Try.f16)
 (.leaf 17 Try.f17)))
 (.node 20 (.node 19 (.leaf 18 Try.f18)
 (.leaf 19 Try.f19))
 (.node 21 (.leaf 20 Try.f20)
 (.leaf 21 Try.f21))))
 (.node 25 (.node 23 (.leaf 22 Try.f22)
 (.node 24 (.leaf 23 Try.f23)
 (.leaf 24 Try.f24)))
 (.node 27 (.node 26 (.leaf 25 Try.f25)
 (.leaf 26 Try.f26))
 (.node 28 (.leaf 27 Try.f27)
 (.leaf 28 Try.f28))))))
 (.node 43 (.node 36 (.node 32 (.node 30 (.leaf 29 Try.f29)
 (.node 31 (.leaf 30 Try.f30)
 (.leaf 31 Try.f31)))
 (.node 34 (.node 33 (.leaf 32 Try.f32)
 (.leaf 33 Try.f33))
 (.node 35 (.leaf 34 Try.f34)
 (.leaf 35 Try.f35))))
 (.node 39 (.node 37 (.leaf 36 Try.f36)
 (.node 38 (.leaf 37 Try.f37)
 (.leaf 38 Try.f38)))
 (.node 41 (.node 40 (.leaf 39 Try.f39)
 (.leaf 40 Try.f40))
 (.node 42 (.leaf 41 Try.f41)
 (.leaf 42 Try.f42)))))
 (.node 50 (.node 46 (.node 44 (.leaf 43 Try.f43)
 (.node 45 (.leaf 44 Try.f44)
 (.leaf 45 Try.f45)))
 (.node 48 (.node 47 (.leaf 46 Try.f46)
 (.leaf 47 Try.f47))
 (.node 49 (.leaf 48 Try.f48)
 (.leaf 49 Try.f49))))
 (.node 53 (.node 51 (.leaf 50 Try.f50)
 (.node 52 (.leaf 51 Try.f51)
 (.leaf 52 Try.f52)))
 (.node 55 (.node 54 (.leaf 53 Try.f53)
 (.leaf 54 Try.f54))
 (.node 56 (.leaf 55 Try.f55)
 (.leaf 56 Try.f56)))))))
 (.node 84 (.node 70 (.node 63 (.node 60 (.node 58 (.leaf 57 Try.f57)
 (.node 59 (.leaf 58 Try.f58)
 (.leaf 59 Try.f59)))
 (.node 61 (.leaf 60 Try.f60)
 (.node 62 (.leaf 61 Try.f61)
 (.leaf 62 Try.f62))))
 (.node 66 (.node 64 (.leaf 63 Try.f63)
 (.node 65 (.leaf 64 Try.f64)
 (.leaf 65 Try.f65)))
 (.node 68 (.node 67 (.leaf 66 Try.f66)
 (.leaf 67 Try.f67))
 (.node 69 (.leaf 68 Try.f68)
 (.leaf 69 Try.f69)))))
 (.node 77 (.node 73 (.node 71 (.leaf 70 Try.f70)
 (.node 72 (.leaf 71 Try.f71)
 (.leaf 72 Try.f72)))
 (.node 75 (.node 74 (.leaf 73 Try.f73)
 (.leaf 74 Try.f74))
 (.node 76 (.leaf 75 Try.f75)
 (.leaf 76 Try.f76))))
 (.node 80 (.node 78 (.leaf 77 Try.f77)
 (.node 79 (.leaf 78 Try.f78)
 (.leaf 79 Try.f79)))
 (.node 82 (.node 81 (.leaf 80 Try.f80)
 (.leaf 81 Try.f81))
 (.node 83 (.leaf 82 Try.f82)
 (.leaf 83 Try.f83))))))
 (.node 98 (.node 91 (.node 87 (.node 85 (.leaf 84 Try.f84)
 (.node 86 (.leaf 85 Try.f85)
 (.leaf 86 Try.f86)))
 (.node 89 (.node 88 (.leaf 87 Try.f87)
 (.leaf 88 Try.f88))
 (.node 90 (.leaf 89 Try.f89)
 (.leaf 90 Try.f90))))
 (.node 94 (.node 92 (.leaf 91 Try.f91)
 (.node 93 (.leaf 92 Try.f92)
 (.leaf 93 Try.f93)))
 (.node 96 (.node 95 (.leaf 94 Try.f94)
 (.leaf 95 Try.f95))
 (.node 97 (.leaf 96 Try.f96)
 (.leaf 97 Try.f97)))))
 (.node 105 (.node 101 (.node 99 (.leaf 98 Try.f98)
 (.node 100 (.leaf 99 Try.f99)
 (.leaf 100 Try.f100)))
 (.node 103 (.node 102 (.leaf 101 Try.f101)
 (.leaf 102 Try.f102))
 (.node 104 (.leaf 103 Try.f103)
 (.leaf 104 Try.f104))))
 (.node 108 (.node 106 (.leaf 105 Try.f105)
 (.node 107 (.leaf 106 Try.f106)
 (.leaf 107 Try.f107)))
 (.node 110 (.node 109 (.leaf 108 Try.f108)
 (.leaf 109 Try.f109))
 (.node 111 (.leaf 110 Try.f110)
 (.leaf 111 Try.f111)))))))
def Avo:∀f fn,ft.get f=some fn->EE.P.funcs[f]?=some fn:=FTr.ok (by kernel_rfl)
def Avy:EnvOk EE:=ArM Aud AkS Anw Alj
section lists
variable {α β:Type}
def DH (l:List α) (i:Nat) (k:α->Option β):Option β :=
 List.rec (motive:=fun _=>Nat->Option β) (fun _=>none) (fun x _ ih i=>Nat.rec (motive:=fun _=>Option β) (k x) (fun p _=>ih p) i) l i
theorem C8 (l:List α) (i:Nat) (k:α->Option β):DH l i k=(l[i]?).bind k:=by
 induction l generalizing i with
 | nil=>rfl
 | cons x l ih=>cases i with
  | zero=>rfl
  | succ i=>exact ih i
def FM (l:List α) (n:Nat) (k:List α->Option β):Option β :=
 List.rec (motive:=fun _=>Nat->Option β) (fun n=>Nat.rec (motive:=fun _=>Option β) (k []) (fun _ _=>none) n) (fun x t ih n=>Nat.rec (motive:=fun _=>Option β) (k (x::t)) (fun p _=>ih p) n) l n
theorem Kv (l:List α) (n:Nat) (k:List α->Option β):FM l n k=if n<=l.length then k (l.drop n) else none:=by
 induction l generalizing n with
 | nil=>cases n with
  | zero=>rfl
  | succ n=>rw [if_neg (by simp)];rfl
 | cons x l ih=>cases n with
  | zero=>rw [if_pos (Nat.zero_le _)];rfl
  | succ n=>rw [show FM (x::l) (n+1) k=FM l n k from rfl,ih];simp
def Gh (l:List α) (n:Nat) (k:List α->Option β):Option β :=
 List.rec (motive:=fun _=>Nat->(List α->Option β)->Option β) (fun n k=>Nat.rec (motive:=fun _=>Option β) (k []) (fun _ _=>none) n)
  (fun x _ ih n k=>Nat.rec (motive:=fun _=>Option β) (k []) (fun p _=>ih p fun xs=>k (x::xs)) n) l n k
theorem L1 (l:List α) (n:Nat) (k:List α->Option β):Gh l n k=if n<=l.length then k (l.take n) else none:=by
 induction l generalizing n k with
 | nil=>cases n with
  | zero=>rfl
  | succ n=>rw [if_neg (by simp)];rfl
 | cons x l ih=>cases n with
  | zero=>rw [if_pos (Nat.zero_le _)];rfl
  | succ n=>rw [show Gh (x::l) (n+1) k=Gh l n (fun xs=>k (x::xs)) from rfl,ih];simp
def Rx (l:List α) (j:Nat) (b:α) (k:List α->Option β):Option β :=
 List.rec (motive:=fun _=>Nat->(List α->Option β)->Option β) (fun _ k=>k []) (fun x t ih j k=>Nat.rec (motive:=fun _=>Option β) (k (b::t)) (fun p _=>ih p fun xs=>k (x::xs)) j) l j k
theorem Ak3 (l:List α) (j:Nat) (b:α) (k:List α->Option β):Rx l j b k=k (l.set j b):=by
 induction l generalizing j k with
 | nil=>rfl
 | cons x l ih=>cases j with
  | zero=>rfl
  | succ j=>rw [show Rx (x::l) (j+1) b k=Rx l j b (fun xs=>k (x::xs)) from rfl,ih];rfl
def AC (l:List α) (k:α->List α->Option β):Option β:=List.casesOn (motive:=fun _=>Option β) l none k
end lists
section
variable {α:Type}
def fRf (r:Ref) (k:Ref->α):α:=match r with
 | .own n=>Ej n fun n=>k (.own n)
 | .ext n=>Ej n fun n=>k (.ext n)
theorem Qb (r:Ref) (k:Ref->α):fRf r k=k r:=by cases r<;>simp [fRf,B4]
def fV:Nat->IV->(IV->α)->α
 | 0,v,k=>k v
 | d+1,v,k=>match v with
  | .dead=>k .dead
  | .fv v=>Z0 d v fun v=>k (.fv v)
  | .ptr r o=>fRf r fun r=>Ej o fun o=>k (.ptr r o)
  | .slc r sz n=>fRf r fun r=>Ej sz fun sz=>Ej n fun n=>k (.slc r sz n)
  | .nils=>k .nils
  | .emp=>k .emp
  | .clip es=>fL (Z0 d) es fun es=>k (.clip es)
  | .app r es=>fRf r fun r=>fL (Z0 d) es fun es=>k (.app r es)
  | .func fn a b=>fL (fV d) a fun a=>fL (fV d) b fun b=>k (.func fn a b)
  | .agg cs=>fL (fV d) cs fun cs=>k (.agg cs)
  | .tuple cs=>fL (fV d) cs fun cs=>k (.tuple cs)
  | .mapr r=>fRf r fun r=>k (.mapr r)
theorem Cw:∀(d:Nat) (v:IV) (k:IV->α),fV d v k=k v
 | 0,_,_=>rfl
 | d+1,v,k=>by cases v<;>simp [fV,DD (Cw d),DD (Qc d),Qc,B4,Qb]
def fBk (b:Blk) (k:Blk->α):α:=match b with
 | .row cs ro=>fL (fV 3) cs fun cs=>k (.row cs ro)
 | .tok n sz=>Ej n fun n=>Ej sz fun sz=>k (.tok n sz)
 | .map es=>fL (fun (p:Int×IV) k=>match p with | (n,v)=>Aon n fun n=>fV 4 v fun v=>k (n,v)) es fun es=>k (.map es)
theorem CY (b:Blk) (k:Blk->α):fBk b k=k b:=by
 cases b with
 | row cs ro=>simp only [fBk];rw [DD (Cw 3)]
 | tok n sz=>simp only [fBk];rw [B4,B4]
 | map es =>
  simp only [fBk];rw [DD];rintro ⟨n,v⟩ k;simp only;rw [Ae1,Cw]
def fOw (p:Nat×Blk) (k:Nat×Blk->α):α:=match p with | (n,b)=>Ej n fun n=>fBk b fun b=>k (n,b)
theorem AuB (p:Nat×Blk) (k:Nat×Blk->α):fOw p k=k p:=by
 obtain ⟨n,b⟩:=p;simp only [fOw];rw [B4,CY]
def fH (h:Hp) (k:Hp->α):α:=match h with | ⟨own,ext⟩=>fL fOw own fun own=>fL fBk ext fun ext=>k ⟨own,ext⟩
theorem M0 (h:Hp) (k:Hp->α):fH h k=k h:=by
 obtain ⟨a,b⟩:=h;simp only [fH];rw [DD AuB,DD CY]
end
section
variable {β:Type}
def GV (l:List (Nat×Blk)) (s:Nat) (k:Blk->Option β):Option β :=
 List.rec (motive:=fun _=>Option β) none (fun p _ ih=>match p with | (j,b)=>cond (Nat.beq s j) (k b) ih) l
theorem HD {α:Type} (a b:Nat) (x y:α):cond (Nat.beq a b) x y=if a=b then x else y:=by
 cases h:Nat.beq a b with
 | true=>rw [if_pos (Nat.eq_of_beq_eq_true h)];rfl
 | false=>rw [if_neg (fun e=>by rw [e,show Nat.beq b b=true from Nat.beq_refl b] at h;cases h)];rfl
theorem BL (l:List (Nat×Blk)) (s:Nat) (k:Blk->Option β):GV l s k=(An s l).bind k:=by
 induction l with
 | nil=>rfl
 | cons p l ih =>
  obtain ⟨j,b⟩:=p;rw [show GV ((j,b)::l) s k=cond (Nat.beq s j) (k b) (GV l s k) from rfl,HD,ih]
  simp only [An];split<;>rfl
def Dk (r:Ref) (h:Hp) (k:Blk->Option β):Option β:=match h with
 | ⟨own,ext⟩=>match r with
  | .own s=>GV own s k
  | .ext j=>DH ext j k
theorem EX (r:Ref) (h:Hp) (k:Blk->Option β):Dk r h k=(h.get r).bind k:=by
 obtain ⟨own,ext⟩:=h;cases r with
 | own s=>exact BL ..
 | ext j=>exact C8 ..
def A9 (l:List (Nat×Blk)) (s:Nat) (b:Blk) (k:List (Nat×Blk)->Option β):Option β :=
 List.rec (motive:=fun _=>(List (Nat×Blk)->Option β)->Option β) (fun k=>k [(s,b)])
  (fun p t ih k=>match p with | (j,c)=>cond (Nat.beq s j) (k ((j,b)::t)) (ih fun l=>k ((j,c)::l))) l k
theorem Ce (l:List (Nat×Blk)) (s:Nat) (b:Blk) (k:List (Nat×Blk)->Option β):A9 l s b k=k (AP s b l):=by
 induction l generalizing k with
 | nil=>rfl
 | cons p l ih =>
  obtain ⟨j,c⟩:=p;rw [show A9 ((j,c)::l) s b k=cond (Nat.beq s j) (k ((j,b)::l)) (A9 l s b fun l=>k ((j,c)::l)) from rfl,HD,ih]
  simp only [AP];split<;>rfl
def Gi (r:Ref) (b:Blk) (h:Hp) (k:Hp->Option β):Option β:=match h with
 | ⟨own,ext⟩=>match r with
  | .own s=>A9 own s b fun own=>k ⟨own,ext⟩
  | .ext j=>Rx ext j b fun ext=>k ⟨own,ext⟩
theorem KE (r:Ref) (b:Blk) (h:Hp) (k:Hp->Option β):Gi r b h k=k (h.set r b):=by
 obtain ⟨own,ext⟩:=h;cases r with
 | own s=>exact Ce ..
 | ext j=>exact Ak3 ..
def Qv (x:IV) (e:Option β) (k:FV->Option β):Option β:=match x with
 | .fv v=>k v
 | _=>e
def AmI (v:FV) (e:Option β) (k:Nat->Option β):Option β:=match v with
 | .int .i64 (.ofNat n)=>k n
 | _=>e
def KJ (x:IV) (e:Option β) (k:Nat->Option β):Option β:=Qv x e fun v=>AmI v e k
theorem Ge {x:IV} {e:Option β} {k:Nat->Option β} {r:β} (h:KJ x e k=some r):(∃n:Nat,x=.fv (.int .i64 n)/\k n=some r)\/e=some r:=by
 unfold KJ Qv at h;split at h
 ·simp only [AmI] at h;split at h
  ·exact .inl ⟨_,rfl,h⟩
  ·exact .inr h
 ·exact .inr h
def Pq (n:Nat) (k:IV->Option β):Option β:=Ej n fun n=>k (.fv (.int .i64 (.ofNat n)))
theorem Dt (n:Nat) (k:IV->Option β):Pq n k=k (.fv (.int .i64 n)):=by rw [Pq,B4];rfl
def AkP (b:Bool) (k:IV->Option β):Option β:=cond b (k (.fv (.bool true))) (k (.fv (.bool false)))
theorem VY (b:Bool) (k:IV->Option β):AkP b k=k (.fv (.bool b)):=by cases b<;>rfl
def Eh (o:Option IV) (k:IV->Option β):Option β:=match o with
 | none=>none
 | some v=>fS v k
theorem CL (o:Option IV) (k:IV->Option β):Eh o k=o.bind k:=by
 cases o with
 | none=>rfl
 | some v=>exact Avf v k
def CA (l:List IV) (e:Option β) (k:List FV->Option β):Option β :=
 List.rec (motive:=fun _=>(List FV->Option β)->Option β) (fun k=>k []) (fun x _ ih k=>Qv x e fun v=>ih fun vs=>k (v::vs)) l k
theorem Rw (l:List IV) (e:Option β) (k:List FV->Option β):CA l e k=match GN l with | some vs=>k vs | none=>e:=by
 induction l generalizing k with
 | nil=>rfl
 | cons x l ih =>
  rw [show CA (x::l) e k=Qv x e fun v=>CA l e fun vs=>k (v::vs) from rfl]
  cases x<;>simp only [Qv,GN];rw [ih];cases GN l<;>rfl
def QP (l:List IV) (k:IV->Option β):Option β:=CA l (k (.agg l)) fun vs=>k (.fv (.agg vs))
theorem TQ (l:List IV) (k:IV->Option β):QP l k=k (Gc l):=by
 rw [QP,Rw,Gc];cases GN l<;>rfl
def Xl (l:List IV) (k:IV->Option β):Option β:=CA l (k (.tuple l)) fun vs=>k (.fv (.tuple vs))
theorem AcG (l:List IV) (k:IV->Option β):Xl l k=k (CC l):=by
 rw [Xl,Rw,CC];cases GN l<;>rfl
def Aqq (v:FV) (a b:Option β):Option β:=match v with
 | .bool t=>cond t a b
 | _=>none
def Ak (v:IV) (a b:Option β):Option β:=match v with
 | .fv v=>Aqq v a b
 | _=>none
theorem Wq {v:IV} {a b:Option β} {r:β} (h:Ak v a b=some r):∃t:Bool,v=.fv (.bool t)/\(if t then a else b)=some r:=by
 unfold Ak at h;split at h
 ·unfold Aqq at h;split at h
  ·rename_i t;refine ⟨t,rfl,?_⟩;cases t<;>exact h
  ·cases h
 ·cases h
def AJ (c a b:IV) (k:IV->Option β):Option β:=Ak c (k a) (k b)
section
variable (E:Env) (t:TypeId)
def CK (op:BinOp) (x y:IV) (k:IV->Option β):Option β:=Eh (FP E op t x y) k
def BE (x y:IV) (k:IV->Option β):Option β :=
 KJ x (CK E t .add x y k) fun a=>KJ y (CK E t .add x y k) fun b=>cond (Nat.ble (a+b) 9223372036854775807) (Pq (a+b) k) (CK E t .add x y k)
def Bj (x y:IV) (k:IV->Option β):Option β :=
 KJ x (CK E t .sub x y k) fun a=>KJ y (CK E t .sub x y k) fun b=>cond (and (Nat.ble b a) (Nat.ble a 9223372036854775807)) (Pq (a - b) k) (CK E t .sub x y k)
def U2 (op:BinOp) (g:Nat->Nat->Bool) (x y:IV) (k:IV->Option β):Option β :=
 KJ x (CK E t op x y k) fun a=>KJ y (CK E t op x y k) fun b=>AkP (g a b) k
def AS (x y:IV) (k:IV->Option β):Option β:=U2 E t .eql Nat.beq x y k
def CE (x y:IV) (k:IV->Option β):Option β:=U2 E t .neq (fun a b=>not (Nat.beq a b)) x y k
def Hm (x y:IV) (k:IV->Option β):Option β:=U2 E t .lss (fun a b=>Nat.ble (Nat.succ a) b) x y k
def leS (x y:IV) (k:IV->Option β):Option β:=U2 E t .leq Nat.ble x y k
def KN (x y:IV) (k:IV->Option β):Option β:=U2 E t .gtr (fun a b=>Nat.ble (Nat.succ b) a) x y k
def Yf (x y:IV) (k:IV->Option β):Option β:=U2 E t .geq (fun a b=>Nat.ble b a) x y k
def AjN (op:BinOp) (x y:IV) (k:IV->Option β):Option β:=match op with
 | .add=>BE E t x y k
 | .sub=>Bj E t x y k
 | .eql=>AS E t x y k
 | .neq=>CE E t x y k
 | .lss=>Hm E t x y k
 | .leq=>leS E t x y k
 | .gtr=>KN E t x y k
 | .geq=>Yf E t x y k
 | op=>CK E t op x y k
end
theorem Yg {n:Nat} (h:n<=9223372036854775807):IntKind.i64.wrap (n:Int)=n:=by
 have e:(n:Int) % (18446744073709551616:Int)=n:=by omega
 have e2:¬ (n:Int) ≥ (9223372036854775808:Int):=by omega
 show (if (true && decide (((n:Int) % (18446744073709551616:Int)) ≥ (9223372036854775808:Int)))=true then ((n:Int) % (18446744073709551616:Int)) - (18446744073709551616:Int) else ((n:Int) % (18446744073709551616:Int)))=n
 rw [e,decide_eq_false e2];rfl
def Hz (v:FV) (k:List FV->Option β):Option β:=match v with
 | .agg cs=>k cs
 | _=>none
def asAgg (x:IV) (k:List IV->Option β) (kf:List FV->Option β):Option β:=match x with
 | .agg cs=>k cs
 | .fv v=>Hz v kf
 | _=>none
def AsI (o:Nat) (x:IV) (k:IV->Option β):Option β:=asAgg x (fun cs=>DH cs o k) fun cs=>DH cs o fun v=>k (.fv v)
def At1 (size o:Nat) (x:IV) (k:IV->Option β):Option β :=
 asAgg x (fun cs=>FM cs o fun cs=>Gh cs size fun cs=>QP cs k) fun cs=>FM cs o fun cs=>Gh cs size fun cs=>k (.fv (.agg cs))
def Ek (b:Blk) (k:List IV->Option β):Option β:=match b with
 | .row cells _=>k cells
 | _=>none
def Hy (b:Blk) (k:List IV->Option β):Option β:=match b with
 | .row cells ro=>cond ro none (k cells)
 | _=>none
def Awc (v:FV) (k:List FV->Nat->Option β):Option β:=match v with
 | .fp cs o=>k cs o
 | _=>none
def Fc (x:IV) (k:Ref->Nat->Option β) (kf:List FV->Nat->Option β):Option β:=match x with
 | .ptr r o=>k r o
 | .fv v=>Awc v kf
 | _=>none
def Af (a:IV) (h:Hp) (k:IV->List Ref->Option β):Option β :=
 Fc a (fun r o=>Dk r h fun b=>Ek b fun cells=>DH cells o fun v=>k v [r]) fun cells o=>DH cells o fun v=>k (.fv v) []
def Ai (size:Nat) (a:IV) (h:Hp) (k:IV->List Ref->Option β):Option β :=
 Fc a (fun r o=>Dk r h fun b=>Ek b fun cells=>FM cells o fun cs=>Gh cs size fun cs=>QP cs fun v=>k v [r])
  fun cells o=>FM cells o fun cs=>Gh cs size fun cs=>k (.fv (.agg cs)) []
def spK {α:Type} (l:List α) (k:List α->Option β):Option β :=
 List.rec (motive:=fun _=>(List α->Option β)->Option β) (fun k=>k []) (fun x _ ih k=>ih fun xs=>k (x::xs)) l k
theorem Ie {α:Type} (l:List α) (k:List α->Option β):spK l k=k l:=by
 induction l generalizing k with
 | nil=>rfl
 | cons x l ih=>rw [show spK (x::l) k=spK l (fun xs=>k (x::xs)) from rfl,ih]
def G9 (l:List IV) (j:Nat) (b:IV) (k:List IV->Option β):Option β :=
 List.rec (motive:=fun _=>Nat->(List IV->Option β)->Option β) (fun _ _=>none) (fun x t ih j k=>Nat.rec (motive:=fun _=>Option β) (k (b::t)) (fun p _=>ih p fun xs=>k (x::xs)) j) l j k
theorem AgQ (l:List IV) (j:Nat) (b:IV) (k:List IV->Option β):G9 l j b k=if j<l.length then k (l.set j b) else none:=by
 induction l generalizing j k with
 | nil=>rw [if_neg (by simp)];rfl
 | cons x l ih=>cases j with
  | zero=>rw [if_pos (by simp)];rfl
  | succ j=>rw [show G9 (x::l) (j+1) b k=G9 l j b (fun xs=>k (x::xs)) from rfl,ih];simp
theorem MB {v:IV} (h:v.one=true):v.cells=[v]/\v.alive=true:=by
 cases v with
 | fv w=>cases w<;>simp_all [IV.one,IV.cells,IV.alive]
 | _=>simp_all [IV.one,IV.cells,IV.alive]
def wrK (cs:List FV):List IV->(List IV->Option β)->Option β :=
 List.rec (motive:=fun _=>List IV->(List IV->Option β)->Option β) (fun l k=>k l) (fun c _ ih l k=>AC l fun _ t=>ih t fun t'=>k (.fv c::t')) cs
def Em (l:List IV) (o:Nat) (cs:List FV) (k:List IV->Option β):Option β :=
 List.rec (motive:=fun _=>Nat->(List IV->Option β)->Option β) (fun o k=>Nat.rec (motive:=fun _=>Option β) (wrK cs [] k) (fun _ _=>none) o)
  (fun x t ih o k=>Nat.rec (motive:=fun _=>Option β) (wrK cs (x::t) k) (fun p _=>ih p fun t'=>k (x::t')) o) l o k
theorem GW (x:IV):∀(vs l:List IV) (o:Nat),Bc (x::l) (o+1) vs=x::Bc l o vs
 | [],_,_=>rfl
 | v::vs,l,o=>by
  simp only [Bc,List.set_cons_succ];exact GW x vs (l.set o v) (o+1)
theorem YA:∀(cs:List FV) (l:List IV) {k:List IV->Option β} {r:β},wrK cs l k=some r->cs.length<=l.length/\k (Bc l 0 (cs.map .fv))=some r
 | [],l,k,r,h=>⟨Nat.zero_le _,h⟩
 | c::cs,l,k,r,h=>by
  have h:(AC l fun _ t=>wrK cs t fun t'=>k (.fv c::t'))=some r:=h;cases l with
  | nil=>cases h
  | cons x t =>
   have h:(wrK cs t fun t'=>k (.fv c::t'))=some r:=h;obtain ⟨h1,h2⟩:=YA cs t h;refine ⟨by simp;omega,?_⟩;simp only [ACb,Bc,List.set_cons_zero,Nat.zero_add];rw [GW];exact h2
theorem OS:∀(l:List IV) (o:Nat) (cs:List FV) {k:List IV->Option β} {r:β},Em l o cs k=some r->o+cs.length<=l.length/\k (Bc l o (cs.map .fv))=some r
 | [],0,cs,k,r,h=>by
  obtain ⟨h1,h2⟩:=YA cs [] h;exact ⟨by simpa using h1,h2⟩
 | [],o+1,cs,k,r,h=>by cases h
 | x::t,0,cs,k,r,h=>by
  obtain ⟨h1,h2⟩:=YA cs (x::t) h;exact ⟨by simpa using h1,h2⟩
 | x::t,o+1,cs,k,r,h=>by
  have h:(Em t o cs fun t'=>k (x::t'))=some r:=h;obtain ⟨h1,h2⟩:=OS t o cs h;exact ⟨by simp;omega,by rw [GW];exact h2⟩
def Il (v:FV):Bool:=match v with
 | .agg _=>false
 | .tuple _=>false
 | _=>true
def DI (l:List FV):Bool:=List.rec (motive:=fun _=>Bool) true (fun v _ ih=>cond (Il v) ih false) l
theorem O4:∀(l:List FV),DI l=true->(l.map IV.fv).all IV.one=true
 | [],_=>rfl
 | v::l,h=>by
  have h:cond (Il v) (DI l) false=true:=h;cases hv:Il v with
  | false=>rw [hv] at h;cases h
  | true =>
   rw [hv] at h;simp only [ACb,List.all_cons,O4 l h,Bool.and_true];cases v<;>first | rfl | cases hv
def Ah (size:Nat) (a x:IV) (h:Hp) (k:Hp->List Ref->List Ref->Option β):Option β :=
 Fc a (fun r o=>Dk r h fun b=>Hy b fun cells=>Qv x (if x.alive/\x.cells.length=size/\o+size<=cells.length/\x.cells.all IV.one/\Gf r x then
  spK (Bc cells o x.cells) fun cells=>Gi r (.row cells false) h fun h=>k h [r] [r] else none) fun v=>Hz v fun cs=>cond (and (Nat.beq cs.length size) (DI cs)) (Em cells o cs fun cells=>Gi r (.row cells false) h fun h=>k h [r] [r]) none) fun _ _=>none
def Bv (a x:IV) (h:Hp) (k:Hp->List Ref->List Ref->Option β):Option β :=
 cond x.one (Fc a (fun r o=>Dk r h fun b=>Hy b fun cells=>cond (Gf r x) (G9 cells o x fun cells=>Gi r (.row cells false) h fun h=>k h [r] [r]) none) fun _ _=>none) (Ah 1 a x h k)
def ApL (fn:Fn) (k:FuncId->Option β):Option β:=match fn with
 | .func g=>k g
 | _=>none
def Av9 (v:FV) (k:IV->Option β):Option β:=match v with
 | .fp cs o=>k (.fv (.fp cs o))
 | .func fn a b=>ApL fn fun g=>k (.fv (.func (.func g) a b))
 | _=>none
def AH (x:IV) (k:IV->Option β):Option β:=match x with
 | .ptr r o=>k (.ptr r o)
 | .fv v=>Av9 v k
 | .func fn a b=>ApL fn fun g=>k (.func (.func g) a b)
 | _=>none
def Ab (o:Nat) (x:IV) (k:IV->Option β):Option β :=
 Fc x (fun r off=>Ej (off+o) fun o=>k (.ptr r o)) fun cs off=>Ej (off+o) fun o=>k (.fv (.fp cs o))
def Aqu (n:Int) (k:Nat->Option β):Option β:=match n with
 | .ofNat m=>k m
 | _=>none
def Aql (v:FV) (k:Nat->Option β):Option β:=match v with
 | .int _ n=>Aqu n k
 | _=>none
def AiR (i:IV) (k:Nat->Option β):Option β:=Qv i none fun v=>Aql v k
theorem Uu {i:IV} {k:Nat->Option β} {r:β} (h:AiR i k=some r):∃kd,∃n:Nat,i=.fv (.int kd n)/\k n=some r:=by
 unfold AiR Qv at h;split at h
 ·simp only [Aql] at h;split at h
  ·simp only [Aqu] at h;split at h
   ·exact ⟨_,_,rfl,h⟩
   ·cases h
  ·cases h
 ·cases h
def AyF (v:FV) (k:List FV->Option β):Option β:=match v with
 | .sl es=>k es
 | _=>none
def AsL (x:IV) (k:List FV->Option β):Option β:=match x with
 | .nils=>k []
 | .emp=>k []
 | .clip es=>k es
 | .app _ es=>k es
 | .fv v=>AyF v k
 | _=>none
theorem Agm (x:IV) (k:List FV->Option β):AsL x k=(Co x).bind k:=by
 cases x with
 | fv v=>cases v<;>rfl
 | _=>rfl
def elK (size:Nat) (el:FV) (k:IV->Option β):Option β:=match el with
 | .agg cs=>cond (Nat.beq cs.length size) (k (.fv (.fp cs 0))) none
 | v=>cond (Nat.beq 1 size) (k (.fv (.fp [v] 0))) none
theorem AlY (size:Nat) (el:FV) (k:IV->Option β):elK size el k=if el.cells.length=size then k (.fv (.fp el.cells 0)) else none:=by
 cases el<;>simp only [elK,HD,FV.cells]<;>rfl
def Abg (x:IV) (k:Ref->Nat->Nat->Option β) (e:Option β):Option β:=match x with
 | .slc r sz len=>k r sz len
 | _=>e
def AU (size:Nat) (x i:IV) (k:IV->Option β):Option β :=
 AiR i fun n=>Abg x (fun r sz len=>cond (and (Nat.ble (Nat.succ n) len) (Nat.beq sz size)) (Ej (n * sz) fun o=>k (.ptr r o)) none) (AsL x fun es=>DH es n fun el=>elK size el k)
def ixA (m size:Nat) (x i:IV) (k:IV->Option β):Option β :=
 AiR i fun n=>cond (Nat.ble (Nat.succ n) m) (Fc x (fun r o=>Ej (o+n * size) fun o=>k (.ptr r o)) fun cells o=>Ej (o+n * size) fun o=>k (.fv (.fp cells o))) none
def Aw6 (m size:Nat) (x i:IV) (k:IV->Option β):Option β :=
 AiR i fun n=>cond (Nat.ble (Nat.succ n) m) (Qv x none fun v=>Hz v fun cs=>DH cs (n * size) fun v=>k (.fv v)) none
def AxM (v:FV) (k:List FV->Option β):Option β:=match v with
 | .tuple vs=>k vs
 | _=>none
def Aq (ix:Nat) (x:IV) (k:IV->Option β):Option β:=match x with
 | .tuple vs=>DH vs ix k
 | .fv v=>AxM v fun vs=>DH vs ix fun v=>k (.fv v)
 | _=>none
def Ci (x:IV) (k:IV->Option β):Option β:=Abg x (fun _ _ n=>Pq n k) (AsL x fun es=>Pq es.length k)
def Ad2 (z:List IV) (o sz:Nat) (v:IV) (k:List IV->Option β):Option β :=
 cond v.one (cond (Nat.beq sz 1) (G9 z o v k) none) (if v.alive/\v.cells.length=sz/\o+sz<=z.length then spK (Bc z o v.cells) k else none)
def HO (z:List IV) (o sz:Nat) (v:IV) (k:List IV->Option β):Option β :=
 Qv v (Ad2 z o sz v k) fun w=>cond (Il w) (cond (Nat.beq sz 1) (G9 z o v k) none) (Hz w fun cs=>cond (Nat.beq cs.length sz) (Em z o cs k) none)
def Pw (z:List IV) (pl:List (Nat×Nat×IV)) (k:List IV->Option β):Option β :=
 List.rec (motive:=fun _=>List IV->Option β) (fun z=>k z) (fun p _ ih z=>match p with
  | (o,sz,v)=>HO z o sz v ih) pl z
def BI (z:List IV) (pl:List (Nat×Nat×IV)) (k:IV->Option β):Option β:=Pw z pl fun cells=>QP cells k
def MD {α:Type} (place:Nat->Option (Nat×Nat)):List (Nat×α)->Option (List (Nat×Nat×α))
 | []=>some []
 | (i,x)::l=>match place i with
  | none=>none
  | some (o,s)=>match MD place l with
   | none=>none
   | some r=>some ((o,s,x)::r)
def Aip {α:Type} (g:α->IV):List (Nat×Nat×α)->List (Nat×Nat×IV)
 | []=>[]
 | (o,s,x)::l=>(o,s,g x)::Aip g l
def CW (l:List (Nat×Blk)) (s:Nat) (a:Option β):Option β :=
 List.rec (motive:=fun _=>Option β) a (fun p _ ih=>match p with | (j,_)=>cond (Nat.beq s j) none ih) l
theorem Q1 {l:List (Nat×Blk)} {s:Nat} {a:Option β} {r:β} (h:CW l s a=some r):An s l=none/\a=some r:=by
 induction l with
 | nil=>exact ⟨rfl,h⟩
 | cons p l ih =>
  obtain ⟨j,b⟩:=p;have h:cond (Nat.beq s j) none (CW l s a)=some r:=h;rw [HD] at h;split at h
  ·cases h
  ·rename_i hn;obtain ⟨h1,h2⟩:=ih h;exact ⟨by simp only [An,if_neg hn,h1],h2⟩
abbrev KT (β:Type):=IV->Hp->List Ref->List Ref->Option β
def GX (s:Nat) (b:Blk) (v:IV) (h:Hp) (k:KT β):Option β:=match h with
 | ⟨own,ext⟩=>CW own s (A9 own s b fun own=>k v ⟨own,ext⟩ [] [.own s])
def A7 (s:Nat) (x:IV) (h:Hp) (k:KT β):Option β :=
 cond x.one (GX s (.row [x] false) (.ptr (.own s) 0) h k) (cond x.alive (spK x.cells fun cs=>GX s (.row cs false) (.ptr (.own s) 0) h k) none)
def Ar8 (u:List (Ref×Blk)):Hp->(Hp->Option β)->Option β :=
 List.rec (motive:=fun _=>Hp->(Hp->Option β)->Option β) (fun h k=>k h) (fun p _ rec h k=>match p with
  | (r,b)=>fRf r fun r=>Dk r h fun _=>fBk b fun b=>Gi r b h fun h=>rec h k) u
theorem Z7:∀(u:List (Ref×Blk)) (h:Hp) {k:Hp->Option β} {r:β},Ar8 u h k=some r->∃h',laid h u=some h'/\k h'=some r
 | [],h,k,r,e=>⟨h,rfl,e⟩
 | (q,b)::u,h,k,r,e=>by
  have e:(fRf q fun q=>Dk q h fun _=>fBk b fun b=>Gi q b h fun h=>Ar8 u h k)=some r:=e;rw [Qb,EX] at e;simp only [CY,KE] at e;cases hg:h.get q with
  | none=>rw [hg] at e;cases e
  | some c =>
   rw [hg] at e;obtain ⟨h',h1,h2⟩:=Z7 u (h.set q b) e;exact ⟨h',by simp only [laid,hg,h1],h2⟩
def J1 (o:Option Blk) (s:Nat) (h:Hp) (k:Hp->Option β):Option β:=match o with
 | none=>k h
 | some b=>match h with
  | ⟨own,ext⟩=>CW own s (fBk b fun b=>A9 own s b fun own=>k ⟨own,ext⟩)
def Ay (m:Rd Made) (s:Nat) (h:Hp) (k:KT β):Option β:=match m.runLog h [] with
 | none=>none
 | some (m,rd)=>Ar8 m.eff.upd h fun h=>J1 m.new s h fun h=>fV 3 m.eff.val fun v=>k v h rd (Bx m.eff.upd++IJ s m)
def Axl (v:FV) (e:Option β) (k:List FV->Option β):Option β:=match v with
 | .agg cs=>k cs
 | _=>e
def fzS (m:Rd Made) (s:Nat) (x:IV) (h:Hp) (k:KT β):Option β :=
 Qv x (Ay m s h k) fun v=>Axl v (Ay m s h k) fun cs=>cond (Nat.ble cs.length 2000) (k (.fv (.fp cs 0)) h [] []) (Ay m s h k)
def Yi (E:Env) (s d:TypeId) (x:IV) (k:IV->Option β):Option β :=
 KJ x (Eh (Lt E s d x) k) fun n=>cond (Nat.ble n 9223372036854775807) (Pq n k) (Eh (Lt E s d x) k)
def Alf (v:FV) (want:Bool) (h:Hp) (m:(KT β)->Option β) (k:KT β):Option β:=match v with
 | .bool b=>cond (cond want b (not b)) (m k) (k FQ h [] [])
 | .tuple l=>List.casesOn (motive:=fun _=>Option β) l (k FQ h [] []) fun _ _=>none
 | _=>none
def Aa (v:IV) (want:Bool) (h:Hp) (m:(KT β)->Option β) (k:KT β):Option β:=Qv v none fun v=>Alf v want h m k
def Kn (split:Bool) (ih:Al) (f:FuncId) (args:List IV) (ext:List Blk):Option (IV×Hp) :=
 if split then match args,ext with
  | [.fv (.sl [])],[]=>if CM (ih f [.nils] ⟨[],[]⟩) && CM (ih f [.emp] ⟨[],[]⟩) then some (.fv (.sl []),⟨[],[]⟩) else none
  | _,_=>ih f args ⟨[],ext⟩
 else ih f args ⟨[],ext⟩
def Fx (keep:List Bool) (split raw:Bool) (ih:Al) (f:FuncId) (args:List IV) (h:Hp) (k:KT β):Option β :=
 match (Bs keep args).runLog h [] with
 | none=>none
 | some (
     (vs,rs,u),l1)=>match (Cb 4096 rs []).runLog h l1 with
  | none=>none
  | some (
      l,l2)=>match IV.ren.renL (DK l) vs with
   | none=>none
   | some vs' =>
          match A8 (DK l) (l.map (·.2)) with
    | none=>none
    | some ext=>fL (fV 3) vs' fun vs'=>fL fBk ext fun ext=>match Kn split ih f vs' ext with
     | none=>none
     | some (
         res,hp')=>match (if raw then some res else ((C6 4096 res).run hp').map fun (v,_)=>.fv v) with
      | none=>none
      | some res=>match res.ren (Cv l) with
       | none=>none
       | some res=>match A8 (Cv l) hp'.ext with
        | none=>none
        | some ext'=>if ext'.length=l.length/\(Bx u).all (fun r=>!hasRef r l) then
          match laid h (u++(Bx l).zip ext') with
          | none=>none
          | some h'=>fH h' fun h'=>fV 3 res fun res=>k res h' l2 (Bx (u++(Bx l).zip ext'))
         else none
def YN (r:Ref) (e:Option β) (k:Nat->Option β):Option β:=match r with
 | .own s=>k s
 | .ext _=>e
def QE {α:Type} (u us:List α) (k:List α->Option β):Option β :=
 List.rec (motive:=fun _=>(List α->Option β)->Option β) (fun k=>k us) (fun x _ ih k=>ih fun w=>k (x::w)) u k
theorem Ye {α:Type} (u us:List α) (k:List α->Option β):QE u us k=k (u++us):=by
 induction u generalizing k with
 | nil=>rfl
 | cons x u ih=>rw [show QE (x::u) us k=QE u us (fun w=>k (x::w)) from rfl,ih];rfl
abbrev FzK (β:Type):=IV->Hp->List Ref->Option β->(FV->List (Ref×Blk)->List Ref->Option β)->Option β
def Dl (g:FzK β) (l:List IV):Hp->List Ref->Option β->(List FV->List (Ref×Blk)->List Ref->Option β)->Option β :=
 List.rec (motive:=fun _=>Hp->List Ref->Option β->(List FV->List (Ref×Blk)->List Ref->Option β)->Option β) (fun _ lg _ k=>k [] [] lg)
  (fun x _ rec h lg e k=>g x h lg e fun y u lg=>rec h lg e fun ys us lg=>QE u us fun w=>k (y::ys) w lg) l
def elF (x:FV) (k:FV->Option β):Option β:=match x with
 | .agg l=>k (.agg [.agg l])
 | x=>k x
def elL (x:FV) (t:List FV) (k:FV->Option β):Option β:=match t with
 | []=>elF x k
 | y::t=>k (.agg (x::y::t))
def Aiw (a:List FV) (k:FV->Option β):Option β:=match a with
 | []=>k (.agg [])
 | x::t=>elL x t k
theorem AnI (a:List FV) (k:FV->Option β):Aiw a k=k (Tv a):=by
 cases a with
 | nil=>rfl
 | cons x t=>cases t with
  | nil=>cases x<;>rfl
  | cons y t=>cases x<;>rfl
def chK (sz len:Nat) (cs:List FV) (k:List FV->Option β):Option β :=
 Nat.rec (motive:=fun _=>List FV->(List FV->Option β)->Option β) (fun _ k=>k []) (fun _ rec cs k=>Gh cs sz fun a=>FM cs sz fun b=>Aiw a fun x=>rec b fun xs=>k (x::xs)) len cs k
theorem Am0 (sz:Nat):∀(len:Nat) (cs:List FV) {k:List FV->Option β} {r:β},chK sz len cs k=some r->k (B3 sz len cs)=some r
 | 0,_,_,_,h=>h
 | len+1,cs,k,r,h=>by
  have h:(Gh cs sz fun a=>FM cs sz fun b=>Aiw a fun x=>chK sz len b fun xs=>k (x::xs))=some r:=h;rw [L1] at h;by_cases h1:sz<=cs.length
  ·rw [if_pos h1,Kv,if_pos h1,AnI] at h;exact Am0 sz len _ h
  ·rw [if_neg h1] at h;cases h
def Fh (d:Nat):FzK β :=
 Nat.rec (motive:=fun _=>FzK β) (fun _ _ _ e _=>e) (fun _ g v h lg e k=>match v with
  | .fv v=>k v [] lg
  | .nils=>k (.sl []) [] lg
  | .emp=>k (.sl []) [] lg
  | .clip es=>k (.sl es) [] lg
  | .app _ es=>k (.sl es) [] lg
  | .ptr r off=>YN r e fun s=>Dk (.own s) h fun b=>Ek b fun cells=>cond (Nat.ble cells.length 300) (Dl g cells h (.own s::lg) e fun cs u lg=>k (.fp cs off) ((.own s,.row cells true)::u) lg) e
  | .slc r sz len=>YN r e fun s=>Dk (.own s) h fun b=>Ek b fun cells=>cond (Nat.ble cells.length 300) (cond (or (Nat.beq sz 0) (not (Nat.ble (len * sz) cells.length))) none
    (Dl g cells h (.own s::lg) e fun cs u lg=>chK sz len cs fun els=>k (.sl els) ((.own s,.row cells true)::u) lg)) e
  | .agg cs=>cond (Nat.ble cs.length 300) (Dl g cs h lg e fun cs u lg=>k (.agg cs) u lg) e
  | .func fn a b=>cond (and (Nat.ble a.length 300) (Nat.ble b.length 300)) (Dl g a h lg e fun x u lg=>Dl g b h lg e fun y v lg=>QE u v fun w=>k (.func fn x y) w lg) e
  | _=>e) d
def W5 (args:List IV):List Bool->Hp->List Ref->Option β->(List IV->List Ref->List (Ref×Blk)->List Ref->Option β)->Option β :=
 List.rec (motive:=fun _=>List Bool->Hp->List Ref->Option β->(List IV->List Ref->List (Ref×Blk)->List Ref->Option β)->Option β) (fun _ _ lg _ k=>k [] [] [] lg)
  (fun x _ rec keep h lg e k=>match keep with
   | []=>Fh 12 x h lg e fun y u lg=>rec [] h lg e fun vs rs us lg=>QE u us fun w=>k (.fv y::vs) rs w lg
   | b::ks=>cond b (Fc x (fun r o=>rec ks h lg e fun vs rs us lg=>k (.ptr r o::vs) (r::rs) us lg) fun _ _=>e)
     (Fh 12 x h lg e fun y u lg=>rec ks h lg e fun vs rs us lg=>QE u us fun w=>k (.fv y::vs) rs w lg)) args
def Wu (v:IV):List Ref->List Ref :=
 IV.rec (motive_1:=fun _=>List Ref->List Ref) (motive_2:=fun _=>List Ref->List Ref) (fun acc=>acc) (fun _ acc=>acc) (fun r _ acc=>r::acc) (fun r _ _ acc=>r::acc) (fun acc=>acc) (fun acc=>acc) (fun _ acc=>acc)
  (fun r _ acc=>r::acc) (fun _ _ _ f g acc=>f (g acc)) (fun _ f acc=>f acc) (fun _ f acc=>f acc) (fun r acc=>r::acc) (fun acc=>acc) (fun _ _ f g acc=>f (g acc)) v
def CF (l:List IV):List Ref->List Ref :=
 IV.rec_1 (motive_1:=fun _=>List Ref->List Ref) (motive_2:=fun _=>List Ref->List Ref) (fun acc=>acc) (fun _ acc=>acc) (fun r _ acc=>r::acc) (fun r _ _ acc=>r::acc) (fun acc=>acc) (fun acc=>acc) (fun _ acc=>acc)
  (fun r _ acc=>r::acc) (fun _ _ _ f g acc=>f (g acc)) (fun _ f acc=>f acc) (fun _ f acc=>f acc) (fun r acc=>r::acc) (fun acc=>acc) (fun _ _ f g acc=>f (g acc)) l
def Fm (b:Blk):List Ref:=match b with
 | .row cells _=>CF cells []
 | .tok _ _=>[]
 | .map es=>List.rec (motive:=fun _=>List Ref) [] (fun p _ ih=>match p with | (_,v)=>Wu v ih) es
def goR (rec:List Ref->Nat->List Blk->Bool) (t:List Ref) (s:Nat) (rest:List Blk):Bool:=match rest with
 | []=>false
 | b::rest=>rec (t++Fm b) (Nat.succ s) rest
def Qz (n:Nat):List Ref->Nat->List Blk->Bool :=
 Nat.rec (motive:=fun _=>List Ref->Nat->List Blk->Bool) (fun _ _ _=>false) (fun _ rec todo s rest=>match todo with
  | []=>(match rest with
   | []=>true
   | _::_=>false)
  | r::t=>(match r with
   | .own _=>false
   | .ext j=>cond (Nat.ble (Nat.succ j) s) (rec t s rest) (cond (Nat.beq j s) (goR rec t s rest) false))) n
def okR (m:Nat) (rs:List Ref):Bool :=
 List.rec (motive:=fun _=>Bool) true (fun r _ rec=>match r with
  | .own _=>false
  | .ext j=>cond (Nat.ble (Nat.succ j) m) rec false) rs
def okB (m:Nat) (l:List Blk):Bool:=List.rec (motive:=fun _=>Bool) true (fun b _ rec=>cond (okR m (Fm b)) rec false) l
def Mt (u:List (Ref×Blk)):Hp->(Hp->Option β)->Option β :=
 List.rec (motive:=fun _=>Hp->(Hp->Option β)->Option β) (fun h k=>k h) (fun p _ rec h k=>match p with
  | (r,b)=>YN r none fun s=>Dk (.own s) h fun _=>Gi (.own s) b h fun h=>rec h k) u
def CU (m:Nat):List Ref:=(List.range m).map .ext
def A4 (keep:List Bool) (split raw:Bool) (ih:Al) (f:FuncId) (args:List IV) (h:Hp) (k:KT β):Option β :=
 cond (
    cond split true raw) (Fx keep split raw ih f args h k)
  (W5 args keep h [] (Fx keep split raw ih f args h k) fun vs rs u lg=>match rs with
   | []=>(match ih f vs ⟨[],[]⟩ with
    | none=>none
    | some p=>match p with
     | (v,h')=>match h' with
      | ⟨own,ext⟩=>List.casesOn (motive:=fun _=>Option β) ext (Fh 12 v ⟨own,[]⟩ [] (Fx keep split raw ih f args h k) fun w _ _=>Mt u h fun h2=>k (.fv w) h2 lg (Bx u)) fun _ _=>none)
   | r::rs=>(match h with
    | ⟨own,ext⟩=>cond (Qz 400 (r::rs) 0 ext) (match ih f vs ⟨[],ext⟩ with
     | none=>none
     | some p=>match p with
      | (v,h')=>match h' with
       | ⟨own',ext'⟩=>cond (and (Nat.beq ext'.length ext.length) (okB ext.length ext'))
        (Fh 12 v ⟨own',ext'⟩ [] (Fx keep split raw ih f args h k) fun w _ _=>Mt u ⟨own,ext'⟩ fun h2=>k (.fv w) h2 ((CU ext.length).reverse++lg) (Bx u++CU ext.length)) none)
     (Fx keep split raw ih f args h k)))
def FW (E:Env) (ih:Al) (g:IV) (args:List IV) (h:Hp) (k:KT β):Option β:=match callee g with
 | none=>none
 | some (f,first,cap)=>cond (E.pol.inl f) none (spK (first++args++cap) fun args=>A4 (E.pol.keep f) (E.pol.split f) (E.pol.raw f) ih f args h k)
def AlE (ih:Al) (f:FuncId) (args:List IV) (h:Hp) (k:KT β):Option β:=match ih f args h with
 | none=>none
 | some p=>match p with
  | (v,h)=>k v h [] []
section
variable (E:Env)
def Aj (t:TypeId) (len:Nat) (parts:List (Nat×IV)):Rd Made:=match E.T t with
  | some ⟨_,_,.slice e,_⟩=>match E.T e with
   | some ei=>if ei.size=0\/len * ei.size > 65536 then .fail else
    match CH (fun j=>some (j * ei.size,ei.size)) (QN len ei.zero) parts with
    | some cells=>(frzL 65536 cells).bind fun (vs,u)=>.ret { eff:={ val:=.clip (B3 ei.size len vs),upd:=u } }
    | none=>.fail
   | none=>.fail
  | _=>.fail
def Nw (t:TypeId) (parts:List (Nat×IV)):Rd Made:=match E.T t with
  | some ⟨_,_,.struct fs,z⟩=>Hf ((CH (Fb E fs) z parts).map Gc)
  | some ⟨_,_,.arr _ e,z⟩=>match E.T e with
   | some ei=>Hf ((CH (fun j=>some (j * ei.size,ei.size)) z parts).map Gc)
   | none=>.fail
  | _=>.fail
def LU (fz:Bool) (s:Nat) (v:IV):Rd Made :=
  if v.alive=false then .fail else
  if fz then (frzL 4096 v.cells).bind fun (vs,u)=>.ret { eff:={ val:=.fv (.fp vs 0),upd:=u } }
  else .ret { eff:={ val:=.ptr (.own s) 0 },new:=some (.row v.cells false) }
def Hi (s:Nat):Rd Made:=.ret { eff:={ val:=.mapr (.own s) },new:=some (.map []) }
def Ch (t:TypeId) (m k v:IV):Rd Made:=match E.T t with
  | some ⟨_,_,.map kt _,_⟩=>match E.T kt,m,k with
   | some ⟨_,_,.int .i64,_⟩,.mapr r,.fv (.int .i64 n)=>.get r fun
    | .map es =>
     if v.alive/\Gf r v then .ret { eff:={ val:=.dead,upd:=[(r,.map (Cz n v es))] } } else .fail
    | _=>.fail
   | _,_,_=>.fail
  | _=>.fail
def G7 (t:TypeId) (m k:IV) (ok:Bool):Rd Made:=match E.T t with
  | some ⟨
      _,_,.map kt et,_⟩=>match E.T kt,E.T et,m,k with
   | some ⟨_,_,.int .i64,_⟩,some ei,.mapr r,.fv (.int .i64 n)=>.get r fun
    | .map es=>match C9 n es with
     | some v=>val (if ok then CC [v,.fv (.bool true)] else v)
     | none=>match TJ ei with
      | some z=>val (if ok then CC [z,.fv (.bool false)] else z)
      | none=>.fail
    | _=>.fail
   | _,_,_,_=>.fail
  | _=>.fail
def B6 (s:Nat) (t:TypeId) (l c:IV):Rd Made:=match E.T t with
  | some ⟨_,_,.slice e,_⟩=>match E.T e,l,c with
   | some ei,.fv (.int .i64 a),.fv (.int .i64 b) =>
    if 0<=a/\a<=b/\b<=1048576/\ei.size≠0/\ei.bytes<=65536 then
     .ret { eff:={ val:=.slc (.own s) ei.size a.toNat },new:=some (.row (QN b.toNat ei.zero) false) }
    else .fail
   | _,_,_=>.fail
  | _=>.fail
def Adc (t:TypeId) (x ix:IV):Rd Made:=match E.T t,x,ix with
  | some ⟨_,_,.str,_⟩,.fv (.str s),.fv (.int _ n)=>if n<0 then .fail else match s[n.toNat]? with
   | some b=>val (.fv (.int .u8 b.toNat))
   | none=>.fail
  | some ⟨_,_,.arr m e,_⟩,.fv (.agg cs),.fv (.int _ n)=>match E.T e with
   | some ei=>if 0<=n/\n<(m:Int) then Hf ((By ei.kind.isAgg ei.size (n.toNat * ei.size) cs).map .fv) else .fail
   | none=>.fail
  | _,_,_=>.fail
theorem AkV {ih:Al} {f rid i:Nat} {ρ:Operand->IV} {t:TypeId} {x:Operand}:CZ E ih f rid i ρ (.box t x)=LU (E.pol.fzBox f rid i) (Bp f rid i) (ρ x):=rfl
end
abbrev VI {α:Type} (b:Bool) (x y:α):α:=Bool.rec (motive:=fun _=>α) y x b
theorem BP {α:Type} (b:Bool) (x y:α):VI b x y=cond b x y:=by cases b<;>rfl
section
variable (E:Env) (ih:Al)
def FX:Op->Bool
 | .move _ | .assign _ | .pick .. | .nilCheck _ | .binOp .. | .unOp .. | .convert .. | .fieldAddr .. | .field .. | .extract ..=>true
 | .build t _=>match E.T t with
  | some ⟨_,_,.struct _,_⟩=>true
  | _=>false
 | .indexAddr t _ _=>match E.T t with
  | some ⟨_,_,.slice e,_⟩=>(match E.T e with | some _=>true | none=>false)
  | some ⟨_,_,.arr _ e,_⟩=>(match E.T e with | some _=>true | none=>false)
  | _=>false
 | .index t _ _=>match E.T t with
  | some ⟨_,_,.arr _ e,_⟩=>(match E.T e with | some ei=>!ei.kind.isAgg | none=>false)
  | _=>false
 | .call { callee:=.builtin .len,argTypes,args }=>match argTypes.toList,args.toList with
  | [t],[_]=>(match E.T t with | some ⟨_,_,.slice _,_⟩=>true | _=>false)
  | _,_=>false
 | _=>false
def Xq (f:FuncId) (rid i:Nat) (drawn:Bool) (ρ:Operand->IV) (cl:Callee) (args:List Operand) (ts:List TypeId) (h:Hp) (k:KT β):Option β:=match cl with
 | .builtin b=>match b,ts,args with
  | .len,[t],[x]=>(match E.T t with
   | some ⟨_,_,.slice _,_⟩=>Ci (ρ x) fun v=>k v h [] []
   | _=>Ay (AT E (Bp f rid i) (E.pol.rowApp f rid i) b ts (args.map ρ)) (Bp f rid i) h k)
  | _,_,_=>Ay (AT E (Bp f rid i) (E.pol.rowApp f rid i) b ts (args.map ρ)) (Bp f rid i) h k
 | .value g=>match g with
  | .func g=>VI (E.pol.inl g) (VI drawn none (AlE ih g (args.map ρ) h k)) (A4 (E.pol.keep g) (E.pol.split g) (E.pol.raw g) ih g (args.map ρ) h k)
  | g=>FW E ih (ρ g) (args.map ρ) h k
 | _=>none
def JG (f:FuncId) (rid i:Nat) (drawn:Bool) (ρ:Operand->IV) (op:Op) (h:Hp) (k:KT β):Option β:=match op with
 | .move x=>k (ρ x) h [] []
 | .assign x=>k (ρ x) h [] []
 | .pick c a b=>AJ (ρ c) (ρ a) (ρ b) fun v=>k v h [] []
 | .alloc t=>match E.T t with
  | some ti=>GX (Bp f rid i) (.row ti.zero false) (.ptr (.own (Bp f rid i)) 0) h k
  | none=>none
 | .box _ x=>VI (E.pol.fzBox f rid i) (fzS (LU true (Bp f rid i) (ρ x)) (Bp f rid i) (ρ x) h k) (A7 (Bp f rid i) (ρ x) h k)
 | .build t parts=>match E.T t with
  | some ⟨_,_,.struct fs,z⟩=>(match MD (Fb E fs) parts.toList with
   | some l=>BI z (Aip ρ l) fun v=>k v h [] []
   | none=>none)
  | _=>Ay (Nw E t (parts.toList.map fun (j,x)=>(j,ρ x))) (Bp f rid i) h k
 | .buildSlice t len parts=>Ay (Aj E t len (parts.toList.map fun (j,x)=>(j,ρ x))) (Bp f rid i) h k
 | .makeFunc fn a b=>Ay (val (Db fn (a.toList.map ρ) (b.toList.map ρ))) (Bp f rid i) h k
 | .makeMap _ n=>(match n with
  | none=>Ay (Hi (Bp f rid i)) (Bp f rid i) h k
  | some _=>none)
 | .insert t m j x=>Ay (Ch E t (ρ m) (ρ j) (ρ x)) (Bp f rid i) h k
 | .mapUpdate t m j x=>Ay (Ch E t (ρ m) (ρ j) (ρ x)) (Bp f rid i) h k
 | .lookup t m j ok=>Ay (G7 E t (ρ m) (ρ j) ok) (Bp f rid i) h k
 | .makeSlice t l c=>Ay (B6 E (Bp f rid i) t (ρ l) (ρ c)) (Bp f rid i) h k
 | .slice t x lo hi mx=>Ay (X8 E t (ρ x) (lo.map ρ) (hi.map ρ) (mx.map ρ)) (Bp f rid i) h k
 | .load t a=>match E.T t with
  | none=>none
  | some ti=>VI ti.kind.isAgg (Ai ti.size (ρ a) h fun v rd=>k v h rd []) (Af (ρ a) h fun v rd=>k v h rd [])
 | .store t a x=>match E.T t with
  | none=>none
  | some ti=>VI (Nat.beq ti.size 1) (Bv (ρ a) (ρ x) h fun h rd wr=>k .dead h rd wr) (Ah ti.size (ρ a) (ρ x) h fun h rd wr=>k .dead h rd wr)
 | .nilCheck x=>AH (ρ x) fun v=>k v h [] []
 | .binOp op t x y _=>AjN E t op (ρ x) (ρ y) fun v=>k v h [] []
 | .unOp op _ x=>Eh (Qw op (ρ x)) fun v=>k v h [] []
 | .convert s d x=>match E.T s,E.T d with
  | some _,some ⟨_,_,.int .i64,_⟩=>Yi E s d (ρ x) fun v=>k v h [] []
  | _,_=>Eh (Lt E s d (ρ x)) fun v=>k v h [] []
 | .fieldAddr s x fd=>match H7 E s fd with
  | some (o,ti)=>VI (Nat.beq ti.size 0) none (Ab o (ρ x) fun v=>k v h [] [])
  | none=>none
 | .field s x fd=>match H7 E s fd with
  | some (o,ti)=>VI ti.kind.isAgg (At1 ti.size o (ρ x) fun v=>k v h [] []) (AsI o (ρ x) fun v=>k v h [] [])
  | none=>none
 | .indexAddr t x ix=>match E.T t with
  | some ⟨_,_,.slice e,_⟩=>(match E.T e with
   | some ei=>AU ei.size (ρ x) (ρ ix) fun v=>k v h [] []
   | none=>none)
  | some ⟨_,_,.arr m e,_⟩=>(match E.T e with
   | some ei=>ixA m ei.size (ρ x) (ρ ix) fun v=>k v h [] []
   | none=>none)
  | _=>none
 | .index t x ix=>match E.T t with
  | some ⟨_,_,.arr m e,_⟩=>(match E.T e with
   | some ei=>VI ei.kind.isAgg (Ay (Adc E t (ρ x) (ρ ix)) (Bp f rid i) h k) (Aw6 m ei.size (ρ x) (ρ ix) fun v=>k v h [] [])
   | none=>none)
  | _=>Ay (Adc E t (ρ x) (ρ ix)) (Bp f rid i) h k
 | .extract x ix=>Aq ix (ρ x) fun v=>k v h [] []
 | .call c=>match c with
  | { callee,args,argTypes }=>Xq E ih f rid i drawn ρ callee args.toList argTypes.toList h k
 | _=>none
end
end
end Idl
end Go.Proofs.Ytkfecngimlcfoaa
namespace Go.Proofs.Ytkfecngimlcfoaa
namespace Idl
section
variable {β:Type} {E:Env} {ih ih':Al} {f rid i:Nat} {dr:Bool} {ρ:Operand->IV} {hp:Hp} {k:KT β} {r:β}
def Ayt (E:Env) (ih:Al) (f rid i:Nat) (ρ:Operand->IV) (op:Op) (hp:Hp) (v:IV) (hp':Hp) (rd wr:List Ref):Prop :=
 ∃m,(CZ E ih f rid i ρ op).runLog hp []=some (m,rd)/\AR (Bp f rid i) hp m=some hp'/\m.eff.val=v/\wr=Bx m.eff.upd++IJ (Bp f rid i) m
def He (E:Env) (ih:Al) (f rid i:Nat) (ρ:Operand->IV) (op:Op) (hp:Hp) (k:KT β) (r:β):Prop :=
 ∃v hp' rd wr,Ayt E ih f rid i ρ op hp v hp' rd wr/\k v hp' rd wr=some r/\(FX E op=true->rd=[]/\wr=[])
theorem A5 {op:Op} {v:IV} (e:CZ E ih f rid i ρ op=val v) (h:k v hp [] []=some r):He E ih f rid i ρ op hp k r :=
 ⟨v,hp,[],[],⟨{ eff:={ val:=v } },by rw [e];rfl,rfl,rfl,rfl⟩,h,fun _=>⟨rfl,rfl⟩⟩
theorem Ra {op:Op} {o:Option IV} (e:CZ E ih f rid i ρ op=Hf o) (h:(o.bind fun v=>k v hp [] [])=some r):He E ih f rid i ρ op hp k r:=by
 cases o with
 | none=>cases h
 | some v=>exact A5 e h
theorem Vp {op:Op} {b:Blk} {v:IV} (hq:FX E op=false) (e:CZ E ih f rid i ρ op=.ret { eff:={ val:=v },new:=some b })
  (h:GX (Bp f rid i) b v hp k=some r):He E ih f rid i ρ op hp k r:=by
 obtain ⟨own,ext⟩:=hp;have h:CW own (Bp f rid i) (A9 own (Bp f rid i) b fun own=>k v ⟨own,ext⟩ [] [.own (Bp f rid i)])=some r:=h;obtain ⟨h1,h2⟩:=Q1 h;rw [Ce] at h2;refine ⟨v,⟨AP (Bp f rid i) b own,ext⟩,[],[.own (Bp f rid i)],⟨_,by rw [e];rfl,?_,rfl,rfl⟩,h2,fun q=>by rw [hq] at q;cases q⟩;simp only [AR,laid,Option.bind_some,CG];rw [show (Hp.mk own ext).get (.own (Bp f rid i))=none from h1]
 rfl
theorem BX {op:Op} {m:Rd Made} (hq:FX E op=false) (e:CZ E ih f rid i ρ op=m) (h:Ay m (Bp f rid i) hp k=some r):He E ih f rid i ρ op hp k r:=by
 unfold Ay at h;cases hm:m.runLog hp [] with
 | none=>rw [hm] at h;cases h
 | some p =>
  obtain ⟨m',rd⟩:=p;rw [hm] at h;simp only at h;obtain ⟨h1,l1,h⟩:=Z7 _ _ h;have hh:∃h2,CG (Bp f rid i) m' h1=some h2/\k m'.eff.val h2 rd (Bx m'.eff.upd++IJ (Bp f rid i) m')=some r:=by
   unfold J1 at h;unfold CG;cases hn:m'.new with
   | none=>rw [hn] at h;simp only [Cw] at h;exact ⟨h1,rfl,h⟩
   | some b =>
    rw [hn] at h;obtain ⟨own,ext⟩:=h1;simp only [CY,Ce,Cw] at h;obtain ⟨f1,f2⟩:=Q1 h;refine ⟨⟨AP (Bp f rid i) b own,ext⟩,?_,f2⟩;simp only;rw [show (Hp.mk own ext).get (.own (Bp f rid i))=none from f1]
    rfl
  obtain ⟨h2,l2,h⟩:=hh;exact ⟨_,h2,rd,_,⟨m',by rw [e,hm],by simp only [AR,l1,Option.bind_some,l2],rfl,rfl⟩,h,fun q=>by rw [hq] at q;cases q⟩
theorem Ps {x:IV} {e:Option β} {k:FV->Option β} (h:Qv x e k=some r):(∃v,x=.fv v/\k v=some r)\/e=some r:=by
 unfold Qv at h;split at h
 ·exact .inl ⟨_,rfl,h⟩
 ·exact .inr h
theorem WD {x:IV} {k:List IV->Option β} {kf:List FV->Option β} (h:asAgg x k kf=some r):(∃cs,x=.agg cs/\k cs=some r)\/(∃cs,x=.fv (.agg cs)/\kf cs=some r):=by
 unfold asAgg at h;split at h
 ·exact .inl ⟨_,rfl,h⟩
 ·unfold Hz at h;split at h
  ·exact .inr ⟨_,rfl,h⟩
  ·cases h
 ·cases h
theorem DE {x:IV} {k:Ref->Nat->Option β} {kf:List FV->Nat->Option β} (h:Fc x k kf=some r):(∃q o,x=.ptr q o/\k q o=some r)\/(∃cs o,x=.fv (.fp cs o)/\kf cs o=some r):=by
 unfold Fc at h;split at h
 ·exact .inl ⟨_,_,rfl,h⟩
 ·unfold Awc at h;split at h
  ·exact .inr ⟨_,_,rfl,h⟩
  ·cases h
 ·cases h
theorem Hl {b:Blk} {k:List IV->Option β} (h:Ek b k=some r):∃cells ro,b=.row cells ro/\k cells=some r:=by
 unfold Ek at h;split at h
 ·exact ⟨_,_,rfl,h⟩
 ·cases h
theorem Q8 {b:Blk} {k:List IV->Option β} (h:Hy b k=some r):∃cells,b=.row cells false/\k cells=some r:=by
 unfold Hy at h;split at h
 ·rename_i ro;cases ro with
  | true=>cases h
  | false=>exact ⟨_,rfl,h⟩
 ·cases h
theorem VO {x:IV} {k:Ref->Nat->Nat->Option β} {e:Option β} (h:Abg x k e=some r):(∃q sz n,x=.slc q sz n/\k q sz n=some r)\/((∀q sz n,x≠.slc q sz n)/\e=some r):=by
 unfold Abg at h;split at h
 ·exact .inl ⟨_,_,_,rfl,h⟩
 ·rename_i hn;exact .inr ⟨hn,h⟩
theorem Bz {α:Type} {o:Option α} {k:α->Option β} (h:o.bind k=some r):∃a,o=some a/\k a=some r:=by
 cases o with
 | none=>cases h
 | some a=>exact ⟨a,rfl,h⟩
theorem D1 {c:Prop} [Decidable c] {a:Option β} (h:(if c then a else none)=some r):c/\a=some r:=by
 by_cases hc:c
 ·rw [if_pos hc] at h;exact ⟨hc,h⟩
 ·rw [if_neg hc] at h;cases h
theorem DU {c:Bool} {a:Option β} (h:cond c a none=some r):c=true/\a=some r:=by cases c;cases h;exact ⟨rfl,h⟩
theorem Dm {a b:Nat} (h:Nat.beq a b=true):a=b:=Nat.eq_of_beq_eq_true h
theorem Bt {a b:Nat} (h:Nat.ble a b=true):a<=b:=Nat.le_of_ble_eq_true h
theorem Ft {t:TypeId} {op:BinOp} {x y:IV} {k:IV->Option β} (h:CK E t op x y k=some r):∃v,FP E op t x y=some v/\k v=some r:=by
 rw [CK,CL] at h;exact Bz h
theorem ApC {t:TypeId} {x y:IV} {k:IV->Option β} (h:BE E t x y k=some r):∃v,FP E .add t x y=some v/\k v=some r:=by
 unfold BE at h;rcases Ge h with ⟨a,rfl,g'⟩ | h
 ·replace h:=g';clear g';rcases Ge h with ⟨b,rfl,g'⟩ | h
  ·replace h:=g';clear g';cases hc:Nat.ble (a+b) 9223372036854775807 with
   | false=>rw [hc] at h;exact Ft h
   | true =>
    rw [hc] at h;simp only [cond,Dt] at h;refine ⟨_,?_,h⟩;have e:IntKind.i64.wrap ((a:Int)+(b:Int))=((a+b:Nat):Int):=by
     rw [<- Int.natCast_add];exact Yg (Bt hc)
    show some (IV.fv (.int .i64 (IntKind.i64.wrap ((a:Int)+(b:Int)))))=_
    rw [e]
  ·exact Ft h
 ·exact Ft h
theorem Ao5 {t:TypeId} {x y:IV} {k:IV->Option β} (h:Bj E t x y k=some r):∃v,FP E .sub t x y=some v/\k v=some r:=by
 unfold Bj at h;rcases Ge h with ⟨a,rfl,g'⟩ | h
 ·replace h:=g';clear g';rcases Ge h with ⟨b,rfl,g'⟩ | h
  ·replace h:=g';clear g';cases hc:(and (Nat.ble b a) (Nat.ble a 9223372036854775807)) with
   | false=>rw [hc] at h;exact Ft h
   | true =>
    rw [hc] at h;simp only [cond,Dt] at h;refine ⟨_,?_,h⟩;have hc:(Nat.ble b a && Nat.ble a 9223372036854775807)=true:=hc;simp only [Bool.and_eq_true] at hc;have h1:=Bt hc.1;have h2:=Bt hc.2;have e:IntKind.i64.wrap ((a:Int) - (b:Int))=((a - b:Nat):Int):=by
     rw [<- Int.natCast_sub h1];exact Yg (by omega)
    show some (IV.fv (.int .i64 (IntKind.i64.wrap ((a:Int) - (b:Int)))))=_
    rw [e]
  ·exact Ft h
 ·exact Ft h
theorem I3 {t:TypeId} {op:BinOp} {g:Nat->Nat->Bool} (hg:∀a b:Nat,FP E op t (.fv (.int .i64 a)) (.fv (.int .i64 b))=some (.fv (.bool (g a b)))) {x y:IV} {k:IV->Option β}
  (h:U2 E t op g x y k=some r):∃v,FP E op t x y=some v/\k v=some r:=by
 unfold U2 at h;rcases Ge h with ⟨a,rfl,g'⟩ | h
 ·replace h:=g';clear g';rcases Ge h with ⟨b,rfl,g'⟩ | h
  ·replace h:=g';clear g';rw [VY] at h;exact ⟨_,hg a b,h⟩
  ·exact Ft h
 ·exact Ft h
theorem ID (a b:Nat):Nat.beq a b=decide (a=b):=by
 cases h:Nat.beq a b with
 | true=>rw [Dm h];simp
 | false =>
  have:a≠b:=fun e=>by rw [e,show Nat.beq b b=true from Nat.beq_refl b] at h;cases h
  simp [this]
theorem Br (a b:Nat):Nat.ble a b=decide (a<=b):=by
 cases h:Nat.ble a b with
 | true=>have:=Bt h;simp [this]
 | false =>
  have:¬ a<=b:=fun e=>by rw [Nat.ble_eq_true_of_le e] at h;cases h
  simp [this]
theorem Aju {t:TypeId} {op:BinOp} {x y:IV} {k:IV->Option β} (h:AjN E t op x y k=some r):∃v,FP E op t x y=some v/\k v=some r:=by
 cases op with
 | add=>exact ApC h
 | sub=>exact Ao5 h
 | eql =>
  refine I3 (fun a b=>?_) h
  show some (IV.fv (.bool ((a:Int) == (b:Int))))=_
  rw [ID];congr 3;exact decide_eq_decide.2 Int.ofNat_inj
 | neq =>
  refine I3 (fun a b=>?_) h
  show some (IV.fv (.bool ((a:Int) != (b:Int))))=_
  rw [ID];congr 3
  show (!decide ((a:Int)=(b:Int)))=!decide (a=b)
  congr 1;exact decide_eq_decide.2 Int.ofNat_inj
 | lss =>
  refine I3 (fun a b=>?_) h
  show some (IV.fv (.bool (decide ((a:Int)<(b:Int)))))=_
  rw [Br];congr 3;exact decide_eq_decide.2 (by omega)
 | leq =>
  refine I3 (fun a b=>?_) h
  show some (IV.fv (.bool (decide ((a:Int)<=(b:Int)))))=_
  rw [Br];congr 3;exact decide_eq_decide.2 (by omega)
 | gtr =>
  refine I3 (fun a b=>?_) h
  show some (IV.fv (.bool (decide ((a:Int) > (b:Int)))))=_
  rw [Br];congr 3;exact decide_eq_decide.2 (by omega)
 | geq =>
  refine I3 (fun a b=>?_) h
  show some (IV.fv (.bool (decide ((a:Int) ≥ (b:Int)))))=_
  rw [Br];congr 3;exact decide_eq_decide.2 (by omega)
 | _=>exact Ft h
theorem Ajm {s d:TypeId} {x:IV} {si:TI} {a b:Nat} {z:List IV} (h1:E.T s=some si) (h2:E.T d=some ⟨a,b,.int .i64,z⟩) {k:IV->Option β} (h:Yi E s d x k=some r) :
  ∃v,Lt E s d x=some v/\k v=some r:=by
 have hg:Eh (Lt E s d x) k=some r->∃v,Lt E s d x=some v/\k v=some r:=fun h=>by rw [CL] at h;exact Bz h
 unfold Yi at h;rcases Ge h with ⟨n,rfl,g'⟩ | h
 ·replace h:=g';clear g';cases hc:Nat.ble n 9223372036854775807 with
  | false=>rw [hc] at h;exact hg h
  | true =>
   rw [hc] at h;simp only [cond,Dt] at h;refine ⟨_,?_,h⟩;simp only [Lt,h1,h2];rw [Yg (Bt hc)]
 ·exact hg h
theorem At4 {t:TypeId} {a:Operand} (h:JG E ih' f rid i dr ρ (.load t a) hp k=some r):He E ih f rid i ρ (.load t a) hp k r:=by
 simp only [JG,BP] at h;cases ht:E.T t with
 | none=>rw [ht] at h;cases h
 | some ti =>
  rw [ht] at h;simp only at h;cases hag:ti.kind.isAgg with
  | true =>
   rw [hag] at h;simp only [cond,Ai] at h;rcases DE h with ⟨q,o,ha,h⟩ | ⟨cs,o,ha,h⟩
   ·rw [EX] at h;obtain ⟨b,hb,h⟩:=Bz h;obtain ⟨cells,ro,rfl,g'⟩:=Hl h;replace h:=g';clear g';rw [Kv] at h;obtain ⟨h1,h⟩:=D1 h;rw [L1] at h;obtain ⟨h2,h⟩:=D1 h;rw [TQ] at h;refine ⟨_,hp,[q],[],⟨{ eff:={ val:=Gc ((cells.drop o).take ti.size) } },?_,rfl,rfl,rfl⟩,h,fun q=>by cases q⟩;simp only [CZ,ht,ha,Rd.runLog,hb,Cp,hag,if_true];rw [if_pos (by simp at h2;omega)];rfl
   ·rw [Kv] at h;obtain ⟨h1,h⟩:=D1 h;rw [L1] at h;obtain ⟨h2,h⟩:=D1 h;refine ⟨_,hp,[],[],⟨{ eff:={ val:=.fv (.agg ((cs.drop o).take ti.size)) } },?_,rfl,rfl,rfl⟩,h,fun q=>by cases q⟩;simp only [CZ,ht,ha,By,hag,if_true];rw [if_pos (by simp at h2;omega)];rfl
  | false =>
   rw [hag] at h;simp only [cond,Af] at h;rcases DE h with ⟨q,o,ha,h⟩ | ⟨cs,o,ha,h⟩
   ·rw [EX] at h;obtain ⟨b,hb,h⟩:=Bz h;obtain ⟨cells,ro,rfl,g'⟩:=Hl h;replace h:=g';clear g';rw [C8] at h;obtain ⟨v,hv,h⟩:=Bz h;refine ⟨_,hp,[q],[],⟨{ eff:={ val:=v } },?_,rfl,rfl,rfl⟩,h,fun q=>by cases q⟩;simp only [CZ,ht,ha,Rd.runLog,hb,Cp,hag,Bool.false_eq_true,if_false,hv];rfl
   ·rw [C8] at h;obtain ⟨v,hv,h⟩:=Bz h;refine ⟨_,hp,[],[],⟨{ eff:={ val:=.fv v } },?_,rfl,rfl,rfl⟩,h,fun q=>by cases q⟩;simp only [CZ,ht,ha,By,hag,Bool.false_eq_true,if_false,hv];rfl
theorem Ack (cells:List IV) (o:Nat) (v:IV):Bc cells o [v]=cells.set o v:=rfl
theorem Ap9 {t:TypeId} {a x:Operand} (h:JG E ih' f rid i dr ρ (.store t a x) hp k=some r):He E ih f rid i ρ (.store t a x) hp k r:=by
 simp only [JG,BP] at h;cases ht:E.T t with
 | none=>rw [ht] at h;cases h
 | some ti =>
  rw [ht] at h;simp only at h;have key:∀q o cells,ρ a=.ptr q o->hp.get q=some (.row cells false) ->
    ((ρ x).alive=true/\(ρ x).cells.length=ti.size/\o+ti.size<=cells.length/\(ρ x).cells.all IV.one=true/\Gf q (ρ x)=true) ->
    k .dead (hp.set q (.row (Bc cells o (ρ x).cells) false)) [q] [q]=some r->He E ih f rid i ρ (.store t a x) hp k r:=by
   intro q o cells ha hb hc h;refine ⟨_,_,[q],[q],⟨{ eff:={ val:=.dead,upd:=[(q,.row (Bc cells o (ρ x).cells) false)] } },?_,?_,rfl,rfl⟩,h,fun q=>by cases q⟩
   ·simp only [CZ,ht,ha,Rd.runLog,hb];rw [if_pos hc];rfl
   ·simp only [AR,laid,hb,Option.bind_some,CG]
  have gen:Ah ti.size (ρ a) (ρ x) hp (fun h rd wr=>k .dead h rd wr)=some r->He E ih f rid i ρ (.store t a x) hp k r:=by
   intro h;simp only [Ah] at h;rcases DE h with ⟨q,o,ha,h⟩ | ⟨cs,o,ha,h⟩
   ·rw [EX] at h;obtain ⟨b,hb,h⟩:=Bz h;obtain ⟨cells,rfl,g'⟩:=Q8 h;replace h:=g';clear g';rcases Ps h with ⟨v,hx,h⟩ | h
    ·simp only [Hz] at h;split at h
     ·rename_i cs;obtain ⟨hc,h⟩:=DU h;have hc:(Nat.beq cs.length ti.size && DI cs)=true:=hc;simp only [Bool.and_eq_true] at hc;obtain ⟨h1,h⟩:=OS cells o cs h;rw [KE] at h;have hl:=Dm hc.1;refine key q o cells ha hb ⟨by rw [hx];rfl,by rw [hx];simp [IV.cells,hl],by omega,by rw [hx];exact O4 cs hc.2,by rw [hx];cases q<;>rfl⟩ ?_;rw [hx];exact h
     ·cases h
    ·obtain ⟨hc,h⟩:=D1 h;rw [Ie,KE] at h;exact key q o cells ha hb hc h
   ·cases h
  cases hs:Nat.beq ti.size 1 with
  | true =>
   rw [hs] at h;have hs:=Dm hs;simp only [cond,Bv] at h;cases ho:(ρ x).one with
   | false =>
    rw [ho] at h;rw [<- hs] at h;exact gen h
   | true =>
    rw [ho] at h;simp only at h;rcases DE h with ⟨q,o,ha,h⟩ | ⟨cs,o,ha,h⟩
    ·rw [EX] at h;obtain ⟨b,hb,h⟩:=Bz h;obtain ⟨cells,rfl,g'⟩:=Q8 h;replace h:=g';clear g';cases hc:Gf q (ρ x) with
     | false=>rw [hc] at h;cases h
     | true =>
      rw [hc] at h;simp only at h;rw [AgQ] at h;obtain ⟨hlt,h⟩:=D1 h;rw [KE] at h;obtain ⟨c1,c2⟩:=MB ho;refine key q o cells ha hb ⟨c2,by rw [c1,hs];rfl,by omega,by rw [c1];simp [ho],hc⟩ ?_;rw [c1,Ack];exact h
    ·cases h
  | false =>
   rw [hs] at h;exact gen h
end
end Idl
end Go.Proofs.Ytkfecngimlcfoaa
set_option linter.unusedSimpArgs false
namespace Go.Proofs.Ytkfecngimlcfoaa
namespace Idl
section
variable {β:Type} {E:Env} {ih ih':Al} {f rid i:Nat} {dr:Bool} {ρ:Operand->IV} {hp:Hp} {k:KT β} {r:β}
theorem Rz {size o:Nat} {cs:List IV} {k:IV->Option β} (h:(FM cs o fun cs=>Gh cs size fun cs=>QP cs k)=some r) :
  Cp true size o cs=some (Gc ((cs.drop o).take size))/\k (Gc ((cs.drop o).take size))=some r:=by
 rw [Kv] at h;obtain ⟨h1,h⟩:=D1 h;rw [L1] at h;obtain ⟨h2,h⟩:=D1 h;rw [TQ] at h;refine ⟨?_,h⟩;simp only [Cp,if_true];rw [if_pos (by simp at h2;omega)]
theorem OW {size o:Nat} {cs:List FV} {k:IV->Option β} (h:(FM cs o fun cs=>Gh cs size fun cs=>k (.fv (.agg cs)))=some r) :
  By true size o cs=some (.agg ((cs.drop o).take size))/\k (.fv (.agg ((cs.drop o).take size)))=some r:=by
 rw [Kv] at h;obtain ⟨h1,h⟩:=D1 h;rw [L1] at h;obtain ⟨h2,h⟩:=D1 h;refine ⟨?_,h⟩;simp only [By,if_true];rw [if_pos (by simp at h2;omega)]
theorem An8 {s:TypeId} {x:Operand} {fd:Nat} (h:JG E ih' f rid i dr ρ (.field s x fd) hp k=some r):He E ih f rid i ρ (.field s x fd) hp k r:=by
 simp only [JG,BP] at h;cases hf:H7 E s fd with
 | none=>rw [hf] at h;cases h
 | some p =>
  obtain ⟨o,ti⟩:=p;rw [hf] at h;simp only at h;cases hag:ti.kind.isAgg with
  | true =>
   rw [hag] at h;simp only [cond,At1] at h;rcases WD h with ⟨cs,hx,h⟩ | ⟨cs,hx,h⟩
   ·obtain ⟨h1,h2⟩:=Rz (k:=fun v=>k v hp [] []) h;exact A5 (by simp only [CZ,hf,hx,hag,h1];rfl) h2
   ·obtain ⟨h1,h2⟩:=OW (k:=fun v=>k v hp [] []) h;exact A5 (by simp only [CZ,hf,hx,hag,h1];rfl) h2
  | false =>
   rw [hag] at h;simp only [cond,AsI] at h;rcases WD h with ⟨cs,hx,h⟩ | ⟨cs,hx,h⟩
   ·rw [C8] at h;obtain ⟨v,hv,h⟩:=Bz h;exact A5 (by simp only [CZ,hf,hx,hag,Cp,Bool.false_eq_true,if_false,hv];rfl) h
   ·rw [C8] at h;obtain ⟨v,hv,h⟩:=Bz h;exact A5 (by simp only [CZ,hf,hx,hag,By,Bool.false_eq_true,if_false,hv];rfl) h
theorem Vz {s:TypeId} {x:Operand} {fd:Nat} (h:JG E ih' f rid i dr ρ (.fieldAddr s x fd) hp k=some r):He E ih f rid i ρ (.fieldAddr s x fd) hp k r:=by
 simp only [JG,BP] at h;cases hf:H7 E s fd with
 | none=>rw [hf] at h;cases h
 | some p =>
  obtain ⟨o,ti⟩:=p;rw [hf] at h;simp only [HD] at h;by_cases hs:ti.size=0
  ·rw [if_pos hs] at h;cases h
  ·rw [if_neg hs] at h;unfold Ab at h;rcases DE h with ⟨q,off,hx,h⟩ | ⟨cs,off,hx,h⟩
   ·rw [B4] at h;exact A5 (by simp only [CZ,hf,hx,if_neg hs]) h
   ·rw [B4] at h;exact A5 (by simp only [CZ,hf,hx,if_neg hs]) h
theorem Axu {x:Operand} (h:JG E ih' f rid i dr ρ (.nilCheck x) hp k=some r):He E ih f rid i ρ (.nilCheck x) hp k r:=by
 simp only [JG,BP] at h;unfold AH at h;split at h
 ·rename_i hx;exact A5 (by simp only [CZ,hx]) h
 ·rename_i hx;unfold Av9 at h;split at h
  ·exact A5 (by simp only [CZ,hx]) h
  ·unfold ApL at h;split at h
   ·exact A5 (by simp only [CZ,hx]) h
   ·cases h
  ·cases h
 ·rename_i hx;unfold ApL at h;split at h
  ·exact A5 (by simp only [CZ,hx]) h
  ·cases h
 ·cases h
theorem Aiu {x:Operand} {ix:Nat} (h:JG E ih' f rid i dr ρ (.extract x ix) hp k=some r):He E ih f rid i ρ (.extract x ix) hp k r:=by
 simp only [JG,BP] at h;unfold Aq at h;split at h
 ·rename_i hx;rw [C8] at h;obtain ⟨v,hv,h⟩:=Bz h;exact A5 (by simp only [CZ,hx,hv];rfl) h
 ·rename_i hx;simp only [AxM] at h;split at h
  ·rw [C8] at h;obtain ⟨v,hv,h⟩:=Bz h;exact A5 (by simp only [CZ,hx,hv];rfl) h
  ·cases h
 ·cases h
theorem AtC {c a b:Operand} (h:JG E ih' f rid i dr ρ (.pick c a b) hp k=some r):He E ih f rid i ρ (.pick c a b) hp k r:=by
 simp only [JG,AJ] at h;obtain ⟨t,hc,h⟩:=Wq h;cases t with
 | true=>exact A5 (by simp only [CZ,hc];rfl) h
 | false=>exact A5 (by simp only [CZ,hc];rfl) h
theorem VU {t:TypeId} {x ix:Operand} (h:JG E ih' f rid i dr ρ (.indexAddr t x ix) hp k=some r):He E ih f rid i ρ (.indexAddr t x ix) hp k r:=by
 simp only [JG,BP] at h;split at h
 ·rename_i e z ht;split at h
  ·rename_i ei he;unfold AU at h;obtain ⟨kd,n,hi,h⟩:=Uu h;rcases VO h with ⟨q,sz,len,hx,h⟩ | ⟨hx,h⟩
   ·obtain ⟨hc,h⟩:=DU h;have hc:(Nat.ble (Nat.succ n) len && Nat.beq sz ei.size)=true:=hc;simp only [Bool.and_eq_true] at hc;have h1:=Bt hc.1;have h2:=Dm hc.2;rw [B4] at h;refine A5 ?_ h;simp only [CZ,Mp,ht,he,hi,hx];rw [if_pos ⟨by omega,by omega,h2⟩];rfl
   ·rw [Agm] at h;obtain ⟨es,he2,h⟩:=Bz h;rw [C8] at h;obtain ⟨el,hel,h⟩:=Bz h;rw [AlY] at h;obtain ⟨hl,h⟩:=D1 h;refine A5 ?_ h;simp only [CZ,Mp,ht,he,hi];cases hxx:ρ x with
    | slc q sz len=>exact absurd hxx (hx q sz len)
    | _ =>
     rw [hxx] at he2;simp only [he2];rw [if_neg (by omega)];simp only [Int.toNat_natCast,hel];rw [if_pos hl]
  ·cases h
 ·rename_i m e z ht;split at h
  ·rename_i ei he;unfold ixA at h;obtain ⟨kd,n,hi,h⟩:=Uu h;obtain ⟨hc,h⟩:=DU h;have hc:=Bt hc;have hlt:(0:Int)<=(n:Int)/\(n:Int)<(m:Int):=⟨by omega,by omega⟩;rcases DE h with ⟨q,o,hx,h⟩ | ⟨cs,o,hx,h⟩
   ·rw [B4] at h;refine A5 ?_ h;simp only [CZ,Mp,ht,he,hi,hx];rw [if_pos hlt];rfl
   ·rw [B4] at h;refine A5 ?_ h;simp only [CZ,Mp,ht,he,hi,hx];rw [if_pos hlt];rfl
  ·cases h
 ·cases h
theorem Aps {t:TypeId} {x ix:Operand} (h:JG E ih' f rid i dr ρ (.index t x ix) hp k=some r):He E ih f rid i ρ (.index t x ix) hp k r:=by
 simp only [JG,BP] at h;split at h
 ·rename_i m e z ht;split at h
  ·rename_i ei he;cases hag:ei.kind.isAgg with
   | true=>rw [hag] at h;exact BX (by simp only [FX,ht,he,hag];rfl) rfl h
   | false =>
    rw [hag] at h;simp only [cond,Aw6] at h;obtain ⟨kd,n,hi,h⟩:=Uu h;obtain ⟨hc,h⟩:=DU h;have hc:=Bt hc;rcases Ps h with ⟨v,hx,h⟩ | h
    ·simp only [Hz] at h;split at h
     ·rw [C8] at h;obtain ⟨w,hw,h⟩:=Bz h;refine A5 ?_ h;simp only [CZ,ht,hi,hx,he];rw [if_pos ⟨by omega,by omega⟩];simp only [hag,By,Bool.false_eq_true,if_false,Int.toNat_natCast,hw];rfl
     ·cases h
    ·cases h
  ·cases h
 ·rename_i hn;refine BX ?_ rfl h;simp only [FX]
theorem Ak5 {z:List IV} {o sz:Nat} {v:IV} {k:List IV->Option β} (h:HO z o sz v k=some r):(v.alive=true/\v.cells.length=sz/\o+sz<=z.length)/\k (Bc z o v.cells)=some r:=by
 have one:v.one=true->(cond (Nat.beq sz 1) (G9 z o v k) none)=some r->(v.alive=true/\v.cells.length=sz/\o+sz<=z.length)/\k (Bc z o v.cells)=some r:=by
  intro ho h;obtain ⟨hs,h⟩:=DU h;have hs:=Dm hs;rw [AgQ] at h;obtain ⟨hlt,h⟩:=D1 h;obtain ⟨c1,c2⟩:=MB ho;refine ⟨⟨c2,by rw [c1,hs];rfl,by omega⟩,?_⟩;rw [c1,Ack];exact h
 unfold HO at h;rcases Ps h with ⟨w,rfl,g'⟩ | h
 ·replace h:=g';clear g';cases ho:Il w with
  | true =>
   rw [ho] at h;exact one (by cases w<;>first | rfl | cases ho) h
  | false =>
   rw [ho] at h;simp only [cond,Hz] at h;split at h
   ·rename_i cs;cases hc:Nat.beq cs.length sz with
    | false=>rw [hc] at h;cases h
    | true =>
     rw [hc] at h;have hc:=Dm hc;obtain ⟨h1,h⟩:=OS z o cs h;exact ⟨⟨rfl,by simp [IV.cells,hc],by omega⟩,h⟩
   ·cases h
 ·unfold Ad2 at h;cases ho:v.one with
  | true=>rw [ho] at h;exact one ho h
  | false =>
   rw [ho] at h;simp only [cond] at h;obtain ⟨hc,h⟩:=D1 h;rw [Ie] at h;exact ⟨hc,h⟩
theorem VK:∀(pl:List (Nat×Operand)) (place:Nat->Option (Nat×Nat)) (l:List (Nat×Nat×Operand)) (z:List IV) {k:List IV->Option β},MD place pl=some l->Pw z (Aip ρ l) k=some r ->
  ∃cells,CH place z (pl.map fun (j,x)=>(j,ρ x))=some cells/\k cells=some r
 | [],place,l,z,k,hp,h=>by
  simp only [MD,AB5] at hp;subst hp;exact ⟨z,rfl,h⟩
 | (j,x)::pl,place,l,z,k,hp,h=>by
  simp only [MD] at hp;cases hj:place j with
  | none=>rw [hj] at hp;cases hp
  | some os =>
   obtain ⟨o,s⟩:=os;rw [hj] at hp;simp only at hp;cases hpl:MD place pl with
   | none=>rw [hpl] at hp;cases hp
   | some l' =>
    rw [hpl] at hp;simp only [AB5] at hp;subst hp;have h:(HO z o s (ρ x) fun z=>Pw z (Aip ρ l') k)=some r:=h;simp only [ACb,CH,hj];obtain ⟨hc,h⟩:=Ak5 h;rw [if_pos hc];exact VK pl place l' _ hpl h
theorem Ao0 {t:TypeId} {parts:Array (Nat×Operand)} (h:JG E ih' f rid i dr ρ (.build t parts) hp k=some r):He E ih f rid i ρ (.build t parts) hp k r:=by
 simp only [JG,BP] at h;split at h
 ·rename_i fs z ht;split at h
  ·rename_i l hl;unfold BI at h;obtain ⟨cells,h1,h2⟩:=VK _ _ _ _ hl h;rw [TQ] at h2;refine A5 ?_ h2;simp only [CZ,ht,h1];rfl
  ·cases h
 ·rename_i hn;refine BX ?_ rfl h;simp only [FX]
theorem Awg {t:TypeId} {x:Operand} (h:JG E ih' f rid i dr ρ (.box t x) hp k=some r):He E ih f rid i ρ (.box t x) hp k r:=by
 simp only [JG,BP] at h;have hg:E.pol.fzBox f rid i=true->CZ E ih f rid i ρ (.box t x)=LU true (Bp f rid i) (ρ x):=fun e=>by rw [AkV,e]
 cases hz:E.pol.fzBox f rid i with
 | true =>
  rw [hz] at h;simp only [cond,fzS] at h;rcases Ps h with ⟨v,hx,h⟩ | h
  ·simp only [Axl] at h;split at h
   ·rename_i cs;cases hc:Nat.ble cs.length 2000 with
    | false=>rw [hc] at h;exact BX rfl (hg hz) h
    | true =>
     rw [hc] at h;have hc:=Bt hc;have key:∀(n:Nat) (cs:List FV),cs.length<n->frzL n (cs.map .fv)=.ret (cs,[]):=by
      intro n
      induction n with
      | zero=>intro cs h;omega
      | succ n ih =>
       intro cs h;cases cs with
       | nil=>rfl
       | cons c cs =>
        cases n with
        | zero=>simp at h
        | succ n =>
         simp only [ACb,frzL,C6,Rd.bind];rw [ih cs (by simp at h ⊢;omega)];rfl
     refine ⟨_,hp,[],[],⟨{ eff:={ val:=.fv (.fp cs 0),upd:=[] } },?_,rfl,rfl,rfl⟩,h,fun q=>by cases q⟩;simp only [CZ,hx,IV.alive,Bool.true_eq_false,if_false,hz,if_true,IV.cells,key 4096 cs (by omega)];rfl
   ·exact BX rfl (hg hz) h
  ·exact BX rfl (hg hz) h
 | false =>
  rw [hz] at h;simp only [cond,A7] at h;have key:∀cs,(ρ x).cells=cs->(ρ x).alive=true->GX (Bp f rid i) (.row cs false) (.ptr (.own (Bp f rid i)) 0) hp k=some r->He E ih f rid i ρ (.box t x) hp k r:=by
   intro cs hcs ha h;refine Vp rfl ?_ h;simp only [CZ,ha,Bool.true_eq_false,if_false,hz,Bool.false_eq_true,hcs]
  cases ho:(ρ x).one with
  | true =>
   rw [ho] at h;obtain ⟨c1,c2⟩:=MB ho;exact key _ c1 c2 h
  | false =>
   rw [ho] at h;simp only at h;obtain ⟨ha,h⟩:=DU h;rw [Ie] at h;exact key _ rfl ha h
theorem Aix {s d:TypeId} {x:Operand} (h:JG E ih' f rid i dr ρ (.convert s d x) hp k=some r):He E ih f rid i ρ (.convert s d x) hp k r:=by
 simp only [JG,BP] at h;split at h
 ·rename_i hs hd;obtain ⟨v,h1,h2⟩:=Ajm hs hd h;exact A5 (by simp only [CZ,h1];rfl) h2
 ·rw [CL] at h;exact Ra rfl h
def Iso (E:Env) (ih:Al) (g:FuncId) (args:List IV) (hp:Hp) (k:KT β) (r:β):Prop :=
 ∃e rd hp',(Hv E ih g args).runLog hp []=some (e,rd)/\laid hp e.upd=some hp'/\k e.val hp' rd (Bx e.upd)=some r
theorem LF (hi:∀f args h x,ih' f args h=some x->ih f args h=some x) {g:FuncId} {args:List IV} (h:Fx (E.pol.keep g) (E.pol.split g) (E.pol.raw g) ih' g args hp k=some r):Iso E ih g args hp k r:=by
 have hasked:∀args ext x,Kn (E.pol.split g) ih' g args ext=some x->asked E ih g args ext=some x:=by
  intro args ext x e;unfold Kn at e;unfold asked;split at e
  ·rename_i hs;rw [if_pos hs];split at e
   ·split at e
    ·rename_i hc;simp only [Bool.and_eq_true] at hc;have mono:∀{o o':Option (IV×Hp)},(∀x,o=some x->o'=some x)->CM o=true->CM o'=true:=by
      intro o o' hm h;cases o with
      | none=>cases h
      | some x=>rw [hm x rfl];exact h
     rw [if_pos (by rw [mono (hi _ _ _) hc.1,mono (hi _ _ _) hc.2];rfl)];exact e
    ·cases e
   ·rename_i hne
    have:=hi _ _ _ _ e
    split
    ·exact absurd rfl (fun e=>hne rfl e)
    ·exact this
  ·rename_i hs;rw [if_neg hs];exact hi _ _ _ _ e
 unfold Fx at h;split at h
 ·cases h
 rename_i vs rs u l1 h1;split at h
 ·cases h
 rename_i l l2 h2;split at h
 ·cases h
 rename_i vs' h3;split at h
 ·cases h
 rename_i ext h4;simp only [DD (Cw 3),DD CY] at h;split at h
 ·cases h
 rename_i res hp' h5;split at h
 ·cases h
 rename_i res1 h6;split at h
 ·cases h
 rename_i res2 h7;split at h
 ·cases h
 rename_i ext' h8;obtain ⟨hc,h⟩:=D1 h;split at h
 ·cases h
 rename_i hp2 h9;simp only [M0,Cw] at h;refine ⟨{ val:=res2,upd:=u++(Bx l).zip ext' },l2,hp2,?_,h9,h⟩;simp only [Hv,BD,h1,h2,Option.bind_some,h3,h4,hasked _ _ _ h5];rw [show H1 E g res hp'=some res1 from h6]
 simp only [Option.bind_some,h7,h8];rw [if_pos hc];rfl
def Aso (M:Nat) (g:FzK β):Prop:=∀v h lg e k r,g v h lg e k=some r->e=some r\/∃x u lg',(∀N,M<=N->(C6 N v).runLog h lg=some ((x,u),lg'))/\(∀p∈u,∃s,p.1=Ref.own s)/\k x u lg'=some r
theorem I4 {M:Nat} {g:FzK β} (hg:Aso M g):∀(l:List IV) h lg e k r,Dl g l h lg e k=some r ->
  e=some r\/∃xs us lg',(∀N,M+l.length+1<=N->(frzL N l).runLog h lg=some ((xs,us),lg'))/\(∀p∈us,∃s,p.1=Ref.own s)/\k xs us lg'=some r
 | [],h,lg,e,k,r,hh=>.inr ⟨[],[],lg,fun N hN=>(by cases N with | zero=>simp at hN | succ N=>rfl),fun p hp=>(by cases hp),hh⟩
 | v::l,h,lg,e,k,r,hh=>by
  have hh:(g v h lg e fun y u lg=>Dl g l h lg e fun ys us lg=>QE u us fun w=>k (y::ys) w lg)=some r:=hh;rcases hg _ _ _ _ _ _ hh with h1 | ⟨x,u,lg1,h1,hu,hh⟩
  ·exact .inl h1
  ·rcases I4 hg l _ _ _ _ _ hh with h2 | ⟨xs,us,lg2,h2,hus,hh⟩
   ·exact .inl h2
   ·rw [Ye] at hh;refine .inr ⟨x::xs,u++us,lg2,fun N hN=>?_,fun p hp=>?_,hh⟩
    ·cases N with
     | zero=>simp at hN
     | succ N =>
      simp only [AB9] at hN;simp only [frzL,BD,h1 N (by omega),Option.bind_some,h2 N (by omega)];rfl
    ·rcases List.mem_append.1 hp with hp | hp
     ·exact hu p hp
     ·exact hus p hp
theorem OX:∀d,Aso (β:=β) (310 * d) (Fh d)
 | 0=>fun v h lg e k r hh=>.inl hh
 | d+1=>by
  intro v h lg e k r hh;have ihd:Aso (β:=β) (310 * d) (Fh d):=OX d;have one:∀{w:FV},(∀N,C6 (N+1) v=.ret (w,[]))->k w [] lg=some r->e=some r\/∃x u lg',(∀N,310 * (d+1)<=N->(C6 N v).runLog h lg=some ((x,u),lg'))/\(∀p∈u,∃s,p.1=Ref.own s)/\k x u lg'=some r:=by
   intro w hw hk;refine .inr ⟨w,[],lg,fun N hN=>?_,fun p hp=>(by cases hp),hk⟩;cases N with
   | zero=>omega
   | succ N=>rw [hw];rfl
  have own:∀{q:Ref} {e:Option β} {k:Nat->Option β},YN q e k=some r->e=some r\/∃s,q=.own s/\k s=some r:=by
   intro q e k h;cases q with
   | own s=>exact .inr ⟨s,rfl,h⟩
   | ext j=>exact .inl h
  have cnd2:∀{c:Bool} {a e:Option β},cond c a e=some r->e=some r\/(c=true/\a=some r):=by
   intro c a e h;cases c with
   | true=>exact .inr ⟨rfl,h⟩
   | false=>exact .inl h
  cases v with
  | fv w=>exact one (fun _=>rfl) hh
  | nils=>exact one (fun _=>rfl) hh
  | emp=>exact one (fun _=>rfl) hh
  | clip es=>exact one (fun _=>rfl) hh
  | app q es=>exact one (fun _=>rfl) hh
  | dead=>exact .inl hh
  | tuple vs=>exact .inl hh
  | mapr q=>exact .inl hh
  | ptr q off =>
   have hh:(YN q e fun s=>Dk (.own s) h fun b=>Ek b fun cells=>cond (Nat.ble cells.length 300) (Dl (Fh d) cells h (.own s::lg) e fun cs u lg=>k (.fp cs off) ((.own s,.row cells true)::u) lg) e)=some r:=hh;rcases own hh with h1 | ⟨s,rfl,g'⟩
   ·exact .inl h1
   ·replace hh:=g';clear g';rw [EX] at hh;obtain ⟨b,hb,hh⟩:=Bz hh;obtain ⟨cells,ro,hbb,hh⟩:=Hl hh;rcases cnd2 hh with h1 | ⟨hl,hh⟩
    ·exact .inl h1
    ·have hl:=Bt hl;rcases I4 ihd cells _ _ _ _ _ hh with h1 | ⟨xs,us,lg2,h2,hus,hh⟩
     ·exact .inl h1
     ·refine .inr ⟨_,_,_,fun N hN=>?_,fun p hp=>?_,hh⟩
      ·cases N with
       | zero=>omega
       | succ N =>
        simp only [C6,Rd.runLog,hb,hbb,BD,h2 N (by omega),Option.bind_some]
      ·rcases List.mem_cons.1 hp with rfl | hp
       ·exact ⟨s,rfl⟩
       ·exact hus p hp
  | slc q sz len =>
   have hh:(YN q e fun s=>Dk (.own s) h fun b=>Ek b fun cells=>cond (Nat.ble cells.length 300) (cond (or (Nat.beq sz 0) (not (Nat.ble (len * sz) cells.length))) none
    (Dl (Fh d) cells h (.own s::lg) e fun cs u lg=>chK sz len cs fun els=>k (.sl els) ((.own s,.row cells true)::u) lg)) e)=some r:=hh
   rcases own hh with h1 | ⟨s,rfl,g'⟩
   ·exact .inl h1
   ·replace hh:=g';clear g';rw [EX] at hh;obtain ⟨b,hb,hh⟩:=Bz hh;obtain ⟨cells,ro,hbb,hh⟩:=Hl hh;rcases cnd2 hh with h1 | ⟨hl,hh⟩
    ·exact .inl h1
    ·have hl:=Bt hl;cases hc:(or (Nat.beq sz 0) (not (Nat.ble (len * sz) cells.length))) with
     | true=>rw [hc] at hh;cases hh
     | false =>
      rw [hc] at hh;simp only [cond] at hh;have hc:(Nat.beq sz 0 || !Nat.ble (len * sz) cells.length)=false:=hc;simp only [Bool.or_eq_false_iff,Bool.not_eq_false'] at hc;have c1:sz≠0:=fun e=>by rw [e] at hc;exact absurd hc.1 (by decide)
      have c2:=Bt hc.2;rcases I4 ihd cells _ _ _ _ _ hh with h1 | ⟨xs,us,lg2,h2,hus,hh⟩
      ·exact .inl h1
      ·have hh:=Am0 sz len _ hh;refine .inr ⟨_,_,_,fun N hN=>?_,fun p hp=>?_,hh⟩
       ·cases N with
        | zero=>omega
        | succ N =>
         simp only [C6,Rd.runLog,hb,hbb];rw [if_neg (by omega)];simp only [BD,h2 N (by omega),Option.bind_some,Rd.runLog]
       ·rcases List.mem_cons.1 hp with rfl | hp
        ·exact ⟨s,rfl⟩
        ·exact hus p hp
  | agg cs =>
   have hh:cond (Nat.ble cs.length 300) (Dl (Fh d) cs h lg e fun cs u lg=>k (.agg cs) u lg) e=some r:=hh;rcases cnd2 hh with h1 | ⟨hl,hh⟩
   ·exact .inl h1
   ·have hl:=Bt hl;rcases I4 ihd cs _ _ _ _ _ hh with h1 | ⟨xs,us,lg2,h2,hus,hh⟩
    ·exact .inl h1
    ·refine .inr ⟨_,_,_,fun N hN=>?_,hus,hh⟩;cases N with
     | zero=>omega
     | succ N=>simp only [C6,BD,h2 N (by omega),Option.bind_some,Rd.runLog]
  | func fn a b =>
   have hh:cond (and (Nat.ble a.length 300) (Nat.ble b.length 300)) (Dl (Fh d) a h lg e fun x u lg=>Dl (Fh d) b h lg e fun y v lg=>QE u v fun w=>k (.func fn x y) w lg) e=some r:=hh;rcases cnd2 hh with h1 | ⟨hl,hh⟩
   ·exact .inl h1
   ·have hl:(Nat.ble a.length 300 && Nat.ble b.length 300)=true:=hl;simp only [Bool.and_eq_true] at hl;have l1:=Bt hl.1;have l2:=Bt hl.2;rcases I4 ihd a _ _ _ _ _ hh with h1 | ⟨xs,us,lg2,h2,hus,hh⟩
    ·exact .inl h1
    ·rcases I4 ihd b _ _ _ _ _ hh with h1 | ⟨ys,vs,lg3,h3,hvs,hh⟩
     ·exact .inl h1
     ·rw [Ye] at hh;refine .inr ⟨_,_,_,fun N hN=>?_,fun p hp=>?_,hh⟩
      ·cases N with
       | zero=>omega
       | succ N=>simp only [C6,BD,h2 N (by omega),h3 N (by omega),Option.bind_some,Rd.runLog]
      ·rcases List.mem_append.1 hp with hp | hp
       ·exact hus p hp
       ·exact hvs p hp
def Mj (m:Nat) (l:List Ref):Prop:=∀r∈l,∃j,r=.ext j/\j<m
theorem YO:∀(args:List IV) (keep:List Bool) h lg e k r,W5 (β:=β) args keep h lg e k=some r ->
  e=some r\/∃vs rs us lg',(Bs keep args).runLog h lg=some ((vs,rs,us),lg')/\(∀p∈us,∃s,p.1=Ref.own s)/\(IV.refs.refsL vs=rs)/\k vs rs us lg'=some r
 | [],keep,h,lg,e,k,r,hh=>.inr ⟨[],[],[],lg,by cases keep<;>rfl,fun p hp=>(by cases hp),rfl,hh⟩
 | x::l,keep,h,lg,e,k,r,hh=>by
  have fz:∀ks,(Fh 12 x h lg e fun y u lg=>W5 l ks h lg e fun vs rs us lg=>QE u us fun w=>k (.fv y::vs) rs w lg)=some r ->
    e=some r\/∃vs rs us lg',((C6 4096 x).bind fun (x,u)=>(Bs ks l).bind fun (vs,rs,u')=>Rd.ret (IV.fv x::vs,rs,u++u')).runLog h lg=some ((vs,rs,us),lg')/\(∀p∈us,∃s,p.1=Ref.own s)/\(IV.refs.refsL vs=rs)/\k vs rs us lg'=some r:=by
   intro ks hh;rcases OX 12 _ _ _ _ _ _ hh with h1 | ⟨y,u,lg1,h1,hu,hh⟩
   ·exact .inl h1
   ·rcases YO l ks _ _ _ _ _ hh with h2 | ⟨vs,rs,us,lg2,h2,hus,hrs,hh⟩
    ·exact .inl h2
    ·rw [Ye] at hh;refine .inr ⟨_,_,_,_,?_,fun p hp=>?_,?_,hh⟩
     ·simp only [BD,h1 4096 (by decide),Option.bind_some,h2,Rd.runLog]
     ·rcases List.mem_append.1 hp with hp | hp
      ·exact hu p hp
      ·exact hus p hp
     ·simp only [IV.refs.refsL,IV.refs,List.nil_append,hrs]
  cases keep with
  | nil=>exact fz [] hh
  | cons b ks =>
   cases b with
   | false=>exact fz ks hh
   | true =>
    have hh:(Fc x (fun q o=>W5 l ks h lg e fun vs rs us lg=>k (.ptr q o::vs) (q::rs) us lg) fun _ _=>e)=some r:=hh;rcases DE hh with ⟨q,o,hx,hh⟩ | ⟨cs,o,_,hh⟩
    ·rcases YO l ks _ _ _ _ _ hh with h2 | ⟨vs,rs,us,lg2,h2,hus,hrs,hh⟩
     ·exact .inl h2
     ·refine .inr ⟨_,_,_,_,?_,hus,?_,hh⟩
      ·simp only [Bs,BD,h2,Option.bind_some,Rd.runLog,hx,IV.refs];rfl
      ·simp only [IV.refs.refsL,IV.refs,hrs];rfl
    ·exact .inl hh
mutual
theorem W3:∀(v:IV) (acc:List Ref),Wu v acc=v.refs++acc
 | .dead,_=>rfl
 | .fv _,_=>rfl
 | .ptr _ _,_=>rfl
 | .slc _ _ _,_=>rfl
 | .nils,_=>rfl
 | .emp,_=>rfl
 | .clip _,_=>rfl
 | .app _ _,_=>rfl
 | .mapr _,_=>rfl
 | .func _ a b,acc=>by
  show CF a (CF b acc)=(IV.refs.refsL a++IV.refs.refsL b)++acc
  rw [refsDL_eq,refsDL_eq,List.append_assoc]
 | .agg cs,acc=>refsDL_eq cs acc
 | .tuple cs,acc=>refsDL_eq cs acc
theorem refsDL_eq:∀(l:List IV) (acc:List Ref),CF l acc=IV.refs.refsL l++acc
 | [],_=>rfl
 | v::l,acc=>by
  show Wu v (CF l acc)=(v.refs++IV.refs.refsL l)++acc
  rw [W3,refsDL_eq,List.append_assoc]
end
theorem LI (b:Blk):Fm b=b.refs:=by
 cases b with
 | row cells ro =>
  show CF cells []=_
  rw [refsDL_eq,List.append_nil];rfl
 | tok _ _=>rfl
 | map es =>
  show _=IV.refs.refsL (es.map (·.2))
  induction es with
  | nil=>rfl
  | cons p es ih =>
   obtain ⟨n,v⟩:=p
   show Wu v (Fm (.map es))=v.refs++_
   rw [W3];congr 1
mutual
theorem Aus {g:Ref->Option Ref}:∀(v:IV),(∀r∈v.refs,g r=some r)->v.ren g=some v
 | .dead,_=>rfl
 | .fv _,_=>rfl
 | .nils,_=>rfl
 | .emp,_=>rfl
 | .clip _,_=>rfl
 | .ptr r o,h=>by simp only [IV.ren,h r (by simp [IV.refs]),AB8]
 | .slc r sz n,h=>by simp only [IV.ren,h r (by simp [IV.refs]),AB8]
 | .app r es,h=>by simp only [IV.ren,h r (by simp [IV.refs]),AB8]
 | .mapr r,h=>by simp only [IV.ren,h r (by simp [IV.refs]),AB8]
 | .func fn a b,h=>by
  have h1:=renL_id (g:=g) a (fun r hr=>h r (by simp only [IV.refs,List.mem_append];exact .inl hr));have h2:=renL_id (g:=g) b (fun r hr=>h r (by simp only [IV.refs,List.mem_append];exact .inr hr));simp only [IV.ren,h1,h2,Option.bind_some,AB8]
 | .agg cs,h=>by
  have h1:=renL_id (g:=g) cs h;simp only [IV.ren,h1,AB8]
 | .tuple cs,h=>by
  have h1:=renL_id (g:=g) cs h;simp only [IV.ren,h1,AB8]
theorem renL_id {g:Ref->Option Ref}:∀(l:List IV),(∀r∈IV.refs.refsL l,g r=some r)->IV.ren.renL g l=some l
 | [],_=>rfl
 | v::l,h=>by
  have h1:=Aus (g:=g) v (fun r hr=>h r (by simp only [IV.refs.refsL,List.mem_append];exact .inl hr));have h2:=renL_id (g:=g) l (fun r hr=>h r (by simp only [IV.refs.refsL,List.mem_append];exact .inr hr));simp only [IV.ren.renL,h1,h2,Option.bind_some,AB8]
end
theorem Akg {α γ:Type}:∀(l:List (α×γ)),(l.map (·.1)).zip (l.map (·.2))=l
 | []=>rfl
 | p::l=>by simp only [ACb,List.zip_cons_cons,Akg l]
theorem AsD {g:Ref->Option Ref} (b:Blk) (h:∀r∈b.refs,g r=some r):b.ren g=some b:=by
 cases b with
 | row cells ro=>simp only [Blk.ren,renL_id cells h,AB8]
 | tok _ _=>rfl
 | map es =>
  have e:=renL_id (g:=g) (es.map (fun p:Int×IV=>p.2)) h;simp only [Blk.ren,e,AB8,Akg]
theorem UA {g:Ref->Option Ref}:∀(l:List Blk),(∀b∈l,∀r∈b.refs,g r=some r)->A8 g l=some l
 | [],_=>rfl
 | b::l,h=>by
  simp only [A8,AsD b (h b List.mem_cons_self),Option.bind_some,UA l (fun c hc=>h c (List.mem_cons_of_mem _ hc)),AB8]
def BY:Nat->List Blk->List (Ref×Blk)
 | _,[]=>[]
 | s,b::l=>(.ext s,b)::BY (s+1) l
theorem Q3:∀(s:Nat) (l:List Blk) (b:Blk),BY s (l++[b])=BY s l++[(.ext (s+l.length),b)]
 | s,[],b=>rfl
 | s,c::l,b=>by
  simp only [List.cons_append,BY,Q3 (s+1) l b,AB9];rw [show s+1+l.length=s+(l.length+1) by omega]
theorem Rb:∀(s:Nat) (l:List Blk),(BY s l).map (·.2)=l
 | _,[]=>rfl
 | s,b::l=>by simp only [BY,ACb,Rb (s+1) l]
theorem Mn:∀(s:Nat) (l:List Blk),(BY s l).length=l.length
 | _,[]=>rfl
 | s,b::l=>by simp only [BY,AB9,Mn (s+1) l]
theorem Md:∀(s j:Nat) (l:List Blk),s<=j->hasRef (.ext j) (BY s l)=decide (j<s+l.length)
 | s,j,[],h=>by simp only [BY,hasRef,List.length_nil];rw [decide_eq_false (by omega)]
 | s,j,b::l,h=>by
  simp only [BY,hasRef,AB9];by_cases e:j=s
  ·subst e;simp
  ·rw [Md (s+1) j l (by omega),decide_eq_false (by simp [e]),Bool.false_or];congr 1;exact propext ⟨fun h=>by omega,fun h=>by omega⟩
theorem RC:∀(s k:Nat) (l:List Blk),hasRef (.own k) (BY s l)=false
 | _,_,[]=>rfl
 | s,k,b::l=>by simp only [BY,hasRef,RC (s+1) k l,Bool.or_false];exact decide_eq_false (by simp)
theorem M4:∀(s j i:Nat) (l:List Blk),s<=j->j<s+l.length->Cn (.ext j) (BY s l) i=some (i+(j - s))
 | s,j,i,[],h1,h2=>by simp at h2;omega
 | s,j,i,b::l,h1,h2=>by
  simp only [AB9] at h2;simp only [BY,Cn];by_cases e:j=s
  ·subst e;simp
  ·rw [if_neg (by simp [e]),M4 (s+1) j (i+1) l (by omega) (by omega)];congr 1;omega
theorem Q5:∀(s j:Nat) (l:List Blk),j<l.length->((BY s l)[j]?).map (·.1)=some (.ext (s+j))
 | s,j,[],h=>by simp at h
 | s,0,b::l,h=>rfl
 | s,j+1,b::l,h=>by
  simp only [AB9] at h;simp only [BY,List.getElem?_cons_succ];rw [Q5 (s+1) j l (by omega)];congr 2;omega
theorem Xy (s:Nat):∀(l:List Blk),Bx (BY s l)=(List.range' s l.length).map .ext:=by
 intro l
 induction l generalizing s with
 | nil=>rfl
 | cons b l ih=>simp only [BY,Bx,ACb,AB9,List.range'_succ];exact congrArg _ (ih (s+1))
theorem ArA {own:List (Nat×Blk)} {ext:List Blk}:∀(n:Nat) (todo:List Ref) (s:Nat) (rest:List Blk),s<=ext.length->ext.drop s=rest->Qz n todo s rest=true ->
  (∀N,n<=N->∀lg,(Cb N todo (BY 0 (ext.take s))).runLog ⟨own,ext⟩ lg=some (BY 0 ext,((List.range' s (ext.length - s)).map Ref.ext).reverse++lg)) /\
  Mj ext.length todo/\(∀b∈rest,Mj ext.length b.refs):=by
 intro n
 induction n with
 | zero=>intro todo s rest _ _ h;cases h
 | succ n ih =>
  intro todo s rest hs hd h;cases todo with
  | nil =>
   cases rest with
   | cons _ _=>cases h
   | nil =>
    have he:s=ext.length:=by
     have:=congrArg List.length hd
     simp at this;omega
    refine ⟨fun N hN lg=>?_,fun r hr=>(by cases hr),fun b hb=>(by cases hb)⟩;cases N with
    | zero=>omega
    | succ N =>
     subst he;simp only [Cb,Rd.runLog,List.take_length,Nat.sub_self,List.range'_zero,ACa,List.reverse_nil,List.nil_append]
  | cons r t =>
   cases r with
   | own k=>cases h
   | ext j =>
    have h:cond (Nat.ble (Nat.succ j) s) (Qz n t s rest) (cond (Nat.beq j s) (goR (Qz n) t s rest) false)=true:=h;have hl:(ext.take s).length=s:=by simp;omega
    cases hj:Nat.ble (Nat.succ j) s with
    | true =>
     rw [hj] at h;have hj:=Bt hj;obtain ⟨h1,h2,h3⟩:=ih t s rest hs hd h;refine ⟨fun N hN lg=>?_,fun r hr=>?_,h3⟩
     ·cases N with
      | zero=>omega
      | succ N =>
       simp only [Cb];rw [Md 0 j _ (Nat.zero_le _),hl,decide_eq_true (by omega),if_pos rfl];exact h1 N (by omega) lg
     ·rcases List.mem_cons.1 hr with rfl | hr
      ·exact ⟨j,rfl,by omega⟩
      ·exact h2 r hr
    | false =>
     rw [hj] at h;simp only [cond] at h;have hj':¬ j<s:=fun e=>by rw [Nat.ble_eq_true_of_le (Nat.succ_le_of_lt e)] at hj;cases hj
     cases hb:Nat.beq j s with
     | false=>rw [hb] at h;cases h
     | true =>
      rw [hb] at h;have hb:=Dm hb;subst hb;simp only at h;cases rest with
      | nil=>cases h
      | cons b rest =>
       have h:Qz n (t++Fm b) (Nat.succ j) rest=true:=h;have hjl:j<ext.length:=by
        have:=congrArg List.length hd
        simp at this;omega
       have hgb:ext[j]?=some b:=by
        rw [<- List.head?_drop,hd];rfl
       have hd':ext.drop (j+1)=rest:=by rw [<- List.tail_drop,hd];rfl
       obtain ⟨h1,h2,h3⟩:=ih (t++Fm b) (j+1) rest (by omega) hd' h;rw [LI] at h1 h2;refine ⟨fun N hN lg=>?_,fun r hr=>?_,fun c hc=>?_⟩
       ·cases N with
        | zero=>omega
        | succ N =>
         simp only [Cb];rw [Md 0 j _ (Nat.zero_le _),hl,decide_eq_false (by omega)];simp only [Bool.false_eq_true,if_false,Rd.runLog,Hp.get,hgb];have ht:BY 0 (ext.take j)++[(.ext j,b)]=BY 0 (ext.take (j+1)):=by
          have:ext.take (j+1)=ext.take j++[b]:=by
           rw [List.take_add_one,hgb];rfl
          rw [this,Q3,hl,Nat.zero_add]
         rw [ht,h1 N (by omega) (.ext j::lg)];rw [show ext.length - j=(ext.length - (j+1))+1 by omega,List.range'_succ]
         simp
       ·rcases List.mem_cons.1 hr with rfl | hr
        ·exact ⟨j,rfl,hjl⟩
        ·exact h2 r (List.mem_append_left _ hr)
       ·rcases List.mem_cons.1 hc with rfl | hc
        ·exact fun r hr=>h2 r (List.mem_append_right _ hr)
        ·exact h3 c hc
theorem AlV {m:Nat}:∀(l:List Ref),okR m l=true->Mj m l
 | [],_=>fun r hr=>by cases hr
 | .own k::l,h=>by cases h
 | .ext j::l,h=>by
  have h:cond (Nat.ble (Nat.succ j) m) (okR m l) false=true:=h;cases hj:Nat.ble (Nat.succ j) m with
  | false=>rw [hj] at h;cases h
  | true =>
   rw [hj] at h;have hj:=Bt hj;intro r hr;rcases List.mem_cons.1 hr with rfl | hr
   ·exact ⟨j,rfl,by omega⟩
   ·exact AlV l h r hr
theorem AjU {m:Nat}:∀(l:List Blk),okB m l=true->∀b∈l,Mj m b.refs
 | [],_=>fun b hb=>by cases hb
 | b::l,h=>by
  have h:cond (okR m (Fm b)) (okB m l) false=true:=h;cases hb:okR m (Fm b) with
  | false=>rw [hb] at h;cases h
  | true =>
   rw [hb] at h;rw [LI] at hb;intro c hc;rcases List.mem_cons.1 hc with rfl | hc
   ·exact AlV _ hb
   ·exact AjU l h c hc
theorem SX:∀(u:List (Ref×Blk)) (own:List (Nat×Blk)) (ext ext':List Blk) {k:Hp->Option β} {r:β},Mt u ⟨own,ext'⟩ k=some r ->
  ∃own2,laid ⟨own,ext⟩ u=some ⟨own2,ext⟩/\laid ⟨own,ext'⟩ u=some ⟨own2,ext'⟩/\k ⟨own2,ext'⟩=some r
 | [],own,ext,ext',k,r,h=>⟨own,rfl,rfl,h⟩
 | (q,b)::u,own,ext,ext',k,r,h=>by
  have h:(YN q none fun s=>Dk (.own s) ⟨own,ext'⟩ fun _=>Gi (.own s) b ⟨own,ext'⟩ fun h=>Mt u h k)=some r:=h;cases q with
  | ext j=>cases h
  | own s =>
   have h:(Dk (.own s) ⟨own,ext'⟩ fun _=>Gi (.own s) b ⟨own,ext'⟩ fun h=>Mt u h k)=some r:=h;rw [EX] at h;obtain ⟨c,hc,h⟩:=Bz h;rw [KE] at h;obtain ⟨own2,h1,h2,h3⟩:=SX u (AP s b own) ext ext' h;refine ⟨own2,?_,?_,h3⟩
   ·simp only [laid];rw [show (Hp.mk own ext).get (.own s)=some c from hc]
    exact h1
   ·simp only [laid];rw [hc];exact h2
theorem O0:∀(ext' pre ext:List Blk) (own:List (Nat×Blk)),ext.length=ext'.length->laid ⟨own,pre++ext⟩ (((List.range' pre.length ext'.length).map Ref.ext).zip ext')=some ⟨own,pre++ext'⟩
 | [],pre,ext,own,h=>by
  cases ext with
  | nil=>rfl
  | cons _ _=>cases h
 | b::ext',pre,ext,own,h=>by
  cases ext with
  | nil=>cases h
  | cons c ext =>
   simp only [AB9,Nat.add_right_cancel_iff] at h;simp only [AB9,List.range'_succ,ACb,List.zip_cons_cons,laid,Hp.get];rw [List.getElem?_append_right (Nat.le_refl _),Nat.sub_self];simp only [List.getElem?_cons_zero,Hp.set];have e:(pre++c::ext).set pre.length b=(pre++[b])++ext:=by
    rw [List.set_append_right _ _ (Nat.le_refl _),Nat.sub_self];simp
   rw [e]
   have:=O0 ext' (pre++[b]) ext own h
   simp only [List.length_append,List.length_singleton] at this;rw [this];simp
theorem Wh:∀(a b:List (Ref×Blk)) (h:Hp),laid h (a++b)=(laid h a).bind fun h=>laid h b
 | [],_,_=>rfl
 | (q,c)::a,b,h=>by
  simp only [List.cons_append,laid];cases h.get q with
  | none=>rfl
  | some _=>exact Wh a b _
theorem Ad1 (hi:∀f args h x,ih' f args h=some x->ih f args h=some x) {g:FuncId} {args:List IV} (h:A4 (E.pol.keep g) (E.pol.split g) (E.pol.raw g) ih' g args hp k=some r):Iso E ih g args hp k r:=by
 unfold A4 at h;cases hc:(cond (E.pol.split g) true (E.pol.raw g)) with
 | true=>rw [hc] at h;exact LF hi h
 | false =>
  rw [hc] at h;simp only [cond] at h;have hs:E.pol.split g=false:=by cases e:E.pol.split g with | false=>rfl | true=>rw [e] at hc;cases hc
  rw [hs] at hc;have hr:E.pol.raw g=false:=hc;rcases YO _ _ _ _ _ _ _ h with h1 | ⟨vs,rs,us,lg,hz,hus,hrs,h⟩
  ·exact LF hi h1
  ·cases rs with
   | nil =>
    simp only at h;cases he:ih' g vs ⟨[],[]⟩ with
    | none=>rw [he] at h;cases h
    | some p =>
     obtain ⟨v,⟨own,ext⟩⟩:=p;rw [he] at h;cases ext with
     | cons b ext=>exact absurd (show (none:Option β)=some r from h) (by simp)
     | nil =>
      have h:(Fh 12 v ⟨own,[]⟩ [] (Fx (E.pol.keep g) (E.pol.split g) (E.pol.raw g) ih' g args hp k) fun w _ _=>Mt us hp fun h2=>k (.fv w) h2 lg (Bx us))=some r:=h;rcases OX 12 _ _ _ _ _ _ h with h1 | ⟨w,u2,lg2,h2,_,h⟩
      ·exact LF hi h1
      ·obtain ⟨own0,ext0⟩:=hp;obtain ⟨own2,l1,l2,h⟩:=SX us own0 ext0 ext0 h;refine ⟨{ val:=.fv w,upd:=us },lg,⟨own2,ext0⟩,?_,l1,h⟩;have hw:=F5 _ _ _ _ _ (h2 4096 (by decide));have hren:∀q,IV.ren.renL q vs=some vs:=fun q=>renL_id vs (fun r hr=>by rw [hrs] at hr;cases hr);simp only [Hv,BD,hz,Option.bind_some,Cb,Rd.runLog,hren,ACa,A8,asked,hs,Bool.false_eq_true,if_false,hi _ _ _ _ he,H1,hr,hw,AB8,IV.ren,Rd.of];have hk:(Bx us).all (fun r=>!hasRef r [])=true:=List.all_eq_true.2 fun r _=>rfl;rw [if_pos ⟨rfl,hk⟩];simp only [Rd.runLog,Bx,ACa,List.zip_nil_left,List.append_nil]
   | cons q rs =>
    obtain ⟨own0,ext0⟩:=hp;simp only at h;cases hg:Qz 400 (q::rs) 0 ext0 with
    | false=>rw [hg] at h;exact LF hi h
    | true =>
     rw [hg] at h;simp only at h;obtain ⟨g1,g2,g3⟩:=ArA (own:=own0) 400 (q::rs) 0 ext0 (Nat.zero_le _) rfl hg;cases he:ih' g vs ⟨[],ext0⟩ with
     | none=>rw [he] at h;cases h
     | some p =>
      obtain ⟨v,⟨own,ext⟩⟩:=p;rw [he] at h;simp only at h;obtain ⟨ho,h⟩:=DU h;have ho:(Nat.beq ext.length ext0.length && okB ext0.length ext)=true:=ho;simp only [Bool.and_eq_true] at ho;have hlen:=Dm ho.1;have hok:=AjU _ ho.2;rcases OX 12 _ _ _ _ _ _ h with h1 | ⟨w,u2,lg2,h2,_,h⟩
      ·exact LF hi h1
      ·obtain ⟨own2,l1,l2,h⟩:=SX us own0 ext0 ext h;have hw:=F5 _ _ _ _ _ (h2 4096 (by decide));have hin:∀l,Mj ext0.length l->∀r∈l,DK (BY 0 ext0) r=some r:=by
        intro l hl r hr;obtain ⟨j,rfl,hj⟩:=hl r hr;simp only [DK];rw [M4 0 j 0 ext0 (Nat.zero_le _) (by omega)];simp
       have hbk:∀l,Mj ext0.length l->∀r∈l,Cv (BY 0 ext0) r=some r:=by
        intro l hl r hr;obtain ⟨j,rfl,hj⟩:=hl r hr;simp only [Cv];rw [Q5 0 j ext0 hj,Nat.zero_add]
       have hv:IV.ren.renL (DK (BY 0 ext0)) vs=some vs:=renL_id vs (fun r hr=>hin _ g2 r (by rw [hrs] at hr;exact hr));have hb1:A8 (DK (BY 0 ext0)) ext0=some ext0:=UA ext0 (fun b hb r hr=>hin _ (g3 b hb) r hr);have hb2:A8 (Cv (BY 0 ext0)) ext=some ext:=UA ext (fun b hb r hr=>hbk _ (hok b hb) r hr);have hkeys:Bx (BY 0 ext0)=CU ext0.length:=by rw [Xy,CU,List.range_eq_range']
       refine ⟨{ val:=.fv w,upd:=us++(Bx (BY 0 ext0)).zip ext },(CU ext0.length).reverse++lg,⟨own2,ext⟩,?_,?_,?_⟩
       ·have hga:=g1 4096 (by decide) lg;simp only [List.take_zero,BY,Nat.sub_zero] at hga;simp only [Hv,BD,hz,Option.bind_some,hga,Rb,hv,hb1,asked,hs,Bool.false_eq_true,if_false,hi _ _ _ _ he,H1,hr,hw,AB8,IV.ren,hb2];have hk:(Bx us).all (fun r=>!hasRef r (BY 0 ext0))=true:=List.all_eq_true.2 fun r hr=>by
         obtain ⟨p,hp,rfl⟩:=List.mem_map.1 hr;obtain ⟨s,e⟩:=hus p hp;rw [e,RC];rfl
        rw [if_pos ⟨by rw [Mn,hlen],hk⟩];simp only [Rd.of,Rd.runLog,CU,List.range_eq_range']
       ·simp only;rw [Wh,l1,Option.bind_some,hkeys,CU,List.range_eq_range',<- hlen];exact O0 ext [] ext0 own2 hlen.symm
       ·have hz2:Bx (us++(Bx (BY 0 ext0)).zip ext)=Bx us++CU ext0.length:=by
         simp only [Bx,List.map_append];congr 1;rw [<- hkeys];exact List.map_fst_zip (by simp only [Bx,List.length_map,Mn];omega)
        simp only [hz2];exact h
def Amz (E:Env) (ih:Al) (f rid i:Nat) (dr:Bool) (slots:List IV) (op:Op) (hp:Hp) (k:KT β) (r:β):Prop :=
 (EJ E slots op=none/\He E ih f rid i (AE slots) op hp k r) \/
 (dr=false/\FX E op=false/\∃g args v hp',EJ E slots op=some (g,args)/\ih g args hp=some (v,hp')/\k v hp' [] []=some r)
theorem WT {g:Operand} {args:Array Operand} {ts:Array TypeId} {h':FuncId} {first cap:List IV} {slots:List IV} (hc:callee (AE slots g)=some (h',first,cap)) (hin:E.pol.inl h'=false)
  (h:Iso E ih h' (first++args.toList.map (AE slots)++cap) hp k r):Amz E ih f rid i dr slots (.call ⟨.value g,args,ts⟩) hp k r:=by
 obtain ⟨e,rd,hp',h1,h2,h3⟩:=h;refine .inl ⟨?_,e.val,hp',rd,Bx e.upd,⟨{ eff:=e },?_,?_,rfl,?_⟩,h3,fun q=>by cases q⟩
 ·simp only [EJ,hc,hin,Bool.false_eq_true,if_false]
 ·simp only [CZ,hc,hin,Bool.false_eq_true,if_false,Rd.eff,BD,h1,Option.bind_some,Rd.runLog]
 ·simp only [AR,h2,Option.bind_some,CG]
 ·simp only [IJ,List.append_nil]
theorem Aro (hi:∀f args h x,ih' f args h=some x->ih f args h=some x) {slots:List IV} {c:Call} (h:JG E ih' f rid i dr (AE slots) (.call c) hp k=some r):Amz E ih f rid i dr slots (.call c) hp k r:=by
 obtain ⟨cl,args,ts⟩:=c;simp only [JG,BP] at h;cases cl with
 | invoke _ _=>cases h
 | builtin b =>
  refine .inl ⟨rfl,?_⟩;simp only [Xq,BP] at h;split at h
  ·rename_i t x hts has;split at h
   ·rename_i e z ht;unfold Ci at h;have hop:CZ E ih f rid i (AE slots) (.call ⟨.builtin .len,args,ts⟩)=AT E (Bp f rid i) (E.pol.rowApp f rid i) .len [t] [AE slots x]:=by
     simp only [CZ,hts,has];rfl
    rcases VO h with ⟨q,sz,n,hx,h⟩ | ⟨hx,h⟩
    ·rw [Dt] at h;exact A5 (by rw [hop];simp only [AT,ht,hx]) h
    ·rw [Agm] at h;obtain ⟨es,he,h⟩:=Bz h;rw [Dt] at h;refine A5 (v:=.fv (.int .i64 es.length)) ?_ h;rw [hop];simp only [AT,ht];cases hxx:AE slots x with
     | slc q sz n=>exact absurd hxx (hx q sz n)
     | _=>rw [hxx] at he;simp only [he];rfl
   ·rename_i hn;refine BX ?_ rfl h;simp only [FX,hts,has]
  ·rename_i b0 b1 ts1 args1 hn;refine BX ?_ rfl h;cases b0 with
   | len =>
    simp only [FX];split
    ·rename_i hts has;exact absurd has (hn _ _ rfl hts)
    ·rfl
   | _=>rfl
 | value g =>
  simp only [Xq,BP] at h;split at h
  ·rename_i g;have hc:callee (AE slots (.func g))=some (g,[],[]):=rfl;cases hin:E.pol.inl g with
   | true =>
    rw [hin] at h;cases dr with
    | true=>cases h
    | false =>
     simp only [cond,AlE] at h;cases he:ih' g (args.toList.map (AE slots)) hp with
     | none=>rw [he] at h;cases h
     | some p =>
      obtain ⟨v,hp'⟩:=p;rw [he] at h;refine .inr ⟨rfl,rfl,g,args.toList.map (AE slots),v,hp',?_,hi _ _ _ _ he,h⟩;simp only [EJ,hc,hin,if_true,List.nil_append,List.append_nil]
   | false =>
    rw [hin] at h;refine WT hc hin ?_;simp only [List.nil_append,List.append_nil];exact Ad1 hi h
  ·unfold FW at h;split at h
   ·cases h
   ·rename_i h' first cap hc
    cases hin:E.pol.inl h' with
    | true=>rw [hin] at h;cases h
    | false =>
     rw [hin] at h;simp only [cond,Ie] at h;exact WT hc hin (Ad1 hi h)
theorem AuL (hi:∀f args h x,ih' f args h=some x->ih f args h=some x) {slots:List IV} {op:Op} (h:JG E ih' f rid i dr (AE slots) op hp k=some r):Amz E ih f rid i dr slots op hp k r:=by
 cases op with
 | call c=>exact Aro hi h
 | move x=>exact .inl ⟨rfl,A5 rfl h⟩
 | assign x=>exact .inl ⟨rfl,A5 rfl h⟩
 | pick c a b=>exact .inl ⟨rfl,AtC h⟩
 | alloc t =>
  refine .inl ⟨rfl,?_⟩;simp only [JG,BP] at h;cases ht:E.T t with
  | none=>rw [ht] at h;cases h
  | some ti=>rw [ht] at h;exact Vp rfl (by simp only [CZ,ht]) h
 | box t x=>exact .inl ⟨rfl,Awg h⟩
 | build t ps=>exact .inl ⟨rfl,Ao0 h⟩
 | load t a=>exact .inl ⟨rfl,At4 h⟩
 | store t a x=>exact .inl ⟨rfl,Ap9 h⟩
 | nilCheck x=>exact .inl ⟨rfl,Axu h⟩
 | binOp o t x y yt =>
  refine .inl ⟨rfl,?_⟩;simp only [JG,BP] at h;obtain ⟨v,h1,h2⟩:=Aju h;exact A5 (by simp only [CZ,h1];rfl) h2
 | unOp o t x =>
  refine .inl ⟨rfl,?_⟩;simp only [JG,CL] at h;exact Ra rfl h
 | convert s d x=>exact .inl ⟨rfl,Aix h⟩
 | fieldAddr s x fd=>exact .inl ⟨rfl,Vz h⟩
 | field s x fd=>exact .inl ⟨rfl,An8 h⟩
 | indexAddr t x ix=>exact .inl ⟨rfl,VU h⟩
 | index t x ix=>exact .inl ⟨rfl,Aps h⟩
 | extract x ix=>exact .inl ⟨rfl,Aiu h⟩
 | makeMap t n=>cases n with
  | none=>exact .inl ⟨rfl,BX rfl rfl h⟩
  | some _=>cases h
 | buildSlice t n ps=>exact .inl ⟨rfl,BX rfl rfl h⟩
 | makeFunc fn a b=>exact .inl ⟨rfl,BX rfl rfl h⟩
 | insert t m j x=>exact .inl ⟨rfl,BX rfl rfl h⟩
 | mapUpdate t m j x=>exact .inl ⟨rfl,BX rfl rfl h⟩
 | lookup t m j ok=>exact .inl ⟨rfl,BX rfl rfl h⟩
 | makeSlice t l c=>exact .inl ⟨rfl,BX rfl rfl h⟩
 | slice t x lo hi mx=>exact .inl ⟨rfl,BX rfl rfl h⟩
 | _=>cases h
end
end Idl
end Go.Proofs.Ytkfecngimlcfoaa
namespace Go.Proofs.Ytkfecngimlcfoaa
namespace Idl
section
variable {β:Type}
def BQ (k:Nat) (F:(List IV->Hp->Option β)->List IV->Hp->Option β):List IV->Hp->Option β :=
 Nat.rec (motive:=fun _=>List IV->Hp->Option β) (fun _ _=>none) (fun _ rec=>F rec) k
def M6 (s:Nat) (l:List Nat):Bool:=List.rec (motive:=fun _=>Bool) false (fun x _ ih=>cond (Nat.beq s x) true ih) l
def FR (rm:List Nat) (l:List Ref):Bool:=List.rec (motive:=fun _=>Bool) true (fun r _ ih=>match r with
 | .own s=>cond (M6 s rm) false ih
 | .ext _=>ih) l
def Ib (rm:List Nat) (own:List (Nat×Blk)):Bool:=List.rec (motive:=fun _=>Bool) true (fun p _ ih=>match p with
 | (s,b)=>cond (M6 s rm) ih (cond (FR rm (Fm b)) ih false)) own
def JJ (rm:List Nat) (ext:List Blk):Bool:=List.rec (motive:=fun _=>Bool) true (fun b _ ih=>cond (FR rm (Fm b)) ih false) ext
def AnY (rm:List Nat) (own:List (Nat×Blk)):Bool:=List.rec (motive:=fun _=>Bool) false (fun p _ ih=>match p with
 | (s,_)=>cond (M6 s rm) true ih) own
def Wo (rm:List Nat) (own:List (Nat×Blk)) (k:List (Nat×Blk)->Option β):Option β :=
 List.rec (motive:=fun _=>(List (Nat×Blk)->Option β)->Option β) (fun k=>k []) (fun p _ ih k=>match p with
  | (s,b)=>cond (M6 s rm) (ih k) (ih fun l=>k ((s,b)::l))) own k
def BO (base rm:List Nat) (vals:List IV) (h:Hp) (k:Hp->Option β):Option β :=
 cond (
    rm.any base.contains) none (match h with
  | ⟨own,ext⟩=>cond (AnY rm own)
   (cond (and (FR rm (CF vals [])) (and (Ib rm own) (JJ rm ext))) (Wo rm own fun own=>k ⟨own,ext⟩)
    (match CI base [] rm ⟨vals,⟨own,ext⟩⟩ with
     | none=>none
     | some S=>fH S.hp k)) (k ⟨own,ext⟩))
def Uo (d:Option Nat) (v:IV) (h:Hp) (T:FS):FS:=match d with
 | none=>⟨T.n,T.t,h⟩
 | some d=>cond (Nat.ble T.n d) ⟨T.n,T.t,h⟩ ⟨T.n,T.t.set d v,h⟩
abbrev SlT.setKK {α:Type} (t:SlT):Nat->IV->(SlT->α)->α :=
 SlT.rec (motive:=fun _=>Nat->IV->(SlT->α)->α) (fun j v i x k=>Bool.rec (motive:=fun _=>α) (k (.leaf j v)) (k (.leaf j x)) (Nat.beq i j))
  (fun m l r gl gr i x k=>Bool.rec (motive:=fun _=>α) (gl i x fun l'=>k (.node m l' r)) (gr i x fun r'=>k (.node m l r')) (Nat.ble m i)) t
abbrev Ll (d:Option Nat) (v:IV) (h:Hp) (T:FS) (K:FS->Option β):Option β :=
 FS.rec (motive:=fun _=>Option β) (fun n t _=>Option.rec (motive:=fun _=>Option β) (K ⟨n,t,h⟩) (fun d=>VI (Nat.ble n d) (K ⟨n,t,h⟩) (t.setKK d v fun t=>K ⟨n,t,h⟩)) d) T
abbrev Yl (args:List IV):Nat->FS->(FS->Option β)->Option β :=
 List.rec (motive:=fun _=>Nat->FS->(FS->Option β)->Option β) (fun _ T K=>K T) (fun v _ ih i T K=>Ll (some i) v T.hp T fun T=>ih (Nat.succ i) T K) args
abbrev WO (cs:List Nat):List IV->FS->(FS->Option β)->Option β :=
 List.rec (motive:=fun _=>List IV->FS->(FS->Option β)->Option β) (fun _ T k=>k T) (fun c _ ih vals T k=>AC vals fun v vals=>Ll (some c) v T.hp T fun T=>ih vals T k) cs
def MS (r s:Ref):Bool:=match r with
 | .own i=>(match s with
  | .own j=>not (Nat.beq i j)
  | .ext _=>true)
 | .ext i=>(match s with
  | .own _=>true
  | .ext j=>not (Nat.beq i j))
def L5 (r:Ref) (l:List Ref):Bool:=List.rec (motive:=fun _=>Bool) true (fun s _ ih=>cond (MS r s) ih false) l
def Xa (a b:List Ref):Bool:=List.rec (motive:=fun _=>Bool) true (fun r _ ih=>cond (L5 r b) ih false) a
theorem Aj4 (r s:Ref):MS r s=decide (r≠s):=by
 cases r<;>cases s<;>simp [MS,ID]
theorem WI (r:Ref):∀(l:List Ref),L5 r l=l.all fun s=>decide (r≠s)
 | []=>rfl
 | s::l=>by
  rw [show L5 r (s::l)=cond (MS r s) (L5 r l) false from rfl,Aj4,WI r l,List.all_cons]
  cases decide (r≠s)<;>rfl
theorem AmS:∀(a b:List Ref),Xa a b=O2 a b
 | [],_=>rfl
 | r::a,b=>by
  rw [show Xa (r::a) b=cond (L5 r b) (Xa a b) false from rfl,WI,AmS a b]
  simp only [O2,List.all_cons];cases (b.all fun s=>decide (r≠s))<;>rfl
def Ac (l:List (List Ref×List Ref)) (rd wr:List Ref) (a:Option β):Option β :=
 List.rec (motive:=fun _=>Option β) a (fun q _ ih=>match q with
  | (q1,q2)=>cond (Xa q2 rd) (cond (Xa q2 wr) (cond (Xa wr q1) ih none) none) none) l
def VQ (before:Nat) (done:List (Nat×List Ref×List Ref)):List (List Ref×List Ref) :=
 List.rec (motive:=fun _=>List (List Ref×List Ref)) [] (fun p _ ih=>match p with | (j,q)=>cond (before.testBit j) ih (q::ih)) done
section
variable (E:Env) (ih:Al)
def MT (f rid:Nat) (ops:Array Oper) (i:Nat) (o:Oper) (dr:Bool) (T:FS) (K:FS->List Ref->List Ref->Option β):Option β :=
 match o.guard with
 | none=>JG E ih f rid i dr (H9 T) o.op T.hp fun v h rd wr=>Ll o.dst v h T fun T=>K T rd wr
 | some (j,want)=>match (ops[j]?).bind (·.dst) with
  | none=>none
  | some d=>VI (Nat.ble T.n d) none
   (Aa (T.get d) want T.hp (fun k=>JG E ih f rid i dr (H9 T) o.op T.hp k) fun v h rd wr=>Ll o.dst v h T fun T=>K T rd wr)
def AuD (f rid:Nat) (ops:Array Oper) (l:List Oper):Nat->FS->(FS->Option β)->Option β :=
 List.rec (motive:=fun _=>Nat->FS->(FS->Option β)->Option β) (fun _ T K=>K T) (fun o _ rec i T K=>MT E ih f rid ops i o false T fun T _ _=>rec (Nat.succ i) T K) l
def AbR (f rid:Nat) (ops:Array Oper) (before:Array Nat) (l:List Oper):Nat->List (Nat×List Ref×List Ref)->FS->(FS->Option β)->Option β :=
 List.rec (motive:=fun _=>Nat->List (Nat×List Ref×List Ref)->FS->(FS->Option β)->Option β) (fun _ _ T K=>K T)
  (fun o _ rec i done T K=>VI (FX E o.op) (MT E ih f rid ops i o true T fun T _ _=>rec (Nat.succ i) done T K)
   (MT E ih f rid ops i o true T fun T rd wr=>Ac (VQ (before.getD i 0) done) rd wr (rec (Nat.succ i) ((i,rd,wr)::done) T K))) l
def CR (n:Nat) (kills:List Nat):List Nat:=(List.range n).filter fun i=>!kills.contains i
def Rq (base kills rm:List Nat) (T:FS) (k:List IV->Hp->Option β):Option β :=
 match rm with
 | []=>k ((CR T.n kills).map T.get) T.hp
 | r::rm=>BO base (r::rm) ((CR T.n kills).map T.get) T.hp fun h=>k ((CR T.n kills).map T.get) h
def FZ (f n:Nat) (base:List Nat):Code->FS->(Ex->FS->Option β)->Option β
 | .skip,T,K=>K .normal T
 | .region rid ops draw,T,K=>VI draw (AbR E ih f rid ops (Region.before ops) ops.toList 0 [] T fun T=>K .normal T) (AuD E ih f rid ops ops.toList 0 T fun T=>K .normal T)
 | .seq a b,T,K=>FZ f n base a T fun ex T=>match ex with
  | .normal=>FZ f n base b T K
  | .exit j=>K (.exit j) T
  | .ret=>K .ret T
 | .cond c a b,T,K=>Ak (H9 T c) (FZ f n base a T K) (FZ f n base b T K)
 | .block id c,T,K=>FZ f n base c T fun ex T=>match ex with
  | .normal=>K .normal T
  | .exit j=>VI (Nat.beq j id) (K .normal T) (K (.exit j) T)
  | .ret=>K .ret T
 | .loop c,T,K=>Rq base (E.pol.head f (Cj c)).1 (E.pol.head f (Cj c)).2 T (BQ n fun rec vals h =>
   WO (CR T.n (E.pol.head f (Cj c)).1) vals ⟨T.n,dT 10 0 T.n,h⟩ fun T=>FZ f n base c T fun ex T=>match ex with
    | .normal=>Rq base (E.pol.head f (Cj c)).1 (E.pol.head f (Cj c)).2 T rec
    | .exit j=>K (.exit j) T
    | .ret=>K .ret T)
 | .exit id,T,K=>K (.exit id) T
 | .ret,T,K=>K .ret T
 | _,_,_=>none
def As (agg:Bool) (size:Nat) (a:IV) (h:Hp) (k:IV->Option β):Option β :=
 cond agg (Ai size a h fun v _=>k v) (Af a h fun v _=>k v)
def Ajs (T:FS) (rs:List ResultVar):List IV->(List IV->Option β)->Option β :=
 List.rec (motive:=fun _=>List IV->(List IV->Option β)->Option β) (fun acc k=>k acc) (fun v _ rec acc k=>match v with
  | .tmp t=>rec (acc++[T.get t]) k
  | .cell a t=>match E.T t with
   | none=>none
   | some ti=>As ti.kind.isAgg ti.size (T.get a) T.hp fun v=>rec (acc++[v]) k) rs
def Am (vs:List IV) (h:Hp):Option (IV×Hp):=match vs with
 | [v]=>some (v,h)
 | vs=>Xl vs fun v=>some (v,h)
def Ax (FT:Nat->Option Func) (n f:Nat) (args:List IV) (h:Hp):Option (IV×Hp):=match FT f with
 | none=>none
 | some fn=>match fn.body with
  | none=>none
  | some c=>VI (Nat.ble args.length fn.ntmps && Nat.ble fn.ntmps 1024)
   (Yl args 0 ⟨fn.ntmps,dT 10 0 fn.ntmps,h⟩ fun T=>FZ E ih f n (h.own.map (·.1)) c T fun ex T=>match ex with
    | .exit _=>none
    | .normal=>Ajs E T fn.results.toList [] fun vs=>Am vs T.hp
    | .ret=>Ajs E T fn.results.toList [] fun vs=>Am vs T.hp) none
end
end
end Idl
end Go.Proofs.Ytkfecngimlcfoaa
set_option linter.unusedSimpArgs false
namespace Go.Proofs.Ytkfecngimlcfoaa
namespace Idl
section
variable {β:Type} {E:Env} {ih ih':Al} {f rid:Nat} {r:β}
theorem Va (d:Option Nat) (v:IV) (h:Hp) (T:FS):Uo d v h T=R4 d v ⟨T.n,T.t,h⟩:=by cases d<;>rfl
theorem Yj (d:Option Nat) (v:IV) (h:Hp) (T:FS):(Uo d v h T).n=T.n:=by
 cases d with
 | none=>rfl
 | some d =>
  show (cond (Nat.ble T.n d) (FS.mk T.n T.t h) ⟨T.n,T.t.set d v,h⟩).n=T.n
  cases Nat.ble T.n d<;>rfl
theorem AkJ {α:Type} (t:SlT) (i:Nat) (x:IV) (k:SlT->α):t.setKK i x k=k (t.set i x):=by
 refine Eq.trans ?_ (Z6 t i x k)
 induction t generalizing k with
 | leaf j v =>
  show Bool.rec (k (.leaf j v)) (k (.leaf j x)) (Nat.beq i j)=cond (Nat.beq i j) (k (.leaf j x)) (k (.leaf j v))
  cases Nat.beq i j<;>rfl
 | node m l r ihl ihr =>
  show Bool.rec (l.setKK i x fun l'=>k (.node m l' r)) (r.setKK i x fun r'=>k (.node m l r')) (Nat.ble m i)=cond (Nat.ble m i) (r.setK i x fun r'=>k (.node m l r')) (l.setK i x fun l'=>k (.node m l' r))
  cases Nat.ble m i
  ·exact ihl _
  ·exact ihr _
theorem Pl (d:Option Nat) (v:IV) (h:Hp) (T:FS) (K:FS->Option β):Ll d v h T K=K (Uo d v h T):=by
 obtain ⟨n,t,h0⟩:=T;cases d with
 | none=>rfl
 | some d =>
  show VI (Nat.ble n d) (K ⟨n,t,h⟩) (t.setKK d v fun t=>K ⟨n,t,h⟩)=K (cond (Nat.ble n d) ⟨n,t,h⟩ ⟨n,t.set d v,h⟩)
  rw [BP];cases Nat.ble n d
  ·simp only [cond];rw [AkJ]
  ·rfl
theorem Rj:∀(args:List IV) (i:Nat) (T:FS) (K:FS->Option β),Yl args i T K=AfE args i T K
 | [],_,_,_=>rfl
 | v::l,i,T,K=>by
  show Ll (some i) v T.hp T (fun T=>Yl l (Nat.succ i) T K)=AmZ (some i) v T fun T=>AfE l (Nat.succ i) T K
  rw [Pl,AfB,Va,Rj l]
theorem ON {T:FS} {S:St} (hr:Rep T S) (d:Option Nat) (v:IV) (h:Hp):Rep (Uo d v h T) ⟨Cg d v S.slots,h⟩:=by
 rw [Va];exact Z9 (T:=⟨T.n,T.t,h⟩) (S:=⟨S.slots,h⟩) ⟨rfl,hr.len,hr.has,hr.get⟩ d v
theorem OK (hi:∀f args h x,ih' f args h=some x->ih f args h=some x) {ops:Array Oper} {i:Nat} {o:Oper} (ho:ops[i]?=some o) {dr:Bool} {T:FS} {S:St} (hr:Rep T S)
  {K:FS->List Ref->List Ref->Option β} (h:MT E ih' f rid ops i o dr T K=some r) :
  ∃S' T' rd wr,step E ih f rid ops i S=some S'/\(dr=true->Lq E ih f rid ops i S=some (S',rd,wr))/\Rep T' S'/\T'.n=T.n/\K T' rd wr=some r/\(FX E o.op=true->rd=[]/\wr=[]):=by
 have done:C5 ops S.slots o=some true->JG E ih' f rid i dr (H9 T) o.op T.hp (fun v h rd wr=>K (Uo o.dst v h T) rd wr)=some r ->
   ∃S' T' rd wr,step E ih f rid ops i S=some S'/\(dr=true->Lq E ih f rid ops i S=some (S',rd,wr))/\Rep T' S'/\T'.n=T.n/\K T' rd wr=some r/\(FX E o.op=true->rd=[]/\wr=[]):=by
  intro hw h;rw [MQ hr,<- hr.hp] at h;rcases AuL hi h with ⟨hin,v,hp',rd,wr,⟨m,hm,hh,hv,hwr⟩,hk,hq⟩ | ⟨hdr,hq,g,args,v,hp',hin,he,hk⟩
  ·have ha:Et (Bp f rid i) o.dst S m=some ⟨Cg o.dst v S.slots,hp'⟩:=by simp only [Et,hh,AB8,hv]
   refine ⟨⟨Cg o.dst v S.slots,hp'⟩,Uo o.dst v hp' T,rd,wr,?_,fun _=>?_,ON hr o.dst v hp',Yj ..,hk,hq⟩
   ·simp only [step,ho,hw,hin,Ei];rw [F5 _ _ _ _ _ hm];exact ha
   ·simp only [Lq,ho,hw,hin,Ei,hm,ha,AB8,hwr,IJ];rfl
  ·refine ⟨⟨Cg o.dst v S.slots,hp'⟩,Uo o.dst v hp' T,[],[],?_,fun e=>(by rw [hdr] at e;cases e),ON hr o.dst v hp',Yj ..,hk,fun q=>by rw [hq] at q;cases q⟩;simp only [step,ho,hw,hin,he,AB8]
 have skip:C5 ops S.slots o=some false->K (Uo o.dst FQ T.hp T) [] []=some r ->
   ∃S' T' rd wr,step E ih f rid ops i S=some S'/\(dr=true->Lq E ih f rid ops i S=some (S',rd,wr))/\Rep T' S'/\T'.n=T.n/\K T' rd wr=some r/\(FX E o.op=true->rd=[]/\wr=[]):=by
  intro hw h;refine ⟨_,_,[],[],?_,fun _=>?_,ON hr o.dst FQ T.hp,Yj ..,h,fun _=>⟨rfl,rfl⟩⟩
  ·simp only [step,ho,hw,<- hr.hp]
  ·simp only [Lq,ho,hw,<- hr.hp]
 unfold MT at h;have eK:(fun (v:IV) (h:Hp) (rd wr:List Ref)=>Ll o.dst v h T fun T=>K T rd wr)=fun v h rd wr=>K (Uo o.dst v h T) rd wr:=by
  funext v h rd wr
  exact Pl o.dst v h T fun T=>K T rd wr
 rw [eK] at h;simp only [BP] at h;cases hg:o.guard with
 | none =>
  rw [hg] at h;exact done (by simp only [C5,hg]) h
 | some jw =>
  obtain ⟨j,want⟩:=jw;rw [hg] at h;simp only at h;cases hd:(ops[j]?).bind (·.dst) with
  | none=>rw [hd] at h;cases h
  | some d =>
   rw [hd] at h;simp only at h;cases hb:Nat.ble T.n d with
   | true=>rw [hb] at h;cases h
   | false =>
    rw [hb] at h;simp only [cond] at h;have hdn:d<T.n:=Nat.lt_of_not_le fun h=>by rw [Nat.ble_eq_true_of_le h] at hb;cases hb
    have hs:S.slots[d]?=some (T.get d):=by
     rw [hr.at_,List.getD_eq_getElem?_getD,List.getElem?_eq_getElem (by rw [hr.len];exact hdn)];rfl
    have hw:C5 ops S.slots o=match T.get d with
      | .fv (.bool b)=>some (b == want)
      | .fv (.tuple [])=>some false
      | _=>none:=by
     simp only [C5,hg,hd,Option.bind_some,hs];generalize T.get d=v;split
     ·rename_i e;simp only [AB5] at e;subst e;rfl
     ·rename_i e;simp only [AB5] at e;subst e;rfl
     ·rename_i h1 h2;split
      ·exact absurd rfl (h1 _)
      ·exact absurd rfl h2
      ·rfl
    unfold Aa at h;rcases Ps h with ⟨v,hv,h⟩ | h
    ·rw [hv] at hw;unfold Alf at h;split at h
     ·rename_i b;have e:(b == want)=(cond want b (not b)):=by cases b<;>cases want<;>rfl
      cases hc:(cond want b (not b)) with
      | true =>
       rw [hc] at h;exact done (by rw [hw];simp only [e,hc]) h
      | false =>
       rw [hc] at h;exact skip (by rw [hw];simp only [e,hc]) h
     ·rename_i l;cases l with
      | nil=>exact skip hw h
      | cons _ _=>cases h
     ·cases h
    ·cases h
theorem AnR (hi:∀f args h x,ih' f args h=some x->ih f args h=some x) {ops:Array Oper}:∀(l:List Oper) (i:Nat),ops.toList.drop i=l->∀{T:FS} {S:St},Rep T S->∀{K:FS->Option β},AuD E ih' f rid ops l i T K=some r ->
  ∃S' T',J7 E ih f rid ops (List.range' i l.length) S=some S'/\Rep T' S'/\T'.n=T.n/\K T'=some r:=by
 intro l
 induction l with
 | nil=>intro i _ T S hr K h;exact ⟨S,T,rfl,hr,rfl,h⟩
 | cons o l ihl =>
  intro i hd T S hr K h;have ho:ops[i]?=some o:=by
   have:ops.toList[i]?=some o:=by rw [<- List.head?_drop,hd];rfl
   simpa using this
  have hd':ops.toList.drop (i+1)=l:=by rw [<- List.tail_drop,hd];rfl
  have h:MT E ih' f rid ops i o false T (fun T _ _=>AuD E ih' f rid ops l (Nat.succ i) T K)=some r:=h;obtain ⟨S1,T1,rd,wr,h1,_,h2,hn,h3,_⟩:=OK hi ho hr h;obtain ⟨S',T',h4,h5,hn2,h6⟩:=ihl (i+1) hd' h2 h3;refine ⟨S',T',?_,h5,hn2.trans hn,h6⟩;rw [AB9,List.range'_succ];simp only [J7,h1,Option.bind_some];exact h4
theorem Aof {l:List (List Ref×List Ref)} {rd wr:List Ref} {a:Option β} (h:Ac l rd wr a=some r):(∀q∈l,clash q (rd,wr)=true)/\a=some r:=by
 induction l with
 | nil=>exact ⟨fun q hq=>(by cases hq),h⟩
 | cons p l ih =>
  obtain ⟨q1,q2⟩:=p;have h:cond (Xa q2 rd) (cond (Xa q2 wr) (cond (Xa wr q1) (Ac l rd wr a) none) none) none=some r:=h;obtain ⟨h1,h⟩:=DU h;obtain ⟨h2,h⟩:=DU h;obtain ⟨h3,h⟩:=DU h;rw [AmS] at h1 h2 h3;obtain ⟨h4,h5⟩:=ih h;refine ⟨fun q hq=>?_,h5⟩;rcases List.mem_cons.1 hq with rfl | hq
  ·simp only [clash,h1,h2,h3,Bool.and_self]
  ·exact h4 q hq
theorem AiC {b:Nat} {done:List (Nat×List Ref×List Ref)} {j:Nat} {q:List Ref×List Ref} (h:(j,q)∈done) (hj:b.testBit j=false):q∈VQ b done:=by
 induction done with
 | nil=>cases h
 | cons p l ih =>
  obtain ⟨j',q'⟩:=p
  show q∈cond (b.testBit j') (VQ b l) (q'::VQ b l)
  rcases List.mem_cons.1 h with e | h
  ·simp only [AB6] at e;obtain ⟨rfl,rfl⟩:=e;rw [hj];exact List.mem_cons_self
  ·cases b.testBit j' with
   | true=>exact ih h
   | false=>exact List.mem_cons_of_mem _ (ih h)
theorem Aky (hi:∀f args h x,ih' f args h=some x->ih f args h=some x) {ops:Array Oper} {before:Array Nat}:∀(l:List Oper) (i:Nat),ops.toList.drop i=l->∀{T:FS} {S:St} (done full:List (Nat×List Ref×List Ref)),
  (∀x∈full,x.2=([],[])\/x∈done)->Rep T S->∀{K:FS->Option β},AbR E ih' f rid ops before l i done T K=some r ->
  ∃S' T',FG E ih f rid ops before (List.range' i l.length) full S=some S'/\Rep T' S'/\T'.n=T.n/\K T'=some r:=by
 intro l
 induction l with
 | nil=>intro i _ T S done full _ hr K h;exact ⟨S,T,rfl,hr,rfl,h⟩
 | cons o l ihl =>
  intro i hd T S done full hf hr K h;have ho:ops[i]?=some o:=by
   have:ops.toList[i]?=some o:=by rw [<- List.head?_drop,hd];rfl
   simpa using this
  have hd':ops.toList.drop (i+1)=l:=by rw [<- List.tail_drop,hd];rfl
  have h:VI (FX E o.op) (MT E ih' f rid ops i o true T fun T _ _=>AbR E ih' f rid ops before l (Nat.succ i) done T K)
   (MT E ih' f rid ops i o true T fun T rd wr=>Ac (VQ (before.getD i 0) done) rd wr (AbR E ih' f rid ops before l (Nat.succ i) ((i,rd,wr)::done) T K))=some r:=h
  rw [BP] at h;rw [AB9,List.range'_succ];cases hq:FX E o.op with
  | true =>
   rw [hq] at h;simp only [cond] at h;obtain ⟨S1,T1,rd,wr,_,h1,h2,hn,h3,h4⟩:=OK hi ho hr h;have h1:=h1 rfl;obtain ⟨rfl,rfl⟩:=h4 hq;obtain ⟨S',T',h4,h5,hn2,h6⟩:=ihl (i+1) hd' done ((i,[],[])::full) (fun x hx=>by
    rcases List.mem_cons.1 hx with rfl | hx
    ·exact .inl rfl
    ·exact hf x hx) h2 h3
   refine ⟨S',T',?_,h5,hn2.trans hn,h6⟩;simp only [FG,h1]
   have:(full.all fun x=>(before.getD i 0).testBit x.1 || clash x.2 ([],[]))=true:=List.all_eq_true.2 fun x _=>by rw [Aje];simp
   rw [if_pos this];exact h4
  | false =>
   rw [hq] at h;simp only [cond] at h;obtain ⟨S1,T1,rd,wr,_,h1,h2,hn,h3,_⟩:=OK hi ho hr h;have h1:=h1 rfl;obtain ⟨hc,h3⟩:=Aof h3;obtain ⟨S',T',h4,h5,hn2,h6⟩:=ihl (i+1) hd' ((i,rd,wr)::done) ((i,rd,wr)::full) (fun x hx=>by
    rcases List.mem_cons.1 hx with rfl | hx
    ·exact .inr List.mem_cons_self
    ·exact (hf x hx).imp id (List.mem_cons_of_mem _)) h2 h3
   refine ⟨S',T',?_,h5,hn2.trans hn,h6⟩;simp only [FG,h1]
   have:(full.all fun x=>(before.getD i 0).testBit x.1 || clash x.2 (rd,wr))=true:=List.all_eq_true.2 fun x hx=>by
    rcases hf x hx with e | e
    ·rw [e,Ai0];simp
    ·cases hb:(before.getD i 0).testBit x.1 with
     | true=>rfl
     | false=>rw [hc x.2 (AiC (j:=x.1) e hb)];rfl
   rw [if_pos this];exact h4
theorem Am3 (ks:List Nat) (l:List IV):(AZ ks l).length=l.length:=by
 induction ks generalizing l with
 | nil=>rfl
 | cons i ks ih=>simp [AZ,ih]
theorem Wv (ks:List Nat) (l:List IV) (i:Nat) (hi:i<l.length):(AZ ks l).getD i .dead=if i∈ks then .dead else l.getD i .dead:=by
 induction ks generalizing l with
 | nil=>simp [AZ]
 | cons j ks ih =>
  rw [AZ,ih _ (by simpa using hi)];by_cases h:i∈ks
  ·rw [if_pos h,if_pos (List.mem_cons_of_mem _ h)]
  ·rw [if_neg h];by_cases e:i=j
   ·subst e;rw [if_pos List.mem_cons_self,List.getD_eq_getElem?_getD,List.getElem?_set_self hi];rfl
   ·rw [if_neg (by simp [e,h]),List.getD_eq_getElem?_getD,List.getElem?_set_ne (Ne.symm e),<- List.getD_eq_getElem?_getD]
structure AtHead (n:Nat) (kills:List Nat) (vals:List IV) (h:Hp) (S:St):Prop where
 len:S.slots.length=n
 hp:S.hp=h
 vals:vals=(CR n kills).map fun i=>S.slots.getD i .dead
 dead:∀i,i<n->i∈kills->S.slots.getD i .dead=.dead
theorem PZ {n:Nat} {kills:List Nat} {i:Nat}:i∈CR n kills ↔ i<n/\i ∉ kills:=by
 simp [CR]
theorem IE {T:FS} {S:St} (hr:Rep T S) (kills:List Nat) (h:Hp):AtHead T.n kills ((CR T.n kills).map T.get) h ⟨AZ kills S.slots,h⟩:=by
 refine ⟨by simp [Am3,hr.len],rfl,?_,fun i hi hk=>?_⟩
 ·apply List.map_congr_left;intro i hi
  have:=PZ.1 hi
  rw [hr.at_];simp only;rw [Wv _ _ _ (by rw [hr.len];exact this.1),if_neg this.2]
 ·simp only;rw [Wv _ _ _ (by rw [hr.len];exact hi),if_pos hk]
theorem UK {l:List IV}:∀(g:Nat->Bool) (n:Nat),l.length=n->(∀i,i<n->g i=false->l.getD i .dead=.dead) ->
  IV.refs.refsL (((List.range n).filter g).map fun i=>l.getD i .dead)=IV.refs.refsL l:=by
 intro g n
 induction n generalizing l g with
 | zero=>intro hl _;cases l with | nil=>rfl | cons _ _=>cases hl
 | succ n ih =>
  intro hl hd;cases l with
  | nil=>cases hl
  | cons x l =>
   simp only [AB9,Nat.add_right_cancel_iff] at hl;rw [List.range_succ_eq_map];have ih:=ih (l:=l) (fun i=>g (i+1)) hl (fun i hi hg=>by simpa using hd (i+1) (by omega) hg);have e:(((List.range n).map Nat.succ).filter g).map (fun i=>(x::l).getD i .dead)=(((List.range n).filter fun i=>g (i+1))).map fun i=>l.getD i .dead:=by
    rw [List.filter_map,List.map_map];rfl
   cases hg:g 0 with
   | true =>
    rw [List.filter_cons_of_pos hg,ACb,e];simp only [IV.refs.refsL,ih];rfl
   | false =>
    rw [List.filter_cons_of_neg (by rw [hg];simp),e]
    have:x=.dead:=by simpa using hd 0 (by omega) hg
    subst this;simp only [IV.refs.refsL,ih];rfl
def OU (rm:List Nat) (rs:List Ref) (h:Hp):Option Hp :=
 let held:=rs++(h.own.filter fun p=>!rm.contains p.1).flatMap (fun p=>p.2.refs)++h.ext.flatMap Blk.refs
 let gone:=rm.filter fun k=>!anyIn [k] held
 let h2:Hp:={ h with own:=h.own.filter fun p=>!gone.contains p.1 }
 if anyIn gone (rs++h2.own.flatMap (fun p=>p.2.refs)++h2.ext.flatMap Blk.refs) then none else some h2
theorem ApS {α γ:Type} {c c':Bool} {y:α} (g:α->γ) (h:c=c'):(if c=true then none else some (g y))=(if c'=true then none else some y).map g:=by
 subst h;cases c<;>rfl
theorem Ig {base kills rm:List Nat} {sl:List IV} {h:Hp} (hb:rm.any base.contains=false) (ha:(h.own.all fun p=>!rm.contains p.1)=false) :
  CI base kills rm ⟨sl,h⟩=(OU rm (IV.refs.refsL (AZ kills sl)) h).map fun h'=>⟨AZ kills sl,h'⟩:=by
 simp only [CI,hb,ha,Bool.false_eq_true,if_false,C1,OU];exact ApS _ rfl
theorem QH {base rm:List Nat} {S1:St} {kills:List Nat} {sl:List IV} (hsl:IV.refs.refsL sl=IV.refs.refsL (AZ kills S1.slots)) (hb:rm.any base.contains=false)
  (ha:(S1.hp.own.all fun p=>!rm.contains p.1)=false) {S:St} (h:CI base [] rm ⟨sl,S1.hp⟩=some S):CI base kills rm S1=some ⟨AZ kills S1.slots,S.hp⟩:=by
 obtain ⟨s1,h1⟩:=S1;rw [Ig hb ha] at h;rw [Ig hb ha];simp only [AZ] at h;rw [hsl] at h;cases hd:OU rm (IV.refs.refsL (AZ kills s1)) h1 with
 | none=>rw [hd] at h;cases h
 | some h' =>
  rw [hd] at h;simp only [AB8,AB5] at h;subst h;rfl
theorem NI (s:Nat) (l:List Nat):M6 s l=l.contains s:=by
 induction l with
 | nil=>rfl
 | cons x l ih =>
  rw [show M6 s (x::l)=cond (Nat.beq s x) true (M6 s l) from rfl,HD,ih,List.contains_cons]
  by_cases e:s=x
  ·subst e;simp
  ·rw [if_neg e];simp [e]
theorem F7 {rm:List Nat}:∀{l:List Ref},FR rm l=true->∀k∈rm,Ref.own k ∉ l
 | [],_,k,_,h=>by cases h
 | .ext j::l,h,k,hk,hm=>by
  rcases List.mem_cons.1 hm with e | hm
  ·cases e
  ·exact F7 (l:=l) h k hk hm
 | .own s::l,h,k,hk,hm=>by
  have h:cond (M6 s rm) false (FR rm l)=true:=h;cases hs:M6 s rm with
  | true=>rw [hs] at h;cases h
  | false =>
   rw [hs] at h;rcases List.mem_cons.1 hm with e | hm
   ·simp only [Ref.own.injEq] at e;subst e;rw [NI] at hs;rw [List.contains_iff_mem.2 hk] at hs;cases hs
   ·exact F7 (l:=l) h k hk hm
theorem Im {rm:List Nat}:∀{own:List (Nat×Blk)},Ib rm own=true->∀k∈rm,Ref.own k ∉ (own.filter fun p=>!rm.contains p.1).flatMap fun p=>p.2.refs
 | [],_,k,_,h=>by cases h
 | (s,b)::own,h,k,hk,hm=>by
  have h:cond (M6 s rm) (Ib rm own) (cond (FR rm (Fm b)) (Ib rm own) false)=true:=h;rw [NI,LI] at h;cases hs:rm.contains s with
  | true =>
   rw [hs] at h;rw [List.filter_cons_of_neg (by rw [hs];simp)] at hm;exact Im (own:=own) h k hk hm
  | false =>
   rw [hs] at h;rw [List.filter_cons_of_pos (by rw [hs];rfl)] at hm;cases hf:FR rm b.refs with
   | false=>rw [hf] at h;cases h
   | true =>
    rw [hf] at h;simp only [List.flatMap_cons,List.mem_append] at hm;rcases hm with hm | hm
    ·exact F7 hf k hk hm
    ·exact Im (own:=own) h k hk hm
theorem PA {rm:List Nat}:∀{ext:List Blk},JJ rm ext=true->∀k∈rm,Ref.own k ∉ ext.flatMap Blk.refs
 | [],_,k,_,h=>by cases h
 | b::ext,h,k,hk,hm=>by
  have h:cond (FR rm (Fm b)) (JJ rm ext) false=true:=h;rw [LI] at h;cases hf:FR rm b.refs with
  | false=>rw [hf] at h;cases h
  | true =>
   rw [hf] at h;simp only [List.flatMap_cons,List.mem_append] at hm;rcases hm with hm | hm
   ·exact F7 hf k hk hm
   ·exact PA (ext:=ext) h k hk hm
theorem Ng {rm:List Nat}:∀(own:List (Nat×Blk)),AnY rm own=!(own.all fun p=>!rm.contains p.1)
 | []=>rfl
 | (s,b)::own=>by
  rw [show AnY rm ((s,b)::own)=cond (M6 s rm) true (AnY rm own) from rfl,NI,Ng own,List.all_cons]
  cases rm.contains s<;>rfl
theorem Ij {rm:List Nat}:∀(own:List (Nat×Blk)) (k:List (Nat×Blk)->Option β),Wo rm own k=k (own.filter fun p=>!rm.contains p.1)
 | [],_=>rfl
 | (s,b)::own,k=>by
  rw [show Wo rm ((s,b)::own) k=cond (M6 s rm) (Wo rm own k) (Wo rm own fun l=>k ((s,b)::l)) from rfl,NI]
  cases hs:rm.contains s with
  | true=>rw [List.filter_cons_of_neg (by rw [hs];simp)];exact Ij own k
  | false=>rw [List.filter_cons_of_pos (by rw [hs];rfl)];exact Ij own _
theorem Eu {ks:List Nat}:∀{l:List Ref},(∀k∈ks,Ref.own k ∉ l)->anyIn ks l=false
 | [],_=>rfl
 | .ext j::l,h=>Eu (l:=l) fun k hk hm=>h k hk (List.mem_cons_of_mem _ hm)
 | .own s::l,h=>by
  simp only [anyIn,Bool.or_eq_false_iff];refine ⟨?_,Eu (l:=l) fun k hk hm=>h k hk (List.mem_cons_of_mem _ hm)⟩;cases hc:ks.contains s with
  | false=>rfl
  | true=>exact absurd List.mem_cons_self (h s (List.contains_iff_mem.1 hc))
theorem Wz {rm:List Nat} {rs:List Ref} {own:List (Nat×Blk)} {ext:List Blk} (h1:∀k∈rm,Ref.own k ∉ rs) (h2:Ib rm own=true) (h3:JJ rm ext=true) :
  OU rm rs ⟨own,ext⟩=some ⟨own.filter fun p=>!rm.contains p.1,ext⟩:=by
 have h2:=Im h2;have h3:=PA h3;have hh:∀k∈rm,Ref.own k ∉ rs++(own.filter fun p=>!rm.contains p.1).flatMap (fun p=>p.2.refs)++ext.flatMap Blk.refs:=fun k hk hm=>by
  rcases List.mem_append.1 hm with hm | hm
  ·rcases List.mem_append.1 hm with hm | hm
   ·exact h1 k hk hm
   ·exact h2 k hk hm
  ·exact h3 k hk hm
 have hg:(rm.filter fun k=>!anyIn [k] (rs++(own.filter fun p=>!rm.contains p.1).flatMap (fun p=>p.2.refs)++ext.flatMap Blk.refs))=rm:=by
  apply List.filter_eq_self.2;intro k hk;rw [Eu fun j hj hm=>hh j (by simp only [List.mem_singleton] at hj;rw [hj];exact hk) hm];rfl
 simp only [OU,hg];rw [Eu hh];rfl
theorem Wi {base kills rm:List Nat} {T:FS} {S:St} (hr:Rep T S) {k:List IV->Hp->Option β} (h:Rq base kills rm T k=some r) :
  ∃S' vals hp,CI base kills rm S=some S'/\AtHead T.n kills vals hp S'/\k vals hp=some r:=by
 unfold Rq at h;split at h
 ·refine ⟨⟨AZ kills S.slots,T.hp⟩,_,_,?_,IE hr kills T.hp,h⟩;simp [CI,hr.hp]
 ·rename_i q rm;generalize hrm:q::rm=rm' at h ⊢;have hv:=IE hr kills S.hp;unfold BO at h;rw [<- hr.hp] at h;cases hb:rm'.any base.contains with
  | true=>rw [hb] at h;cases h
  | false =>
   rw [hb] at h;obtain ⟨sl,hp0⟩:=S;obtain ⟨own,ext⟩:=hp0;simp only [cond] at h;have hsl:IV.refs.refsL ((CR T.n kills).map T.get)=IV.refs.refsL (AZ kills sl):=by
    rw [hv.vals];exact UK _ _ (by simpa using hv.len) (fun i hi hg=>hv.dead i hi (by simpa using hg))
   rw [Ng] at h;cases ha:(own.all fun p=>!rm'.contains p.1) with
   | true =>
    rw [ha] at h;refine ⟨⟨AZ kills sl,⟨own,ext⟩⟩,_,_,?_,hv,h⟩;simp only [CI,hb,Bool.false_eq_true,if_false,ha,if_true]
   | false =>
    rw [ha] at h;simp only [Bool.not_false] at h;cases hf:(and (FR rm' (CF ((CR T.n kills).map T.get) [])) (and (Ib rm' own) (JJ rm' ext))) with
    | true =>
     rw [hf] at h;simp only at h;have hf:(FR rm' (CF ((CR T.n kills).map T.get) []) && (Ib rm' own && JJ rm' ext))=true:=hf;simp only [Bool.and_eq_true] at hf;rw [Ij] at h;have h1:=F7 hf.1;rw [refsDL_eq,List.append_nil,hsl] at h1;refine ⟨⟨AZ kills sl,⟨own.filter fun p=>!rm'.contains p.1,ext⟩⟩,_,_,?_,IE hr kills _,h⟩;rw [Ig hb ha,Wz h1 hf.2.1 hf.2.2];rfl
    | false =>
     rw [hf] at h;simp only at h;split at h
     ·cases h
     ·rename_i S2 hd;rw [M0] at h;exact ⟨⟨AZ kills sl,S2.hp⟩,_,_,QH (S1:=⟨sl,⟨own,ext⟩⟩) (sl:=(CR T.n kills).map T.get) hsl hb ha hd,IE hr kills S2.hp,h⟩
theorem Aem:∀(cs:List Nat) (vals:List IV) (T:FS) {K:FS->Option β},(∀i∈cs,i<T.n)->(∀i,i<T.n->T.t.has i=true)->WO cs vals T K=some r ->
  ∃T',T'.n=T.n/\T'.hp=T.hp/\(∀i,i<T.n->T'.t.has i=true)/\K T'=some r/\∀g:Nat->IV,vals=cs.map g->∀i,i<T.n->T'.t.get i=if i∈cs then g i else T.t.get i
 | [],vals,T,K,_,hh,h=>⟨T,rfl,rfl,hh,h,fun g _ i _=>by simp⟩
 | c::cs,vals,T,K,hc,hh,h=>by
  have h:AC vals (fun v vals=>Ll (some c) v T.hp T fun T=>WO cs vals T K)=some r:=h;have eK:(fun (v:IV) vals=>Ll (some c) v T.hp T fun T=>WO cs vals T K)=fun v vals=>WO cs vals (R4 (some c) v T) K:=by
   funext v vals
   rw [Pl,Va]
  rw [eK] at h;cases vals with
  | nil=>cases h
  | cons v vals =>
   have h:WO cs vals (R4 (some c) v T) K=some r:=h;have hcn:c<T.n:=hc c List.mem_cons_self;have hput:R4 (some c) v T=⟨T.n,T.t.set c v,T.hp⟩:=by
    simp only [R4];cases hb:Nat.ble T.n c with
    | true=>have:=Bt hb;omega
    | false=>rfl
   rw [hput] at h;obtain ⟨T',h1,h2,h3,h4,h5⟩:=Aem cs vals ⟨T.n,T.t.set c v,T.hp⟩ (fun i hi=>hc i (List.mem_cons_of_mem _ hi)) (fun i hi=>by rw [Zb];exact hh i hi) h;refine ⟨T',h1,h2,h3,h4,fun g hg i hi=>?_⟩;simp only [ACb,List.cons.injEq] at hg;rw [h5 g hg.2 i hi];by_cases hm:i∈cs
   ·rw [if_pos hm,if_pos (List.mem_cons_of_mem _ hm)]
   ·rw [if_neg hm];simp only;rw [Aha _ _ _ (hh c hcn)];by_cases e:i=c
    ·subst e;rw [if_pos rfl,if_pos List.mem_cons_self,hg.1]
    ·rw [if_neg e,if_neg (by simp [e,hm])]
theorem Aqi {n:Nat} (hn:n<=1024) {kills:List Nat} {vals:List IV} {h:Hp} {S:St} (ha:AtHead n kills vals h S) {K:FS->Option β} (e:WO (CR n kills) vals ⟨n,dT 10 0 n,h⟩ K=some r) :
  ∃T',T'.n=n/\Rep T' S/\K T'=some r:=by
 obtain ⟨T',h1,h2,h3,h4,h5⟩:=Aem (CR n kills) vals ⟨n,dT 10 0 n,h⟩ (fun i hi=>(PZ.1 hi).1) (fun i hi=>(AdY 10 0 n i (by simpa using hn) (Nat.zero_le _) (by simpa using hi)).1) e;refine ⟨T',h1,⟨by rw [ha.hp,h2],by rw [ha.len,h1],fun i hi=>h3 i (by rw [h1] at hi;exact hi),fun i hi=>?_⟩,h4⟩;rw [h1] at hi;rw [h5 _ ha.vals i hi];by_cases hm:i∈CR n kills
 ·rw [if_pos hm]
 ·rw [if_neg hm];have hk:i∈kills:=Classical.byContradiction fun hk=>hm (PZ.2 ⟨hi,hk⟩);rw [ha.dead i hi hk];exact (AdY 10 0 n i (by simpa using hn) (Nat.zero_le _) (by simpa using hi)).2
theorem AmL (hi:∀f args h x,ih' f args h=some x->ih f args h=some x) {n:Nat} {base:List Nat}:∀(c:Code) {T:FS} {S:St},Rep T S->T.n<=1024->∀{K:Ex->FS->Option β},FZ E ih' f n base c T K=some r ->
  ∃ex S' T',DA E ih f n base c S=some (ex,S')/\Rep T' S'/\T'.n=T.n/\K ex T'=some r:=by
 intro c
 induction c with
 | skip=>intro T S hr _ K h;exact ⟨_,S,T,rfl,hr,rfl,h⟩
 | region rid ops d =>
  intro T S hr _ K h;simp only [FZ,BP] at h;simp only [DA];rw [List.range_eq_range'];cases d with
  | true =>
   obtain ⟨S',T',h1,h2,h3,h4⟩:=Aky hi ops.toList 0 rfl [] [] (fun x hx=>by cases hx) hr h;simp only [Array.length_toList] at h1;exact ⟨_,S',T',by simp only [if_true,h1,AB8],h2,h3,h4⟩
  | false =>
   obtain ⟨S',T',h1,h2,h3,h4⟩:=AnR hi ops.toList 0 rfl hr h;simp only [Array.length_toList] at h1;exact ⟨_,S',T',by simp only [Bool.false_eq_true,if_false,h1,AB8],h2,h3,h4⟩
 | seq x y ihx ihy =>
  intro T S hr hl K h;simp only [FZ,BP] at h;obtain ⟨ex,S1,T1,h1,h2,hn,h3⟩:=ihx hr hl h;simp only [DA,h1];cases ex with
  | normal =>
   obtain ⟨ex,S2,T2,h4,h5,hn2,h6⟩:=ihy h2 (by rw [hn];exact hl) h3;exact ⟨ex,S2,T2,h4,h5,hn2.trans hn,h6⟩
  | exit j=>exact ⟨_,_,_,rfl,h2,hn,h3⟩
  | ret=>exact ⟨_,_,_,rfl,h2,hn,h3⟩
 | cond c x y ihx ihy =>
  intro T S hr hl K h;simp only [FZ,BP,MQ hr] at h;obtain ⟨t,ht,h⟩:=Wq h;cases t with
  | true=>simp only [DA,ht];exact ihx hr hl h
  | false=>simp only [DA,ht];exact ihy hr hl h
 | block id x ihx =>
  intro T S hr hl K h;simp only [FZ,BP] at h;obtain ⟨ex,S1,T1,h1,h2,hn,h3⟩:=ihx hr hl h;simp only [DA,h1];cases ex with
  | normal=>exact ⟨_,_,_,rfl,h2,hn,h3⟩
  | exit j =>
   simp only [HD] at h3 ⊢;by_cases e:j=id
   ·rw [if_pos e] at h3;rw [if_pos e];exact ⟨_,_,_,rfl,h2,hn,h3⟩
   ·rw [if_neg e] at h3;rw [if_neg e];exact ⟨_,_,_,rfl,h2,hn,h3⟩
  | ret=>exact ⟨_,_,_,rfl,h2,hn,h3⟩
 | loop x ihx =>
  intro T S hr hl K h;simp only [FZ,BP] at h;simp only [DA];generalize (E.pol.head f (Cj x)).1=kills at h ⊢;generalize (E.pol.head f (Cj x)).2=rm at h ⊢;generalize hF:(fun (rec:List IV->Hp->Option β) vals h=>WO (CR T.n kills) vals ⟨T.n,dT 10 0 T.n,h⟩ fun T=>FZ E ih' f n base x T fun ex T=>match ex with
   | .normal=>Rq base kills rm T rec
   | .exit j=>K (.exit j) T
   | .ret=>K .ret T)=F at h
  have key:∀(k:Nat) (S1:St) (T1:FS),Rep T1 S1->T1.n=T.n->Rq base kills rm T1 (BQ k F)=some r ->
    ∃ex S' T',iterate (CI base kills rm) (DA E ih f n base x) k S1=some (ex,S')/\Rep T' S'/\T'.n=T.n/\K ex T'=some r:=by
   intro k
   induction k with
   | zero =>
    intro S1 T1 hr1 hn1 h;obtain ⟨S2,vals,hp,_,_,h⟩:=Wi hr1 h;cases h
   | succ k ihk =>
    intro S1 T1 hr1 hn1 h;obtain ⟨S2,vals,hp,h1,h2,h⟩:=Wi hr1 h;have h:F (BQ k F) vals hp=some r:=h;rw [<- hF] at h;rw [hn1] at h2;simp only at h;obtain ⟨T2,hn2,hr2,h⟩:=Aqi hl h2 h;obtain ⟨ex,S3,T3,h3,hr3,hn3,h⟩:=ihx hr2 (by rw [hn2];exact hl) h;simp only [iterate,h1,Option.bind_some,h3];cases ex with
    | normal =>
     simp only at h;rw [hF] at h;exact ihk S3 T3 hr3 (hn3.trans hn2) h
    | exit j=>exact ⟨_,_,_,rfl,hr3,hn3.trans hn2,h⟩
    | ret=>exact ⟨_,_,_,rfl,hr3,hn3.trans hn2,h⟩
  exact key n S T hr rfl h
 | exit id=>intro T S hr _ K h;exact ⟨_,S,T,rfl,hr,rfl,h⟩
 | ret=>intro T S hr _ K h;exact ⟨_,S,T,rfl,hr,rfl,h⟩
 | _=>intro T S hr _ K h;simp only [FZ,BP] at h;cases h
theorem Ane {agg:Bool} {size:Nat} {a:IV} {hp:Hp} {k:IV->Option β} (h:As agg size a hp k=some r) :
  ∃v,(match a with
   | .ptr q off=>match hp.get q with
    | some (.row cells _)=>Cp agg size off cells
    | _=>none
   | .fv (.fp cells off)=>(By agg size off cells).map .fv
   | _=>none)=some v/\k v=some r:=by
 cases agg with
 | true =>
  have h:Ai size a hp (fun v _=>k v)=some r:=h;unfold Ai at h;rcases DE h with ⟨q,o,rfl,g'⟩ | ⟨cs,o,rfl,g'⟩<;>replace h:=g'<;>clear g'
  ·rw [EX] at h;obtain ⟨b,hb,h⟩:=Bz h;obtain ⟨cells,ro,rfl,g'⟩:=Hl h;replace h:=g';clear g';obtain ⟨h1,h2⟩:=Rz h;exact ⟨_,by simp only [hb,h1],h2⟩
  ·obtain ⟨h1,h2⟩:=OW h;exact ⟨_,by simp only [h1,AB8],h2⟩
 | false =>
  have h:Af a hp (fun v _=>k v)=some r:=h;unfold Af at h;rcases DE h with ⟨q,o,rfl,g'⟩ | ⟨cs,o,rfl,g'⟩<;>replace h:=g'<;>clear g'
  ·rw [EX] at h;obtain ⟨b,hb,h⟩:=Bz h;obtain ⟨cells,ro,rfl,g'⟩:=Hl h;replace h:=g';clear g';rw [C8] at h;obtain ⟨v,hv,h⟩:=Bz h;exact ⟨_,by simp only [hb,Cp,Bool.false_eq_true,if_false,hv],h⟩
  ·rw [C8] at h;obtain ⟨v,hv,h⟩:=Bz h;exact ⟨_,by simp only [By,Bool.false_eq_true,if_false,hv,AB8],h⟩
theorem SG {T:FS} {S:St} (hr:Rep T S):∀(rs:List ResultVar) (acc:List IV) {k:List IV->Option β},Ajs E T rs acc k=some r->∃vs,GS E S rs=some vs/\k (acc++vs)=some r
 | [],acc,k,h=>⟨[],rfl,by rw [List.append_nil];exact h⟩
 | .tmp t::rs,acc,k,h=>by
  have h:Ajs E T rs (acc++[T.get t]) k=some r:=h;obtain ⟨vs,h1,h2⟩:=SG hr rs _ h;refine ⟨T.get t::vs,?_,by simpa using h2⟩;simp only [GS,Ks,Option.bind_some,h1,AB8,hr.at_]
 | .cell a t::rs,acc,k,h=>by
  have h:(match E.T t with
   | none=>none
   | some ti=>As ti.kind.isAgg ti.size (T.get a) T.hp fun v=>Ajs E T rs (acc++[v]) k)=some r:=h
  cases ht:E.T t with
  | none=>rw [ht] at h;cases h
  | some ti =>
   rw [ht] at h;obtain ⟨v,h1,h⟩:=Ane h;obtain ⟨vs,h2,h3⟩:=SG hr rs _ h;refine ⟨v::vs,?_,by simpa using h3⟩
   have:Ks E S (.cell a t)=some v:=by
    simp only [Ks,ht,<- hr.at_,hr.hp];rw [<- h1];cases T.get a with
    | fv w=>cases w<;>rfl
    | _=>rfl
   simp only [GS,this,Option.bind_some,h2,AB8]
theorem AnM {FT:Nat->Option Func} (hFT:∀f fn,FT f=some fn->E.P.funcs[f]?=some fn) {n:Nat} {sh:Al} (hi:∀f args h x,sh f args h=some x->run E n f args h=some x) {args:List IV} {h:Hp} {x:IV×Hp}
  (e:Ax E sh FT n f args h=some x):run E (n+1) f args h=some x:=by
 unfold Ax at e;simp only [BP] at e;simp only [run];cases hf:FT f with
 | none=>rw [hf] at e;cases e
 | some fn =>
  rw [hf] at e;rw [hFT f fn hf];simp only at e ⊢;cases hc:fn.body with
  | none=>rw [hc] at e;cases e
  | some c =>
   rw [hc] at e;simp only at e ⊢;obtain ⟨hl,e⟩:=DU e;rw [Rj] at e;simp only [Bool.and_eq_true] at hl;have hl1:=Bt hl.1;have hl2:=Bt hl.2;have hrep0:Rep ⟨fn.ntmps,dT 10 0 fn.ntmps,h⟩ ⟨List.replicate fn.ntmps .dead,h⟩:=by
    refine ⟨rfl,by simp,fun i hi=>(AdY 10 0 fn.ntmps i (by simpa using hl2) (Nat.zero_le _) (by simpa using hi)).1,fun i hi=>?_⟩;rw [(AdY 10 0 fn.ntmps i (by simpa using hl2) (Nat.zero_le _) (by simpa using hi)).2,List.getD_eq_getElem?_getD,List.getElem?_replicate];simp [hi]
   obtain ⟨T0,h1,h2⟩:=Akm args 0 (K:=_) hrep0;rw [h1] at e;have hs:KQ args 0 (List.replicate fn.ntmps .dead)=args++List.replicate (fn.ntmps - args.length) .dead:=by
    apply List.ext_getElem?;intro j;rw [M1 _ _ _ _ (by simpa using hl1)];by_cases hj:j<args.length
    ·rw [if_pos (by omega),List.getElem?_append_left hj];simp
    ·rw [if_neg (by omega),List.getElem?_append_right (by omega),List.getElem?_replicate,List.getElem?_replicate];by_cases hj2:j<fn.ntmps
     ·rw [if_pos hj2,if_pos (by omega)]
     ·rw [if_neg hj2,if_neg (by omega)]
   simp only [hs] at h2;have hT0:T0.n<=1024:=by
    have:=h2.len
    simp at this;omega
   obtain ⟨ex,S',T',h3,h4,_,h5⟩:=AmL hi c h2 hT0 e;rw [h3];have hres:(Ajs E T' fn.results.toList [] fun vs=>Am vs T'.hp)=some x->(Hc E S' fn.results.toList).map (fun v=>(v,S'.hp))=some x:=by
    intro h;obtain ⟨vs,h1,h⟩:=SG h4 _ _ h;rw [List.nil_append] at h;simp only [Hc,h1,AB8,h4.hp]
    match vs,h with
    | [],h=>simp only [Am,AcG] at h;exact h
    | [v],h=>exact h
    | v::w::l,h=>simp only [Am,AcG] at h;exact h
   cases ex with
   | exit j=>cases h5
   | normal=>exact hres h5
   | ret=>exact hres h5
end
section
variable {β:Type}
def V0 {α:Type} (l:List α) (a:Option β):Option β:=List.casesOn (motive:=fun _=>Option β) l a fun _ _=>none
def QA (g:Hp->Option β) (args:List IV) (h:Hp):Option β:=V0 args (g h)
def Nc (g:IV->Hp->Option β) (args:List IV) (h:Hp):Option β:=AC args fun a l=>V0 l (g a h)
def HP (g:IV->IV->Hp->Option β) (args:List IV) (h:Hp):Option β:=AC args fun a l=>AC l fun b l=>V0 l (g a b h)
def ar3 (g:IV->IV->IV->Hp->Option β) (args:List IV) (h:Hp):Option β:=AC args fun a l=>AC l fun b l=>AC l fun c l=>V0 l (g a b c h)
def XT (g:IV->IV->IV->IV->Hp->Option β) (args:List IV) (h:Hp):Option β:=AC args fun a l=>AC l fun b l=>AC l fun c l=>AC l fun d l=>V0 l (g a b c d h)
def ar5 (g:IV->IV->IV->IV->IV->Hp->Option β) (args:List IV) (h:Hp):Option β:=AC args fun a l=>AC l fun b l=>AC l fun c l=>AC l fun d l=>AC l fun e l=>V0 l (g a b c d e h)
def ar6 (g:IV->IV->IV->IV->IV->IV->Hp->Option β) (args:List IV) (h:Hp):Option β:=AC args fun a l=>AC l fun b l=>AC l fun c l=>AC l fun d l=>AC l fun e l=>AC l fun f l=>V0 l (g a b c d e f h)
theorem Ck {α:Type} {l:List α} {k:α->List α->Option β} {r:β} (h:AC l k=some r):∃a t,l=a::t/\k a t=some r:=by
 cases l with
 | nil=>cases h
 | cons a t=>exact ⟨a,t,rfl,h⟩
theorem Ka {α:Type} {l:List α} {a:Option β} {r:β} (h:V0 l a=some r):l=[]/\a=some r:=by
 cases l with
 | nil=>exact ⟨rfl,h⟩
 | cons _ _=>cases h
variable {F:List IV->Hp->Option β} {args:List IV} {h:Hp} {r:β}
theorem XL {g:Hp->Option β} (hg:∀h,F [] h=g h) (e:QA g args h=some r):F args h=some r:=by
 obtain ⟨rfl,e9⟩:=Ka e;rw [hg];exact e9
theorem B9 {g:IV->Hp->Option β} (hg:∀a h,F [a] h=g a h) (e:Nc g args h=some r):F args h=some r:=by
 obtain ⟨a,l1,rfl,e1⟩:=Ck e;obtain ⟨rfl,e9⟩:=Ka e1;rw [hg];exact e9
theorem Be {g:IV->IV->Hp->Option β} (hg:∀a b h,F [a,b] h=g a b h) (e:HP g args h=some r):F args h=some r:=by
 obtain ⟨a,l1,rfl,e1⟩:=Ck e;obtain ⟨b,l2,rfl,e2⟩:=Ck e1;obtain ⟨rfl,e9⟩:=Ka e2;rw [hg];exact e9
theorem Gg {g:IV->IV->IV->Hp->Option β} (hg:∀a b c h,F [a,b,c] h=g a b c h) (e:ar3 g args h=some r):F args h=some r:=by
 obtain ⟨a,l1,rfl,e1⟩:=Ck e;obtain ⟨b,l2,rfl,e2⟩:=Ck e1;obtain ⟨c,l3,rfl,e3⟩:=Ck e2;obtain ⟨rfl,e9⟩:=Ka e3;rw [hg];exact e9
theorem Eo {g:IV->IV->IV->IV->Hp->Option β} (hg:∀a b c d h,F [a,b,c,d] h=g a b c d h) (e:XT g args h=some r):F args h=some r:=by
 obtain ⟨a,l1,rfl,e1⟩:=Ck e;obtain ⟨b,l2,rfl,e2⟩:=Ck e1;obtain ⟨c,l3,rfl,e3⟩:=Ck e2;obtain ⟨d,l4,rfl,e4⟩:=Ck e3;obtain ⟨rfl,e9⟩:=Ka e4;rw [hg];exact e9
theorem AzK {g:IV->IV->IV->IV->IV->Hp->Option β} (hg:∀a b c d x h,F [a,b,c,d,x] h=g a b c d x h) (e:ar5 g args h=some r):F args h=some r:=by
 obtain ⟨a,l1,rfl,e1⟩:=Ck e;obtain ⟨b,l2,rfl,e2⟩:=Ck e1;obtain ⟨c,l3,rfl,e3⟩:=Ck e2;obtain ⟨d,l4,rfl,e4⟩:=Ck e3;obtain ⟨x,l5,rfl,e5⟩:=Ck e4;obtain ⟨rfl,e9⟩:=Ka e5;rw [hg];exact e9
theorem AyT {g:IV->IV->IV->IV->IV->IV->Hp->Option β} (hg:∀a b c d x y h,F [a,b,c,d,x,y] h=g a b c d x y h) (e:ar6 g args h=some r):F args h=some r:=by
 obtain ⟨a,l1,rfl,e1⟩:=Ck e;obtain ⟨b,l2,rfl,e2⟩:=Ck e1;obtain ⟨c,l3,rfl,e3⟩:=Ck e2;obtain ⟨d,l4,rfl,e4⟩:=Ck e3;obtain ⟨x,l5,rfl,e5⟩:=Ck e4;obtain ⟨y,l6,rfl,e6⟩:=Ck e5;obtain ⟨rfl,e9⟩:=Ka e6;rw [hg];exact e9
end
abbrev Sh:=Al->Nat->List IV->Hp->Option (IV×Hp)
inductive DT where
 | nil
 | leaf (f:Nat) (g:Sh)
 | node (m:Nat) (l r:DT)
def DT.call (t:DT):Nat->Sh :=
 DT.rec (motive:=fun _=>Nat->Sh) (fun _ _ _ _ _=>none) (fun f g i=>cond (Nat.beq i f) g fun _ _ _ _=>none) (fun m _ _ gl gr i=>cond (Nat.ble m i) (gr i) (gl i)) t
def SS (t:DT) (n:Nat):Al:=Nat.rec (motive:=fun _=>Al) (fun _ _ _=>none) (fun n ih f args h=>t.call f ih n args h) n
def AwZ (E:Env) (FT:Nat->Option Func) (f:Nat) (g:Sh):Prop:=∀ih n args h x,g ih n args h=some x->Ax E ih FT n f args h=some x
def DT.Ok (E:Env) (FT:Nat->Option Func):DT->Prop
 | .nil=>True
 | .leaf f g=>AwZ E FT f g
 | .node _ l r=>l.Ok E FT/\r.Ok E FT
theorem DT.call_ok {E:Env} {FT:Nat->Option Func} {t:DT} (ht:t.Ok E FT):∀f,AwZ E FT f (t.call f):=by
 induction t with
 | nil=>intro f ih n args h x e;cases e
 | leaf j g =>
  intro f ih n args h x e;have e:(cond (Nat.beq f j) g fun _ _ _ _=>none) ih n args h=some x:=e;cases hb:Nat.beq f j with
  | false=>rw [hb] at e;cases e
  | true=>rw [hb] at e;rw [Dm hb];exact ht ih n args h x e
 | node m l r ihl ihr =>
  intro f ih n args h x e;have e:(cond (Nat.ble m f) (r.call f) (l.call f)) ih n args h=some x:=e;cases hb:Nat.ble m f with
  | true=>rw [hb] at e;exact ihr ht.2 f ih n args h x e
  | false=>rw [hb] at e;exact ihl ht.1 f ih n args h x e
theorem AwP {E:Env} {FT:Nat->Option Func} (hFT:∀f fn,FT f=some fn->E.P.funcs[f]?=some fn) {t:DT} (ht:t.Ok E FT):∀n f args h x,SS t n f args h=some x->run E n f args h=some x:=by
 intro n
 induction n with
 | zero=>intro f args h x e;cases e
 | succ n ihn=>intro f args h x e;exact AnM hFT ihn (DT.call_ok ht f _ _ _ _ _ e)
end Idl
end Go.Proofs.Ytkfecngimlcfoaa

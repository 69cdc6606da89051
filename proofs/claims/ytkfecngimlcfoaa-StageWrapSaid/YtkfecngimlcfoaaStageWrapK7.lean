/-
  Texts of a proof, part 7: an ideal semantics of the program, its functions in shallow form, contracts of them. No statement of the seat is proved here.
-/
import Derived.Test.YtkfecngimlcfoaaChecked
import Derived.KernelRfl
import Derived.Test.YtkfecngimlcfoaaStageWrapK6
set_option linter.all false
noncomputable section
namespace Go.Proofs.Ytkfecngimlcfoaa
namespace Idl
def tab:TTree :=
 .node 66 (.node 16 (.node 9 (.node 5 (.node 3 (.leaf 2 ⟨1,8,.int .i64,[.fv (.int .i64 0)]⟩)
 (.node 4 (.leaf 3 ⟨1,8,.int .i64,[.fv (.int .i64 0)]⟩)
 (.leaf 4 ⟨1,1,.bool,[.fv (.bool false)]⟩)))
 (.node 6 (.leaf 5 ⟨1,1,.int .u8,[.fv (.int .u8 0)]⟩)
 (.node 8 (.leaf 6 ⟨1,1,.int .u8,[.fv (.int .u8 0)]⟩)
 (.leaf 8 ⟨4,24,.struct [(0,2),(1,3),(2,4),(3,6)],[.fv (.int .i64 0),.fv (.int .i64 0),.fv (.bool false),.fv (.int .u8 0)]⟩))))
 (.node 12 (.node 10 (.leaf 9 ⟨1,16,.str,[.fv (.str .empty)]⟩)
 (.node 11 (.leaf 10 ⟨1,16,.str,[.fv (.str .empty)]⟩)
 (.leaf 11 ⟨1,16,.str,[.fv (.str .empty)]⟩)))
 (.node 14 (.leaf 12 ⟨1,8,.int .u64,[.fv (.int .u64 0)]⟩)
 (.node 15 (.leaf 14 ⟨2,24,.struct [(0,9),(1,12)],[.fv (.str .empty),.fv (.int .u64 0)]⟩)
 (.leaf 15 ⟨1,8,.ptr,[.fv (.nilp)]⟩)))))
 (.node 28 (.node 22 (.node 17 (.leaf 16 ⟨1,8,.ptr,[.fv (.nilp)]⟩)
 (.node 19 (.leaf 17 ⟨1,8,.ptr,[.fv (.nilp)]⟩)
 (.leaf 19 ⟨1,8,.struct [(0,17)],[.fv (.nilp)]⟩)))
 (.node 24 (.leaf 22 ⟨1,24,.slice 24,[.nils]⟩)
 (.node 27 (.leaf 24 ⟨3,40,.struct [(0,3),(1,3),(2,22)],[.fv (.int .i64 0),.fv (.int .i64 0),.nils]⟩)
 (.leaf 27 ⟨1,24,.slice 69,[.nils]⟩))))
 (.node 40 (.node 30 (.leaf 28 ⟨1,24,.slice 30,[.nils]⟩)
 (.node 36 (.leaf 30 ⟨3,40,.struct [(0,3),(1,3),(2,28)],[.fv (.int .i64 0),.fv (.int .i64 0),.nils]⟩)
 (.leaf 36 ⟨1,8,.int .i64,[.fv (.int .i64 0)]⟩)))
 (.node 52 (.leaf 40 ⟨1,8,.func,[.fv (.nilf)]⟩)
 (.node 55 (.leaf 52 ⟨1,24,.slice 9,[.nils]⟩)
 (.leaf 55 ⟨1,8,.int .u64,[.fv (.int .u64 0)]⟩))))))
 (.node 100 (.node 86 (.node 80 (.node 69 (.leaf 66 ⟨2,16,.struct [(0,3),(1,3)],[.fv (.int .i64 0),.fv (.int .i64 0)]⟩)
 (.node 75 (.leaf 69 ⟨4,48,.struct [(0,3),(1,30)],[.fv (.int .i64 0),.fv (.int .i64 0),.fv (.int .i64 0),.nils]⟩)
 (.leaf 75 ⟨1,24,.slice 3,[.nils]⟩)))
 (.node 82 (.leaf 80 ⟨1,8,.ptr,[.fv (.nilp)]⟩)
 (.node 84 (.leaf 82 ⟨3,24,.struct [(0,3),(1,3),(2,3)],[.fv (.int .i64 0),.fv (.int .i64 0),.fv (.int .i64 0)]⟩)
 (.leaf 84 ⟨1,8,.ptr,[.fv (.nilp)]⟩))))
 (.node 94 (.node 88 (.leaf 86 ⟨1,8,.ptr,[.fv (.nilp)]⟩)
 (.node 93 (.leaf 88 ⟨2,16,.struct [(0,3),(1,3)],[.fv (.int .i64 0),.fv (.int .i64 0)]⟩)
 (.leaf 93 ⟨1,8,.ptr,[.fv (.nilp)]⟩)))
 (.node 96 (.leaf 94 ⟨1,8,.ptr,[.fv (.nilp)]⟩)
 (.node 98 (.leaf 96 ⟨1,8,.ptr,[.fv (.nilp)]⟩)
 (.leaf 98 ⟨1,8,.map 3 124,[.dead]⟩)))))
 (.node 124 (.node 116 (.node 112 (.leaf 100 ⟨5,40,.struct [(0,3),(1,3),(2,3),(3,36),(4,98)],[.fv (.int .i64 0),.fv (.int .i64 0),.fv (.int .i64 0),.fv (.int .i64 0),.dead]⟩)
 (.node 114 (.leaf 112 ⟨1,24,.slice 5,[.nils]⟩)
 (.leaf 114 ⟨1,24,.slice 84,[.nils]⟩)))
 (.node 120 (.leaf 116 ⟨7,104,.struct [(0,3),(1,3),(2,114),(3,114),(4,30)],[.fv (.int .i64 0),.fv (.int .i64 0),.nils,.nils,.fv (.int .i64 0),.fv (.int .i64 0),.nils]⟩)
 (.node 122 (.leaf 120 ⟨1,8,.int .i64,[.fv (.int .i64 0)]⟩)
 (.leaf 122 ⟨1,8,.func,[.fv (.nilf)]⟩))))
 (.node 129 (.node 125 (.leaf 124 ⟨1,8,.struct [(0,122)],[.fv (.nilf)]⟩)
 (.node 127 (.leaf 125 ⟨1,8,.ptr,[.fv (.nilp)]⟩)
 (.leaf 127 ⟨1,24,.slice 96,[.nils]⟩)))
 (.node 135 (.node 132 (.leaf 129 ⟨7,88,.struct [(0,3),(1,3),(2,127),(3,30),(6,125)],[.fv (.int .i64 0),.fv (.int .i64 0),.nils,.fv (.int .i64 0),.fv (.int .i64 0),.nils,.fv (.nilp)]⟩)
 (.leaf 132 ⟨31,248,.arr 31 3,[.fv (.int .i64 0),.fv (.int .i64 0),.fv (.int .i64 0),.fv (.int .i64 0),.fv (.int .i64 0),.fv (.int .i64 0),.fv (.int .i64 0),.fv (.int .i64 0),.fv (.int .i64 0),.fv (.int .i64 0),.fv (.int .i64 0),.fv (.int .i64 0),.fv (.int .i64 0),.fv (.int .i64 0),.fv (.int .i64 0),.fv (.int .i64 0),.fv (.int .i64 0),.fv (.int .i64 0),.fv (.int .i64 0),.fv (.int .i64 0),.fv (.int .i64 0),.fv (.int .i64 0),.fv (.int .i64 0),.fv (.int .i64 0),.fv (.int .i64 0),.fv (.int .i64 0),.fv (.int .i64 0),.fv (.int .i64 0),.fv (.int .i64 0),.fv (.int .i64 0),.fv (.int .i64 0)]⟩))
 (.node 147 (.leaf 135 ⟨2,16,.struct [(0,96),(1,125)],[.fv (.nilp),.fv (.nilp)]⟩)
 (.leaf 147 ⟨1,1,.int .u8,[.fv (.int .u8 0)]⟩))))))
def AhN:List (Nat×List Bool):=[(61,[true,false,false,false]),(62,[true,false,false]),(63,[true,false,false]),(68,[false,true,false]),(71,[true,false,false]),(72,[true,false,false,false]),(88,[true,false]),(94,[true,false]),(95,[true,false]),(96,[true,false]),(97,[true,false]),(98,[true,false]),(99,[true]),(102,[true,false]),(103,[true,false,false,false]),(108,[true])]
def Agk:List (Nat×Nat×List Nat×List Nat):=[(5,11,[1,2,3,4,6,7,8,12,13,14,15,16,17,18,19,20,21,22,23,24,25,26,27,28,29,30,31,32,33,34,35,36,37,38,39,40,41,42,43,44,45,46,47,48,49,50,51,52,53,54,55,56,57,58,59,60,61,62,63,64,65,66,67,68,69,70,71,72,73,74,75,76,77,78,79,80,81,82,83,84,85,86,87,88,89,90],[]),
 (6,11,[1,2,3,4,5,6,7,11,12,13,14,15,16,17,18,19,20,21,22,23,24,25,26,27,28,29,30,31,32,33,34,35,36,37,38,39,40,41,42,43,44,45,46,47,48,49,50,51,52,53,54,55,56,57,58,59,60,61,62,63,64,65,66,67,68,69,70,71,72,73,74,75,76,77,78,79,80,81],[]),
 (9,11,[0,1,3,4,5,6,7,8,14,15,16,17,18,19,20,21,22,23,24,25,26,27,28,29,30,31,32,33,34,35,36,37,38,39,40,41,42,43,44,45,46,47,48,49,50,51,52,53,54,55,56,57,58,59,60,61,62,63,64,65,66,67,68,69,70,71,72,73,74,75,76,77,78,79,80,81,82,83],[]),
 (10,11,[0,2,3,4,12,13,14,15,16,17,18,19,20,21,22,23,24,25,26,27,28,29,30,31,32,33,34,35,36,37,38,39,40,41,42,43,44,45,46,47,48,49,50,51,52,53,54,55,56,57,58,59,60,61,62,63,64,65,66,67,68,69,70,71,72,73,74,75,76,77,78,79,80,81,82,83,84,85,86,87,88,89,90,91,92,93,94,95,96,97,98,99,100,101,102,103,104,105,106,107,108,109,110,111,112,113,114,115,116,117,118,119,120,121,122,123,124],[]),
 (17,4,[0,1,4,6,7,8,9,10,11,12,13,14,15,16,17,18,19,20,21,22,23,24,25,26,27,28,29,30,31,32,33,34,35,36,37,38,39,40,41,42,43,44,45],[]),
 (21,15,[0,4,5,10,11,12,13,14,15,16,17,18,19,20,21,22,23,24,25,26,27,28,29,30,31,32,33,34,35,36,37,38,39,40,41,42,43,44,45,46,47,48,49,50,51,52,53,54,55,56,57,58,59,60,61,62,63,64,65,66,67,68,69,70,71,72,73,74,75,76,77],[22037518]),
 (22,3,[0,2,5,6,7,8,9,10,11,12,13,14,15,16,17,18,19,20,21,22,23,24,25,26,27,28,29,30,31,32,33,34,35,36,37,38,39,40,41,42,43,44,45,46,47,48,49],[]),
 (27,3,[1,5,6,7,8,9,10,11,12,13,14],[]),
 (29,4,[0,2,4,5,6,7,8,9,10,11,12,13,14,15,16,17,18,19,20,21,22,23,24,25,26,27,28,29,30],[]),
 (30,15,[0,2,3,6,7,8,9,10,11,12,13,14,15,16,17,18,19,20,21,22,23,24,25,26,27,28,29,30,31,32,33,34,35,36,37,38,39,40,41,42,43,44,45,46,47,48,49,50,51,52,53,54,55,56,57,58,59,60,61],[]),
 (31,3,[0,2,5,6,7,8,9,10,11,12,13,14,15,16,17,18,19,20],[]),
 (36,3,[0,3,4,7,8,9,10,11,12,13,14,15,16,17,18,19,20,21,22,23,24,25,26,27,28,29,30],[]),
 (37,3,[1,2,5,6,7,8,9,10,11,12,13,14,15,16,17,18,19,20,21,22,23,24,25,26,27,28,29,30,31,32,33,34,35,36,37,38,39,40,41,42,43,44,45,46],[38803466]),
 (45,5,[0,4,5,9,10,11,12,13,14,15,16,17,18,19,20,21,22,23,24,25,26,27,28,29,30,31,32,33,34,35,36,37,38,39,40,41,42,43,44,45,46,47,48,49,50,51,52,53],[47193104]),
 (49,2,[3,4,5,6,8,10,11,12,13,14,15,16,17,18,19,20,21,22,23,24,25,26,27],[]),
 (58,3,[2,4,5,7,9,12,13,14,15,16,17,18,19,20,21,22,23,24,25,26,27,28,29,30,31,32,33,34,35,36,37,38,39,40,41,42,43,44,45,46,47,48,49,50,51,52,53,54,55,56,57,58,59,60,61,62,63,64,65,66,67,68,69,70,71],[60823568,60825603]),
 (61,10,[4,5,6,7,11,12,13,14,15,16,17,18,19,20,21,22,23,24,25,26,27,28,29,30,31,32,33,34,35,36,37,38,39,40,41,42,43,44,45,46,47,48,49,50,51,52,53,54,55,56,57,58,59,60,61,62,63,64,65,66,67,68,69,70,71,72,73,74,75,76,77,78,79,80,81,82,83,84,85,86,87,88,89,90,91,92,93,94,95,96,97,98,99,100,101,102,103,104,105,106,107,108,109,110,111,112,113,114,115,116,117,118,119,120,121,122,123,124,125,126,127,128,129,130],[63982597,63984651]),
 (61,17,[4,5,6,7,15,16,17,18,19,20,21,22,23,24,25,26,27,28,29,30,31,32,33,34,35,36,37,38,39,40,41,42,43,44,45,46,47,48,49,50,51,52,53,54,55,56,57,58,59,60,61,62,63,64,65,66,67,68,69,70,71,72,73,74,75,76,77,78,79,80,81,82,83,84,85,86,87,88,89,90,91,92,93,94,95,96,97,98,99,100,101,102,103,104,105,106,107,108,109,110,111,112,113,114,115,116,117,118,119,120,121,122,123,124,125,126,127,128,129,130],[63982597]),
 (62,9,[1,3,5,6,9,10,11,12,13,14,15,16,17,18,19,20,21,22,23,24,25,26,27,28,29,30,31,32,33,34,35,36,37,38,39,40,41,42,43,44,45,46,47,48,49,50,51,52,53,54,55,56,57,58,59,60,61,62,63,64,65,66,67,68,69,70,71,72,73,74,75,76,77,78,79,80,81,82,83,84,85,86,87,88,89,90,91,92,93,94,95],[65024012,65024014,65025038]),
 (63,7,[1,3,5,7,8,9,10,11,12,13,14,15,16,17,18,19,20,21,22,23,24,25,26,27,28,29,30,31,32,33,34,35,36,37,38,39,40,41,42,43,44,45,46,47,48,49,50,51,52,53,54,55,56,57,58,59,60,61,62,63,64,65,66,67,68],[]),
 (68,7,[0,3,4,5,6,7,8,9,10,11,12,13,14,15,16,17,18,19,20,21,22,23,24,25,26,27,28,29,30,31,32,33,34,35,36,37,38,42,43,44,45,46,47,48,49,50,51,52,53],[71311362]),
 (69,5,[0,1,2,3,4,5,6,7,8,9,10,11,12,13,14,15,16,17,18,19,20,21,22,23,24,25,26,27,28,32,33,34,35,36,37,38],[72357890]),
 (71,8,[2,3,4,6,8,9,10,11,12,13,14,15,16,17,18,19,20,21,22,23,24,25,26,27,28,29,30,31,32,33,34,35,36,37,41,42,43,44,45,46,47,48,49,50,51,52,53,54,55,56,57,58,59,60,61,62,63,64,65,66,67,68,69],[74458115]),
 (72,11,[4,5,6,7,10,11,12,13,14,15,16,17,18,19,20,21,22,23,24,25,26,27,28,29,30,31,32,33,34,35,36,37,38,39,40,41,42,43,44,45,46,47,48,49,50,51,52,53,54,55,56,57,58,59,60,61,62,63,64,65,66,67,68,71,72,73,74,75,76,77,78,79,80,81,82,83,84,85,86,87,88,89,90,91,92,93,94,95,96,97,98,99,100,101,102,103,104,105,106,107,108,109,110,111,112,113,114,115,116,117,118,119,120,121,122,123,124,125,126,127,128,129,130,131,132,133,134,135,136],[75512833,75516934]),
 (72,17,[4,5,6,7,11,14,15,16,17,18,19,20,21,22,23,24,25,26,27,28,29,30,31,32,33,34,35,36,37,38,39,40,41,42,43,44,45,46,47,48,49,50,51,52,53,54,55,56,57,58,59,60,61,62,63,64,65,66,67,68,71,72,73,74,75,76,77,78,79,80,81,82,83,84,85,86,87,88,89,90,93,94,95,96,97,98,99,100,101,102,103,104,105,106,107,108,109,110,111,112,113,114,115,116,117,118,119,120,121,122,123,124,125,126,127,128,129,130,131,132,133,134,135,136],[75516934]),
 (86,3,[0,5,6,7,8,9,10,11,12,13,14,15,16,17,18,19,20,21,22,23,24,25,26,27,28,29,30,31,32,33,34,35,36,37,38,39,40,41,42,43,44,45,46,47,48,49,50,51,52,53,54,55,56,57,58,59,60,61,62,63,64,65,66,67,68,69,70,71,72,73,74,75,76,77,78,79,80,81,82,83,84,85,86,87,88,89,90,91,92,93,94,95,96,97,98,99,100,101,102,103,104,105,106,107,108,109,110,111,112,113,114,115,116,117,118,119,120,121,122,123,124,125,126,127,128,129,130],[90182662,90185732]),
 (90,9,[0,3,5,6,11,12,13,14,15,16,17,18,19,20,21,22,23,24,25,26,27,28,29,30,31,32,33,34,35,36,37,38,39,40,41,42,43,44,45,46,47,48,49,50,51,52,53,54,55,56,57,58,59,60,61,62,63,64,65,66,67],[94384144]),
 (100,1,[2,3,4,5,6,7,8,9,10,11,12,13,14,15,16,17,18,19,20,21,22],[]),
 (104,2,[2,3,4,5,6,9,10,11,12,13,14,15,16,17,18],[]),
 (107,4,[0,3,4,6,7,8,9,10,11,12,13,14,15,16,17,18,19,20,21,22,23,24,25,26,27,28,29,30,31],[]),
 (111,2,[1,2,3,4,5,6,10,11,12,13,14,15,16,17,18],[116396035])]
def SZ (l:List Nat) (f:Nat):Bool:=l.any fun g=>Nat.beq g f
def AeI (f:Nat):List (Nat×List Bool)→List Bool
 | []=>[]
 | (g,k)::l=>if Nat.beq g f then k else AeI f l
def AeZ (f r:Nat):List (Nat×Nat×List Nat×List Nat)→List Nat×List Nat
 | []=>([],[])
 | (g,q,k)::l=>if Nat.beq g f && Nat.beq q r then k else AeZ f r l
def pol:Pol where
 inl:=SZ [70]
 keep:=fun f=>AeI f AhN
 raw:=SZ [70]
 head:=fun f r=>AeZ f r Agk
 rowApp:=fun f _ _=>SZ [] f
 fzBox:=fun f _ _=>SZ [61,72,111] f
 split:=SZ []
def EE:Env:=⟨Try.prog,tab.get,pol⟩
set_option maxRecDepth 100000 in
theorem Ake:tab.leaves.map (fun p=>Agn Try.prog p.1)=tab.leaves.map (fun p=>some p.2):=by kernel_rfl
theorem AeJ:Try.prog.follows .mixedOrders=true:=by kernel_rfl
theorem AcA:WZ Try.prog=true:=by kernel_rfl
theorem AeV:Ys Try.prog=true:=by kernel_rfl
def ft:FTr :=
 .node 57 (.node 29 (.node 15 (.node 8 (.node 5 (.node 3 (.leaf 2 Try.f2)
 (.node 4 (.leaf 3 Try.f3)
 (.leaf 4 Try.f4)))
 (.node 6 (.leaf 5 Try.f5)
 (.node 7 (.leaf 6 Try.f6)
 (.leaf 7 Try.f7))))
 (.node 11 (.node 9 (.leaf 8 Try.f8)
 (.node 10 (.leaf 9 Try.f9)
 (.leaf 10 Try.f10)))
 (.node 13 (.node 12 (.leaf 11 Try.f11)
 (.leaf 12 Try.f12))
 (.node 14 (.leaf 13 Try.f13)
 (.leaf 14 Try.f14)))))
 (.node 22 (.node 18 (.node 16 (.leaf 15 Try.f15)
 (.node 17 (.leaf 16 Try.f16)
 (.leaf 17 Try.f17)))
 (.node 20 (.node 19 (.leaf 18 Try.f18)
 (.leaf 19 Try.f19))
 (.node 21 (.leaf 20 Try.f20)
 (.leaf 21 Try.f21))))
 (.node 25 (.node 23 (.leaf 22 Try.f22)
 (.node 24 (.leaf 23 Try.f23)
 (.leaf 24 Try.f24)))
 (.node 27 (.node 26 (.leaf 25 Try.f25)
 (.leaf 26 Try.f26))
 (.node 28 (.leaf 27 Try.f27)
 (.leaf 28 Try.f28))))))
 (.node 43 (.node 36 (.node 32 (.node 30 (.leaf 29 Try.f29)
 (.node 31 (.leaf 30 Try.f30)
 (.leaf 31 Try.f31)))
 (.node 34 (.node 33 (.leaf 32 Try.f32)
 (.leaf 33 Try.f33))
 (.node 35 (.leaf 34 Try.f34)
 (.leaf 35 Try.f35))))
 (.node 39 (.node 37 (.leaf 36 Try.f36)
 (.node 38 (.leaf 37 Try.f37)
 (.leaf 38 Try.f38)))
 (.node 41 (.node 40 (.leaf 39 Try.f39)
 (.leaf 40 Try.f40))
 (.node 42 (.leaf 41 Try.f41)
 (.leaf 42 Try.f42)))))
 (.node 50 (.node 46 (.node 44 (.leaf 43 Try.f43)
 (.node 45 (.leaf 44 Try.f44)
 (.leaf 45 Try.f45)))
 (.node 48 (.node 47 (.leaf 46 Try.f46)
 (.leaf 47 Try.f47))
 (.node 49 (.leaf 48 Try.f48)
 (.leaf 49 Try.f49))))
 (.node 53 (.node 51 (.leaf 50 Try.f50)
 (.node 52 (.leaf 51 Try.f51)
 (.leaf 52 Try.f52)))
 (.node 55 (.node 54 (.leaf 53 Try.f53)
 (.leaf 54 Try.f54))
 (.node 56 (.leaf 55 Try.f55)
 (.leaf 56 Try.f56)))))))
 (.node 84 (.node 70 (.node 63 (.node 60 (.node 58 (.leaf 57 Try.f57)
 (.node 59 (.leaf 58 Try.f58)
 (.leaf 59 Try.f59)))
 (.node 61 (.leaf 60 Try.f60)
 (.node 62 (.leaf 61 Try.f61)
 (.leaf 62 Try.f62))))
 (.node 66 (.node 64 (.leaf 63 Try.f63)
 (.node 65 (.leaf 64 Try.f64)
 (.leaf 65 Try.f65)))
 (.node 68 (.node 67 (.leaf 66 Try.f66)
 (.leaf 67 Try.f67))
 (.node 69 (.leaf 68 Try.f68)
 (.leaf 69 Try.f69)))))
 (.node 77 (.node 73 (.node 71 (.leaf 70 Try.f70)
 (.node 72 (.leaf 71 Try.f71)
 (.leaf 72 Try.f72)))
 (.node 75 (.node 74 (.leaf 73 Try.f73)
 (.leaf 74 Try.f74))
 (.node 76 (.leaf 75 Try.f75)
 (.leaf 76 Try.f76))))
 (.node 80 (.node 78 (.leaf 77 Try.f77)
 (.node 79 (.leaf 78 Try.f78)
 (.leaf 79 Try.f79)))
 (.node 82 (.node 81 (.leaf 80 Try.f80)
 (.leaf 81 Try.f81))
 (.node 83 (.leaf 82 Try.f82)
 (.leaf 83 Try.f83))))))
 (.node 98 (.node 91 (.node 87 (.node 85 (.leaf 84 Try.f84)
 (.node 86 (.leaf 85 Try.f85)
 (.leaf 86 Try.f86)))
 (.node 89 (.node 88 (.leaf 87 Try.f87)
 (.leaf 88 Try.f88))
 (.node 90 (.leaf 89 Try.f89)
 (.leaf 90 Try.f90))))
 (.node 94 (.node 92 (.leaf 91 Try.f91)
 (.node 93 (.leaf 92 Try.f92)
 (.leaf 93 Try.f93)))
 (.node 96 (.node 95 (.leaf 94 Try.f94)
 (.leaf 95 Try.f95))
 (.node 97 (.leaf 96 Try.f96)
 (.leaf 97 Try.f97)))))
 (.node 105 (.node 101 (.node 99 (.leaf 98 Try.f98)
 (.node 100 (.leaf 99 Try.f99)
 (.leaf 100 Try.f100)))
 (.node 103 (.node 102 (.leaf 101 Try.f101)
 (.leaf 102 Try.f102))
 (.node 104 (.leaf 103 Try.f103)
 (.leaf 104 Try.f104))))
 (.node 108 (.node 106 (.leaf 105 Try.f105)
 (.node 107 (.leaf 106 Try.f106)
 (.leaf 107 Try.f107)))
 (.node 110 (.node 109 (.leaf 108 Try.f108)
 (.leaf 109 Try.f109))
 (.node 111 (.leaf 110 Try.f110)
 (.leaf 111 Try.f111)))))))
theorem Anq:∀f fn,ft.get f=some fn→EE.P.funcs[f]?=some fn:=FTr.ok (by kernel_rfl)
theorem Anw:EnvOk EE:=AkL Ake AeJ AcA AeV
section lists
variable {α β:Type}
def C4 (l:List α) (i:Nat) (k:α→Option β):Option β :=
 List.rec (motive:=fun _=>Nat→Option β) (fun _=>none) (fun x _ ih i=>Nat.rec (motive:=fun _=>Option β) (k x) (fun p _=>ih p) i) l i
theorem CL (l:List α) (i:Nat) (k:α→Option β):C4 l i k=(l[i]?).bind k:=by
 induction l generalizing i with
 | nil=>rfl
 | cons x l ih=>cases i with
  | zero=>rfl
  | succ i=>exact ih i
def Fd (l:List α) (n:Nat) (k:List α→Option β):Option β :=
 List.rec (motive:=fun _=>Nat→Option β) (fun n=>Nat.rec (motive:=fun _=>Option β) (k []) (fun _ _=>none) n) (fun x t ih n=>Nat.rec (motive:=fun _=>Option β) (k (x::t)) (fun p _=>ih p) n) l n
theorem Kg (l:List α) (n:Nat) (k:List α→Option β):Fd l n k=if n≤l.length then k (l.drop n) else none:=by
 induction l generalizing n with
 | nil=>cases n with
  | zero=>rfl
  | succ n=>rw [if_neg (by simp)];rfl
 | cons x l ih=>cases n with
  | zero=>rw [if_pos (Nat.zero_le _)];rfl
  | succ n=>rw [show Fd (x::l) (n+1) k=Fd l n k from rfl,ih];simp
def Fv (l:List α) (n:Nat) (k:List α→Option β):Option β :=
 List.rec (motive:=fun _=>Nat→(List α→Option β)→Option β) (fun n k=>Nat.rec (motive:=fun _=>Option β) (k []) (fun _ _=>none) n)
  (fun x _ ih n k=>Nat.rec (motive:=fun _=>Option β) (k []) (fun p _=>ih p fun xs=>k (x::xs)) n) l n k
theorem Js (l:List α) (n:Nat) (k:List α→Option β):Fv l n k=if n≤l.length then k (l.take n) else none:=by
 induction l generalizing n k with
 | nil=>cases n with
  | zero=>rfl
  | succ n=>rw [if_neg (by simp)];rfl
 | cons x l ih=>cases n with
  | zero=>rw [if_pos (Nat.zero_le _)];rfl
  | succ n=>rw [show Fv (x::l) (n+1) k=Fv l n (fun xs=>k (x::xs)) from rfl,ih];simp
def OE (l:List α) (j:Nat) (b:α) (k:List α→Option β):Option β :=
 List.rec (motive:=fun _=>Nat→(List α→Option β)→Option β) (fun _ k=>k []) (fun x t ih j k=>Nat.rec (motive:=fun _=>Option β) (k (b::t)) (fun p _=>ih p fun xs=>k (x::xs)) j) l j k
theorem AdX (l:List α) (j:Nat) (b:α) (k:List α→Option β):OE l j b k=k (l.set j b):=by
 induction l generalizing j k with
 | nil=>rfl
 | cons x l ih=>cases j with
  | zero=>rfl
  | succ j=>rw [show OE (x::l) (j+1) b k=OE l j b (fun xs=>k (x::xs)) from rfl,ih];rfl
def AA (l:List α) (k:α→List α→Option β):Option β:=List.casesOn (motive:=fun _=>Option β) l none k
end lists
section
variable {α:Type}
def fRf (r:Ref) (k:Ref→α):α:=match r with
 | .own n=>DN n fun n=>k (.own n)
 | .ext n=>DN n fun n=>k (.ext n)
theorem Ma (r:Ref) (k:Ref→α):fRf r k=k r:=by cases r<;>simp [fRf,BE]
def fV:Nat→IV→(IV→α)→α
 | 0,v,k=>k v
 | d+1,v,k=>match v with
  | .dead=>k .dead
  | .fv v=>fFV d v fun v=>k (.fv v)
  | .ptr r o=>fRf r fun r=>DN o fun o=>k (.ptr r o)
  | .slc r sz n=>fRf r fun r=>DN sz fun sz=>DN n fun n=>k (.slc r sz n)
  | .nils=>k .nils
  | .emp=>k .emp
  | .clip es=>fL (fFV d) es fun es=>k (.clip es)
  | .app r es=>fRf r fun r=>fL (fFV d) es fun es=>k (.app r es)
  | .func fn a b=>fL (fV d) a fun a=>fL (fV d) b fun b=>k (.func fn a b)
  | .agg cs=>fL (fV d) cs fun cs=>k (.agg cs)
  | .tuple cs=>fL (fV d) cs fun cs=>k (.tuple cs)
  | .mapr r=>fRf r fun r=>k (.mapr r)
theorem Ce:∀(d:Nat) (v:IV) (k:IV→α),fV d v k=k v
 | 0,_,_=>rfl
 | d+1,v,k=>by cases v<;>simp [fV,Df (Ce d),Df (MM d),MM,BE,Ma]
def fBk (b:Blk) (k:Blk→α):α:=match b with
 | .row cs ro=>fL (fV 3) cs fun cs=>k (.row cs ro)
 | .tok n sz=>DN n fun n=>DN sz fun sz=>k (.tok n sz)
 | .map es=>fL (fun (p:Int×IV) k=>match p with | (n,v)=>Ag3 n fun n=>fV 4 v fun v=>k (n,v)) es fun es=>k (.map es)
theorem Cw (b:Blk) (k:Blk→α):fBk b k=k b:=by
 cases b with
 | row cs ro=>simp only [fBk];rw [Df (Ce 3)]
 | tok n sz=>simp only [fBk];rw [BE,BE]
 | map es =>
  simp only [fBk];rw [Df];rintro ⟨n,v⟩ k;simp only;rw [V7,Ce]
def fOw (p:Nat×Blk) (k:Nat×Blk→α):α:=match p with | (n,b)=>DN n fun n=>fBk b fun b=>k (n,b)
theorem Ajq (p:Nat×Blk) (k:Nat×Blk→α):fOw p k=k p:=by
 obtain ⟨n,b⟩:=p;simp only [fOw];rw [BE,Cw]
def fH (h:Hp) (k:Hp→α):α:=match h with | ⟨own,ext⟩=>fL fOw own fun own=>fL fBk ext fun ext=>k ⟨own,ext⟩
theorem K3 (h:Hp) (k:Hp→α):fH h k=k h:=by
 obtain ⟨a,b⟩:=h;simp only [fH];rw [Df Ajq,Df Cw]
end
section
variable {β:Type}
def Ga (l:List (Nat×Blk)) (s:Nat) (k:Blk→Option β):Option β :=
 List.rec (motive:=fun _=>Option β) none (fun p _ ih=>match p with | (j,b)=>cond (Nat.beq s j) (k b) ih) l
theorem GN {α:Type} (a b:Nat) (x y:α):cond (Nat.beq a b) x y=if a=b then x else y:=by
 cases h:Nat.beq a b with
 | true=>rw [if_pos (Nat.eq_of_beq_eq_true h)];rfl
 | false=>rw [if_neg (fun e=>by rw [e,show Nat.beq b b=true from Nat.beq_refl b] at h;cases h)];rfl
theorem Br (l:List (Nat×Blk)) (s:Nat) (k:Blk→Option β):Ga l s k=(Ap s l).bind k:=by
 induction l with
 | nil=>rfl
 | cons p l ih =>
  obtain ⟨j,b⟩:=p;rw [show Ga ((j,b)::l) s k=cond (Nat.beq s j) (k b) (Ga l s k) from rfl,GN,ih]
  simp only [Ap];split<;>rfl
def CV (r:Ref) (h:Hp) (k:Blk→Option β):Option β:=match h with
 | ⟨own,ext⟩=>match r with
  | .own s=>Ga own s k
  | .ext j=>C4 ext j k
theorem El (r:Ref) (h:Hp) (k:Blk→Option β):CV r h k=(h.get r).bind k:=by
 obtain ⟨own,ext⟩:=h;cases r with
 | own s=>exact Br ..
 | ext j=>exact CL ..
def A0 (l:List (Nat×Blk)) (s:Nat) (b:Blk) (k:List (Nat×Blk)→Option β):Option β :=
 List.rec (motive:=fun _=>(List (Nat×Blk)→Option β)→Option β) (fun k=>k [(s,b)])
  (fun p t ih k=>match p with | (j,c)=>cond (Nat.beq s j) (k ((j,b)::t)) (ih fun l=>k ((j,c)::l))) l k
theorem BO (l:List (Nat×Blk)) (s:Nat) (b:Blk) (k:List (Nat×Blk)→Option β):A0 l s b k=k (AM s b l):=by
 induction l generalizing k with
 | nil=>rfl
 | cons p l ih =>
  obtain ⟨j,c⟩:=p;rw [show A0 ((j,c)::l) s b k=cond (Nat.beq s j) (k ((j,b)::l)) (A0 l s b fun l=>k ((j,c)::l)) from rfl,GN,ih]
  simp only [AM];split<;>rfl
def Fu (r:Ref) (b:Blk) (h:Hp) (k:Hp→Option β):Option β:=match h with
 | ⟨own,ext⟩=>match r with
  | .own s=>A0 own s b fun own=>k ⟨own,ext⟩
  | .ext j=>OE ext j b fun ext=>k ⟨own,ext⟩
theorem Km (r:Ref) (b:Blk) (h:Hp) (k:Hp→Option β):Fu r b h k=k (h.set r b):=by
 obtain ⟨own,ext⟩:=h;cases r with
 | own s=>exact BO ..
 | ext j=>exact AdX ..
def N7 (x:IV) (e:Option β) (k:FV→Option β):Option β:=match x with
 | .fv v=>k v
 | _=>e
def AcR (v:FV) (e:Option β) (k:Nat→Option β):Option β:=match v with
 | .int .i64 (.ofNat n)=>k n
 | _=>e
def J1 (x:IV) (e:Option β) (k:Nat→Option β):Option β:=N7 x e fun v=>AcR v e k
theorem E5 {x:IV} {e:Option β} {k:Nat→Option β} {r:β} (h:J1 x e k=some r):(∃n:Nat,x=.fv (.int .i64 n)∧k n=some r)∨e=some r:=by
 unfold J1 N7 at h;split at h
 ·simp only [AcR] at h;split at h
  ·exact .inl ⟨_,rfl,h⟩
  ·exact .inr h
 ·exact .inr h
def MD (n:Nat) (k:IV→Option β):Option β:=DN n fun n=>k (.fv (.int .i64 (.ofNat n)))
theorem C8 (n:Nat) (k:IV→Option β):MD n k=k (.fv (.int .i64 n)):=by rw [MD,BE];rfl
def AeF (b:Bool) (k:IV→Option β):Option β:=cond b (k (.fv (.bool true))) (k (.fv (.bool false)))
theorem Tl (b:Bool) (k:IV→Option β):AeF b k=k (.fv (.bool b)):=by cases b<;>rfl
def DP (o:Option IV) (k:IV→Option β):Option β:=match o with
 | none=>none
 | some v=>fS v k
theorem Cs (o:Option IV) (k:IV→Option β):DP o k=o.bind k:=by
 cases o with
 | none=>rfl
 | some v=>exact Anb v k
def Cf (l:List IV) (e:Option β) (k:List FV→Option β):Option β :=
 List.rec (motive:=fun _=>(List FV→Option β)→Option β) (fun k=>k []) (fun x _ ih k=>N7 x e fun v=>ih fun vs=>k (v::vs)) l k
theorem ON (l:List IV) (e:Option β) (k:List FV→Option β):Cf l e k=match FF l with | some vs=>k vs | none=>e:=by
 induction l generalizing k with
 | nil=>rfl
 | cons x l ih =>
  rw [show Cf (x::l) e k=N7 x e fun v=>Cf l e fun vs=>k (v::vs) from rfl]
  cases x<;>simp only [N7,FF];rw [ih];cases FF l<;>rfl
def Oe (l:List IV) (k:IV→Option β):Option β:=Cf l (k (.agg l)) fun vs=>k (.fv (.agg vs))
theorem PF (l:List IV) (k:IV→Option β):Oe l k=k (Fb l):=by
 rw [Oe,ON,Fb];cases FF l<;>rfl
def Ul (l:List IV) (k:IV→Option β):Option β:=Cf l (k (.tuple l)) fun vs=>k (.fv (.tuple vs))
theorem Z0 (l:List IV) (k:IV→Option β):Ul l k=k (Ch l):=by
 rw [Ul,ON,Ch];cases FF l<;>rfl
def Aij (v:FV) (a b:Option β):Option β:=match v with
 | .bool t=>cond t a b
 | _=>none
def Aj (v:IV) (a b:Option β):Option β:=match v with
 | .fv v=>Aij v a b
 | _=>none
theorem SM {v:IV} {a b:Option β} {r:β} (h:Aj v a b=some r):∃t:Bool,v=.fv (.bool t)∧(if t then a else b)=some r:=by
 unfold Aj at h;split at h
 ·unfold Aij at h;split at h
  ·rename_i t;refine ⟨t,rfl,?_⟩;cases t<;>exact h
  ·cases h
 ·cases h
def AF (c a b:IV) (k:IV→Option β):Option β:=Aj c (k a) (k b)
section
variable (E:Env) (t:TypeId)
def CA (op:BinOp) (x y:IV) (k:IV→Option β):Option β:=DP (Fp E op t x y) k
def Bz (x y:IV) (k:IV→Option β):Option β :=
 J1 x (CA E t .add x y k) fun a=>J1 y (CA E t .add x y k) fun b=>cond (Nat.ble (a+b) 9223372036854775807) (MD (a+b) k) (CA E t .add x y k)
def Ba (x y:IV) (k:IV→Option β):Option β :=
 J1 x (CA E t .sub x y k) fun a=>J1 y (CA E t .sub x y k) fun b=>cond (and (Nat.ble b a) (Nat.ble a 9223372036854775807)) (MD (a - b) k) (CA E t .sub x y k)
def PL (op:BinOp) (g:Nat→Nat→Bool) (x y:IV) (k:IV→Option β):Option β :=
 J1 x (CA E t op x y k) fun a=>J1 y (CA E t op x y k) fun b=>AeF (g a b) k
def AZ (x y:IV) (k:IV→Option β):Option β:=PL E t .eql Nat.beq x y k
def Ig (x y:IV) (k:IV→Option β):Option β:=PL E t .neq (fun a b=>not (Nat.beq a b)) x y k
def G6 (x y:IV) (k:IV→Option β):Option β:=PL E t .lss (fun a b=>Nat.ble (Nat.succ a) b) x y k
def leS (x y:IV) (k:IV→Option β):Option β:=PL E t .leq Nat.ble x y k
def Kx (x y:IV) (k:IV→Option β):Option β:=PL E t .gtr (fun a b=>Nat.ble (Nat.succ b) a) x y k
def geS (x y:IV) (k:IV→Option β):Option β:=PL E t .geq (fun a b=>Nat.ble b a) x y k
def AeQ (op:BinOp) (x y:IV) (k:IV→Option β):Option β:=match op with
 | .add=>Bz E t x y k
 | .sub=>Ba E t x y k
 | .eql=>AZ E t x y k
 | .neq=>Ig E t x y k
 | .lss=>G6 E t x y k
 | .leq=>leS E t x y k
 | .gtr=>Kx E t x y k
 | .geq=>geS E t x y k
 | op=>CA E t op x y k
end
theorem Ui {n:Nat} (h:n≤9223372036854775807):IntKind.i64.wrap (n:Int)=n:=by
 have e:(n:Int) % (18446744073709551616:Int)=n:=by omega
 have e2:¬ (n:Int) ≥ (9223372036854775808:Int):=by omega
 show (if (true && decide (((n:Int) % (18446744073709551616:Int)) ≥ (9223372036854775808:Int)))=true then ((n:Int) % (18446744073709551616:Int)) - (18446744073709551616:Int) else ((n:Int) % (18446744073709551616:Int)))=n
 rw [e,decide_eq_false e2];rfl
def GZ (v:FV) (k:List FV→Option β):Option β:=match v with
 | .agg cs=>k cs
 | _=>none
def asAgg (x:IV) (k:List IV→Option β) (kf:List FV→Option β):Option β:=match x with
 | .agg cs=>k cs
 | .fv v=>GZ v kf
 | _=>none
def AkB (o:Nat) (x:IV) (k:IV→Option β):Option β:=asAgg x (fun cs=>C4 cs o k) fun cs=>C4 cs o fun v=>k (.fv v)
def Aj5 (size o:Nat) (x:IV) (k:IV→Option β):Option β :=
 asAgg x (fun cs=>Fd cs o fun cs=>Fv cs size fun cs=>Oe cs k) fun cs=>Fd cs o fun cs=>Fv cs size fun cs=>k (.fv (.agg cs))
def DU (b:Blk) (k:List IV→Option β):Option β:=match b with
 | .row cells _=>k cells
 | _=>none
def GJ (b:Blk) (k:List IV→Option β):Option β:=match b with
 | .row cells ro=>cond ro none (k cells)
 | _=>none
def AmV (v:FV) (k:List FV→Nat→Option β):Option β:=match v with
 | .fp cs o=>k cs o
 | _=>none
def EF (x:IV) (k:Ref→Nat→Option β) (kf:List FV→Nat→Option β):Option β:=match x with
 | .ptr r o=>k r o
 | .fv v=>AmV v kf
 | _=>none
def Ae (a:IV) (h:Hp) (k:IV→List Ref→Option β):Option β :=
 EF a (fun r o=>CV r h fun b=>DU b fun cells=>C4 cells o fun v=>k v [r]) fun cells o=>C4 cells o fun v=>k (.fv v) []
def Ai (size:Nat) (a:IV) (h:Hp) (k:IV→List Ref→Option β):Option β :=
 EF a (fun r o=>CV r h fun b=>DU b fun cells=>Fd cells o fun cs=>Fv cs size fun cs=>Oe cs fun v=>k v [r])
  fun cells o=>Fd cells o fun cs=>Fv cs size fun cs=>k (.fv (.agg cs)) []
def spK {α:Type} (l:List α) (k:List α→Option β):Option β :=
 List.rec (motive:=fun _=>(List α→Option β)→Option β) (fun k=>k []) (fun x _ ih k=>ih fun xs=>k (x::xs)) l k
theorem Hh {α:Type} (l:List α) (k:List α→Option β):spK l k=k l:=by
 induction l generalizing k with
 | nil=>rfl
 | cons x l ih=>rw [show spK (x::l) k=spK l (fun xs=>k (x::xs)) from rfl,ih]
def Gu (l:List IV) (j:Nat) (b:IV) (k:List IV→Option β):Option β :=
 List.rec (motive:=fun _=>Nat→(List IV→Option β)→Option β) (fun _ _=>none) (fun x t ih j k=>Nat.rec (motive:=fun _=>Option β) (k (b::t)) (fun p _=>ih p fun xs=>k (x::xs)) j) l j k
theorem AaW (l:List IV) (j:Nat) (b:IV) (k:List IV→Option β):Gu l j b k=if j<l.length then k (l.set j b) else none:=by
 induction l generalizing j k with
 | nil=>rw [if_neg (by simp)];rfl
 | cons x l ih=>cases j with
  | zero=>rw [if_pos (by simp)];rfl
  | succ j=>rw [show Gu (x::l) (j+1) b k=Gu l j b (fun xs=>k (x::xs)) from rfl,ih];simp
theorem KL {v:IV} (h:v.one=true):v.cells=[v]∧v.alive=true:=by
 cases v with
 | fv w=>cases w<;>simp_all [IV.one,IV.cells,IV.alive]
 | _=>simp_all [IV.one,IV.cells,IV.alive]
def wrK (cs:List FV):List IV→(List IV→Option β)→Option β :=
 List.rec (motive:=fun _=>List IV→(List IV→Option β)→Option β) (fun l k=>k l) (fun c _ ih l k=>AA l fun _ t=>ih t fun t'=>k (.fv c::t')) cs
def DQ (l:List IV) (o:Nat) (cs:List FV) (k:List IV→Option β):Option β :=
 List.rec (motive:=fun _=>Nat→(List IV→Option β)→Option β) (fun o k=>Nat.rec (motive:=fun _=>Option β) (wrK cs [] k) (fun _ _=>none) o)
  (fun x t ih o k=>Nat.rec (motive:=fun _=>Option β) (wrK cs (x::t) k) (fun p _=>ih p fun t'=>k (x::t')) o) l o k
theorem F8 (x:IV):∀(vs l:List IV) (o:Nat),A3 (x::l) (o+1) vs=x::A3 l o vs
 | [],_,_=>rfl
 | v::vs,l,o=>by
  simp only [A3,List.set_cons_succ];exact F8 x vs (l.set o v) (o+1)
theorem Ud:∀(cs:List FV) (l:List IV) {k:List IV→Option β} {r:β},wrK cs l k=some r→cs.length≤l.length∧k (A3 l 0 (cs.map .fv))=some r
 | [],l,k,r,h=>⟨Nat.zero_le _,h⟩
 | c::cs,l,k,r,h=>by
  have h:(AA l fun _ t=>wrK cs t fun t'=>k (.fv c::t'))=some r:=h;cases l with
  | nil=>cases h
  | cons x t =>
   have h:(wrK cs t fun t'=>k (.fv c::t'))=some r:=h;obtain ⟨h1,h2⟩:=Ud cs t h;refine ⟨by simp;omega,?_⟩;simp only [Arl,A3,List.set_cons_zero,Nat.zero_add];rw [F8];exact h2
theorem Nn:∀(l:List IV) (o:Nat) (cs:List FV) {k:List IV→Option β} {r:β},DQ l o cs k=some r→o+cs.length≤l.length∧k (A3 l o (cs.map .fv))=some r
 | [],0,cs,k,r,h=>by
  obtain ⟨h1,h2⟩:=Ud cs [] h;exact ⟨by simpa using h1,h2⟩
 | [],o+1,cs,k,r,h=>by cases h
 | x::t,0,cs,k,r,h=>by
  obtain ⟨h1,h2⟩:=Ud cs (x::t) h;exact ⟨by simpa using h1,h2⟩
 | x::t,o+1,cs,k,r,h=>by
  have h:(DQ t o cs fun t'=>k (x::t'))=some r:=h;obtain ⟨h1,h2⟩:=Nn t o cs h;exact ⟨by simp;omega,by rw [F8];exact h2⟩
def Hr (v:FV):Bool:=match v with
 | .agg _=>false
 | .tuple _=>false
 | _=>true
def Dx (l:List FV):Bool:=List.rec (motive:=fun _=>Bool) true (fun v _ ih=>cond (Hr v) ih false) l
theorem M7:∀(l:List FV),Dx l=true→(l.map IV.fv).all IV.one=true
 | [],_=>rfl
 | v::l,h=>by
  have h:cond (Hr v) (Dx l) false=true:=h;cases hv:Hr v with
  | false=>rw [hv] at h;cases h
  | true =>
   rw [hv] at h;simp only [Arl,List.all_cons,M7 l h,Bool.and_true];cases v<;>first | rfl | cases hv
def Al (size:Nat) (a x:IV) (h:Hp) (k:Hp→List Ref→List Ref→Option β):Option β :=
 EF a (fun r o=>CV r h fun b=>GJ b fun cells=>N7 x (if x.alive∧x.cells.length=size∧o+size≤cells.length∧x.cells.all IV.one∧Fr r x then
  spK (A3 cells o x.cells) fun cells=>Fu r (.row cells false) h fun h=>k h [r] [r] else none) fun v=>GZ v fun cs=>cond (and (Nat.beq cs.length size) (Dx cs)) (DQ cells o cs fun cells=>Fu r (.row cells false) h fun h=>k h [r] [r]) none) fun _ _=>none
def Bj (a x:IV) (h:Hp) (k:Hp→List Ref→List Ref→Option β):Option β :=
 cond x.one (EF a (fun r o=>CV r h fun b=>GJ b fun cells=>cond (Fr r x) (Gu cells o x fun cells=>Fu r (.row cells false) h fun h=>k h [r] [r]) none) fun _ _=>none) (Al 1 a x h k)
def Ahd (fn:Fn) (k:FuncId→Option β):Option β:=match fn with
 | .func g=>k g
 | _=>none
def AmT (v:FV) (k:IV→Option β):Option β:=match v with
 | .fp cs o=>k (.fv (.fp cs o))
 | .func fn a b=>Ahd fn fun g=>k (.fv (.func (.func g) a b))
 | _=>none
def AC (x:IV) (k:IV→Option β):Option β:=match x with
 | .ptr r o=>k (.ptr r o)
 | .fv v=>AmT v k
 | .func fn a b=>Ahd fn fun g=>k (.func (.func g) a b)
 | _=>none
def Ac (o:Nat) (x:IV) (k:IV→Option β):Option β :=
 EF x (fun r off=>DN (off+o) fun o=>k (.ptr r o)) fun cs off=>DN (off+o) fun o=>k (.fv (.fp cs o))
def Ah1 (n:Int) (k:Nat→Option β):Option β:=match n with
 | .ofNat m=>k m
 | _=>none
def AhV (v:FV) (k:Nat→Option β):Option β:=match v with
 | .int _ n=>Ah1 n k
 | _=>none
def AbN (i:IV) (k:Nat→Option β):Option β:=N7 i none fun v=>AhV v k
theorem RQ {i:IV} {k:Nat→Option β} {r:β} (h:AbN i k=some r):∃kd,∃n:Nat,i=.fv (.int kd n)∧k n=some r:=by
 unfold AbN N7 at h;split at h
 ·simp only [AhV] at h;split at h
  ·simp only [Ah1] at h;split at h
   ·exact ⟨_,_,rfl,h⟩
   ·cases h
  ·cases h
 ·cases h
def AoU (v:FV) (k:List FV→Option β):Option β:=match v with
 | .sl es=>k es
 | _=>none
def Alk (x:IV) (k:List FV→Option β):Option β:=match x with
 | .nils=>k []
 | .emp=>k []
 | .clip es=>k es
 | .app _ es=>k es
 | .fv v=>AoU v k
 | _=>none
theorem WM (x:IV) (k:List FV→Option β):Alk x k=(B4 x).bind k:=by
 cases x with
 | fv v=>cases v<;>rfl
 | _=>rfl
def elK (size:Nat) (el:FV) (k:IV→Option β):Option β:=match el with
 | .agg cs=>cond (Nat.beq cs.length size) (k (.fv (.fp cs 0))) none
 | v=>cond (Nat.beq 1 size) (k (.fv (.fp [v] 0))) none
theorem Ade (size:Nat) (el:FV) (k:IV→Option β):elK size el k=if el.cells.length=size then k (.fv (.fp el.cells 0)) else none:=by
 cases el<;>simp only [elK,GN,FV.cells]<;>rfl
def AaB (x:IV) (k:Ref→Nat→Nat→Option β) (e:Option β):Option β:=match x with
 | .slc r sz len=>k r sz len
 | _=>e
def Bf (size:Nat) (x i:IV) (k:IV→Option β):Option β :=
 AbN i fun n=>AaB x (fun r sz len=>cond (and (Nat.ble (Nat.succ n) len) (Nat.beq sz size)) (DN (n * sz) fun o=>k (.ptr r o)) none) (Alk x fun es=>C4 es n fun el=>elK size el k)
def ixA (m size:Nat) (x i:IV) (k:IV→Option β):Option β :=
 AbN i fun n=>cond (Nat.ble (Nat.succ n) m) (EF x (fun r o=>DN (o+n * size) fun o=>k (.ptr r o)) fun cells o=>DN (o+n * size) fun o=>k (.fv (.fp cells o))) none
def Ama (m size:Nat) (x i:IV) (k:IV→Option β):Option β :=
 AbN i fun n=>cond (Nat.ble (Nat.succ n) m) (N7 x none fun v=>GZ v fun cs=>C4 cs (n * size) fun v=>k (.fv v)) none
def Am3 (v:FV) (k:List FV→Option β):Option β:=match v with
 | .tuple vs=>k vs
 | _=>none
def AN (ix:Nat) (x:IV) (k:IV→Option β):Option β:=match x with
 | .tuple vs=>C4 vs ix k
 | .fv v=>Am3 v fun vs=>C4 vs ix fun v=>k (.fv v)
 | _=>none
def Ca (x:IV) (k:IV→Option β):Option β:=AaB x (fun _ _ n=>MD n k) (Alk x fun es=>MD es.length k)
def WO (z:List IV) (o sz:Nat) (v:IV) (k:List IV→Option β):Option β :=
 cond v.one (cond (Nat.beq sz 1) (Gu z o v k) none) (if v.alive∧v.cells.length=sz∧o+sz≤z.length then spK (A3 z o v.cells) k else none)
def G7 (z:List IV) (o sz:Nat) (v:IV) (k:List IV→Option β):Option β :=
 N7 v (WO z o sz v k) fun w=>cond (Hr w) (cond (Nat.beq sz 1) (Gu z o v k) none) (GZ w fun cs=>cond (Nat.beq cs.length sz) (DQ z o cs k) none)
def MR (z:List IV) (pl:List (Nat×Nat×IV)) (k:List IV→Option β):Option β :=
 List.rec (motive:=fun _=>List IV→Option β) (fun z=>k z) (fun p _ ih z=>match p with
  | (o,sz,v)=>G7 z o sz v ih) pl z
def Bw (z:List IV) (pl:List (Nat×Nat×IV)) (k:IV→Option β):Option β:=MR z pl fun cells=>Oe cells k
def KV {α:Type} (place:Nat→Option (Nat×Nat)):List (Nat×α)→Option (List (Nat×Nat×α))
 | []=>some []
 | (i,x)::l=>match place i with
  | none=>none
  | some (o,s)=>match KV place l with
   | none=>none
   | some r=>some ((o,s,x)::r)
def AaL {α:Type} (g:α→IV):List (Nat×Nat×α)→List (Nat×Nat×IV)
 | []=>[]
 | (o,s,x)::l=>(o,s,g x)::AaL g l
def Cu (l:List (Nat×Blk)) (s:Nat) (a:Option β):Option β :=
 List.rec (motive:=fun _=>Option β) a (fun p _ ih=>match p with | (j,_)=>cond (Nat.beq s j) none ih) l
theorem O2 {l:List (Nat×Blk)} {s:Nat} {a:Option β} {r:β} (h:Cu l s a=some r):Ap s l=none∧a=some r:=by
 induction l with
 | nil=>exact ⟨rfl,h⟩
 | cons p l ih =>
  obtain ⟨j,b⟩:=p;have h:cond (Nat.beq s j) none (Cu l s a)=some r:=h;rw [GN] at h;split at h
  ·cases h
  ·rename_i hn;obtain ⟨h1,h2⟩:=ih h;exact ⟨by simp only [Ap,if_neg hn,h1],h2⟩
def AK (s:Nat) (b:Blk) (v:IV) (h:Hp) (k:IV→Hp→List Ref→List Ref→Option β):Option β:=match h with
 | ⟨own,ext⟩=>Cu own s (A0 own s b fun own=>k v ⟨own,ext⟩ [] [.own s])
def Bg (s:Nat) (x:IV) (h:Hp) (k:IV→Hp→List Ref→List Ref→Option β):Option β :=
 cond x.one (AK s (.row [x] false) (.ptr (.own s) 0) h k) (cond x.alive (spK x.cells fun cs=>AK s (.row cs false) (.ptr (.own s) 0) h k) none)
def Aj6 (u:List (Ref×Blk)):Hp→(Hp→Option β)→Option β :=
 List.rec (motive:=fun _=>Hp→(Hp→Option β)→Option β) (fun h k=>k h) (fun p _ rec h k=>match p with
  | (r,b)=>fRf r fun r=>CV r h fun _=>fBk b fun b=>Fu r b h fun h=>rec h k) u
theorem YK:∀(u:List (Ref×Blk)) (h:Hp) {k:Hp→Option β} {r:β},Aj6 u h k=some r→∃h',laid h u=some h'∧k h'=some r
 | [],h,k,r,e=>⟨h,rfl,e⟩
 | (q,b)::u,h,k,r,e=>by
  have e:(fRf q fun q=>CV q h fun _=>fBk b fun b=>Fu q b h fun h=>Aj6 u h k)=some r:=e;rw [Ma,El] at e;simp only [Cw,Km] at e;cases hg:h.get q with
  | none=>rw [hg] at e;cases e
  | some c =>
   rw [hg] at e;obtain ⟨h',h1,h2⟩:=YK u (h.set q b) e;exact ⟨h',by simp only [laid,hg,h1],h2⟩
def I1 (o:Option Blk) (s:Nat) (h:Hp) (k:Hp→Option β):Option β:=match o with
 | none=>k h
 | some b=>match h with
  | ⟨own,ext⟩=>Cu own s (fBk b fun b=>A0 own s b fun own=>k ⟨own,ext⟩)
def Aw (m:Rd Made) (s:Nat) (h:Hp) (k:IV→Hp→List Ref→List Ref→Option β):Option β:=match m.runLog h [] with
 | none=>none
 | some (m,rd)=>Aj6 m.eff.upd h fun h=>I1 m.new s h fun h=>fV 3 m.eff.val fun v=>k v h rd (Bk m.eff.upd++HJ s m)
def Al8 (v:FV) (e:Option β) (k:List FV→Option β):Option β:=match v with
 | .agg cs=>k cs
 | _=>e
def fzS (m:Rd Made) (s:Nat) (x:IV) (h:Hp) (k:IV→Hp→List Ref→List Ref→Option β):Option β :=
 N7 x (Aw m s h k) fun v=>Al8 v (Aw m s h k) fun cs=>cond (Nat.ble cs.length 2000) (k (.fv (.fp cs 0)) h [] []) (Aw m s h k)
def Vb (E:Env) (s d:TypeId) (x:IV) (k:IV→Option β):Option β :=
 J1 x (DP (J6 E s d x) k) fun n=>cond (Nat.ble n 9223372036854775807) (MD n k) (DP (J6 E s d x) k)
def Afz (v:FV) (want:Bool) (h:Hp) (m:(IV→Hp→List Ref→List Ref→Option β)→Option β) (k:IV→Hp→List Ref→List Ref→Option β):Option β:=match v with
 | .bool b=>cond (cond want b (not b)) (m k) (k E9 h [] [])
 | .tuple l=>List.casesOn (motive:=fun _=>Option β) l (k E9 h [] []) fun _ _=>none
 | _=>none
def Ab (v:IV) (want:Bool) (h:Hp) (m:(IV→Hp→List Ref→List Ref→Option β)→Option β) (k:IV→Hp→List Ref→List Ref→Option β):Option β:=N7 v none fun v=>Afz v want h m k
def Jc (split:Bool) (ih:Aa) (f:FuncId) (args:List IV) (ext:List Blk):Option (IV×Hp) :=
 if split then match args,ext with
  | [.fv (.sl [])],[]=>if Co (ih f [.nils] ⟨[],[]⟩) && Co (ih f [.emp] ⟨[],[]⟩) then some (.fv (.sl []),⟨[],[]⟩) else none
  | _,_=>ih f args ⟨[],ext⟩
 else ih f args ⟨[],ext⟩
def ES (keep:List Bool) (split raw:Bool) (ih:Aa) (f:FuncId) (args:List IV) (h:Hp) (k:IV→Hp→List Ref→List Ref→Option β):Option β :=
 match (Bc keep args).runLog h [] with
 | none=>none
 | some (
     (vs,rs,u),l1)=>match (BT 4096 rs []).runLog h l1 with
  | none=>none
  | some (
      l,l2)=>match IV.ren.renL (Dt l) vs with
   | none=>none
   | some vs' =>
          match A1 (Dt l) (l.map (·.2)) with
    | none=>none
    | some ext=>fL (fV 3) vs' fun vs'=>fL fBk ext fun ext=>match Jc split ih f vs' ext with
     | none=>none
     | some (
         res,hp')=>match (if raw then some res else ((CJ 4096 res).run hp').map fun (v,_)=>.fv v) with
      | none=>none
      | some res=>match res.ren (Cc l) with
       | none=>none
       | some res=>match A1 (Cc l) hp'.ext with
        | none=>none
        | some ext'=>if ext'.length=l.length∧(Bk u).all (fun r=>!hasRef r l) then
          match laid h (u++(Bk l).zip ext') with
          | none=>none
          | some h'=>fH h' fun h'=>fV 3 res fun res=>k res h' l2 (Bk (u++(Bk l).zip ext'))
         else none
def UW (r:Ref) (e:Option β) (k:Nat→Option β):Option β:=match r with
 | .own s=>k s
 | .ext _=>e
def Oi {α:Type} (u us:List α) (k:List α→Option β):Option β :=
 List.rec (motive:=fun _=>(List α→Option β)→Option β) (fun k=>k us) (fun x _ ih k=>ih fun w=>k (x::w)) u k
theorem T8 {α:Type} (u us:List α) (k:List α→Option β):Oi u us k=k (u++us):=by
 induction u generalizing k with
 | nil=>rfl
 | cons x u ih=>rw [show Oi (x::u) us k=Oi u us (fun w=>k (x::w)) from rfl,ih];rfl
abbrev FzK (β:Type):=IV→Hp→List Ref→Option β→(FV→List (Ref×Blk)→List Ref→Option β)→Option β
def CU (g:FzK β) (l:List IV):Hp→List Ref→Option β→(List FV→List (Ref×Blk)→List Ref→Option β)→Option β :=
 List.rec (motive:=fun _=>Hp→List Ref→Option β→(List FV→List (Ref×Blk)→List Ref→Option β)→Option β) (fun _ lg _ k=>k [] [] lg)
  (fun x _ rec h lg e k=>g x h lg e fun y u lg=>rec h lg e fun ys us lg=>Oi u us fun w=>k (y::ys) w lg) l
def elF (x:FV) (k:FV→Option β):Option β:=match x with
 | .agg l=>k (.agg [.agg l])
 | x=>k x
def elL (x:FV) (t:List FV) (k:FV→Option β):Option β:=match t with
 | []=>elF x k
 | y::t=>k (.agg (x::y::t))
def AbM (a:List FV) (k:FV→Option β):Option β:=match a with
 | []=>k (.agg [])
 | x::t=>elL x t k
theorem Ag5 (a:List FV) (k:FV→Option β):AbM a k=k (Q1 a):=by
 cases a with
 | nil=>rfl
 | cons x t=>cases t with
  | nil=>cases x<;>rfl
  | cons y t=>cases x<;>rfl
def chK (sz len:Nat) (cs:List FV) (k:List FV→Option β):Option β :=
 Nat.rec (motive:=fun _=>List FV→(List FV→Option β)→Option β) (fun _ k=>k []) (fun _ rec cs k=>Fv cs sz fun a=>Fd cs sz fun b=>AbM a fun x=>rec b fun xs=>k (x::xs)) len cs k
theorem AdS (sz:Nat):∀(len:Nat) (cs:List FV) {k:List FV→Option β} {r:β},chK sz len cs k=some r→k (BH sz len cs)=some r
 | 0,_,_,_,h=>h
 | len+1,cs,k,r,h=>by
  have h:(Fv cs sz fun a=>Fd cs sz fun b=>AbM a fun x=>chK sz len b fun xs=>k (x::xs))=some r:=h;rw [Js] at h;by_cases h1:sz≤cs.length
  ·rw [if_pos h1,Kg,if_pos h1,Ag5] at h;exact AdS sz len _ h
  ·rw [if_neg h1] at h;cases h
def EJ (d:Nat):FzK β :=
 Nat.rec (motive:=fun _=>FzK β) (fun _ _ _ e _=>e) (fun _ g v h lg e k=>match v with
  | .fv v=>k v [] lg
  | .nils=>k (.sl []) [] lg
  | .emp=>k (.sl []) [] lg
  | .clip es=>k (.sl es) [] lg
  | .app _ es=>k (.sl es) [] lg
  | .ptr r off=>UW r e fun s=>CV (.own s) h fun b=>DU b fun cells=>cond (Nat.ble cells.length 300) (CU g cells h (.own s::lg) e fun cs u lg=>k (.fp cs off) ((.own s,.row cells true)::u) lg) e
  | .slc r sz len=>UW r e fun s=>CV (.own s) h fun b=>DU b fun cells=>cond (Nat.ble cells.length 300) (cond (or (Nat.beq sz 0) (not (Nat.ble (len * sz) cells.length))) none
    (CU g cells h (.own s::lg) e fun cs u lg=>chK sz len cs fun els=>k (.sl els) ((.own s,.row cells true)::u) lg)) e
  | .agg cs=>cond (Nat.ble cs.length 300) (CU g cs h lg e fun cs u lg=>k (.agg cs) u lg) e
  | .func fn a b=>cond (and (Nat.ble a.length 300) (Nat.ble b.length 300)) (CU g a h lg e fun x u lg=>CU g b h lg e fun y v lg=>Oi u v fun w=>k (.func fn x y) w lg) e
  | _=>e) d
def Sp (args:List IV):List Bool→Hp→List Ref→Option β→(List IV→List Ref→List (Ref×Blk)→List Ref→Option β)→Option β :=
 List.rec (motive:=fun _=>List Bool→Hp→List Ref→Option β→(List IV→List Ref→List (Ref×Blk)→List Ref→Option β)→Option β) (fun _ _ lg _ k=>k [] [] [] lg)
  (fun x _ rec keep h lg e k=>match keep with
   | []=>EJ 12 x h lg e fun y u lg=>rec [] h lg e fun vs rs us lg=>Oi u us fun w=>k (.fv y::vs) rs w lg
   | b::ks=>cond b (EF x (fun r o=>rec ks h lg e fun vs rs us lg=>k (.ptr r o::vs) (r::rs) us lg) fun _ _=>e)
     (EJ 12 x h lg e fun y u lg=>rec ks h lg e fun vs rs us lg=>Oi u us fun w=>k (.fv y::vs) rs w lg)) args
def So (v:IV):List Ref→List Ref :=
 IV.rec (motive_1:=fun _=>List Ref→List Ref) (motive_2:=fun _=>List Ref→List Ref) (fun acc=>acc) (fun _ acc=>acc) (fun r _ acc=>r::acc) (fun r _ _ acc=>r::acc) (fun acc=>acc) (fun acc=>acc) (fun _ acc=>acc)
  (fun r _ acc=>r::acc) (fun _ _ _ f g acc=>f (g acc)) (fun _ f acc=>f acc) (fun _ f acc=>f acc) (fun r acc=>r::acc) (fun acc=>acc) (fun _ _ f g acc=>f (g acc)) v
def Cj (l:List IV):List Ref→List Ref :=
 IV.rec_1 (motive_1:=fun _=>List Ref→List Ref) (motive_2:=fun _=>List Ref→List Ref) (fun acc=>acc) (fun _ acc=>acc) (fun r _ acc=>r::acc) (fun r _ _ acc=>r::acc) (fun acc=>acc) (fun acc=>acc) (fun _ acc=>acc)
  (fun r _ acc=>r::acc) (fun _ _ _ f g acc=>f (g acc)) (fun _ f acc=>f acc) (fun _ f acc=>f acc) (fun r acc=>r::acc) (fun acc=>acc) (fun _ _ f g acc=>f (g acc)) l
def EK (b:Blk):List Ref:=match b with
 | .row cells _=>Cj cells []
 | .tok _ _=>[]
 | .map es=>List.rec (motive:=fun _=>List Ref) [] (fun p _ ih=>match p with | (_,v)=>So v ih) es
def goR (rec:List Ref→Nat→List Blk→Bool) (t:List Ref) (s:Nat) (rest:List Blk):Bool:=match rest with
 | []=>false
 | b::rest=>rec (t++EK b) (Nat.succ s) rest
def Ob (n:Nat):List Ref→Nat→List Blk→Bool :=
 Nat.rec (motive:=fun _=>List Ref→Nat→List Blk→Bool) (fun _ _ _=>false) (fun _ rec todo s rest=>match todo with
  | []=>(match rest with
   | []=>true
   | _::_=>false)
  | r::t=>(match r with
   | .own _=>false
   | .ext j=>cond (Nat.ble (Nat.succ j) s) (rec t s rest) (cond (Nat.beq j s) (goR rec t s rest) false))) n
def okR (m:Nat) (rs:List Ref):Bool :=
 List.rec (motive:=fun _=>Bool) true (fun r _ rec=>match r with
  | .own _=>false
  | .ext j=>cond (Nat.ble (Nat.succ j) m) rec false) rs
def okB (m:Nat) (l:List Blk):Bool:=List.rec (motive:=fun _=>Bool) true (fun b _ rec=>cond (okR m (EK b)) rec false) l
def KS (u:List (Ref×Blk)):Hp→(Hp→Option β)→Option β :=
 List.rec (motive:=fun _=>Hp→(Hp→Option β)→Option β) (fun h k=>k h) (fun p _ rec h k=>match p with
  | (r,b)=>UW r none fun s=>CV (.own s) h fun _=>Fu (.own s) b h fun h=>rec h k) u
def CC (m:Nat):List Ref:=(List.range m).map .ext
def Ak (keep:List Bool) (split raw:Bool) (ih:Aa) (f:FuncId) (args:List IV) (h:Hp) (k:IV→Hp→List Ref→List Ref→Option β):Option β :=
 cond (
    cond split true raw) (ES keep split raw ih f args h k)
  (Sp args keep h [] (ES keep split raw ih f args h k) fun vs rs u lg=>match rs with
   | []=>(match ih f vs ⟨[],[]⟩ with
    | none=>none
    | some p=>match p with
     | (v,h')=>match h' with
      | ⟨own,ext⟩=>List.casesOn (motive:=fun _=>Option β) ext (EJ 12 v ⟨own,[]⟩ [] (ES keep split raw ih f args h k) fun w _ _=>KS u h fun h2=>k (.fv w) h2 lg (Bk u)) fun _ _=>none)
   | r::rs=>(match h with
    | ⟨own,ext⟩=>cond (Ob 400 (r::rs) 0 ext) (match ih f vs ⟨[],ext⟩ with
     | none=>none
     | some p=>match p with
      | (v,h')=>match h' with
       | ⟨own',ext'⟩=>cond (and (Nat.beq ext'.length ext.length) (okB ext.length ext'))
        (EJ 12 v ⟨own',ext'⟩ [] (ES keep split raw ih f args h k) fun w _ _=>KS u ⟨own,ext'⟩ fun h2=>k (.fv w) h2 ((CC ext.length).reverse++lg) (Bk u++CC ext.length)) none)
     (ES keep split raw ih f args h k)))
def Fh (E:Env) (ih:Aa) (g:IV) (args:List IV) (h:Hp) (k:IV→Hp→List Ref→List Ref→Option β):Option β:=match callee g with
 | none=>none
 | some (f,first,cap)=>cond (E.pol.inl f) none (spK (first++args++cap) fun args=>Ak (E.pol.keep f) (E.pol.split f) (E.pol.raw f) ih f args h k)
def AcC (ih:Aa) (f:FuncId) (args:List IV) (h:Hp) (k:IV→Hp→List Ref→List Ref→Option β):Option β:=match ih f args h with
 | none=>none
 | some p=>match p with
  | (v,h)=>k v h [] []
section
variable (E:Env)
def Af (t:TypeId) (len:Nat) (parts:List (Nat×IV)):Rd Made:=match E.T t with
  | some ⟨_,_,.slice e,_⟩=>match E.T e with
   | some ei=>if ei.size=0∨len * ei.size > 65536 then .fail else
    match Ck (fun j=>some (j * ei.size,ei.size)) (Oj len ei.zero) parts with
    | some cells=>(frzL 65536 cells).bind fun (vs,u)=>.ret { eff:={ val:=.clip (BH ei.size len vs),upd:=u } }
    | none=>.fail
   | none=>.fail
  | _=>.fail
def L0 (t:TypeId) (parts:List (Nat×IV)):Rd Made:=match E.T t with
  | some ⟨_,_,.struct fs,z⟩=>Gw ((Ck (EC E fs) z parts).map Fb)
  | some ⟨_,_,.arr _ e,z⟩=>match E.T e with
   | some ei=>Gw ((Ck (fun j=>some (j * ei.size,ei.size)) z parts).map Fb)
   | none=>.fail
  | _=>.fail
def Jy (fz:Bool) (s:Nat) (v:IV):Rd Made :=
  if v.alive=false then .fail else
  if fz then (frzL 4096 v.cells).bind fun (vs,u)=>.ret { eff:={ val:=.fv (.fp vs 0),upd:=u } }
  else .ret { eff:={ val:=.ptr (.own s) 0 },new:=some (.row v.cells false) }
def Gl (s:Nat):Rd Made:=.ret { eff:={ val:=.mapr (.own s) },new:=some (.map []) }
def BX (t:TypeId) (m k v:IV):Rd Made:=match E.T t with
  | some ⟨_,_,.map kt _,_⟩=>match E.T kt,m,k with
   | some ⟨_,_,.int .i64,_⟩,.mapr r,.fv (.int .i64 n)=>.get r fun
    | .map es =>
     if v.alive∧Fr r v then .ret { eff:={ val:=.dead,upd:=[(r,.map (Cg n v es))] } } else .fail
    | _=>.fail
   | _,_,_=>.fail
  | _=>.fail
def Gs (t:TypeId) (m k:IV) (ok:Bool):Rd Made:=match E.T t with
  | some ⟨
      _,_,.map kt et,_⟩=>match E.T kt,E.T et,m,k with
   | some ⟨_,_,.int .i64,_⟩,some ei,.mapr r,.fv (.int .i64 n)=>.get r fun
    | .map es=>match CO n es with
     | some v=>val (if ok then Ch [v,.fv (.bool true)] else v)
     | none=>match Rb ei with
      | some z=>val (if ok then Ch [z,.fv (.bool false)] else z)
      | none=>.fail
    | _=>.fail
   | _,_,_,_=>.fail
  | _=>.fail
def BK (s:Nat) (t:TypeId) (l c:IV):Rd Made:=match E.T t with
  | some ⟨_,_,.slice e,_⟩=>match E.T e,l,c with
   | some ei,.fv (.int .i64 a),.fv (.int .i64 b) =>
    if 0≤a∧a≤b∧b≤1048576∧ei.size≠0∧ei.bytes≤65536 then
     .ret { eff:={ val:=.slc (.own s) ei.size a.toNat },new:=some (.row (Oj b.toNat ei.zero) false) }
    else .fail
   | _,_,_=>.fail
  | _=>.fail
def Yy (t:TypeId) (x ix:IV):Rd Made:=match E.T t,x,ix with
  | some ⟨_,_,.str,_⟩,.fv (.str s),.fv (.int _ n)=>if n<0 then .fail else match s[n.toNat]? with
   | some b=>val (.fv (.int .u8 b.toNat))
   | none=>.fail
  | some ⟨_,_,.arr m e,_⟩,.fv (.agg cs),.fv (.int _ n)=>match E.T e with
   | some ei=>if 0≤n∧n<(m:Int) then Gw ((Bl ei.kind.isAgg ei.size (n.toNat * ei.size) cs).map .fv) else .fail
   | none=>.fail
  | _,_,_=>.fail
theorem AcY {ih:Aa} {f rid i:Nat} {ρ:Operand→IV} {t:TypeId} {x:Operand}:CD E ih f rid i ρ (.box t x)=Jy (E.pol.fzBox f rid i) (A9 f rid i) (ρ x):=rfl
end
abbrev Tq {α:Type} (b:Bool) (x y:α):α:=Bool.rec (motive:=fun _=>α) y x b
theorem Bu {α:Type} (b:Bool) (x y:α):Tq b x y=cond b x y:=by cases b<;>rfl
section
variable (E:Env) (ih:Aa)
def Fj:Op→Bool
 | .move _ | .assign _ | .pick .. | .nilCheck _ | .binOp .. | .unOp .. | .convert .. | .fieldAddr .. | .field .. | .extract ..=>true
 | .build t _=>match E.T t with
  | some ⟨_,_,.struct _,_⟩=>true
  | _=>false
 | .indexAddr t _ _=>match E.T t with
  | some ⟨_,_,.slice e,_⟩=>(match E.T e with | some _=>true | none=>false)
  | some ⟨_,_,.arr _ e,_⟩=>(match E.T e with | some _=>true | none=>false)
  | _=>false
 | .index t _ _=>match E.T t with
  | some ⟨_,_,.arr _ e,_⟩=>(match E.T e with | some ei=>!ei.kind.isAgg | none=>false)
  | _=>false
 | .call { callee:=.builtin .len,argTypes,args }=>match argTypes.toList,args.toList with
  | [t],[_]=>(match E.T t with | some ⟨_,_,.slice _,_⟩=>true | _=>false)
  | _,_=>false
 | _=>false
def Uq (f:FuncId) (rid i:Nat) (drawn:Bool) (ρ:Operand→IV) (cl:Callee) (args:List Operand) (ts:List TypeId) (h:Hp) (k:IV→Hp→List Ref→List Ref→Option β):Option β:=match cl with
 | .builtin b=>match b,ts,args with
  | .len,[t],[x]=>(match E.T t with
   | some ⟨_,_,.slice _,_⟩=>Ca (ρ x) fun v=>k v h [] []
   | _=>Aw (AS E (A9 f rid i) (E.pol.rowApp f rid i) b ts (args.map ρ)) (A9 f rid i) h k)
  | _,_,_=>Aw (AS E (A9 f rid i) (E.pol.rowApp f rid i) b ts (args.map ρ)) (A9 f rid i) h k
 | .value g=>match g with
  | .func g=>Tq (E.pol.inl g) (Tq drawn none (AcC ih g (args.map ρ) h k)) (Ak (E.pol.keep g) (E.pol.split g) (E.pol.raw g) ih g (args.map ρ) h k)
  | g=>Fh E ih (ρ g) (args.map ρ) h k
 | _=>none
def IJ (f:FuncId) (rid i:Nat) (drawn:Bool) (ρ:Operand→IV) (op:Op) (h:Hp) (k:IV→Hp→List Ref→List Ref→Option β):Option β:=match op with
 | .move x=>k (ρ x) h [] []
 | .assign x=>k (ρ x) h [] []
 | .pick c a b=>AF (ρ c) (ρ a) (ρ b) fun v=>k v h [] []
 | .alloc t=>match E.T t with
  | some ti=>AK (A9 f rid i) (.row ti.zero false) (.ptr (.own (A9 f rid i)) 0) h k
  | none=>none
 | .box _ x=>Tq (E.pol.fzBox f rid i) (fzS (Jy true (A9 f rid i) (ρ x)) (A9 f rid i) (ρ x) h k) (Bg (A9 f rid i) (ρ x) h k)
 | .build t parts=>match E.T t with
  | some ⟨_,_,.struct fs,z⟩=>(match KV (EC E fs) parts.toList with
   | some l=>Bw z (AaL ρ l) fun v=>k v h [] []
   | none=>none)
  | _=>Aw (L0 E t (parts.toList.map fun (j,x)=>(j,ρ x))) (A9 f rid i) h k
 | .buildSlice t len parts=>Aw (Af E t len (parts.toList.map fun (j,x)=>(j,ρ x))) (A9 f rid i) h k
 | .makeFunc fn a b=>Aw (val (CM fn (a.toList.map ρ) (b.toList.map ρ))) (A9 f rid i) h k
 | .makeMap _ n=>(match n with
  | none=>Aw (Gl (A9 f rid i)) (A9 f rid i) h k
  | some _=>none)
 | .insert t m j x=>Aw (BX E t (ρ m) (ρ j) (ρ x)) (A9 f rid i) h k
 | .mapUpdate t m j x=>Aw (BX E t (ρ m) (ρ j) (ρ x)) (A9 f rid i) h k
 | .lookup t m j ok=>Aw (Gs E t (ρ m) (ρ j) ok) (A9 f rid i) h k
 | .makeSlice t l c=>Aw (BK E (A9 f rid i) t (ρ l) (ρ c)) (A9 f rid i) h k
 | .slice t x lo hi mx=>Aw (UG E t (ρ x) (lo.map ρ) (hi.map ρ) (mx.map ρ)) (A9 f rid i) h k
 | .load t a=>match E.T t with
  | none=>none
  | some ti=>Tq ti.kind.isAgg (Ai ti.size (ρ a) h fun v rd=>k v h rd []) (Ae (ρ a) h fun v rd=>k v h rd [])
 | .store t a x=>match E.T t with
  | none=>none
  | some ti=>Tq (Nat.beq ti.size 1) (Bj (ρ a) (ρ x) h fun h rd wr=>k .dead h rd wr) (Al ti.size (ρ a) (ρ x) h fun h rd wr=>k .dead h rd wr)
 | .nilCheck x=>AC (ρ x) fun v=>k v h [] []
 | .binOp op t x y _=>AeQ E t op (ρ x) (ρ y) fun v=>k v h [] []
 | .unOp op _ x=>DP (N8 op (ρ x)) fun v=>k v h [] []
 | .convert s d x=>match E.T s,E.T d with
  | some _,some ⟨_,_,.int .i64,_⟩=>Vb E s d (ρ x) fun v=>k v h [] []
  | _,_=>DP (J6 E s d (ρ x)) fun v=>k v h [] []
 | .fieldAddr s x fd=>match Hd E s fd with
  | some (o,ti)=>Tq (Nat.beq ti.size 0) none (Ac o (ρ x) fun v=>k v h [] [])
  | none=>none
 | .field s x fd=>match Hd E s fd with
  | some (o,ti)=>Tq ti.kind.isAgg (Aj5 ti.size o (ρ x) fun v=>k v h [] []) (AkB o (ρ x) fun v=>k v h [] [])
  | none=>none
 | .indexAddr t x ix=>match E.T t with
  | some ⟨_,_,.slice e,_⟩=>(match E.T e with
   | some ei=>Bf ei.size (ρ x) (ρ ix) fun v=>k v h [] []
   | none=>none)
  | some ⟨_,_,.arr m e,_⟩=>(match E.T e with
   | some ei=>ixA m ei.size (ρ x) (ρ ix) fun v=>k v h [] []
   | none=>none)
  | _=>none
 | .index t x ix=>match E.T t with
  | some ⟨_,_,.arr m e,_⟩=>(match E.T e with
   | some ei=>Tq ei.kind.isAgg (Aw (Yy E t (ρ x) (ρ ix)) (A9 f rid i) h k) (Ama m ei.size (ρ x) (ρ ix) fun v=>k v h [] [])
   | none=>none)
  | _=>Aw (Yy E t (ρ x) (ρ ix)) (A9 f rid i) h k
 | .extract x ix=>AN ix (ρ x) fun v=>k v h [] []
 | .call c=>match c with
  | { callee,args,argTypes }=>Uq E ih f rid i drawn ρ callee args.toList argTypes.toList h k
 | _=>none
end
end
end Idl
end Go.Proofs.Ytkfecngimlcfoaa
namespace Go.Proofs.Ytkfecngimlcfoaa
namespace Idl
section
variable {β:Type} {E:Env} {ih ih':Aa} {f rid i:Nat} {dr:Bool} {ρ:Operand→IV} {hp:Hp} {k:IV→Hp→List Ref→List Ref→Option β} {r:β}
def Aou (E:Env) (ih:Aa) (f rid i:Nat) (ρ:Operand→IV) (op:Op) (hp:Hp) (v:IV) (hp':Hp) (rd wr:List Ref):Prop :=
 ∃m,(CD E ih f rid i ρ op).runLog hp []=some (m,rd)∧AL (A9 f rid i) hp m=some hp'∧m.eff.val=v∧wr=Bk m.eff.upd++HJ (A9 f rid i) m
def Gh (E:Env) (ih:Aa) (f rid i:Nat) (ρ:Operand→IV) (op:Op) (hp:Hp) (k:IV→Hp→List Ref→List Ref→Option β) (r:β):Prop :=
 ∃v hp' rd wr,Aou E ih f rid i ρ op hp v hp' rd wr∧k v hp' rd wr=some r∧(Fj E op=true→rd=[]∧wr=[])
theorem AX {op:Op} {v:IV} (e:CD E ih f rid i ρ op=val v) (h:k v hp [] []=some r):Gh E ih f rid i ρ op hp k r :=
 ⟨v,hp,[],[],⟨{ eff:={ val:=v } },by rw [e];rfl,rfl,rfl,rfl⟩,h,fun _=>⟨rfl,rfl⟩⟩
theorem OR {op:Op} {o:Option IV} (e:CD E ih f rid i ρ op=Gw o) (h:(o.bind fun v=>k v hp [] [])=some r):Gh E ih f rid i ρ op hp k r:=by
 cases o with
 | none=>cases h
 | some v=>exact AX e h
theorem TP {op:Op} {b:Blk} {v:IV} (hq:Fj E op=false) (e:CD E ih f rid i ρ op=.ret { eff:={ val:=v },new:=some b })
  (h:AK (A9 f rid i) b v hp k=some r):Gh E ih f rid i ρ op hp k r:=by
 obtain ⟨own,ext⟩:=hp;have h:Cu own (A9 f rid i) (A0 own (A9 f rid i) b fun own=>k v ⟨own,ext⟩ [] [.own (A9 f rid i)])=some r:=h;obtain ⟨h1,h2⟩:=O2 h;rw [BO] at h2;refine ⟨v,⟨AM (A9 f rid i) b own,ext⟩,[],[.own (A9 f rid i)],⟨_,by rw [e];rfl,?_,rfl,rfl⟩,h2,fun q=>by rw [hq] at q;cases q⟩;simp only [AL,laid,Option.bind_some,Cm];rw [show (Hp.mk own ext).get (.own (A9 f rid i))=none from h1]
 rfl
theorem BB {op:Op} {m:Rd Made} (hq:Fj E op=false) (e:CD E ih f rid i ρ op=m) (h:Aw m (A9 f rid i) hp k=some r):Gh E ih f rid i ρ op hp k r:=by
 unfold Aw at h;cases hm:m.runLog hp [] with
 | none=>rw [hm] at h;cases h
 | some p =>
  obtain ⟨m',rd⟩:=p;rw [hm] at h;simp only at h;obtain ⟨h1,l1,h⟩:=YK _ _ h;have hh:∃h2,Cm (A9 f rid i) m' h1=some h2∧k m'.eff.val h2 rd (Bk m'.eff.upd++HJ (A9 f rid i) m')=some r:=by
   unfold I1 at h;unfold Cm;cases hn:m'.new with
   | none=>rw [hn] at h;simp only [Ce] at h;exact ⟨h1,rfl,h⟩
   | some b =>
    rw [hn] at h;obtain ⟨own,ext⟩:=h1;simp only [Cw,BO,Ce] at h;obtain ⟨f1,f2⟩:=O2 h;refine ⟨⟨AM (A9 f rid i) b own,ext⟩,?_,f2⟩;simp only;rw [show (Hp.mk own ext).get (.own (A9 f rid i))=none from f1]
    rfl
  obtain ⟨h2,l2,h⟩:=hh;exact ⟨_,h2,rd,_,⟨m',by rw [e,hm],by simp only [AL,l1,Option.bind_some,l2],rfl,rfl⟩,h,fun q=>by rw [hq] at q;cases q⟩
theorem MV {x:IV} {e:Option β} {k:FV→Option β} (h:N7 x e k=some r):(∃v,x=.fv v∧k v=some r)∨e=some r:=by
 unfold N7 at h;split at h
 ·exact .inl ⟨_,rfl,h⟩
 ·exact .inr h
theorem TX {x:IV} {k:List IV→Option β} {kf:List FV→Option β} (h:asAgg x k kf=some r):(∃cs,x=.agg cs∧k cs=some r)∨(∃cs,x=.fv (.agg cs)∧kf cs=some r):=by
 unfold asAgg at h;split at h
 ·exact .inl ⟨_,rfl,h⟩
 ·unfold GZ at h;split at h
  ·exact .inr ⟨_,rfl,h⟩
  ·cases h
 ·cases h
theorem Dp {x:IV} {k:Ref→Nat→Option β} {kf:List FV→Nat→Option β} (h:EF x k kf=some r):(∃q o,x=.ptr q o∧k q o=some r)∨(∃cs o,x=.fv (.fp cs o)∧kf cs o=some r):=by
 unfold EF at h;split at h
 ·exact .inl ⟨_,_,rfl,h⟩
 ·unfold AmV at h;split at h
  ·exact .inr ⟨_,_,rfl,h⟩
  ·cases h
 ·cases h
theorem Gj {b:Blk} {k:List IV→Option β} (h:DU b k=some r):∃cells ro,b=.row cells ro∧k cells=some r:=by
 unfold DU at h;split at h
 ·exact ⟨_,_,rfl,h⟩
 ·cases h
theorem OC {b:Blk} {k:List IV→Option β} (h:GJ b k=some r):∃cells,b=.row cells false∧k cells=some r:=by
 unfold GJ at h;split at h
 ·rename_i ro;cases ro with
  | true=>cases h
  | false=>exact ⟨_,rfl,h⟩
 ·cases h
theorem S6 {x:IV} {k:Ref→Nat→Nat→Option β} {e:Option β} (h:AaB x k e=some r):(∃q sz n,x=.slc q sz n∧k q sz n=some r)∨((∀q sz n,x≠.slc q sz n)∧e=some r):=by
 unfold AaB at h;split at h
 ·exact .inl ⟨_,_,_,rfl,h⟩
 ·rename_i hn;exact .inr ⟨hn,h⟩
theorem Bm {α:Type} {o:Option α} {k:α→Option β} (h:o.bind k=some r):∃a,o=some a∧k a=some r:=by
 cases o with
 | none=>cases h
 | some a=>exact ⟨a,rfl,h⟩
theorem DF {c:Prop} [Decidable c] {a:Option β} (h:(if c then a else none)=some r):c∧a=some r:=by
 by_cases hc:c
 ·rw [if_pos hc] at h;exact ⟨hc,h⟩
 ·rw [if_neg hc] at h;cases h
theorem Dh {c:Bool} {a:Option β} (h:cond c a none=some r):c=true∧a=some r:=by cases c;cases h;exact ⟨rfl,h⟩
theorem Dy {a b:Nat} (h:Nat.beq a b=true):a=b:=Nat.eq_of_beq_eq_true h
theorem Bh {a b:Nat} (h:Nat.ble a b=true):a≤b:=Nat.le_of_ble_eq_true h
theorem EQ {t:TypeId} {op:BinOp} {x y:IV} {k:IV→Option β} (h:CA E t op x y k=some r):∃v,Fp E op t x y=some v∧k v=some r:=by
 rw [CA,Cs] at h;exact Bm h
theorem Ahp {t:TypeId} {x y:IV} {k:IV→Option β} (h:Bz E t x y k=some r):∃v,Fp E .add t x y=some v∧k v=some r:=by
 unfold Bz at h;rcases E5 h with ⟨a,rfl,g'⟩ | h
 ·replace h:=g';clear g';rcases E5 h with ⟨b,rfl,g'⟩ | h
  ·replace h:=g';clear g';cases hc:Nat.ble (a+b) 9223372036854775807 with
   | false=>rw [hc] at h;exact EQ h
   | true =>
    rw [hc] at h;simp only [cond,C8] at h;refine ⟨_,?_,h⟩;have e:IntKind.i64.wrap ((a:Int)+(b:Int))=((a+b:Nat):Int):=by
     rw [← Int.natCast_add];exact Ui (Bh hc)
    show some (IV.fv (.int .i64 (IntKind.i64.wrap ((a:Int)+(b:Int)))))=_
    rw [e]
  ·exact EQ h
 ·exact EQ h
theorem Af6 {t:TypeId} {x y:IV} {k:IV→Option β} (h:Ba E t x y k=some r):∃v,Fp E .sub t x y=some v∧k v=some r:=by
 unfold Ba at h;rcases E5 h with ⟨a,rfl,g'⟩ | h
 ·replace h:=g';clear g';rcases E5 h with ⟨b,rfl,g'⟩ | h
  ·replace h:=g';clear g';cases hc:(and (Nat.ble b a) (Nat.ble a 9223372036854775807)) with
   | false=>rw [hc] at h;exact EQ h
   | true =>
    rw [hc] at h;simp only [cond,C8] at h;refine ⟨_,?_,h⟩;have hc:(Nat.ble b a && Nat.ble a 9223372036854775807)=true:=hc;simp only [Bool.and_eq_true] at hc;have h1:=Bh hc.1;have h2:=Bh hc.2;have e:IntKind.i64.wrap ((a:Int) - (b:Int))=((a - b:Nat):Int):=by
     rw [← Int.natCast_sub h1];exact Ui (by omega)
    show some (IV.fv (.int .i64 (IntKind.i64.wrap ((a:Int) - (b:Int)))))=_
    rw [e]
  ·exact EQ h
 ·exact EQ h
theorem HT {t:TypeId} {op:BinOp} {g:Nat→Nat→Bool} (hg:∀a b:Nat,Fp E op t (.fv (.int .i64 a)) (.fv (.int .i64 b))=some (.fv (.bool (g a b)))) {x y:IV} {k:IV→Option β}
  (h:PL E t op g x y k=some r):∃v,Fp E op t x y=some v∧k v=some r:=by
 unfold PL at h;rcases E5 h with ⟨a,rfl,g'⟩ | h
 ·replace h:=g';clear g';rcases E5 h with ⟨b,rfl,g'⟩ | h
  ·replace h:=g';clear g';rw [Tl] at h;exact ⟨_,hg a b,h⟩
  ·exact EQ h
 ·exact EQ h
theorem ID (a b:Nat):Nat.beq a b=decide (a=b):=by
 cases h:Nat.beq a b with
 | true=>rw [Dy h];simp
 | false =>
  have:a≠b:=fun e=>by rw [e,show Nat.beq b b=true from Nat.beq_refl b] at h;cases h
  simp [this]
theorem Bb (a b:Nat):Nat.ble a b=decide (a≤b):=by
 cases h:Nat.ble a b with
 | true=>have:=Bh h;simp [this]
 | false =>
  have:¬ a≤b:=fun e=>by rw [Nat.ble_eq_true_of_le e] at h;cases h
  simp [this]
theorem Aco {t:TypeId} {op:BinOp} {x y:IV} {k:IV→Option β} (h:AeQ E t op x y k=some r):∃v,Fp E op t x y=some v∧k v=some r:=by
 cases op with
 | add=>exact Ahp h
 | sub=>exact Af6 h
 | eql =>
  refine HT (fun a b=>?_) h
  show some (IV.fv (.bool ((a:Int) == (b:Int))))=_
  rw [ID];congr 3;exact decide_eq_decide.2 Int.ofNat_inj
 | neq =>
  refine HT (fun a b=>?_) h
  show some (IV.fv (.bool ((a:Int) != (b:Int))))=_
  rw [ID];congr 3
  show (!decide ((a:Int)=(b:Int)))=!decide (a=b)
  congr 1;exact decide_eq_decide.2 Int.ofNat_inj
 | lss =>
  refine HT (fun a b=>?_) h
  show some (IV.fv (.bool (decide ((a:Int)<(b:Int)))))=_
  rw [Bb];congr 3;exact decide_eq_decide.2 (by omega)
 | leq =>
  refine HT (fun a b=>?_) h
  show some (IV.fv (.bool (decide ((a:Int)≤(b:Int)))))=_
  rw [Bb];congr 3;exact decide_eq_decide.2 (by omega)
 | gtr =>
  refine HT (fun a b=>?_) h
  show some (IV.fv (.bool (decide ((a:Int) > (b:Int)))))=_
  rw [Bb];congr 3;exact decide_eq_decide.2 (by omega)
 | geq =>
  refine HT (fun a b=>?_) h
  show some (IV.fv (.bool (decide ((a:Int) ≥ (b:Int)))))=_
  rw [Bb];congr 3;exact decide_eq_decide.2 (by omega)
 | _=>exact EQ h
theorem AbI {s d:TypeId} {x:IV} {si:TI} {a b:Nat} {z:List IV} (h1:E.T s=some si) (h2:E.T d=some ⟨a,b,.int .i64,z⟩) {k:IV→Option β} (h:Vb E s d x k=some r) :
  ∃v,J6 E s d x=some v∧k v=some r:=by
 have hg:DP (J6 E s d x) k=some r→∃v,J6 E s d x=some v∧k v=some r:=fun h=>by rw [Cs] at h;exact Bm h
 unfold Vb at h;rcases E5 h with ⟨n,rfl,g'⟩ | h
 ·replace h:=g';clear g';cases hc:Nat.ble n 9223372036854775807 with
  | false=>rw [hc] at h;exact hg h
  | true =>
   rw [hc] at h;simp only [cond,C8] at h;refine ⟨_,?_,h⟩;simp only [J6,h1,h2];rw [Ui (Bh hc)]
 ·exact hg h
theorem Ais {t:TypeId} {a:Operand} (h:IJ E ih' f rid i dr ρ (.load t a) hp k=some r):Gh E ih f rid i ρ (.load t a) hp k r:=by
 simp only [IJ,Bu] at h;cases ht:E.T t with
 | none=>rw [ht] at h;cases h
 | some ti =>
  rw [ht] at h;simp only at h;cases hag:ti.kind.isAgg with
  | true =>
   rw [hag] at h;simp only [cond,Ai] at h;rcases Dp h with ⟨q,o,ha,h⟩ | ⟨cs,o,ha,h⟩
   ·rw [El] at h;obtain ⟨b,hb,h⟩:=Bm h;obtain ⟨cells,ro,rfl,g'⟩:=Gj h;replace h:=g';clear g';rw [Kg] at h;obtain ⟨h1,h⟩:=DF h;rw [Js] at h;obtain ⟨h2,h⟩:=DF h;rw [PF] at h;refine ⟨_,hp,[q],[],⟨{ eff:={ val:=Fb ((cells.drop o).take ti.size) } },?_,rfl,rfl,rfl⟩,h,fun q=>by cases q⟩;simp only [CD,ht,ha,Rd.runLog,hb,B2,hag,if_true];rw [if_pos (by simp at h2;omega)];rfl
   ·rw [Kg] at h;obtain ⟨h1,h⟩:=DF h;rw [Js] at h;obtain ⟨h2,h⟩:=DF h;refine ⟨_,hp,[],[],⟨{ eff:={ val:=.fv (.agg ((cs.drop o).take ti.size)) } },?_,rfl,rfl,rfl⟩,h,fun q=>by cases q⟩;simp only [CD,ht,ha,Bl,hag,if_true];rw [if_pos (by simp at h2;omega)];rfl
  | false =>
   rw [hag] at h;simp only [cond,Ae] at h;rcases Dp h with ⟨q,o,ha,h⟩ | ⟨cs,o,ha,h⟩
   ·rw [El] at h;obtain ⟨b,hb,h⟩:=Bm h;obtain ⟨cells,ro,rfl,g'⟩:=Gj h;replace h:=g';clear g';rw [CL] at h;obtain ⟨v,hv,h⟩:=Bm h;refine ⟨_,hp,[q],[],⟨{ eff:={ val:=v } },?_,rfl,rfl,rfl⟩,h,fun q=>by cases q⟩;simp only [CD,ht,ha,Rd.runLog,hb,B2,hag,Bool.false_eq_true,if_false,hv];rfl
   ·rw [CL] at h;obtain ⟨v,hv,h⟩:=Bm h;refine ⟨_,hp,[],[],⟨{ eff:={ val:=.fv v } },?_,rfl,rfl,rfl⟩,h,fun q=>by cases q⟩;simp only [CD,ht,ha,Bl,hag,Bool.false_eq_true,if_false,hv];rfl
theorem Abf (cells:List IV) (o:Nat) (v:IV):A3 cells o [v]=cells.set o v:=rfl
theorem AfU {t:TypeId} {a x:Operand} (h:IJ E ih' f rid i dr ρ (.store t a x) hp k=some r):Gh E ih f rid i ρ (.store t a x) hp k r:=by
 simp only [IJ,Bu] at h;cases ht:E.T t with
 | none=>rw [ht] at h;cases h
 | some ti =>
  rw [ht] at h;simp only at h;have key:∀q o cells,ρ a=.ptr q o→hp.get q=some (.row cells false) →
    ((ρ x).alive=true∧(ρ x).cells.length=ti.size∧o+ti.size≤cells.length∧(ρ x).cells.all IV.one=true∧Fr q (ρ x)=true) →
    k .dead (hp.set q (.row (A3 cells o (ρ x).cells) false)) [q] [q]=some r→Gh E ih f rid i ρ (.store t a x) hp k r:=by
   intro q o cells ha hb hc h;refine ⟨_,_,[q],[q],⟨{ eff:={ val:=.dead,upd:=[(q,.row (A3 cells o (ρ x).cells) false)] } },?_,?_,rfl,rfl⟩,h,fun q=>by cases q⟩
   ·simp only [CD,ht,ha,Rd.runLog,hb];rw [if_pos hc];rfl
   ·simp only [AL,laid,hb,Option.bind_some,Cm]
  have gen:Al ti.size (ρ a) (ρ x) hp (fun h rd wr=>k .dead h rd wr)=some r→Gh E ih f rid i ρ (.store t a x) hp k r:=by
   intro h;simp only [Al] at h;rcases Dp h with ⟨q,o,ha,h⟩ | ⟨cs,o,ha,h⟩
   ·rw [El] at h;obtain ⟨b,hb,h⟩:=Bm h;obtain ⟨cells,rfl,g'⟩:=OC h;replace h:=g';clear g';rcases MV h with ⟨v,hx,h⟩ | h
    ·simp only [GZ] at h;split at h
     ·rename_i cs;obtain ⟨hc,h⟩:=Dh h;have hc:(Nat.beq cs.length ti.size && Dx cs)=true:=hc;simp only [Bool.and_eq_true] at hc;obtain ⟨h1,h⟩:=Nn cells o cs h;rw [Km] at h;have hl:=Dy hc.1;refine key q o cells ha hb ⟨by rw [hx];rfl,by rw [hx];simp [IV.cells,hl],by omega,by rw [hx];exact M7 cs hc.2,by rw [hx];cases q<;>rfl⟩ ?_;rw [hx];exact h
     ·cases h
    ·obtain ⟨hc,h⟩:=DF h;rw [Hh,Km] at h;exact key q o cells ha hb hc h
   ·cases h
  cases hs:Nat.beq ti.size 1 with
  | true =>
   rw [hs] at h;have hs:=Dy hs;simp only [cond,Bj] at h;cases ho:(ρ x).one with
   | false =>
    rw [ho] at h;rw [← hs] at h;exact gen h
   | true =>
    rw [ho] at h;simp only at h;rcases Dp h with ⟨q,o,ha,h⟩ | ⟨cs,o,ha,h⟩
    ·rw [El] at h;obtain ⟨b,hb,h⟩:=Bm h;obtain ⟨cells,rfl,g'⟩:=OC h;replace h:=g';clear g';cases hc:Fr q (ρ x) with
     | false=>rw [hc] at h;cases h
     | true =>
      rw [hc] at h;simp only at h;rw [AaW] at h;obtain ⟨hlt,h⟩:=DF h;rw [Km] at h;obtain ⟨c1,c2⟩:=KL ho;refine key q o cells ha hb ⟨c2,by rw [c1,hs];rfl,by omega,by rw [c1];simp [ho],hc⟩ ?_;rw [c1,Abf];exact h
    ·cases h
  | false =>
   rw [hs] at h;exact gen h
end
end Idl
end Go.Proofs.Ytkfecngimlcfoaa
set_option linter.unusedSimpArgs false
namespace Go.Proofs.Ytkfecngimlcfoaa
namespace Idl
section
variable {β:Type} {E:Env} {ih ih':Aa} {f rid i:Nat} {dr:Bool} {ρ:Operand→IV} {hp:Hp} {k:IV→Hp→List Ref→List Ref→Option β} {r:β}
theorem OJ {size o:Nat} {cs:List IV} {k:IV→Option β} (h:(Fd cs o fun cs=>Fv cs size fun cs=>Oe cs k)=some r) :
  B2 true size o cs=some (Fb ((cs.drop o).take size))∧k (Fb ((cs.drop o).take size))=some r:=by
 rw [Kg] at h;obtain ⟨h1,h⟩:=DF h;rw [Js] at h;obtain ⟨h2,h⟩:=DF h;rw [PF] at h;refine ⟨?_,h⟩;simp only [B2,if_true];rw [if_pos (by simp at h2;omega)]
theorem MZ {size o:Nat} {cs:List FV} {k:IV→Option β} (h:(Fd cs o fun cs=>Fv cs size fun cs=>k (.fv (.agg cs)))=some r) :
  Bl true size o cs=some (.agg ((cs.drop o).take size))∧k (.fv (.agg ((cs.drop o).take size)))=some r:=by
 rw [Kg] at h;obtain ⟨h1,h⟩:=DF h;rw [Js] at h;obtain ⟨h2,h⟩:=DF h;refine ⟨?_,h⟩;simp only [Bl,if_true];rw [if_pos (by simp at h2;omega)]
theorem Ahz {s:TypeId} {x:Operand} {fd:Nat} (h:IJ E ih' f rid i dr ρ (.field s x fd) hp k=some r):Gh E ih f rid i ρ (.field s x fd) hp k r:=by
 simp only [IJ,Bu] at h;cases hf:Hd E s fd with
 | none=>rw [hf] at h;cases h
 | some p =>
  obtain ⟨o,ti⟩:=p;rw [hf] at h;simp only at h;cases hag:ti.kind.isAgg with
  | true =>
   rw [hag] at h;simp only [cond,Aj5] at h;rcases TX h with ⟨cs,hx,h⟩ | ⟨cs,hx,h⟩
   ·obtain ⟨h1,h2⟩:=OJ (k:=fun v=>k v hp [] []) h;exact AX (by simp only [CD,hf,hx,hag,h1];rfl) h2
   ·obtain ⟨h1,h2⟩:=MZ (k:=fun v=>k v hp [] []) h;exact AX (by simp only [CD,hf,hx,hag,h1];rfl) h2
  | false =>
   rw [hag] at h;simp only [cond,AkB] at h;rcases TX h with ⟨cs,hx,h⟩ | ⟨cs,hx,h⟩
   ·rw [CL] at h;obtain ⟨v,hv,h⟩:=Bm h;exact AX (by simp only [CD,hf,hx,hag,B2,Bool.false_eq_true,if_false,hv];rfl) h
   ·rw [CL] at h;obtain ⟨v,hv,h⟩:=Bm h;exact AX (by simp only [CD,hf,hx,hag,Bl,Bool.false_eq_true,if_false,hv];rfl) h
theorem SU {s:TypeId} {x:Operand} {fd:Nat} (h:IJ E ih' f rid i dr ρ (.fieldAddr s x fd) hp k=some r):Gh E ih f rid i ρ (.fieldAddr s x fd) hp k r:=by
 simp only [IJ,Bu] at h;cases hf:Hd E s fd with
 | none=>rw [hf] at h;cases h
 | some p =>
  obtain ⟨o,ti⟩:=p;rw [hf] at h;simp only [GN] at h;by_cases hs:ti.size=0
  ·rw [if_pos hs] at h;cases h
  ·rw [if_neg hs] at h;unfold Ac at h;rcases Dp h with ⟨q,off,hx,h⟩ | ⟨cs,off,hx,h⟩
   ·rw [BE] at h;exact AX (by simp only [CD,hf,hx,if_neg hs]) h
   ·rw [BE] at h;exact AX (by simp only [CD,hf,hx,if_neg hs]) h
theorem AlH {x:Operand} (h:IJ E ih' f rid i dr ρ (.nilCheck x) hp k=some r):Gh E ih f rid i ρ (.nilCheck x) hp k r:=by
 simp only [IJ,Bu] at h;unfold AC at h;split at h
 ·rename_i hx;exact AX (by simp only [CD,hx]) h
 ·rename_i hx;unfold AmT at h;split at h
  ·exact AX (by simp only [CD,hx]) h
  ·unfold Ahd at h;split at h
   ·exact AX (by simp only [CD,hx]) h
   ·cases h
  ·cases h
 ·rename_i hx;unfold Ahd at h;split at h
  ·exact AX (by simp only [CD,hx]) h
  ·cases h
 ·cases h
theorem Acp {x:Operand} {ix:Nat} (h:IJ E ih' f rid i dr ρ (.extract x ix) hp k=some r):Gh E ih f rid i ρ (.extract x ix) hp k r:=by
 simp only [IJ,Bu] at h;unfold AN at h;split at h
 ·rename_i hx;rw [CL] at h;obtain ⟨v,hv,h⟩:=Bm h;exact AX (by simp only [CD,hx,hv];rfl) h
 ·rename_i hx;simp only [Am3] at h;split at h
  ·rw [CL] at h;obtain ⟨v,hv,h⟩:=Bm h;exact AX (by simp only [CD,hx,hv];rfl) h
  ·cases h
 ·cases h
theorem Ak1 {c a b:Operand} (h:IJ E ih' f rid i dr ρ (.pick c a b) hp k=some r):Gh E ih f rid i ρ (.pick c a b) hp k r:=by
 simp only [IJ,AF] at h;obtain ⟨t,hc,h⟩:=SM h;cases t with
 | true=>exact AX (by simp only [CD,hc];rfl) h
 | false=>exact AX (by simp only [CD,hc];rfl) h
theorem SQ {t:TypeId} {x ix:Operand} (h:IJ E ih' f rid i dr ρ (.indexAddr t x ix) hp k=some r):Gh E ih f rid i ρ (.indexAddr t x ix) hp k r:=by
 simp only [IJ,Bu] at h;split at h
 ·rename_i e z ht;split at h
  ·rename_i ei he;unfold Bf at h;obtain ⟨kd,n,hi,h⟩:=RQ h;rcases S6 h with ⟨q,sz,len,hx,h⟩ | ⟨hx,h⟩
   ·obtain ⟨hc,h⟩:=Dh h;have hc:(Nat.ble (Nat.succ n) len && Nat.beq sz ei.size)=true:=hc;simp only [Bool.and_eq_true] at hc;have h1:=Bh hc.1;have h2:=Dy hc.2;rw [BE] at h;refine AX ?_ h;simp only [CD,KI,ht,he,hi,hx];rw [if_pos ⟨by omega,by omega,h2⟩];rfl
   ·rw [WM] at h;obtain ⟨es,he2,h⟩:=Bm h;rw [CL] at h;obtain ⟨el,hel,h⟩:=Bm h;rw [Ade] at h;obtain ⟨hl,h⟩:=DF h;refine AX ?_ h;simp only [CD,KI,ht,he,hi];cases hxx:ρ x with
    | slc q sz len=>exact absurd hxx (hx q sz len)
    | _ =>
     rw [hxx] at he2;simp only [he2];rw [if_neg (by omega)];simp only [Int.toNat_natCast,hel];rw [if_pos hl]
  ·cases h
 ·rename_i m e z ht;split at h
  ·rename_i ei he;unfold ixA at h;obtain ⟨kd,n,hi,h⟩:=RQ h;obtain ⟨hc,h⟩:=Dh h;have hc:=Bh hc;have hlt:(0:Int)≤(n:Int)∧(n:Int)<(m:Int):=⟨by omega,by omega⟩;rcases Dp h with ⟨q,o,hx,h⟩ | ⟨cs,o,hx,h⟩
   ·rw [BE] at h;refine AX ?_ h;simp only [CD,KI,ht,he,hi,hx];rw [if_pos hlt];rfl
   ·rw [BE] at h;refine AX ?_ h;simp only [CD,KI,ht,he,hi,hx];rw [if_pos hlt];rfl
  ·cases h
 ·cases h
theorem Agw {t:TypeId} {x ix:Operand} (h:IJ E ih' f rid i dr ρ (.index t x ix) hp k=some r):Gh E ih f rid i ρ (.index t x ix) hp k r:=by
 simp only [IJ,Bu] at h;split at h
 ·rename_i m e z ht;split at h
  ·rename_i ei he;cases hag:ei.kind.isAgg with
   | true=>rw [hag] at h;exact BB (by simp only [Fj,ht,he,hag];rfl) rfl h
   | false =>
    rw [hag] at h;simp only [cond,Ama] at h;obtain ⟨kd,n,hi,h⟩:=RQ h;obtain ⟨hc,h⟩:=Dh h;have hc:=Bh hc;rcases MV h with ⟨v,hx,h⟩ | h
    ·simp only [GZ] at h;split at h
     ·rw [CL] at h;obtain ⟨w,hw,h⟩:=Bm h;refine AX ?_ h;simp only [CD,ht,hi,hx,he];rw [if_pos ⟨by omega,by omega⟩];simp only [hag,Bl,Bool.false_eq_true,if_false,Int.toNat_natCast,hw];rfl
     ·cases h
    ·cases h
  ·cases h
 ·rename_i hn;refine BB ?_ rfl h;simp only [Fj]
theorem Adj {z:List IV} {o sz:Nat} {v:IV} {k:List IV→Option β} (h:G7 z o sz v k=some r):(v.alive=true∧v.cells.length=sz∧o+sz≤z.length)∧k (A3 z o v.cells)=some r:=by
 have one:v.one=true→(cond (Nat.beq sz 1) (Gu z o v k) none)=some r→(v.alive=true∧v.cells.length=sz∧o+sz≤z.length)∧k (A3 z o v.cells)=some r:=by
  intro ho h;obtain ⟨hs,h⟩:=Dh h;have hs:=Dy hs;rw [AaW] at h;obtain ⟨hlt,h⟩:=DF h;obtain ⟨c1,c2⟩:=KL ho;refine ⟨⟨c2,by rw [c1,hs];rfl,by omega⟩,?_⟩;rw [c1,Abf];exact h
 unfold G7 at h;rcases MV h with ⟨w,rfl,g'⟩ | h
 ·replace h:=g';clear g';cases ho:Hr w with
  | true =>
   rw [ho] at h;exact one (by cases w<;>first | rfl | cases ho) h
  | false =>
   rw [ho] at h;simp only [cond,GZ] at h;split at h
   ·rename_i cs;cases hc:Nat.beq cs.length sz with
    | false=>rw [hc] at h;cases h
    | true =>
     rw [hc] at h;have hc:=Dy hc;obtain ⟨h1,h⟩:=Nn z o cs h;exact ⟨⟨rfl,by simp [IV.cells,hc],by omega⟩,h⟩
   ·cases h
 ·unfold WO at h;cases ho:v.one with
  | true=>rw [ho] at h;exact one ho h
  | false =>
   rw [ho] at h;simp only [cond] at h;obtain ⟨hc,h⟩:=DF h;rw [Hh] at h;exact ⟨hc,h⟩
theorem Ss:∀(pl:List (Nat×Operand)) (place:Nat→Option (Nat×Nat)) (l:List (Nat×Nat×Operand)) (z:List IV) {k:List IV→Option β},KV place pl=some l→MR z (AaL ρ l) k=some r →
  ∃cells,Ck place z (pl.map fun (j,x)=>(j,ρ x))=some cells∧k cells=some r
 | [],place,l,z,k,hp,h=>by
  simp only [KV,Arf] at hp;subst hp;exact ⟨z,rfl,h⟩
 | (j,x)::pl,place,l,z,k,hp,h=>by
  simp only [KV] at hp;cases hj:place j with
  | none=>rw [hj] at hp;cases hp
  | some os =>
   obtain ⟨o,s⟩:=os;rw [hj] at hp;simp only at hp;cases hpl:KV place pl with
   | none=>rw [hpl] at hp;cases hp
   | some l' =>
    rw [hpl] at hp;simp only [Arf] at hp;subst hp;have h:(G7 z o s (ρ x) fun z=>MR z (AaL ρ l') k)=some r:=h;simp only [Arl,Ck,hj];obtain ⟨hc,h⟩:=Adj h;rw [if_pos hc];exact Ss pl place l' _ hpl h
theorem Ahg {t:TypeId} {parts:Array (Nat×Operand)} (h:IJ E ih' f rid i dr ρ (.build t parts) hp k=some r):Gh E ih f rid i ρ (.build t parts) hp k r:=by
 simp only [IJ,Bu] at h;split at h
 ·rename_i fs z ht;split at h
  ·rename_i l hl;unfold Bw at h;obtain ⟨cells,h1,h2⟩:=Ss _ _ _ _ hl h;rw [PF] at h2;refine AX ?_ h2;simp only [CD,ht,h1];rfl
  ·cases h
 ·rename_i hn;refine BB ?_ rfl h;simp only [Fj]
theorem Ano {t:TypeId} {x:Operand} (h:IJ E ih' f rid i dr ρ (.box t x) hp k=some r):Gh E ih f rid i ρ (.box t x) hp k r:=by
 simp only [IJ,Bu] at h;have hg:E.pol.fzBox f rid i=true→CD E ih f rid i ρ (.box t x)=Jy true (A9 f rid i) (ρ x):=fun e=>by rw [AcY,e]
 cases hz:E.pol.fzBox f rid i with
 | true =>
  rw [hz] at h;simp only [cond,fzS] at h;rcases MV h with ⟨v,hx,h⟩ | h
  ·simp only [Al8] at h;split at h
   ·rename_i cs;cases hc:Nat.ble cs.length 2000 with
    | false=>rw [hc] at h;exact BB rfl (hg hz) h
    | true =>
     rw [hc] at h;have hc:=Bh hc;have key:∀(n:Nat) (cs:List FV),cs.length<n→frzL n (cs.map .fv)=.ret (cs,[]):=by
      intro n
      induction n with
      | zero=>intro cs h;omega
      | succ n ih =>
       intro cs h;cases cs with
       | nil=>rfl
       | cons c cs =>
        cases n with
        | zero=>simp at h
        | succ n =>
         simp only [Arl,frzL,CJ,Rd.bind];rw [ih cs (by simp at h ⊢;omega)];rfl
     refine ⟨_,hp,[],[],⟨{ eff:={ val:=.fv (.fp cs 0),upd:=[] } },?_,rfl,rfl,rfl⟩,h,fun q=>by cases q⟩;simp only [CD,hx,IV.alive,Bool.true_eq_false,if_false,hz,if_true,IV.cells,key 4096 cs (by omega)];rfl
   ·exact BB rfl (hg hz) h
  ·exact BB rfl (hg hz) h
 | false =>
  rw [hz] at h;simp only [cond,Bg] at h;have key:∀cs,(ρ x).cells=cs→(ρ x).alive=true→AK (A9 f rid i) (.row cs false) (.ptr (.own (A9 f rid i)) 0) hp k=some r→Gh E ih f rid i ρ (.box t x) hp k r:=by
   intro cs hcs ha h;refine TP rfl ?_ h;simp only [CD,ha,Bool.true_eq_false,if_false,hz,Bool.false_eq_true,hcs]
  cases ho:(ρ x).one with
  | true =>
   rw [ho] at h;obtain ⟨c1,c2⟩:=KL ho;exact key _ c1 c2 h
  | false =>
   rw [ho] at h;simp only at h;obtain ⟨ha,h⟩:=Dh h;rw [Hh] at h;exact key _ rfl ha h
theorem Acu {s d:TypeId} {x:Operand} (h:IJ E ih' f rid i dr ρ (.convert s d x) hp k=some r):Gh E ih f rid i ρ (.convert s d x) hp k r:=by
 simp only [IJ,Bu] at h;split at h
 ·rename_i hs hd;obtain ⟨v,h1,h2⟩:=AbI hs hd h;exact AX (by simp only [CD,h1];rfl) h2
 ·rw [Cs] at h;exact OR rfl h
def Iso (E:Env) (ih:Aa) (g:FuncId) (args:List IV) (hp:Hp) (k:IV→Hp→List Ref→List Ref→Option β) (r:β):Prop :=
 ∃e rd hp',(GP E ih g args).runLog hp []=some (e,rd)∧laid hp e.upd=some hp'∧k e.val hp' rd (Bk e.upd)=some r
theorem Kj (hi:∀f args h x,ih' f args h=some x→ih f args h=some x) {g:FuncId} {args:List IV} (h:ES (E.pol.keep g) (E.pol.split g) (E.pol.raw g) ih' g args hp k=some r):Iso E ih g args hp k r:=by
 have hasked:∀args ext x,Jc (E.pol.split g) ih' g args ext=some x→asked E ih g args ext=some x:=by
  intro args ext x e;unfold Jc at e;unfold asked;split at e
  ·rename_i hs;rw [if_pos hs];split at e
   ·split at e
    ·rename_i hc;simp only [Bool.and_eq_true] at hc;have mono:∀{o o':Option (IV×Hp)},(∀x,o=some x→o'=some x)→Co o=true→Co o'=true:=by
      intro o o' hm h;cases o with
      | none=>cases h
      | some x=>rw [hm x rfl];exact h
     rw [if_pos (by rw [mono (hi _ _ _) hc.1,mono (hi _ _ _) hc.2];rfl)];exact e
    ·cases e
   ·rename_i hne
    have:=hi _ _ _ _ e
    split
    ·exact absurd rfl (fun e=>hne rfl e)
    ·exact this
  ·rename_i hs;rw [if_neg hs];exact hi _ _ _ _ e
 unfold ES at h;split at h
 ·cases h
 rename_i vs rs u l1 h1;split at h
 ·cases h
 rename_i l l2 h2;split at h
 ·cases h
 rename_i vs' h3;split at h
 ·cases h
 rename_i ext h4;simp only [Df (Ce 3),Df Cw] at h;split at h
 ·cases h
 rename_i res hp' h5;split at h
 ·cases h
 rename_i res1 h6;split at h
 ·cases h
 rename_i res2 h7;split at h
 ·cases h
 rename_i ext' h8;obtain ⟨hc,h⟩:=DF h;split at h
 ·cases h
 rename_i hp2 h9;simp only [K3,Ce] at h;refine ⟨{ val:=res2,upd:=u++(Bk l).zip ext' },l2,hp2,?_,h9,h⟩;simp only [GP,Bn,h1,h2,Option.bind_some,h3,h4,hasked _ _ _ h5];rw [show Hg E g res hp'=some res1 from h6]
 simp only [Option.bind_some,h7,h8];rw [if_pos hc];rfl
def Aks (M:Nat) (g:FzK β):Prop:=∀v h lg e k r,g v h lg e k=some r→e=some r∨∃x u lg',(∀N,M≤N→(CJ N v).runLog h lg=some ((x,u),lg'))∧(∀p∈u,∃s,p.1=Ref.own s)∧k x u lg'=some r
theorem Iy {M:Nat} {g:FzK β} (hg:Aks M g):∀(l:List IV) h lg e k r,CU g l h lg e k=some r →
  e=some r∨∃xs us lg',(∀N,M+l.length+1≤N→(frzL N l).runLog h lg=some ((xs,us),lg'))∧(∀p∈us,∃s,p.1=Ref.own s)∧k xs us lg'=some r
 | [],h,lg,e,k,r,hh=>.inr ⟨[],[],lg,fun N hN=>(by cases N with | zero=>simp at hN | succ N=>rfl),fun p hp=>(by cases hp),hh⟩
 | v::l,h,lg,e,k,r,hh=>by
  have hh:(g v h lg e fun y u lg=>CU g l h lg e fun ys us lg=>Oi u us fun w=>k (y::ys) w lg)=some r:=hh;rcases hg _ _ _ _ _ _ hh with h1 | ⟨x,u,lg1,h1,hu,hh⟩
  ·exact .inl h1
  ·rcases Iy hg l _ _ _ _ _ hh with h2 | ⟨xs,us,lg2,h2,hus,hh⟩
   ·exact .inl h2
   ·rw [T8] at hh;refine .inr ⟨x::xs,u++us,lg2,fun N hN=>?_,fun p hp=>?_,hh⟩
    ·cases N with
     | zero=>simp at hN
     | succ N =>
      simp only [Arj] at hN;simp only [frzL,Bn,h1 N (by omega),Option.bind_some,h2 N (by omega)];rfl
    ·rcases List.mem_append.1 hp with hp | hp
     ·exact hu p hp
     ·exact hus p hp
theorem Me:∀d,Aks (β:=β) (310 * d) (EJ d)
 | 0=>fun v h lg e k r hh=>.inl hh
 | d+1=>by
  intro v h lg e k r hh;have ihd:Aks (β:=β) (310 * d) (EJ d):=Me d;have one:∀{w:FV},(∀N,CJ (N+1) v=.ret (w,[]))→k w [] lg=some r→e=some r∨∃x u lg',(∀N,310 * (d+1)≤N→(CJ N v).runLog h lg=some ((x,u),lg'))∧(∀p∈u,∃s,p.1=Ref.own s)∧k x u lg'=some r:=by
   intro w hw hk;refine .inr ⟨w,[],lg,fun N hN=>?_,fun p hp=>(by cases hp),hk⟩;cases N with
   | zero=>omega
   | succ N=>rw [hw];rfl
  have own:∀{q:Ref} {e:Option β} {k:Nat→Option β},UW q e k=some r→e=some r∨∃s,q=.own s∧k s=some r:=by
   intro q e k h;cases q with
   | own s=>exact .inr ⟨s,rfl,h⟩
   | ext j=>exact .inl h
  have cnd2:∀{c:Bool} {a e:Option β},cond c a e=some r→e=some r∨(c=true∧a=some r):=by
   intro c a e h;cases c with
   | true=>exact .inr ⟨rfl,h⟩
   | false=>exact .inl h
  cases v with
  | fv w=>exact one (fun _=>rfl) hh
  | nils=>exact one (fun _=>rfl) hh
  | emp=>exact one (fun _=>rfl) hh
  | clip es=>exact one (fun _=>rfl) hh
  | app q es=>exact one (fun _=>rfl) hh
  | dead=>exact .inl hh
  | tuple vs=>exact .inl hh
  | mapr q=>exact .inl hh
  | ptr q off =>
   have hh:(UW q e fun s=>CV (.own s) h fun b=>DU b fun cells=>cond (Nat.ble cells.length 300) (CU (EJ d) cells h (.own s::lg) e fun cs u lg=>k (.fp cs off) ((.own s,.row cells true)::u) lg) e)=some r:=hh;rcases own hh with h1 | ⟨s,rfl,g'⟩
   ·exact .inl h1
   ·replace hh:=g';clear g';rw [El] at hh;obtain ⟨b,hb,hh⟩:=Bm hh;obtain ⟨cells,ro,hbb,hh⟩:=Gj hh;rcases cnd2 hh with h1 | ⟨hl,hh⟩
    ·exact .inl h1
    ·have hl:=Bh hl;rcases Iy ihd cells _ _ _ _ _ hh with h1 | ⟨xs,us,lg2,h2,hus,hh⟩
     ·exact .inl h1
     ·refine .inr ⟨_,_,_,fun N hN=>?_,fun p hp=>?_,hh⟩
      ·cases N with
       | zero=>omega
       | succ N =>
        simp only [CJ,Rd.runLog,hb,hbb,Bn,h2 N (by omega),Option.bind_some]
      ·rcases List.mem_cons.1 hp with rfl | hp
       ·exact ⟨s,rfl⟩
       ·exact hus p hp
  | slc q sz len =>
   have hh:(UW q e fun s=>CV (.own s) h fun b=>DU b fun cells=>cond (Nat.ble cells.length 300) (cond (or (Nat.beq sz 0) (not (Nat.ble (len * sz) cells.length))) none
    (CU (EJ d) cells h (.own s::lg) e fun cs u lg=>chK sz len cs fun els=>k (.sl els) ((.own s,.row cells true)::u) lg)) e)=some r:=hh
   rcases own hh with h1 | ⟨s,rfl,g'⟩
   ·exact .inl h1
   ·replace hh:=g';clear g';rw [El] at hh;obtain ⟨b,hb,hh⟩:=Bm hh;obtain ⟨cells,ro,hbb,hh⟩:=Gj hh;rcases cnd2 hh with h1 | ⟨hl,hh⟩
    ·exact .inl h1
    ·have hl:=Bh hl;cases hc:(or (Nat.beq sz 0) (not (Nat.ble (len * sz) cells.length))) with
     | true=>rw [hc] at hh;cases hh
     | false =>
      rw [hc] at hh;simp only [cond] at hh;have hc:(Nat.beq sz 0 || !Nat.ble (len * sz) cells.length)=false:=hc;simp only [Bool.or_eq_false_iff,Bool.not_eq_false'] at hc;have c1:sz≠0:=fun e=>by rw [e] at hc;exact absurd hc.1 (by decide)
      have c2:=Bh hc.2;rcases Iy ihd cells _ _ _ _ _ hh with h1 | ⟨xs,us,lg2,h2,hus,hh⟩
      ·exact .inl h1
      ·have hh:=AdS sz len _ hh;refine .inr ⟨_,_,_,fun N hN=>?_,fun p hp=>?_,hh⟩
       ·cases N with
        | zero=>omega
        | succ N =>
         simp only [CJ,Rd.runLog,hb,hbb];rw [if_neg (by omega)];simp only [Bn,h2 N (by omega),Option.bind_some,Rd.runLog]
       ·rcases List.mem_cons.1 hp with rfl | hp
        ·exact ⟨s,rfl⟩
        ·exact hus p hp
  | agg cs =>
   have hh:cond (Nat.ble cs.length 300) (CU (EJ d) cs h lg e fun cs u lg=>k (.agg cs) u lg) e=some r:=hh;rcases cnd2 hh with h1 | ⟨hl,hh⟩
   ·exact .inl h1
   ·have hl:=Bh hl;rcases Iy ihd cs _ _ _ _ _ hh with h1 | ⟨xs,us,lg2,h2,hus,hh⟩
    ·exact .inl h1
    ·refine .inr ⟨_,_,_,fun N hN=>?_,hus,hh⟩;cases N with
     | zero=>omega
     | succ N=>simp only [CJ,Bn,h2 N (by omega),Option.bind_some,Rd.runLog]
  | func fn a b =>
   have hh:cond (and (Nat.ble a.length 300) (Nat.ble b.length 300)) (CU (EJ d) a h lg e fun x u lg=>CU (EJ d) b h lg e fun y v lg=>Oi u v fun w=>k (.func fn x y) w lg) e=some r:=hh;rcases cnd2 hh with h1 | ⟨hl,hh⟩
   ·exact .inl h1
   ·have hl:(Nat.ble a.length 300 && Nat.ble b.length 300)=true:=hl;simp only [Bool.and_eq_true] at hl;have l1:=Bh hl.1;have l2:=Bh hl.2;rcases Iy ihd a _ _ _ _ _ hh with h1 | ⟨xs,us,lg2,h2,hus,hh⟩
    ·exact .inl h1
    ·rcases Iy ihd b _ _ _ _ _ hh with h1 | ⟨ys,vs,lg3,h3,hvs,hh⟩
     ·exact .inl h1
     ·rw [T8] at hh;refine .inr ⟨_,_,_,fun N hN=>?_,fun p hp=>?_,hh⟩
      ·cases N with
       | zero=>omega
       | succ N=>simp only [CJ,Bn,h2 N (by omega),h3 N (by omega),Option.bind_some,Rd.runLog]
      ·rcases List.mem_append.1 hp with hp | hp
       ·exact hus p hp
       ·exact hvs p hp
def KC (m:Nat) (l:List Ref):Prop:=∀r∈l,∃j,r=.ext j∧j<m
theorem Uj:∀(args:List IV) (keep:List Bool) h lg e k r,Sp (β:=β) args keep h lg e k=some r →
  e=some r∨∃vs rs us lg',(Bc keep args).runLog h lg=some ((vs,rs,us),lg')∧(∀p∈us,∃s,p.1=Ref.own s)∧(IV.refs.refsL vs=rs)∧k vs rs us lg'=some r
 | [],keep,h,lg,e,k,r,hh=>.inr ⟨[],[],[],lg,by cases keep<;>rfl,fun p hp=>(by cases hp),rfl,hh⟩
 | x::l,keep,h,lg,e,k,r,hh=>by
  have fz:∀ks,(EJ 12 x h lg e fun y u lg=>Sp l ks h lg e fun vs rs us lg=>Oi u us fun w=>k (.fv y::vs) rs w lg)=some r →
    e=some r∨∃vs rs us lg',((CJ 4096 x).bind fun (x,u)=>(Bc ks l).bind fun (vs,rs,u')=>Rd.ret (IV.fv x::vs,rs,u++u')).runLog h lg=some ((vs,rs,us),lg')∧(∀p∈us,∃s,p.1=Ref.own s)∧(IV.refs.refsL vs=rs)∧k vs rs us lg'=some r:=by
   intro ks hh;rcases Me 12 _ _ _ _ _ _ hh with h1 | ⟨y,u,lg1,h1,hu,hh⟩
   ·exact .inl h1
   ·rcases Uj l ks _ _ _ _ _ hh with h2 | ⟨vs,rs,us,lg2,h2,hus,hrs,hh⟩
    ·exact .inl h2
    ·rw [T8] at hh;refine .inr ⟨_,_,_,_,?_,fun p hp=>?_,?_,hh⟩
     ·simp only [Bn,h1 4096 (by decide),Option.bind_some,h2,Rd.runLog]
     ·rcases List.mem_append.1 hp with hp | hp
      ·exact hu p hp
      ·exact hus p hp
     ·simp only [IV.refs.refsL,IV.refs,List.nil_append,hrs]
  cases keep with
  | nil=>exact fz [] hh
  | cons b ks =>
   cases b with
   | false=>exact fz ks hh
   | true =>
    have hh:(EF x (fun q o=>Sp l ks h lg e fun vs rs us lg=>k (.ptr q o::vs) (q::rs) us lg) fun _ _=>e)=some r:=hh;rcases Dp hh with ⟨q,o,hx,hh⟩ | ⟨cs,o,_,hh⟩
    ·rcases Uj l ks _ _ _ _ _ hh with h2 | ⟨vs,rs,us,lg2,h2,hus,hrs,hh⟩
     ·exact .inl h2
     ·refine .inr ⟨_,_,_,_,?_,hus,?_,hh⟩
      ·simp only [Bc,Bn,h2,Option.bind_some,Rd.runLog,hx,IV.refs];rfl
      ·simp only [IV.refs.refsL,IV.refs,hrs];rfl
    ·exact .inl hh
mutual
theorem TM:∀(v:IV) (acc:List Ref),So v acc=v.refs++acc
 | .dead,_=>rfl
 | .fv _,_=>rfl
 | .ptr _ _,_=>rfl
 | .slc _ _ _,_=>rfl
 | .nils,_=>rfl
 | .emp,_=>rfl
 | .clip _,_=>rfl
 | .app _ _,_=>rfl
 | .mapr _,_=>rfl
 | .func _ a b,acc=>by
  show Cj a (Cj b acc)=(IV.refs.refsL a++IV.refs.refsL b)++acc
  rw [refsDL_eq,refsDL_eq,List.append_assoc]
 | .agg cs,acc=>refsDL_eq cs acc
 | .tuple cs,acc=>refsDL_eq cs acc
theorem refsDL_eq:∀(l:List IV) (acc:List Ref),Cj l acc=IV.refs.refsL l++acc
 | [],_=>rfl
 | v::l,acc=>by
  show So v (Cj l acc)=(v.refs++IV.refs.refsL l)++acc
  rw [TM,refsDL_eq,List.append_assoc]
end
theorem JN (b:Blk):EK b=b.refs:=by
 cases b with
 | row cells ro =>
  show Cj cells []=_
  rw [refsDL_eq,List.append_nil];rfl
 | tok _ _=>rfl
 | map es =>
  show _=IV.refs.refsL (es.map (·.2))
  induction es with
  | nil=>rfl
  | cons p es ih =>
   obtain ⟨n,v⟩:=p
   show So v (EK (.map es))=v.refs++_
   rw [TM];congr 1
mutual
theorem AjE {g:Ref→Option Ref}:∀(v:IV),(∀r∈v.refs,g r=some r)→v.ren g=some v
 | .dead,_=>rfl
 | .fv _,_=>rfl
 | .nils,_=>rfl
 | .emp,_=>rfl
 | .clip _,_=>rfl
 | .ptr r o,h=>by simp only [IV.ren,h r (by simp [IV.refs]),Ari]
 | .slc r sz n,h=>by simp only [IV.ren,h r (by simp [IV.refs]),Ari]
 | .app r es,h=>by simp only [IV.ren,h r (by simp [IV.refs]),Ari]
 | .mapr r,h=>by simp only [IV.ren,h r (by simp [IV.refs]),Ari]
 | .func fn a b,h=>by
  have h1:=renL_id (g:=g) a (fun r hr=>h r (by simp only [IV.refs,List.mem_append];exact .inl hr));have h2:=renL_id (g:=g) b (fun r hr=>h r (by simp only [IV.refs,List.mem_append];exact .inr hr));simp only [IV.ren,h1,h2,Option.bind_some,Ari]
 | .agg cs,h=>by
  have h1:=renL_id (g:=g) cs h;simp only [IV.ren,h1,Ari]
 | .tuple cs,h=>by
  have h1:=renL_id (g:=g) cs h;simp only [IV.ren,h1,Ari]
theorem renL_id {g:Ref→Option Ref}:∀(l:List IV),(∀r∈IV.refs.refsL l,g r=some r)→IV.ren.renL g l=some l
 | [],_=>rfl
 | v::l,h=>by
  have h1:=AjE (g:=g) v (fun r hr=>h r (by simp only [IV.refs.refsL,List.mem_append];exact .inl hr));have h2:=renL_id (g:=g) l (fun r hr=>h r (by simp only [IV.refs.refsL,List.mem_append];exact .inr hr));simp only [IV.ren.renL,h1,h2,Option.bind_some,Ari]
end
theorem AcI {α γ:Type}:∀(l:List (α×γ)),(l.map (·.1)).zip (l.map (·.2))=l
 | []=>rfl
 | p::l=>by simp only [Arl,List.zip_cons_cons,AcI l]
theorem Ak3 {g:Ref→Option Ref} (b:Blk) (h:∀r∈b.refs,g r=some r):b.ren g=some b:=by
 cases b with
 | row cells ro=>simp only [Blk.ren,renL_id cells h,Ari]
 | tok _ _=>rfl
 | map es =>
  have e:=renL_id (g:=g) (es.map (fun p:Int×IV=>p.2)) h;simp only [Blk.ren,e,Ari,AcI]
theorem QL {g:Ref→Option Ref}:∀(l:List Blk),(∀b∈l,∀r∈b.refs,g r=some r)→A1 g l=some l
 | [],_=>rfl
 | b::l,h=>by
  simp only [A1,Ak3 b (h b List.mem_cons_self),Option.bind_some,QL l (fun c hc=>h c (List.mem_cons_of_mem _ hc)),Ari]
def BC:Nat→List Blk→List (Ref×Blk)
 | _,[]=>[]
 | s,b::l=>(.ext s,b)::BC (s+1) l
theorem Oz:∀(s:Nat) (l:List Blk) (b:Blk),BC s (l++[b])=BC s l++[(.ext (s+l.length),b)]
 | s,[],b=>rfl
 | s,c::l,b=>by
  simp only [List.cons_append,BC,Oz (s+1) l b,Arj];rw [show s+1+l.length=s+(l.length+1) by omega]
theorem OL:∀(s:Nat) (l:List Blk),(BC s l).map (·.2)=l
 | _,[]=>rfl
 | s,b::l=>by simp only [BC,Arl,OL (s+1) l]
theorem KA:∀(s:Nat) (l:List Blk),(BC s l).length=l.length
 | _,[]=>rfl
 | s,b::l=>by simp only [BC,Arj,KA (s+1) l]
theorem KH:∀(s j:Nat) (l:List Blk),s≤j→hasRef (.ext j) (BC s l)=decide (j<s+l.length)
 | s,j,[],h=>by simp only [BC,hasRef,List.length_nil];rw [decide_eq_false (by omega)]
 | s,j,b::l,h=>by
  simp only [BC,hasRef,Arj];by_cases e:j=s
  ·subst e;simp
  ·rw [KH (s+1) j l (by omega),decide_eq_false (by simp [e]),Bool.false_or];congr 1;exact propext ⟨fun h=>by omega,fun h=>by omega⟩
theorem O0:∀(s k:Nat) (l:List Blk),hasRef (.own k) (BC s l)=false
 | _,_,[]=>rfl
 | s,k,b::l=>by simp only [BC,hasRef,O0 (s+1) k l,Bool.or_false];exact decide_eq_false (by simp)
theorem Li:∀(s j i:Nat) (l:List Blk),s≤j→j<s+l.length→B3 (.ext j) (BC s l) i=some (i+(j - s))
 | s,j,i,[],h1,h2=>by simp at h2;omega
 | s,j,i,b::l,h1,h2=>by
  simp only [Arj] at h2;simp only [BC,B3];by_cases e:j=s
  ·subst e;simp
  ·rw [if_neg (by simp [e]),Li (s+1) j (i+1) l (by omega) (by omega)];congr 1;omega
theorem OO:∀(s j:Nat) (l:List Blk),j<l.length→((BC s l)[j]?).map (·.1)=some (.ext (s+j))
 | s,j,[],h=>by simp at h
 | s,0,b::l,h=>rfl
 | s,j+1,b::l,h=>by
  simp only [Arj] at h;simp only [BC,List.getElem?_cons_succ];rw [OO (s+1) j l (by omega)];congr 2;omega
theorem U0 (s:Nat):∀(l:List Blk),Bk (BC s l)=(List.range' s l.length).map .ext:=by
 intro l
 induction l generalizing s with
 | nil=>rfl
 | cons b l ih=>simp only [BC,Bk,Arl,Arj,List.range'_succ];exact congrArg _ (ih (s+1))
theorem Ajo {own:List (Nat×Blk)} {ext:List Blk}:∀(n:Nat) (todo:List Ref) (s:Nat) (rest:List Blk),s≤ext.length→ext.drop s=rest→Ob n todo s rest=true →
  (∀N,n≤N→∀lg,(BT N todo (BC 0 (ext.take s))).runLog ⟨own,ext⟩ lg=some (BC 0 ext,((List.range' s (ext.length - s)).map Ref.ext).reverse++lg)) ∧
  KC ext.length todo∧(∀b∈rest,KC ext.length b.refs):=by
 intro n
 induction n with
 | zero=>intro todo s rest _ _ h;cases h
 | succ n ih =>
  intro todo s rest hs hd h;cases todo with
  | nil =>
   cases rest with
   | cons _ _=>cases h
   | nil =>
    have he:s=ext.length:=by
     have:=congrArg List.length hd
     simp at this;omega
    refine ⟨fun N hN lg=>?_,fun r hr=>(by cases hr),fun b hb=>(by cases hb)⟩;cases N with
    | zero=>omega
    | succ N =>
     subst he;simp only [BT,Rd.runLog,List.take_length,Nat.sub_self,List.range'_zero,Ark,List.reverse_nil,List.nil_append]
  | cons r t =>
   cases r with
   | own k=>cases h
   | ext j =>
    have h:cond (Nat.ble (Nat.succ j) s) (Ob n t s rest) (cond (Nat.beq j s) (goR (Ob n) t s rest) false)=true:=h;have hl:(ext.take s).length=s:=by simp;omega
    cases hj:Nat.ble (Nat.succ j) s with
    | true =>
     rw [hj] at h;have hj:=Bh hj;obtain ⟨h1,h2,h3⟩:=ih t s rest hs hd h;refine ⟨fun N hN lg=>?_,fun r hr=>?_,h3⟩
     ·cases N with
      | zero=>omega
      | succ N =>
       simp only [BT];rw [KH 0 j _ (Nat.zero_le _),hl,decide_eq_true (by omega),if_pos rfl];exact h1 N (by omega) lg
     ·rcases List.mem_cons.1 hr with rfl | hr
      ·exact ⟨j,rfl,by omega⟩
      ·exact h2 r hr
    | false =>
     rw [hj] at h;simp only [cond] at h;have hj':¬ j<s:=fun e=>by rw [Nat.ble_eq_true_of_le (Nat.succ_le_of_lt e)] at hj;cases hj
     cases hb:Nat.beq j s with
     | false=>rw [hb] at h;cases h
     | true =>
      rw [hb] at h;have hb:=Dy hb;subst hb;simp only at h;cases rest with
      | nil=>cases h
      | cons b rest =>
       have h:Ob n (t++EK b) (Nat.succ j) rest=true:=h;have hjl:j<ext.length:=by
        have:=congrArg List.length hd
        simp at this;omega
       have hgb:ext[j]?=some b:=by
        rw [← List.head?_drop,hd];rfl
       have hd':ext.drop (j+1)=rest:=by rw [← List.tail_drop,hd];rfl
       obtain ⟨h1,h2,h3⟩:=ih (t++EK b) (j+1) rest (by omega) hd' h;rw [JN] at h1 h2;refine ⟨fun N hN lg=>?_,fun r hr=>?_,fun c hc=>?_⟩
       ·cases N with
        | zero=>omega
        | succ N =>
         simp only [BT];rw [KH 0 j _ (Nat.zero_le _),hl,decide_eq_false (by omega)];simp only [Bool.false_eq_true,if_false,Rd.runLog,Hp.get,hgb];have ht:BC 0 (ext.take j)++[(.ext j,b)]=BC 0 (ext.take (j+1)):=by
          have:ext.take (j+1)=ext.take j++[b]:=by
           rw [List.take_add_one,hgb];rfl
          rw [this,Oz,hl,Nat.zero_add]
         rw [ht,h1 N (by omega) (.ext j::lg)];rw [show ext.length - j=(ext.length - (j+1))+1 by omega,List.range'_succ]
         simp
       ·rcases List.mem_cons.1 hr with rfl | hr
        ·exact ⟨j,rfl,hjl⟩
        ·exact h2 r (List.mem_append_left _ hr)
       ·rcases List.mem_cons.1 hc with rfl | hc
        ·exact fun r hr=>h2 r (List.mem_append_right _ hr)
        ·exact h3 c hc
theorem Aed {m:Nat}:∀(l:List Ref),okR m l=true→KC m l
 | [],_=>fun r hr=>by cases hr
 | .own k::l,h=>by cases h
 | .ext j::l,h=>by
  have h:cond (Nat.ble (Nat.succ j) m) (okR m l) false=true:=h;cases hj:Nat.ble (Nat.succ j) m with
  | false=>rw [hj] at h;cases h
  | true =>
   rw [hj] at h;have hj:=Bh hj;intro r hr;rcases List.mem_cons.1 hr with rfl | hr
   ·exact ⟨j,rfl,by omega⟩
   ·exact Aed l h r hr
theorem Afu {m:Nat}:∀(l:List Blk),okB m l=true→∀b∈l,KC m b.refs
 | [],_=>fun b hb=>by cases hb
 | b::l,h=>by
  have h:cond (okR m (EK b)) (okB m l) false=true:=h;cases hb:okR m (EK b) with
  | false=>rw [hb] at h;cases h
  | true =>
   rw [hb] at h;rw [JN] at hb;intro c hc;rcases List.mem_cons.1 hc with rfl | hc
   ·exact Aed _ hb
   ·exact Afu l h c hc
theorem RL:∀(u:List (Ref×Blk)) (own:List (Nat×Blk)) (ext ext':List Blk) {k:Hp→Option β} {r:β},KS u ⟨own,ext'⟩ k=some r →
  ∃own2,laid ⟨own,ext⟩ u=some ⟨own2,ext⟩∧laid ⟨own,ext'⟩ u=some ⟨own2,ext'⟩∧k ⟨own2,ext'⟩=some r
 | [],own,ext,ext',k,r,h=>⟨own,rfl,rfl,h⟩
 | (q,b)::u,own,ext,ext',k,r,h=>by
  have h:(UW q none fun s=>CV (.own s) ⟨own,ext'⟩ fun _=>Fu (.own s) b ⟨own,ext'⟩ fun h=>KS u h k)=some r:=h;cases q with
  | ext j=>cases h
  | own s =>
   have h:(CV (.own s) ⟨own,ext'⟩ fun _=>Fu (.own s) b ⟨own,ext'⟩ fun h=>KS u h k)=some r:=h;rw [El] at h;obtain ⟨c,hc,h⟩:=Bm h;rw [Km] at h;obtain ⟨own2,h1,h2,h3⟩:=RL u (AM s b own) ext ext' h;refine ⟨own2,?_,?_,h3⟩
   ·simp only [laid];rw [show (Hp.mk own ext).get (.own s)=some c from hc]
    exact h1
   ·simp only [laid];rw [hc];exact h2
theorem MJ:∀(ext' pre ext:List Blk) (own:List (Nat×Blk)),ext.length=ext'.length→laid ⟨own,pre++ext⟩ (((List.range' pre.length ext'.length).map Ref.ext).zip ext')=some ⟨own,pre++ext'⟩
 | [],pre,ext,own,h=>by
  cases ext with
  | nil=>rfl
  | cons _ _=>cases h
 | b::ext',pre,ext,own,h=>by
  cases ext with
  | nil=>cases h
  | cons c ext =>
   simp only [Arj,Nat.add_right_cancel_iff] at h;simp only [Arj,List.range'_succ,Arl,List.zip_cons_cons,laid,Hp.get];rw [List.getElem?_append_right (Nat.le_refl _),Nat.sub_self];simp only [List.getElem?_cons_zero,Hp.set];have e:(pre++c::ext).set pre.length b=(pre++[b])++ext:=by
    rw [List.set_append_right _ _ (Nat.le_refl _),Nat.sub_self];simp
   rw [e]
   have:=MJ ext' (pre++[b]) ext own h
   simp only [List.length_append,List.length_singleton] at this;rw [this];simp
theorem Tj:∀(a b:List (Ref×Blk)) (h:Hp),laid h (a++b)=(laid h a).bind fun h=>laid h b
 | [],_,_=>rfl
 | (q,c)::a,b,h=>by
  simp only [List.cons_append,laid];cases h.get q with
  | none=>rfl
  | some _=>exact Tj a b _
theorem AaI (hi:∀f args h x,ih' f args h=some x→ih f args h=some x) {g:FuncId} {args:List IV} (h:Ak (E.pol.keep g) (E.pol.split g) (E.pol.raw g) ih' g args hp k=some r):Iso E ih g args hp k r:=by
 unfold Ak at h;cases hc:(cond (E.pol.split g) true (E.pol.raw g)) with
 | true=>rw [hc] at h;exact Kj hi h
 | false =>
  rw [hc] at h;simp only [cond] at h;have hs:E.pol.split g=false:=by cases e:E.pol.split g with | false=>rfl | true=>rw [e] at hc;cases hc
  rw [hs] at hc;have hr:E.pol.raw g=false:=hc;rcases Uj _ _ _ _ _ _ _ h with h1 | ⟨vs,rs,us,lg,hz,hus,hrs,h⟩
  ·exact Kj hi h1
  ·cases rs with
   | nil =>
    simp only at h;cases he:ih' g vs ⟨[],[]⟩ with
    | none=>rw [he] at h;cases h
    | some p =>
     obtain ⟨v,⟨own,ext⟩⟩:=p;rw [he] at h;cases ext with
     | cons b ext=>exact absurd (show (none:Option β)=some r from h) (by simp)
     | nil =>
      have h:(EJ 12 v ⟨own,[]⟩ [] (ES (E.pol.keep g) (E.pol.split g) (E.pol.raw g) ih' g args hp k) fun w _ _=>KS us hp fun h2=>k (.fv w) h2 lg (Bk us))=some r:=h;rcases Me 12 _ _ _ _ _ _ h with h1 | ⟨w,u2,lg2,h2,_,h⟩
      ·exact Kj hi h1
      ·obtain ⟨own0,ext0⟩:=hp;obtain ⟨own2,l1,l2,h⟩:=RL us own0 ext0 ext0 h;refine ⟨{ val:=.fv w,upd:=us },lg,⟨own2,ext0⟩,?_,l1,h⟩;have hw:=E4 _ _ _ _ _ (h2 4096 (by decide));have hren:∀q,IV.ren.renL q vs=some vs:=fun q=>renL_id vs (fun r hr=>by rw [hrs] at hr;cases hr);simp only [GP,Bn,hz,Option.bind_some,BT,Rd.runLog,hren,Ark,A1,asked,hs,Bool.false_eq_true,if_false,hi _ _ _ _ he,Hg,hr,hw,Ari,IV.ren,Rd.of];have hk:(Bk us).all (fun r=>!hasRef r [])=true:=List.all_eq_true.2 fun r _=>rfl;rw [if_pos ⟨rfl,hk⟩];simp only [Rd.runLog,Bk,Ark,List.zip_nil_left,List.append_nil]
   | cons q rs =>
    obtain ⟨own0,ext0⟩:=hp;simp only at h;cases hg:Ob 400 (q::rs) 0 ext0 with
    | false=>rw [hg] at h;exact Kj hi h
    | true =>
     rw [hg] at h;simp only at h;obtain ⟨g1,g2,g3⟩:=Ajo (own:=own0) 400 (q::rs) 0 ext0 (Nat.zero_le _) rfl hg;cases he:ih' g vs ⟨[],ext0⟩ with
     | none=>rw [he] at h;cases h
     | some p =>
      obtain ⟨v,⟨own,ext⟩⟩:=p;rw [he] at h;simp only at h;obtain ⟨ho,h⟩:=Dh h;have ho:(Nat.beq ext.length ext0.length && okB ext0.length ext)=true:=ho;simp only [Bool.and_eq_true] at ho;have hlen:=Dy ho.1;have hok:=Afu _ ho.2;rcases Me 12 _ _ _ _ _ _ h with h1 | ⟨w,u2,lg2,h2,_,h⟩
      ·exact Kj hi h1
      ·obtain ⟨own2,l1,l2,h⟩:=RL us own0 ext0 ext h;have hw:=E4 _ _ _ _ _ (h2 4096 (by decide));have hin:∀l,KC ext0.length l→∀r∈l,Dt (BC 0 ext0) r=some r:=by
        intro l hl r hr;obtain ⟨j,rfl,hj⟩:=hl r hr;simp only [Dt];rw [Li 0 j 0 ext0 (Nat.zero_le _) (by omega)];simp
       have hbk:∀l,KC ext0.length l→∀r∈l,Cc (BC 0 ext0) r=some r:=by
        intro l hl r hr;obtain ⟨j,rfl,hj⟩:=hl r hr;simp only [Cc];rw [OO 0 j ext0 hj,Nat.zero_add]
       have hv:IV.ren.renL (Dt (BC 0 ext0)) vs=some vs:=renL_id vs (fun r hr=>hin _ g2 r (by rw [hrs] at hr;exact hr));have hb1:A1 (Dt (BC 0 ext0)) ext0=some ext0:=QL ext0 (fun b hb r hr=>hin _ (g3 b hb) r hr);have hb2:A1 (Cc (BC 0 ext0)) ext=some ext:=QL ext (fun b hb r hr=>hbk _ (hok b hb) r hr);have hkeys:Bk (BC 0 ext0)=CC ext0.length:=by rw [U0,CC,List.range_eq_range']
       refine ⟨{ val:=.fv w,upd:=us++(Bk (BC 0 ext0)).zip ext },(CC ext0.length).reverse++lg,⟨own2,ext⟩,?_,?_,?_⟩
       ·have hga:=g1 4096 (by decide) lg;simp only [List.take_zero,BC,Nat.sub_zero] at hga;simp only [GP,Bn,hz,Option.bind_some,hga,OL,hv,hb1,asked,hs,Bool.false_eq_true,if_false,hi _ _ _ _ he,Hg,hr,hw,Ari,IV.ren,hb2];have hk:(Bk us).all (fun r=>!hasRef r (BC 0 ext0))=true:=List.all_eq_true.2 fun r hr=>by
         obtain ⟨p,hp,rfl⟩:=List.mem_map.1 hr;obtain ⟨s,e⟩:=hus p hp;rw [e,O0];rfl
        rw [if_pos ⟨by rw [KA,hlen],hk⟩];simp only [Rd.of,Rd.runLog,CC,List.range_eq_range']
       ·simp only;rw [Tj,l1,Option.bind_some,hkeys,CC,List.range_eq_range',← hlen];exact MJ ext [] ext0 own2 hlen.symm
       ·have hz2:Bk (us++(Bk (BC 0 ext0)).zip ext)=Bk us++CC ext0.length:=by
         simp only [Bk,List.map_append];congr 1;rw [← hkeys];exact List.map_fst_zip (by simp only [Bk,List.length_map,KA];omega)
        simp only [hz2];exact h
def Aet (E:Env) (ih:Aa) (f rid i:Nat) (dr:Bool) (slots:List IV) (op:Op) (hp:Hp) (k:IV→Hp→List Ref→List Ref→Option β) (r:β):Prop :=
 (Ey E slots op=none∧Gh E ih f rid i (Az slots) op hp k r) ∨
 (dr=false∧Fj E op=false∧∃g args v hp',Ey E slots op=some (g,args)∧ih g args hp=some (v,hp')∧k v hp' [] []=some r)
theorem TH {g:Operand} {args:Array Operand} {ts:Array TypeId} {h':FuncId} {first cap:List IV} {slots:List IV} (hc:callee (Az slots g)=some (h',first,cap)) (hin:E.pol.inl h'=false)
  (h:Iso E ih h' (first++args.toList.map (Az slots)++cap) hp k r):Aet E ih f rid i dr slots (.call ⟨.value g,args,ts⟩) hp k r:=by
 obtain ⟨e,rd,hp',h1,h2,h3⟩:=h;refine .inl ⟨?_,e.val,hp',rd,Bk e.upd,⟨{ eff:=e },?_,?_,rfl,?_⟩,h3,fun q=>by cases q⟩
 ·simp only [Ey,hc,hin,Bool.false_eq_true,if_false]
 ·simp only [CD,hc,hin,Bool.false_eq_true,if_false,Rd.eff,Bn,h1,Option.bind_some,Rd.runLog]
 ·simp only [AL,h2,Option.bind_some,Cm]
 ·simp only [HJ,List.append_nil]
theorem AjQ (hi:∀f args h x,ih' f args h=some x→ih f args h=some x) {slots:List IV} {c:Call} (h:IJ E ih' f rid i dr (Az slots) (.call c) hp k=some r):Aet E ih f rid i dr slots (.call c) hp k r:=by
 obtain ⟨cl,args,ts⟩:=c;simp only [IJ,Bu] at h;cases cl with
 | invoke _ _=>cases h
 | builtin b =>
  refine .inl ⟨rfl,?_⟩;simp only [Uq,Bu] at h;split at h
  ·rename_i t x hts has;split at h
   ·rename_i e z ht;unfold Ca at h;have hop:CD E ih f rid i (Az slots) (.call ⟨.builtin .len,args,ts⟩)=AS E (A9 f rid i) (E.pol.rowApp f rid i) .len [t] [Az slots x]:=by
     simp only [CD,hts,has];rfl
    rcases S6 h with ⟨q,sz,n,hx,h⟩ | ⟨hx,h⟩
    ·rw [C8] at h;exact AX (by rw [hop];simp only [AS,ht,hx]) h
    ·rw [WM] at h;obtain ⟨es,he,h⟩:=Bm h;rw [C8] at h;refine AX (v:=.fv (.int .i64 es.length)) ?_ h;rw [hop];simp only [AS,ht];cases hxx:Az slots x with
     | slc q sz n=>exact absurd hxx (hx q sz n)
     | _=>rw [hxx] at he;simp only [he];rfl
   ·rename_i hn;refine BB ?_ rfl h;simp only [Fj,hts,has]
  ·rename_i b0 b1 ts1 args1 hn;refine BB ?_ rfl h;cases b0 with
   | len =>
    simp only [Fj];split
    ·rename_i hts has;exact absurd has (hn _ _ rfl hts)
    ·rfl
   | _=>rfl
 | value g =>
  simp only [Uq,Bu] at h;split at h
  ·rename_i g;have hc:callee (Az slots (.func g))=some (g,[],[]):=rfl;cases hin:E.pol.inl g with
   | true =>
    rw [hin] at h;cases dr with
    | true=>cases h
    | false =>
     simp only [cond,AcC] at h;cases he:ih' g (args.toList.map (Az slots)) hp with
     | none=>rw [he] at h;cases h
     | some p =>
      obtain ⟨v,hp'⟩:=p;rw [he] at h;refine .inr ⟨rfl,rfl,g,args.toList.map (Az slots),v,hp',?_,hi _ _ _ _ he,h⟩;simp only [Ey,hc,hin,if_true,List.nil_append,List.append_nil]
   | false =>
    rw [hin] at h;refine TH hc hin ?_;simp only [List.nil_append,List.append_nil];exact AaI hi h
  ·unfold Fh at h;split at h
   ·cases h
   ·rename_i h' first cap hc
    cases hin:E.pol.inl h' with
    | true=>rw [hin] at h;cases h
    | false =>
     rw [hin] at h;simp only [cond,Hh] at h;exact TH hc hin (AaI hi h)
theorem Aki (hi:∀f args h x,ih' f args h=some x→ih f args h=some x) {slots:List IV} {op:Op} (h:IJ E ih' f rid i dr (Az slots) op hp k=some r):Aet E ih f rid i dr slots op hp k r:=by
 cases op with
 | call c=>exact AjQ hi h
 | move x=>exact .inl ⟨rfl,AX rfl h⟩
 | assign x=>exact .inl ⟨rfl,AX rfl h⟩
 | pick c a b=>exact .inl ⟨rfl,Ak1 h⟩
 | alloc t =>
  refine .inl ⟨rfl,?_⟩;simp only [IJ,Bu] at h;cases ht:E.T t with
  | none=>rw [ht] at h;cases h
  | some ti=>rw [ht] at h;exact TP rfl (by simp only [CD,ht]) h
 | box t x=>exact .inl ⟨rfl,Ano h⟩
 | build t ps=>exact .inl ⟨rfl,Ahg h⟩
 | load t a=>exact .inl ⟨rfl,Ais h⟩
 | store t a x=>exact .inl ⟨rfl,AfU h⟩
 | nilCheck x=>exact .inl ⟨rfl,AlH h⟩
 | binOp o t x y yt =>
  refine .inl ⟨rfl,?_⟩;simp only [IJ,Bu] at h;obtain ⟨v,h1,h2⟩:=Aco h;exact AX (by simp only [CD,h1];rfl) h2
 | unOp o t x =>
  refine .inl ⟨rfl,?_⟩;simp only [IJ,Cs] at h;exact OR rfl h
 | convert s d x=>exact .inl ⟨rfl,Acu h⟩
 | fieldAddr s x fd=>exact .inl ⟨rfl,SU h⟩
 | field s x fd=>exact .inl ⟨rfl,Ahz h⟩
 | indexAddr t x ix=>exact .inl ⟨rfl,SQ h⟩
 | index t x ix=>exact .inl ⟨rfl,Agw h⟩
 | extract x ix=>exact .inl ⟨rfl,Acp h⟩
 | makeMap t n=>cases n with
  | none=>exact .inl ⟨rfl,BB rfl rfl h⟩
  | some _=>cases h
 | buildSlice t n ps=>exact .inl ⟨rfl,BB rfl rfl h⟩
 | makeFunc fn a b=>exact .inl ⟨rfl,BB rfl rfl h⟩
 | insert t m j x=>exact .inl ⟨rfl,BB rfl rfl h⟩
 | mapUpdate t m j x=>exact .inl ⟨rfl,BB rfl rfl h⟩
 | lookup t m j ok=>exact .inl ⟨rfl,BB rfl rfl h⟩
 | makeSlice t l c=>exact .inl ⟨rfl,BB rfl rfl h⟩
 | slice t x lo hi mx=>exact .inl ⟨rfl,BB rfl rfl h⟩
 | _=>cases h
end
end Idl
end Go.Proofs.Ytkfecngimlcfoaa
namespace Go.Proofs.Ytkfecngimlcfoaa
namespace Idl
section
variable {β:Type}
def BD (k:Nat) (F:(List IV→Hp→Option β)→List IV→Hp→Option β):List IV→Hp→Option β :=
 Nat.rec (motive:=fun _=>List IV→Hp→Option β) (fun _ _=>none) (fun _ rec=>F rec) k
def Lo (s:Nat) (l:List Nat):Bool:=List.rec (motive:=fun _=>Bool) false (fun x _ ih=>cond (Nat.beq s x) true ih) l
def E7 (rm:List Nat) (l:List Ref):Bool:=List.rec (motive:=fun _=>Bool) true (fun r _ ih=>match r with
 | .own s=>cond (Lo s rm) false ih
 | .ext _=>ih) l
def Ht (rm:List Nat) (own:List (Nat×Blk)):Bool:=List.rec (motive:=fun _=>Bool) true (fun p _ ih=>match p with
 | (s,b)=>cond (Lo s rm) ih (cond (E7 rm (EK b)) ih false)) own
def IP (rm:List Nat) (ext:List Blk):Bool:=List.rec (motive:=fun _=>Bool) true (fun b _ ih=>cond (E7 rm (EK b)) ih false) ext
def AhG (rm:List Nat) (own:List (Nat×Blk)):Bool:=List.rec (motive:=fun _=>Bool) false (fun p _ ih=>match p with
 | (s,_)=>cond (Lo s rm) true ih) own
def SP (rm:List Nat) (own:List (Nat×Blk)) (k:List (Nat×Blk)→Option β):Option β :=
 List.rec (motive:=fun _=>(List (Nat×Blk)→Option β)→Option β) (fun k=>k []) (fun p _ ih k=>match p with
  | (s,b)=>cond (Lo s rm) (ih k) (ih fun l=>k ((s,b)::l))) own k
def Bs (base rm:List Nat) (vals:List IV) (h:Hp) (k:Hp→Option β):Option β :=
 cond (
    rm.any base.contains) none (match h with
  | ⟨own,ext⟩=>cond (AhG rm own)
   (cond (and (E7 rm (Cj vals [])) (and (Ht rm own) (IP rm ext))) (SP rm own fun own=>k ⟨own,ext⟩)
    (match Cn base [] rm ⟨vals,⟨own,ext⟩⟩ with
     | none=>none
     | some S=>fH S.hp k)) (k ⟨own,ext⟩))
def PM (d:Option Nat) (v:IV) (h:Hp) (T:FS):FS:=match d with
 | none=>⟨T.n,T.t,h⟩
 | some d=>cond (Nat.ble T.n d) ⟨T.n,T.t,h⟩ ⟨T.n,T.t.set d v,h⟩
abbrev SlT.setKK {α:Type} (t:SlT):Nat→IV→(SlT→α)→α :=
 SlT.rec (motive:=fun _=>Nat→IV→(SlT→α)→α) (fun j v i x k=>Bool.rec (motive:=fun _=>α) (k (.leaf j v)) (k (.leaf j x)) (Nat.beq i j))
  (fun m l r gl gr i x k=>Bool.rec (motive:=fun _=>α) (gl i x fun l'=>k (.node m l' r)) (gr i x fun r'=>k (.node m l r')) (Nat.ble m i)) t
abbrev Kf (d:Option Nat) (v:IV) (h:Hp) (T:FS) (K:FS→Option β):Option β :=
 FS.rec (motive:=fun _=>Option β) (fun n t _=>Option.rec (motive:=fun _=>Option β) (K ⟨n,t,h⟩) (fun d=>Tq (Nat.ble n d) (K ⟨n,t,h⟩) (t.setKK d v fun t=>K ⟨n,t,h⟩)) d) T
abbrev Ua (args:List IV):Nat→FS→(FS→Option β)→Option β :=
 List.rec (motive:=fun _=>Nat→FS→(FS→Option β)→Option β) (fun _ T K=>K T) (fun v _ ih i T K=>Kf (some i) v T.hp T fun T=>ih (Nat.succ i) T K) args
abbrev TZ (cs:List Nat):List IV→FS→(FS→Option β)→Option β :=
 List.rec (motive:=fun _=>List IV→FS→(FS→Option β)→Option β) (fun _ T k=>k T) (fun c _ ih vals T k=>AA vals fun v vals=>Kf (some c) v T.hp T fun T=>ih vals T k) cs
def Lc (r s:Ref):Bool:=match r with
 | .own i=>(match s with
  | .own j=>not (Nat.beq i j)
  | .ext _=>true)
 | .ext i=>(match s with
  | .own _=>true
  | .ext j=>not (Nat.beq i j))
def JK (r:Ref) (l:List Ref):Bool:=List.rec (motive:=fun _=>Bool) true (fun s _ ih=>cond (Lc r s) ih false) l
def T7 (a b:List Ref):Bool:=List.rec (motive:=fun _=>Bool) true (fun r _ ih=>cond (JK r b) ih false) a
theorem AdG (r s:Ref):Lc r s=decide (r≠s):=by
 cases r<;>cases s<;>simp [Lc,ID]
theorem S0 (r:Ref):∀(l:List Ref),JK r l=l.all fun s=>decide (r≠s)
 | []=>rfl
 | s::l=>by
  rw [show JK r (s::l)=cond (Lc r s) (JK r l) false from rfl,AdG,S0 r l,List.all_cons]
  cases decide (r≠s)<;>rfl
theorem Ada:∀(a b:List Ref),T7 a b=Nk a b
 | [],_=>rfl
 | r::a,b=>by
  rw [show T7 (r::a) b=cond (JK r b) (T7 a b) false from rfl,S0,Ada a b]
  simp only [Nk,List.all_cons];cases (b.all fun s=>decide (r≠s))<;>rfl
def Ad (l:List (List Ref×List Ref)) (rd wr:List Ref) (a:Option β):Option β :=
 List.rec (motive:=fun _=>Option β) a (fun q _ ih=>match q with
  | (q1,q2)=>cond (T7 q2 rd) (cond (T7 q2 wr) (cond (T7 wr q1) ih none) none) none) l
def TA (before:Nat) (done:List (Nat×List Ref×List Ref)):List (List Ref×List Ref) :=
 List.rec (motive:=fun _=>List (List Ref×List Ref)) [] (fun p _ ih=>match p with | (j,q)=>cond (before.testBit j) ih (q::ih)) done
section
variable (E:Env) (ih:Aa)
def K2 (f rid:Nat) (ops:Array Oper) (i:Nat) (o:Oper) (dr:Bool) (T:FS) (K:FS→List Ref→List Ref→Option β):Option β :=
 match o.guard with
 | none=>IJ E ih f rid i dr (Ho T) o.op T.hp fun v h rd wr=>Kf o.dst v h T fun T=>K T rd wr
 | some (j,want)=>match (ops[j]?).bind (·.dst) with
  | none=>none
  | some d=>Tq (Nat.ble T.n d) none
   (Ab (T.get d) want T.hp (fun k=>IJ E ih f rid i dr (Ho T) o.op T.hp k) fun v h rd wr=>Kf o.dst v h T fun T=>K T rd wr)
def AiS (f rid:Nat) (ops:Array Oper) (l:List Oper):Nat→FS→(FS→Option β)→Option β :=
 List.rec (motive:=fun _=>Nat→FS→(FS→Option β)→Option β) (fun _ T K=>K T) (fun o _ rec i T K=>K2 E ih f rid ops i o false T fun T _ _=>rec (Nat.succ i) T K) l
def Aas (f rid:Nat) (ops:Array Oper) (before:Array Nat) (l:List Oper):Nat→List (Nat×List Ref×List Ref)→FS→(FS→Option β)→Option β :=
 List.rec (motive:=fun _=>Nat→List (Nat×List Ref×List Ref)→FS→(FS→Option β)→Option β) (fun _ _ T K=>K T)
  (fun o _ rec i done T K=>Tq (Fj E o.op) (K2 E ih f rid ops i o true T fun T _ _=>rec (Nat.succ i) done T K)
   (K2 E ih f rid ops i o true T fun T rd wr=>Ad (TA (before.getD i 0) done) rd wr (rec (Nat.succ i) ((i,rd,wr)::done) T K))) l
def Cx (n:Nat) (kills:List Nat):List Nat:=(List.range n).filter fun i=>!kills.contains i
def Ov (base kills rm:List Nat) (T:FS) (k:List IV→Hp→Option β):Option β :=
 match rm with
 | []=>k ((Cx T.n kills).map T.get) T.hp
 | r::rm=>Bs base (r::rm) ((Cx T.n kills).map T.get) T.hp fun h=>k ((Cx T.n kills).map T.get) h
def Fe (f n:Nat) (base:List Nat):Code→FS→(Ex→FS→Option β)→Option β
 | .skip,T,K=>K .normal T
 | .region rid ops draw,T,K=>Tq draw (Aas E ih f rid ops (Region.before ops) ops.toList 0 [] T fun T=>K .normal T) (AiS E ih f rid ops ops.toList 0 T fun T=>K .normal T)
 | .seq a b,T,K=>Fe f n base a T fun ex T=>match ex with
  | .normal=>Fe f n base b T K
  | .exit j=>K (.exit j) T
  | .ret=>K .ret T
 | .cond c a b,T,K=>Aj (Ho T c) (Fe f n base a T K) (Fe f n base b T K)
 | .block id c,T,K=>Fe f n base c T fun ex T=>match ex with
  | .normal=>K .normal T
  | .exit j=>Tq (Nat.beq j id) (K .normal T) (K (.exit j) T)
  | .ret=>K .ret T
 | .loop c,T,K=>Ov base (E.pol.head f (BY c)).1 (E.pol.head f (BY c)).2 T (BD n fun rec vals h =>
   TZ (Cx T.n (E.pol.head f (BY c)).1) vals ⟨T.n,dT 10 0 T.n,h⟩ fun T=>Fe f n base c T fun ex T=>match ex with
    | .normal=>Ov base (E.pol.head f (BY c)).1 (E.pol.head f (BY c)).2 T rec
    | .exit j=>K (.exit j) T
    | .ret=>K .ret T)
 | .exit id,T,K=>K (.exit id) T
 | .ret,T,K=>K .ret T
 | _,_,_=>none
def AE (agg:Bool) (size:Nat) (a:IV) (h:Hp) (k:IV→Option β):Option β :=
 cond agg (Ai size a h fun v _=>k v) (Ae a h fun v _=>k v)
def Acg (T:FS) (rs:List ResultVar):List IV→(List IV→Option β)→Option β :=
 List.rec (motive:=fun _=>List IV→(List IV→Option β)→Option β) (fun acc k=>k acc) (fun v _ rec acc k=>match v with
  | .tmp t=>rec (acc++[T.get t]) k
  | .cell a t=>match E.T t with
   | none=>none
   | some ti=>AE ti.kind.isAgg ti.size (T.get a) T.hp fun v=>rec (acc++[v]) k) rs
def An (vs:List IV) (h:Hp):Option (IV×Hp):=match vs with
 | [v]=>some (v,h)
 | vs=>Ul vs fun v=>some (v,h)
def AD (FT:Nat→Option Func) (n f:Nat) (args:List IV) (h:Hp):Option (IV×Hp):=match FT f with
 | none=>none
 | some fn=>match fn.body with
  | none=>none
  | some c=>Tq (Nat.ble args.length fn.ntmps && Nat.ble fn.ntmps 1024)
   (Ua args 0 ⟨fn.ntmps,dT 10 0 fn.ntmps,h⟩ fun T=>Fe E ih f n (h.own.map (·.1)) c T fun ex T=>match ex with
    | .exit _=>none
    | .normal=>Acg E T fn.results.toList [] fun vs=>An vs T.hp
    | .ret=>Acg E T fn.results.toList [] fun vs=>An vs T.hp) none
end
end
end Idl
end Go.Proofs.Ytkfecngimlcfoaa
set_option linter.unusedSimpArgs false
namespace Go.Proofs.Ytkfecngimlcfoaa
namespace Idl
section
variable {β:Type} {E:Env} {ih ih':Aa} {f rid:Nat} {r:β}
theorem PX (d:Option Nat) (v:IV) (h:Hp) (T:FS):PM d v h T=Ql d v ⟨T.n,T.t,h⟩:=by cases d<;>rfl
theorem UM (d:Option Nat) (v:IV) (h:Hp) (T:FS):(PM d v h T).n=T.n:=by
 cases d with
 | none=>rfl
 | some d =>
  show (cond (Nat.ble T.n d) (FS.mk T.n T.t h) ⟨T.n,T.t.set d v,h⟩).n=T.n
  cases Nat.ble T.n d<;>rfl
theorem Ac2 {α:Type} (t:SlT) (i:Nat) (x:IV) (k:SlT→α):t.setKK i x k=k (t.set i x):=by
 refine Eq.trans ?_ (WA t i x k)
 induction t generalizing k with
 | leaf j v =>
  show Bool.rec (k (.leaf j v)) (k (.leaf j x)) (Nat.beq i j)=cond (Nat.beq i j) (k (.leaf j x)) (k (.leaf j v))
  cases Nat.beq i j<;>rfl
 | node m l r ihl ihr =>
  show Bool.rec (l.setKK i x fun l'=>k (.node m l' r)) (r.setKK i x fun r'=>k (.node m l r')) (Nat.ble m i)=cond (Nat.ble m i) (r.setK i x fun r'=>k (.node m l r')) (l.setK i x fun l'=>k (.node m l' r))
  cases Nat.ble m i
  ·exact ihl _
  ·exact ihr _
theorem NW (d:Option Nat) (v:IV) (h:Hp) (T:FS) (K:FS→Option β):Kf d v h T K=K (PM d v h T):=by
 obtain ⟨n,t,h0⟩:=T;cases d with
 | none=>rfl
 | some d =>
  show Tq (Nat.ble n d) (K ⟨n,t,h⟩) (t.setKK d v fun t=>K ⟨n,t,h⟩)=K (cond (Nat.ble n d) ⟨n,t,h⟩ ⟨n,t.set d v,h⟩)
  rw [Bu];cases Nat.ble n d
  ·simp only [cond];rw [Ac2]
  ·rfl
theorem OF:∀(args:List IV) (i:Nat) (T:FS) (K:FS→Option β),Ua args i T K=Zl args i T K
 | [],_,_,_=>rfl
 | v::l,i,T,K=>by
  show Kf (some i) v T.hp T (fun T=>Ua l (Nat.succ i) T K)=AcZ (some i) v T fun T=>Zl l (Nat.succ i) T K
  rw [NW,XJ,PX,OF l]
theorem Mm {T:FS} {S:St} (hr:Rep T S) (d:Option Nat) (v:IV) (h:Hp):Rep (PM d v h T) ⟨BU d v S.slots,h⟩:=by
 rw [PX];exact ZI (T:=⟨T.n,T.t,h⟩) (S:=⟨S.slots,h⟩) ⟨rfl,hr.len,hr.has,hr.get⟩ d v
theorem Nu (hi:∀f args h x,ih' f args h=some x→ih f args h=some x) {ops:Array Oper} {i:Nat} {o:Oper} (ho:ops[i]?=some o) {dr:Bool} {T:FS} {S:St} (hr:Rep T S)
  {K:FS→List Ref→List Ref→Option β} (h:K2 E ih' f rid ops i o dr T K=some r) :
  ∃S' T' rd wr,step E ih f rid ops i S=some S'∧(dr=true→Kq E ih f rid ops i S=some (S',rd,wr))∧Rep T' S'∧T'.n=T.n∧K T' rd wr=some r∧(Fj E o.op=true→rd=[]∧wr=[]):=by
 have done:CI ops S.slots o=some true→IJ E ih' f rid i dr (Ho T) o.op T.hp (fun v h rd wr=>K (PM o.dst v h T) rd wr)=some r →
   ∃S' T' rd wr,step E ih f rid ops i S=some S'∧(dr=true→Kq E ih f rid ops i S=some (S',rd,wr))∧Rep T' S'∧T'.n=T.n∧K T' rd wr=some r∧(Fj E o.op=true→rd=[]∧wr=[]):=by
  intro hw h;rw [La hr,← hr.hp] at h;rcases Aki hi h with ⟨hin,v,hp',rd,wr,⟨m,hm,hh,hv,hwr⟩,hk,hq⟩ | ⟨hdr,hq,g,args,v,hp',hin,he,hk⟩
  ·have ha:DW (A9 f rid i) o.dst S m=some ⟨BU o.dst v S.slots,hp'⟩:=by simp only [DW,hh,Ari,hv]
   refine ⟨⟨BU o.dst v S.slots,hp'⟩,PM o.dst v hp' T,rd,wr,?_,fun _=>?_,Mm hr o.dst v hp',UM ..,hk,hq⟩
   ·simp only [step,ho,hw,hin,DM];rw [E4 _ _ _ _ _ hm];exact ha
   ·simp only [Kq,ho,hw,hin,DM,hm,ha,Ari,hwr,HJ];rfl
  ·refine ⟨⟨BU o.dst v S.slots,hp'⟩,PM o.dst v hp' T,[],[],?_,fun e=>(by rw [hdr] at e;cases e),Mm hr o.dst v hp',UM ..,hk,fun q=>by rw [hq] at q;cases q⟩;simp only [step,ho,hw,hin,he,Ari]
 have skip:CI ops S.slots o=some false→K (PM o.dst E9 T.hp T) [] []=some r →
   ∃S' T' rd wr,step E ih f rid ops i S=some S'∧(dr=true→Kq E ih f rid ops i S=some (S',rd,wr))∧Rep T' S'∧T'.n=T.n∧K T' rd wr=some r∧(Fj E o.op=true→rd=[]∧wr=[]):=by
  intro hw h;refine ⟨_,_,[],[],?_,fun _=>?_,Mm hr o.dst E9 T.hp,UM ..,h,fun _=>⟨rfl,rfl⟩⟩
  ·simp only [step,ho,hw,← hr.hp]
  ·simp only [Kq,ho,hw,← hr.hp]
 unfold K2 at h;have eK:(fun (v:IV) (h:Hp) (rd wr:List Ref)=>Kf o.dst v h T fun T=>K T rd wr)=fun v h rd wr=>K (PM o.dst v h T) rd wr:=by
  funext v h rd wr
  exact NW o.dst v h T fun T=>K T rd wr
 rw [eK] at h;simp only [Bu] at h;cases hg:o.guard with
 | none =>
  rw [hg] at h;exact done (by simp only [CI,hg]) h
 | some jw =>
  obtain ⟨j,want⟩:=jw;rw [hg] at h;simp only at h;cases hd:(ops[j]?).bind (·.dst) with
  | none=>rw [hd] at h;cases h
  | some d =>
   rw [hd] at h;simp only at h;cases hb:Nat.ble T.n d with
   | true=>rw [hb] at h;cases h
   | false =>
    rw [hb] at h;simp only [cond] at h;have hdn:d<T.n:=Nat.lt_of_not_le fun h=>by rw [Nat.ble_eq_true_of_le h] at hb;cases hb
    have hs:S.slots[d]?=some (T.get d):=by
     rw [hr.at_,List.getD_eq_getElem?_getD,List.getElem?_eq_getElem (by rw [hr.len];exact hdn)];rfl
    have hw:CI ops S.slots o=match T.get d with
      | .fv (.bool b)=>some (b == want)
      | .fv (.tuple [])=>some false
      | _=>none:=by
     simp only [CI,hg,hd,Option.bind_some,hs];generalize T.get d=v;split
     ·rename_i e;simp only [Arf] at e;subst e;rfl
     ·rename_i e;simp only [Arf] at e;subst e;rfl
     ·rename_i h1 h2;split
      ·exact absurd rfl (h1 _)
      ·exact absurd rfl h2
      ·rfl
    unfold Ab at h;rcases MV h with ⟨v,hv,h⟩ | h
    ·rw [hv] at hw;unfold Afz at h;split at h
     ·rename_i b;have e:(b == want)=(cond want b (not b)):=by cases b<;>cases want<;>rfl
      cases hc:(cond want b (not b)) with
      | true =>
       rw [hc] at h;exact done (by rw [hw];simp only [e,hc]) h
      | false =>
       rw [hc] at h;exact skip (by rw [hw];simp only [e,hc]) h
     ·rename_i l;cases l with
      | nil=>exact skip hw h
      | cons _ _=>cases h
     ·cases h
    ·cases h
theorem Agu (hi:∀f args h x,ih' f args h=some x→ih f args h=some x) {ops:Array Oper}:∀(l:List Oper) (i:Nat),ops.toList.drop i=l→∀{T:FS} {S:St},Rep T S→∀{K:FS→Option β},AiS E ih' f rid ops l i T K=some r →
  ∃S' T',Jd E ih f rid ops (List.range' i l.length) S=some S'∧Rep T' S'∧T'.n=T.n∧K T'=some r:=by
 intro l
 induction l with
 | nil=>intro i _ T S hr K h;exact ⟨S,T,rfl,hr,rfl,h⟩
 | cons o l ihl =>
  intro i hd T S hr K h;have ho:ops[i]?=some o:=by
   have:ops.toList[i]?=some o:=by rw [← List.head?_drop,hd];rfl
   simpa using this
  have hd':ops.toList.drop (i+1)=l:=by rw [← List.tail_drop,hd];rfl
  have h:K2 E ih' f rid ops i o false T (fun T _ _=>AiS E ih' f rid ops l (Nat.succ i) T K)=some r:=h;obtain ⟨S1,T1,rd,wr,h1,_,h2,hn,h3,_⟩:=Nu hi ho hr h;obtain ⟨S',T',h4,h5,hn2,h6⟩:=ihl (i+1) hd' h2 h3;refine ⟨S',T',?_,h5,hn2.trans hn,h6⟩;rw [Arj,List.range'_succ];simp only [Jd,h1,Option.bind_some];exact h4
theorem Agg {l:List (List Ref×List Ref)} {rd wr:List Ref} {a:Option β} (h:Ad l rd wr a=some r):(∀q∈l,clash q (rd,wr)=true)∧a=some r:=by
 induction l with
 | nil=>exact ⟨fun q hq=>(by cases hq),h⟩
 | cons p l ih =>
  obtain ⟨q1,q2⟩:=p;have h:cond (T7 q2 rd) (cond (T7 q2 wr) (cond (T7 wr q1) (Ad l rd wr a) none) none) none=some r:=h;obtain ⟨h1,h⟩:=Dh h;obtain ⟨h2,h⟩:=Dh h;obtain ⟨h3,h⟩:=Dh h;rw [Ada] at h1 h2 h3;obtain ⟨h4,h5⟩:=ih h;refine ⟨fun q hq=>?_,h5⟩;rcases List.mem_cons.1 hq with rfl | hq
  ·simp only [clash,h1,h2,h3,Bool.and_self]
  ·exact h4 q hq
theorem Ab7 {b:Nat} {done:List (Nat×List Ref×List Ref)} {j:Nat} {q:List Ref×List Ref} (h:(j,q)∈done) (hj:b.testBit j=false):q∈TA b done:=by
 induction done with
 | nil=>cases h
 | cons p l ih =>
  obtain ⟨j',q'⟩:=p
  show q∈cond (b.testBit j') (TA b l) (q'::TA b l)
  rcases List.mem_cons.1 h with e | h
  ·simp only [Arg] at e;obtain ⟨rfl,rfl⟩:=e;rw [hj];exact List.mem_cons_self
  ·cases b.testBit j' with
   | true=>exact ih h
   | false=>exact List.mem_cons_of_mem _ (ih h)
theorem AeK (hi:∀f args h x,ih' f args h=some x→ih f args h=some x) {ops:Array Oper} {before:Array Nat}:∀(l:List Oper) (i:Nat),ops.toList.drop i=l→∀{T:FS} {S:St} (done full:List (Nat×List Ref×List Ref)),
  (∀x∈full,x.2=([],[])∨x∈done)→Rep T S→∀{K:FS→Option β},Aas E ih' f rid ops before l i done T K=some r →
  ∃S' T',ER E ih f rid ops before (List.range' i l.length) full S=some S'∧Rep T' S'∧T'.n=T.n∧K T'=some r:=by
 intro l
 induction l with
 | nil=>intro i _ T S done full _ hr K h;exact ⟨S,T,rfl,hr,rfl,h⟩
 | cons o l ihl =>
  intro i hd T S done full hf hr K h;have ho:ops[i]?=some o:=by
   have:ops.toList[i]?=some o:=by rw [← List.head?_drop,hd];rfl
   simpa using this
  have hd':ops.toList.drop (i+1)=l:=by rw [← List.tail_drop,hd];rfl
  have h:Tq (Fj E o.op) (K2 E ih' f rid ops i o true T fun T _ _=>Aas E ih' f rid ops before l (Nat.succ i) done T K)
   (K2 E ih' f rid ops i o true T fun T rd wr=>Ad (TA (before.getD i 0) done) rd wr (Aas E ih' f rid ops before l (Nat.succ i) ((i,rd,wr)::done) T K))=some r:=h
  rw [Bu] at h;rw [Arj,List.range'_succ];cases hq:Fj E o.op with
  | true =>
   rw [hq] at h;simp only [cond] at h;obtain ⟨S1,T1,rd,wr,_,h1,h2,hn,h3,h4⟩:=Nu hi ho hr h;have h1:=h1 rfl;obtain ⟨rfl,rfl⟩:=h4 hq;obtain ⟨S',T',h4,h5,hn2,h6⟩:=ihl (i+1) hd' done ((i,[],[])::full) (fun x hx=>by
    rcases List.mem_cons.1 hx with rfl | hx
    ·exact .inl rfl
    ·exact hf x hx) h2 h3
   refine ⟨S',T',?_,h5,hn2.trans hn,h6⟩;simp only [ER,h1]
   have:(full.all fun x=>(before.getD i 0).testBit x.1 || clash x.2 ([],[]))=true:=List.all_eq_true.2 fun x _=>by rw [Ace];simp
   rw [if_pos this];exact h4
  | false =>
   rw [hq] at h;simp only [cond] at h;obtain ⟨S1,T1,rd,wr,_,h1,h2,hn,h3,_⟩:=Nu hi ho hr h;have h1:=h1 rfl;obtain ⟨hc,h3⟩:=Agg h3;obtain ⟨S',T',h4,h5,hn2,h6⟩:=ihl (i+1) hd' ((i,rd,wr)::done) ((i,rd,wr)::full) (fun x hx=>by
    rcases List.mem_cons.1 hx with rfl | hx
    ·exact .inr List.mem_cons_self
    ·exact (hf x hx).imp id (List.mem_cons_of_mem _)) h2 h3
   refine ⟨S',T',?_,h5,hn2.trans hn,h6⟩;simp only [ER,h1]
   have:(full.all fun x=>(before.getD i 0).testBit x.1 || clash x.2 (rd,wr))=true:=List.all_eq_true.2 fun x hx=>by
    rcases hf x hx with e | e
    ·rw [e,AbP];simp
    ·cases hb:(before.getD i 0).testBit x.1 with
     | true=>rfl
     | false=>rw [hc x.2 (Ab7 (j:=x.1) e hb)];rfl
   rw [if_pos this];exact h4
theorem Adc (ks:List Nat) (l:List IV):(AV ks l).length=l.length:=by
 induction ks generalizing l with
 | nil=>rfl
 | cons i ks ih=>simp [AV,ih]
theorem Tu (ks:List Nat) (l:List IV) (i:Nat) (hi:i<l.length):(AV ks l).getD i .dead=if i∈ks then .dead else l.getD i .dead:=by
 induction ks generalizing l with
 | nil=>simp [AV]
 | cons j ks ih =>
  rw [AV,ih _ (by simpa using hi)];by_cases h:i∈ks
  ·rw [if_pos h,if_pos (List.mem_cons_of_mem _ h)]
  ·rw [if_neg h];by_cases e:i=j
   ·subst e;rw [if_pos List.mem_cons_self,List.getD_eq_getElem?_getD,List.getElem?_set_self hi];rfl
   ·rw [if_neg (by simp [e,h]),List.getD_eq_getElem?_getD,List.getElem?_set_ne (Ne.symm e),← List.getD_eq_getElem?_getD]
structure AtHead (n:Nat) (kills:List Nat) (vals:List IV) (h:Hp) (S:St):Prop where
 len:S.slots.length=n
 hp:S.hp=h
 vals:vals=(Cx n kills).map fun i=>S.slots.getD i .dead
 dead:∀i,i<n→i∈kills→S.slots.getD i .dead=.dead
theorem Mn {n:Nat} {kills:List Nat} {i:Nat}:i∈Cx n kills ↔ i<n∧i ∉ kills:=by
 simp [Cx]
theorem HK {T:FS} {S:St} (hr:Rep T S) (kills:List Nat) (h:Hp):AtHead T.n kills ((Cx T.n kills).map T.get) h ⟨AV kills S.slots,h⟩:=by
 refine ⟨by simp [Adc,hr.len],rfl,?_,fun i hi hk=>?_⟩
 ·apply List.map_congr_left;intro i hi
  have:=Mn.1 hi
  rw [hr.at_];simp only;rw [Tu _ _ _ (by rw [hr.len];exact this.1),if_neg this.2]
 ·simp only;rw [Tu _ _ _ (by rw [hr.len];exact hi),if_pos hk]
theorem Pq {l:List IV}:∀(g:Nat→Bool) (n:Nat),l.length=n→(∀i,i<n→g i=false→l.getD i .dead=.dead) →
  IV.refs.refsL (((List.range n).filter g).map fun i=>l.getD i .dead)=IV.refs.refsL l:=by
 intro g n
 induction n generalizing l g with
 | zero=>intro hl _;cases l with | nil=>rfl | cons _ _=>cases hl
 | succ n ih =>
  intro hl hd;cases l with
  | nil=>cases hl
  | cons x l =>
   simp only [Arj,Nat.add_right_cancel_iff] at hl;rw [List.range_succ_eq_map];have ih:=ih (l:=l) (fun i=>g (i+1)) hl (fun i hi hg=>by simpa using hd (i+1) (by omega) hg);have e:(((List.range n).map Nat.succ).filter g).map (fun i=>(x::l).getD i .dead)=(((List.range n).filter fun i=>g (i+1))).map fun i=>l.getD i .dead:=by
    rw [List.filter_map,List.map_map];rfl
   cases hg:g 0 with
   | true =>
    rw [List.filter_cons_of_pos hg,Arl,e];simp only [IV.refs.refsL,ih];rfl
   | false =>
    rw [List.filter_cons_of_neg (by rw [hg];simp),e]
    have:x=.dead:=by simpa using hd 0 (by omega) hg
    subst this;simp only [IV.refs.refsL,ih];rfl
def NF (rm:List Nat) (rs:List Ref) (h:Hp):Option Hp :=
 let held:=rs++(h.own.filter fun p=>!rm.contains p.1).flatMap (fun p=>p.2.refs)++h.ext.flatMap Blk.refs
 let gone:=rm.filter fun k=>!anyIn [k] held
 let h2:Hp:={ h with own:=h.own.filter fun p=>!gone.contains p.1 }
 if anyIn gone (rs++h2.own.flatMap (fun p=>p.2.refs)++h2.ext.flatMap Blk.refs) then none else some h2
theorem Ahs {α γ:Type} {c c':Bool} {y:α} (g:α→γ) (h:c=c'):(if c=true then none else some (g y))=(if c'=true then none else some y).map g:=by
 subst h;cases c<;>rfl
theorem Hz {base kills rm:List Nat} {sl:List IV} {h:Hp} (hb:rm.any base.contains=false) (ha:(h.own.all fun p=>!rm.contains p.1)=false) :
  Cn base kills rm ⟨sl,h⟩=(NF rm (IV.refs.refsL (AV kills sl)) h).map fun h'=>⟨AV kills sl,h'⟩:=by
 simp only [Cn,hb,ha,Bool.false_eq_true,if_false,CG,NF];exact Ahs _ rfl
theorem Ol {base rm:List Nat} {S1:St} {kills:List Nat} {sl:List IV} (hsl:IV.refs.refsL sl=IV.refs.refsL (AV kills S1.slots)) (hb:rm.any base.contains=false)
  (ha:(S1.hp.own.all fun p=>!rm.contains p.1)=false) {S:St} (h:Cn base [] rm ⟨sl,S1.hp⟩=some S):Cn base kills rm S1=some ⟨AV kills S1.slots,S.hp⟩:=by
 obtain ⟨s1,h1⟩:=S1;rw [Hz hb ha] at h;rw [Hz hb ha];simp only [AV] at h;rw [hsl] at h;cases hd:NF rm (IV.refs.refsL (AV kills s1)) h1 with
 | none=>rw [hd] at h;cases h
 | some h' =>
  rw [hd] at h;simp only [Ari,Arf] at h;subst h;rfl
theorem LV (s:Nat) (l:List Nat):Lo s l=l.contains s:=by
 induction l with
 | nil=>rfl
 | cons x l ih =>
  rw [show Lo s (x::l)=cond (Nat.beq s x) true (Lo s l) from rfl,GN,ih,List.contains_cons]
  by_cases e:s=x
  ·subst e;simp
  ·rw [if_neg e];simp [e]
theorem E6 {rm:List Nat}:∀{l:List Ref},E7 rm l=true→∀k∈rm,Ref.own k ∉ l
 | [],_,k,_,h=>by cases h
 | .ext j::l,h,k,hk,hm=>by
  rcases List.mem_cons.1 hm with e | hm
  ·cases e
  ·exact E6 (l:=l) h k hk hm
 | .own s::l,h,k,hk,hm=>by
  have h:cond (Lo s rm) false (E7 rm l)=true:=h;cases hs:Lo s rm with
  | true=>rw [hs] at h;cases h
  | false =>
   rw [hs] at h;rcases List.mem_cons.1 hm with e | hm
   ·simp only [Ref.own.injEq] at e;subst e;rw [LV] at hs;rw [List.contains_iff_mem.2 hk] at hs;cases hs
   ·exact E6 (l:=l) h k hk hm
theorem Hw {rm:List Nat}:∀{own:List (Nat×Blk)},Ht rm own=true→∀k∈rm,Ref.own k ∉ (own.filter fun p=>!rm.contains p.1).flatMap fun p=>p.2.refs
 | [],_,k,_,h=>by cases h
 | (s,b)::own,h,k,hk,hm=>by
  have h:cond (Lo s rm) (Ht rm own) (cond (E7 rm (EK b)) (Ht rm own) false)=true:=h;rw [LV,JN] at h;cases hs:rm.contains s with
  | true =>
   rw [hs] at h;rw [List.filter_cons_of_neg (by rw [hs];simp)] at hm;exact Hw (own:=own) h k hk hm
  | false =>
   rw [hs] at h;rw [List.filter_cons_of_pos (by rw [hs];rfl)] at hm;cases hf:E7 rm b.refs with
   | false=>rw [hf] at h;cases h
   | true =>
    rw [hf] at h;simp only [List.flatMap_cons,List.mem_append] at hm;rcases hm with hm | hm
    ·exact E6 hf k hk hm
    ·exact Hw (own:=own) h k hk hm
theorem M9 {rm:List Nat}:∀{ext:List Blk},IP rm ext=true→∀k∈rm,Ref.own k ∉ ext.flatMap Blk.refs
 | [],_,k,_,h=>by cases h
 | b::ext,h,k,hk,hm=>by
  have h:cond (E7 rm (EK b)) (IP rm ext) false=true:=h;rw [JN] at h;cases hf:E7 rm b.refs with
  | false=>rw [hf] at h;cases h
  | true =>
   rw [hf] at h;simp only [List.flatMap_cons,List.mem_append] at hm;rcases hm with hm | hm
   ·exact E6 hf k hk hm
   ·exact M9 (ext:=ext) h k hk hm
theorem LA {rm:List Nat}:∀(own:List (Nat×Blk)),AhG rm own=!(own.all fun p=>!rm.contains p.1)
 | []=>rfl
 | (s,b)::own=>by
  rw [show AhG rm ((s,b)::own)=cond (Lo s rm) true (AhG rm own) from rfl,LV,LA own,List.all_cons]
  cases rm.contains s<;>rfl
theorem Hs {rm:List Nat}:∀(own:List (Nat×Blk)) (k:List (Nat×Blk)→Option β),SP rm own k=k (own.filter fun p=>!rm.contains p.1)
 | [],_=>rfl
 | (s,b)::own,k=>by
  rw [show SP rm ((s,b)::own) k=cond (Lo s rm) (SP rm own k) (SP rm own fun l=>k ((s,b)::l)) from rfl,LV]
  cases hs:rm.contains s with
  | true=>rw [List.filter_cons_of_neg (by rw [hs];simp)];exact Hs own k
  | false=>rw [List.filter_cons_of_pos (by rw [hs];rfl)];exact Hs own _
theorem D0 {ks:List Nat}:∀{l:List Ref},(∀k∈ks,Ref.own k ∉ l)→anyIn ks l=false
 | [],_=>rfl
 | .ext j::l,h=>D0 (l:=l) fun k hk hm=>h k hk (List.mem_cons_of_mem _ hm)
 | .own s::l,h=>by
  simp only [anyIn,Bool.or_eq_false_iff];refine ⟨?_,D0 (l:=l) fun k hk hm=>h k hk (List.mem_cons_of_mem _ hm)⟩;cases hc:ks.contains s with
  | false=>rfl
  | true=>exact absurd List.mem_cons_self (h s (List.contains_iff_mem.1 hc))
theorem Sx {rm:List Nat} {rs:List Ref} {own:List (Nat×Blk)} {ext:List Blk} (h1:∀k∈rm,Ref.own k ∉ rs) (h2:Ht rm own=true) (h3:IP rm ext=true) :
  NF rm rs ⟨own,ext⟩=some ⟨own.filter fun p=>!rm.contains p.1,ext⟩:=by
 have h2:=Hw h2;have h3:=M9 h3;have hh:∀k∈rm,Ref.own k ∉ rs++(own.filter fun p=>!rm.contains p.1).flatMap (fun p=>p.2.refs)++ext.flatMap Blk.refs:=fun k hk hm=>by
  rcases List.mem_append.1 hm with hm | hm
  ·rcases List.mem_append.1 hm with hm | hm
   ·exact h1 k hk hm
   ·exact h2 k hk hm
  ·exact h3 k hk hm
 have hg:(rm.filter fun k=>!anyIn [k] (rs++(own.filter fun p=>!rm.contains p.1).flatMap (fun p=>p.2.refs)++ext.flatMap Blk.refs))=rm:=by
  apply List.filter_eq_self.2;intro k hk;rw [D0 fun j hj hm=>hh j (by simp only [List.mem_singleton] at hj;rw [hj];exact hk) hm];rfl
 simp only [NF,hg];rw [D0 hh];rfl
theorem SR {base kills rm:List Nat} {T:FS} {S:St} (hr:Rep T S) {k:List IV→Hp→Option β} (h:Ov base kills rm T k=some r) :
  ∃S' vals hp,Cn base kills rm S=some S'∧AtHead T.n kills vals hp S'∧k vals hp=some r:=by
 unfold Ov at h;split at h
 ·refine ⟨⟨AV kills S.slots,T.hp⟩,_,_,?_,HK hr kills T.hp,h⟩;simp [Cn,hr.hp]
 ·rename_i q rm;generalize hrm:q::rm=rm' at h ⊢;have hv:=HK hr kills S.hp;unfold Bs at h;rw [← hr.hp] at h;cases hb:rm'.any base.contains with
  | true=>rw [hb] at h;cases h
  | false =>
   rw [hb] at h;obtain ⟨sl,hp0⟩:=S;obtain ⟨own,ext⟩:=hp0;simp only [cond] at h;have hsl:IV.refs.refsL ((Cx T.n kills).map T.get)=IV.refs.refsL (AV kills sl):=by
    rw [hv.vals];exact Pq _ _ (by simpa using hv.len) (fun i hi hg=>hv.dead i hi (by simpa using hg))
   rw [LA] at h;cases ha:(own.all fun p=>!rm'.contains p.1) with
   | true =>
    rw [ha] at h;refine ⟨⟨AV kills sl,⟨own,ext⟩⟩,_,_,?_,hv,h⟩;simp only [Cn,hb,Bool.false_eq_true,if_false,ha,if_true]
   | false =>
    rw [ha] at h;simp only [Bool.not_false] at h;cases hf:(and (E7 rm' (Cj ((Cx T.n kills).map T.get) [])) (and (Ht rm' own) (IP rm' ext))) with
    | true =>
     rw [hf] at h;simp only at h;have hf:(E7 rm' (Cj ((Cx T.n kills).map T.get) []) && (Ht rm' own && IP rm' ext))=true:=hf;simp only [Bool.and_eq_true] at hf;rw [Hs] at h;have h1:=E6 hf.1;rw [refsDL_eq,List.append_nil,hsl] at h1;refine ⟨⟨AV kills sl,⟨own.filter fun p=>!rm'.contains p.1,ext⟩⟩,_,_,?_,HK hr kills _,h⟩;rw [Hz hb ha,Sx h1 hf.2.1 hf.2.2];rfl
    | false =>
     rw [hf] at h;simp only at h;split at h
     ·cases h
     ·rename_i S2 hd;rw [K3] at h;exact ⟨⟨AV kills sl,S2.hp⟩,_,_,Ol (S1:=⟨sl,⟨own,ext⟩⟩) (sl:=(Cx T.n kills).map T.get) hsl hb ha hd,HK hr kills S2.hp,h⟩
theorem Aax:∀(cs:List Nat) (vals:List IV) (T:FS) {K:FS→Option β},(∀i∈cs,i<T.n)→(∀i,i<T.n→T.t.has i=true)→TZ cs vals T K=some r →
  ∃T',T'.n=T.n∧T'.hp=T.hp∧(∀i,i<T.n→T'.t.has i=true)∧K T'=some r∧∀g:Nat→IV,vals=cs.map g→∀i,i<T.n→T'.t.get i=if i∈cs then g i else T.t.get i
 | [],vals,T,K,_,hh,h=>⟨T,rfl,rfl,hh,h,fun g _ i _=>by simp⟩
 | c::cs,vals,T,K,hc,hh,h=>by
  have h:AA vals (fun v vals=>Kf (some c) v T.hp T fun T=>TZ cs vals T K)=some r:=h;have eK:(fun (v:IV) vals=>Kf (some c) v T.hp T fun T=>TZ cs vals T K)=fun v vals=>TZ cs vals (Ql (some c) v T) K:=by
   funext v vals
   rw [NW,PX]
  rw [eK] at h;cases vals with
  | nil=>cases h
  | cons v vals =>
   have h:TZ cs vals (Ql (some c) v T) K=some r:=h;have hcn:c<T.n:=hc c List.mem_cons_self;have hput:Ql (some c) v T=⟨T.n,T.t.set c v,T.hp⟩:=by
    simp only [Ql];cases hb:Nat.ble T.n c with
    | true=>have:=Bh hb;omega
    | false=>rfl
   rw [hput] at h;obtain ⟨T',h1,h2,h3,h4,h5⟩:=Aax cs vals ⟨T.n,T.t.set c v,T.hp⟩ (fun i hi=>hc i (List.mem_cons_of_mem _ hi)) (fun i hi=>by rw [Zz];exact hh i hi) h;refine ⟨T',h1,h2,h3,h4,fun g hg i hi=>?_⟩;simp only [Arl,List.cons.injEq] at hg;rw [h5 g hg.2 i hi];by_cases hm:i∈cs
   ·rw [if_pos hm,if_pos (List.mem_cons_of_mem _ hm)]
   ·rw [if_neg hm];simp only;rw [Yd _ _ _ (hh c hcn)];by_cases e:i=c
    ·subst e;rw [if_pos rfl,if_pos List.mem_cons_self,hg.1]
    ·rw [if_neg e,if_neg (by simp [e,hm])]
theorem Ahb {n:Nat} (hn:n≤1024) {kills:List Nat} {vals:List IV} {h:Hp} {S:St} (ha:AtHead n kills vals h S) {K:FS→Option β} (e:TZ (Cx n kills) vals ⟨n,dT 10 0 n,h⟩ K=some r) :
  ∃T',T'.n=n∧Rep T' S∧K T'=some r:=by
 obtain ⟨T',h1,h2,h3,h4,h5⟩:=Aax (Cx n kills) vals ⟨n,dT 10 0 n,h⟩ (fun i hi=>(Mn.1 hi).1) (fun i hi=>(Aa2 10 0 n i (by simpa using hn) (Nat.zero_le _) (by simpa using hi)).1) e;refine ⟨T',h1,⟨by rw [ha.hp,h2],by rw [ha.len,h1],fun i hi=>h3 i (by rw [h1] at hi;exact hi),fun i hi=>?_⟩,h4⟩;rw [h1] at hi;rw [h5 _ ha.vals i hi];by_cases hm:i∈Cx n kills
 ·rw [if_pos hm]
 ·rw [if_neg hm];have hk:i∈kills:=Classical.byContradiction fun hk=>hm (Mn.2 ⟨hi,hk⟩);rw [ha.dead i hi hk];exact (Aa2 10 0 n i (by simpa using hn) (Nat.zero_le _) (by simpa using hi)).2
theorem Adu (hi:∀f args h x,ih' f args h=some x→ih f args h=some x) {n:Nat} {base:List Nat}:∀(c:Code) {T:FS} {S:St},Rep T S→T.n≤1024→∀{K:Ex→FS→Option β},Fe E ih' f n base c T K=some r →
  ∃ex S' T',Dv E ih f n base c S=some (ex,S')∧Rep T' S'∧T'.n=T.n∧K ex T'=some r:=by
 intro c
 induction c with
 | skip=>intro T S hr _ K h;exact ⟨_,S,T,rfl,hr,rfl,h⟩
 | region rid ops d =>
  intro T S hr _ K h;simp only [Fe,Bu] at h;simp only [Dv];rw [List.range_eq_range'];cases d with
  | true =>
   obtain ⟨S',T',h1,h2,h3,h4⟩:=AeK hi ops.toList 0 rfl [] [] (fun x hx=>by cases hx) hr h;simp only [Array.length_toList] at h1;exact ⟨_,S',T',by simp only [if_true,h1,Ari],h2,h3,h4⟩
  | false =>
   obtain ⟨S',T',h1,h2,h3,h4⟩:=Agu hi ops.toList 0 rfl hr h;simp only [Array.length_toList] at h1;exact ⟨_,S',T',by simp only [Bool.false_eq_true,if_false,h1,Ari],h2,h3,h4⟩
 | seq x y ihx ihy =>
  intro T S hr hl K h;simp only [Fe,Bu] at h;obtain ⟨ex,S1,T1,h1,h2,hn,h3⟩:=ihx hr hl h;simp only [Dv,h1];cases ex with
  | normal =>
   obtain ⟨ex,S2,T2,h4,h5,hn2,h6⟩:=ihy h2 (by rw [hn];exact hl) h3;exact ⟨ex,S2,T2,h4,h5,hn2.trans hn,h6⟩
  | exit j=>exact ⟨_,_,_,rfl,h2,hn,h3⟩
  | ret=>exact ⟨_,_,_,rfl,h2,hn,h3⟩
 | cond c x y ihx ihy =>
  intro T S hr hl K h;simp only [Fe,Bu,La hr] at h;obtain ⟨t,ht,h⟩:=SM h;cases t with
  | true=>simp only [Dv,ht];exact ihx hr hl h
  | false=>simp only [Dv,ht];exact ihy hr hl h
 | block id x ihx =>
  intro T S hr hl K h;simp only [Fe,Bu] at h;obtain ⟨ex,S1,T1,h1,h2,hn,h3⟩:=ihx hr hl h;simp only [Dv,h1];cases ex with
  | normal=>exact ⟨_,_,_,rfl,h2,hn,h3⟩
  | exit j =>
   simp only [GN] at h3 ⊢;by_cases e:j=id
   ·rw [if_pos e] at h3;rw [if_pos e];exact ⟨_,_,_,rfl,h2,hn,h3⟩
   ·rw [if_neg e] at h3;rw [if_neg e];exact ⟨_,_,_,rfl,h2,hn,h3⟩
  | ret=>exact ⟨_,_,_,rfl,h2,hn,h3⟩
 | loop x ihx =>
  intro T S hr hl K h;simp only [Fe,Bu] at h;simp only [Dv];generalize (E.pol.head f (BY x)).1=kills at h ⊢;generalize (E.pol.head f (BY x)).2=rm at h ⊢;generalize hF:(fun (rec:List IV→Hp→Option β) vals h=>TZ (Cx T.n kills) vals ⟨T.n,dT 10 0 T.n,h⟩ fun T=>Fe E ih' f n base x T fun ex T=>match ex with
   | .normal=>Ov base kills rm T rec
   | .exit j=>K (.exit j) T
   | .ret=>K .ret T)=F at h
  have key:∀(k:Nat) (S1:St) (T1:FS),Rep T1 S1→T1.n=T.n→Ov base kills rm T1 (BD k F)=some r →
    ∃ex S' T',iterate (Cn base kills rm) (Dv E ih f n base x) k S1=some (ex,S')∧Rep T' S'∧T'.n=T.n∧K ex T'=some r:=by
   intro k
   induction k with
   | zero =>
    intro S1 T1 hr1 hn1 h;obtain ⟨S2,vals,hp,_,_,h⟩:=SR hr1 h;cases h
   | succ k ihk =>
    intro S1 T1 hr1 hn1 h;obtain ⟨S2,vals,hp,h1,h2,h⟩:=SR hr1 h;have h:F (BD k F) vals hp=some r:=h;rw [← hF] at h;rw [hn1] at h2;simp only at h;obtain ⟨T2,hn2,hr2,h⟩:=Ahb hl h2 h;obtain ⟨ex,S3,T3,h3,hr3,hn3,h⟩:=ihx hr2 (by rw [hn2];exact hl) h;simp only [iterate,h1,Option.bind_some,h3];cases ex with
    | normal =>
     simp only at h;rw [hF] at h;exact ihk S3 T3 hr3 (hn3.trans hn2) h
    | exit j=>exact ⟨_,_,_,rfl,hr3,hn3.trans hn2,h⟩
    | ret=>exact ⟨_,_,_,rfl,hr3,hn3.trans hn2,h⟩
  exact key n S T hr rfl h
 | exit id=>intro T S hr _ K h;exact ⟨_,S,T,rfl,hr,rfl,h⟩
 | ret=>intro T S hr _ K h;exact ⟨_,S,T,rfl,hr,rfl,h⟩
 | _=>intro T S hr _ K h;simp only [Fe,Bu] at h;cases h
theorem AfE {agg:Bool} {size:Nat} {a:IV} {hp:Hp} {k:IV→Option β} (h:AE agg size a hp k=some r) :
  ∃v,(match a with
   | .ptr q off=>match hp.get q with
    | some (.row cells _)=>B2 agg size off cells
    | _=>none
   | .fv (.fp cells off)=>(Bl agg size off cells).map .fv
   | _=>none)=some v∧k v=some r:=by
 cases agg with
 | true =>
  have h:Ai size a hp (fun v _=>k v)=some r:=h;unfold Ai at h;rcases Dp h with ⟨q,o,rfl,g'⟩ | ⟨cs,o,rfl,g'⟩<;>replace h:=g'<;>clear g'
  ·rw [El] at h;obtain ⟨b,hb,h⟩:=Bm h;obtain ⟨cells,ro,rfl,g'⟩:=Gj h;replace h:=g';clear g';obtain ⟨h1,h2⟩:=OJ h;exact ⟨_,by simp only [hb,h1],h2⟩
  ·obtain ⟨h1,h2⟩:=MZ h;exact ⟨_,by simp only [h1,Ari],h2⟩
 | false =>
  have h:Ae a hp (fun v _=>k v)=some r:=h;unfold Ae at h;rcases Dp h with ⟨q,o,rfl,g'⟩ | ⟨cs,o,rfl,g'⟩<;>replace h:=g'<;>clear g'
  ·rw [El] at h;obtain ⟨b,hb,h⟩:=Bm h;obtain ⟨cells,ro,rfl,g'⟩:=Gj h;replace h:=g';clear g';rw [CL] at h;obtain ⟨v,hv,h⟩:=Bm h;exact ⟨_,by simp only [hb,B2,Bool.false_eq_true,if_false,hv],h⟩
  ·rw [CL] at h;obtain ⟨v,hv,h⟩:=Bm h;exact ⟨_,by simp only [Bl,Bool.false_eq_true,if_false,hv,Ari],h⟩
theorem PR {T:FS} {S:St} (hr:Rep T S):∀(rs:List ResultVar) (acc:List IV) {k:List IV→Option β},Acg E T rs acc k=some r→∃vs,F5 E S rs=some vs∧k (acc++vs)=some r
 | [],acc,k,h=>⟨[],rfl,by rw [List.append_nil];exact h⟩
 | .tmp t::rs,acc,k,h=>by
  have h:Acg E T rs (acc++[T.get t]) k=some r:=h;obtain ⟨vs,h1,h2⟩:=PR hr rs _ h;refine ⟨T.get t::vs,?_,by simpa using h2⟩;simp only [F5,I2,Option.bind_some,h1,Ari,hr.at_]
 | .cell a t::rs,acc,k,h=>by
  have h:(match E.T t with
   | none=>none
   | some ti=>AE ti.kind.isAgg ti.size (T.get a) T.hp fun v=>Acg E T rs (acc++[v]) k)=some r:=h
  cases ht:E.T t with
  | none=>rw [ht] at h;cases h
  | some ti =>
   rw [ht] at h;obtain ⟨v,h1,h⟩:=AfE h;obtain ⟨vs,h2,h3⟩:=PR hr rs _ h;refine ⟨v::vs,?_,by simpa using h3⟩
   have:I2 E S (.cell a t)=some v:=by
    simp only [I2,ht,← hr.at_,hr.hp];rw [← h1];cases T.get a with
    | fv w=>cases w<;>rfl
    | _=>rfl
   simp only [F5,this,Option.bind_some,h2,Ari]
theorem AhB {FT:Nat→Option Func} (hFT:∀f fn,FT f=some fn→E.P.funcs[f]?=some fn) {n:Nat} {sh:Aa} (hi:∀f args h x,sh f args h=some x→run E n f args h=some x) {args:List IV} {h:Hp} {x:IV×Hp}
  (e:AD E sh FT n f args h=some x):run E (n+1) f args h=some x:=by
 unfold AD at e;simp only [Bu] at e;simp only [run];cases hf:FT f with
 | none=>rw [hf] at e;cases e
 | some fn =>
  rw [hf] at e;rw [hFT f fn hf];simp only at e ⊢;cases hc:fn.body with
  | none=>rw [hc] at e;cases e
  | some c =>
   rw [hc] at e;simp only at e ⊢;obtain ⟨hl,e⟩:=Dh e;rw [OF] at e;simp only [Bool.and_eq_true] at hl;have hl1:=Bh hl.1;have hl2:=Bh hl.2;have hrep0:Rep ⟨fn.ntmps,dT 10 0 fn.ntmps,h⟩ ⟨List.replicate fn.ntmps .dead,h⟩:=by
    refine ⟨rfl,by simp,fun i hi=>(Aa2 10 0 fn.ntmps i (by simpa using hl2) (Nat.zero_le _) (by simpa using hi)).1,fun i hi=>?_⟩;rw [(Aa2 10 0 fn.ntmps i (by simpa using hl2) (Nat.zero_le _) (by simpa using hi)).2,List.getD_eq_getElem?_getD,List.getElem?_replicate];simp [hi]
   obtain ⟨T0,h1,h2⟩:=Adz args 0 (K:=_) hrep0;rw [h1] at e;have hs:Ko args 0 (List.replicate fn.ntmps .dead)=args++List.replicate (fn.ntmps - args.length) .dead:=by
    apply List.ext_getElem?;intro j;rw [Ld _ _ _ _ (by simpa using hl1)];by_cases hj:j<args.length
    ·rw [if_pos (by omega),List.getElem?_append_left hj];simp
    ·rw [if_neg (by omega),List.getElem?_append_right (by omega),List.getElem?_replicate,List.getElem?_replicate];by_cases hj2:j<fn.ntmps
     ·rw [if_pos hj2,if_pos (by omega)]
     ·rw [if_neg hj2,if_neg (by omega)]
   simp only [hs] at h2;have hT0:T0.n≤1024:=by
    have:=h2.len
    simp at this;omega
   obtain ⟨ex,S',T',h3,h4,_,h5⟩:=Adu hi c h2 hT0 e;rw [h3];have hres:(Acg E T' fn.results.toList [] fun vs=>An vs T'.hp)=some x→(GB E S' fn.results.toList).map (fun v=>(v,S'.hp))=some x:=by
    intro h;obtain ⟨vs,h1,h⟩:=PR h4 _ _ h;rw [List.nil_append] at h;simp only [GB,h1,Ari,h4.hp]
    match vs,h with
    | [],h=>simp only [An,Z0] at h;exact h
    | [v],h=>exact h
    | v::w::l,h=>simp only [An,Z0] at h;exact h
   cases ex with
   | exit j=>cases h5
   | normal=>exact hres h5
   | ret=>exact hres h5
end
end Idl
end Go.Proofs.Ytkfecngimlcfoaa
namespace Go.Proofs.Ytkfecngimlcfoaa
namespace Idl
section
variable {β:Type}
def T5 {α:Type} (l:List α) (a:Option β):Option β:=List.casesOn (motive:=fun _=>Option β) l a fun _ _=>none
def ar0 (g:Hp→Option β) (args:List IV) (h:Hp):Option β:=T5 args (g h)
def GE (g:IV→Hp→Option β) (args:List IV) (h:Hp):Option β:=AA args fun a l=>T5 l (g a h)
def DL (g:IV→IV→Hp→Option β) (args:List IV) (h:Hp):Option β:=AA args fun a l=>AA l fun b l=>T5 l (g a b h)
def OP (g:IV→IV→IV→Hp→Option β) (args:List IV) (h:Hp):Option β:=AA args fun a l=>AA l fun b l=>AA l fun c l=>T5 l (g a b c h)
def N9 (g:IV→IV→IV→IV→Hp→Option β) (args:List IV) (h:Hp):Option β:=AA args fun a l=>AA l fun b l=>AA l fun c l=>AA l fun d l=>T5 l (g a b c d h)
def ar5 (g:IV→IV→IV→IV→IV→Hp→Option β) (args:List IV) (h:Hp):Option β:=AA args fun a l=>AA l fun b l=>AA l fun c l=>AA l fun d l=>AA l fun e l=>T5 l (g a b c d e h)
def ar6 (g:IV→IV→IV→IV→IV→IV→Hp→Option β) (args:List IV) (h:Hp):Option β:=AA args fun a l=>AA l fun b l=>AA l fun c l=>AA l fun d l=>AA l fun e l=>AA l fun f l=>T5 l (g a b c d e f h)
theorem B0 {α:Type} {l:List α} {k:α→List α→Option β} {r:β} (h:AA l k=some r):∃a t,l=a::t∧k a t=some r:=by
 cases l with
 | nil=>cases h
 | cons a t=>exact ⟨a,t,rfl,h⟩
theorem I7 {α:Type} {l:List α} {a:Option β} {r:β} (h:T5 l a=some r):l=[]∧a=some r:=by
 cases l with
 | nil=>exact ⟨rfl,h⟩
 | cons _ _=>cases h
variable {F:List IV→Hp→Option β} {args:List IV} {h:Hp} {r:β}
theorem Vo {g:Hp→Option β} (hg:∀h,F [] h=g h) (e:ar0 g args h=some r):F args h=some r:=by
 obtain ⟨rfl,e9⟩:=I7 e;rw [hg];exact e9
theorem Cb {g:IV→Hp→Option β} (hg:∀a h,F [a] h=g a h) (e:GE g args h=some r):F args h=some r:=by
 obtain ⟨a,l1,rfl,e1⟩:=B0 e;obtain ⟨rfl,e9⟩:=I7 e1;rw [hg];exact e9
theorem Bo {g:IV→IV→Hp→Option β} (hg:∀a b h,F [a,b] h=g a b h) (e:DL g args h=some r):F args h=some r:=by
 obtain ⟨a,l1,rfl,e1⟩:=B0 e;obtain ⟨b,l2,rfl,e2⟩:=B0 e1;obtain ⟨rfl,e9⟩:=I7 e2;rw [hg];exact e9
theorem GY {g:IV→IV→IV→Hp→Option β} (hg:∀a b c h,F [a,b,c] h=g a b c h) (e:OP g args h=some r):F args h=some r:=by
 obtain ⟨a,l1,rfl,e1⟩:=B0 e;obtain ⟨b,l2,rfl,e2⟩:=B0 e1;obtain ⟨c,l3,rfl,e3⟩:=B0 e2;obtain ⟨rfl,e9⟩:=I7 e3;rw [hg];exact e9
theorem Gd {g:IV→IV→IV→IV→Hp→Option β} (hg:∀a b c d h,F [a,b,c,d] h=g a b c d h) (e:N9 g args h=some r):F args h=some r:=by
 obtain ⟨a,l1,rfl,e1⟩:=B0 e;obtain ⟨b,l2,rfl,e2⟩:=B0 e1;obtain ⟨c,l3,rfl,e3⟩:=B0 e2;obtain ⟨d,l4,rfl,e4⟩:=B0 e3;obtain ⟨rfl,e9⟩:=I7 e4;rw [hg];exact e9
theorem AoG {g:IV→IV→IV→IV→IV→Hp→Option β} (hg:∀a b c d x h,F [a,b,c,d,x] h=g a b c d x h) (e:ar5 g args h=some r):F args h=some r:=by
 obtain ⟨a,l1,rfl,e1⟩:=B0 e;obtain ⟨b,l2,rfl,e2⟩:=B0 e1;obtain ⟨c,l3,rfl,e3⟩:=B0 e2;obtain ⟨d,l4,rfl,e4⟩:=B0 e3;obtain ⟨x,l5,rfl,e5⟩:=B0 e4;obtain ⟨rfl,e9⟩:=I7 e5;rw [hg];exact e9
theorem Apc {g:IV→IV→IV→IV→IV→IV→Hp→Option β} (hg:∀a b c d x y h,F [a,b,c,d,x,y] h=g a b c d x y h) (e:ar6 g args h=some r):F args h=some r:=by
 obtain ⟨a,l1,rfl,e1⟩:=B0 e;obtain ⟨b,l2,rfl,e2⟩:=B0 e1;obtain ⟨c,l3,rfl,e3⟩:=B0 e2;obtain ⟨d,l4,rfl,e4⟩:=B0 e3;obtain ⟨x,l5,rfl,e5⟩:=B0 e4;obtain ⟨y,l6,rfl,e6⟩:=B0 e5;obtain ⟨rfl,e9⟩:=I7 e6;rw [hg];exact e9
end
abbrev Sh:=Aa→Nat→List IV→Hp→Option (IV×Hp)
inductive DT where
 | nil
 | leaf (f:Nat) (g:Sh)
 | node (m:Nat) (l r:DT)
def DT.call (t:DT):Nat→Sh :=
 DT.rec (motive:=fun _=>Nat→Sh) (fun _ _ _ _ _=>none) (fun f g i=>cond (Nat.beq i f) g fun _ _ _ _=>none) (fun m _ _ gl gr i=>cond (Nat.ble m i) (gr i) (gl i)) t
def SS (t:DT) (n:Nat):Aa:=Nat.rec (motive:=fun _=>Aa) (fun _ _ _=>none) (fun n ih f args h=>t.call f ih n args h) n
def AmU (E:Env) (FT:Nat→Option Func) (f:Nat) (g:Sh):Prop:=∀ih n args h x,g ih n args h=some x→AD E ih FT n f args h=some x
def DT.Ok (E:Env) (FT:Nat→Option Func):DT→Prop
 | .nil=>True
 | .leaf f g=>AmU E FT f g
 | .node _ l r=>l.Ok E FT∧r.Ok E FT
theorem DT.call_ok {E:Env} {FT:Nat→Option Func} {t:DT} (ht:t.Ok E FT):∀f,AmU E FT f (t.call f):=by
 induction t with
 | nil=>intro f ih n args h x e;cases e
 | leaf j g =>
  intro f ih n args h x e;have e:(cond (Nat.beq f j) g fun _ _ _ _=>none) ih n args h=some x:=e;cases hb:Nat.beq f j with
  | false=>rw [hb] at e;cases e
  | true=>rw [hb] at e;rw [Dy hb];exact ht ih n args h x e
 | node m l r ihl ihr =>
  intro f ih n args h x e;have e:(cond (Nat.ble m f) (r.call f) (l.call f)) ih n args h=some x:=e;cases hb:Nat.ble m f with
  | true=>rw [hb] at e;exact ihr ht.2 f ih n args h x e
  | false=>rw [hb] at e;exact ihl ht.1 f ih n args h x e
theorem AmF {E:Env} {FT:Nat→Option Func} (hFT:∀f fn,FT f=some fn→E.P.funcs[f]?=some fn) {t:DT} (ht:t.Ok E FT):∀n f args h x,SS t n f args h=some x→run E n f args h=some x:=by
 intro n
 induction n with
 | zero=>intro f args h x e;cases e
 | succ n ihn=>intro f args h x e;exact AhB hFT ihn (DT.call_ok ht f _ _ _ _ _ e)
end Idl
end Go.Proofs.Ytkfecngimlcfoaa

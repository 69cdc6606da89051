/-
  Texts of a proof, part 7: an ideal semantics of the program, its functions in shallow form, contracts of them. No statement of the seat is proved here.
-/
import Derived.Test.YtkfecngimlcfoaaChecked
import Derived.KernelRfl
import Derived.Test.YtkfecngimlcfoaaStageAllK6
set_option linter.all false
set_option maxRecDepth 20000
set_option maxHeartbeats 16000000
noncomputable section
namespace Go.Proofs.Ytkfecngimlcfoaa
namespace Idl
def tab:TTree :=
 .node 66 (.node 16 (.node 9 (.node 5 (.node 3 (.leaf 2 ⟨1,8,.int .i64,[.fv (.int .i64 0)]⟩)
 (.node 4 (.leaf 3 ⟨1,8,.int .i64,[.fv (.int .i64 0)]⟩)
 (.leaf 4 ⟨1,1,.bool,[.fv (.bool false)]⟩)))
 (.node 6 (.leaf 5 ⟨1,1,.int .u8,[.fv (.int .u8 0)]⟩)
 (.node 8 (.leaf 6 ⟨1,1,.int .u8,[.fv (.int .u8 0)]⟩)
 (.leaf 8 ⟨4,24,.struct [(0,2),(1,3),(2,4),(3,6)],[.fv (.int .i64 0),.fv (.int .i64 0),.fv (.bool false),.fv (.int .u8 0)]⟩))))
 (.node 12 (.node 10 (.leaf 9 ⟨1,16,.str,[.fv (.str .empty)]⟩)
 (.node 11 (.leaf 10 ⟨1,16,.str,[.fv (.str .empty)]⟩)
 (.leaf 11 ⟨1,16,.str,[.fv (.str .empty)]⟩)))
 (.node 14 (.leaf 12 ⟨1,8,.int .u64,[.fv (.int .u64 0)]⟩)
 (.node 15 (.leaf 14 ⟨2,24,.struct [(0,9),(1,12)],[.fv (.str .empty),.fv (.int .u64 0)]⟩)
 (.leaf 15 ⟨1,8,.ptr,[.fv (.nilp)]⟩)))))
 (.node 28 (.node 22 (.node 17 (.leaf 16 ⟨1,8,.ptr,[.fv (.nilp)]⟩)
 (.node 19 (.leaf 17 ⟨1,8,.ptr,[.fv (.nilp)]⟩)
 (.leaf 19 ⟨1,8,.struct [(0,17)],[.fv (.nilp)]⟩)))
 (.node 24 (.leaf 22 ⟨1,24,.slice 24,[.nils]⟩)
 (.node 27 (.leaf 24 ⟨3,40,.struct [(0,3),(1,3),(2,22)],[.fv (.int .i64 0),.fv (.int .i64 0),.nils]⟩)
 (.leaf 27 ⟨1,24,.slice 69,[.nils]⟩))))
 (.node 40 (.node 30 (.leaf 28 ⟨1,24,.slice 30,[.nils]⟩)
 (.node 36 (.leaf 30 ⟨3,40,.struct [(0,3),(1,3),(2,28)],[.fv (.int .i64 0),.fv (.int .i64 0),.nils]⟩)
 (.leaf 36 ⟨1,8,.int .i64,[.fv (.int .i64 0)]⟩)))
 (.node 52 (.leaf 40 ⟨1,8,.func,[.fv (.nilf)]⟩)
 (.node 55 (.leaf 52 ⟨1,24,.slice 9,[.nils]⟩)
 (.leaf 55 ⟨1,8,.int .u64,[.fv (.int .u64 0)]⟩))))))
 (.node 100 (.node 86 (.node 80 (.node 69 (.leaf 66 ⟨2,16,.struct [(0,3),(1,3)],[.fv (.int .i64 0),.fv (.int .i64 0)]⟩)
 (.node 75 (.leaf 69 ⟨4,48,.struct [(0,3),(1,30)],[.fv (.int .i64 0),.fv (.int .i64 0),.fv (.int .i64 0),.nils]⟩)
 (.leaf 75 ⟨1,24,.slice 3,[.nils]⟩)))
 (.node 82 (.leaf 80 ⟨1,8,.ptr,[.fv (.nilp)]⟩)
 (.node 84 (.leaf 82 ⟨3,24,.struct [(0,3),(1,3),(2,3)],[.fv (.int .i64 0),.fv (.int .i64 0),.fv (.int .i64 0)]⟩)
 (.leaf 84 ⟨1,8,.ptr,[.fv (.nilp)]⟩))))
 (.node 94 (.node 88 (.leaf 86 ⟨1,8,.ptr,[.fv (.nilp)]⟩)
 (.node 93 (.leaf 88 ⟨2,16,.struct [(0,3),(1,3)],[.fv (.int .i64 0),.fv (.int .i64 0)]⟩)
 (.leaf 93 ⟨1,8,.ptr,[.fv (.nilp)]⟩)))
 (.node 96 (.leaf 94 ⟨1,8,.ptr,[.fv (.nilp)]⟩)
 (.node 98 (.leaf 96 ⟨1,8,.ptr,[.fv (.nilp)]⟩)
 (.leaf 98 ⟨1,8,.map 3 124,[.dead]⟩)))))
 (.node 124 (.node 116 (.node 112 (.leaf 100 ⟨5,40,.struct [(0,3),(1,3),(2,3),(3,36),(4,98)],[.fv (.int .i64 0),.fv (.int .i64 0),.fv (.int .i64 0),.fv (.int .i64 0),.dead]⟩)
 (.node 114 (.leaf 112 ⟨1,24,.slice 5,[.nils]⟩)
 (.leaf 114 ⟨1,24,.slice 84,[.nils]⟩)))
 (.node 120 (.leaf 116 ⟨7,104,.struct [(0,3),(1,3),(2,114),(3,114),(4,30)],[.fv (.int .i64 0),.fv (.int .i64 0),.nils,.nils,.fv (.int .i64 0),.fv (.int .i64 0),.nils]⟩)
 (.node 122 (.leaf 120 ⟨1,8,.int .i64,[.fv (.int .i64 0)]⟩)
 (.leaf 122 ⟨1,8,.func,[.fv (.nilf)]⟩))))
 (.node 129 (.node 125 (.leaf 124 ⟨1,8,.struct [(0,122)],[.fv (.nilf)]⟩)
 (.node 127 (.leaf 125 ⟨1,8,.ptr,[.fv (.nilp)]⟩)
 (.leaf 127 ⟨1,24,.slice 96,[.nils]⟩)))
 (.node 135 (.node 132 (.leaf 129 ⟨7,88,.struct [(0,3),(1,3),(2,127),(3,30),(6,125)],[.fv (.int .i64 0),.fv (.int .i64 0),.nils,.fv (.int .i64 0),.fv (.int .i64 0),.nils,.fv (.nilp)]⟩)
 (.leaf 132 ⟨31,248,.arr 31 3,[.fv (.int .i64 0),.fv (.int .i64 0),.fv (.int .i64 0),.fv (.int .i64 0),.fv (.int .i64 0),.fv (.int .i64 0),.fv (.int .i64 0),.fv (.int .i64 0),.fv (.int .i64 0),.fv (.int .i64 0),.fv (.int .i64 0),.fv (.int .i64 0),.fv (.int .i64 0),.fv (.int .i64 0),.fv (.int .i64 0),.fv (.int .i64 0),.fv (.int .i64 0),.fv (.int .i64 0),.fv (.int .i64 0),.fv (.int .i64 0),.fv (.int .i64 0),.fv (.int .i64 0),.fv (.int .i64 0),.fv (.int .i64 0),.fv (.int .i64 0),.fv (.int .i64 0),.fv (.int .i64 0),.fv (.int .i64 0),.fv (.int .i64 0),.fv (.int .i64 0),.fv (.int .i64 0)]⟩))
 (.node 147 (.leaf 135 ⟨2,16,.struct [(0,96),(1,125)],[.fv (.nilp),.fv (.nilp)]⟩)
 (.leaf 147 ⟨1,1,.int .u8,[.fv (.int .u8 0)]⟩))))))
def An2:List (Nat×List Bool):=[(61,[true,false,false,false]),(62,[true,false,false]),(63,[true,false,false]),(68,[false,true,false]),(71,[true,false,false]),(72,[true,false,false,false]),(88,[true,false]),(94,[true,false]),(95,[true,false]),(96,[true,false]),(97,[true,false]),(98,[true,false]),(99,[true]),(102,[true,false]),(103,[true,false,false,false]),(108,[true])]
def AoO:List (Nat×Nat×List Nat×List Nat):=[(5,11,[1,2,3,4,6,7,8,12,13,14,15,16,17,18,19,20,21,22,23,24,25,26,27,28,29,30,31,32,33,34,35,36,37,38,39,40,41,42,43,44,45,46,47,48,49,50,51,52,53,54,55,56,57,58,59,60,61,62,63,64,65,66,67,68,69,70,71,72,73,74,75,76,77,78,79,80,81,82,83,84,85,86,87,88,89,90],[]),
 (6,11,[1,2,3,4,5,6,7,11,12,13,14,15,16,17,18,19,20,21,22,23,24,25,26,27,28,29,30,31,32,33,34,35,36,37,38,39,40,41,42,43,44,45,46,47,48,49,50,51,52,53,54,55,56,57,58,59,60,61,62,63,64,65,66,67,68,69,70,71,72,73,74,75,76,77,78,79,80,81],[]),
 (9,11,[0,1,3,4,5,6,7,8,14,15,16,17,18,19,20,21,22,23,24,25,26,27,28,29,30,31,32,33,34,35,36,37,38,39,40,41,42,43,44,45,46,47,48,49,50,51,52,53,54,55,56,57,58,59,60,61,62,63,64,65,66,67,68,69,70,71,72,73,74,75,76,77,78,79,80,81,82,83],[]),
 (10,11,[0,2,3,4,12,13,14,15,16,17,18,19,20,21,22,23,24,25,26,27,28,29,30,31,32,33,34,35,36,37,38,39,40,41,42,43,44,45,46,47,48,49,50,51,52,53,54,55,56,57,58,59,60,61,62,63,64,65,66,67,68,69,70,71,72,73,74,75,76,77,78,79,80,81,82,83,84,85,86,87,88,89,90,91,92,93,94,95,96,97,98,99,100,101,102,103,104,105,106,107,108,109,110,111,112,113,114,115,116,117,118,119,120,121,122,123,124],[]),
 (17,4,[0,1,4,6,7,8,9,10,11,12,13,14,15,16,17,18,19,20,21,22,23,24,25,26,27,28,29,30,31,32,33,34,35,36,37,38,39,40,41,42,43,44,45],[]),
 (21,15,[0,4,5,10,11,12,13,14,15,16,17,18,19,20,21,22,23,24,25,26,27,28,29,30,31,32,33,34,35,36,37,38,39,40,41,42,43,44,45,46,47,48,49,50,51,52,53,54,55,56,57,58,59,60,61,62,63,64,65,66,67,68,69,70,71,72,73,74,75,76,77],[22037518]),
 (22,3,[0,2,5,6,7,8,9,10,11,12,13,14,15,16,17,18,19,20,21,22,23,24,25,26,27,28,29,30,31,32,33,34,35,36,37,38,39,40,41,42,43,44,45,46,47,48,49],[]),
 (27,3,[1,5,6,7,8,9,10,11,12,13,14],[]),
 (29,4,[0,2,4,5,6,7,8,9,10,11,12,13,14,15,16,17,18,19,20,21,22,23,24,25,26,27,28,29,30],[]),
 (30,15,[0,2,3,6,7,8,9,10,11,12,13,14,15,16,17,18,19,20,21,22,23,24,25,26,27,28,29,30,31,32,33,34,35,36,37,38,39,40,41,42,43,44,45,46,47,48,49,50,51,52,53,54,55,56,57,58,59,60,61],[]),
 (31,3,[0,2,5,6,7,8,9,10,11,12,13,14,15,16,17,18,19,20],[]),
 (36,3,[0,3,4,7,8,9,10,11,12,13,14,15,16,17,18,19,20,21,22,23,24,25,26,27,28,29,30],[]),
 (37,3,[1,2,5,6,7,8,9,10,11,12,13,14,15,16,17,18,19,20,21,22,23,24,25,26,27,28,29,30,31,32,33,34,35,36,37,38,39,40,41,42,43,44,45,46],[38803466]),
 (45,5,[0,4,5,9,10,11,12,13,14,15,16,17,18,19,20,21,22,23,24,25,26,27,28,29,30,31,32,33,34,35,36,37,38,39,40,41,42,43,44,45,46,47,48,49,50,51,52,53],[47193104]),
 (49,2,[3,4,5,6,8,10,11,12,13,14,15,16,17,18,19,20,21,22,23,24,25,26,27],[]),
 (58,3,[2,4,5,7,9,12,13,14,15,16,17,18,19,20,21,22,23,24,25,26,27,28,29,30,31,32,33,34,35,36,37,38,39,40,41,42,43,44,45,46,47,48,49,50,51,52,53,54,55,56,57,58,59,60,61,62,63,64,65,66,67,68,69,70,71],[60823568,60825603]),
 (61,10,[4,5,6,7,11,12,13,14,15,16,17,18,19,20,21,22,23,24,25,26,27,28,29,30,31,32,33,34,35,36,37,38,39,40,41,42,43,44,45,46,47,48,49,50,51,52,53,54,55,56,57,58,59,60,61,62,63,64,65,66,67,68,69,70,71,72,73,74,75,76,77,78,79,80,81,82,83,84,85,86,87,88,89,90,91,92,93,94,95,96,97,98,99,100,101,102,103,104,105,106,107,108,109,110,111,112,113,114,115,116,117,118,119,120,121,122,123,124,125,126,127,128,129,130],[63982597,63984651]),
 (61,17,[4,5,6,7,15,16,17,18,19,20,21,22,23,24,25,26,27,28,29,30,31,32,33,34,35,36,37,38,39,40,41,42,43,44,45,46,47,48,49,50,51,52,53,54,55,56,57,58,59,60,61,62,63,64,65,66,67,68,69,70,71,72,73,74,75,76,77,78,79,80,81,82,83,84,85,86,87,88,89,90,91,92,93,94,95,96,97,98,99,100,101,102,103,104,105,106,107,108,109,110,111,112,113,114,115,116,117,118,119,120,121,122,123,124,125,126,127,128,129,130],[63982597]),
 (62,9,[1,3,5,6,9,10,11,12,13,14,15,16,17,18,19,20,21,22,23,24,25,26,27,28,29,30,31,32,33,34,35,36,37,38,39,40,41,42,43,44,45,46,47,48,49,50,51,52,53,54,55,56,57,58,59,60,61,62,63,64,65,66,67,68,69,70,71,72,73,74,75,76,77,78,79,80,81,82,83,84,85,86,87,88,89,90,91,92,93,94,95],[65024012,65024014,65025038]),
 (63,7,[1,3,5,7,8,9,10,11,12,13,14,15,16,17,18,19,20,21,22,23,24,25,26,27,28,29,30,31,32,33,34,35,36,37,38,39,40,41,42,43,44,45,46,47,48,49,50,51,52,53,54,55,56,57,58,59,60,61,62,63,64,65,66,67,68],[]),
 (68,7,[0,3,4,5,6,7,8,9,10,11,12,13,14,15,16,17,18,19,20,21,22,23,24,25,26,27,28,29,30,31,32,33,34,35,36,37,38,42,43,44,45,46,47,48,49,50,51,52,53],[71311362]),
 (69,5,[0,1,2,3,4,5,6,7,8,9,10,11,12,13,14,15,16,17,18,19,20,21,22,23,24,25,26,27,28,32,33,34,35,36,37,38],[72357890]),
 (71,8,[2,3,4,6,8,9,10,11,12,13,14,15,16,17,18,19,20,21,22,23,24,25,26,27,28,29,30,31,32,33,34,35,36,37,41,42,43,44,45,46,47,48,49,50,51,52,53,54,55,56,57,58,59,60,61,62,63,64,65,66,67,68,69],[74458115]),
 (72,11,[4,5,6,7,10,11,12,13,14,15,16,17,18,19,20,21,22,23,24,25,26,27,28,29,30,31,32,33,34,35,36,37,38,39,40,41,42,43,44,45,46,47,48,49,50,51,52,53,54,55,56,57,58,59,60,61,62,63,64,65,66,67,68,71,72,73,74,75,76,77,78,79,80,81,82,83,84,85,86,87,88,89,90,91,92,93,94,95,96,97,98,99,100,101,102,103,104,105,106,107,108,109,110,111,112,113,114,115,116,117,118,119,120,121,122,123,124,125,126,127,128,129,130,131,132,133,134,135,136],[75512833,75516934]),
 (72,17,[4,5,6,7,11,14,15,16,17,18,19,20,21,22,23,24,25,26,27,28,29,30,31,32,33,34,35,36,37,38,39,40,41,42,43,44,45,46,47,48,49,50,51,52,53,54,55,56,57,58,59,60,61,62,63,64,65,66,67,68,71,72,73,74,75,76,77,78,79,80,81,82,83,84,85,86,87,88,89,90,93,94,95,96,97,98,99,100,101,102,103,104,105,106,107,108,109,110,111,112,113,114,115,116,117,118,119,120,121,122,123,124,125,126,127,128,129,130,131,132,133,134,135,136],[75516934]),
 (86,3,[0,5,6,7,8,9,10,11,12,13,14,15,16,17,18,19,20,21,22,23,24,25,26,27,28,29,30,31,32,33,34,35,36,37,38,39,40,41,42,43,44,45,46,47,48,49,50,51,52,53,54,55,56,57,58,59,60,61,62,63,64,65,66,67,68,69,70,71,72,73,74,75,76,77,78,79,80,81,82,83,84,85,86,87,88,89,90,91,92,93,94,95,96,97,98,99,100,101,102,103,104,105,106,107,108,109,110,111,112,113,114,115,116,117,118,119,120,121,122,123,124,125,126,127,128,129,130],[90182662,90185732]),
 (90,9,[0,3,5,6,11,12,13,14,15,16,17,18,19,20,21,22,23,24,25,26,27,28,29,30,31,32,33,34,35,36,37,38,39,40,41,42,43,44,45,46,47,48,49,50,51,52,53,54,55,56,57,58,59,60,61,62,63,64,65,66,67],[94384144]),
 (100,1,[2,3,4,5,6,7,8,9,10,11,12,13,14,15,16,17,18,19,20,21,22],[]),
 (104,2,[2,3,4,5,6,9,10,11,12,13,14,15,16,17,18],[]),
 (107,4,[0,3,4,6,7,8,9,10,11,12,13,14,15,16,17,18,19,20,21,22,23,24,25,26,27,28,29,30,31],[]),
 (111,2,[1,2,3,4,5,6,10,11,12,13,14,15,16,17,18],[116396035])]
def UO (l:List Nat) (f:Nat):Bool:=l.any fun g=>Nat.beq g f
def AiI (f:Nat):List (Nat×List Bool)->List Bool
 | []=>[]
 | (g,k)::l=>if Nat.beq g f then k else AiI f l
def AkC (f r:Nat):List (Nat×Nat×List Nat×List Nat)->List Nat×List Nat
 | []=>([],[])
 | (g,q,k)::l=>if Nat.beq g f && Nat.beq q r then k else AkC f r l
def pol:Pol where
 inl:=UO [70]
 keep:=fun f=>AiI f An2
 raw:=UO [70]
 head:=fun f r=>AkC f r AoO
 rowApp:=fun f _ _=>UO [] f
 fzBox:=fun f _ _=>UO [61,72,111] f
 split:=UO []
def EE:Env:=⟨Try.prog,tab.get,pol⟩
set_option maxRecDepth 100000 in
theorem ArH:tab.leaves.map (fun p=>ApE Try.prog p.1)=tab.leaves.map (fun p=>some p.2):=by kernel_rfl
theorem AiD:Try.prog.follows .mixedOrders=true:=by kernel_rfl
theorem AjX:Ae1 Try.prog=true:=by kernel_rfl
theorem Aj7:Y4 Try.prog=true:=by kernel_rfl
def ft:FTr :=
 .node 57 (.node 29 (.node 15 (.node 8 (.node 5 (.node 3 (.leaf 2 Try.f2)
 (.node 4 (.leaf 3 Try.f3)
 (.leaf 4 Try.f4)))
 (.node 6 (.leaf 5 Try.f5)
 (.node 7 (.leaf 6 Try.f6)
 (.leaf 7 Try.f7))))
 (.node 11 (.node 9 (.leaf 8 Try.f8)
 (.node 10 (.leaf 9 Try.f9)
 (.leaf 10 Try.f10)))
 (.node 13 (.node 12 (.leaf 11 Try.f11)
 (.leaf 12 Try.f12))
 (.node 14 (.leaf 13 Try.f13)
 (.leaf 14 Try.f14)))))
 (.node 22 (.node 18 (.node 16 (.leaf 15 Try.f15)
 (.node 17 (.leaf 16 Try.f16)
 (.leaf 17 Try.f17)))
 (.node 20 (.node 19 (.leaf 18 Try.f18)
 (.leaf 19 Try.f19))
 (.node 21 (.leaf 20 Try.f20)
 (.leaf 21 Try.f21))))
 (.node 25 (.node 23 (.leaf 22 Try.f22)
 (.node 24 (.leaf 23 Try.f23)
 (.leaf 24 Try.f24)))
 (.node 27 (.node 26 (.leaf 25 Try.f25)
 (.leaf 26 Try.f26))
 (.node 28 (.leaf 27 Try.f27)
 (.leaf 28 Try.f28))))))
 (.node 43 (.node 36 (.node 32 (.node 30 (.leaf 29 Try.f29)
 (.node 31 (.leaf 30 Try.f30)
 (.leaf 31 Try.f31)))
 (.node 34 (.node 33 (.leaf 32 Try.f32)
 (.leaf 33 Try.f33))
 (.node 35 (.leaf 34 Try.f34)
 (.leaf 35 Try.f35))))
 (.node 39 (.node 37 (.leaf 36 Try.f36)
 (.node 38 (.leaf 37 Try.f37)
 (.leaf 38 Try.f38)))
 (.node 41 (.node 40 (.leaf 39 Try.f39)
 (.leaf 40 Try.f40))
 (.node 42 (.leaf 41 Try.f41)
 (.leaf 42 Try.f42)))))
 (.node 50 (.node 46 (.node 44 (.leaf 43 Try.f43)
 (.node 45 (.leaf 44 Try.f44)
 (.leaf 45 Try.f45)))
 (.node 48 (.node 47 (.leaf 46 Try.f46)
 (.leaf 47 Try.f47))
 (.node 49 (.leaf 48 Try.f48)
 (.leaf 49 Try.f49))))
 (.node 53 (.node 51 (.leaf 50 Try.f50)
 (.node 52 (.leaf 51 Try.f51)
 (.leaf 52 Try.f52)))
 (.node 55 (.node 54 (.leaf 53 Try.f53)
 (.leaf 54 Try.f54))
 (.node 56 (.leaf 55 Try.f55)
 (.leaf 56 Try.f56)))))))
 (.node 84 (.node 70 (.node 63 (.node 60 (.node 58 (.leaf 57 Try.f57)
 (.node 59 (.leaf 58 Try.f58)
 (.leaf 59 Try.f59)))
 (.node 61 (.leaf 60 Try.f60)
 (.node 62 (.leaf 61 Try.f61)
 (.leaf 62 Try.f62))))
 (.node 66 (.node 64 (.leaf 63 Try.f63)
 (.node 65 (.leaf 64 Try.f64)
 (.leaf 65 Try.f65)))
 (.node 68 (.node 67 (.leaf 66 Try.f66)
 (.leaf 67 Try.f67))
 (.node 69 (.leaf 68 Try.f68)
 (.leaf 69 Try.f69)))))
 (.node 77 (.node 73 (.node 71 (.leaf 70 Try.f70)
 (.node 72 (.leaf 71 Try.f71)
 (.leaf 72 Try.f72)))
 (.node 75 (.node 74 (.leaf 73 Try.f73)
 (.leaf 74 Try.f74))
 (.node 76 (.leaf 75 Try.f75)
 (.leaf 76 Try.f76))))
 (.node 80 (.node 78 (.leaf 77 Try.f77)
 (.node 79 (.leaf 78 Try.f78)
 (.leaf 79 Try.f79)))
 (.node 82 (.node 81 (.leaf 80 Try.f80)
 (.leaf 81 Try.f81))
 (.node 83 (.leaf 82 Try.f82)
 (.leaf 83 Try.f83))))))
 (.node 98 (.node 91 (.node 87 (.node 85 (.leaf 84 Try.f84)
 (.node 86 (.leaf 85 Try.f85)
 (.leaf 86 Try.f86)))
 (.node 89 (.node 88 (.leaf 87 Try.f87)
 (.leaf 88 Try.f88))
 (.node 90 (.leaf 89 Try.f89)
 (.leaf 90 Try.f90))))
 (.node 94 (.node 92 (.leaf 91 Try.f91)
 (.node 93 (.leaf 92 Try.f92)
 (.leaf 93 Try.f93)))
 (.node 96 (.node 95 (.leaf 94 Try.f94)
 (.leaf 95 Try.f95))
 (.node 97 (.leaf 96 Try.f96)
 (.leaf 97 Try.f97)))))
 (.node 105 (.node 101 (.node 99 (.leaf 98 Try.f98)
 (.node 100 (.leaf 99 Try.f99)
 (.leaf 100 Try.f100)))
 (.node 103 (.node 102 (.leaf 101 Try.f101)
 (.leaf 102 Try.f102))
 (.node 104 (.leaf 103 Try.f103)
 (.leaf 104 Try.f104))))
 (.node 108 (.node 106 (.leaf 105 Try.f105)
 (.node 107 (.leaf 106 Try.f106)
 (.leaf 107 Try.f107)))
 (.node 110 (.node 109 (.leaf 108 Try.f108)
 (.leaf 109 Try.f109))
 (.node 111 (.leaf 110 Try.f110)
 (.leaf 111 Try.f111)))))))
theorem AwF:∀f fn,ft.get f=some fn->EE.P.funcs[f]?=some fn:=FTr.ok (by kernel_rfl)
theorem AvG:EnvOk EE:=AsM ArH AiD AjX Aj7
section lists
variable {α β:Type}
def DS (l:List α) (i:Nat) (k:α->Option β):Option β :=
 List.rec (motive:=fun _=>Nat->Option β) (fun _=>none) (fun x _ ih i=>Nat.rec (motive:=fun _=>Option β) (k x) (fun p _=>ih p) i) l i
theorem De (l:List α) (i:Nat) (k:α->Option β):DS l i k=(l[i]?).bind k:=by
 induction l generalizing i with
 | nil=>rfl
 | cons x l ih=>cases i with
  | zero=>rfl
  | succ i=>exact ih i
def FX (l:List α) (n:Nat) (k:List α->Option β):Option β :=
 List.rec (motive:=fun _=>Nat->Option β) (fun n=>Nat.rec (motive:=fun _=>Option β) (k []) (fun _ _=>none) n) (fun x t ih n=>Nat.rec (motive:=fun _=>Option β) (k (x::t)) (fun p _=>ih p) n) l n
theorem KS (l:List α) (n:Nat) (k:List α->Option β):FX l n k=if n<=l.length then k (l.drop n) else none:=by
 induction l generalizing n with
 | nil=>cases n with
  | zero=>rfl
  | succ n=>rw [if_neg (by simp)];rfl
 | cons x l ih=>cases n with
  | zero=>rw [if_pos (Nat.zero_le _)];rfl
  | succ n=>rw [show FX (x::l) (n+1) k=FX l n k from rfl,ih];simp
def Gi (l:List α) (n:Nat) (k:List α->Option β):Option β :=
 List.rec (motive:=fun _=>Nat->(List α->Option β)->Option β) (fun n k=>Nat.rec (motive:=fun _=>Option β) (k []) (fun _ _=>none) n)
  (fun x _ ih n k=>Nat.rec (motive:=fun _=>Option β) (k []) (fun p _=>ih p fun xs=>k (x::xs)) n) l n k
theorem Kp (l:List α) (n:Nat) (k:List α->Option β):Gi l n k=if n<=l.length then k (l.take n) else none:=by
 induction l generalizing n k with
 | nil=>cases n with
  | zero=>rfl
  | succ n=>rw [if_neg (by simp)];rfl
 | cons x l ih=>cases n with
  | zero=>rw [if_pos (Nat.zero_le _)];rfl
  | succ n=>rw [show Gi (x::l) (n+1) k=Gi l n (fun xs=>k (x::xs)) from rfl,ih];simp
def Qw (l:List α) (j:Nat) (b:α) (k:List α->Option β):Option β :=
 List.rec (motive:=fun _=>Nat->(List α->Option β)->Option β) (fun _ k=>k []) (fun x t ih j k=>Nat.rec (motive:=fun _=>Option β) (k (b::t)) (fun p _=>ih p fun xs=>k (x::xs)) j) l j k
theorem AmF (l:List α) (j:Nat) (b:α) (k:List α->Option β):Qw l j b k=k (l.set j b):=by
 induction l generalizing j k with
 | nil=>rfl
 | cons x l ih=>cases j with
  | zero=>rfl
  | succ j=>rw [show Qw (x::l) (j+1) b k=Qw l j b (fun xs=>k (x::xs)) from rfl,ih];rfl
def AD (l:List α) (k:α->List α->Option β):Option β:=List.casesOn (motive:=fun _=>Option β) l none k
end lists
section
variable {α:Type}
def fRf (r:Ref) (k:Ref->α):α:=match r with
 | .own n=>Ek n fun n=>k (.own n)
 | .ext n=>Ek n fun n=>k (.ext n)
theorem Pt (r:Ref) (k:Ref->α):fRf r k=k r:=by cases r<;>simp [fRf,BQ]
def fV:Nat->IV->(IV->α)->α
 | 0,v,k=>k v
 | d+1,v,k=>match v with
  | .dead=>k .dead
  | .fv v=>fFV d v fun v=>k (.fv v)
  | .ptr r o=>fRf r fun r=>Ek o fun o=>k (.ptr r o)
  | .slc r sz n=>fRf r fun r=>Ek sz fun sz=>Ek n fun n=>k (.slc r sz n)
  | .nils=>k .nils
  | .emp=>k .emp
  | .clip es=>fL (fFV d) es fun es=>k (.clip es)
  | .app r es=>fRf r fun r=>fL (fFV d) es fun es=>k (.app r es)
  | .func fn a b=>fL (fV d) a fun a=>fL (fV d) b fun b=>k (.func fn a b)
  | .agg cs=>fL (fV d) cs fun cs=>k (.agg cs)
  | .tuple cs=>fL (fV d) cs fun cs=>k (.tuple cs)
  | .mapr r=>fRf r fun r=>k (.mapr r)
theorem Cy:∀(d:Nat) (v:IV) (k:IV->α),fV d v k=k v
 | 0,_,_=>rfl
 | d+1,v,k=>by cases v<;>simp [fV,DG (Cy d),DG (O1 d),O1,BQ,Pt]
def fBk (b:Blk) (k:Blk->α):α:=match b with
 | .row cs ro=>fL (fV 3) cs fun cs=>k (.row cs ro)
 | .tok n sz=>Ek n fun n=>Ek sz fun sz=>k (.tok n sz)
 | .map es=>fL (fun (p:Int×IV) k=>match p with | (n,v)=>AoF n fun n=>fV 4 v fun v=>k (n,v)) es fun es=>k (.map es)
theorem C1 (b:Blk) (k:Blk->α):fBk b k=k b:=by
 cases b with
 | row cs ro=>simp only [fBk];rw [DG (Cy 3)]
 | tok n sz=>simp only [fBk];rw [BQ,BQ]
 | map es =>
  simp only [fBk];rw [DG];rintro ⟨n,v⟩ k;simp only;rw [Ze,Cy]
def fOw (p:Nat×Blk) (k:Nat×Blk->α):α:=match p with | (n,b)=>Ek n fun n=>fBk b fun b=>k (n,b)
theorem ArG (p:Nat×Blk) (k:Nat×Blk->α):fOw p k=k p:=by
 obtain ⟨n,b⟩:=p;simp only [fOw];rw [BQ,C1]
def fH (h:Hp) (k:Hp->α):α:=match h with | ⟨own,ext⟩=>fL fOw own fun own=>fL fBk ext fun ext=>k ⟨own,ext⟩
theorem MG (h:Hp) (k:Hp->α):fH h k=k h:=by
 obtain ⟨a,b⟩:=h;simp only [fH];rw [DG ArG,DG C1]
end
section
variable {β:Type}
def G6 (l:List (Nat×Blk)) (s:Nat) (k:Blk->Option β):Option β :=
 List.rec (motive:=fun _=>Option β) none (fun p _ ih=>match p with | (j,b)=>cond (Nat.beq s j) (k b) ih) l
theorem HI {α:Type} (a b:Nat) (x y:α):cond (Nat.beq a b) x y=if a=b then x else y:=by
 cases h:Nat.beq a b with
 | true=>rw [if_pos (Nat.eq_of_beq_eq_true h)];rfl
 | false=>rw [if_neg (fun e=>by rw [e,show Nat.beq b b=true from Nat.beq_refl b] at h;cases h)];rfl
theorem BC (l:List (Nat×Blk)) (s:Nat) (k:Blk->Option β):G6 l s k=(Ao s l).bind k:=by
 induction l with
 | nil=>rfl
 | cons p l ih =>
  obtain ⟨j,b⟩:=p;rw [show G6 ((j,b)::l) s k=cond (Nat.beq s j) (k b) (G6 l s k) from rfl,HI,ih]
  simp only [Ao];split<;>rfl
def Dp (r:Ref) (h:Hp) (k:Blk->Option β):Option β:=match h with
 | ⟨own,ext⟩=>match r with
  | .own s=>G6 own s k
  | .ext j=>DS ext j k
theorem EI (r:Ref) (h:Hp) (k:Blk->Option β):Dp r h k=(h.get r).bind k:=by
 obtain ⟨own,ext⟩:=h;cases r with
 | own s=>exact BC ..
 | ext j=>exact De ..
def A4 (l:List (Nat×Blk)) (s:Nat) (b:Blk) (k:List (Nat×Blk)->Option β):Option β :=
 List.rec (motive:=fun _=>(List (Nat×Blk)->Option β)->Option β) (fun k=>k [(s,b)])
  (fun p t ih k=>match p with | (j,c)=>cond (Nat.beq s j) (k ((j,b)::t)) (ih fun l=>k ((j,c)::l))) l k
theorem BZ (l:List (Nat×Blk)) (s:Nat) (b:Blk) (k:List (Nat×Blk)->Option β):A4 l s b k=k (AP s b l):=by
 induction l generalizing k with
 | nil=>rfl
 | cons p l ih =>
  obtain ⟨j,c⟩:=p;rw [show A4 ((j,c)::l) s b k=cond (Nat.beq s j) (k ((j,b)::l)) (A4 l s b fun l=>k ((j,c)::l)) from rfl,HI,ih]
  simp only [AP];split<;>rfl
def Gg (r:Ref) (b:Blk) (h:Hp) (k:Hp->Option β):Option β:=match h with
 | ⟨own,ext⟩=>match r with
  | .own s=>A4 own s b fun own=>k ⟨own,ext⟩
  | .ext j=>Qw ext j b fun ext=>k ⟨own,ext⟩
theorem Lz (r:Ref) (b:Blk) (h:Hp) (k:Hp->Option β):Gg r b h k=k (h.set r b):=by
 obtain ⟨own,ext⟩:=h;cases r with
 | own s=>exact BZ ..
 | ext j=>exact AmF ..
def Px (x:IV) (e:Option β) (k:FV->Option β):Option β:=match x with
 | .fv v=>k v
 | _=>e
def AkI (v:FV) (e:Option β) (k:Nat->Option β):Option β:=match v with
 | .int .i64 (.ofNat n)=>k n
 | _=>e
def LJ (x:IV) (e:Option β) (k:Nat->Option β):Option β:=Px x e fun v=>AkI v e k
theorem F9 {x:IV} {e:Option β} {k:Nat->Option β} {r:β} (h:LJ x e k=some r):(∃n:Nat,x=.fv (.int .i64 n)/\k n=some r)\/e=some r:=by
 unfold LJ Px at h;split at h
 ·simp only [AkI] at h;split at h
  ·exact .inl ⟨_,rfl,h⟩
  ·exact .inr h
 ·exact .inr h
def NL (n:Nat) (k:IV->Option β):Option β:=Ek n fun n=>k (.fv (.int .i64 (.ofNat n)))
theorem Ef (n:Nat) (k:IV->Option β):NL n k=k (.fv (.int .i64 n)):=by rw [NL,BQ];rfl
def Ak9 (b:Bool) (k:IV->Option β):Option β:=cond b (k (.fv (.bool true))) (k (.fv (.bool false)))
theorem UV (b:Bool) (k:IV->Option β):Ak9 b k=k (.fv (.bool b)):=by cases b<;>rfl
def CF (o:Option IV) (k:IV->Option β):Option β:=match o with
 | none=>none
 | some v=>fS v k
theorem CR (o:Option IV) (k:IV->Option β):CF o k=o.bind k:=by
 cases o with
 | none=>rfl
 | some v=>exact Awk v k
def CD (l:List IV) (e:Option β) (k:List FV->Option β):Option β :=
 List.rec (motive:=fun _=>(List FV->Option β)->Option β) (fun k=>k []) (fun x _ ih k=>Px x e fun v=>ih fun vs=>k (v::vs)) l k
theorem Qc (l:List IV) (e:Option β) (k:List FV->Option β):CD l e k=match Gn l with | some vs=>k vs | none=>e:=by
 induction l generalizing k with
 | nil=>rfl
 | cons x l ih =>
  rw [show CD (x::l) e k=Px x e fun v=>CD l e fun vs=>k (v::vs) from rfl]
  cases x<;>simp only [Px,Gn];rw [ih];cases Gn l<;>rfl
def PC (l:List IV) (k:IV->Option β):Option β:=CD l (k (.agg l)) fun vs=>k (.fv (.agg vs))
theorem SH (l:List IV) (k:IV->Option β):PC l k=k (FQ l):=by
 rw [PC,Qc,FQ];cases Gn l<;>rfl
def Xc (l:List IV) (k:IV->Option β):Option β:=CD l (k (.tuple l)) fun vs=>k (.fv (.tuple vs))
theorem Acl (l:List IV) (k:IV->Option β):Xc l k=k (CE l):=by
 rw [Xc,Qc,CE];cases Gn l<;>rfl
def AqR (v:FV) (a b:Option β):Option β:=match v with
 | .bool t=>cond t a b
 | _=>none
def Ai (v:IV) (a b:Option β):Option β:=match v with
 | .fv v=>AqR v a b
 | _=>none
theorem Ut {v:IV} {a b:Option β} {r:β} (h:Ai v a b=some r):∃t:Bool,v=.fv (.bool t)/\(if t then a else b)=some r:=by
 unfold Ai at h;split at h
 ·unfold AqR at h;split at h
  ·rename_i t;refine ⟨t,rfl,?_⟩;cases t<;>exact h
  ·cases h
 ·cases h
def AF (c a b:IV) (k:IV->Option β):Option β:=Ai c (k a) (k b)
section
variable (E:Env) (t:TypeId)
def C5 (op:BinOp) (x y:IV) (k:IV->Option β):Option β:=CF (FY E op t x y) k
def BD (x y:IV) (k:IV->Option β):Option β :=
 LJ x (C5 E t .add x y k) fun a=>LJ y (C5 E t .add x y k) fun b=>cond (Nat.ble (a+b) 9223372036854775807) (NL (a+b) k) (C5 E t .add x y k)
def Bd (x y:IV) (k:IV->Option β):Option β :=
 LJ x (C5 E t .sub x y k) fun a=>LJ y (C5 E t .sub x y k) fun b=>cond (and (Nat.ble b a) (Nat.ble a 9223372036854775807)) (NL (a - b) k) (C5 E t .sub x y k)
def Ud (op:BinOp) (g:Nat->Nat->Bool) (x y:IV) (k:IV->Option β):Option β :=
 LJ x (C5 E t op x y k) fun a=>LJ y (C5 E t op x y k) fun b=>Ak9 (g a b) k
def AK (x y:IV) (k:IV->Option β):Option β:=Ud E t .eql Nat.beq x y k
def Ch (x y:IV) (k:IV->Option β):Option β:=Ud E t .neq (fun a b=>not (Nat.beq a b)) x y k
def Hu (x y:IV) (k:IV->Option β):Option β:=Ud E t .lss (fun a b=>Nat.ble (Nat.succ a) b) x y k
def leS (x y:IV) (k:IV->Option β):Option β:=Ud E t .leq Nat.ble x y k
def LU (x y:IV) (k:IV->Option β):Option β:=Ud E t .gtr (fun a b=>Nat.ble (Nat.succ b) a) x y k
def V4 (x y:IV) (k:IV->Option β):Option β:=Ud E t .geq (fun a b=>Nat.ble b a) x y k
def Ai7 (op:BinOp) (x y:IV) (k:IV->Option β):Option β:=match op with
 | .add=>BD E t x y k
 | .sub=>Bd E t x y k
 | .eql=>AK E t x y k
 | .neq=>Ch E t x y k
 | .lss=>Hu E t x y k
 | .leq=>leS E t x y k
 | .gtr=>LU E t x y k
 | .geq=>V4 E t x y k
 | op=>C5 E t op x y k
end
theorem Xs {n:Nat} (h:n<=9223372036854775807):IntKind.i64.wrap (n:Int)=n:=by
 have e:(n:Int) % (18446744073709551616:Int)=n:=by omega
 have e2:¬ (n:Int) ≥ (9223372036854775808:Int):=by omega
 show (if (true && decide (((n:Int) % (18446744073709551616:Int)) ≥ (9223372036854775808:Int)))=true then ((n:Int) % (18446744073709551616:Int)) - (18446744073709551616:Int) else ((n:Int) % (18446744073709551616:Int)))=n
 rw [e,decide_eq_false e2];rfl
def HN (v:FV) (k:List FV->Option β):Option β:=match v with
 | .agg cs=>k cs
 | _=>none
def asAgg (x:IV) (k:List IV->Option β) (kf:List FV->Option β):Option β:=match x with
 | .agg cs=>k cs
 | .fv v=>HN v kf
 | _=>none
def Aro (o:Nat) (x:IV) (k:IV->Option β):Option β:=asAgg x (fun cs=>DS cs o k) fun cs=>DS cs o fun v=>k (.fv v)
def As5 (size o:Nat) (x:IV) (k:IV->Option β):Option β :=
 asAgg x (fun cs=>FX cs o fun cs=>Gi cs size fun cs=>PC cs k) fun cs=>FX cs o fun cs=>Gi cs size fun cs=>k (.fv (.agg cs))
def En (b:Blk) (k:List IV->Option β):Option β:=match b with
 | .row cells _=>k cells
 | _=>none
def HP (b:Blk) (k:List IV->Option β):Option β:=match b with
 | .row cells ro=>cond ro none (k cells)
 | _=>none
def AwC (v:FV) (k:List FV->Nat->Option β):Option β:=match v with
 | .fp cs o=>k cs o
 | _=>none
def Ff (x:IV) (k:Ref->Nat->Option β) (kf:List FV->Nat->Option β):Option β:=match x with
 | .ptr r o=>k r o
 | .fv v=>AwC v kf
 | _=>none
def Ah (a:IV) (h:Hp) (k:IV->List Ref->Option β):Option β :=
 Ff a (fun r o=>Dp r h fun b=>En b fun cells=>DS cells o fun v=>k v [r]) fun cells o=>DS cells o fun v=>k (.fv v) []
def Ad (size:Nat) (a:IV) (h:Hp) (k:IV->List Ref->Option β):Option β :=
 Ff a (fun r o=>Dp r h fun b=>En b fun cells=>FX cells o fun cs=>Gi cs size fun cs=>PC cs fun v=>k v [r])
  fun cells o=>FX cells o fun cs=>Gi cs size fun cs=>k (.fv (.agg cs)) []
def spK {α:Type} (l:List α) (k:List α->Option β):Option β :=
 List.rec (motive:=fun _=>(List α->Option β)->Option β) (fun k=>k []) (fun x _ ih k=>ih fun xs=>k (x::xs)) l k
theorem It {α:Type} (l:List α) (k:List α->Option β):spK l k=k l:=by
 induction l generalizing k with
 | nil=>rfl
 | cons x l ih=>rw [show spK (x::l) k=spK l (fun xs=>k (x::xs)) from rfl,ih]
def Hn (l:List IV) (j:Nat) (b:IV) (k:List IV->Option β):Option β :=
 List.rec (motive:=fun _=>Nat->(List IV->Option β)->Option β) (fun _ _=>none) (fun x t ih j k=>Nat.rec (motive:=fun _=>Option β) (k (b::t)) (fun p _=>ih p fun xs=>k (x::xs)) j) l j k
theorem Aea (l:List IV) (j:Nat) (b:IV) (k:List IV->Option β):Hn l j b k=if j<l.length then k (l.set j b) else none:=by
 induction l generalizing j k with
 | nil=>rw [if_neg (by simp)];rfl
 | cons x l ih=>cases j with
  | zero=>rw [if_pos (by simp)];rfl
  | succ j=>rw [show Hn (x::l) (j+1) b k=Hn l j b (fun xs=>k (x::xs)) from rfl,ih];simp
theorem Md {v:IV} (h:v.one=true):v.cells=[v]/\v.alive=true:=by
 cases v with
 | fv w=>cases w<;>simp_all [IV.one,IV.cells,IV.alive]
 | _=>simp_all [IV.one,IV.cells,IV.alive]
def wrK (cs:List FV):List IV->(List IV->Option β)->Option β :=
 List.rec (motive:=fun _=>List IV->(List IV->Option β)->Option β) (fun l k=>k l) (fun c _ ih l k=>AD l fun _ t=>ih t fun t'=>k (.fv c::t')) cs
def Ep (l:List IV) (o:Nat) (cs:List FV) (k:List IV->Option β):Option β :=
 List.rec (motive:=fun _=>Nat->(List IV->Option β)->Option β) (fun o k=>Nat.rec (motive:=fun _=>Option β) (wrK cs [] k) (fun _ _=>none) o)
  (fun x t ih o k=>Nat.rec (motive:=fun _=>Option β) (wrK cs (x::t) k) (fun p _=>ih p fun t'=>k (x::t')) o) l o k
theorem G5 (x:IV):∀(vs l:List IV) (o:Nat),A7 (x::l) (o+1) vs=x::A7 l o vs
 | [],_,_=>rfl
 | v::vs,l,o=>by
  simp only [A7,List.set_cons_succ];exact G5 x vs (l.set o v) (o+1)
theorem Xr:∀(cs:List FV) (l:List IV) {k:List IV->Option β} {r:β},wrK cs l k=some r->cs.length<=l.length/\k (A7 l 0 (cs.map .fv))=some r
 | [],l,k,r,h=>⟨Nat.zero_le _,h⟩
 | c::cs,l,k,r,h=>by
  have h:(AD l fun _ t=>wrK cs t fun t'=>k (.fv c::t'))=some r:=h;cases l with
  | nil=>cases h
  | cons x t =>
   have h:(wrK cs t fun t'=>k (.fv c::t'))=some r:=h;obtain ⟨h1,h2⟩:=Xr cs t h;refine ⟨by simp;omega,?_⟩;simp only [AB5,A7,List.set_cons_zero,Nat.zero_add];rw [G5];exact h2
theorem NU:∀(l:List IV) (o:Nat) (cs:List FV) {k:List IV->Option β} {r:β},Ep l o cs k=some r->o+cs.length<=l.length/\k (A7 l o (cs.map .fv))=some r
 | [],0,cs,k,r,h=>by
  obtain ⟨h1,h2⟩:=Xr cs [] h;exact ⟨by simpa using h1,h2⟩
 | [],o+1,cs,k,r,h=>by cases h
 | x::t,0,cs,k,r,h=>by
  obtain ⟨h1,h2⟩:=Xr cs (x::t) h;exact ⟨by simpa using h1,h2⟩
 | x::t,o+1,cs,k,r,h=>by
  have h:(Ep t o cs fun t'=>k (x::t'))=some r:=h;obtain ⟨h1,h2⟩:=NU t o cs h;exact ⟨by simp;omega,by rw [G5];exact h2⟩
def H6 (v:FV):Bool:=match v with
 | .agg _=>false
 | .tuple _=>false
 | _=>true
def DA (l:List FV):Bool:=List.rec (motive:=fun _=>Bool) true (fun v _ ih=>cond (H6 v) ih false) l
theorem NX:∀(l:List FV),DA l=true->(l.map IV.fv).all IV.one=true
 | [],_=>rfl
 | v::l,h=>by
  have h:cond (H6 v) (DA l) false=true:=h;cases hv:H6 v with
  | false=>rw [hv] at h;cases h
  | true =>
   rw [hv] at h;simp only [AB5,List.all_cons,NX l h,Bool.and_true];cases v<;>first | rfl | cases hv
def Ae (size:Nat) (a x:IV) (h:Hp) (k:Hp->List Ref->List Ref->Option β):Option β :=
 Ff a (fun r o=>Dp r h fun b=>HP b fun cells=>Px x (if x.alive/\x.cells.length=size/\o+size<=cells.length/\x.cells.all IV.one/\FK r x then
  spK (A7 cells o x.cells) fun cells=>Gg r (.row cells false) h fun h=>k h [r] [r] else none) fun v=>HN v fun cs=>cond (and (Nat.beq cs.length size) (DA cs)) (Ep cells o cs fun cells=>Gg r (.row cells false) h fun h=>k h [r] [r]) none) fun _ _=>none
def Bp (a x:IV) (h:Hp) (k:Hp->List Ref->List Ref->Option β):Option β :=
 cond x.one (Ff a (fun r o=>Dp r h fun b=>HP b fun cells=>cond (FK r x) (Hn cells o x fun cells=>Gg r (.row cells false) h fun h=>k h [r] [r]) none) fun _ _=>none) (Ae 1 a x h k)
def ApG (fn:Fn) (k:FuncId->Option β):Option β:=match fn with
 | .func g=>k g
 | _=>none
def Aw2 (v:FV) (k:IV->Option β):Option β:=match v with
 | .fp cs o=>k (.fv (.fp cs o))
 | .func fn a b=>ApG fn fun g=>k (.fv (.func (.func g) a b))
 | _=>none
def AH (x:IV) (k:IV->Option β):Option β:=match x with
 | .ptr r o=>k (.ptr r o)
 | .fv v=>Aw2 v k
 | .func fn a b=>ApG fn fun g=>k (.func (.func g) a b)
 | _=>none
def Ac (o:Nat) (x:IV) (k:IV->Option β):Option β :=
 Ff x (fun r off=>Ek (off+o) fun o=>k (.ptr r o)) fun cs off=>Ek (off+o) fun o=>k (.fv (.fp cs o))
def Ard (n:Int) (k:Nat->Option β):Option β:=match n with
 | .ofNat m=>k m
 | _=>none
def Aq4 (v:FV) (k:Nat->Option β):Option β:=match v with
 | .int _ n=>Ard n k
 | _=>none
def AhM (i:IV) (k:Nat->Option β):Option β:=Px i none fun v=>Aq4 v k
theorem QZ {i:IV} {k:Nat->Option β} {r:β} (h:AhM i k=some r):∃kd,∃n:Nat,i=.fv (.int kd n)/\k n=some r:=by
 unfold AhM Px at h;split at h
 ·simp only [Aq4] at h;split at h
  ·simp only [Ard] at h;split at h
   ·exact ⟨_,_,rfl,h⟩
   ·cases h
  ·cases h
 ·cases h
def Ayw (v:FV) (k:List FV->Option β):Option β:=match v with
 | .sl es=>k es
 | _=>none
def AsR (x:IV) (k:List FV->Option β):Option β:=match x with
 | .nils=>k []
 | .emp=>k []
 | .clip es=>k es
 | .app _ es=>k es
 | .fv v=>Ayw v k
 | _=>none
theorem Aai (x:IV) (k:List FV->Option β):AsR x k=(Cj x).bind k:=by
 cases x with
 | fv v=>cases v<;>rfl
 | _=>rfl
def elK (size:Nat) (el:FV) (k:IV->Option β):Option β:=match el with
 | .agg cs=>cond (Nat.beq cs.length size) (k (.fv (.fp cs 0))) none
 | v=>cond (Nat.beq 1 size) (k (.fv (.fp [v] 0))) none
theorem Ai9 (size:Nat) (el:FV) (k:IV->Option β):elK size el k=if el.cells.length=size then k (.fv (.fp el.cells 0)) else none:=by
 cases el<;>simp only [elK,HI,FV.cells]<;>rfl
def Aae (x:IV) (k:Ref->Nat->Nat->Option β) (e:Option β):Option β:=match x with
 | .slc r sz len=>k r sz len
 | _=>e
def AN (size:Nat) (x i:IV) (k:IV->Option β):Option β :=
 AhM i fun n=>Aae x (fun r sz len=>cond (and (Nat.ble (Nat.succ n) len) (Nat.beq sz size)) (Ek (n * sz) fun o=>k (.ptr r o)) none) (AsR x fun es=>DS es n fun el=>elK size el k)
def ixA (m size:Nat) (x i:IV) (k:IV->Option β):Option β :=
 AhM i fun n=>cond (Nat.ble (Nat.succ n) m) (Ff x (fun r o=>Ek (o+n * size) fun o=>k (.ptr r o)) fun cells o=>Ek (o+n * size) fun o=>k (.fv (.fp cells o))) none
def AvH (m size:Nat) (x i:IV) (k:IV->Option β):Option β :=
 AhM i fun n=>cond (Nat.ble (Nat.succ n) m) (Px x none fun v=>HN v fun cs=>DS cs (n * size) fun v=>k (.fv v)) none
def AwI (v:FV) (k:List FV->Option β):Option β:=match v with
 | .tuple vs=>k vs
 | _=>none
def Aq (ix:Nat) (x:IV) (k:IV->Option β):Option β:=match x with
 | .tuple vs=>DS vs ix k
 | .fv v=>AwI v fun vs=>DS vs ix fun v=>k (.fv v)
 | _=>none
def B9 (x:IV) (k:IV->Option β):Option β:=Aae x (fun _ _ n=>NL n k) (AsR x fun es=>NL es.length k)
def AeW (z:List IV) (o sz:Nat) (v:IV) (k:List IV->Option β):Option β :=
 cond v.one (cond (Nat.beq sz 1) (Hn z o v k) none) (if v.alive/\v.cells.length=sz/\o+sz<=z.length then spK (A7 z o v.cells) k else none)
def HU (z:List IV) (o sz:Nat) (v:IV) (k:List IV->Option β):Option β :=
 Px v (AeW z o sz v k) fun w=>cond (H6 w) (cond (Nat.beq sz 1) (Hn z o v k) none) (HN w fun cs=>cond (Nat.beq cs.length sz) (Ep z o cs k) none)
def O5 (z:List IV) (pl:List (Nat×Nat×IV)) (k:List IV->Option β):Option β :=
 List.rec (motive:=fun _=>List IV->Option β) (fun z=>k z) (fun p _ ih z=>match p with
  | (o,sz,v)=>HU z o sz v ih) pl z
def By (z:List IV) (pl:List (Nat×Nat×IV)) (k:IV->Option β):Option β:=O5 z pl fun cells=>PC cells k
def L1 {α:Type} (place:Nat->Option (Nat×Nat)):List (Nat×α)->Option (List (Nat×Nat×α))
 | []=>some []
 | (i,x)::l=>match place i with
  | none=>none
  | some (o,s)=>match L1 place l with
   | none=>none
   | some r=>some ((o,s,x)::r)
def Aeq {α:Type} (g:α->IV):List (Nat×Nat×α)->List (Nat×Nat×IV)
 | []=>[]
 | (o,s,x)::l=>(o,s,g x)::Aeq g l
def C0 (l:List (Nat×Blk)) (s:Nat) (a:Option β):Option β :=
 List.rec (motive:=fun _=>Option β) a (fun p _ ih=>match p with | (j,_)=>cond (Nat.beq s j) none ih) l
theorem QH {l:List (Nat×Blk)} {s:Nat} {a:Option β} {r:β} (h:C0 l s a=some r):Ao s l=none/\a=some r:=by
 induction l with
 | nil=>exact ⟨rfl,h⟩
 | cons p l ih =>
  obtain ⟨j,b⟩:=p;have h:cond (Nat.beq s j) none (C0 l s a)=some r:=h;rw [HI] at h;split at h
  ·cases h
  ·rename_i hn;obtain ⟨h1,h2⟩:=ih h;exact ⟨by simp only [Ao,if_neg hn,h1],h2⟩
def GY (s:Nat) (b:Blk) (v:IV) (h:Hp) (k:IV->Hp->List Ref->List Ref->Option β):Option β:=match h with
 | ⟨own,ext⟩=>C0 own s (A4 own s b fun own=>k v ⟨own,ext⟩ [] [.own s])
def AW (s:Nat) (x:IV) (h:Hp) (k:IV->Hp->List Ref->List Ref->Option β):Option β :=
 cond x.one (GY s (.row [x] false) (.ptr (.own s) 0) h k) (cond x.alive (spK x.cells fun cs=>GY s (.row cs false) (.ptr (.own s) 0) h k) none)
def As8 (u:List (Ref×Blk)):Hp->(Hp->Option β)->Option β :=
 List.rec (motive:=fun _=>Hp->(Hp->Option β)->Option β) (fun h k=>k h) (fun p _ rec h k=>match p with
  | (r,b)=>fRf r fun r=>Dp r h fun _=>fBk b fun b=>Gg r b h fun h=>rec h k) u
theorem Ad8:∀(u:List (Ref×Blk)) (h:Hp) {k:Hp->Option β} {r:β},As8 u h k=some r->∃h',laid h u=some h'/\k h'=some r
 | [],h,k,r,e=>⟨h,rfl,e⟩
 | (q,b)::u,h,k,r,e=>by
  have e:(fRf q fun q=>Dp q h fun _=>fBk b fun b=>Gg q b h fun h=>As8 u h k)=some r:=e;rw [Pt,EI] at e;simp only [C1,Lz] at e;cases hg:h.get q with
  | none=>rw [hg] at e;cases e
  | some c =>
   rw [hg] at e;obtain ⟨h',h1,h2⟩:=Ad8 u (h.set q b) e;exact ⟨h',by simp only [laid,hg,h1],h2⟩
def J8 (o:Option Blk) (s:Nat) (h:Hp) (k:Hp->Option β):Option β:=match o with
 | none=>k h
 | some b=>match h with
  | ⟨own,ext⟩=>C0 own s (fBk b fun b=>A4 own s b fun own=>k ⟨own,ext⟩)
def Ay (m:Rd Made) (s:Nat) (h:Hp) (k:IV->Hp->List Ref->List Ref->Option β):Option β:=match m.runLog h [] with
 | none=>none
 | some (m,rd)=>As8 m.eff.upd h fun h=>J8 m.new s h fun h=>fV 3 m.eff.val fun v=>k v h rd (Bq m.eff.upd++Jp s m)
def Axa (v:FV) (e:Option β) (k:List FV->Option β):Option β:=match v with
 | .agg cs=>k cs
 | _=>e
def fzS (m:Rd Made) (s:Nat) (x:IV) (h:Hp) (k:IV->Hp->List Ref->List Ref->Option β):Option β :=
 Px x (Ay m s h k) fun v=>Axa v (Ay m s h k) fun cs=>cond (Nat.ble cs.length 2000) (k (.fv (.fp cs 0)) h [] []) (Ay m s h k)
def Wh (E:Env) (s d:TypeId) (x:IV) (k:IV->Option β):Option β :=
 LJ x (CF (KX E s d x) k) fun n=>cond (Nat.ble n 9223372036854775807) (NL n k) (CF (KX E s d x) k)
def AkU (v:FV) (want:Bool) (h:Hp) (m:(IV->Hp->List Ref->List Ref->Option β)->Option β) (k:IV->Hp->List Ref->List Ref->Option β):Option β:=match v with
 | .bool b=>cond (cond want b (not b)) (m k) (k FM h [] [])
 | .tuple l=>List.casesOn (motive:=fun _=>Option β) l (k FM h [] []) fun _ _=>none
 | _=>none
def Aa (v:IV) (want:Bool) (h:Hp) (m:(IV->Hp->List Ref->List Ref->Option β)->Option β) (k:IV->Hp->List Ref->List Ref->Option β):Option β:=Px v none fun v=>AkU v want h m k
def JU (split:Bool) (ih:Aj) (f:FuncId) (args:List IV) (ext:List Blk):Option (IV×Hp) :=
 if split then match args,ext with
  | [.fv (.sl [])],[]=>if CN (ih f [.nils] ⟨[],[]⟩) && CN (ih f [.emp] ⟨[],[]⟩) then some (.fv (.sl []),⟨[],[]⟩) else none
  | _,_=>ih f args ⟨[],ext⟩
 else ih f args ⟨[],ext⟩
def FE (keep:List Bool) (split raw:Bool) (ih:Aj) (f:FuncId) (args:List IV) (h:Hp) (k:IV->Hp->List Ref->List Ref->Option β):Option β :=
 match (Bn keep args).runLog h [] with
 | none=>none
 | some (
     (vs,rs,u),l1)=>match (B2 4096 rs []).runLog h l1 with
  | none=>none
  | some (
      l,l2)=>match IV.ren.renL (Dr l) vs with
   | none=>none
   | some vs' =>
          match A5 (Dr l) (l.map (·.2)) with
    | none=>none
    | some ext=>fL (fV 3) vs' fun vs'=>fL fBk ext fun ext=>match JU split ih f vs' ext with
     | none=>none
     | some (
         res,hp')=>match (if raw then some res else ((Dc 4096 res).run hp').map fun (v,_)=>.fv v) with
      | none=>none
      | some res=>match res.ren (Cw l) with
       | none=>none
       | some res=>match A5 (Cw l) hp'.ext with
        | none=>none
        | some ext'=>if ext'.length=l.length/\(Bq u).all (fun r=>!hasRef r l) then
          match laid h (u++(Bq l).zip ext') with
          | none=>none
          | some h'=>fH h' fun h'=>fV 3 res fun res=>k res h' l2 (Bq (u++(Bq l).zip ext'))
         else none
def Xk (r:Ref) (e:Option β) (k:Nat->Option β):Option β:=match r with
 | .own s=>k s
 | .ext _=>e
def PA {α:Type} (u us:List α) (k:List α->Option β):Option β :=
 List.rec (motive:=fun _=>(List α->Option β)->Option β) (fun k=>k us) (fun x _ ih k=>ih fun w=>k (x::w)) u k
theorem Xg {α:Type} (u us:List α) (k:List α->Option β):PA u us k=k (u++us):=by
 induction u generalizing k with
 | nil=>rfl
 | cons x u ih=>rw [show PA (x::u) us k=PA u us (fun w=>k (x::w)) from rfl,ih];rfl
abbrev FzK (β:Type):=IV->Hp->List Ref->Option β->(FV->List (Ref×Blk)->List Ref->Option β)->Option β
def Dq (g:FzK β) (l:List IV):Hp->List Ref->Option β->(List FV->List (Ref×Blk)->List Ref->Option β)->Option β :=
 List.rec (motive:=fun _=>Hp->List Ref->Option β->(List FV->List (Ref×Blk)->List Ref->Option β)->Option β) (fun _ lg _ k=>k [] [] lg)
  (fun x _ rec h lg e k=>g x h lg e fun y u lg=>rec h lg e fun ys us lg=>PA u us fun w=>k (y::ys) w lg) l
def elF (x:FV) (k:FV->Option β):Option β:=match x with
 | .agg l=>k (.agg [.agg l])
 | x=>k x
def elL (x:FV) (t:List FV) (k:FV->Option β):Option β:=match t with
 | []=>elF x k
 | y::t=>k (.agg (x::y::t))
def AhF (a:List FV) (k:FV->Option β):Option β:=match a with
 | []=>k (.agg [])
 | x::t=>elL x t k
theorem Apf (a:List FV) (k:FV->Option β):AhF a k=k (QX a):=by
 cases a with
 | nil=>rfl
 | cons x t=>cases t with
  | nil=>cases x<;>rfl
  | cons y t=>cases x<;>rfl
def chK (sz len:Nat) (cs:List FV) (k:List FV->Option β):Option β :=
 Nat.rec (motive:=fun _=>List FV->(List FV->Option β)->Option β) (fun _ k=>k []) (fun _ rec cs k=>Gi cs sz fun a=>FX cs sz fun b=>AhF a fun x=>rec b fun xs=>k (x::xs)) len cs k
theorem AmJ (sz:Nat):∀(len:Nat) (cs:List FV) {k:List FV->Option β} {r:β},chK sz len cs k=some r->k (BT sz len cs)=some r
 | 0,_,_,_,h=>h
 | len+1,cs,k,r,h=>by
  have h:(Gi cs sz fun a=>FX cs sz fun b=>AhF a fun x=>chK sz len b fun xs=>k (x::xs))=some r:=h;rw [Kp] at h;by_cases h1:sz<=cs.length
  ·rw [if_pos h1,KS,if_pos h1,Apf] at h;exact AmJ sz len _ h
  ·rw [if_neg h1] at h;cases h
def Fh (d:Nat):FzK β :=
 Nat.rec (motive:=fun _=>FzK β) (fun _ _ _ e _=>e) (fun _ g v h lg e k=>match v with
  | .fv v=>k v [] lg
  | .nils=>k (.sl []) [] lg
  | .emp=>k (.sl []) [] lg
  | .clip es=>k (.sl es) [] lg
  | .app _ es=>k (.sl es) [] lg
  | .ptr r off=>Xk r e fun s=>Dp (.own s) h fun b=>En b fun cells=>cond (Nat.ble cells.length 300) (Dq g cells h (.own s::lg) e fun cs u lg=>k (.fp cs off) ((.own s,.row cells true)::u) lg) e
  | .slc r sz len=>Xk r e fun s=>Dp (.own s) h fun b=>En b fun cells=>cond (Nat.ble cells.length 300) (cond (or (Nat.beq sz 0) (not (Nat.ble (len * sz) cells.length))) none
    (Dq g cells h (.own s::lg) e fun cs u lg=>chK sz len cs fun els=>k (.sl els) ((.own s,.row cells true)::u) lg)) e
  | .agg cs=>cond (Nat.ble cs.length 300) (Dq g cs h lg e fun cs u lg=>k (.agg cs) u lg) e
  | .func fn a b=>cond (and (Nat.ble a.length 300) (Nat.ble b.length 300)) (Dq g a h lg e fun x u lg=>Dq g b h lg e fun y v lg=>PA u v fun w=>k (.func fn x y) w lg) e
  | _=>e) d
def UA (args:List IV):List Bool->Hp->List Ref->Option β->(List IV->List Ref->List (Ref×Blk)->List Ref->Option β)->Option β :=
 List.rec (motive:=fun _=>List Bool->Hp->List Ref->Option β->(List IV->List Ref->List (Ref×Blk)->List Ref->Option β)->Option β) (fun _ _ lg _ k=>k [] [] [] lg)
  (fun x _ rec keep h lg e k=>match keep with
   | []=>Fh 12 x h lg e fun y u lg=>rec [] h lg e fun vs rs us lg=>PA u us fun w=>k (.fv y::vs) rs w lg
   | b::ks=>cond b (Ff x (fun r o=>rec ks h lg e fun vs rs us lg=>k (.ptr r o::vs) (r::rs) us lg) fun _ _=>e)
     (Fh 12 x h lg e fun y u lg=>rec ks h lg e fun vs rs us lg=>PA u us fun w=>k (.fv y::vs) rs w lg)) args
def Vf (v:IV):List Ref->List Ref :=
 IV.rec (motive_1:=fun _=>List Ref->List Ref) (motive_2:=fun _=>List Ref->List Ref) (fun acc=>acc) (fun _ acc=>acc) (fun r _ acc=>r::acc) (fun r _ _ acc=>r::acc) (fun acc=>acc) (fun acc=>acc) (fun _ acc=>acc)
  (fun r _ acc=>r::acc) (fun _ _ _ f g acc=>f (g acc)) (fun _ f acc=>f acc) (fun _ f acc=>f acc) (fun r acc=>r::acc) (fun acc=>acc) (fun _ _ f g acc=>f (g acc)) v
def CK (l:List IV):List Ref->List Ref :=
 IV.rec_1 (motive_1:=fun _=>List Ref->List Ref) (motive_2:=fun _=>List Ref->List Ref) (fun acc=>acc) (fun _ acc=>acc) (fun r _ acc=>r::acc) (fun r _ _ acc=>r::acc) (fun acc=>acc) (fun acc=>acc) (fun _ acc=>acc)
  (fun r _ acc=>r::acc) (fun _ _ _ f g acc=>f (g acc)) (fun _ f acc=>f acc) (fun _ f acc=>f acc) (fun r acc=>r::acc) (fun acc=>acc) (fun _ _ f g acc=>f (g acc)) l
def Fm (b:Blk):List Ref:=match b with
 | .row cells _=>CK cells []
 | .tok _ _=>[]
 | .map es=>List.rec (motive:=fun _=>List Ref) [] (fun p _ ih=>match p with | (_,v)=>Vf v ih) es
def goR (rec:List Ref->Nat->List Blk->Bool) (t:List Ref) (s:Nat) (rest:List Blk):Bool:=match rest with
 | []=>false
 | b::rest=>rec (t++Fm b) (Nat.succ s) rest
def Pw (n:Nat):List Ref->Nat->List Blk->Bool :=
 Nat.rec (motive:=fun _=>List Ref->Nat->List Blk->Bool) (fun _ _ _=>false) (fun _ rec todo s rest=>match todo with
  | []=>(match rest with
   | []=>true
   | _::_=>false)
  | r::t=>(match r with
   | .own _=>false
   | .ext j=>cond (Nat.ble (Nat.succ j) s) (rec t s rest) (cond (Nat.beq j s) (goR rec t s rest) false))) n
def okR (m:Nat) (rs:List Ref):Bool :=
 List.rec (motive:=fun _=>Bool) true (fun r _ rec=>match r with
  | .own _=>false
  | .ext j=>cond (Nat.ble (Nat.succ j) m) rec false) rs
def okB (m:Nat) (l:List Blk):Bool:=List.rec (motive:=fun _=>Bool) true (fun b _ rec=>cond (okR m (Fm b)) rec false) l
def Mt (u:List (Ref×Blk)):Hp->(Hp->Option β)->Option β :=
 List.rec (motive:=fun _=>Hp->(Hp->Option β)->Option β) (fun h k=>k h) (fun p _ rec h k=>match p with
  | (r,b)=>Xk r none fun s=>Dp (.own s) h fun _=>Gg (.own s) b h fun h=>rec h k) u
def CY (m:Nat):List Ref:=(List.range m).map .ext
def A0 (keep:List Bool) (split raw:Bool) (ih:Aj) (f:FuncId) (args:List IV) (h:Hp) (k:IV->Hp->List Ref->List Ref->Option β):Option β :=
 cond (
    cond split true raw) (FE keep split raw ih f args h k)
  (UA args keep h [] (FE keep split raw ih f args h k) fun vs rs u lg=>match rs with
   | []=>(match ih f vs ⟨[],[]⟩ with
    | none=>none
    | some p=>match p with
     | (v,h')=>match h' with
      | ⟨own,ext⟩=>List.casesOn (motive:=fun _=>Option β) ext (Fh 12 v ⟨own,[]⟩ [] (FE keep split raw ih f args h k) fun w _ _=>Mt u h fun h2=>k (.fv w) h2 lg (Bq u)) fun _ _=>none)
   | r::rs=>(match h with
    | ⟨own,ext⟩=>cond (Pw 400 (r::rs) 0 ext) (match ih f vs ⟨[],ext⟩ with
     | none=>none
     | some p=>match p with
      | (v,h')=>match h' with
       | ⟨own',ext'⟩=>cond (and (Nat.beq ext'.length ext.length) (okB ext.length ext'))
        (Fh 12 v ⟨own',ext'⟩ [] (FE keep split raw ih f args h k) fun w _ _=>Mt u ⟨own,ext'⟩ fun h2=>k (.fv w) h2 ((CY ext.length).reverse++lg) (Bq u++CY ext.length)) none)
     (FE keep split raw ih f args h k)))
def FN (E:Env) (ih:Aj) (g:IV) (args:List IV) (h:Hp) (k:IV->Hp->List Ref->List Ref->Option β):Option β:=match callee g with
 | none=>none
 | some (f,first,cap)=>cond (E.pol.inl f) none (spK (first++args++cap) fun args=>A0 (E.pol.keep f) (E.pol.split f) (E.pol.raw f) ih f args h k)
def AjO (ih:Aj) (f:FuncId) (args:List IV) (h:Hp) (k:IV->Hp->List Ref->List Ref->Option β):Option β:=match ih f args h with
 | none=>none
 | some p=>match p with
  | (v,h)=>k v h [] []
section
variable (E:Env)
def Ak (t:TypeId) (len:Nat) (parts:List (Nat×IV)):Rd Made:=match E.T t with
  | some ⟨_,_,.slice e,_⟩=>match E.T e with
   | some ei=>if ei.size=0\/len * ei.size > 65536 then .fail else
    match CG (fun j=>some (j * ei.size,ei.size)) (PF len ei.zero) parts with
    | some cells=>(frzL 65536 cells).bind fun (vs,u)=>.ret { eff:={ val:=.clip (BT ei.size len vs),upd:=u } }
    | none=>.fail
   | none=>.fail
  | _=>.fail
def Ns (t:TypeId) (parts:List (Nat×IV)):Rd Made:=match E.T t with
  | some ⟨_,_,.struct fs,z⟩=>Ho ((CG (Fb E fs) z parts).map FQ)
  | some ⟨_,_,.arr _ e,z⟩=>match E.T e with
   | some ei=>Ho ((CG (fun j=>some (j * ei.size,ei.size)) z parts).map FQ)
   | none=>.fail
  | _=>.fail
def K5 (fz:Bool) (s:Nat) (v:IV):Rd Made :=
  if v.alive=false then .fail else
  if fz then (frzL 4096 v.cells).bind fun (vs,u)=>.ret { eff:={ val:=.fv (.fp vs 0),upd:=u } }
  else .ret { eff:={ val:=.ptr (.own s) 0 },new:=some (.row v.cells false) }
def Hd (s:Nat):Rd Made:=.ret { eff:={ val:=.mapr (.own s) },new:=some (.map []) }
def Cc (t:TypeId) (m k v:IV):Rd Made:=match E.T t with
  | some ⟨_,_,.map kt _,_⟩=>match E.T kt,m,k with
   | some ⟨_,_,.int .i64,_⟩,.mapr r,.fv (.int .i64 n)=>.get r fun
    | .map es =>
     if v.alive/\FK r v then .ret { eff:={ val:=.dead,upd:=[(r,.map (CB n v es))] } } else .fail
    | _=>.fail
   | _,_,_=>.fail
  | _=>.fail
def Hr (t:TypeId) (m k:IV) (ok:Bool):Rd Made:=match E.T t with
  | some ⟨
      _,_,.map kt et,_⟩=>match E.T kt,E.T et,m,k with
   | some ⟨_,_,.int .i64,_⟩,some ei,.mapr r,.fv (.int .i64 n)=>.get r fun
    | .map es=>match Dh n es with
     | some v=>val (if ok then CE [v,.fv (.bool true)] else v)
     | none=>match R9 ei with
      | some z=>val (if ok then CE [z,.fv (.bool false)] else z)
      | none=>.fail
    | _=>.fail
   | _,_,_,_=>.fail
  | _=>.fail
def BW (s:Nat) (t:TypeId) (l c:IV):Rd Made:=match E.T t with
  | some ⟨_,_,.slice e,_⟩=>match E.T e,l,c with
   | some ei,.fv (.int .i64 a),.fv (.int .i64 b) =>
    if 0<=a/\a<=b/\b<=1048576/\ei.size≠0/\ei.bytes<=65536 then
     .ret { eff:={ val:=.slc (.own s) ei.size a.toNat },new:=some (.row (PF b.toNat ei.zero) false) }
    else .fail
   | _,_,_=>.fail
  | _=>.fail
def Aer (t:TypeId) (x ix:IV):Rd Made:=match E.T t,x,ix with
  | some ⟨_,_,.str,_⟩,.fv (.str s),.fv (.int _ n)=>if n<0 then .fail else match s[n.toNat]? with
   | some b=>val (.fv (.int .u8 b.toNat))
   | none=>.fail
  | some ⟨_,_,.arr m e,_⟩,.fv (.agg cs),.fv (.int _ n)=>match E.T e with
   | some ei=>if 0<=n/\n<(m:Int) then Ho ((Br ei.kind.isAgg ei.size (n.toNat * ei.size) cs).map .fv) else .fail
   | none=>.fail
  | _,_,_=>.fail
theorem Ald {ih:Aj} {f rid i:Nat} {ρ:Operand->IV} {t:TypeId} {x:Operand}:C3 E ih f rid i ρ (.box t x)=K5 (E.pol.fzBox f rid i) (Bk f rid i) (ρ x):=rfl
end
abbrev U0 {α:Type} (b:Bool) (x y:α):α:=Bool.rec (motive:=fun _=>α) y x b
theorem BI {α:Type} (b:Bool) (x y:α):U0 b x y=cond b x y:=by cases b<;>rfl
section
variable (E:Env) (ih:Aj)
def Ga:Op->Bool
 | .move _ | .assign _ | .pick .. | .nilCheck _ | .binOp .. | .unOp .. | .convert .. | .fieldAddr .. | .field .. | .extract ..=>true
 | .build t _=>match E.T t with
  | some ⟨_,_,.struct _,_⟩=>true
  | _=>false
 | .indexAddr t _ _=>match E.T t with
  | some ⟨_,_,.slice e,_⟩=>(match E.T e with | some _=>true | none=>false)
  | some ⟨_,_,.arr _ e,_⟩=>(match E.T e with | some _=>true | none=>false)
  | _=>false
 | .index t _ _=>match E.T t with
  | some ⟨_,_,.arr _ e,_⟩=>(match E.T e with | some ei=>!ei.kind.isAgg | none=>false)
  | _=>false
 | .call { callee:=.builtin .len,argTypes,args }=>match argTypes.toList,args.toList with
  | [t],[_]=>(match E.T t with | some ⟨_,_,.slice _,_⟩=>true | _=>false)
  | _,_=>false
 | _=>false
def V8 (f:FuncId) (rid i:Nat) (drawn:Bool) (ρ:Operand->IV) (cl:Callee) (args:List Operand) (ts:List TypeId) (h:Hp) (k:IV->Hp->List Ref->List Ref->Option β):Option β:=match cl with
 | .builtin b=>match b,ts,args with
  | .len,[t],[x]=>(match E.T t with
   | some ⟨_,_,.slice _,_⟩=>B9 (ρ x) fun v=>k v h [] []
   | _=>Ay (AO E (Bk f rid i) (E.pol.rowApp f rid i) b ts (args.map ρ)) (Bk f rid i) h k)
  | _,_,_=>Ay (AO E (Bk f rid i) (E.pol.rowApp f rid i) b ts (args.map ρ)) (Bk f rid i) h k
 | .value g=>match g with
  | .func g=>U0 (E.pol.inl g) (U0 drawn none (AjO ih g (args.map ρ) h k)) (A0 (E.pol.keep g) (E.pol.split g) (E.pol.raw g) ih g (args.map ρ) h k)
  | g=>FN E ih (ρ g) (args.map ρ) h k
 | _=>none
def JI (f:FuncId) (rid i:Nat) (drawn:Bool) (ρ:Operand->IV) (op:Op) (h:Hp) (k:IV->Hp->List Ref->List Ref->Option β):Option β:=match op with
 | .move x=>k (ρ x) h [] []
 | .assign x=>k (ρ x) h [] []
 | .pick c a b=>AF (ρ c) (ρ a) (ρ b) fun v=>k v h [] []
 | .alloc t=>match E.T t with
  | some ti=>GY (Bk f rid i) (.row ti.zero false) (.ptr (.own (Bk f rid i)) 0) h k
  | none=>none
 | .box _ x=>U0 (E.pol.fzBox f rid i) (fzS (K5 true (Bk f rid i) (ρ x)) (Bk f rid i) (ρ x) h k) (AW (Bk f rid i) (ρ x) h k)
 | .build t parts=>match E.T t with
  | some ⟨_,_,.struct fs,z⟩=>(match L1 (Fb E fs) parts.toList with
   | some l=>By z (Aeq ρ l) fun v=>k v h [] []
   | none=>none)
  | _=>Ay (Ns E t (parts.toList.map fun (j,x)=>(j,ρ x))) (Bk f rid i) h k
 | .buildSlice t len parts=>Ay (Ak E t len (parts.toList.map fun (j,x)=>(j,ρ x))) (Bk f rid i) h k
 | .makeFunc fn a b=>Ay (val (Dk fn (a.toList.map ρ) (b.toList.map ρ))) (Bk f rid i) h k
 | .makeMap _ n=>(match n with
  | none=>Ay (Hd (Bk f rid i)) (Bk f rid i) h k
  | some _=>none)
 | .insert t m j x=>Ay (Cc E t (ρ m) (ρ j) (ρ x)) (Bk f rid i) h k
 | .mapUpdate t m j x=>Ay (Cc E t (ρ m) (ρ j) (ρ x)) (Bk f rid i) h k
 | .lookup t m j ok=>Ay (Hr E t (ρ m) (ρ j) ok) (Bk f rid i) h k
 | .makeSlice t l c=>Ay (BW E (Bk f rid i) t (ρ l) (ρ c)) (Bk f rid i) h k
 | .slice t x lo hi mx=>Ay (WV E t (ρ x) (lo.map ρ) (hi.map ρ) (mx.map ρ)) (Bk f rid i) h k
 | .load t a=>match E.T t with
  | none=>none
  | some ti=>U0 ti.kind.isAgg (Ad ti.size (ρ a) h fun v rd=>k v h rd []) (Ah (ρ a) h fun v rd=>k v h rd [])
 | .store t a x=>match E.T t with
  | none=>none
  | some ti=>U0 (Nat.beq ti.size 1) (Bp (ρ a) (ρ x) h fun h rd wr=>k .dead h rd wr) (Ae ti.size (ρ a) (ρ x) h fun h rd wr=>k .dead h rd wr)
 | .nilCheck x=>AH (ρ x) fun v=>k v h [] []
 | .binOp op t x y _=>Ai7 E t op (ρ x) (ρ y) fun v=>k v h [] []
 | .unOp op _ x=>CF (Kg op (ρ x)) fun v=>k v h [] []
 | .convert s d x=>match E.T s,E.T d with
  | some _,some ⟨_,_,.int .i64,_⟩=>Wh E s d (ρ x) fun v=>k v h [] []
  | _,_=>CF (KX E s d (ρ x)) fun v=>k v h [] []
 | .fieldAddr s x fd=>match Ir E s fd with
  | some (o,ti)=>U0 (Nat.beq ti.size 0) none (Ac o (ρ x) fun v=>k v h [] [])
  | none=>none
 | .field s x fd=>match Ir E s fd with
  | some (o,ti)=>U0 ti.kind.isAgg (As5 ti.size o (ρ x) fun v=>k v h [] []) (Aro o (ρ x) fun v=>k v h [] [])
  | none=>none
 | .indexAddr t x ix=>match E.T t with
  | some ⟨_,_,.slice e,_⟩=>(match E.T e with
   | some ei=>AN ei.size (ρ x) (ρ ix) fun v=>k v h [] []
   | none=>none)
  | some ⟨_,_,.arr m e,_⟩=>(match E.T e with
   | some ei=>ixA m ei.size (ρ x) (ρ ix) fun v=>k v h [] []
   | none=>none)
  | _=>none
 | .index t x ix=>match E.T t with
  | some ⟨_,_,.arr m e,_⟩=>(match E.T e with
   | some ei=>U0 ei.kind.isAgg (Ay (Aer E t (ρ x) (ρ ix)) (Bk f rid i) h k) (AvH m ei.size (ρ x) (ρ ix) fun v=>k v h [] [])
   | none=>none)
  | _=>Ay (Aer E t (ρ x) (ρ ix)) (Bk f rid i) h k
 | .extract x ix=>Aq ix (ρ x) fun v=>k v h [] []
 | .call c=>match c with
  | { callee,args,argTypes }=>V8 E ih f rid i drawn ρ callee args.toList argTypes.toList h k
 | _=>none
end
end
end Idl
end Go.Proofs.Ytkfecngimlcfoaa
namespace Go.Proofs.Ytkfecngimlcfoaa
namespace Idl
section
variable {β:Type} {E:Env} {ih ih':Aj} {f rid i:Nat} {dr:Bool} {ρ:Operand->IV} {hp:Hp} {k:IV->Hp->List Ref->List Ref->Option β} {r:β}
def Ayk (E:Env) (ih:Aj) (f rid i:Nat) (ρ:Operand->IV) (op:Op) (hp:Hp) (v:IV) (hp':Hp) (rd wr:List Ref):Prop :=
 ∃m,(C3 E ih f rid i ρ op).runLog hp []=some (m,rd)/\AQ (Bk f rid i) hp m=some hp'/\m.eff.val=v/\wr=Bq m.eff.upd++Jp (Bk f rid i) m
def G8 (E:Env) (ih:Aj) (f rid i:Nat) (ρ:Operand->IV) (op:Op) (hp:Hp) (k:IV->Hp->List Ref->List Ref->Option β) (r:β):Prop :=
 ∃v hp' rd wr,Ayk E ih f rid i ρ op hp v hp' rd wr/\k v hp' rd wr=some r/\(Ga E op=true->rd=[]/\wr=[])
theorem A1 {op:Op} {v:IV} (e:C3 E ih f rid i ρ op=val v) (h:k v hp [] []=some r):G8 E ih f rid i ρ op hp k r :=
 ⟨v,hp,[],[],⟨{ eff:={ val:=v } },by rw [e];rfl,rfl,rfl,rfl⟩,h,fun _=>⟨rfl,rfl⟩⟩
theorem PW {op:Op} {o:Option IV} (e:C3 E ih f rid i ρ op=Ho o) (h:(o.bind fun v=>k v hp [] [])=some r):G8 E ih f rid i ρ op hp k r:=by
 cases o with
 | none=>cases h
 | some v=>exact A1 e h
theorem U5 {op:Op} {b:Blk} {v:IV} (hq:Ga E op=false) (e:C3 E ih f rid i ρ op=.ret { eff:={ val:=v },new:=some b })
  (h:GY (Bk f rid i) b v hp k=some r):G8 E ih f rid i ρ op hp k r:=by
 obtain ⟨own,ext⟩:=hp;have h:C0 own (Bk f rid i) (A4 own (Bk f rid i) b fun own=>k v ⟨own,ext⟩ [] [.own (Bk f rid i)])=some r:=h;obtain ⟨h1,h2⟩:=QH h;rw [BZ] at h2;refine ⟨v,⟨AP (Bk f rid i) b own,ext⟩,[],[.own (Bk f rid i)],⟨_,by rw [e];rfl,?_,rfl,rfl⟩,h2,fun q=>by rw [hq] at q;cases q⟩;simp only [AQ,laid,Option.bind_some,CH];rw [show (Hp.mk own ext).get (.own (Bk f rid i))=none from h1]
 rfl
theorem BO {op:Op} {m:Rd Made} (hq:Ga E op=false) (e:C3 E ih f rid i ρ op=m) (h:Ay m (Bk f rid i) hp k=some r):G8 E ih f rid i ρ op hp k r:=by
 unfold Ay at h;cases hm:m.runLog hp [] with
 | none=>rw [hm] at h;cases h
 | some p =>
  obtain ⟨m',rd⟩:=p;rw [hm] at h;simp only at h;obtain ⟨h1,l1,h⟩:=Ad8 _ _ h;have hh:∃h2,CH (Bk f rid i) m' h1=some h2/\k m'.eff.val h2 rd (Bq m'.eff.upd++Jp (Bk f rid i) m')=some r:=by
   unfold J8 at h;unfold CH;cases hn:m'.new with
   | none=>rw [hn] at h;simp only [Cy] at h;exact ⟨h1,rfl,h⟩
   | some b =>
    rw [hn] at h;obtain ⟨own,ext⟩:=h1;simp only [C1,BZ,Cy] at h;obtain ⟨f1,f2⟩:=QH h;refine ⟨⟨AP (Bk f rid i) b own,ext⟩,?_,f2⟩;simp only;rw [show (Hp.mk own ext).get (.own (Bk f rid i))=none from f1]
    rfl
  obtain ⟨h2,l2,h⟩:=hh;exact ⟨_,h2,rd,_,⟨m',by rw [e,hm],by simp only [AQ,l1,Option.bind_some,l2],rfl,rfl⟩,h,fun q=>by rw [hq] at q;cases q⟩
theorem N7 {x:IV} {e:Option β} {k:FV->Option β} (h:Px x e k=some r):(∃v,x=.fv v/\k v=some r)\/e=some r:=by
 unfold Px at h;split at h
 ·exact .inl ⟨_,rfl,h⟩
 ·exact .inr h
theorem Uu {x:IV} {k:List IV->Option β} {kf:List FV->Option β} (h:asAgg x k kf=some r):(∃cs,x=.agg cs/\k cs=some r)\/(∃cs,x=.fv (.agg cs)/\kf cs=some r):=by
 unfold asAgg at h;split at h
 ·exact .inl ⟨_,rfl,h⟩
 ·unfold HN at h;split at h
  ·exact .inr ⟨_,rfl,h⟩
  ·cases h
 ·cases h
theorem DC {x:IV} {k:Ref->Nat->Option β} {kf:List FV->Nat->Option β} (h:Ff x k kf=some r):(∃q o,x=.ptr q o/\k q o=some r)\/(∃cs o,x=.fv (.fp cs o)/\kf cs o=some r):=by
 unfold Ff at h;split at h
 ·exact .inl ⟨_,_,rfl,h⟩
 ·unfold AwC at h;split at h
  ·exact .inr ⟨_,_,rfl,h⟩
  ·cases h
 ·cases h
theorem Hk {b:Blk} {k:List IV->Option β} (h:En b k=some r):∃cells ro,b=.row cells ro/\k cells=some r:=by
 unfold En at h;split at h
 ·exact ⟨_,_,rfl,h⟩
 ·cases h
theorem PU {b:Blk} {k:List IV->Option β} (h:HP b k=some r):∃cells,b=.row cells false/\k cells=some r:=by
 unfold HP at h;split at h
 ·rename_i ro;cases ro with
  | true=>cases h
  | false=>exact ⟨_,rfl,h⟩
 ·cases h
theorem Vz {x:IV} {k:Ref->Nat->Nat->Option β} {e:Option β} (h:Aae x k e=some r):(∃q sz n,x=.slc q sz n/\k q sz n=some r)\/((∀q sz n,x≠.slc q sz n)/\e=some r):=by
 unfold Aae at h;split at h
 ·exact .inl ⟨_,_,_,rfl,h⟩
 ·rename_i hn;exact .inr ⟨hn,h⟩
theorem Bs {α:Type} {o:Option α} {k:α->Option β} (h:o.bind k=some r):∃a,o=some a/\k a=some r:=by
 cases o with
 | none=>cases h
 | some a=>exact ⟨a,rfl,h⟩
theorem Ee {c:Prop} [Decidable c] {a:Option β} (h:(if c then a else none)=some r):c/\a=some r:=by
 by_cases hc:c
 ·rw [if_pos hc] at h;exact ⟨hc,h⟩
 ·rw [if_neg hc] at h;cases h
theorem DF {c:Bool} {a:Option β} (h:cond c a none=some r):c=true/\a=some r:=by cases c;cases h;exact ⟨rfl,h⟩
theorem Eh {a b:Nat} (h:Nat.beq a b=true):a=b:=Nat.eq_of_beq_eq_true h
theorem Bo {a b:Nat} (h:Nat.ble a b=true):a<=b:=Nat.le_of_ble_eq_true h
theorem Fo {t:TypeId} {op:BinOp} {x y:IV} {k:IV->Option β} (h:C5 E t op x y k=some r):∃v,FY E op t x y=some v/\k v=some r:=by
 rw [C5,CR] at h;exact Bs h
theorem ApP {t:TypeId} {x y:IV} {k:IV->Option β} (h:BD E t x y k=some r):∃v,FY E .add t x y=some v/\k v=some r:=by
 unfold BD at h;rcases F9 h with ⟨a,rfl,g'⟩ | h
 ·replace h:=g';clear g';rcases F9 h with ⟨b,rfl,g'⟩ | h
  ·replace h:=g';clear g';cases hc:Nat.ble (a+b) 9223372036854775807 with
   | false=>rw [hc] at h;exact Fo h
   | true =>
    rw [hc] at h;simp only [cond,Ef] at h;refine ⟨_,?_,h⟩;have e:IntKind.i64.wrap ((a:Int)+(b:Int))=((a+b:Nat):Int):=by
     rw [<- Int.natCast_add];exact Xs (Bo hc)
    show some (IV.fv (.int .i64 (IntKind.i64.wrap ((a:Int)+(b:Int)))))=_
    rw [e]
  ·exact Fo h
 ·exact Fo h
theorem ApX {t:TypeId} {x y:IV} {k:IV->Option β} (h:Bd E t x y k=some r):∃v,FY E .sub t x y=some v/\k v=some r:=by
 unfold Bd at h;rcases F9 h with ⟨a,rfl,g'⟩ | h
 ·replace h:=g';clear g';rcases F9 h with ⟨b,rfl,g'⟩ | h
  ·replace h:=g';clear g';cases hc:(and (Nat.ble b a) (Nat.ble a 9223372036854775807)) with
   | false=>rw [hc] at h;exact Fo h
   | true =>
    rw [hc] at h;simp only [cond,Ef] at h;refine ⟨_,?_,h⟩;have hc:(Nat.ble b a && Nat.ble a 9223372036854775807)=true:=hc;simp only [Bool.and_eq_true] at hc;have h1:=Bo hc.1;have h2:=Bo hc.2;have e:IntKind.i64.wrap ((a:Int) - (b:Int))=((a - b:Nat):Int):=by
     rw [<- Int.natCast_sub h1];exact Xs (by omega)
    show some (IV.fv (.int .i64 (IntKind.i64.wrap ((a:Int) - (b:Int)))))=_
    rw [e]
  ·exact Fo h
 ·exact Fo h
theorem IC {t:TypeId} {op:BinOp} {g:Nat->Nat->Bool} (hg:∀a b:Nat,FY E op t (.fv (.int .i64 a)) (.fv (.int .i64 b))=some (.fv (.bool (g a b)))) {x y:IV} {k:IV->Option β}
  (h:Ud E t op g x y k=some r):∃v,FY E op t x y=some v/\k v=some r:=by
 unfold Ud at h;rcases F9 h with ⟨a,rfl,g'⟩ | h
 ·replace h:=g';clear g';rcases F9 h with ⟨b,rfl,g'⟩ | h
  ·replace h:=g';clear g';rw [UV] at h;exact ⟨_,hg a b,h⟩
  ·exact Fo h
 ·exact Fo h
theorem JE (a b:Nat):Nat.beq a b=decide (a=b):=by
 cases h:Nat.beq a b with
 | true=>rw [Eh h];simp
 | false =>
  have:a≠b:=fun e=>by rw [e,show Nat.beq b b=true from Nat.beq_refl b] at h;cases h
  simp [this]
theorem Bl (a b:Nat):Nat.ble a b=decide (a<=b):=by
 cases h:Nat.ble a b with
 | true=>have:=Bo h;simp [this]
 | false =>
  have:¬ a<=b:=fun e=>by rw [Nat.ble_eq_true_of_le e] at h;cases h
  simp [this]
theorem AhW {t:TypeId} {op:BinOp} {x y:IV} {k:IV->Option β} (h:Ai7 E t op x y k=some r):∃v,FY E op t x y=some v/\k v=some r:=by
 cases op with
 | add=>exact ApP h
 | sub=>exact ApX h
 | eql =>
  refine IC (fun a b=>?_) h
  show some (IV.fv (.bool ((a:Int) == (b:Int))))=_
  rw [JE];congr 3;exact decide_eq_decide.2 Int.ofNat_inj
 | neq =>
  refine IC (fun a b=>?_) h
  show some (IV.fv (.bool ((a:Int) != (b:Int))))=_
  rw [JE];congr 3
  show (!decide ((a:Int)=(b:Int)))=!decide (a=b)
  congr 1;exact decide_eq_decide.2 Int.ofNat_inj
 | lss =>
  refine IC (fun a b=>?_) h
  show some (IV.fv (.bool (decide ((a:Int)<(b:Int)))))=_
  rw [Bl];congr 3;exact decide_eq_decide.2 (by omega)
 | leq =>
  refine IC (fun a b=>?_) h
  show some (IV.fv (.bool (decide ((a:Int)<=(b:Int)))))=_
  rw [Bl];congr 3;exact decide_eq_decide.2 (by omega)
 | gtr =>
  refine IC (fun a b=>?_) h
  show some (IV.fv (.bool (decide ((a:Int) > (b:Int)))))=_
  rw [Bl];congr 3;exact decide_eq_decide.2 (by omega)
 | geq =>
  refine IC (fun a b=>?_) h
  show some (IV.fv (.bool (decide ((a:Int) ≥ (b:Int)))))=_
  rw [Bl];congr 3;exact decide_eq_decide.2 (by omega)
 | _=>exact Fo h
theorem Aiq {s d:TypeId} {x:IV} {si:TI} {a b:Nat} {z:List IV} (h1:E.T s=some si) (h2:E.T d=some ⟨a,b,.int .i64,z⟩) {k:IV->Option β} (h:Wh E s d x k=some r) :
  ∃v,KX E s d x=some v/\k v=some r:=by
 have hg:CF (KX E s d x) k=some r->∃v,KX E s d x=some v/\k v=some r:=fun h=>by rw [CR] at h;exact Bs h
 unfold Wh at h;rcases F9 h with ⟨n,rfl,g'⟩ | h
 ·replace h:=g';clear g';cases hc:Nat.ble n 9223372036854775807 with
  | false=>rw [hc] at h;exact hg h
  | true =>
   rw [hc] at h;simp only [cond,Ef] at h;refine ⟨_,?_,h⟩;simp only [KX,h1,h2];rw [Xs (Bo hc)]
 ·exact hg h
theorem At4 {t:TypeId} {a:Operand} (h:JI E ih' f rid i dr ρ (.load t a) hp k=some r):G8 E ih f rid i ρ (.load t a) hp k r:=by
 simp only [JI,BI] at h;cases ht:E.T t with
 | none=>rw [ht] at h;cases h
 | some ti =>
  rw [ht] at h;simp only at h;cases hag:ti.kind.isAgg with
  | true =>
   rw [hag] at h;simp only [cond,Ad] at h;rcases DC h with ⟨q,o,ha,h⟩ | ⟨cs,o,ha,h⟩
   ·rw [EI] at h;obtain ⟨b,hb,h⟩:=Bs h;obtain ⟨cells,ro,rfl,g'⟩:=Hk h;replace h:=g';clear g';rw [KS] at h;obtain ⟨h1,h⟩:=Ee h;rw [Kp] at h;obtain ⟨h2,h⟩:=Ee h;rw [SH] at h;refine ⟨_,hp,[q],[],⟨{ eff:={ val:=FQ ((cells.drop o).take ti.size) } },?_,rfl,rfl,rfl⟩,h,fun q=>by cases q⟩;simp only [C3,ht,ha,Rd.runLog,hb,Cl,hag,if_true];rw [if_pos (by simp at h2;omega)];rfl
   ·rw [KS] at h;obtain ⟨h1,h⟩:=Ee h;rw [Kp] at h;obtain ⟨h2,h⟩:=Ee h;refine ⟨_,hp,[],[],⟨{ eff:={ val:=.fv (.agg ((cs.drop o).take ti.size)) } },?_,rfl,rfl,rfl⟩,h,fun q=>by cases q⟩;simp only [C3,ht,ha,Br,hag,if_true];rw [if_pos (by simp at h2;omega)];rfl
  | false =>
   rw [hag] at h;simp only [cond,Ah] at h;rcases DC h with ⟨q,o,ha,h⟩ | ⟨cs,o,ha,h⟩
   ·rw [EI] at h;obtain ⟨b,hb,h⟩:=Bs h;obtain ⟨cells,ro,rfl,g'⟩:=Hk h;replace h:=g';clear g';rw [De] at h;obtain ⟨v,hv,h⟩:=Bs h;refine ⟨_,hp,[q],[],⟨{ eff:={ val:=v } },?_,rfl,rfl,rfl⟩,h,fun q=>by cases q⟩;simp only [C3,ht,ha,Rd.runLog,hb,Cl,hag,Bool.false_eq_true,if_false,hv];rfl
   ·rw [De] at h;obtain ⟨v,hv,h⟩:=Bs h;refine ⟨_,hp,[],[],⟨{ eff:={ val:=.fv v } },?_,rfl,rfl,rfl⟩,h,fun q=>by cases q⟩;simp only [C3,ht,ha,Br,hag,Bool.false_eq_true,if_false,hv];rfl
theorem Ag0 (cells:List IV) (o:Nat) (v:IV):A7 cells o [v]=cells.set o v:=rfl
theorem Ane {t:TypeId} {a x:Operand} (h:JI E ih' f rid i dr ρ (.store t a x) hp k=some r):G8 E ih f rid i ρ (.store t a x) hp k r:=by
 simp only [JI,BI] at h;cases ht:E.T t with
 | none=>rw [ht] at h;cases h
 | some ti =>
  rw [ht] at h;simp only at h;have key:∀q o cells,ρ a=.ptr q o->hp.get q=some (.row cells false) ->
    ((ρ x).alive=true/\(ρ x).cells.length=ti.size/\o+ti.size<=cells.length/\(ρ x).cells.all IV.one=true/\FK q (ρ x)=true) ->
    k .dead (hp.set q (.row (A7 cells o (ρ x).cells) false)) [q] [q]=some r->G8 E ih f rid i ρ (.store t a x) hp k r:=by
   intro q o cells ha hb hc h;refine ⟨_,_,[q],[q],⟨{ eff:={ val:=.dead,upd:=[(q,.row (A7 cells o (ρ x).cells) false)] } },?_,?_,rfl,rfl⟩,h,fun q=>by cases q⟩
   ·simp only [C3,ht,ha,Rd.runLog,hb];rw [if_pos hc];rfl
   ·simp only [AQ,laid,hb,Option.bind_some,CH]
  have gen:Ae ti.size (ρ a) (ρ x) hp (fun h rd wr=>k .dead h rd wr)=some r->G8 E ih f rid i ρ (.store t a x) hp k r:=by
   intro h;simp only [Ae] at h;rcases DC h with ⟨q,o,ha,h⟩ | ⟨cs,o,ha,h⟩
   ·rw [EI] at h;obtain ⟨b,hb,h⟩:=Bs h;obtain ⟨cells,rfl,g'⟩:=PU h;replace h:=g';clear g';rcases N7 h with ⟨v,hx,h⟩ | h
    ·simp only [HN] at h;split at h
     ·rename_i cs;obtain ⟨hc,h⟩:=DF h;have hc:(Nat.beq cs.length ti.size && DA cs)=true:=hc;simp only [Bool.and_eq_true] at hc;obtain ⟨h1,h⟩:=NU cells o cs h;rw [Lz] at h;have hl:=Eh hc.1;refine key q o cells ha hb ⟨by rw [hx];rfl,by rw [hx];simp [IV.cells,hl],by omega,by rw [hx];exact NX cs hc.2,by rw [hx];cases q<;>rfl⟩ ?_;rw [hx];exact h
     ·cases h
    ·obtain ⟨hc,h⟩:=Ee h;rw [It,Lz] at h;exact key q o cells ha hb hc h
   ·cases h
  cases hs:Nat.beq ti.size 1 with
  | true =>
   rw [hs] at h;have hs:=Eh hs;simp only [cond,Bp] at h;cases ho:(ρ x).one with
   | false =>
    rw [ho] at h;rw [<- hs] at h;exact gen h
   | true =>
    rw [ho] at h;simp only at h;rcases DC h with ⟨q,o,ha,h⟩ | ⟨cs,o,ha,h⟩
    ·rw [EI] at h;obtain ⟨b,hb,h⟩:=Bs h;obtain ⟨cells,rfl,g'⟩:=PU h;replace h:=g';clear g';cases hc:FK q (ρ x) with
     | false=>rw [hc] at h;cases h
     | true =>
      rw [hc] at h;simp only at h;rw [Aea] at h;obtain ⟨hlt,h⟩:=Ee h;rw [Lz] at h;obtain ⟨c1,c2⟩:=Md ho;refine key q o cells ha hb ⟨c2,by rw [c1,hs];rfl,by omega,by rw [c1];simp [ho],hc⟩ ?_;rw [c1,Ag0];exact h
    ·cases h
  | false =>
   rw [hs] at h;exact gen h
end
end Idl
end Go.Proofs.Ytkfecngimlcfoaa
set_option linter.unusedSimpArgs false
namespace Go.Proofs.Ytkfecngimlcfoaa
namespace Idl
section
variable {β:Type} {E:Env} {ih ih':Aj} {f rid i:Nat} {dr:Bool} {ρ:Operand->IV} {hp:Hp} {k:IV->Hp->List Ref->List Ref->Option β} {r:β}
theorem Qe {size o:Nat} {cs:List IV} {k:IV->Option β} (h:(FX cs o fun cs=>Gi cs size fun cs=>PC cs k)=some r) :
  Cl true size o cs=some (FQ ((cs.drop o).take size))/\k (FQ ((cs.drop o).take size))=some r:=by
 rw [KS] at h;obtain ⟨h1,h⟩:=Ee h;rw [Kp] at h;obtain ⟨h2,h⟩:=Ee h;rw [SH] at h;refine ⟨?_,h⟩;simp only [Cl,if_true];rw [if_pos (by simp at h2;omega)]
theorem ON {size o:Nat} {cs:List FV} {k:IV->Option β} (h:(FX cs o fun cs=>Gi cs size fun cs=>k (.fv (.agg cs)))=some r) :
  Br true size o cs=some (.agg ((cs.drop o).take size))/\k (.fv (.agg ((cs.drop o).take size)))=some r:=by
 rw [KS] at h;obtain ⟨h1,h⟩:=Ee h;rw [Kp] at h;obtain ⟨h2,h⟩:=Ee h;refine ⟨?_,h⟩;simp only [Br,if_true];rw [if_pos (by simp at h2;omega)]
theorem Apk {s:TypeId} {x:Operand} {fd:Nat} (h:JI E ih' f rid i dr ρ (.field s x fd) hp k=some r):G8 E ih f rid i ρ (.field s x fd) hp k r:=by
 simp only [JI,BI] at h;cases hf:Ir E s fd with
 | none=>rw [hf] at h;cases h
 | some p =>
  obtain ⟨o,ti⟩:=p;rw [hf] at h;simp only at h;cases hag:ti.kind.isAgg with
  | true =>
   rw [hag] at h;simp only [cond,As5] at h;rcases Uu h with ⟨cs,hx,h⟩ | ⟨cs,hx,h⟩
   ·obtain ⟨h1,h2⟩:=Qe (k:=fun v=>k v hp [] []) h;exact A1 (by simp only [C3,hf,hx,hag,h1];rfl) h2
   ·obtain ⟨h1,h2⟩:=ON (k:=fun v=>k v hp [] []) h;exact A1 (by simp only [C3,hf,hx,hag,h1];rfl) h2
  | false =>
   rw [hag] at h;simp only [cond,Aro] at h;rcases Uu h with ⟨cs,hx,h⟩ | ⟨cs,hx,h⟩
   ·rw [De] at h;obtain ⟨v,hv,h⟩:=Bs h;exact A1 (by simp only [C3,hf,hx,hag,Cl,Bool.false_eq_true,if_false,hv];rfl) h
   ·rw [De] at h;obtain ⟨v,hv,h⟩:=Bs h;exact A1 (by simp only [C3,hf,hx,hag,Br,Bool.false_eq_true,if_false,hv];rfl) h
theorem Vx {s:TypeId} {x:Operand} {fd:Nat} (h:JI E ih' f rid i dr ρ (.fieldAddr s x fd) hp k=some r):G8 E ih f rid i ρ (.fieldAddr s x fd) hp k r:=by
 simp only [JI,BI] at h;cases hf:Ir E s fd with
 | none=>rw [hf] at h;cases h
 | some p =>
  obtain ⟨o,ti⟩:=p;rw [hf] at h;simp only [HI] at h;by_cases hs:ti.size=0
  ·rw [if_pos hs] at h;cases h
  ·rw [if_neg hs] at h;unfold Ac at h;rcases DC h with ⟨q,off,hx,h⟩ | ⟨cs,off,hx,h⟩
   ·rw [BQ] at h;exact A1 (by simp only [C3,hf,hx,if_neg hs]) h
   ·rw [BQ] at h;exact A1 (by simp only [C3,hf,hx,if_neg hs]) h
theorem Av7 {x:Operand} (h:JI E ih' f rid i dr ρ (.nilCheck x) hp k=some r):G8 E ih f rid i ρ (.nilCheck x) hp k r:=by
 simp only [JI,BI] at h;unfold AH at h;split at h
 ·rename_i hx;exact A1 (by simp only [C3,hx]) h
 ·rename_i hx;unfold Aw2 at h;split at h
  ·exact A1 (by simp only [C3,hx]) h
  ·unfold ApG at h;split at h
   ·exact A1 (by simp only [C3,hx]) h
   ·cases h
  ·cases h
 ·rename_i hx;unfold ApG at h;split at h
  ·exact A1 (by simp only [C3,hx]) h
  ·cases h
 ·cases h
theorem Aie {x:Operand} {ix:Nat} (h:JI E ih' f rid i dr ρ (.extract x ix) hp k=some r):G8 E ih f rid i ρ (.extract x ix) hp k r:=by
 simp only [JI,BI] at h;unfold Aq at h;split at h
 ·rename_i hx;rw [De] at h;obtain ⟨v,hv,h⟩:=Bs h;exact A1 (by simp only [C3,hx,hv];rfl) h
 ·rename_i hx;simp only [AwI] at h;split at h
  ·rw [De] at h;obtain ⟨v,hv,h⟩:=Bs h;exact A1 (by simp only [C3,hx,hv];rfl) h
  ·cases h
 ·cases h
theorem AuE {c a b:Operand} (h:JI E ih' f rid i dr ρ (.pick c a b) hp k=some r):G8 E ih f rid i ρ (.pick c a b) hp k r:=by
 simp only [JI,AF] at h;obtain ⟨t,hc,h⟩:=Ut h;cases t with
 | true=>exact A1 (by simp only [C3,hc];rfl) h
 | false=>exact A1 (by simp only [C3,hc];rfl) h
theorem UP {t:TypeId} {x ix:Operand} (h:JI E ih' f rid i dr ρ (.indexAddr t x ix) hp k=some r):G8 E ih f rid i ρ (.indexAddr t x ix) hp k r:=by
 simp only [JI,BI] at h;split at h
 ·rename_i e z ht;split at h
  ·rename_i ei he;unfold AN at h;obtain ⟨kd,n,hi,h⟩:=QZ h;rcases Vz h with ⟨q,sz,len,hx,h⟩ | ⟨hx,h⟩
   ·obtain ⟨hc,h⟩:=DF h;have hc:(Nat.ble (Nat.succ n) len && Nat.beq sz ei.size)=true:=hc;simp only [Bool.and_eq_true] at hc;have h1:=Bo hc.1;have h2:=Eh hc.2;rw [BQ] at h;refine A1 ?_ h;simp only [C3,L6,ht,he,hi,hx];rw [if_pos ⟨by omega,by omega,h2⟩];rfl
   ·rw [Aai] at h;obtain ⟨es,he2,h⟩:=Bs h;rw [De] at h;obtain ⟨el,hel,h⟩:=Bs h;rw [Ai9] at h;obtain ⟨hl,h⟩:=Ee h;refine A1 ?_ h;simp only [C3,L6,ht,he,hi];cases hxx:ρ x with
    | slc q sz len=>exact absurd hxx (hx q sz len)
    | _ =>
     rw [hxx] at he2;simp only [he2];rw [if_neg (by omega)];simp only [Int.toNat_natCast,hel];rw [if_pos hl]
  ·cases h
 ·rename_i m e z ht;split at h
  ·rename_i ei he;unfold ixA at h;obtain ⟨kd,n,hi,h⟩:=QZ h;obtain ⟨hc,h⟩:=DF h;have hc:=Bo hc;have hlt:(0:Int)<=(n:Int)/\(n:Int)<(m:Int):=⟨by omega,by omega⟩;rcases DC h with ⟨q,o,hx,h⟩ | ⟨cs,o,hx,h⟩
   ·rw [BQ] at h;refine A1 ?_ h;simp only [C3,L6,ht,he,hi,hx];rw [if_pos hlt];rfl
   ·rw [BQ] at h;refine A1 ?_ h;simp only [C3,L6,ht,he,hi,hx];rw [if_pos hlt];rfl
  ·cases h
 ·cases h
theorem Apl {t:TypeId} {x ix:Operand} (h:JI E ih' f rid i dr ρ (.index t x ix) hp k=some r):G8 E ih f rid i ρ (.index t x ix) hp k r:=by
 simp only [JI,BI] at h;split at h
 ·rename_i m e z ht;split at h
  ·rename_i ei he;cases hag:ei.kind.isAgg with
   | true=>rw [hag] at h;exact BO (by simp only [Ga,ht,he,hag];rfl) rfl h
   | false =>
    rw [hag] at h;simp only [cond,AvH] at h;obtain ⟨kd,n,hi,h⟩:=QZ h;obtain ⟨hc,h⟩:=DF h;have hc:=Bo hc;rcases N7 h with ⟨v,hx,h⟩ | h
    ·simp only [HN] at h;split at h
     ·rw [De] at h;obtain ⟨w,hw,h⟩:=Bs h;refine A1 ?_ h;simp only [C3,ht,hi,hx,he];rw [if_pos ⟨by omega,by omega⟩];simp only [hag,Br,Bool.false_eq_true,if_false,Int.toNat_natCast,hw];rfl
     ·cases h
    ·cases h
  ·cases h
 ·rename_i hn;refine BO ?_ rfl h;simp only [Ga]
theorem Ami {z:List IV} {o sz:Nat} {v:IV} {k:List IV->Option β} (h:HU z o sz v k=some r):(v.alive=true/\v.cells.length=sz/\o+sz<=z.length)/\k (A7 z o v.cells)=some r:=by
 have one:v.one=true->(cond (Nat.beq sz 1) (Hn z o v k) none)=some r->(v.alive=true/\v.cells.length=sz/\o+sz<=z.length)/\k (A7 z o v.cells)=some r:=by
  intro ho h;obtain ⟨hs,h⟩:=DF h;have hs:=Eh hs;rw [Aea] at h;obtain ⟨hlt,h⟩:=Ee h;obtain ⟨c1,c2⟩:=Md ho;refine ⟨⟨c2,by rw [c1,hs];rfl,by omega⟩,?_⟩;rw [c1,Ag0];exact h
 unfold HU at h;rcases N7 h with ⟨w,rfl,g'⟩ | h
 ·replace h:=g';clear g';cases ho:H6 w with
  | true =>
   rw [ho] at h;exact one (by cases w<;>first | rfl | cases ho) h
  | false =>
   rw [ho] at h;simp only [cond,HN] at h;split at h
   ·rename_i cs;cases hc:Nat.beq cs.length sz with
    | false=>rw [hc] at h;cases h
    | true =>
     rw [hc] at h;have hc:=Eh hc;obtain ⟨h1,h⟩:=NU z o cs h;exact ⟨⟨rfl,by simp [IV.cells,hc],by omega⟩,h⟩
   ·cases h
 ·unfold AeW at h;cases ho:v.one with
  | true=>rw [ho] at h;exact one ho h
  | false =>
   rw [ho] at h;simp only [cond] at h;obtain ⟨hc,h⟩:=Ee h;rw [It] at h;exact ⟨hc,h⟩
theorem VK:∀(pl:List (Nat×Operand)) (place:Nat->Option (Nat×Nat)) (l:List (Nat×Nat×Operand)) (z:List IV) {k:List IV->Option β},L1 place pl=some l->O5 z (Aeq ρ l) k=some r ->
  ∃cells,CG place z (pl.map fun (j,x)=>(j,ρ x))=some cells/\k cells=some r
 | [],place,l,z,k,hp,h=>by
  simp only [L1,ABZ] at hp;subst hp;exact ⟨z,rfl,h⟩
 | (j,x)::pl,place,l,z,k,hp,h=>by
  simp only [L1] at hp;cases hj:place j with
  | none=>rw [hj] at hp;cases hp
  | some os =>
   obtain ⟨o,s⟩:=os;rw [hj] at hp;simp only at hp;cases hpl:L1 place pl with
   | none=>rw [hpl] at hp;cases hp
   | some l' =>
    rw [hpl] at hp;simp only [ABZ] at hp;subst hp;have h:(HU z o s (ρ x) fun z=>O5 z (Aeq ρ l') k)=some r:=h;simp only [AB5,CG,hj];obtain ⟨hc,h⟩:=Ami h;rw [if_pos hc];exact VK pl place l' _ hpl h
theorem AnV {t:TypeId} {parts:Array (Nat×Operand)} (h:JI E ih' f rid i dr ρ (.build t parts) hp k=some r):G8 E ih f rid i ρ (.build t parts) hp k r:=by
 simp only [JI,BI] at h;split at h
 ·rename_i fs z ht;split at h
  ·rename_i l hl;unfold By at h;obtain ⟨cells,h1,h2⟩:=VK _ _ _ _ hl h;rw [SH] at h2;refine A1 ?_ h2;simp only [C3,ht,h1];rfl
  ·cases h
 ·rename_i hn;refine BO ?_ rfl h;simp only [Ga]
theorem AvN {t:TypeId} {x:Operand} (h:JI E ih' f rid i dr ρ (.box t x) hp k=some r):G8 E ih f rid i ρ (.box t x) hp k r:=by
 simp only [JI,BI] at h;have hg:E.pol.fzBox f rid i=true->C3 E ih f rid i ρ (.box t x)=K5 true (Bk f rid i) (ρ x):=fun e=>by rw [Ald,e]
 cases hz:E.pol.fzBox f rid i with
 | true =>
  rw [hz] at h;simp only [cond,fzS] at h;rcases N7 h with ⟨v,hx,h⟩ | h
  ·simp only [Axa] at h;split at h
   ·rename_i cs;cases hc:Nat.ble cs.length 2000 with
    | false=>rw [hc] at h;exact BO rfl (hg hz) h
    | true =>
     rw [hc] at h;have hc:=Bo hc;have key:∀(n:Nat) (cs:List FV),cs.length<n->frzL n (cs.map .fv)=.ret (cs,[]):=by
      intro n
      induction n with
      | zero=>intro cs h;omega
      | succ n ih =>
       intro cs h;cases cs with
       | nil=>rfl
       | cons c cs =>
        cases n with
        | zero=>simp at h
        | succ n =>
         simp only [AB5,frzL,Dc,Rd.bind];rw [ih cs (by simp at h ⊢;omega)];rfl
     refine ⟨_,hp,[],[],⟨{ eff:={ val:=.fv (.fp cs 0),upd:=[] } },?_,rfl,rfl,rfl⟩,h,fun q=>by cases q⟩;simp only [C3,hx,IV.alive,Bool.true_eq_false,if_false,hz,if_true,IV.cells,key 4096 cs (by omega)];rfl
   ·exact BO rfl (hg hz) h
  ·exact BO rfl (hg hz) h
 | false =>
  rw [hz] at h;simp only [cond,AW] at h;have key:∀cs,(ρ x).cells=cs->(ρ x).alive=true->GY (Bk f rid i) (.row cs false) (.ptr (.own (Bk f rid i)) 0) hp k=some r->G8 E ih f rid i ρ (.box t x) hp k r:=by
   intro cs hcs ha h;refine U5 rfl ?_ h;simp only [C3,ha,Bool.true_eq_false,if_false,hz,Bool.false_eq_true,hcs]
  cases ho:(ρ x).one with
  | true =>
   rw [ho] at h;obtain ⟨c1,c2⟩:=Md ho;exact key _ c1 c2 h
  | false =>
   rw [ho] at h;simp only at h;obtain ⟨ha,h⟩:=DF h;rw [It] at h;exact key _ rfl ha h
theorem AhV {s d:TypeId} {x:Operand} (h:JI E ih' f rid i dr ρ (.convert s d x) hp k=some r):G8 E ih f rid i ρ (.convert s d x) hp k r:=by
 simp only [JI,BI] at h;split at h
 ·rename_i hs hd;obtain ⟨v,h1,h2⟩:=Aiq hs hd h;exact A1 (by simp only [C3,h1];rfl) h2
 ·rw [CR] at h;exact PW rfl h
def Iso (E:Env) (ih:Aj) (g:FuncId) (args:List IV) (hp:Hp) (k:IV->Hp->List Ref->List Ref->Option β) (r:β):Prop :=
 ∃e rd hp',(HG E ih g args).runLog hp []=some (e,rd)/\laid hp e.upd=some hp'/\k e.val hp' rd (Bq e.upd)=some r
theorem K4 (hi:∀f args h x,ih' f args h=some x->ih f args h=some x) {g:FuncId} {args:List IV} (h:FE (E.pol.keep g) (E.pol.split g) (E.pol.raw g) ih' g args hp k=some r):Iso E ih g args hp k r:=by
 have hasked:∀args ext x,JU (E.pol.split g) ih' g args ext=some x->asked E ih g args ext=some x:=by
  intro args ext x e;unfold JU at e;unfold asked;split at e
  ·rename_i hs;rw [if_pos hs];split at e
   ·split at e
    ·rename_i hc;simp only [Bool.and_eq_true] at hc;have mono:∀{o o':Option (IV×Hp)},(∀x,o=some x->o'=some x)->CN o=true->CN o'=true:=by
      intro o o' hm h;cases o with
      | none=>cases h
      | some x=>rw [hm x rfl];exact h
     rw [if_pos (by rw [mono (hi _ _ _) hc.1,mono (hi _ _ _) hc.2];rfl)];exact e
    ·cases e
   ·rename_i hne
    have:=hi _ _ _ _ e
    split
    ·exact absurd rfl (fun e=>hne rfl e)
    ·exact this
  ·rename_i hs;rw [if_neg hs];exact hi _ _ _ _ e
 unfold FE at h;split at h
 ·cases h
 rename_i vs rs u l1 h1;split at h
 ·cases h
 rename_i l l2 h2;split at h
 ·cases h
 rename_i vs' h3;split at h
 ·cases h
 rename_i ext h4;simp only [DG (Cy 3),DG C1] at h;split at h
 ·cases h
 rename_i res hp' h5;split at h
 ·cases h
 rename_i res1 h6;split at h
 ·cases h
 rename_i res2 h7;split at h
 ·cases h
 rename_i ext' h8;obtain ⟨hc,h⟩:=Ee h;split at h
 ·cases h
 rename_i hp2 h9;simp only [MG,Cy] at h;refine ⟨{ val:=res2,upd:=u++(Bq l).zip ext' },l2,hp2,?_,h9,h⟩;simp only [HG,Bu,h1,h2,Option.bind_some,h3,h4,hasked _ _ _ h5];rw [show Ia E g res hp'=some res1 from h6]
 simp only [Option.bind_some,h7,h8];rw [if_pos hc];rfl
def Ash (M:Nat) (g:FzK β):Prop:=∀v h lg e k r,g v h lg e k=some r->e=some r\/∃x u lg',(∀N,M<=N->(Dc N v).runLog h lg=some ((x,u),lg'))/\(∀p∈u,∃s,p.1=Ref.own s)/\k x u lg'=some r
theorem Jc {M:Nat} {g:FzK β} (hg:Ash M g):∀(l:List IV) h lg e k r,Dq g l h lg e k=some r ->
  e=some r\/∃xs us lg',(∀N,M+l.length+1<=N->(frzL N l).runLog h lg=some ((xs,us),lg'))/\(∀p∈us,∃s,p.1=Ref.own s)/\k xs us lg'=some r
 | [],h,lg,e,k,r,hh=>.inr ⟨[],[],lg,fun N hN=>(by cases N with | zero=>simp at hN | succ N=>rfl),fun p hp=>(by cases hp),hh⟩
 | v::l,h,lg,e,k,r,hh=>by
  have hh:(g v h lg e fun y u lg=>Dq g l h lg e fun ys us lg=>PA u us fun w=>k (y::ys) w lg)=some r:=hh;rcases hg _ _ _ _ _ _ hh with h1 | ⟨x,u,lg1,h1,hu,hh⟩
  ·exact .inl h1
  ·rcases Jc hg l _ _ _ _ _ hh with h2 | ⟨xs,us,lg2,h2,hus,hh⟩
   ·exact .inl h2
   ·rw [Xg] at hh;refine .inr ⟨x::xs,u++us,lg2,fun N hN=>?_,fun p hp=>?_,hh⟩
    ·cases N with
     | zero=>simp at hN
     | succ N =>
      simp only [AB3] at hN;simp only [frzL,Bu,h1 N (by omega),Option.bind_some,h2 N (by omega)];rfl
    ·rcases List.mem_append.1 hp with hp | hp
     ·exact hu p hp
     ·exact hus p hp
theorem OZ:∀d,Ash (β:=β) (310 * d) (Fh d)
 | 0=>fun v h lg e k r hh=>.inl hh
 | d+1=>by
  intro v h lg e k r hh;have ihd:Ash (β:=β) (310 * d) (Fh d):=OZ d;have one:∀{w:FV},(∀N,Dc (N+1) v=.ret (w,[]))->k w [] lg=some r->e=some r\/∃x u lg',(∀N,310 * (d+1)<=N->(Dc N v).runLog h lg=some ((x,u),lg'))/\(∀p∈u,∃s,p.1=Ref.own s)/\k x u lg'=some r:=by
   intro w hw hk;refine .inr ⟨w,[],lg,fun N hN=>?_,fun p hp=>(by cases hp),hk⟩;cases N with
   | zero=>omega
   | succ N=>rw [hw];rfl
  have own:∀{q:Ref} {e:Option β} {k:Nat->Option β},Xk q e k=some r->e=some r\/∃s,q=.own s/\k s=some r:=by
   intro q e k h;cases q with
   | own s=>exact .inr ⟨s,rfl,h⟩
   | ext j=>exact .inl h
  have cnd2:∀{c:Bool} {a e:Option β},cond c a e=some r->e=some r\/(c=true/\a=some r):=by
   intro c a e h;cases c with
   | true=>exact .inr ⟨rfl,h⟩
   | false=>exact .inl h
  cases v with
  | fv w=>exact one (fun _=>rfl) hh
  | nils=>exact one (fun _=>rfl) hh
  | emp=>exact one (fun _=>rfl) hh
  | clip es=>exact one (fun _=>rfl) hh
  | app q es=>exact one (fun _=>rfl) hh
  | dead=>exact .inl hh
  | tuple vs=>exact .inl hh
  | mapr q=>exact .inl hh
  | ptr q off =>
   have hh:(Xk q e fun s=>Dp (.own s) h fun b=>En b fun cells=>cond (Nat.ble cells.length 300) (Dq (Fh d) cells h (.own s::lg) e fun cs u lg=>k (.fp cs off) ((.own s,.row cells true)::u) lg) e)=some r:=hh;rcases own hh with h1 | ⟨s,rfl,g'⟩
   ·exact .inl h1
   ·replace hh:=g';clear g';rw [EI] at hh;obtain ⟨b,hb,hh⟩:=Bs hh;obtain ⟨cells,ro,hbb,hh⟩:=Hk hh;rcases cnd2 hh with h1 | ⟨hl,hh⟩
    ·exact .inl h1
    ·have hl:=Bo hl;rcases Jc ihd cells _ _ _ _ _ hh with h1 | ⟨xs,us,lg2,h2,hus,hh⟩
     ·exact .inl h1
     ·refine .inr ⟨_,_,_,fun N hN=>?_,fun p hp=>?_,hh⟩
      ·cases N with
       | zero=>omega
       | succ N =>
        simp only [Dc,Rd.runLog,hb,hbb,Bu,h2 N (by omega),Option.bind_some]
      ·rcases List.mem_cons.1 hp with rfl | hp
       ·exact ⟨s,rfl⟩
       ·exact hus p hp
  | slc q sz len =>
   have hh:(Xk q e fun s=>Dp (.own s) h fun b=>En b fun cells=>cond (Nat.ble cells.length 300) (cond (or (Nat.beq sz 0) (not (Nat.ble (len * sz) cells.length))) none
    (Dq (Fh d) cells h (.own s::lg) e fun cs u lg=>chK sz len cs fun els=>k (.sl els) ((.own s,.row cells true)::u) lg)) e)=some r:=hh
   rcases own hh with h1 | ⟨s,rfl,g'⟩
   ·exact .inl h1
   ·replace hh:=g';clear g';rw [EI] at hh;obtain ⟨b,hb,hh⟩:=Bs hh;obtain ⟨cells,ro,hbb,hh⟩:=Hk hh;rcases cnd2 hh with h1 | ⟨hl,hh⟩
    ·exact .inl h1
    ·have hl:=Bo hl;cases hc:(or (Nat.beq sz 0) (not (Nat.ble (len * sz) cells.length))) with
     | true=>rw [hc] at hh;cases hh
     | false =>
      rw [hc] at hh;simp only [cond] at hh;have hc:(Nat.beq sz 0 || !Nat.ble (len * sz) cells.length)=false:=hc;simp only [Bool.or_eq_false_iff,Bool.not_eq_false'] at hc;have c1:sz≠0:=fun e=>by rw [e] at hc;exact absurd hc.1 (by decide)
      have c2:=Bo hc.2;rcases Jc ihd cells _ _ _ _ _ hh with h1 | ⟨xs,us,lg2,h2,hus,hh⟩
      ·exact .inl h1
      ·have hh:=AmJ sz len _ hh;refine .inr ⟨_,_,_,fun N hN=>?_,fun p hp=>?_,hh⟩
       ·cases N with
        | zero=>omega
        | succ N =>
         simp only [Dc,Rd.runLog,hb,hbb];rw [if_neg (by omega)];simp only [Bu,h2 N (by omega),Option.bind_some,Rd.runLog]
       ·rcases List.mem_cons.1 hp with rfl | hp
        ·exact ⟨s,rfl⟩
        ·exact hus p hp
  | agg cs =>
   have hh:cond (Nat.ble cs.length 300) (Dq (Fh d) cs h lg e fun cs u lg=>k (.agg cs) u lg) e=some r:=hh;rcases cnd2 hh with h1 | ⟨hl,hh⟩
   ·exact .inl h1
   ·have hl:=Bo hl;rcases Jc ihd cs _ _ _ _ _ hh with h1 | ⟨xs,us,lg2,h2,hus,hh⟩
    ·exact .inl h1
    ·refine .inr ⟨_,_,_,fun N hN=>?_,hus,hh⟩;cases N with
     | zero=>omega
     | succ N=>simp only [Dc,Bu,h2 N (by omega),Option.bind_some,Rd.runLog]
  | func fn a b =>
   have hh:cond (and (Nat.ble a.length 300) (Nat.ble b.length 300)) (Dq (Fh d) a h lg e fun x u lg=>Dq (Fh d) b h lg e fun y v lg=>PA u v fun w=>k (.func fn x y) w lg) e=some r:=hh;rcases cnd2 hh with h1 | ⟨hl,hh⟩
   ·exact .inl h1
   ·have hl:(Nat.ble a.length 300 && Nat.ble b.length 300)=true:=hl;simp only [Bool.and_eq_true] at hl;have l1:=Bo hl.1;have l2:=Bo hl.2;rcases Jc ihd a _ _ _ _ _ hh with h1 | ⟨xs,us,lg2,h2,hus,hh⟩
    ·exact .inl h1
    ·rcases Jc ihd b _ _ _ _ _ hh with h1 | ⟨ys,vs,lg3,h3,hvs,hh⟩
     ·exact .inl h1
     ·rw [Xg] at hh;refine .inr ⟨_,_,_,fun N hN=>?_,fun p hp=>?_,hh⟩
      ·cases N with
       | zero=>omega
       | succ N=>simp only [Dc,Bu,h2 N (by omega),h3 N (by omega),Option.bind_some,Rd.runLog]
      ·rcases List.mem_append.1 hp with hp | hp
       ·exact hus p hp
       ·exact hvs p hp
def L0 (m:Nat) (l:List Ref):Prop:=∀r∈l,∃j,r=.ext j/\j<m
theorem Xl:∀(args:List IV) (keep:List Bool) h lg e k r,UA (β:=β) args keep h lg e k=some r ->
  e=some r\/∃vs rs us lg',(Bn keep args).runLog h lg=some ((vs,rs,us),lg')/\(∀p∈us,∃s,p.1=Ref.own s)/\(IV.refs.refsL vs=rs)/\k vs rs us lg'=some r
 | [],keep,h,lg,e,k,r,hh=>.inr ⟨[],[],[],lg,by cases keep<;>rfl,fun p hp=>(by cases hp),rfl,hh⟩
 | x::l,keep,h,lg,e,k,r,hh=>by
  have fz:∀ks,(Fh 12 x h lg e fun y u lg=>UA l ks h lg e fun vs rs us lg=>PA u us fun w=>k (.fv y::vs) rs w lg)=some r ->
    e=some r\/∃vs rs us lg',((Dc 4096 x).bind fun (x,u)=>(Bn ks l).bind fun (vs,rs,u')=>Rd.ret (IV.fv x::vs,rs,u++u')).runLog h lg=some ((vs,rs,us),lg')/\(∀p∈us,∃s,p.1=Ref.own s)/\(IV.refs.refsL vs=rs)/\k vs rs us lg'=some r:=by
   intro ks hh;rcases OZ 12 _ _ _ _ _ _ hh with h1 | ⟨y,u,lg1,h1,hu,hh⟩
   ·exact .inl h1
   ·rcases Xl l ks _ _ _ _ _ hh with h2 | ⟨vs,rs,us,lg2,h2,hus,hrs,hh⟩
    ·exact .inl h2
    ·rw [Xg] at hh;refine .inr ⟨_,_,_,_,?_,fun p hp=>?_,?_,hh⟩
     ·simp only [Bu,h1 4096 (by decide),Option.bind_some,h2,Rd.runLog]
     ·rcases List.mem_append.1 hp with hp | hp
      ·exact hu p hp
      ·exact hus p hp
     ·simp only [IV.refs.refsL,IV.refs,List.nil_append,hrs]
  cases keep with
  | nil=>exact fz [] hh
  | cons b ks =>
   cases b with
   | false=>exact fz ks hh
   | true =>
    have hh:(Ff x (fun q o=>UA l ks h lg e fun vs rs us lg=>k (.ptr q o::vs) (q::rs) us lg) fun _ _=>e)=some r:=hh;rcases DC hh with ⟨q,o,hx,hh⟩ | ⟨cs,o,_,hh⟩
    ·rcases Xl l ks _ _ _ _ _ hh with h2 | ⟨vs,rs,us,lg2,h2,hus,hrs,hh⟩
     ·exact .inl h2
     ·refine .inr ⟨_,_,_,_,?_,hus,?_,hh⟩
      ·simp only [Bn,Bu,h2,Option.bind_some,Rd.runLog,hx,IV.refs];rfl
      ·simp only [IV.refs.refsL,IV.refs,hrs];rfl
    ·exact .inl hh
mutual
theorem VM:∀(v:IV) (acc:List Ref),Vf v acc=v.refs++acc
 | .dead,_=>rfl
 | .fv _,_=>rfl
 | .ptr _ _,_=>rfl
 | .slc _ _ _,_=>rfl
 | .nils,_=>rfl
 | .emp,_=>rfl
 | .clip _,_=>rfl
 | .app _ _,_=>rfl
 | .mapr _,_=>rfl
 | .func _ a b,acc=>by
  show CK a (CK b acc)=(IV.refs.refsL a++IV.refs.refsL b)++acc
  rw [refsDL_eq,refsDL_eq,List.append_assoc]
 | .agg cs,acc=>refsDL_eq cs acc
 | .tuple cs,acc=>refsDL_eq cs acc
theorem refsDL_eq:∀(l:List IV) (acc:List Ref),CK l acc=IV.refs.refsL l++acc
 | [],_=>rfl
 | v::l,acc=>by
  show Vf v (CK l acc)=(v.refs++IV.refs.refsL l)++acc
  rw [VM,refsDL_eq,List.append_assoc]
end
theorem K1 (b:Blk):Fm b=b.refs:=by
 cases b with
 | row cells ro =>
  show CK cells []=_
  rw [refsDL_eq,List.append_nil];rfl
 | tok _ _=>rfl
 | map es =>
  show _=IV.refs.refsL (es.map (·.2))
  induction es with
  | nil=>rfl
  | cons p es ih =>
   obtain ⟨n,v⟩:=p
   show Vf v (Fm (.map es))=v.refs++_
   rw [VM];congr 1
mutual
theorem Ate {g:Ref->Option Ref}:∀(v:IV),(∀r∈v.refs,g r=some r)->v.ren g=some v
 | .dead,_=>rfl
 | .fv _,_=>rfl
 | .nils,_=>rfl
 | .emp,_=>rfl
 | .clip _,_=>rfl
 | .ptr r o,h=>by simp only [IV.ren,h r (by simp [IV.refs]),AB2]
 | .slc r sz n,h=>by simp only [IV.ren,h r (by simp [IV.refs]),AB2]
 | .app r es,h=>by simp only [IV.ren,h r (by simp [IV.refs]),AB2]
 | .mapr r,h=>by simp only [IV.ren,h r (by simp [IV.refs]),AB2]
 | .func fn a b,h=>by
  have h1:=renL_id (g:=g) a (fun r hr=>h r (by simp only [IV.refs,List.mem_append];exact .inl hr));have h2:=renL_id (g:=g) b (fun r hr=>h r (by simp only [IV.refs,List.mem_append];exact .inr hr));simp only [IV.ren,h1,h2,Option.bind_some,AB2]
 | .agg cs,h=>by
  have h1:=renL_id (g:=g) cs h;simp only [IV.ren,h1,AB2]
 | .tuple cs,h=>by
  have h1:=renL_id (g:=g) cs h;simp only [IV.ren,h1,AB2]
theorem renL_id {g:Ref->Option Ref}:∀(l:List IV),(∀r∈IV.refs.refsL l,g r=some r)->IV.ren.renL g l=some l
 | [],_=>rfl
 | v::l,h=>by
  have h1:=Ate (g:=g) v (fun r hr=>h r (by simp only [IV.refs.refsL,List.mem_append];exact .inl hr));have h2:=renL_id (g:=g) l (fun r hr=>h r (by simp only [IV.refs.refsL,List.mem_append];exact .inr hr));simp only [IV.ren.renL,h1,h2,Option.bind_some,AB2]
end
theorem Alb {α γ:Type}:∀(l:List (α×γ)),(l.map (·.1)).zip (l.map (·.2))=l
 | []=>rfl
 | p::l=>by simp only [AB5,List.zip_cons_cons,Alb l]
theorem Asw {g:Ref->Option Ref} (b:Blk) (h:∀r∈b.refs,g r=some r):b.ren g=some b:=by
 cases b with
 | row cells ro=>simp only [Blk.ren,renL_id cells h,AB2]
 | tok _ _=>rfl
 | map es =>
  have e:=renL_id (g:=g) (es.map (fun p:Int×IV=>p.2)) h;simp only [Blk.ren,e,AB2,Alb]
theorem RA {g:Ref->Option Ref}:∀(l:List Blk),(∀b∈l,∀r∈b.refs,g r=some r)->A5 g l=some l
 | [],_=>rfl
 | b::l,h=>by
  simp only [A5,Asw b (h b List.mem_cons_self),Option.bind_some,RA l (fun c hc=>h c (List.mem_cons_of_mem _ hc)),AB2]
def BP:Nat->List Blk->List (Ref×Blk)
 | _,[]=>[]
 | s,b::l=>(.ext s,b)::BP (s+1) l
theorem Qz:∀(s:Nat) (l:List Blk) (b:Blk),BP s (l++[b])=BP s l++[(.ext (s+l.length),b)]
 | s,[],b=>rfl
 | s,c::l,b=>by
  simp only [List.cons_append,BP,Qz (s+1) l b,AB3];rw [show s+1+l.length=s+(l.length+1) by omega]
theorem QJ:∀(s:Nat) (l:List Blk),(BP s l).map (·.2)=l
 | _,[]=>rfl
 | s,b::l=>by simp only [BP,AB5,QJ (s+1) l]
theorem Mc:∀(s:Nat) (l:List Blk),(BP s l).length=l.length
 | _,[]=>rfl
 | s,b::l=>by simp only [BP,AB3,Mc (s+1) l]
theorem LY:∀(s j:Nat) (l:List Blk),s<=j->hasRef (.ext j) (BP s l)=decide (j<s+l.length)
 | s,j,[],h=>by simp only [BP,hasRef,List.length_nil];rw [decide_eq_false (by omega)]
 | s,j,b::l,h=>by
  simp only [BP,hasRef,AB3];by_cases e:j=s
  ·subst e;simp
  ·rw [LY (s+1) j l (by omega),decide_eq_false (by simp [e]),Bool.false_or];congr 1;exact propext ⟨fun h=>by omega,fun h=>by omega⟩
theorem P8:∀(s k:Nat) (l:List Blk),hasRef (.own k) (BP s l)=false
 | _,_,[]=>rfl
 | s,k,b::l=>by simp only [BP,hasRef,P8 (s+1) k l,Bool.or_false];exact decide_eq_false (by simp)
theorem ML:∀(s j i:Nat) (l:List Blk),s<=j->j<s+l.length->Ck (.ext j) (BP s l) i=some (i+(j - s))
 | s,j,i,[],h1,h2=>by simp at h2;omega
 | s,j,i,b::l,h1,h2=>by
  simp only [AB3] at h2;simp only [BP,Ck];by_cases e:j=s
  ·subst e;simp
  ·rw [if_neg (by simp [e]),ML (s+1) j (i+1) l (by omega) (by omega)];congr 1;omega
theorem Qr:∀(s j:Nat) (l:List Blk),j<l.length->((BP s l)[j]?).map (·.1)=some (.ext (s+j))
 | s,j,[],h=>by simp at h
 | s,0,b::l,h=>rfl
 | s,j+1,b::l,h=>by
  simp only [AB3] at h;simp only [BP,List.getElem?_cons_succ];rw [Qr (s+1) j l (by omega)];congr 2;omega
theorem Xi (s:Nat):∀(l:List Blk),Bq (BP s l)=(List.range' s l.length).map .ext:=by
 intro l
 induction l generalizing s with
 | nil=>rfl
 | cons b l ih=>simp only [BP,Bq,AB5,AB3,List.range'_succ];exact congrArg _ (ih (s+1))
theorem Arr {own:List (Nat×Blk)} {ext:List Blk}:∀(n:Nat) (todo:List Ref) (s:Nat) (rest:List Blk),s<=ext.length->ext.drop s=rest->Pw n todo s rest=true ->
  (∀N,n<=N->∀lg,(B2 N todo (BP 0 (ext.take s))).runLog ⟨own,ext⟩ lg=some (BP 0 ext,((List.range' s (ext.length - s)).map Ref.ext).reverse++lg)) /\
  L0 ext.length todo/\(∀b∈rest,L0 ext.length b.refs):=by
 intro n
 induction n with
 | zero=>intro todo s rest _ _ h;cases h
 | succ n ih =>
  intro todo s rest hs hd h;cases todo with
  | nil =>
   cases rest with
   | cons _ _=>cases h
   | nil =>
    have he:s=ext.length:=by
     have:=congrArg List.length hd
     simp at this;omega
    refine ⟨fun N hN lg=>?_,fun r hr=>(by cases hr),fun b hb=>(by cases hb)⟩;cases N with
    | zero=>omega
    | succ N =>
     subst he;simp only [B2,Rd.runLog,List.take_length,Nat.sub_self,List.range'_zero,AB4,List.reverse_nil,List.nil_append]
  | cons r t =>
   cases r with
   | own k=>cases h
   | ext j =>
    have h:cond (Nat.ble (Nat.succ j) s) (Pw n t s rest) (cond (Nat.beq j s) (goR (Pw n) t s rest) false)=true:=h;have hl:(ext.take s).length=s:=by simp;omega
    cases hj:Nat.ble (Nat.succ j) s with
    | true =>
     rw [hj] at h;have hj:=Bo hj;obtain ⟨h1,h2,h3⟩:=ih t s rest hs hd h;refine ⟨fun N hN lg=>?_,fun r hr=>?_,h3⟩
     ·cases N with
      | zero=>omega
      | succ N =>
       simp only [B2];rw [LY 0 j _ (Nat.zero_le _),hl,decide_eq_true (by omega),if_pos rfl];exact h1 N (by omega) lg
     ·rcases List.mem_cons.1 hr with rfl | hr
      ·exact ⟨j,rfl,by omega⟩
      ·exact h2 r hr
    | false =>
     rw [hj] at h;simp only [cond] at h;have hj':¬ j<s:=fun e=>by rw [Nat.ble_eq_true_of_le (Nat.succ_le_of_lt e)] at hj;cases hj
     cases hb:Nat.beq j s with
     | false=>rw [hb] at h;cases h
     | true =>
      rw [hb] at h;have hb:=Eh hb;subst hb;simp only at h;cases rest with
      | nil=>cases h
      | cons b rest =>
       have h:Pw n (t++Fm b) (Nat.succ j) rest=true:=h;have hjl:j<ext.length:=by
        have:=congrArg List.length hd
        simp at this;omega
       have hgb:ext[j]?=some b:=by
        rw [<- List.head?_drop,hd];rfl
       have hd':ext.drop (j+1)=rest:=by rw [<- List.tail_drop,hd];rfl
       obtain ⟨h1,h2,h3⟩:=ih (t++Fm b) (j+1) rest (by omega) hd' h;rw [K1] at h1 h2;refine ⟨fun N hN lg=>?_,fun r hr=>?_,fun c hc=>?_⟩
       ·cases N with
        | zero=>omega
        | succ N =>
         simp only [B2];rw [LY 0 j _ (Nat.zero_le _),hl,decide_eq_false (by omega)];simp only [Bool.false_eq_true,if_false,Rd.runLog,Hp.get,hgb];have ht:BP 0 (ext.take j)++[(.ext j,b)]=BP 0 (ext.take (j+1)):=by
          have:ext.take (j+1)=ext.take j++[b]:=by
           rw [List.take_add_one,hgb];rfl
          rw [this,Qz,hl,Nat.zero_add]
         rw [ht,h1 N (by omega) (.ext j::lg)];rw [show ext.length - j=(ext.length - (j+1))+1 by omega,List.range'_succ]
         simp
       ·rcases List.mem_cons.1 hr with rfl | hr
        ·exact ⟨j,rfl,hjl⟩
        ·exact h2 r (List.mem_append_left _ hr)
       ·rcases List.mem_cons.1 hc with rfl | hc
        ·exact fun r hr=>h2 r (List.mem_append_right _ hr)
        ·exact h3 c hc
theorem Akv {m:Nat}:∀(l:List Ref),okR m l=true->L0 m l
 | [],_=>fun r hr=>by cases hr
 | .own k::l,h=>by cases h
 | .ext j::l,h=>by
  have h:cond (Nat.ble (Nat.succ j) m) (okR m l) false=true:=h;cases hj:Nat.ble (Nat.succ j) m with
  | false=>rw [hj] at h;cases h
  | true =>
   rw [hj] at h;have hj:=Bo hj;intro r hr;rcases List.mem_cons.1 hr with rfl | hr
   ·exact ⟨j,rfl,by omega⟩
   ·exact Akv l h r hr
theorem Amg {m:Nat}:∀(l:List Blk),okB m l=true->∀b∈l,L0 m b.refs
 | [],_=>fun b hb=>by cases hb
 | b::l,h=>by
  have h:cond (okR m (Fm b)) (okB m l) false=true:=h;cases hb:okR m (Fm b) with
  | false=>rw [hb] at h;cases h
  | true =>
   rw [hb] at h;rw [K1] at hb;intro c hc;rcases List.mem_cons.1 hc with rfl | hc
   ·exact Akv _ hb
   ·exact Amg l h c hc
theorem Ri:∀(u:List (Ref×Blk)) (own:List (Nat×Blk)) (ext ext':List Blk) {k:Hp->Option β} {r:β},Mt u ⟨own,ext'⟩ k=some r ->
  ∃own2,laid ⟨own,ext⟩ u=some ⟨own2,ext⟩/\laid ⟨own,ext'⟩ u=some ⟨own2,ext'⟩/\k ⟨own2,ext'⟩=some r
 | [],own,ext,ext',k,r,h=>⟨own,rfl,rfl,h⟩
 | (q,b)::u,own,ext,ext',k,r,h=>by
  have h:(Xk q none fun s=>Dp (.own s) ⟨own,ext'⟩ fun _=>Gg (.own s) b ⟨own,ext'⟩ fun h=>Mt u h k)=some r:=h;cases q with
  | ext j=>cases h
  | own s =>
   have h:(Dp (.own s) ⟨own,ext'⟩ fun _=>Gg (.own s) b ⟨own,ext'⟩ fun h=>Mt u h k)=some r:=h;rw [EI] at h;obtain ⟨c,hc,h⟩:=Bs h;rw [Lz] at h;obtain ⟨own2,h1,h2,h3⟩:=Ri u (AP s b own) ext ext' h;refine ⟨own2,?_,?_,h3⟩
   ·simp only [laid];rw [show (Hp.mk own ext).get (.own s)=some c from hc]
    exact h1
   ·simp only [laid];rw [hc];exact h2
theorem NH:∀(ext' pre ext:List Blk) (own:List (Nat×Blk)),ext.length=ext'.length->laid ⟨own,pre++ext⟩ (((List.range' pre.length ext'.length).map Ref.ext).zip ext')=some ⟨own,pre++ext'⟩
 | [],pre,ext,own,h=>by
  cases ext with
  | nil=>rfl
  | cons _ _=>cases h
 | b::ext',pre,ext,own,h=>by
  cases ext with
  | nil=>cases h
  | cons c ext =>
   simp only [AB3,Nat.add_right_cancel_iff] at h;simp only [AB3,List.range'_succ,AB5,List.zip_cons_cons,laid,Hp.get];rw [List.getElem?_append_right (Nat.le_refl _),Nat.sub_self];simp only [List.getElem?_cons_zero,Hp.set];have e:(pre++c::ext).set pre.length b=(pre++[b])++ext:=by
    rw [List.set_append_right _ _ (Nat.le_refl _),Nat.sub_self];simp
   rw [e]
   have:=NH ext' (pre++[b]) ext own h
   simp only [List.length_append,List.length_singleton] at this;rw [this];simp
theorem UJ:∀(a b:List (Ref×Blk)) (h:Hp),laid h (a++b)=(laid h a).bind fun h=>laid h b
 | [],_,_=>rfl
 | (q,c)::a,b,h=>by
  simp only [List.cons_append,laid];cases h.get q with
  | none=>rfl
  | some _=>exact UJ a b _
theorem Ade (hi:∀f args h x,ih' f args h=some x->ih f args h=some x) {g:FuncId} {args:List IV} (h:A0 (E.pol.keep g) (E.pol.split g) (E.pol.raw g) ih' g args hp k=some r):Iso E ih g args hp k r:=by
 unfold A0 at h;cases hc:(cond (E.pol.split g) true (E.pol.raw g)) with
 | true=>rw [hc] at h;exact K4 hi h
 | false =>
  rw [hc] at h;simp only [cond] at h;have hs:E.pol.split g=false:=by cases e:E.pol.split g with | false=>rfl | true=>rw [e] at hc;cases hc
  rw [hs] at hc;have hr:E.pol.raw g=false:=hc;rcases Xl _ _ _ _ _ _ _ h with h1 | ⟨vs,rs,us,lg,hz,hus,hrs,h⟩
  ·exact K4 hi h1
  ·cases rs with
   | nil =>
    simp only at h;cases he:ih' g vs ⟨[],[]⟩ with
    | none=>rw [he] at h;cases h
    | some p =>
     obtain ⟨v,⟨own,ext⟩⟩:=p;rw [he] at h;cases ext with
     | cons b ext=>exact absurd (show (none:Option β)=some r from h) (by simp)
     | nil =>
      have h:(Fh 12 v ⟨own,[]⟩ [] (FE (E.pol.keep g) (E.pol.split g) (E.pol.raw g) ih' g args hp k) fun w _ _=>Mt us hp fun h2=>k (.fv w) h2 lg (Bq us))=some r:=h;rcases OZ 12 _ _ _ _ _ _ h with h1 | ⟨w,u2,lg2,h2,_,h⟩
      ·exact K4 hi h1
      ·obtain ⟨own0,ext0⟩:=hp;obtain ⟨own2,l1,l2,h⟩:=Ri us own0 ext0 ext0 h;refine ⟨{ val:=.fv w,upd:=us },lg,⟨own2,ext0⟩,?_,l1,h⟩;have hw:=Ge _ _ _ _ _ (h2 4096 (by decide));have hren:∀q,IV.ren.renL q vs=some vs:=fun q=>renL_id vs (fun r hr=>by rw [hrs] at hr;cases hr);simp only [HG,Bu,hz,Option.bind_some,B2,Rd.runLog,hren,AB4,A5,asked,hs,Bool.false_eq_true,if_false,hi _ _ _ _ he,Ia,hr,hw,AB2,IV.ren,Rd.of];have hk:(Bq us).all (fun r=>!hasRef r [])=true:=List.all_eq_true.2 fun r _=>rfl;rw [if_pos ⟨rfl,hk⟩];simp only [Rd.runLog,Bq,AB4,List.zip_nil_left,List.append_nil]
   | cons q rs =>
    obtain ⟨own0,ext0⟩:=hp;simp only at h;cases hg:Pw 400 (q::rs) 0 ext0 with
    | false=>rw [hg] at h;exact K4 hi h
    | true =>
     rw [hg] at h;simp only at h;obtain ⟨g1,g2,g3⟩:=Arr (own:=own0) 400 (q::rs) 0 ext0 (Nat.zero_le _) rfl hg;cases he:ih' g vs ⟨[],ext0⟩ with
     | none=>rw [he] at h;cases h
     | some p =>
      obtain ⟨v,⟨own,ext⟩⟩:=p;rw [he] at h;simp only at h;obtain ⟨ho,h⟩:=DF h;have ho:(Nat.beq ext.length ext0.length && okB ext0.length ext)=true:=ho;simp only [Bool.and_eq_true] at ho;have hlen:=Eh ho.1;have hok:=Amg _ ho.2;rcases OZ 12 _ _ _ _ _ _ h with h1 | ⟨w,u2,lg2,h2,_,h⟩
      ·exact K4 hi h1
      ·obtain ⟨own2,l1,l2,h⟩:=Ri us own0 ext0 ext h;have hw:=Ge _ _ _ _ _ (h2 4096 (by decide));have hin:∀l,L0 ext0.length l->∀r∈l,Dr (BP 0 ext0) r=some r:=by
        intro l hl r hr;obtain ⟨j,rfl,hj⟩:=hl r hr;simp only [Dr];rw [ML 0 j 0 ext0 (Nat.zero_le _) (by omega)];simp
       have hbk:∀l,L0 ext0.length l->∀r∈l,Cw (BP 0 ext0) r=some r:=by
        intro l hl r hr;obtain ⟨j,rfl,hj⟩:=hl r hr;simp only [Cw];rw [Qr 0 j ext0 hj,Nat.zero_add]
       have hv:IV.ren.renL (Dr (BP 0 ext0)) vs=some vs:=renL_id vs (fun r hr=>hin _ g2 r (by rw [hrs] at hr;exact hr));have hb1:A5 (Dr (BP 0 ext0)) ext0=some ext0:=RA ext0 (fun b hb r hr=>hin _ (g3 b hb) r hr);have hb2:A5 (Cw (BP 0 ext0)) ext=some ext:=RA ext (fun b hb r hr=>hbk _ (hok b hb) r hr);have hkeys:Bq (BP 0 ext0)=CY ext0.length:=by rw [Xi,CY,List.range_eq_range']
       refine ⟨{ val:=.fv w,upd:=us++(Bq (BP 0 ext0)).zip ext },(CY ext0.length).reverse++lg,⟨own2,ext⟩,?_,?_,?_⟩
       ·have hga:=g1 4096 (by decide) lg;simp only [List.take_zero,BP,Nat.sub_zero] at hga;simp only [HG,Bu,hz,Option.bind_some,hga,QJ,hv,hb1,asked,hs,Bool.false_eq_true,if_false,hi _ _ _ _ he,Ia,hr,hw,AB2,IV.ren,hb2];have hk:(Bq us).all (fun r=>!hasRef r (BP 0 ext0))=true:=List.all_eq_true.2 fun r hr=>by
         obtain ⟨p,hp,rfl⟩:=List.mem_map.1 hr;obtain ⟨s,e⟩:=hus p hp;rw [e,P8];rfl
        rw [if_pos ⟨by rw [Mc,hlen],hk⟩];simp only [Rd.of,Rd.runLog,CY,List.range_eq_range']
       ·simp only;rw [UJ,l1,Option.bind_some,hkeys,CY,List.range_eq_range',<- hlen];exact NH ext [] ext0 own2 hlen.symm
       ·have hz2:Bq (us++(Bq (BP 0 ext0)).zip ext)=Bq us++CY ext0.length:=by
         simp only [Bq,List.map_append];congr 1;rw [<- hkeys];exact List.map_fst_zip (by simp only [Bq,List.length_map,Mc];omega)
        simp only [hz2];exact h
def Al1 (E:Env) (ih:Aj) (f rid i:Nat) (dr:Bool) (slots:List IV) (op:Op) (hp:Hp) (k:IV->Hp->List Ref->List Ref->Option β) (r:β):Prop :=
 (EV E slots op=none/\G8 E ih f rid i (AE slots) op hp k r) \/
 (dr=false/\Ga E op=false/\∃g args v hp',EV E slots op=some (g,args)/\ih g args hp=some (v,hp')/\k v hp' [] []=some r)
theorem VH {g:Operand} {args:Array Operand} {ts:Array TypeId} {h':FuncId} {first cap:List IV} {slots:List IV} (hc:callee (AE slots g)=some (h',first,cap)) (hin:E.pol.inl h'=false)
  (h:Iso E ih h' (first++args.toList.map (AE slots)++cap) hp k r):Al1 E ih f rid i dr slots (.call ⟨.value g,args,ts⟩) hp k r:=by
 obtain ⟨e,rd,hp',h1,h2,h3⟩:=h;refine .inl ⟨?_,e.val,hp',rd,Bq e.upd,⟨{ eff:=e },?_,?_,rfl,?_⟩,h3,fun q=>by cases q⟩
 ·simp only [EV,hc,hin,Bool.false_eq_true,if_false]
 ·simp only [C3,hc,hin,Bool.false_eq_true,if_false,Rd.eff,Bu,h1,Option.bind_some,Rd.runLog]
 ·simp only [AQ,h2,Option.bind_some,CH]
 ·simp only [Jp,List.append_nil]
theorem Ar0 (hi:∀f args h x,ih' f args h=some x->ih f args h=some x) {slots:List IV} {c:Call} (h:JI E ih' f rid i dr (AE slots) (.call c) hp k=some r):Al1 E ih f rid i dr slots (.call c) hp k r:=by
 obtain ⟨cl,args,ts⟩:=c;simp only [JI,BI] at h;cases cl with
 | invoke _ _=>cases h
 | builtin b =>
  refine .inl ⟨rfl,?_⟩;simp only [V8,BI] at h;split at h
  ·rename_i t x hts has;split at h
   ·rename_i e z ht;unfold B9 at h;have hop:C3 E ih f rid i (AE slots) (.call ⟨.builtin .len,args,ts⟩)=AO E (Bk f rid i) (E.pol.rowApp f rid i) .len [t] [AE slots x]:=by
     simp only [C3,hts,has];rfl
    rcases Vz h with ⟨q,sz,n,hx,h⟩ | ⟨hx,h⟩
    ·rw [Ef] at h;exact A1 (by rw [hop];simp only [AO,ht,hx]) h
    ·rw [Aai] at h;obtain ⟨es,he,h⟩:=Bs h;rw [Ef] at h;refine A1 (v:=.fv (.int .i64 es.length)) ?_ h;rw [hop];simp only [AO,ht];cases hxx:AE slots x with
     | slc q sz n=>exact absurd hxx (hx q sz n)
     | _=>rw [hxx] at he;simp only [he];rfl
   ·rename_i hn;refine BO ?_ rfl h;simp only [Ga,hts,has]
  ·rename_i b0 b1 ts1 args1 hn;refine BO ?_ rfl h;cases b0 with
   | len =>
    simp only [Ga];split
    ·rename_i hts has;exact absurd has (hn _ _ rfl hts)
    ·rfl
   | _=>rfl
 | value g =>
  simp only [V8,BI] at h;split at h
  ·rename_i g;have hc:callee (AE slots (.func g))=some (g,[],[]):=rfl;cases hin:E.pol.inl g with
   | true =>
    rw [hin] at h;cases dr with
    | true=>cases h
    | false =>
     simp only [cond,AjO] at h;cases he:ih' g (args.toList.map (AE slots)) hp with
     | none=>rw [he] at h;cases h
     | some p =>
      obtain ⟨v,hp'⟩:=p;rw [he] at h;refine .inr ⟨rfl,rfl,g,args.toList.map (AE slots),v,hp',?_,hi _ _ _ _ he,h⟩;simp only [EV,hc,hin,if_true,List.nil_append,List.append_nil]
   | false =>
    rw [hin] at h;refine VH hc hin ?_;simp only [List.nil_append,List.append_nil];exact Ade hi h
  ·unfold FN at h;split at h
   ·cases h
   ·rename_i h' first cap hc
    cases hin:E.pol.inl h' with
    | true=>rw [hin] at h;cases h
    | false =>
     rw [hin] at h;simp only [cond,It] at h;exact VH hc hin (Ade hi h)
theorem Atg (hi:∀f args h x,ih' f args h=some x->ih f args h=some x) {slots:List IV} {op:Op} (h:JI E ih' f rid i dr (AE slots) op hp k=some r):Al1 E ih f rid i dr slots op hp k r:=by
 cases op with
 | call c=>exact Ar0 hi h
 | move x=>exact .inl ⟨rfl,A1 rfl h⟩
 | assign x=>exact .inl ⟨rfl,A1 rfl h⟩
 | pick c a b=>exact .inl ⟨rfl,AuE h⟩
 | alloc t =>
  refine .inl ⟨rfl,?_⟩;simp only [JI,BI] at h;cases ht:E.T t with
  | none=>rw [ht] at h;cases h
  | some ti=>rw [ht] at h;exact U5 rfl (by simp only [C3,ht]) h
 | box t x=>exact .inl ⟨rfl,AvN h⟩
 | build t ps=>exact .inl ⟨rfl,AnV h⟩
 | load t a=>exact .inl ⟨rfl,At4 h⟩
 | store t a x=>exact .inl ⟨rfl,Ane h⟩
 | nilCheck x=>exact .inl ⟨rfl,Av7 h⟩
 | binOp o t x y yt =>
  refine .inl ⟨rfl,?_⟩;simp only [JI,BI] at h;obtain ⟨v,h1,h2⟩:=AhW h;exact A1 (by simp only [C3,h1];rfl) h2
 | unOp o t x =>
  refine .inl ⟨rfl,?_⟩;simp only [JI,CR] at h;exact PW rfl h
 | convert s d x=>exact .inl ⟨rfl,AhV h⟩
 | fieldAddr s x fd=>exact .inl ⟨rfl,Vx h⟩
 | field s x fd=>exact .inl ⟨rfl,Apk h⟩
 | indexAddr t x ix=>exact .inl ⟨rfl,UP h⟩
 | index t x ix=>exact .inl ⟨rfl,Apl h⟩
 | extract x ix=>exact .inl ⟨rfl,Aie h⟩
 | makeMap t n=>cases n with
  | none=>exact .inl ⟨rfl,BO rfl rfl h⟩
  | some _=>cases h
 | buildSlice t n ps=>exact .inl ⟨rfl,BO rfl rfl h⟩
 | makeFunc fn a b=>exact .inl ⟨rfl,BO rfl rfl h⟩
 | insert t m j x=>exact .inl ⟨rfl,BO rfl rfl h⟩
 | mapUpdate t m j x=>exact .inl ⟨rfl,BO rfl rfl h⟩
 | lookup t m j ok=>exact .inl ⟨rfl,BO rfl rfl h⟩
 | makeSlice t l c=>exact .inl ⟨rfl,BO rfl rfl h⟩
 | slice t x lo hi mx=>exact .inl ⟨rfl,BO rfl rfl h⟩
 | _=>cases h
end
end Idl
end Go.Proofs.Ytkfecngimlcfoaa
namespace Go.Proofs.Ytkfecngimlcfoaa
namespace Idl
section
variable {β:Type}
def BH (k:Nat) (F:(List IV->Hp->Option β)->List IV->Hp->Option β):List IV->Hp->Option β :=
 Nat.rec (motive:=fun _=>List IV->Hp->Option β) (fun _ _=>none) (fun _ rec=>F rec) k
def MP (s:Nat) (l:List Nat):Bool:=List.rec (motive:=fun _=>Bool) false (fun x _ ih=>cond (Nat.beq s x) true ih) l
def Gd (rm:List Nat) (l:List Ref):Bool:=List.rec (motive:=fun _=>Bool) true (fun r _ ih=>match r with
 | .own s=>cond (MP s rm) false ih
 | .ext _=>ih) l
def Iw (rm:List Nat) (own:List (Nat×Blk)):Bool:=List.rec (motive:=fun _=>Bool) true (fun p _ ih=>match p with
 | (s,b)=>cond (MP s rm) ih (cond (Gd rm (Fm b)) ih false)) own
def JM (rm:List Nat) (ext:List Blk):Bool:=List.rec (motive:=fun _=>Bool) true (fun b _ ih=>cond (Gd rm (Fm b)) ih false) ext
def Anx (rm:List Nat) (own:List (Nat×Blk)):Bool:=List.rec (motive:=fun _=>Bool) false (fun p _ ih=>match p with
 | (s,_)=>cond (MP s rm) true ih) own
def Uj (rm:List Nat) (own:List (Nat×Blk)) (k:List (Nat×Blk)->Option β):Option β :=
 List.rec (motive:=fun _=>(List (Nat×Blk)->Option β)->Option β) (fun k=>k []) (fun p _ ih k=>match p with
  | (s,b)=>cond (MP s rm) (ih k) (ih fun l=>k ((s,b)::l))) own k
def Bx (base rm:List Nat) (vals:List IV) (h:Hp) (k:Hp->Option β):Option β :=
 cond (
    rm.any base.contains) none (match h with
  | ⟨own,ext⟩=>cond (Anx rm own)
   (cond (and (Gd rm (CK vals [])) (and (Iw rm own) (JM rm ext))) (Uj rm own fun own=>k ⟨own,ext⟩)
    (match CL base [] rm ⟨vals,⟨own,ext⟩⟩ with
     | none=>none
     | some S=>fH S.hp k)) (k ⟨own,ext⟩))
def TH (d:Option Nat) (v:IV) (h:Hp) (T:FS):FS:=match d with
 | none=>⟨T.n,T.t,h⟩
 | some d=>cond (Nat.ble T.n d) ⟨T.n,T.t,h⟩ ⟨T.n,T.t.set d v,h⟩
abbrev SlT.setKK {α:Type} (t:SlT):Nat->IV->(SlT->α)->α :=
 SlT.rec (motive:=fun _=>Nat->IV->(SlT->α)->α) (fun j v i x k=>Bool.rec (motive:=fun _=>α) (k (.leaf j v)) (k (.leaf j x)) (Nat.beq i j))
  (fun m l r gl gr i x k=>Bool.rec (motive:=fun _=>α) (gl i x fun l'=>k (.node m l' r)) (gr i x fun r'=>k (.node m l r')) (Nat.ble m i)) t
abbrev KJ (d:Option Nat) (v:IV) (h:Hp) (T:FS) (K:FS->Option β):Option β :=
 FS.rec (motive:=fun _=>Option β) (fun n t _=>Option.rec (motive:=fun _=>Option β) (K ⟨n,t,h⟩) (fun d=>U0 (Nat.ble n d) (K ⟨n,t,h⟩) (t.setKK d v fun t=>K ⟨n,t,h⟩)) d) T
abbrev Wb (args:List IV):Nat->FS->(FS->Option β)->Option β :=
 List.rec (motive:=fun _=>Nat->FS->(FS->Option β)->Option β) (fun _ T K=>K T) (fun v _ ih i T K=>KJ (some i) v T.hp T fun T=>ih (Nat.succ i) T K) args
abbrev VX (cs:List Nat):List IV->FS->(FS->Option β)->Option β :=
 List.rec (motive:=fun _=>List IV->FS->(FS->Option β)->Option β) (fun _ T k=>k T) (fun c _ ih vals T k=>AD vals fun v vals=>KJ (some c) v T.hp T fun T=>ih vals T k) cs
def MB (r s:Ref):Bool:=match r with
 | .own i=>(match s with
  | .own j=>not (Nat.beq i j)
  | .ext _=>true)
 | .ext i=>(match s with
  | .own _=>true
  | .ext j=>not (Nat.beq i j))
def KD (r:Ref) (l:List Ref):Bool:=List.rec (motive:=fun _=>Bool) true (fun s _ ih=>cond (MB r s) ih false) l
def V3 (a b:List Ref):Bool:=List.rec (motive:=fun _=>Bool) true (fun r _ ih=>cond (KD r b) ih false) a
theorem AiF (r s:Ref):MB r s=decide (r≠s):=by
 cases r<;>cases s<;>simp [MB,JE]
theorem VC (r:Ref):∀(l:List Ref),KD r l=l.all fun s=>decide (r≠s)
 | []=>rfl
 | s::l=>by
  rw [show KD r (s::l)=cond (MB r s) (KD r l) false from rfl,AiF,VC r l,List.all_cons]
  cases decide (r≠s)<;>rfl
theorem AlT:∀(a b:List Ref),V3 a b=Om a b
 | [],_=>rfl
 | r::a,b=>by
  rw [show V3 (r::a) b=cond (KD r b) (V3 a b) false from rfl,VC,AlT a b]
  simp only [Om,List.all_cons];cases (b.all fun s=>decide (r≠s))<;>rfl
def Ab (l:List (List Ref×List Ref)) (rd wr:List Ref) (a:Option β):Option β :=
 List.rec (motive:=fun _=>Option β) a (fun q _ ih=>match q with
  | (q1,q2)=>cond (V3 q2 rd) (cond (V3 q2 wr) (cond (V3 wr q1) ih none) none) none) l
def US (before:Nat) (done:List (Nat×List Ref×List Ref)):List (List Ref×List Ref) :=
 List.rec (motive:=fun _=>List (List Ref×List Ref)) [] (fun p _ ih=>match p with | (j,q)=>cond (before.testBit j) ih (q::ih)) done
section
variable (E:Env) (ih:Aj)
def MH (f rid:Nat) (ops:Array Oper) (i:Nat) (o:Oper) (dr:Bool) (T:FS) (K:FS->List Ref->List Ref->Option β):Option β :=
 match o.guard with
 | none=>JI E ih f rid i dr (Im T) o.op T.hp fun v h rd wr=>KJ o.dst v h T fun T=>K T rd wr
 | some (j,want)=>match (ops[j]?).bind (·.dst) with
  | none=>none
  | some d=>U0 (Nat.ble T.n d) none
   (Aa (T.get d) want T.hp (fun k=>JI E ih f rid i dr (Im T) o.op T.hp k) fun v h rd wr=>KJ o.dst v h T fun T=>K T rd wr)
def ArL (f rid:Nat) (ops:Array Oper) (l:List Oper):Nat->FS->(FS->Option β)->Option β :=
 List.rec (motive:=fun _=>Nat->FS->(FS->Option β)->Option β) (fun _ T K=>K T) (fun o _ rec i T K=>MH E ih f rid ops i o false T fun T _ _=>rec (Nat.succ i) T K) l
def AaZ (f rid:Nat) (ops:Array Oper) (before:Array Nat) (l:List Oper):Nat->List (Nat×List Ref×List Ref)->FS->(FS->Option β)->Option β :=
 List.rec (motive:=fun _=>Nat->List (Nat×List Ref×List Ref)->FS->(FS->Option β)->Option β) (fun _ _ T K=>K T)
  (fun o _ rec i done T K=>U0 (Ga E o.op) (MH E ih f rid ops i o true T fun T _ _=>rec (Nat.succ i) done T K)
   (MH E ih f rid ops i o true T fun T rd wr=>Ab (US (before.getD i 0) done) rd wr (rec (Nat.succ i) ((i,rd,wr)::done) T K))) l
def C2 (n:Nat) (kills:List Nat):List Nat:=(List.range n).filter fun i=>!kills.contains i
def QL (base kills rm:List Nat) (T:FS) (k:List IV->Hp->Option β):Option β :=
 match rm with
 | []=>k ((C2 T.n kills).map T.get) T.hp
 | r::rm=>Bx base (r::rm) ((C2 T.n kills).map T.get) T.hp fun h=>k ((C2 T.n kills).map T.get) h
def F7 (f n:Nat) (base:List Nat):Code->FS->(Ex->FS->Option β)->Option β
 | .skip,T,K=>K .normal T
 | .region rid ops draw,T,K=>U0 draw (AaZ E ih f rid ops (Region.before ops) ops.toList 0 [] T fun T=>K .normal T) (ArL E ih f rid ops ops.toList 0 T fun T=>K .normal T)
 | .seq a b,T,K=>F7 f n base a T fun ex T=>match ex with
  | .normal=>F7 f n base b T K
  | .exit j=>K (.exit j) T
  | .ret=>K .ret T
 | .cond c a b,T,K=>Ai (Im T c) (F7 f n base a T K) (F7 f n base b T K)
 | .block id c,T,K=>F7 f n base c T fun ex T=>match ex with
  | .normal=>K .normal T
  | .exit j=>U0 (Nat.beq j id) (K .normal T) (K (.exit j) T)
  | .ret=>K .ret T
 | .loop c,T,K=>QL base (E.pol.head f (Ca c)).1 (E.pol.head f (Ca c)).2 T (BH n fun rec vals h =>
   VX (C2 T.n (E.pol.head f (Ca c)).1) vals ⟨T.n,dT 10 0 T.n,h⟩ fun T=>F7 f n base c T fun ex T=>match ex with
    | .normal=>QL base (E.pol.head f (Ca c)).1 (E.pol.head f (Ca c)).2 T rec
    | .exit j=>K (.exit j) T
    | .ret=>K .ret T)
 | .exit id,T,K=>K (.exit id) T
 | .ret,T,K=>K .ret T
 | _,_,_=>none
def Ar (agg:Bool) (size:Nat) (a:IV) (h:Hp) (k:IV->Option β):Option β :=
 cond agg (Ad size a h fun v _=>k v) (Ah a h fun v _=>k v)
def Aij (T:FS) (rs:List ResultVar):List IV->(List IV->Option β)->Option β :=
 List.rec (motive:=fun _=>List IV->(List IV->Option β)->Option β) (fun acc k=>k acc) (fun v _ rec acc k=>match v with
  | .tmp t=>rec (acc++[T.get t]) k
  | .cell a t=>match E.T t with
   | none=>none
   | some ti=>Ar ti.kind.isAgg ti.size (T.get a) T.hp fun v=>rec (acc++[v]) k) rs
def Al (vs:List IV) (h:Hp):Option (IV×Hp):=match vs with
 | [v]=>some (v,h)
 | vs=>Xc vs fun v=>some (v,h)
def Au (FT:Nat->Option Func) (n f:Nat) (args:List IV) (h:Hp):Option (IV×Hp):=match FT f with
 | none=>none
 | some fn=>match fn.body with
  | none=>none
  | some c=>U0 (Nat.ble args.length fn.ntmps && Nat.ble fn.ntmps 1024)
   (Wb args 0 ⟨fn.ntmps,dT 10 0 fn.ntmps,h⟩ fun T=>F7 E ih f n (h.own.map (·.1)) c T fun ex T=>match ex with
    | .exit _=>none
    | .normal=>Aij E T fn.results.toList [] fun vs=>Al vs T.hp
    | .ret=>Aij E T fn.results.toList [] fun vs=>Al vs T.hp) none
end
end
end Idl
end Go.Proofs.Ytkfecngimlcfoaa
set_option linter.unusedSimpArgs false
namespace Go.Proofs.Ytkfecngimlcfoaa
namespace Idl
section
variable {β:Type} {E:Env} {ih ih':Aj} {f rid:Nat} {r:β}
theorem R0 (d:Option Nat) (v:IV) (h:Hp) (T:FS):TH d v h T=SJ d v ⟨T.n,T.t,h⟩:=by cases d<;>rfl
theorem Xf (d:Option Nat) (v:IV) (h:Hp) (T:FS):(TH d v h T).n=T.n:=by
 cases d with
 | none=>rfl
 | some d =>
  show (cond (Nat.ble T.n d) (FS.mk T.n T.t h) ⟨T.n,T.t.set d v,h⟩).n=T.n
  cases Nat.ble T.n d<;>rfl
theorem Ali {α:Type} (t:SlT) (i:Nat) (x:IV) (k:SlT->α):t.setKK i x k=k (t.set i x):=by
 refine Eq.trans ?_ (AcU t i x k)
 induction t generalizing k with
 | leaf j v =>
  show Bool.rec (k (.leaf j v)) (k (.leaf j x)) (Nat.beq i j)=cond (Nat.beq i j) (k (.leaf j x)) (k (.leaf j v))
  cases Nat.beq i j<;>rfl
 | node m l r ihl ihr =>
  show Bool.rec (l.setKK i x fun l'=>k (.node m l' r)) (r.setKK i x fun r'=>k (.node m l r')) (Nat.ble m i)=cond (Nat.ble m i) (r.setK i x fun r'=>k (.node m l r')) (l.setK i x fun l'=>k (.node m l' r))
  cases Nat.ble m i
  ·exact ihl _
  ·exact ihr _
theorem OB (d:Option Nat) (v:IV) (h:Hp) (T:FS) (K:FS->Option β):KJ d v h T K=K (TH d v h T):=by
 obtain ⟨n,t,h0⟩:=T;cases d with
 | none=>rfl
 | some d =>
  show U0 (Nat.ble n d) (K ⟨n,t,h⟩) (t.setKK d v fun t=>K ⟨n,t,h⟩)=K (cond (Nat.ble n d) ⟨n,t,h⟩ ⟨n,t.set d v,h⟩)
  rw [BI];cases Nat.ble n d
  ·simp only [cond];rw [Ali]
  ·rfl
theorem Qm:∀(args:List IV) (i:Nat) (T:FS) (K:FS->Option β),Wb args i T K=AdT args i T K
 | [],_,_,_=>rfl
 | v::l,i,T,K=>by
  show KJ (some i) v T.hp T (fun T=>Wb l (Nat.succ i) T K)=Alt (some i) v T fun T=>AdT l (Nat.succ i) T K
  rw [OB,Abd,R0,Qm l]
theorem NK {T:FS} {S:St} (hr:Rep T S) (d:Option Nat) (v:IV) (h:Hp):Rep (TH d v h T) ⟨B6 d v S.slots,h⟩:=by
 rw [R0];exact Agj (T:=⟨T.n,T.t,h⟩) (S:=⟨S.slots,h⟩) ⟨rfl,hr.len,hr.has,hr.get⟩ d v
theorem OJ (hi:∀f args h x,ih' f args h=some x->ih f args h=some x) {ops:Array Oper} {i:Nat} {o:Oper} (ho:ops[i]?=some o) {dr:Bool} {T:FS} {S:St} (hr:Rep T S)
  {K:FS->List Ref->List Ref->Option β} (h:MH E ih' f rid ops i o dr T K=some r) :
  ∃S' T' rd wr,step E ih f rid ops i S=some S'/\(dr=true->KY E ih f rid ops i S=some (S',rd,wr))/\Rep T' S'/\T'.n=T.n/\K T' rd wr=some r/\(Ga E o.op=true->rd=[]/\wr=[]):=by
 have done:Dd ops S.slots o=some true->JI E ih' f rid i dr (Im T) o.op T.hp (fun v h rd wr=>K (TH o.dst v h T) rd wr)=some r ->
   ∃S' T' rd wr,step E ih f rid ops i S=some S'/\(dr=true->KY E ih f rid ops i S=some (S',rd,wr))/\Rep T' S'/\T'.n=T.n/\K T' rd wr=some r/\(Ga E o.op=true->rd=[]/\wr=[]):=by
  intro hw h;rw [ME hr,<- hr.hp] at h;rcases Atg hi h with ⟨hin,v,hp',rd,wr,⟨m,hm,hh,hv,hwr⟩,hk,hq⟩ | ⟨hdr,hq,g,args,v,hp',hin,he,hk⟩
  ·have ha:Eu (Bk f rid i) o.dst S m=some ⟨B6 o.dst v S.slots,hp'⟩:=by simp only [Eu,hh,AB2,hv]
   refine ⟨⟨B6 o.dst v S.slots,hp'⟩,TH o.dst v hp' T,rd,wr,?_,fun _=>?_,NK hr o.dst v hp',Xf ..,hk,hq⟩
   ·simp only [step,ho,hw,hin,El];rw [Ge _ _ _ _ _ hm];exact ha
   ·simp only [KY,ho,hw,hin,El,hm,ha,AB2,hwr,Jp];rfl
  ·refine ⟨⟨B6 o.dst v S.slots,hp'⟩,TH o.dst v hp' T,[],[],?_,fun e=>(by rw [hdr] at e;cases e),NK hr o.dst v hp',Xf ..,hk,fun q=>by rw [hq] at q;cases q⟩;simp only [step,ho,hw,hin,he,AB2]
 have skip:Dd ops S.slots o=some false->K (TH o.dst FM T.hp T) [] []=some r ->
   ∃S' T' rd wr,step E ih f rid ops i S=some S'/\(dr=true->KY E ih f rid ops i S=some (S',rd,wr))/\Rep T' S'/\T'.n=T.n/\K T' rd wr=some r/\(Ga E o.op=true->rd=[]/\wr=[]):=by
  intro hw h;refine ⟨_,_,[],[],?_,fun _=>?_,NK hr o.dst FM T.hp,Xf ..,h,fun _=>⟨rfl,rfl⟩⟩
  ·simp only [step,ho,hw,<- hr.hp]
  ·simp only [KY,ho,hw,<- hr.hp]
 unfold MH at h;have eK:(fun (v:IV) (h:Hp) (rd wr:List Ref)=>KJ o.dst v h T fun T=>K T rd wr)=fun v h rd wr=>K (TH o.dst v h T) rd wr:=by
  funext v h rd wr
  exact OB o.dst v h T fun T=>K T rd wr
 rw [eK] at h;simp only [BI] at h;cases hg:o.guard with
 | none =>
  rw [hg] at h;exact done (by simp only [Dd,hg]) h
 | some jw =>
  obtain ⟨j,want⟩:=jw;rw [hg] at h;simp only at h;cases hd:(ops[j]?).bind (·.dst) with
  | none=>rw [hd] at h;cases h
  | some d =>
   rw [hd] at h;simp only at h;cases hb:Nat.ble T.n d with
   | true=>rw [hb] at h;cases h
   | false =>
    rw [hb] at h;simp only [cond] at h;have hdn:d<T.n:=Nat.lt_of_not_le fun h=>by rw [Nat.ble_eq_true_of_le h] at hb;cases hb
    have hs:S.slots[d]?=some (T.get d):=by
     rw [hr.at_,List.getD_eq_getElem?_getD,List.getElem?_eq_getElem (by rw [hr.len];exact hdn)];rfl
    have hw:Dd ops S.slots o=match T.get d with
      | .fv (.bool b)=>some (b == want)
      | .fv (.tuple [])=>some false
      | _=>none:=by
     simp only [Dd,hg,hd,Option.bind_some,hs];generalize T.get d=v;split
     ·rename_i e;simp only [ABZ] at e;subst e;rfl
     ·rename_i e;simp only [ABZ] at e;subst e;rfl
     ·rename_i h1 h2;split
      ·exact absurd rfl (h1 _)
      ·exact absurd rfl h2
      ·rfl
    unfold Aa at h;rcases N7 h with ⟨v,hv,h⟩ | h
    ·rw [hv] at hw;unfold AkU at h;split at h
     ·rename_i b;have e:(b == want)=(cond want b (not b)):=by cases b<;>cases want<;>rfl
      cases hc:(cond want b (not b)) with
      | true =>
       rw [hc] at h;exact done (by rw [hw];simp only [e,hc]) h
      | false =>
       rw [hc] at h;exact skip (by rw [hw];simp only [e,hc]) h
     ·rename_i l;cases l with
      | nil=>exact skip hw h
      | cons _ _=>cases h
     ·cases h
    ·cases h
theorem An3 (hi:∀f args h x,ih' f args h=some x->ih f args h=some x) {ops:Array Oper}:∀(l:List Oper) (i:Nat),ops.toList.drop i=l->∀{T:FS} {S:St},Rep T S->∀{K:FS->Option β},ArL E ih' f rid ops l i T K=some r ->
  ∃S' T',JX E ih f rid ops (List.range' i l.length) S=some S'/\Rep T' S'/\T'.n=T.n/\K T'=some r:=by
 intro l
 induction l with
 | nil=>intro i _ T S hr K h;exact ⟨S,T,rfl,hr,rfl,h⟩
 | cons o l ihl =>
  intro i hd T S hr K h;have ho:ops[i]?=some o:=by
   have:ops.toList[i]?=some o:=by rw [<- List.head?_drop,hd];rfl
   simpa using this
  have hd':ops.toList.drop (i+1)=l:=by rw [<- List.tail_drop,hd];rfl
  have h:MH E ih' f rid ops i o false T (fun T _ _=>ArL E ih' f rid ops l (Nat.succ i) T K)=some r:=h;obtain ⟨S1,T1,rd,wr,h1,_,h2,hn,h3,_⟩:=OJ hi ho hr h;obtain ⟨S',T',h4,h5,hn2,h6⟩:=ihl (i+1) hd' h2 h3;refine ⟨S',T',?_,h5,hn2.trans hn,h6⟩;rw [AB3,List.range'_succ];simp only [JX,h1,Option.bind_some];exact h4
theorem AnF {l:List (List Ref×List Ref)} {rd wr:List Ref} {a:Option β} (h:Ab l rd wr a=some r):(∀q∈l,clash q (rd,wr)=true)/\a=some r:=by
 induction l with
 | nil=>exact ⟨fun q hq=>(by cases hq),h⟩
 | cons p l ih =>
  obtain ⟨q1,q2⟩:=p;have h:cond (V3 q2 rd) (cond (V3 q2 wr) (cond (V3 wr q1) (Ab l rd wr a) none) none) none=some r:=h;obtain ⟨h1,h⟩:=DF h;obtain ⟨h2,h⟩:=DF h;obtain ⟨h3,h⟩:=DF h;rw [AlT] at h1 h2 h3;obtain ⟨h4,h5⟩:=ih h;refine ⟨fun q hq=>?_,h5⟩;rcases List.mem_cons.1 hq with rfl | hq
  ·simp only [clash,h1,h2,h3,Bool.and_self]
  ·exact h4 q hq
theorem Ahw {b:Nat} {done:List (Nat×List Ref×List Ref)} {j:Nat} {q:List Ref×List Ref} (h:(j,q)∈done) (hj:b.testBit j=false):q∈US b done:=by
 induction done with
 | nil=>cases h
 | cons p l ih =>
  obtain ⟨j',q'⟩:=p
  show q∈cond (b.testBit j') (US b l) (q'::US b l)
  rcases List.mem_cons.1 h with e | h
  ·simp only [AB0] at e;obtain ⟨rfl,rfl⟩:=e;rw [hj];exact List.mem_cons_self
  ·cases b.testBit j' with
   | true=>exact ih h
   | false=>exact List.mem_cons_of_mem _ (ih h)
theorem Ame (hi:∀f args h x,ih' f args h=some x->ih f args h=some x) {ops:Array Oper} {before:Array Nat}:∀(l:List Oper) (i:Nat),ops.toList.drop i=l->∀{T:FS} {S:St} (done full:List (Nat×List Ref×List Ref)),
  (∀x∈full,x.2=([],[])\/x∈done)->Rep T S->∀{K:FS->Option β},AaZ E ih' f rid ops before l i done T K=some r ->
  ∃S' T',FD E ih f rid ops before (List.range' i l.length) full S=some S'/\Rep T' S'/\T'.n=T.n/\K T'=some r:=by
 intro l
 induction l with
 | nil=>intro i _ T S done full _ hr K h;exact ⟨S,T,rfl,hr,rfl,h⟩
 | cons o l ihl =>
  intro i hd T S done full hf hr K h;have ho:ops[i]?=some o:=by
   have:ops.toList[i]?=some o:=by rw [<- List.head?_drop,hd];rfl
   simpa using this
  have hd':ops.toList.drop (i+1)=l:=by rw [<- List.tail_drop,hd];rfl
  have h:U0 (Ga E o.op) (MH E ih' f rid ops i o true T fun T _ _=>AaZ E ih' f rid ops before l (Nat.succ i) done T K)
   (MH E ih' f rid ops i o true T fun T rd wr=>Ab (US (before.getD i 0) done) rd wr (AaZ E ih' f rid ops before l (Nat.succ i) ((i,rd,wr)::done) T K))=some r:=h
  rw [BI] at h;rw [AB3,List.range'_succ];cases hq:Ga E o.op with
  | true =>
   rw [hq] at h;simp only [cond] at h;obtain ⟨S1,T1,rd,wr,_,h1,h2,hn,h3,h4⟩:=OJ hi ho hr h;have h1:=h1 rfl;obtain ⟨rfl,rfl⟩:=h4 hq;obtain ⟨S',T',h4,h5,hn2,h6⟩:=ihl (i+1) hd' done ((i,[],[])::full) (fun x hx=>by
    rcases List.mem_cons.1 hx with rfl | hx
    ·exact .inl rfl
    ·exact hf x hx) h2 h3
   refine ⟨S',T',?_,h5,hn2.trans hn,h6⟩;simp only [FD,h1]
   have:(full.all fun x=>(before.getD i 0).testBit x.1 || clash x.2 ([],[]))=true:=List.all_eq_true.2 fun x _=>by rw [AhA];simp
   rw [if_pos this];exact h4
  | false =>
   rw [hq] at h;simp only [cond] at h;obtain ⟨S1,T1,rd,wr,_,h1,h2,hn,h3,_⟩:=OJ hi ho hr h;have h1:=h1 rfl;obtain ⟨hc,h3⟩:=AnF h3;obtain ⟨S',T',h4,h5,hn2,h6⟩:=ihl (i+1) hd' ((i,rd,wr)::done) ((i,rd,wr)::full) (fun x hx=>by
    rcases List.mem_cons.1 hx with rfl | hx
    ·exact .inr List.mem_cons_self
    ·exact (hf x hx).imp id (List.mem_cons_of_mem _)) h2 h3
   refine ⟨S',T',?_,h5,hn2.trans hn,h6⟩;simp only [FD,h1]
   have:(full.all fun x=>(before.getD i 0).testBit x.1 || clash x.2 (rd,wr))=true:=List.all_eq_true.2 fun x hx=>by
    rcases hf x hx with e | e
    ·rw [e,AhT];simp
    ·cases hb:(before.getD i 0).testBit x.1 with
     | true=>rfl
     | false=>rw [hc x.2 (Ahw (j:=x.1) e hb)];rfl
   rw [if_pos this];exact h4
theorem AiH (ks:List Nat) (l:List IV):(AY ks l).length=l.length:=by
 induction ks generalizing l with
 | nil=>rfl
 | cons i ks ih=>simp [AY,ih]
theorem Vh (ks:List Nat) (l:List IV) (i:Nat) (hi:i<l.length):(AY ks l).getD i .dead=if i∈ks then .dead else l.getD i .dead:=by
 induction ks generalizing l with
 | nil=>simp [AY]
 | cons j ks ih =>
  rw [AY,ih _ (by simpa using hi)];by_cases h:i∈ks
  ·rw [if_pos h,if_pos (List.mem_cons_of_mem _ h)]
  ·rw [if_neg h];by_cases e:i=j
   ·subst e;rw [if_pos List.mem_cons_self,List.getD_eq_getElem?_getD,List.getElem?_set_self hi];rfl
   ·rw [if_neg (by simp [e,h]),List.getD_eq_getElem?_getD,List.getElem?_set_ne (Ne.symm e),<- List.getD_eq_getElem?_getD]
structure AtHead (n:Nat) (kills:List Nat) (vals:List IV) (h:Hp) (S:St):Prop where
 len:S.slots.length=n
 hp:S.hp=h
 vals:vals=(C2 n kills).map fun i=>S.slots.getD i .dead
 dead:∀i,i<n->i∈kills->S.slots.getD i .dead=.dead
theorem Pm {n:Nat} {kills:List Nat} {i:Nat}:i∈C2 n kills ↔ i<n/\i ∉ kills:=by
 simp [C2]
theorem I6 {T:FS} {S:St} (hr:Rep T S) (kills:List Nat) (h:Hp):AtHead T.n kills ((C2 T.n kills).map T.get) h ⟨AY kills S.slots,h⟩:=by
 refine ⟨by simp [AiH,hr.len],rfl,?_,fun i hi hk=>?_⟩
 ·apply List.map_congr_left;intro i hi
  have:=Pm.1 hi
  rw [hr.at_];simp only;rw [Vh _ _ _ (by rw [hr.len];exact this.1),if_neg this.2]
 ·simp only;rw [Vh _ _ _ (by rw [hr.len];exact hi),if_pos hk]
theorem T9 {l:List IV}:∀(g:Nat->Bool) (n:Nat),l.length=n->(∀i,i<n->g i=false->l.getD i .dead=.dead) ->
  IV.refs.refsL (((List.range n).filter g).map fun i=>l.getD i .dead)=IV.refs.refsL l:=by
 intro g n
 induction n generalizing l g with
 | zero=>intro hl _;cases l with | nil=>rfl | cons _ _=>cases hl
 | succ n ih =>
  intro hl hd;cases l with
  | nil=>cases hl
  | cons x l =>
   simp only [AB3,Nat.add_right_cancel_iff] at hl;rw [List.range_succ_eq_map];have ih:=ih (l:=l) (fun i=>g (i+1)) hl (fun i hi hg=>by simpa using hd (i+1) (by omega) hg);have e:(((List.range n).map Nat.succ).filter g).map (fun i=>(x::l).getD i .dead)=(((List.range n).filter fun i=>g (i+1))).map fun i=>l.getD i .dead:=by
    rw [List.filter_map,List.map_map];rfl
   cases hg:g 0 with
   | true =>
    rw [List.filter_cons_of_pos hg,AB5,e];simp only [IV.refs.refsL,ih];rfl
   | false =>
    rw [List.filter_cons_of_neg (by rw [hg];simp),e]
    have:x=.dead:=by simpa using hd 0 (by omega) hg
    subst this;simp only [IV.refs.refsL,ih];rfl
def N5 (rm:List Nat) (rs:List Ref) (h:Hp):Option Hp :=
 let held:=rs++(h.own.filter fun p=>!rm.contains p.1).flatMap (fun p=>p.2.refs)++h.ext.flatMap Blk.refs
 let gone:=rm.filter fun k=>!anyIn [k] held
 let h2:Hp:={ h with own:=h.own.filter fun p=>!gone.contains p.1 }
 if anyIn gone (rs++h2.own.flatMap (fun p=>p.2.refs)++h2.ext.flatMap Blk.refs) then none else some h2
theorem ApT {α γ:Type} {c c':Bool} {y:α} (g:α->γ) (h:c=c'):(if c=true then none else some (g y))=(if c'=true then none else some y).map g:=by
 subst h;cases c<;>rfl
theorem HZ {base kills rm:List Nat} {sl:List IV} {h:Hp} (hb:rm.any base.contains=false) (ha:(h.own.all fun p=>!rm.contains p.1)=false) :
  CL base kills rm ⟨sl,h⟩=(N5 rm (IV.refs.refsL (AY kills sl)) h).map fun h'=>⟨AY kills sl,h'⟩:=by
 simp only [CL,hb,ha,Bool.false_eq_true,if_false,C9,N5];exact ApT _ rfl
theorem PJ {base rm:List Nat} {S1:St} {kills:List Nat} {sl:List IV} (hsl:IV.refs.refsL sl=IV.refs.refsL (AY kills S1.slots)) (hb:rm.any base.contains=false)
  (ha:(S1.hp.own.all fun p=>!rm.contains p.1)=false) {S:St} (h:CL base [] rm ⟨sl,S1.hp⟩=some S):CL base kills rm S1=some ⟨AY kills S1.slots,S.hp⟩:=by
 obtain ⟨s1,h1⟩:=S1;rw [HZ hb ha] at h;rw [HZ hb ha];simp only [AY] at h;rw [hsl] at h;cases hd:N5 rm (IV.refs.refsL (AY kills s1)) h1 with
 | none=>rw [hd] at h;cases h
 | some h' =>
  rw [hd] at h;simp only [AB2,ABZ] at h;subst h;rfl
theorem M9 (s:Nat) (l:List Nat):MP s l=l.contains s:=by
 induction l with
 | nil=>rfl
 | cons x l ih =>
  rw [show MP s (x::l)=cond (Nat.beq s x) true (MP s l) from rfl,HI,ih,List.contains_cons]
  by_cases e:s=x
  ·subst e;simp
  ·rw [if_neg e];simp [e]
theorem F8 {rm:List Nat}:∀{l:List Ref},Gd rm l=true->∀k∈rm,Ref.own k ∉ l
 | [],_,k,_,h=>by cases h
 | .ext j::l,h,k,hk,hm=>by
  rcases List.mem_cons.1 hm with e | hm
  ·cases e
  ·exact F8 (l:=l) h k hk hm
 | .own s::l,h,k,hk,hm=>by
  have h:cond (MP s rm) false (Gd rm l)=true:=h;cases hs:MP s rm with
  | true=>rw [hs] at h;cases h
  | false =>
   rw [hs] at h;rcases List.mem_cons.1 hm with e | hm
   ·simp only [Ref.own.injEq] at e;subst e;rw [M9] at hs;rw [List.contains_iff_mem.2 hk] at hs;cases hs
   ·exact F8 (l:=l) h k hk hm
theorem H1 {rm:List Nat}:∀{own:List (Nat×Blk)},Iw rm own=true->∀k∈rm,Ref.own k ∉ (own.filter fun p=>!rm.contains p.1).flatMap fun p=>p.2.refs
 | [],_,k,_,h=>by cases h
 | (s,b)::own,h,k,hk,hm=>by
  have h:cond (MP s rm) (Iw rm own) (cond (Gd rm (Fm b)) (Iw rm own) false)=true:=h;rw [M9,K1] at h;cases hs:rm.contains s with
  | true =>
   rw [hs] at h;rw [List.filter_cons_of_neg (by rw [hs];simp)] at hm;exact H1 (own:=own) h k hk hm
  | false =>
   rw [hs] at h;rw [List.filter_cons_of_pos (by rw [hs];rfl)] at hm;cases hf:Gd rm b.refs with
   | false=>rw [hf] at h;cases h
   | true =>
    rw [hf] at h;simp only [List.flatMap_cons,List.mem_append] at hm;rcases hm with hm | hm
    ·exact F8 hf k hk hm
    ·exact H1 (own:=own) h k hk hm
theorem NF {rm:List Nat}:∀{ext:List Blk},JM rm ext=true->∀k∈rm,Ref.own k ∉ ext.flatMap Blk.refs
 | [],_,k,_,h=>by cases h
 | b::ext,h,k,hk,hm=>by
  have h:cond (Gd rm (Fm b)) (JM rm ext) false=true:=h;rw [K1] at h;cases hf:Gd rm b.refs with
  | false=>rw [hf] at h;cases h
  | true =>
   rw [hf] at h;simp only [List.flatMap_cons,List.mem_append] at hm;rcases hm with hm | hm
   ·exact F8 hf k hk hm
   ·exact NF (ext:=ext) h k hk hm
theorem Nu {rm:List Nat}:∀(own:List (Nat×Blk)),Anx rm own=!(own.all fun p=>!rm.contains p.1)
 | []=>rfl
 | (s,b)::own=>by
  rw [show Anx rm ((s,b)::own)=cond (MP s rm) true (Anx rm own) from rfl,M9,Nu own,List.all_cons]
  cases rm.contains s<;>rfl
theorem H7 {rm:List Nat}:∀(own:List (Nat×Blk)) (k:List (Nat×Blk)->Option β),Uj rm own k=k (own.filter fun p=>!rm.contains p.1)
 | [],_=>rfl
 | (s,b)::own,k=>by
  rw [show Uj rm ((s,b)::own) k=cond (MP s rm) (Uj rm own k) (Uj rm own fun l=>k ((s,b)::l)) from rfl,M9]
  cases hs:rm.contains s with
  | true=>rw [List.filter_cons_of_neg (by rw [hs];simp)];exact H7 own k
  | false=>rw [List.filter_cons_of_pos (by rw [hs];rfl)];exact H7 own _
theorem Ey {ks:List Nat}:∀{l:List Ref},(∀k∈ks,Ref.own k ∉ l)->anyIn ks l=false
 | [],_=>rfl
 | .ext j::l,h=>Ey (l:=l) fun k hk hm=>h k hk (List.mem_cons_of_mem _ hm)
 | .own s::l,h=>by
  simp only [anyIn,Bool.or_eq_false_iff];refine ⟨?_,Ey (l:=l) fun k hk hm=>h k hk (List.mem_cons_of_mem _ hm)⟩;cases hc:ks.contains s with
  | false=>rfl
  | true=>exact absurd List.mem_cons_self (h s (List.contains_iff_mem.1 hc))
theorem Vw {rm:List Nat} {rs:List Ref} {own:List (Nat×Blk)} {ext:List Blk} (h1:∀k∈rm,Ref.own k ∉ rs) (h2:Iw rm own=true) (h3:JM rm ext=true) :
  N5 rm rs ⟨own,ext⟩=some ⟨own.filter fun p=>!rm.contains p.1,ext⟩:=by
 have h2:=H1 h2;have h3:=NF h3;have hh:∀k∈rm,Ref.own k ∉ rs++(own.filter fun p=>!rm.contains p.1).flatMap (fun p=>p.2.refs)++ext.flatMap Blk.refs:=fun k hk hm=>by
  rcases List.mem_append.1 hm with hm | hm
  ·rcases List.mem_append.1 hm with hm | hm
   ·exact h1 k hk hm
   ·exact h2 k hk hm
  ·exact h3 k hk hm
 have hg:(rm.filter fun k=>!anyIn [k] (rs++(own.filter fun p=>!rm.contains p.1).flatMap (fun p=>p.2.refs)++ext.flatMap Blk.refs))=rm:=by
  apply List.filter_eq_self.2;intro k hk;rw [Ey fun j hj hm=>hh j (by simp only [List.mem_singleton] at hj;rw [hj];exact hk) hm];rfl
 simp only [N5,hg];rw [Ey hh];rfl
theorem Uz {base kills rm:List Nat} {T:FS} {S:St} (hr:Rep T S) {k:List IV->Hp->Option β} (h:QL base kills rm T k=some r) :
  ∃S' vals hp,CL base kills rm S=some S'/\AtHead T.n kills vals hp S'/\k vals hp=some r:=by
 unfold QL at h;split at h
 ·refine ⟨⟨AY kills S.slots,T.hp⟩,_,_,?_,I6 hr kills T.hp,h⟩;simp [CL,hr.hp]
 ·rename_i q rm;generalize hrm:q::rm=rm' at h ⊢;have hv:=I6 hr kills S.hp;unfold Bx at h;rw [<- hr.hp] at h;cases hb:rm'.any base.contains with
  | true=>rw [hb] at h;cases h
  | false =>
   rw [hb] at h;obtain ⟨sl,hp0⟩:=S;obtain ⟨own,ext⟩:=hp0;simp only [cond] at h;have hsl:IV.refs.refsL ((C2 T.n kills).map T.get)=IV.refs.refsL (AY kills sl):=by
    rw [hv.vals];exact T9 _ _ (by simpa using hv.len) (fun i hi hg=>hv.dead i hi (by simpa using hg))
   rw [Nu] at h;cases ha:(own.all fun p=>!rm'.contains p.1) with
   | true =>
    rw [ha] at h;refine ⟨⟨AY kills sl,⟨own,ext⟩⟩,_,_,?_,hv,h⟩;simp only [CL,hb,Bool.false_eq_true,if_false,ha,if_true]
   | false =>
    rw [ha] at h;simp only [Bool.not_false] at h;cases hf:(and (Gd rm' (CK ((C2 T.n kills).map T.get) [])) (and (Iw rm' own) (JM rm' ext))) with
    | true =>
     rw [hf] at h;simp only at h;have hf:(Gd rm' (CK ((C2 T.n kills).map T.get) []) && (Iw rm' own && JM rm' ext))=true:=hf;simp only [Bool.and_eq_true] at hf;rw [H7] at h;have h1:=F8 hf.1;rw [refsDL_eq,List.append_nil,hsl] at h1;refine ⟨⟨AY kills sl,⟨own.filter fun p=>!rm'.contains p.1,ext⟩⟩,_,_,?_,I6 hr kills _,h⟩;rw [HZ hb ha,Vw h1 hf.2.1 hf.2.2];rfl
    | false =>
     rw [hf] at h;simp only at h;split at h
     ·cases h
     ·rename_i S2 hd;rw [MG] at h;exact ⟨⟨AY kills sl,S2.hp⟩,_,_,PJ (S1:=⟨sl,⟨own,ext⟩⟩) (sl:=(C2 T.n kills).map T.get) hsl hb ha hd,I6 hr kills S2.hp,h⟩
theorem Af2:∀(cs:List Nat) (vals:List IV) (T:FS) {K:FS->Option β},(∀i∈cs,i<T.n)->(∀i,i<T.n->T.t.has i=true)->VX cs vals T K=some r ->
  ∃T',T'.n=T.n/\T'.hp=T.hp/\(∀i,i<T.n->T'.t.has i=true)/\K T'=some r/\∀g:Nat->IV,vals=cs.map g->∀i,i<T.n->T'.t.get i=if i∈cs then g i else T.t.get i
 | [],vals,T,K,_,hh,h=>⟨T,rfl,rfl,hh,h,fun g _ i _=>by simp⟩
 | c::cs,vals,T,K,hc,hh,h=>by
  have h:AD vals (fun v vals=>KJ (some c) v T.hp T fun T=>VX cs vals T K)=some r:=h;have eK:(fun (v:IV) vals=>KJ (some c) v T.hp T fun T=>VX cs vals T K)=fun v vals=>VX cs vals (SJ (some c) v T) K:=by
   funext v vals
   rw [OB,R0]
  rw [eK] at h;cases vals with
  | nil=>cases h
  | cons v vals =>
   have h:VX cs vals (SJ (some c) v T) K=some r:=h;have hcn:c<T.n:=hc c List.mem_cons_self;have hput:SJ (some c) v T=⟨T.n,T.t.set c v,T.hp⟩:=by
    simp only [SJ];cases hb:Nat.ble T.n c with
    | true=>have:=Bo hb;omega
    | false=>rfl
   rw [hput] at h;obtain ⟨T',h1,h2,h3,h4,h5⟩:=Af2 cs vals ⟨T.n,T.t.set c v,T.hp⟩ (fun i hi=>hc i (List.mem_cons_of_mem _ hi)) (fun i hi=>by rw [Aei];exact hh i hi) h;refine ⟨T',h1,h2,h3,h4,fun g hg i hi=>?_⟩;simp only [AB5,List.cons.injEq] at hg;rw [h5 g hg.2 i hi];by_cases hm:i∈cs
   ·rw [if_pos hm,if_pos (List.mem_cons_of_mem _ hm)]
   ·rw [if_neg hm];simp only;rw [AfE _ _ _ (hh c hcn)];by_cases e:i=c
    ·subst e;rw [if_pos rfl,if_pos List.mem_cons_self,hg.1]
    ·rw [if_neg e,if_neg (by simp [e,hm])]
theorem AoJ {n:Nat} (hn:n<=1024) {kills:List Nat} {vals:List IV} {h:Hp} {S:St} (ha:AtHead n kills vals h S) {K:FS->Option β} (e:VX (C2 n kills) vals ⟨n,dT 10 0 n,h⟩ K=some r) :
  ∃T',T'.n=n/\Rep T' S/\K T'=some r:=by
 obtain ⟨T',h1,h2,h3,h4,h5⟩:=Af2 (C2 n kills) vals ⟨n,dT 10 0 n,h⟩ (fun i hi=>(Pm.1 hi).1) (fun i hi=>(Ad0 10 0 n i (by simpa using hn) (Nat.zero_le _) (by simpa using hi)).1) e;refine ⟨T',h1,⟨by rw [ha.hp,h2],by rw [ha.len,h1],fun i hi=>h3 i (by rw [h1] at hi;exact hi),fun i hi=>?_⟩,h4⟩;rw [h1] at hi;rw [h5 _ ha.vals i hi];by_cases hm:i∈C2 n kills
 ·rw [if_pos hm]
 ·rw [if_neg hm];have hk:i∈kills:=Classical.byContradiction fun hk=>hm (Pm.2 ⟨hi,hk⟩);rw [ha.dead i hi hk];exact (Ad0 10 0 n i (by simpa using hn) (Nat.zero_le _) (by simpa using hi)).2
theorem Ajy (hi:∀f args h x,ih' f args h=some x->ih f args h=some x) {n:Nat} {base:List Nat}:∀(c:Code) {T:FS} {S:St},Rep T S->T.n<=1024->∀{K:Ex->FS->Option β},F7 E ih' f n base c T K=some r ->
  ∃ex S' T',Dz E ih f n base c S=some (ex,S')/\Rep T' S'/\T'.n=T.n/\K ex T'=some r:=by
 intro c
 induction c with
 | skip=>intro T S hr _ K h;exact ⟨_,S,T,rfl,hr,rfl,h⟩
 | region rid ops d =>
  intro T S hr _ K h;simp only [F7,BI] at h;simp only [Dz];rw [List.range_eq_range'];cases d with
  | true =>
   obtain ⟨S',T',h1,h2,h3,h4⟩:=Ame hi ops.toList 0 rfl [] [] (fun x hx=>by cases hx) hr h;simp only [Array.length_toList] at h1;exact ⟨_,S',T',by simp only [if_true,h1,AB2],h2,h3,h4⟩
  | false =>
   obtain ⟨S',T',h1,h2,h3,h4⟩:=An3 hi ops.toList 0 rfl hr h;simp only [Array.length_toList] at h1;exact ⟨_,S',T',by simp only [Bool.false_eq_true,if_false,h1,AB2],h2,h3,h4⟩
 | seq x y ihx ihy =>
  intro T S hr hl K h;simp only [F7,BI] at h;obtain ⟨ex,S1,T1,h1,h2,hn,h3⟩:=ihx hr hl h;simp only [Dz,h1];cases ex with
  | normal =>
   obtain ⟨ex,S2,T2,h4,h5,hn2,h6⟩:=ihy h2 (by rw [hn];exact hl) h3;exact ⟨ex,S2,T2,h4,h5,hn2.trans hn,h6⟩
  | exit j=>exact ⟨_,_,_,rfl,h2,hn,h3⟩
  | ret=>exact ⟨_,_,_,rfl,h2,hn,h3⟩
 | cond c x y ihx ihy =>
  intro T S hr hl K h;simp only [F7,BI,ME hr] at h;obtain ⟨t,ht,h⟩:=Ut h;cases t with
  | true=>simp only [Dz,ht];exact ihx hr hl h
  | false=>simp only [Dz,ht];exact ihy hr hl h
 | block id x ihx =>
  intro T S hr hl K h;simp only [F7,BI] at h;obtain ⟨ex,S1,T1,h1,h2,hn,h3⟩:=ihx hr hl h;simp only [Dz,h1];cases ex with
  | normal=>exact ⟨_,_,_,rfl,h2,hn,h3⟩
  | exit j =>
   simp only [HI] at h3 ⊢;by_cases e:j=id
   ·rw [if_pos e] at h3;rw [if_pos e];exact ⟨_,_,_,rfl,h2,hn,h3⟩
   ·rw [if_neg e] at h3;rw [if_neg e];exact ⟨_,_,_,rfl,h2,hn,h3⟩
  | ret=>exact ⟨_,_,_,rfl,h2,hn,h3⟩
 | loop x ihx =>
  intro T S hr hl K h;simp only [F7,BI] at h;simp only [Dz];generalize (E.pol.head f (Ca x)).1=kills at h ⊢;generalize (E.pol.head f (Ca x)).2=rm at h ⊢;generalize hF:(fun (rec:List IV->Hp->Option β) vals h=>VX (C2 T.n kills) vals ⟨T.n,dT 10 0 T.n,h⟩ fun T=>F7 E ih' f n base x T fun ex T=>match ex with
   | .normal=>QL base kills rm T rec
   | .exit j=>K (.exit j) T
   | .ret=>K .ret T)=F at h
  have key:∀(k:Nat) (S1:St) (T1:FS),Rep T1 S1->T1.n=T.n->QL base kills rm T1 (BH k F)=some r ->
    ∃ex S' T',iterate (CL base kills rm) (Dz E ih f n base x) k S1=some (ex,S')/\Rep T' S'/\T'.n=T.n/\K ex T'=some r:=by
   intro k
   induction k with
   | zero =>
    intro S1 T1 hr1 hn1 h;obtain ⟨S2,vals,hp,_,_,h⟩:=Uz hr1 h;cases h
   | succ k ihk =>
    intro S1 T1 hr1 hn1 h;obtain ⟨S2,vals,hp,h1,h2,h⟩:=Uz hr1 h;have h:F (BH k F) vals hp=some r:=h;rw [<- hF] at h;rw [hn1] at h2;simp only at h;obtain ⟨T2,hn2,hr2,h⟩:=AoJ hl h2 h;obtain ⟨ex,S3,T3,h3,hr3,hn3,h⟩:=ihx hr2 (by rw [hn2];exact hl) h;simp only [iterate,h1,Option.bind_some,h3];cases ex with
    | normal =>
     simp only at h;rw [hF] at h;exact ihk S3 T3 hr3 (hn3.trans hn2) h
    | exit j=>exact ⟨_,_,_,rfl,hr3,hn3.trans hn2,h⟩
    | ret=>exact ⟨_,_,_,rfl,hr3,hn3.trans hn2,h⟩
  exact key n S T hr rfl h
 | exit id=>intro T S hr _ K h;exact ⟨_,S,T,rfl,hr,rfl,h⟩
 | ret=>intro T S hr _ K h;exact ⟨_,S,T,rfl,hr,rfl,h⟩
 | _=>intro T S hr _ K h;simp only [F7,BI] at h;cases h
theorem AlE {agg:Bool} {size:Nat} {a:IV} {hp:Hp} {k:IV->Option β} (h:Ar agg size a hp k=some r) :
  ∃v,(match a with
   | .ptr q off=>match hp.get q with
    | some (.row cells _)=>Cl agg size off cells
    | _=>none
   | .fv (.fp cells off)=>(Br agg size off cells).map .fv
   | _=>none)=some v/\k v=some r:=by
 cases agg with
 | true =>
  have h:Ad size a hp (fun v _=>k v)=some r:=h;unfold Ad at h;rcases DC h with ⟨q,o,rfl,g'⟩ | ⟨cs,o,rfl,g'⟩<;>replace h:=g'<;>clear g'
  ·rw [EI] at h;obtain ⟨b,hb,h⟩:=Bs h;obtain ⟨cells,ro,rfl,g'⟩:=Hk h;replace h:=g';clear g';obtain ⟨h1,h2⟩:=Qe h;exact ⟨_,by simp only [hb,h1],h2⟩
  ·obtain ⟨h1,h2⟩:=ON h;exact ⟨_,by simp only [h1,AB2],h2⟩
 | false =>
  have h:Ah a hp (fun v _=>k v)=some r:=h;unfold Ah at h;rcases DC h with ⟨q,o,rfl,g'⟩ | ⟨cs,o,rfl,g'⟩<;>replace h:=g'<;>clear g'
  ·rw [EI] at h;obtain ⟨b,hb,h⟩:=Bs h;obtain ⟨cells,ro,rfl,g'⟩:=Hk h;replace h:=g';clear g';rw [De] at h;obtain ⟨v,hv,h⟩:=Bs h;exact ⟨_,by simp only [hb,Cl,Bool.false_eq_true,if_false,hv],h⟩
  ·rw [De] at h;obtain ⟨v,hv,h⟩:=Bs h;exact ⟨_,by simp only [Br,Bool.false_eq_true,if_false,hv,AB2],h⟩
theorem TB {T:FS} {S:St} (hr:Rep T S):∀(rs:List ResultVar) (acc:List IV) {k:List IV->Option β},Aij E T rs acc k=some r->∃vs,GM E S rs=some vs/\k (acc++vs)=some r
 | [],acc,k,h=>⟨[],rfl,by rw [List.append_nil];exact h⟩
 | .tmp t::rs,acc,k,h=>by
  have h:Aij E T rs (acc++[T.get t]) k=some r:=h;obtain ⟨vs,h1,h2⟩:=TB hr rs _ h;refine ⟨T.get t::vs,?_,by simpa using h2⟩;simp only [GM,J4,Option.bind_some,h1,AB2,hr.at_]
 | .cell a t::rs,acc,k,h=>by
  have h:(match E.T t with
   | none=>none
   | some ti=>Ar ti.kind.isAgg ti.size (T.get a) T.hp fun v=>Aij E T rs (acc++[v]) k)=some r:=h
  cases ht:E.T t with
  | none=>rw [ht] at h;cases h
  | some ti =>
   rw [ht] at h;obtain ⟨v,h1,h⟩:=AlE h;obtain ⟨vs,h2,h3⟩:=TB hr rs _ h;refine ⟨v::vs,?_,by simpa using h3⟩
   have:J4 E S (.cell a t)=some v:=by
    simp only [J4,ht,<- hr.at_,hr.hp];rw [<- h1];cases T.get a with
    | fv w=>cases w<;>rfl
    | _=>rfl
   simp only [GM,this,Option.bind_some,h2,AB2]
theorem Aoz {FT:Nat->Option Func} (hFT:∀f fn,FT f=some fn->E.P.funcs[f]?=some fn) {n:Nat} {sh:Aj} (hi:∀f args h x,sh f args h=some x->run E n f args h=some x) {args:List IV} {h:Hp} {x:IV×Hp}
  (e:Au E sh FT n f args h=some x):run E (n+1) f args h=some x:=by
 unfold Au at e;simp only [BI] at e;simp only [run];cases hf:FT f with
 | none=>rw [hf] at e;cases e
 | some fn =>
  rw [hf] at e;rw [hFT f fn hf];simp only at e ⊢;cases hc:fn.body with
  | none=>rw [hc] at e;cases e
  | some c =>
   rw [hc] at e;simp only at e ⊢;obtain ⟨hl,e⟩:=DF e;rw [Qm] at e;simp only [Bool.and_eq_true] at hl;have hl1:=Bo hl.1;have hl2:=Bo hl.2;have hrep0:Rep ⟨fn.ntmps,dT 10 0 fn.ntmps,h⟩ ⟨List.replicate fn.ntmps .dead,h⟩:=by
    refine ⟨rfl,by simp,fun i hi=>(Ad0 10 0 fn.ntmps i (by simpa using hl2) (Nat.zero_le _) (by simpa using hi)).1,fun i hi=>?_⟩;rw [(Ad0 10 0 fn.ntmps i (by simpa using hl2) (Nat.zero_le _) (by simpa using hi)).2,List.getD_eq_getElem?_getD,List.getElem?_replicate];simp [hi]
   obtain ⟨T0,h1,h2⟩:=Alr args 0 (K:=_) hrep0;rw [h1] at e;have hs:LQ args 0 (List.replicate fn.ntmps .dead)=args++List.replicate (fn.ntmps - args.length) .dead:=by
    apply List.ext_getElem?;intro j;rw [Mu _ _ _ _ (by simpa using hl1)];by_cases hj:j<args.length
    ·rw [if_pos (by omega),List.getElem?_append_left hj];simp
    ·rw [if_neg (by omega),List.getElem?_append_right (by omega),List.getElem?_replicate,List.getElem?_replicate];by_cases hj2:j<fn.ntmps
     ·rw [if_pos hj2,if_pos (by omega)]
     ·rw [if_neg hj2,if_neg (by omega)]
   simp only [hs] at h2;have hT0:T0.n<=1024:=by
    have:=h2.len
    simp at this;omega
   obtain ⟨ex,S',T',h3,h4,_,h5⟩:=Ajy hi c h2 hT0 e;rw [h3];have hres:(Aij E T' fn.results.toList [] fun vs=>Al vs T'.hp)=some x->(Hb E S' fn.results.toList).map (fun v=>(v,S'.hp))=some x:=by
    intro h;obtain ⟨vs,h1,h⟩:=TB h4 _ _ h;rw [List.nil_append] at h;simp only [Hb,h1,AB2,h4.hp]
    match vs,h with
    | [],h=>simp only [Al,Acl] at h;exact h
    | [v],h=>exact h
    | v::w::l,h=>simp only [Al,Acl] at h;exact h
   cases ex with
   | exit j=>cases h5
   | normal=>exact hres h5
   | ret=>exact hres h5
end
end Idl
end Go.Proofs.Ytkfecngimlcfoaa
namespace Go.Proofs.Ytkfecngimlcfoaa
namespace Idl
section
variable {β:Type}
def Vp {α:Type} (l:List α) (a:Option β):Option β:=List.casesOn (motive:=fun _=>Option β) l a fun _ _=>none
def PD (g:Hp->Option β) (args:List IV) (h:Hp):Option β:=Vp args (g h)
def Mq (g:IV->Hp->Option β) (args:List IV) (h:Hp):Option β:=AD args fun a l=>Vp l (g a h)
def G9 (g:IV->IV->Hp->Option β) (args:List IV) (h:Hp):Option β:=AD args fun a l=>AD l fun b l=>Vp l (g a b h)
def ar3 (g:IV->IV->IV->Hp->Option β) (args:List IV) (h:Hp):Option β:=AD args fun a l=>AD l fun b l=>AD l fun c l=>Vp l (g a b c h)
def V6 (g:IV->IV->IV->IV->Hp->Option β) (args:List IV) (h:Hp):Option β:=AD args fun a l=>AD l fun b l=>AD l fun c l=>AD l fun d l=>Vp l (g a b c d h)
def ar5 (g:IV->IV->IV->IV->IV->Hp->Option β) (args:List IV) (h:Hp):Option β:=AD args fun a l=>AD l fun b l=>AD l fun c l=>AD l fun d l=>AD l fun e l=>Vp l (g a b c d e h)
def ar6 (g:IV->IV->IV->IV->IV->IV->Hp->Option β) (args:List IV) (h:Hp):Option β:=AD args fun a l=>AD l fun b l=>AD l fun c l=>AD l fun d l=>AD l fun e l=>AD l fun f l=>Vp l (g a b c d e f h)
theorem Cg {α:Type} {l:List α} {k:α->List α->Option β} {r:β} (h:AD l k=some r):∃a t,l=a::t/\k a t=some r:=by
 cases l with
 | nil=>cases h
 | cons a t=>exact ⟨a,t,rfl,h⟩
theorem J6 {α:Type} {l:List α} {a:Option β} {r:β} (h:Vp l a=some r):l=[]/\a=some r:=by
 cases l with
 | nil=>exact ⟨rfl,h⟩
 | cons _ _=>cases h
variable {F:List IV->Hp->Option β} {args:List IV} {h:Hp} {r:β}
theorem WD {g:Hp->Option β} (hg:∀h,F [] h=g h) (e:PD g args h=some r):F args h=some r:=by
 obtain ⟨rfl,e9⟩:=J6 e;rw [hg];exact e9
theorem BN {g:IV->Hp->Option β} (hg:∀a h,F [a] h=g a h) (e:Mq g args h=some r):F args h=some r:=by
 obtain ⟨a,l1,rfl,e1⟩:=Cg e;obtain ⟨rfl,e9⟩:=J6 e1;rw [hg];exact e9
theorem A3 {g:IV->IV->Hp->Option β} (hg:∀a b h,F [a,b] h=g a b h) (e:G9 g args h=some r):F args h=some r:=by
 obtain ⟨a,l1,rfl,e1⟩:=Cg e;obtain ⟨b,l2,rfl,e2⟩:=Cg e1;obtain ⟨rfl,e9⟩:=J6 e2;rw [hg];exact e9
theorem Fi {g:IV->IV->IV->Hp->Option β} (hg:∀a b c h,F [a,b,c] h=g a b c h) (e:ar3 g args h=some r):F args h=some r:=by
 obtain ⟨a,l1,rfl,e1⟩:=Cg e;obtain ⟨b,l2,rfl,e2⟩:=Cg e1;obtain ⟨c,l3,rfl,e3⟩:=Cg e2;obtain ⟨rfl,e9⟩:=J6 e3;rw [hg];exact e9
theorem DN {g:IV->IV->IV->IV->Hp->Option β} (hg:∀a b c d h,F [a,b,c,d] h=g a b c d h) (e:V6 g args h=some r):F args h=some r:=by
 obtain ⟨a,l1,rfl,e1⟩:=Cg e;obtain ⟨b,l2,rfl,e2⟩:=Cg e1;obtain ⟨c,l3,rfl,e3⟩:=Cg e2;obtain ⟨d,l4,rfl,e4⟩:=Cg e3;obtain ⟨rfl,e9⟩:=J6 e4;rw [hg];exact e9
theorem Ayx {g:IV->IV->IV->IV->IV->Hp->Option β} (hg:∀a b c d x h,F [a,b,c,d,x] h=g a b c d x h) (e:ar5 g args h=some r):F args h=some r:=by
 obtain ⟨a,l1,rfl,e1⟩:=Cg e;obtain ⟨b,l2,rfl,e2⟩:=Cg e1;obtain ⟨c,l3,rfl,e3⟩:=Cg e2;obtain ⟨d,l4,rfl,e4⟩:=Cg e3;obtain ⟨x,l5,rfl,e5⟩:=Cg e4;obtain ⟨rfl,e9⟩:=J6 e5;rw [hg];exact e9
theorem Ayj {g:IV->IV->IV->IV->IV->IV->Hp->Option β} (hg:∀a b c d x y h,F [a,b,c,d,x,y] h=g a b c d x y h) (e:ar6 g args h=some r):F args h=some r:=by
 obtain ⟨a,l1,rfl,e1⟩:=Cg e;obtain ⟨b,l2,rfl,e2⟩:=Cg e1;obtain ⟨c,l3,rfl,e3⟩:=Cg e2;obtain ⟨d,l4,rfl,e4⟩:=Cg e3;obtain ⟨x,l5,rfl,e5⟩:=Cg e4;obtain ⟨y,l6,rfl,e6⟩:=Cg e5;obtain ⟨rfl,e9⟩:=J6 e6;rw [hg];exact e9
end
abbrev Sh:=Aj->Nat->List IV->Hp->Option (IV×Hp)
inductive DT where
 | nil
 | leaf (f:Nat) (g:Sh)
 | node (m:Nat) (l r:DT)
def DT.call (t:DT):Nat->Sh :=
 DT.rec (motive:=fun _=>Nat->Sh) (fun _ _ _ _ _=>none) (fun f g i=>cond (Nat.beq i f) g fun _ _ _ _=>none) (fun m _ _ gl gr i=>cond (Nat.ble m i) (gr i) (gl i)) t
def SS (t:DT) (n:Nat):Aj:=Nat.rec (motive:=fun _=>Aj) (fun _ _ _=>none) (fun n ih f args h=>t.call f ih n args h) n
def Axs (E:Env) (FT:Nat->Option Func) (f:Nat) (g:Sh):Prop:=∀ih n args h x,g ih n args h=some x->Au E ih FT n f args h=some x
def DT.Ok (E:Env) (FT:Nat->Option Func):DT->Prop
 | .nil=>True
 | .leaf f g=>Axs E FT f g
 | .node _ l r=>l.Ok E FT/\r.Ok E FT
theorem DT.call_ok {E:Env} {FT:Nat->Option Func} {t:DT} (ht:t.Ok E FT):∀f,Axs E FT f (t.call f):=by
 induction t with
 | nil=>intro f ih n args h x e;cases e
 | leaf j g =>
  intro f ih n args h x e;have e:(cond (Nat.beq f j) g fun _ _ _ _=>none) ih n args h=some x:=e;cases hb:Nat.beq f j with
  | false=>rw [hb] at e;cases e
  | true=>rw [hb] at e;rw [Eh hb];exact ht ih n args h x e
 | node m l r ihl ihr =>
  intro f ih n args h x e;have e:(cond (Nat.ble m f) (r.call f) (l.call f)) ih n args h=some x:=e;cases hb:Nat.ble m f with
  | true=>rw [hb] at e;exact ihr ht.2 f ih n args h x e
  | false=>rw [hb] at e;exact ihl ht.1 f ih n args h x e
theorem AxC {E:Env} {FT:Nat->Option Func} (hFT:∀f fn,FT f=some fn->E.P.funcs[f]?=some fn) {t:DT} (ht:t.Ok E FT):∀n f args h x,SS t n f args h=some x->run E n f args h=some x:=by
 intro n
 induction n with
 | zero=>intro f args h x e;cases e
 | succ n ihn=>intro f args h x e;exact Aoz hFT ihn (DT.call_ok ht f _ _ _ _ _ e)
end Idl
end Go.Proofs.Ytkfecngimlcfoaa

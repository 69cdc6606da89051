/-
  Texts of a proof, part 7: an ideal semantics of the program, its functions in shallow form, contracts of them. No statement of the seat is proved here.
-/
import Derived.Test.YtkfecngimlcfoaaChecked
import Derived.KernelRfl
import Derived.Test.YtkfecngimlcfoaaStagePlainK6
set_option linter.all false
noncomputable section
namespace Go.Proofs.Ytkfecngimlcfoaa
namespace Idl
def tab:TTree :=
 .node 66 (.node 16 (.node 9 (.node 5 (.node 3 (.leaf 2 ⟨1,8,.int .i64,[.fv (.int .i64 0)]⟩)
 (.node 4 (.leaf 3 ⟨1,8,.int .i64,[.fv (.int .i64 0)]⟩)
 (.leaf 4 ⟨1,1,.bool,[.fv (.bool false)]⟩)))
 (.node 6 (.leaf 5 ⟨1,1,.int .u8,[.fv (.int .u8 0)]⟩)
 (.node 8 (.leaf 6 ⟨1,1,.int .u8,[.fv (.int .u8 0)]⟩)
 (.leaf 8 ⟨4,24,.struct [(0,2),(1,3),(2,4),(3,6)],[.fv (.int .i64 0),.fv (.int .i64 0),.fv (.bool false),.fv (.int .u8 0)]⟩))))
 (.node 12 (.node 10 (.leaf 9 ⟨1,16,.str,[.fv (.str .empty)]⟩)
 (.node 11 (.leaf 10 ⟨1,16,.str,[.fv (.str .empty)]⟩)
 (.leaf 11 ⟨1,16,.str,[.fv (.str .empty)]⟩)))
 (.node 14 (.leaf 12 ⟨1,8,.int .u64,[.fv (.int .u64 0)]⟩)
 (.node 15 (.leaf 14 ⟨2,24,.struct [(0,9),(1,12)],[.fv (.str .empty),.fv (.int .u64 0)]⟩)
 (.leaf 15 ⟨1,8,.ptr,[.fv (.nilp)]⟩)))))
 (.node 28 (.node 22 (.node 17 (.leaf 16 ⟨1,8,.ptr,[.fv (.nilp)]⟩)
 (.node 19 (.leaf 17 ⟨1,8,.ptr,[.fv (.nilp)]⟩)
 (.leaf 19 ⟨1,8,.struct [(0,17)],[.fv (.nilp)]⟩)))
 (.node 24 (.leaf 22 ⟨1,24,.slice 24,[.nils]⟩)
 (.node 27 (.leaf 24 ⟨3,40,.struct [(0,3),(1,3),(2,22)],[.fv (.int .i64 0),.fv (.int .i64 0),.nils]⟩)
 (.leaf 27 ⟨1,24,.slice 69,[.nils]⟩))))
 (.node 40 (.node 30 (.leaf 28 ⟨1,24,.slice 30,[.nils]⟩)
 (.node 36 (.leaf 30 ⟨3,40,.struct [(0,3),(1,3),(2,28)],[.fv (.int .i64 0),.fv (.int .i64 0),.nils]⟩)
 (.leaf 36 ⟨1,8,.int .i64,[.fv (.int .i64 0)]⟩)))
 (.node 52 (.leaf 40 ⟨1,8,.func,[.fv (.nilf)]⟩)
 (.node 55 (.leaf 52 ⟨1,24,.slice 9,[.nils]⟩)
 (.leaf 55 ⟨1,8,.int .u64,[.fv (.int .u64 0)]⟩))))))
 (.node 100 (.node 86 (.node 80 (.node 69 (.leaf 66 ⟨2,16,.struct [(0,3),(1,3)],[.fv (.int .i64 0),.fv (.int .i64 0)]⟩)
 (.node 75 (.leaf 69 ⟨4,48,.struct [(0,3),(1,30)],[.fv (.int .i64 0),.fv (.int .i64 0),.fv (.int .i64 0),.nils]⟩)
 (.leaf 75 ⟨1,24,.slice 3,[.nils]⟩)))
 (.node 82 (.leaf 80 ⟨1,8,.ptr,[.fv (.nilp)]⟩)
 (.node 84 (.leaf 82 ⟨3,24,.struct [(0,3),(1,3),(2,3)],[.fv (.int .i64 0),.fv (.int .i64 0),.fv (.int .i64 0)]⟩)
 (.leaf 84 ⟨1,8,.ptr,[.fv (.nilp)]⟩))))
 (.node 94 (.node 88 (.leaf 86 ⟨1,8,.ptr,[.fv (.nilp)]⟩)
 (.node 93 (.leaf 88 ⟨2,16,.struct [(0,3),(1,3)],[.fv (.int .i64 0),.fv (.int .i64 0)]⟩)
 (.leaf 93 ⟨1,8,.ptr,[.fv (.nilp)]⟩)))
 (.node 96 (.leaf 94 ⟨1,8,.ptr,[.fv (.nilp)]⟩)
 (.node 98 (.leaf 96 ⟨1,8,.ptr,[.fv (.nilp)]⟩)
 (.leaf 98 ⟨1,8,.map 3 124,[.dead]⟩)))))
 (.node 124 (.node 116 (.node 112 (.leaf 100 ⟨5,40,.struct [(0,3),(1,3),(2,3),(3,36),(4,98)],[.fv (.int .i64 0),.fv (.int .i64 0),.fv (.int .i64 0),.fv (.int .i64 0),.dead]⟩)
 (.node 114 (.leaf 112 ⟨1,24,.slice 5,[.nils]⟩)
 (.leaf 114 ⟨1,24,.slice 84,[.nils]⟩)))
 (.node 120 (.leaf 116 ⟨7,104,.struct [(0,3),(1,3),(2,114),(3,114),(4,30)],[.fv (.int .i64 0),.fv (.int .i64 0),.nils,.nils,.fv (.int .i64 0),.fv (.int .i64 0),.nils]⟩)
 (.node 122 (.leaf 120 ⟨1,8,.int .i64,[.fv (.int .i64 0)]⟩)
 (.leaf 122 ⟨1,8,.func,[.fv (.nilf)]⟩))))
 (.node 129 (.node 125 (.leaf 124 ⟨1,8,.struct [(0,122)],[.fv (.nilf)]⟩)
 (.node 127 (.leaf 125 ⟨1,8,.ptr,[.fv (.nilp)]⟩)
 (.leaf 127 ⟨1,24,.slice 96,[.nils]⟩)))
 (.node 135 (.node 132 (.leaf 129 ⟨7,88,.struct [(0,3),(1,3),(2,127),(3,30),(6,125)],[.fv (.int .i64 0),.fv (.int .i64 0),.nils,.fv (.int .i64 0),.fv (.int .i64 0),.nils,.fv (.nilp)]⟩)
 (.leaf 132 ⟨31,248,.arr 31 3,[.fv (.int .i64 0),.fv (.int .i64 0),.fv (.int .i64 0),.fv (.int .i64 0),.fv (.int .i64 0),.fv (.int .i64 0),.fv (.int .i64 0),.fv (.int .i64 0),.fv (.int .i64 0),.fv (.int .i64 0),.fv (.int .i64 0),.fv (.int .i64 0),.fv (.int .i64 0),.fv (.int .i64 0),.fv (.int .i64 0),.fv (.int .i64 0),.fv (.int .i64 0),.fv (.int .i64 0),.fv (.int .i64 0),.fv (.int .i64 0),.fv (.int .i64 0),.fv (.int .i64 0),.fv (.int .i64 0),.fv (.int .i64 0),.fv (.int .i64 0),.fv (.int .i64 0),.fv (.int .i64 0),.fv (.int .i64 0),.fv (.int .i64 0),.fv (.int .i64 0),.fv (.int .i64 0)]⟩))
 (.node 147 (.leaf 135 ⟨2,16,.struct [(0,96),(1,125)],[.fv (.nilp),.fv (.nilp)]⟩)
 (.leaf 147 ⟨1,1,.int .u8,[.fv (.int .u8 0)]⟩))))))
def AiV:List (Nat×List Bool):=[(61,[true,false,false,false]),(62,[true,false,false]),(63,[true,false,false]),(68,[false,true,false]),(71,[true,false,false]),(72,[true,false,false,false]),(88,[true,false]),(94,[true,false]),(95,[true,false]),(96,[true,false]),(97,[true,false]),(98,[true,false]),(99,[true]),(102,[true,false]),(103,[true,false,false,false]),(108,[true])]
def AjV:List (Nat×Nat×List Nat×List Nat):=[(5,11,[1,2,3,4,6,7,8,12,13,14,15,16,17,18,19,20,21,22,23,24,25,26,27,28,29,30,31,32,33,34,35,36,37,38,39,40,41,42,43,44,45,46,47,48,49,50,51,52,53,54,55,56,57,58,59,60,61,62,63,64,65,66,67,68,69,70,71,72,73,74,75,76,77,78,79,80,81,82,83,84,85,86,87,88,89,90],[]),
 (6,11,[1,2,3,4,5,6,7,11,12,13,14,15,16,17,18,19,20,21,22,23,24,25,26,27,28,29,30,31,32,33,34,35,36,37,38,39,40,41,42,43,44,45,46,47,48,49,50,51,52,53,54,55,56,57,58,59,60,61,62,63,64,65,66,67,68,69,70,71,72,73,74,75,76,77,78,79,80,81],[]),
 (9,11,[0,1,3,4,5,6,7,8,14,15,16,17,18,19,20,21,22,23,24,25,26,27,28,29,30,31,32,33,34,35,36,37,38,39,40,41,42,43,44,45,46,47,48,49,50,51,52,53,54,55,56,57,58,59,60,61,62,63,64,65,66,67,68,69,70,71,72,73,74,75,76,77,78,79,80,81,82,83],[]),
 (10,11,[0,2,3,4,12,13,14,15,16,17,18,19,20,21,22,23,24,25,26,27,28,29,30,31,32,33,34,35,36,37,38,39,40,41,42,43,44,45,46,47,48,49,50,51,52,53,54,55,56,57,58,59,60,61,62,63,64,65,66,67,68,69,70,71,72,73,74,75,76,77,78,79,80,81,82,83,84,85,86,87,88,89,90,91,92,93,94,95,96,97,98,99,100,101,102,103,104,105,106,107,108,109,110,111,112,113,114,115,116,117,118,119,120,121,122,123,124],[]),
 (17,4,[0,1,4,6,7,8,9,10,11,12,13,14,15,16,17,18,19,20,21,22,23,24,25,26,27,28,29,30,31,32,33,34,35,36,37,38,39,40,41,42,43,44,45],[]),
 (21,15,[0,4,5,10,11,12,13,14,15,16,17,18,19,20,21,22,23,24,25,26,27,28,29,30,31,32,33,34,35,36,37,38,39,40,41,42,43,44,45,46,47,48,49,50,51,52,53,54,55,56,57,58,59,60,61,62,63,64,65,66,67,68,69,70,71,72,73,74,75,76,77],[22037518]),
 (22,3,[0,2,5,6,7,8,9,10,11,12,13,14,15,16,17,18,19,20,21,22,23,24,25,26,27,28,29,30,31,32,33,34,35,36,37,38,39,40,41,42,43,44,45,46,47,48,49],[]),
 (27,3,[1,5,6,7,8,9,10,11,12,13,14],[]),
 (29,4,[0,2,4,5,6,7,8,9,10,11,12,13,14,15,16,17,18,19,20,21,22,23,24,25,26,27,28,29,30],[]),
 (30,15,[0,2,3,6,7,8,9,10,11,12,13,14,15,16,17,18,19,20,21,22,23,24,25,26,27,28,29,30,31,32,33,34,35,36,37,38,39,40,41,42,43,44,45,46,47,48,49,50,51,52,53,54,55,56,57,58,59,60,61],[]),
 (31,3,[0,2,5,6,7,8,9,10,11,12,13,14,15,16,17,18,19,20],[]),
 (36,3,[0,3,4,7,8,9,10,11,12,13,14,15,16,17,18,19,20,21,22,23,24,25,26,27,28,29,30],[]),
 (37,3,[1,2,5,6,7,8,9,10,11,12,13,14,15,16,17,18,19,20,21,22,23,24,25,26,27,28,29,30,31,32,33,34,35,36,37,38,39,40,41,42,43,44,45,46],[38803466]),
 (45,5,[0,4,5,9,10,11,12,13,14,15,16,17,18,19,20,21,22,23,24,25,26,27,28,29,30,31,32,33,34,35,36,37,38,39,40,41,42,43,44,45,46,47,48,49,50,51,52,53],[47193104]),
 (49,2,[3,4,5,6,8,10,11,12,13,14,15,16,17,18,19,20,21,22,23,24,25,26,27],[]),
 (58,3,[2,4,5,7,9,12,13,14,15,16,17,18,19,20,21,22,23,24,25,26,27,28,29,30,31,32,33,34,35,36,37,38,39,40,41,42,43,44,45,46,47,48,49,50,51,52,53,54,55,56,57,58,59,60,61,62,63,64,65,66,67,68,69,70,71],[60823568,60825603]),
 (61,10,[4,5,6,7,11,12,13,14,15,16,17,18,19,20,21,22,23,24,25,26,27,28,29,30,31,32,33,34,35,36,37,38,39,40,41,42,43,44,45,46,47,48,49,50,51,52,53,54,55,56,57,58,59,60,61,62,63,64,65,66,67,68,69,70,71,72,73,74,75,76,77,78,79,80,81,82,83,84,85,86,87,88,89,90,91,92,93,94,95,96,97,98,99,100,101,102,103,104,105,106,107,108,109,110,111,112,113,114,115,116,117,118,119,120,121,122,123,124,125,126,127,128,129,130],[63982597,63984651]),
 (61,17,[4,5,6,7,15,16,17,18,19,20,21,22,23,24,25,26,27,28,29,30,31,32,33,34,35,36,37,38,39,40,41,42,43,44,45,46,47,48,49,50,51,52,53,54,55,56,57,58,59,60,61,62,63,64,65,66,67,68,69,70,71,72,73,74,75,76,77,78,79,80,81,82,83,84,85,86,87,88,89,90,91,92,93,94,95,96,97,98,99,100,101,102,103,104,105,106,107,108,109,110,111,112,113,114,115,116,117,118,119,120,121,122,123,124,125,126,127,128,129,130],[63982597]),
 (62,9,[1,3,5,6,9,10,11,12,13,14,15,16,17,18,19,20,21,22,23,24,25,26,27,28,29,30,31,32,33,34,35,36,37,38,39,40,41,42,43,44,45,46,47,48,49,50,51,52,53,54,55,56,57,58,59,60,61,62,63,64,65,66,67,68,69,70,71,72,73,74,75,76,77,78,79,80,81,82,83,84,85,86,87,88,89,90,91,92,93,94,95],[65024012,65024014,65025038]),
 (63,7,[1,3,5,7,8,9,10,11,12,13,14,15,16,17,18,19,20,21,22,23,24,25,26,27,28,29,30,31,32,33,34,35,36,37,38,39,40,41,42,43,44,45,46,47,48,49,50,51,52,53,54,55,56,57,58,59,60,61,62,63,64,65,66,67,68],[]),
 (68,7,[0,3,4,5,6,7,8,9,10,11,12,13,14,15,16,17,18,19,20,21,22,23,24,25,26,27,28,29,30,31,32,33,34,35,36,37,38,42,43,44,45,46,47,48,49,50,51,52,53],[71311362]),
 (69,5,[0,1,2,3,4,5,6,7,8,9,10,11,12,13,14,15,16,17,18,19,20,21,22,23,24,25,26,27,28,32,33,34,35,36,37,38],[72357890]),
 (71,8,[2,3,4,6,8,9,10,11,12,13,14,15,16,17,18,19,20,21,22,23,24,25,26,27,28,29,30,31,32,33,34,35,36,37,41,42,43,44,45,46,47,48,49,50,51,52,53,54,55,56,57,58,59,60,61,62,63,64,65,66,67,68,69],[74458115]),
 (72,11,[4,5,6,7,10,11,12,13,14,15,16,17,18,19,20,21,22,23,24,25,26,27,28,29,30,31,32,33,34,35,36,37,38,39,40,41,42,43,44,45,46,47,48,49,50,51,52,53,54,55,56,57,58,59,60,61,62,63,64,65,66,67,68,71,72,73,74,75,76,77,78,79,80,81,82,83,84,85,86,87,88,89,90,91,92,93,94,95,96,97,98,99,100,101,102,103,104,105,106,107,108,109,110,111,112,113,114,115,116,117,118,119,120,121,122,123,124,125,126,127,128,129,130,131,132,133,134,135,136],[75512833,75516934]),
 (72,17,[4,5,6,7,11,14,15,16,17,18,19,20,21,22,23,24,25,26,27,28,29,30,31,32,33,34,35,36,37,38,39,40,41,42,43,44,45,46,47,48,49,50,51,52,53,54,55,56,57,58,59,60,61,62,63,64,65,66,67,68,71,72,73,74,75,76,77,78,79,80,81,82,83,84,85,86,87,88,89,90,93,94,95,96,97,98,99,100,101,102,103,104,105,106,107,108,109,110,111,112,113,114,115,116,117,118,119,120,121,122,123,124,125,126,127,128,129,130,131,132,133,134,135,136],[75516934]),
 (86,3,[0,5,6,7,8,9,10,11,12,13,14,15,16,17,18,19,20,21,22,23,24,25,26,27,28,29,30,31,32,33,34,35,36,37,38,39,40,41,42,43,44,45,46,47,48,49,50,51,52,53,54,55,56,57,58,59,60,61,62,63,64,65,66,67,68,69,70,71,72,73,74,75,76,77,78,79,80,81,82,83,84,85,86,87,88,89,90,91,92,93,94,95,96,97,98,99,100,101,102,103,104,105,106,107,108,109,110,111,112,113,114,115,116,117,118,119,120,121,122,123,124,125,126,127,128,129,130],[90182662,90185732]),
 (90,9,[0,3,5,6,11,12,13,14,15,16,17,18,19,20,21,22,23,24,25,26,27,28,29,30,31,32,33,34,35,36,37,38,39,40,41,42,43,44,45,46,47,48,49,50,51,52,53,54,55,56,57,58,59,60,61,62,63,64,65,66,67],[94384144]),
 (100,1,[2,3,4,5,6,7,8,9,10,11,12,13,14,15,16,17,18,19,20,21,22],[]),
 (104,2,[2,3,4,5,6,9,10,11,12,13,14,15,16,17,18],[]),
 (107,4,[0,3,4,6,7,8,9,10,11,12,13,14,15,16,17,18,19,20,21,22,23,24,25,26,27,28,29,30,31],[]),
 (111,2,[1,2,3,4,5,6,10,11,12,13,14,15,16,17,18],[116396035])]
def Uq (l:List Nat) (f:Nat):Bool:=l.any fun g=>Nat.beq g f
def Ad2 (f:Nat):List (Nat×List Bool)→List Bool
 | []=>[]
 | (g,k)::l=>if Nat.beq g f then k else Ad2 f l
def Aen (f r:Nat):List (Nat×Nat×List Nat×List Nat)→List Nat×List Nat
 | []=>([],[])
 | (g,q,k)::l=>if Nat.beq g f && Nat.beq q r then k else Aen f r l
def pol:Pol where
 inl:=Uq [70]
 keep:=fun f=>Ad2 f AiV
 raw:=Uq [70]
 head:=fun f r=>Aen f r AjV
 rowApp:=fun f _ _=>Uq [] f
 fzBox:=fun f _ _=>Uq [61,72,111] f
 split:=Uq []
def EE:Env:=⟨Try.prog,tab.get,pol⟩
set_option maxRecDepth 100000 in
theorem AnX:tab.leaves.map (fun p=>Aj4 Try.prog p.1)=tab.leaves.map (fun p=>some p.2):=by kernel_rfl
theorem AfO:Try.prog.follows .mixedOrders=true:=by kernel_rfl
theorem Afv:Aaz Try.prog=true:=by kernel_rfl
theorem AdU:Yr Try.prog=true:=by kernel_rfl
def ft:FTr :=
 .node 57 (.node 29 (.node 15 (.node 8 (.node 5 (.node 3 (.leaf 2 Try.f2)
 (.node 4 (.leaf 3 Try.f3)
 (.leaf 4 Try.f4)))
 (.node 6 (.leaf 5 Try.f5)
 (.node 7 (.leaf 6 Try.f6)
 (.leaf 7 Try.f7))))
 (.node 11 (.node 9 (.leaf 8 Try.f8)
 (.node 10 (.leaf 9 Try.f9)
 (.leaf 10 Try.f10)))
 (.node 13 (.node 12 (.leaf 11 Try.f11)
 (.leaf 12 Try.f12))
 (.node 14 (.leaf 13 Try.f13)
 (.leaf 14 Try.f14)))))
 (.node 22 (.node 18 (.node 16 (.leaf 15 Try.f15)
 (.node 17 (.leaf 16 Try.f16)
 (.leaf 17 Try.f17)))
 (.node 20 (.node 19 (.leaf 18 Try.f18)
 (.leaf 19 Try.f19))
 (.node 21 (.leaf 20 Try.f20)
 (.leaf 21 Try.f21))))
 (.node 25 (.node 23 (.leaf 22 Try.f22)
 (.node 24 (.leaf 23 Try.f23)
 (.leaf 24 Try.f24)))
 (.node 27 (.node 26 (.leaf 25 Try.f25)
 (.leaf 26 Try.f26))
 (.node 28 (.leaf 27 Try.f27)
 (.leaf 28 Try.f28))))))
 (.node 43 (.node 36 (.node 32 (.node 30 (.leaf 29 Try.f29)
 (.node 31 (.leaf 30 Try.f30)
 (.leaf 31 Try.f31)))
 (.node 34 (.node 33 (.leaf 32 Try.f32)
 (.leaf 33 Try.f33))
 (.node 35 (.leaf 34 Try.f34)
 (.leaf 35 Try.f35))))
 (.node 39 (.node 37 (.leaf 36 Try.f36)
 (.node 38 (.leaf 37 Try.f37)
 (.leaf 38 Try.f38)))
 (.node 41 (.node 40 (.leaf 39 Try.f39)
 (.leaf 40 Try.f40))
 (.node 42 (.leaf 41 Try.f41)
 (.leaf 42 Try.f42)))))
 (.node 50 (.node 46 (.node 44 (.leaf 43 Try.f43)
 (.node 45 (.leaf 44 Try.f44)
 (.leaf 45 Try.f45)))
 (.node 48 (.node 47 (.leaf 46 Try.f46)
 (.leaf 47 Try.f47))
 (.node 49 (.leaf 48 Try.f48)
 (.leaf 49 Try.f49))))
 (.node 53 (.node 51 (.leaf 50 Try.f50)
 (.node 52 (.leaf 51 Try.f51)
 (.leaf 52 Try.f52)))
 (.node 55 (.node 54 (.leaf 53 Try.f53)
 (.leaf 54 Try.f54))
 (.node 56 (.leaf 55 Try.f55)
 (.leaf 56 Try.f56)))))))
 (.node 84 (.node 70 (.node 63 (.node 60 (.node 58 (.leaf 57 Try.f57)
 (.node 59 (.leaf 58 Try.f58)
 (.leaf 59 Try.f59)))
 (.node 61 (.leaf 60 Try.f60)
 (.node 62 (.leaf 61 Try.f61)
 (.leaf 62 Try.f62))))
 (.node 66 (.node 64 (.leaf 63 Try.f63)
 (.node 65 (.leaf 64 Try.f64)
 (.leaf 65 Try.f65)))
 (.node 68 (.node 67 (.leaf 66 Try.f66)
 (.leaf 67 Try.f67))
 (.node 69 (.leaf 68 Try.f68)
 (.leaf 69 Try.f69)))))
 (.node 77 (.node 73 (.node 71 (.leaf 70 Try.f70)
 (.node 72 (.leaf 71 Try.f71)
 (.leaf 72 Try.f72)))
 (.node 75 (.node 74 (.leaf 73 Try.f73)
 (.leaf 74 Try.f74))
 (.node 76 (.leaf 75 Try.f75)
 (.leaf 76 Try.f76))))
 (.node 80 (.node 78 (.leaf 77 Try.f77)
 (.node 79 (.leaf 78 Try.f78)
 (.leaf 79 Try.f79)))
 (.node 82 (.node 81 (.leaf 80 Try.f80)
 (.leaf 81 Try.f81))
 (.node 83 (.leaf 82 Try.f82)
 (.leaf 83 Try.f83))))))
 (.node 98 (.node 91 (.node 87 (.node 85 (.leaf 84 Try.f84)
 (.node 86 (.leaf 85 Try.f85)
 (.leaf 86 Try.f86)))
 (.node 89 (.node 88 (.leaf 87 Try.f87)
 (.leaf 88 Try.f88))
 (.node 90 (.leaf 89 Try.f89)
 (.leaf 90 Try.f90))))
 (.node 94 (.node 92 (.leaf 91 Try.f91)
 (.node 93 (.leaf 92 Try.f92)
 (.leaf 93 Try.f93)))
 (.node 96 (.node 95 (.leaf 94 Try.f94)
 (.leaf 95 Try.f95))
 (.node 97 (.leaf 96 Try.f96)
 (.leaf 97 Try.f97)))))
 (.node 105 (.node 101 (.node 99 (.leaf 98 Try.f98)
 (.node 100 (.leaf 99 Try.f99)
 (.leaf 100 Try.f100)))
 (.node 103 (.node 102 (.leaf 101 Try.f101)
 (.leaf 102 Try.f102))
 (.node 104 (.leaf 103 Try.f103)
 (.leaf 104 Try.f104))))
 (.node 108 (.node 106 (.leaf 105 Try.f105)
 (.node 107 (.leaf 106 Try.f106)
 (.leaf 107 Try.f107)))
 (.node 110 (.node 109 (.leaf 108 Try.f108)
 (.leaf 109 Try.f109))
 (.node 111 (.leaf 110 Try.f110)
 (.leaf 111 Try.f111)))))))
theorem As5:∀f fn,ft.get f=some fn→EE.P.funcs[f]?=some fn:=FTr.ok (by kernel_rfl)
theorem Asu:EnvOk EE:=Apr AnX AfO Afv AdU
section lists
variable {α β:Type}
def DJ (l:List α) (i:Nat) (k:α→Option β):Option β :=
 List.rec (motive:=fun _=>Nat→Option β) (fun _=>none) (fun x _ ih i=>Nat.rec (motive:=fun _=>Option β) (k x) (fun p _=>ih p) i) l i
theorem CT (l:List α) (i:Nat) (k:α→Option β):DJ l i k=(l[i]?).bind k:=by
 induction l generalizing i with
 | nil=>rfl
 | cons x l ih=>cases i with
  | zero=>rfl
  | succ i=>exact ih i
def FA (l:List α) (n:Nat) (k:List α→Option β):Option β :=
 List.rec (motive:=fun _=>Nat→Option β) (fun n=>Nat.rec (motive:=fun _=>Option β) (k []) (fun _ _=>none) n) (fun x t ih n=>Nat.rec (motive:=fun _=>Option β) (k (x::t)) (fun p _=>ih p) n) l n
theorem K4 (l:List α) (n:Nat) (k:List α→Option β):FA l n k=if n≤l.length then k (l.drop n) else none:=by
 induction l generalizing n with
 | nil=>cases n with
  | zero=>rfl
  | succ n=>rw [if_neg (by simp)];rfl
 | cons x l ih=>cases n with
  | zero=>rw [if_pos (Nat.zero_le _)];rfl
  | succ n=>rw [show FA (x::l) (n+1) k=FA l n k from rfl,ih];simp
def FL (l:List α) (n:Nat) (k:List α→Option β):Option β :=
 List.rec (motive:=fun _=>Nat→(List α→Option β)→Option β) (fun n k=>Nat.rec (motive:=fun _=>Option β) (k []) (fun _ _=>none) n)
  (fun x _ ih n k=>Nat.rec (motive:=fun _=>Option β) (k []) (fun p _=>ih p fun xs=>k (x::xs)) n) l n k
theorem JG (l:List α) (n:Nat) (k:List α→Option β):FL l n k=if n≤l.length then k (l.take n) else none:=by
 induction l generalizing n k with
 | nil=>cases n with
  | zero=>rfl
  | succ n=>rw [if_neg (by simp)];rfl
 | cons x l ih=>cases n with
  | zero=>rw [if_pos (Nat.zero_le _)];rfl
  | succ n=>rw [show FL (x::l) (n+1) k=FL l n (fun xs=>k (x::xs)) from rfl,ih];simp
def Pe (l:List α) (j:Nat) (b:α) (k:List α→Option β):Option β :=
 List.rec (motive:=fun _=>Nat→(List α→Option β)→Option β) (fun _ k=>k []) (fun x t ih j k=>Nat.rec (motive:=fun _=>Option β) (k (b::t)) (fun p _=>ih p fun xs=>k (x::xs)) j) l j k
theorem Af0 (l:List α) (j:Nat) (b:α) (k:List α→Option β):Pe l j b k=k (l.set j b):=by
 induction l generalizing j k with
 | nil=>rfl
 | cons x l ih=>cases j with
  | zero=>rfl
  | succ j=>rw [show Pe (x::l) (j+1) b k=Pe l j b (fun xs=>k (x::xs)) from rfl,ih];rfl
def AA (l:List α) (k:α→List α→Option β):Option β:=List.casesOn (motive:=fun _=>Option β) l none k
end lists
section
variable {α:Type}
def fRf (r:Ref) (k:Ref→α):α:=match r with
 | .own n=>D0 n fun n=>k (.own n)
 | .ext n=>D0 n fun n=>k (.ext n)
theorem N9 (r:Ref) (k:Ref→α):fRf r k=k r:=by cases r<;>simp [fRf,BO]
def fV:Nat→IV→(IV→α)→α
 | 0,v,k=>k v
 | d+1,v,k=>match v with
  | .dead=>k .dead
  | .fv v=>fFV d v fun v=>k (.fv v)
  | .ptr r o=>fRf r fun r=>D0 o fun o=>k (.ptr r o)
  | .slc r sz n=>fRf r fun r=>D0 sz fun sz=>D0 n fun n=>k (.slc r sz n)
  | .nils=>k .nils
  | .emp=>k .emp
  | .clip es=>fL (fFV d) es fun es=>k (.clip es)
  | .app r es=>fRf r fun r=>fL (fFV d) es fun es=>k (.app r es)
  | .func fn a b=>fL (fV d) a fun a=>fL (fV d) b fun b=>k (.func fn a b)
  | .agg cs=>fL (fV d) cs fun cs=>k (.agg cs)
  | .tuple cs=>fL (fV d) cs fun cs=>k (.tuple cs)
  | .mapr r=>fRf r fun r=>k (.mapr r)
theorem Ci:∀(d:Nat) (v:IV) (k:IV→α),fV d v k=k v
 | 0,_,_=>rfl
 | d+1,v,k=>by cases v<;>simp [fV,DA (Ci d),DA (Ny d),Ny,BO,N9]
def fBk (b:Blk) (k:Blk→α):α:=match b with
 | .row cs ro=>fL (fV 3) cs fun cs=>k (.row cs ro)
 | .tok n sz=>D0 n fun n=>D0 sz fun sz=>k (.tok n sz)
 | .map es=>fL (fun (p:Int×IV) k=>match p with | (n,v)=>Ajf n fun n=>fV 4 v fun v=>k (n,v)) es fun es=>k (.map es)
theorem CD (b:Blk) (k:Blk→α):fBk b k=k b:=by
 cases b with
 | row cs ro=>simp only [fBk];rw [DA (Ci 3)]
 | tok n sz=>simp only [fBk];rw [BO,BO]
 | map es =>
  simp only [fBk];rw [DA];rintro ⟨n,v⟩ k;simp only;rw [Xl,Ci]
def fOw (p:Nat×Blk) (k:Nat×Blk→α):α:=match p with | (n,b)=>D0 n fun n=>fBk b fun b=>k (n,b)
theorem Aqz (p:Nat×Blk) (k:Nat×Blk→α):fOw p k=k p:=by
 obtain ⟨n,b⟩:=p;simp only [fOw];rw [BO,CD]
def fH (h:Hp) (k:Hp→α):α:=match h with | ⟨own,ext⟩=>fL fOw own fun own=>fL fBk ext fun ext=>k ⟨own,ext⟩
theorem LQ (h:Hp) (k:Hp→α):fH h k=k h:=by
 obtain ⟨a,b⟩:=h;simp only [fH];rw [DA Aqz,DA CD]
end
section
variable {β:Type}
def Gu (l:List (Nat×Blk)) (s:Nat) (k:Blk→Option β):Option β :=
 List.rec (motive:=fun _=>Option β) none (fun p _ ih=>match p with | (j,b)=>cond (Nat.beq s j) (k b) ih) l
theorem GW {α:Type} (a b:Nat) (x y:α):cond (Nat.beq a b) x y=if a=b then x else y:=by
 cases h:Nat.beq a b with
 | true=>rw [if_pos (Nat.eq_of_beq_eq_true h)];rfl
 | false=>rw [if_neg (fun e=>by rw [e,show Nat.beq b b=true from Nat.beq_refl b] at h;cases h)];rfl
theorem BB (l:List (Nat×Blk)) (s:Nat) (k:Blk→Option β):Gu l s k=(Aq s l).bind k:=by
 induction l with
 | nil=>rfl
 | cons p l ih =>
  obtain ⟨j,b⟩:=p;rw [show Gu ((j,b)::l) s k=cond (Nat.beq s j) (k b) (Gu l s k) from rfl,GW,ih]
  simp only [Aq];split<;>rfl
def C5 (r:Ref) (h:Hp) (k:Blk→Option β):Option β:=match h with
 | ⟨own,ext⟩=>match r with
  | .own s=>Gu own s k
  | .ext j=>DJ ext j k
theorem Er (r:Ref) (h:Hp) (k:Blk→Option β):C5 r h k=(h.get r).bind k:=by
 obtain ⟨own,ext⟩:=h;cases r with
 | own s=>exact BB ..
 | ext j=>exact CT ..
def A2 (l:List (Nat×Blk)) (s:Nat) (b:Blk) (k:List (Nat×Blk)→Option β):Option β :=
 List.rec (motive:=fun _=>(List (Nat×Blk)→Option β)→Option β) (fun k=>k [(s,b)])
  (fun p t ih k=>match p with | (j,c)=>cond (Nat.beq s j) (k ((j,b)::t)) (ih fun l=>k ((j,c)::l))) l k
theorem BV (l:List (Nat×Blk)) (s:Nat) (b:Blk) (k:List (Nat×Blk)→Option β):A2 l s b k=k (AO s b l):=by
 induction l generalizing k with
 | nil=>rfl
 | cons p l ih =>
  obtain ⟨j,c⟩:=p;rw [show A2 ((j,c)::l) s b k=cond (Nat.beq s j) (k ((j,b)::l)) (A2 l s b fun l=>k ((j,c)::l)) from rfl,GW,ih]
  simp only [AO];split<;>rfl
def FM (r:Ref) (b:Blk) (h:Hp) (k:Hp→Option β):Option β:=match h with
 | ⟨own,ext⟩=>match r with
  | .own s=>A2 own s b fun own=>k ⟨own,ext⟩
  | .ext j=>Pe ext j b fun ext=>k ⟨own,ext⟩
theorem KS (r:Ref) (b:Blk) (h:Hp) (k:Hp→Option β):FM r b h k=k (h.set r b):=by
 obtain ⟨own,ext⟩:=h;cases r with
 | own s=>exact BV ..
 | ext j=>exact Af0 ..
def OD (x:IV) (e:Option β) (k:FV→Option β):Option β:=match x with
 | .fv v=>k v
 | _=>e
def Agc (v:FV) (e:Option β) (k:Nat→Option β):Option β:=match v with
 | .int .i64 (.ofNat n)=>k n
 | _=>e
def J3 (x:IV) (e:Option β) (k:Nat→Option β):Option β:=OD x e fun v=>Agc v e k
theorem FI {x:IV} {e:Option β} {k:Nat→Option β} {r:β} (h:J3 x e k=some r):(∃n:Nat,x=.fv (.int .i64 n)∧k n=some r)∨e=some r:=by
 unfold J3 OD at h;split at h
 ·simp only [Agc] at h;split at h
  ·exact .inl ⟨_,rfl,h⟩
  ·exact .inr h
 ·exact .inr h
def M2 (n:Nat) (k:IV→Option β):Option β:=D0 n fun n=>k (.fv (.int .i64 (.ofNat n)))
theorem Dm (n:Nat) (k:IV→Option β):M2 n k=k (.fv (.int .i64 n)):=by rw [M2,BO];rfl
def AdT (b:Bool) (k:IV→Option β):Option β:=cond b (k (.fv (.bool true))) (k (.fv (.bool false)))
theorem SR (b:Bool) (k:IV→Option β):AdT b k=k (.fv (.bool b)):=by cases b<;>rfl
def CL (o:Option IV) (k:IV→Option β):Option β:=match o with
 | none=>none
 | some v=>fS v k
theorem CA (o:Option IV) (k:IV→Option β):CL o k=o.bind k:=by
 cases o with
 | none=>rfl
 | some v=>exact As7 v k
def Cm (l:List IV) (e:Option β) (k:List FV→Option β):Option β :=
 List.rec (motive:=fun _=>(List FV→Option β)→Option β) (fun k=>k []) (fun x _ ih k=>OD x e fun v=>ih fun vs=>k (v::vs)) l k
theorem Py (l:List IV) (e:Option β) (k:List FV→Option β):Cm l e k=match Gk l with | some vs=>k vs | none=>e:=by
 induction l generalizing k with
 | nil=>rfl
 | cons x l ih =>
  rw [show Cm (x::l) e k=OD x e fun v=>Cm l e fun vs=>k (v::vs) from rfl]
  cases x<;>simp only [OD,Gk];rw [ih];cases Gk l<;>rfl
def OF (l:List IV) (k:IV→Option β):Option β:=Cm l (k (.agg l)) fun vs=>k (.fv (.agg vs))
theorem Sy (l:List IV) (k:IV→Option β):OF l k=k (Fk l):=by
 rw [OF,Py,Fk];cases Gk l<;>rfl
def UX (l:List IV) (k:IV→Option β):Option β:=Cm l (k (.tuple l)) fun vs=>k (.fv (.tuple vs))
theorem Aaf (l:List IV) (k:IV→Option β):UX l k=k (Co l):=by
 rw [UX,Py,Co];cases Gk l<;>rfl
def AmN (v:FV) (a b:Option β):Option β:=match v with
 | .bool t=>cond t a b
 | _=>none
def Ai (v:IV) (a b:Option β):Option β:=match v with
 | .fv v=>AmN v a b
 | _=>none
theorem SQ {v:IV} {a b:Option β} {r:β} (h:Ai v a b=some r):∃t:Bool,v=.fv (.bool t)∧(if t then a else b)=some r:=by
 unfold Ai at h;split at h
 ·unfold AmN at h;split at h
  ·rename_i t;refine ⟨t,rfl,?_⟩;cases t<;>exact h
  ·cases h
 ·cases h
def AI (c a b:IV) (k:IV→Option β):Option β:=Ai c (k a) (k b)
section
variable (E:Env) (t:TypeId)
def CH (op:BinOp) (x y:IV) (k:IV→Option β):Option β:=CL (FJ E op t x y) k
def Bp (x y:IV) (k:IV→Option β):Option β :=
 J3 x (CH E t .add x y k) fun a=>J3 y (CH E t .add x y k) fun b=>cond (Nat.ble (a+b) 9223372036854775807) (M2 (a+b) k) (CH E t .add x y k)
def Bd (x y:IV) (k:IV→Option β):Option β :=
 J3 x (CH E t .sub x y k) fun a=>J3 y (CH E t .sub x y k) fun b=>cond (and (Nat.ble b a) (Nat.ble a 9223372036854775807)) (M2 (a - b) k) (CH E t .sub x y k)
def Sq (op:BinOp) (g:Nat→Nat→Bool) (x y:IV) (k:IV→Option β):Option β :=
 J3 x (CH E t op x y k) fun a=>J3 y (CH E t op x y k) fun b=>AdT (g a b) k
def AN (x y:IV) (k:IV→Option β):Option β:=Sq E t .eql Nat.beq x y k
def Ch (x y:IV) (k:IV→Option β):Option β:=Sq E t .neq (fun a b=>not (Nat.beq a b)) x y k
def F8 (x y:IV) (k:IV→Option β):Option β:=Sq E t .lss (fun a b=>Nat.ble (Nat.succ a) b) x y k
def leS (x y:IV) (k:IV→Option β):Option β:=Sq E t .leq Nat.ble x y k
def Ke (x y:IV) (k:IV→Option β):Option β:=Sq E t .gtr (fun a b=>Nat.ble (Nat.succ b) a) x y k
def Uv (x y:IV) (k:IV→Option β):Option β:=Sq E t .geq (fun a b=>Nat.ble b a) x y k
def AfV (op:BinOp) (x y:IV) (k:IV→Option β):Option β:=match op with
 | .add=>Bp E t x y k
 | .sub=>Bd E t x y k
 | .eql=>AN E t x y k
 | .neq=>Ch E t x y k
 | .lss=>F8 E t x y k
 | .leq=>leS E t x y k
 | .gtr=>Ke E t x y k
 | .geq=>Uv E t x y k
 | op=>CH E t op x y k
end
theorem U9 {n:Nat} (h:n≤9223372036854775807):IntKind.i64.wrap (n:Int)=n:=by
 have e:(n:Int) % (18446744073709551616:Int)=n:=by omega
 have e2:¬ (n:Int) ≥ (9223372036854775808:Int):=by omega
 show (if (true && decide (((n:Int) % (18446744073709551616:Int)) ≥ (9223372036854775808:Int)))=true then ((n:Int) % (18446744073709551616:Int)) - (18446744073709551616:Int) else ((n:Int) % (18446744073709551616:Int)))=n
 rw [e,decide_eq_false e2];rfl
def GZ (v:FV) (k:List FV→Option β):Option β:=match v with
 | .agg cs=>k cs
 | _=>none
def asAgg (x:IV) (k:List IV→Option β) (kf:List FV→Option β):Option β:=match x with
 | .agg cs=>k cs
 | .fv v=>GZ v kf
 | _=>none
def AqF (o:Nat) (x:IV) (k:IV→Option β):Option β:=asAgg x (fun cs=>DJ cs o k) fun cs=>DJ cs o fun v=>k (.fv v)
def Apn (size o:Nat) (x:IV) (k:IV→Option β):Option β :=
 asAgg x (fun cs=>FA cs o fun cs=>FL cs size fun cs=>OF cs k) fun cs=>FA cs o fun cs=>FL cs size fun cs=>k (.fv (.agg cs))
def D7 (b:Blk) (k:List IV→Option β):Option β:=match b with
 | .row cells _=>k cells
 | _=>none
def G3 (b:Blk) (k:List IV→Option β):Option β:=match b with
 | .row cells ro=>cond ro none (k cells)
 | _=>none
def As6 (v:FV) (k:List FV→Nat→Option β):Option β:=match v with
 | .fp cs o=>k cs o
 | _=>none
def ET (x:IV) (k:Ref→Nat→Option β) (kf:List FV→Nat→Option β):Option β:=match x with
 | .ptr r o=>k r o
 | .fv v=>As6 v kf
 | _=>none
def Ae (a:IV) (h:Hp) (k:IV→List Ref→Option β):Option β :=
 ET a (fun r o=>C5 r h fun b=>D7 b fun cells=>DJ cells o fun v=>k v [r]) fun cells o=>DJ cells o fun v=>k (.fv v) []
def Ag (size:Nat) (a:IV) (h:Hp) (k:IV→List Ref→Option β):Option β :=
 ET a (fun r o=>C5 r h fun b=>D7 b fun cells=>FA cells o fun cs=>FL cs size fun cs=>OF cs fun v=>k v [r])
  fun cells o=>FA cells o fun cs=>FL cs size fun cs=>k (.fv (.agg cs)) []
def spK {α:Type} (l:List α) (k:List α→Option β):Option β :=
 List.rec (motive:=fun _=>(List α→Option β)→Option β) (fun k=>k []) (fun x _ ih k=>ih fun xs=>k (x::xs)) l k
theorem HF {α:Type} (l:List α) (k:List α→Option β):spK l k=k l:=by
 induction l generalizing k with
 | nil=>rfl
 | cons x l ih=>rw [show spK (x::l) k=spK l (fun xs=>k (x::xs)) from rfl,ih]
def GF (l:List IV) (j:Nat) (b:IV) (k:List IV→Option β):Option β :=
 List.rec (motive:=fun _=>Nat→(List IV→Option β)→Option β) (fun _ _=>none) (fun x t ih j k=>Nat.rec (motive:=fun _=>Option β) (k (b::t)) (fun p _=>ih p fun xs=>k (x::xs)) j) l j k
theorem Aa7 (l:List IV) (j:Nat) (b:IV) (k:List IV→Option β):GF l j b k=if j<l.length then k (l.set j b) else none:=by
 induction l generalizing j k with
 | nil=>rw [if_neg (by simp)];rfl
 | cons x l ih=>cases j with
  | zero=>rw [if_pos (by simp)];rfl
  | succ j=>rw [show GF (x::l) (j+1) b k=GF l j b (fun xs=>k (x::xs)) from rfl,ih];simp
theorem Lw {v:IV} (h:v.one=true):v.cells=[v]∧v.alive=true:=by
 cases v with
 | fv w=>cases w<;>simp_all [IV.one,IV.cells,IV.alive]
 | _=>simp_all [IV.one,IV.cells,IV.alive]
def wrK (cs:List FV):List IV→(List IV→Option β)→Option β :=
 List.rec (motive:=fun _=>List IV→(List IV→Option β)→Option β) (fun l k=>k l) (fun c _ ih l k=>AA l fun _ t=>ih t fun t'=>k (.fv c::t')) cs
def D6 (l:List IV) (o:Nat) (cs:List FV) (k:List IV→Option β):Option β :=
 List.rec (motive:=fun _=>Nat→(List IV→Option β)→Option β) (fun o k=>Nat.rec (motive:=fun _=>Option β) (wrK cs [] k) (fun _ _=>none) o)
  (fun x t ih o k=>Nat.rec (motive:=fun _=>Option β) (wrK cs (x::t) k) (fun p _=>ih p fun t'=>k (x::t')) o) l o k
theorem Gs (x:IV):∀(vs l:List IV) (o:Nat),A4 (x::l) (o+1) vs=x::A4 l o vs
 | [],_,_=>rfl
 | v::vs,l,o=>by
  simp only [A4,List.set_cons_succ];exact Gs x vs (l.set o v) (o+1)
theorem Vf:∀(cs:List FV) (l:List IV) {k:List IV→Option β} {r:β},wrK cs l k=some r→cs.length≤l.length∧k (A4 l 0 (cs.map .fv))=some r
 | [],l,k,r,h=>⟨Nat.zero_le _,h⟩
 | c::cs,l,k,r,h=>by
  have h:(AA l fun _ t=>wrK cs t fun t'=>k (.fv c::t'))=some r:=h;cases l with
  | nil=>cases h
  | cons x t =>
   have h:(wrK cs t fun t'=>k (.fv c::t'))=some r:=h;obtain ⟨h1,h2⟩:=Vf cs t h;refine ⟨by simp;omega,?_⟩;simp only [Axg,A4,List.set_cons_zero,Nat.zero_add];rw [Gs];exact h2
theorem NS:∀(l:List IV) (o:Nat) (cs:List FV) {k:List IV→Option β} {r:β},D6 l o cs k=some r→o+cs.length≤l.length∧k (A4 l o (cs.map .fv))=some r
 | [],0,cs,k,r,h=>by
  obtain ⟨h1,h2⟩:=Vf cs [] h;exact ⟨by simpa using h1,h2⟩
 | [],o+1,cs,k,r,h=>by cases h
 | x::t,0,cs,k,r,h=>by
  obtain ⟨h1,h2⟩:=Vf cs (x::t) h;exact ⟨by simpa using h1,h2⟩
 | x::t,o+1,cs,k,r,h=>by
  have h:(D6 t o cs fun t'=>k (x::t'))=some r:=h;obtain ⟨h1,h2⟩:=NS t o cs h;exact ⟨by simp;omega,by rw [Gs];exact h2⟩
def HH (v:FV):Bool:=match v with
 | .agg _=>false
 | .tuple _=>false
 | _=>true
def DW (l:List FV):Bool:=List.rec (motive:=fun _=>Bool) true (fun v _ ih=>cond (HH v) ih false) l
theorem MY:∀(l:List FV),DW l=true→(l.map IV.fv).all IV.one=true
 | [],_=>rfl
 | v::l,h=>by
  have h:cond (HH v) (DW l) false=true:=h;cases hv:HH v with
  | false=>rw [hv] at h;cases h
  | true =>
   rw [hv] at h;simp only [Axg,List.all_cons,MY l h,Bool.and_true];cases v<;>first | rfl | cases hv
def Af (size:Nat) (a x:IV) (h:Hp) (k:Hp→List Ref→List Ref→Option β):Option β :=
 ET a (fun r o=>C5 r h fun b=>G3 b fun cells=>OD x (if x.alive∧x.cells.length=size∧o+size≤cells.length∧x.cells.all IV.one∧Fu r x then
  spK (A4 cells o x.cells) fun cells=>FM r (.row cells false) h fun h=>k h [r] [r] else none) fun v=>GZ v fun cs=>cond (and (Nat.beq cs.length size) (DW cs)) (D6 cells o cs fun cells=>FM r (.row cells false) h fun h=>k h [r] [r]) none) fun _ _=>none
def A9 (a x:IV) (h:Hp) (k:Hp→List Ref→List Ref→Option β):Option β :=
 cond x.one (ET a (fun r o=>C5 r h fun b=>G3 b fun cells=>cond (Fu r x) (GF cells o x fun cells=>FM r (.row cells false) h fun h=>k h [r] [r]) none) fun _ _=>none) (Af 1 a x h k)
def Ah0 (fn:Fn) (k:FuncId→Option β):Option β:=match fn with
 | .func g=>k g
 | _=>none
def AsU (v:FV) (k:IV→Option β):Option β:=match v with
 | .fp cs o=>k (.fv (.fp cs o))
 | .func fn a b=>Ah0 fn fun g=>k (.fv (.func (.func g) a b))
 | _=>none
def AH (x:IV) (k:IV→Option β):Option β:=match x with
 | .ptr r o=>k (.ptr r o)
 | .fv v=>AsU v k
 | .func fn a b=>Ah0 fn fun g=>k (.func (.func g) a b)
 | _=>none
def Ab (o:Nat) (x:IV) (k:IV→Option β):Option β :=
 ET x (fun r off=>D0 (off+o) fun o=>k (.ptr r o)) fun cs off=>D0 (off+o) fun o=>k (.fv (.fp cs o))
def AmG (n:Int) (k:Nat→Option β):Option β:=match n with
 | .ofNat m=>k m
 | _=>none
def AmP (v:FV) (k:Nat→Option β):Option β:=match v with
 | .int _ n=>AmG n k
 | _=>none
def Adc (i:IV) (k:Nat→Option β):Option β:=OD i none fun v=>AmP v k
theorem So {i:IV} {k:Nat→Option β} {r:β} (h:Adc i k=some r):∃kd,∃n:Nat,i=.fv (.int kd n)∧k n=some r:=by
 unfold Adc OD at h;split at h
 ·simp only [AmP] at h;split at h
  ·simp only [AmG] at h;split at h
   ·exact ⟨_,_,rfl,h⟩
   ·cases h
  ·cases h
 ·cases h
def Aup (v:FV) (k:List FV→Option β):Option β:=match v with
 | .sl es=>k es
 | _=>none
def Anx (x:IV) (k:List FV→Option β):Option β:=match x with
 | .nils=>k []
 | .emp=>k []
 | .clip es=>k es
 | .app _ es=>k es
 | .fv v=>Aup v k
 | _=>none
theorem X8 (x:IV) (k:List FV→Option β):Anx x k=(B8 x).bind k:=by
 cases x with
 | fv v=>cases v<;>rfl
 | _=>rfl
def elK (size:Nat) (el:FV) (k:IV→Option β):Option β:=match el with
 | .agg cs=>cond (Nat.beq cs.length size) (k (.fv (.fp cs 0))) none
 | v=>cond (Nat.beq 1 size) (k (.fv (.fp [v] 0))) none
theorem AdJ (size:Nat) (el:FV) (k:IV→Option β):elK size el k=if el.cells.length=size then k (.fv (.fp el.cells 0)) else none:=by
 cases el<;>simp only [elK,GW,FV.cells]<;>rfl
def YR (x:IV) (k:Ref→Nat→Nat→Option β) (e:Option β):Option β:=match x with
 | .slc r sz len=>k r sz len
 | _=>e
def AT (size:Nat) (x i:IV) (k:IV→Option β):Option β :=
 Adc i fun n=>YR x (fun r sz len=>cond (and (Nat.ble (Nat.succ n) len) (Nat.beq sz size)) (D0 (n * sz) fun o=>k (.ptr r o)) none) (Anx x fun es=>DJ es n fun el=>elK size el k)
def ixA (m size:Nat) (x i:IV) (k:IV→Option β):Option β :=
 Adc i fun n=>cond (Nat.ble (Nat.succ n) m) (ET x (fun r o=>D0 (o+n * size) fun o=>k (.ptr r o)) fun cells o=>D0 (o+n * size) fun o=>k (.fv (.fp cells o))) none
def AsW (m size:Nat) (x i:IV) (k:IV→Option β):Option β :=
 Adc i fun n=>cond (Nat.ble (Nat.succ n) m) (OD x none fun v=>GZ v fun cs=>DJ cs (n * size) fun v=>k (.fv v)) none
def ArH (v:FV) (k:List FV→Option β):Option β:=match v with
 | .tuple vs=>k vs
 | _=>none
def Ar (ix:Nat) (x:IV) (k:IV→Option β):Option β:=match x with
 | .tuple vs=>DJ vs ix k
 | .fv v=>ArH v fun vs=>DJ vs ix fun v=>k (.fv v)
 | _=>none
def B0 (x:IV) (k:IV→Option β):Option β:=YR x (fun _ _ n=>M2 n k) (Anx x fun es=>M2 es.length k)
def AaW (z:List IV) (o sz:Nat) (v:IV) (k:List IV→Option β):Option β :=
 cond v.one (cond (Nat.beq sz 1) (GF z o v k) none) (if v.alive∧v.cells.length=sz∧o+sz≤z.length then spK (A4 z o v.cells) k else none)
def Hb (z:List IV) (o sz:Nat) (v:IV) (k:List IV→Option β):Option β :=
 OD v (AaW z o sz v k) fun w=>cond (HH w) (cond (Nat.beq sz 1) (GF z o v k) none) (GZ w fun cs=>cond (Nat.beq cs.length sz) (D6 z o cs k) none)
def Of (z:List IV) (pl:List (Nat×Nat×IV)) (k:List IV→Option β):Option β :=
 List.rec (motive:=fun _=>List IV→Option β) (fun z=>k z) (fun p _ ih z=>match p with
  | (o,sz,v)=>Hb z o sz v ih) pl z
def Bw (z:List IV) (pl:List (Nat×Nat×IV)) (k:IV→Option β):Option β:=Of z pl fun cells=>OF cells k
def Ln {α:Type} (place:Nat→Option (Nat×Nat)):List (Nat×α)→Option (List (Nat×Nat×α))
 | []=>some []
 | (i,x)::l=>match place i with
  | none=>none
  | some (o,s)=>match Ln place l with
   | none=>none
   | some r=>some ((o,s,x)::r)
def WT {α:Type} (g:α→IV):List (Nat×Nat×α)→List (Nat×Nat×IV)
 | []=>[]
 | (o,s,x)::l=>(o,s,g x)::WT g l
def CF (l:List (Nat×Blk)) (s:Nat) (a:Option β):Option β :=
 List.rec (motive:=fun _=>Option β) a (fun p _ ih=>match p with | (j,_)=>cond (Nat.beq s j) none ih) l
theorem Pl {l:List (Nat×Blk)} {s:Nat} {a:Option β} {r:β} (h:CF l s a=some r):Aq s l=none∧a=some r:=by
 induction l with
 | nil=>exact ⟨rfl,h⟩
 | cons p l ih =>
  obtain ⟨j,b⟩:=p;have h:cond (Nat.beq s j) none (CF l s a)=some r:=h;rw [GW] at h;split at h
  ·cases h
  ·rename_i hn;obtain ⟨h1,h2⟩:=ih h;exact ⟨by simp only [Aq,if_neg hn,h1],h2⟩
def AD (s:Nat) (b:Blk) (v:IV) (h:Hp) (k:IV→Hp→List Ref→List Ref→Option β):Option β:=match h with
 | ⟨own,ext⟩=>CF own s (A2 own s b fun own=>k v ⟨own,ext⟩ [] [.own s])
def AX (s:Nat) (x:IV) (h:Hp) (k:IV→Hp→List Ref→List Ref→Option β):Option β :=
 cond x.one (AD s (.row [x] false) (.ptr (.own s) 0) h k) (cond x.alive (spK x.cells fun cs=>AD s (.row cs false) (.ptr (.own s) 0) h k) none)
def Apu (u:List (Ref×Blk)):Hp→(Hp→Option β)→Option β :=
 List.rec (motive:=fun _=>Hp→(Hp→Option β)→Option β) (fun h k=>k h) (fun p _ rec h k=>match p with
  | (r,b)=>fRf r fun r=>C5 r h fun _=>fBk b fun b=>FM r b h fun h=>rec h k) u
theorem YW:∀(u:List (Ref×Blk)) (h:Hp) {k:Hp→Option β} {r:β},Apu u h k=some r→∃h',laid h u=some h'∧k h'=some r
 | [],h,k,r,e=>⟨h,rfl,e⟩
 | (q,b)::u,h,k,r,e=>by
  have e:(fRf q fun q=>C5 q h fun _=>fBk b fun b=>FM q b h fun h=>Apu u h k)=some r:=e;rw [N9,Er] at e;simp only [CD,KS] at e;cases hg:h.get q with
  | none=>rw [hg] at e;cases e
  | some c =>
   rw [hg] at e;obtain ⟨h',h1,h2⟩:=YW u (h.set q b) e;exact ⟨h',by simp only [laid,hg,h1],h2⟩
def Jd (o:Option Blk) (s:Nat) (h:Hp) (k:Hp→Option β):Option β:=match o with
 | none=>k h
 | some b=>match h with
  | ⟨own,ext⟩=>CF own s (fBk b fun b=>A2 own s b fun own=>k ⟨own,ext⟩)
def Ay (m:Rd Made) (s:Nat) (h:Hp) (k:IV→Hp→List Ref→List Ref→Option β):Option β:=match m.runLog h [] with
 | none=>none
 | some (m,rd)=>Apu m.eff.upd h fun h=>Jd m.new s h fun h=>fV 3 m.eff.val fun v=>k v h rd (Bq m.eff.upd++HX s m)
def Are (v:FV) (e:Option β) (k:List FV→Option β):Option β:=match v with
 | .agg cs=>k cs
 | _=>e
def fzS (m:Rd Made) (s:Nat) (x:IV) (h:Hp) (k:IV→Hp→List Ref→List Ref→Option β):Option β :=
 OD x (Ay m s h k) fun v=>Are v (Ay m s h k) fun cs=>cond (Nat.ble cs.length 2000) (k (.fv (.fp cs 0)) h [] []) (Ay m s h k)
def VI (E:Env) (s d:TypeId) (x:IV) (k:IV→Option β):Option β :=
 J3 x (CL (JQ E s d x) k) fun n=>cond (Nat.ble n 9223372036854775807) (M2 n k) (CL (JQ E s d x) k)
def Ag0 (v:FV) (want:Bool) (h:Hp) (m:(IV→Hp→List Ref→List Ref→Option β)→Option β) (k:IV→Hp→List Ref→List Ref→Option β):Option β:=match v with
 | .bool b=>cond (cond want b (not b)) (m k) (k Fr h [] [])
 | .tuple l=>List.casesOn (motive:=fun _=>Option β) l (k Fr h [] []) fun _ _=>none
 | _=>none
def Ac (v:IV) (want:Bool) (h:Hp) (m:(IV→Hp→List Ref→List Ref→Option β)→Option β) (k:IV→Hp→List Ref→List Ref→Option β):Option β:=OD v none fun v=>Ag0 v want h m k
def Jh (split:Bool) (ih:Aa) (f:FuncId) (args:List IV) (ext:List Blk):Option (IV×Hp) :=
 if split then match args,ext with
  | [.fv (.sl [])],[]=>if CB (ih f [.nils] ⟨[],[]⟩) && CB (ih f [.emp] ⟨[],[]⟩) then some (.fv (.sl []),⟨[],[]⟩) else none
  | _,_=>ih f args ⟨[],ext⟩
 else ih f args ⟨[],ext⟩
def E6 (keep:List Bool) (split raw:Bool) (ih:Aa) (f:FuncId) (args:List IV) (h:Hp) (k:IV→Hp→List Ref→List Ref→Option β):Option β :=
 match (Bk keep args).runLog h [] with
 | none=>none
 | some (
     (vs,rs,u),l1)=>match (BT 4096 rs []).runLog h l1 with
  | none=>none
  | some (
      l,l2)=>match IV.ren.renL (Dt l) vs with
   | none=>none
   | some vs' =>
          match A3 (Dt l) (l.map (·.2)) with
    | none=>none
    | some ext=>fL (fV 3) vs' fun vs'=>fL fBk ext fun ext=>match Jh split ih f vs' ext with
     | none=>none
     | some (
         res,hp')=>match (if raw then some res else ((CS 4096 res).run hp').map fun (v,_)=>.fv v) with
      | none=>none
      | some res=>match res.ren (Cj l) with
       | none=>none
       | some res=>match A3 (Cj l) hp'.ext with
        | none=>none
        | some ext'=>if ext'.length=l.length∧(Bq u).all (fun r=>!hasRef r l) then
          match laid h (u++(Bq l).zip ext') with
          | none=>none
          | some h'=>fH h' fun h'=>fV 3 res fun res=>k res h' l2 (Bq (u++(Bq l).zip ext'))
         else none
def UE (r:Ref) (e:Option β) (k:Nat→Option β):Option β:=match r with
 | .own s=>k s
 | .ext _=>e
def OJ {α:Type} (u us:List α) (k:List α→Option β):Option β :=
 List.rec (motive:=fun _=>(List α→Option β)→Option β) (fun k=>k us) (fun x _ ih k=>ih fun w=>k (x::w)) u k
theorem VB {α:Type} (u us:List α) (k:List α→Option β):OJ u us k=k (u++us):=by
 induction u generalizing k with
 | nil=>rfl
 | cons x u ih=>rw [show OJ (x::u) us k=OJ u us (fun w=>k (x::w)) from rfl,ih];rfl
abbrev FzK (β:Type):=IV→Hp→List Ref→Option β→(FV→List (Ref×Blk)→List Ref→Option β)→Option β
def C3 (g:FzK β) (l:List IV):Hp→List Ref→Option β→(List FV→List (Ref×Blk)→List Ref→Option β)→Option β :=
 List.rec (motive:=fun _=>Hp→List Ref→Option β→(List FV→List (Ref×Blk)→List Ref→Option β)→Option β) (fun _ lg _ k=>k [] [] lg)
  (fun x _ rec h lg e k=>g x h lg e fun y u lg=>rec h lg e fun ys us lg=>OJ u us fun w=>k (y::ys) w lg) l
def elF (x:FV) (k:FV→Option β):Option β:=match x with
 | .agg l=>k (.agg [.agg l])
 | x=>k x
def elL (x:FV) (t:List FV) (k:FV→Option β):Option β:=match t with
 | []=>elF x k
 | y::t=>k (.agg (x::y::t))
def AcI (a:List FV) (k:FV→Option β):Option β:=match a with
 | []=>k (.agg [])
 | x::t=>elL x t k
theorem Aie (a:List FV) (k:FV→Option β):AcI a k=k (Rr a):=by
 cases a with
 | nil=>rfl
 | cons x t=>cases t with
  | nil=>cases x<;>rfl
  | cons y t=>cases x<;>rfl
def chK (sz len:Nat) (cs:List FV) (k:List FV→Option β):Option β :=
 Nat.rec (motive:=fun _=>List FV→(List FV→Option β)→Option β) (fun _ k=>k []) (fun _ rec cs k=>FL cs sz fun a=>FA cs sz fun b=>AcI a fun x=>rec b fun xs=>k (x::xs)) len cs k
theorem AeK (sz:Nat):∀(len:Nat) (cs:List FV) {k:List FV→Option β} {r:β},chK sz len cs k=some r→k (BN sz len cs)=some r
 | 0,_,_,_,h=>h
 | len+1,cs,k,r,h=>by
  have h:(FL cs sz fun a=>FA cs sz fun b=>AcI a fun x=>chK sz len b fun xs=>k (x::xs))=some r:=h;rw [JG] at h;by_cases h1:sz≤cs.length
  ·rw [if_pos h1,K4,if_pos h1,Aie] at h;exact AeK sz len _ h
  ·rw [if_neg h1] at h;cases h
def EU (d:Nat):FzK β :=
 Nat.rec (motive:=fun _=>FzK β) (fun _ _ _ e _=>e) (fun _ g v h lg e k=>match v with
  | .fv v=>k v [] lg
  | .nils=>k (.sl []) [] lg
  | .emp=>k (.sl []) [] lg
  | .clip es=>k (.sl es) [] lg
  | .app _ es=>k (.sl es) [] lg
  | .ptr r off=>UE r e fun s=>C5 (.own s) h fun b=>D7 b fun cells=>cond (Nat.ble cells.length 300) (C3 g cells h (.own s::lg) e fun cs u lg=>k (.fp cs off) ((.own s,.row cells true)::u) lg) e
  | .slc r sz len=>UE r e fun s=>C5 (.own s) h fun b=>D7 b fun cells=>cond (Nat.ble cells.length 300) (cond (or (Nat.beq sz 0) (not (Nat.ble (len * sz) cells.length))) none
    (C3 g cells h (.own s::lg) e fun cs u lg=>chK sz len cs fun els=>k (.sl els) ((.own s,.row cells true)::u) lg)) e
  | .agg cs=>cond (Nat.ble cs.length 300) (C3 g cs h lg e fun cs u lg=>k (.agg cs) u lg) e
  | .func fn a b=>cond (and (Nat.ble a.length 300) (Nat.ble b.length 300)) (C3 g a h lg e fun x u lg=>C3 g b h lg e fun y v lg=>OJ u v fun w=>k (.func fn x y) w lg) e
  | _=>e) d
def SX (args:List IV):List Bool→Hp→List Ref→Option β→(List IV→List Ref→List (Ref×Blk)→List Ref→Option β)→Option β :=
 List.rec (motive:=fun _=>List Bool→Hp→List Ref→Option β→(List IV→List Ref→List (Ref×Blk)→List Ref→Option β)→Option β) (fun _ _ lg _ k=>k [] [] [] lg)
  (fun x _ rec keep h lg e k=>match keep with
   | []=>EU 12 x h lg e fun y u lg=>rec [] h lg e fun vs rs us lg=>OJ u us fun w=>k (.fv y::vs) rs w lg
   | b::ks=>cond b (ET x (fun r o=>rec ks h lg e fun vs rs us lg=>k (.ptr r o::vs) (r::rs) us lg) fun _ _=>e)
     (EU 12 x h lg e fun y u lg=>rec ks h lg e fun vs rs us lg=>OJ u us fun w=>k (.fv y::vs) rs w lg)) args
def TM (v:IV):List Ref→List Ref :=
 IV.rec (motive_1:=fun _=>List Ref→List Ref) (motive_2:=fun _=>List Ref→List Ref) (fun acc=>acc) (fun _ acc=>acc) (fun r _ acc=>r::acc) (fun r _ _ acc=>r::acc) (fun acc=>acc) (fun acc=>acc) (fun _ acc=>acc)
  (fun r _ acc=>r::acc) (fun _ _ _ f g acc=>f (g acc)) (fun _ f acc=>f acc) (fun _ f acc=>f acc) (fun r acc=>r::acc) (fun acc=>acc) (fun _ _ f g acc=>f (g acc)) v
def Ct (l:List IV):List Ref→List Ref :=
 IV.rec_1 (motive_1:=fun _=>List Ref→List Ref) (motive_2:=fun _=>List Ref→List Ref) (fun acc=>acc) (fun _ acc=>acc) (fun r _ acc=>r::acc) (fun r _ _ acc=>r::acc) (fun acc=>acc) (fun acc=>acc) (fun _ acc=>acc)
  (fun r _ acc=>r::acc) (fun _ _ _ f g acc=>f (g acc)) (fun _ f acc=>f acc) (fun _ f acc=>f acc) (fun r acc=>r::acc) (fun acc=>acc) (fun _ _ f g acc=>f (g acc)) l
def EX (b:Blk):List Ref:=match b with
 | .row cells _=>Ct cells []
 | .tok _ _=>[]
 | .map es=>List.rec (motive:=fun _=>List Ref) [] (fun p _ ih=>match p with | (_,v)=>TM v ih) es
def goR (rec:List Ref→Nat→List Blk→Bool) (t:List Ref) (s:Nat) (rest:List Blk):Bool:=match rest with
 | []=>false
 | b::rest=>rec (t++EX b) (Nat.succ s) rest
def OE (n:Nat):List Ref→Nat→List Blk→Bool :=
 Nat.rec (motive:=fun _=>List Ref→Nat→List Blk→Bool) (fun _ _ _=>false) (fun _ rec todo s rest=>match todo with
  | []=>(match rest with
   | []=>true
   | _::_=>false)
  | r::t=>(match r with
   | .own _=>false
   | .ext j=>cond (Nat.ble (Nat.succ j) s) (rec t s rest) (cond (Nat.beq j s) (goR rec t s rest) false))) n
def okR (m:Nat) (rs:List Ref):Bool :=
 List.rec (motive:=fun _=>Bool) true (fun r _ rec=>match r with
  | .own _=>false
  | .ext j=>cond (Nat.ble (Nat.succ j) m) rec false) rs
def okB (m:Nat) (l:List Blk):Bool:=List.rec (motive:=fun _=>Bool) true (fun b _ rec=>cond (okR m (EX b)) rec false) l
def Ll (u:List (Ref×Blk)):Hp→(Hp→Option β)→Option β :=
 List.rec (motive:=fun _=>Hp→(Hp→Option β)→Option β) (fun h k=>k h) (fun p _ rec h k=>match p with
  | (r,b)=>UE r none fun s=>C5 (.own s) h fun _=>FM (.own s) b h fun h=>rec h k) u
def CI (m:Nat):List Ref:=(List.range m).map .ext
def Ah (keep:List Bool) (split raw:Bool) (ih:Aa) (f:FuncId) (args:List IV) (h:Hp) (k:IV→Hp→List Ref→List Ref→Option β):Option β :=
 cond (
    cond split true raw) (E6 keep split raw ih f args h k)
  (SX args keep h [] (E6 keep split raw ih f args h k) fun vs rs u lg=>match rs with
   | []=>(match ih f vs ⟨[],[]⟩ with
    | none=>none
    | some p=>match p with
     | (v,h')=>match h' with
      | ⟨own,ext⟩=>List.casesOn (motive:=fun _=>Option β) ext (EU 12 v ⟨own,[]⟩ [] (E6 keep split raw ih f args h k) fun w _ _=>Ll u h fun h2=>k (.fv w) h2 lg (Bq u)) fun _ _=>none)
   | r::rs=>(match h with
    | ⟨own,ext⟩=>cond (OE 400 (r::rs) 0 ext) (match ih f vs ⟨[],ext⟩ with
     | none=>none
     | some p=>match p with
      | (v,h')=>match h' with
       | ⟨own',ext'⟩=>cond (and (Nat.beq ext'.length ext.length) (okB ext.length ext'))
        (EU 12 v ⟨own',ext'⟩ [] (E6 keep split raw ih f args h k) fun w _ _=>Ll u ⟨own,ext'⟩ fun h2=>k (.fv w) h2 ((CI ext.length).reverse++lg) (Bq u++CI ext.length)) none)
     (E6 keep split raw ih f args h k)))
def Fs (E:Env) (ih:Aa) (g:IV) (args:List IV) (h:Hp) (k:IV→Hp→List Ref→List Ref→Option β):Option β:=match callee g with
 | none=>none
 | some (f,first,cap)=>cond (E.pol.inl f) none (spK (first++args++cap) fun args=>Ah (E.pol.keep f) (E.pol.split f) (E.pol.raw f) ih f args h k)
def Af9 (ih:Aa) (f:FuncId) (args:List IV) (h:Hp) (k:IV→Hp→List Ref→List Ref→Option β):Option β:=match ih f args h with
 | none=>none
 | some p=>match p with
  | (v,h)=>k v h [] []
section
variable (E:Env)
def Ak (t:TypeId) (len:Nat) (parts:List (Nat×IV)):Rd Made:=match E.T t with
  | some ⟨_,_,.slice e,_⟩=>match E.T e with
   | some ei=>if ei.size=0∨len * ei.size > 65536 then .fail else
    match Cq (fun j=>some (j * ei.size,ei.size)) (OL len ei.zero) parts with
    | some cells=>(frzL 65536 cells).bind fun (vs,u)=>.ret { eff:={ val:=.clip (BN ei.size len vs),upd:=u } }
    | none=>.fail
   | none=>.fail
  | _=>.fail
def Mo (t:TypeId) (parts:List (Nat×IV)):Rd Made:=match E.T t with
  | some ⟨_,_,.struct fs,z⟩=>GL ((Cq (ER E fs) z parts).map Fk)
  | some ⟨_,_,.arr _ e,z⟩=>match E.T e with
   | some ei=>GL ((Cq (fun j=>some (j * ei.size,ei.size)) z parts).map Fk)
   | none=>.fail
  | _=>.fail
def KE (fz:Bool) (s:Nat) (v:IV):Rd Made :=
  if v.alive=false then .fail else
  if fz then (frzL 4096 v.cells).bind fun (vs,u)=>.ret { eff:={ val:=.fv (.fp vs 0),upd:=u } }
  else .ret { eff:={ val:=.ptr (.own s) 0 },new:=some (.row v.cells false) }
def GC (s:Nat):Rd Made:=.ret { eff:={ val:=.mapr (.own s) },new:=some (.map []) }
def B4 (t:TypeId) (m k v:IV):Rd Made:=match E.T t with
  | some ⟨_,_,.map kt _,_⟩=>match E.T kt,m,k with
   | some ⟨_,_,.int .i64,_⟩,.mapr r,.fv (.int .i64 n)=>.get r fun
    | .map es =>
     if v.alive∧Fu r v then .ret { eff:={ val:=.dead,upd:=[(r,.map (Cn n v es))] } } else .fail
    | _=>.fail
   | _,_,_=>.fail
  | _=>.fail
def GJ (t:TypeId) (m k:IV) (ok:Bool):Rd Made:=match E.T t with
  | some ⟨
      _,_,.map kt et,_⟩=>match E.T kt,E.T et,m,k with
   | some ⟨_,_,.int .i64,_⟩,some ei,.mapr r,.fv (.int .i64 n)=>.get r fun
    | .map es=>match CW n es with
     | some v=>val (if ok then Co [v,.fv (.bool true)] else v)
     | none=>match Rg ei with
      | some z=>val (if ok then Co [z,.fv (.bool false)] else z)
      | none=>.fail
    | _=>.fail
   | _,_,_,_=>.fail
  | _=>.fail
def BS (s:Nat) (t:TypeId) (l c:IV):Rd Made:=match E.T t with
  | some ⟨_,_,.slice e,_⟩=>match E.T e,l,c with
   | some ei,.fv (.int .i64 a),.fv (.int .i64 b) =>
    if 0≤a∧a≤b∧b≤1048576∧ei.size≠0∧ei.bytes≤65536 then
     .ret { eff:={ val:=.slc (.own s) ei.size a.toNat },new:=some (.row (OL b.toNat ei.zero) false) }
    else .fail
   | _,_,_=>.fail
  | _=>.fail
def Yq (t:TypeId) (x ix:IV):Rd Made:=match E.T t,x,ix with
  | some ⟨_,_,.str,_⟩,.fv (.str s),.fv (.int _ n)=>if n<0 then .fail else match s[n.toNat]? with
   | some b=>val (.fv (.int .u8 b.toNat))
   | none=>.fail
  | some ⟨_,_,.arr m e,_⟩,.fv (.agg cs),.fv (.int _ n)=>match E.T e with
   | some ei=>if 0≤n∧n<(m:Int) then GL ((Bt ei.kind.isAgg ei.size (n.toNat * ei.size) cs).map .fv) else .fail
   | none=>.fail
  | _,_,_=>.fail
theorem AdQ {ih:Aa} {f rid i:Nat} {ρ:Operand→IV} {t:TypeId} {x:Operand}:CK E ih f rid i ρ (.box t x)=KE (E.pol.fzBox f rid i) (Bh f rid i) (ρ x):=rfl
end
abbrev Td {α:Type} (b:Bool) (x y:α):α:=Bool.rec (motive:=fun _=>α) y x b
theorem BD {α:Type} (b:Bool) (x y:α):Td b x y=cond b x y:=by cases b<;>rfl
section
variable (E:Env) (ih:Aa)
def Fm:Op→Bool
 | .move _ | .assign _ | .pick .. | .nilCheck _ | .binOp .. | .unOp .. | .convert .. | .fieldAddr .. | .field .. | .extract ..=>true
 | .build t _=>match E.T t with
  | some ⟨_,_,.struct _,_⟩=>true
  | _=>false
 | .indexAddr t _ _=>match E.T t with
  | some ⟨_,_,.slice e,_⟩=>(match E.T e with | some _=>true | none=>false)
  | some ⟨_,_,.arr _ e,_⟩=>(match E.T e with | some _=>true | none=>false)
  | _=>false
 | .index t _ _=>match E.T t with
  | some ⟨_,_,.arr _ e,_⟩=>(match E.T e with | some ei=>!ei.kind.isAgg | none=>false)
  | _=>false
 | .call { callee:=.builtin .len,argTypes,args }=>match argTypes.toList,args.toList with
  | [t],[_]=>(match E.T t with | some ⟨_,_,.slice _,_⟩=>true | _=>false)
  | _,_=>false
 | _=>false
def UF (f:FuncId) (rid i:Nat) (drawn:Bool) (ρ:Operand→IV) (cl:Callee) (args:List Operand) (ts:List TypeId) (h:Hp) (k:IV→Hp→List Ref→List Ref→Option β):Option β:=match cl with
 | .builtin b=>match b,ts,args with
  | .len,[t],[x]=>(match E.T t with
   | some ⟨_,_,.slice _,_⟩=>B0 (ρ x) fun v=>k v h [] []
   | _=>Ay (AS E (Bh f rid i) (E.pol.rowApp f rid i) b ts (args.map ρ)) (Bh f rid i) h k)
  | _,_,_=>Ay (AS E (Bh f rid i) (E.pol.rowApp f rid i) b ts (args.map ρ)) (Bh f rid i) h k
 | .value g=>match g with
  | .func g=>Td (E.pol.inl g) (Td drawn none (Af9 ih g (args.map ρ) h k)) (Ah (E.pol.keep g) (E.pol.split g) (E.pol.raw g) ih g (args.map ρ) h k)
  | g=>Fs E ih (ρ g) (args.map ρ) h k
 | _=>none
def I5 (f:FuncId) (rid i:Nat) (drawn:Bool) (ρ:Operand→IV) (op:Op) (h:Hp) (k:IV→Hp→List Ref→List Ref→Option β):Option β:=match op with
 | .move x=>k (ρ x) h [] []
 | .assign x=>k (ρ x) h [] []
 | .pick c a b=>AI (ρ c) (ρ a) (ρ b) fun v=>k v h [] []
 | .alloc t=>match E.T t with
  | some ti=>AD (Bh f rid i) (.row ti.zero false) (.ptr (.own (Bh f rid i)) 0) h k
  | none=>none
 | .box _ x=>Td (E.pol.fzBox f rid i) (fzS (KE true (Bh f rid i) (ρ x)) (Bh f rid i) (ρ x) h k) (AX (Bh f rid i) (ρ x) h k)
 | .build t parts=>match E.T t with
  | some ⟨_,_,.struct fs,z⟩=>(match Ln (ER E fs) parts.toList with
   | some l=>Bw z (WT ρ l) fun v=>k v h [] []
   | none=>none)
  | _=>Ay (Mo E t (parts.toList.map fun (j,x)=>(j,ρ x))) (Bh f rid i) h k
 | .buildSlice t len parts=>Ay (Ak E t len (parts.toList.map fun (j,x)=>(j,ρ x))) (Bh f rid i) h k
 | .makeFunc fn a b=>Ay (val (CV fn (a.toList.map ρ) (b.toList.map ρ))) (Bh f rid i) h k
 | .makeMap _ n=>(match n with
  | none=>Ay (GC (Bh f rid i)) (Bh f rid i) h k
  | some _=>none)
 | .insert t m j x=>Ay (B4 E t (ρ m) (ρ j) (ρ x)) (Bh f rid i) h k
 | .mapUpdate t m j x=>Ay (B4 E t (ρ m) (ρ j) (ρ x)) (Bh f rid i) h k
 | .lookup t m j ok=>Ay (GJ E t (ρ m) (ρ j) ok) (Bh f rid i) h k
 | .makeSlice t l c=>Ay (BS E (Bh f rid i) t (ρ l) (ρ c)) (Bh f rid i) h k
 | .slice t x lo hi mx=>Ay (Vp E t (ρ x) (lo.map ρ) (hi.map ρ) (mx.map ρ)) (Bh f rid i) h k
 | .load t a=>match E.T t with
  | none=>none
  | some ti=>Td ti.kind.isAgg (Ag ti.size (ρ a) h fun v rd=>k v h rd []) (Ae (ρ a) h fun v rd=>k v h rd [])
 | .store t a x=>match E.T t with
  | none=>none
  | some ti=>Td (Nat.beq ti.size 1) (A9 (ρ a) (ρ x) h fun h rd wr=>k .dead h rd wr) (Af ti.size (ρ a) (ρ x) h fun h rd wr=>k .dead h rd wr)
 | .nilCheck x=>AH (ρ x) fun v=>k v h [] []
 | .binOp op t x y _=>AfV E t op (ρ x) (ρ y) fun v=>k v h [] []
 | .unOp op _ x=>CL (LR op (ρ x)) fun v=>k v h [] []
 | .convert s d x=>match E.T s,E.T d with
  | some _,some ⟨_,_,.int .i64,_⟩=>VI E s d (ρ x) fun v=>k v h [] []
  | _,_=>CL (JQ E s d (ρ x)) fun v=>k v h [] []
 | .fieldAddr s x fd=>match Hn E s fd with
  | some (o,ti)=>Td (Nat.beq ti.size 0) none (Ab o (ρ x) fun v=>k v h [] [])
  | none=>none
 | .field s x fd=>match Hn E s fd with
  | some (o,ti)=>Td ti.kind.isAgg (Apn ti.size o (ρ x) fun v=>k v h [] []) (AqF o (ρ x) fun v=>k v h [] [])
  | none=>none
 | .indexAddr t x ix=>match E.T t with
  | some ⟨_,_,.slice e,_⟩=>(match E.T e with
   | some ei=>AT ei.size (ρ x) (ρ ix) fun v=>k v h [] []
   | none=>none)
  | some ⟨_,_,.arr m e,_⟩=>(match E.T e with
   | some ei=>ixA m ei.size (ρ x) (ρ ix) fun v=>k v h [] []
   | none=>none)
  | _=>none
 | .index t x ix=>match E.T t with
  | some ⟨_,_,.arr m e,_⟩=>(match E.T e with
   | some ei=>Td ei.kind.isAgg (Ay (Yq E t (ρ x) (ρ ix)) (Bh f rid i) h k) (AsW m ei.size (ρ x) (ρ ix) fun v=>k v h [] [])
   | none=>none)
  | _=>Ay (Yq E t (ρ x) (ρ ix)) (Bh f rid i) h k
 | .extract x ix=>Ar ix (ρ x) fun v=>k v h [] []
 | .call c=>match c with
  | { callee,args,argTypes }=>UF E ih f rid i drawn ρ callee args.toList argTypes.toList h k
 | _=>none
end
end
end Idl
end Go.Proofs.Ytkfecngimlcfoaa
namespace Go.Proofs.Ytkfecngimlcfoaa
namespace Idl
section
variable {β:Type} {E:Env} {ih ih':Aa} {f rid i:Nat} {dr:Bool} {ρ:Operand→IV} {hp:Hp} {k:IV→Hp→List Ref→List Ref→Option β} {r:β}
def Aux (E:Env) (ih:Aa) (f rid i:Nat) (ρ:Operand→IV) (op:Op) (hp:Hp) (v:IV) (hp':Hp) (rd wr:List Ref):Prop :=
 ∃m,(CK E ih f rid i ρ op).runLog hp []=some (m,rd)∧AP (Bh f rid i) hp m=some hp'∧m.eff.val=v∧wr=Bq m.eff.upd++HX (Bh f rid i) m
def Gy (E:Env) (ih:Aa) (f rid i:Nat) (ρ:Operand→IV) (op:Op) (hp:Hp) (k:IV→Hp→List Ref→List Ref→Option β) (r:β):Prop :=
 ∃v hp' rd wr,Aux E ih f rid i ρ op hp v hp' rd wr∧k v hp' rd wr=some r∧(Fm E op=true→rd=[]∧wr=[])
theorem A1 {op:Op} {v:IV} (e:CK E ih f rid i ρ op=val v) (h:k v hp [] []=some r):Gy E ih f rid i ρ op hp k r :=
 ⟨v,hp,[],[],⟨{ eff:={ val:=v } },by rw [e];rfl,rfl,rfl,rfl⟩,h,fun _=>⟨rfl,rfl⟩⟩
theorem Px {op:Op} {o:Option IV} (e:CK E ih f rid i ρ op=GL o) (h:(o.bind fun v=>k v hp [] [])=some r):Gy E ih f rid i ρ op hp k r:=by
 cases o with
 | none=>cases h
 | some v=>exact A1 e h
theorem T9 {op:Op} {b:Blk} {v:IV} (hq:Fm E op=false) (e:CK E ih f rid i ρ op=.ret { eff:={ val:=v },new:=some b })
  (h:AD (Bh f rid i) b v hp k=some r):Gy E ih f rid i ρ op hp k r:=by
 obtain ⟨own,ext⟩:=hp;have h:CF own (Bh f rid i) (A2 own (Bh f rid i) b fun own=>k v ⟨own,ext⟩ [] [.own (Bh f rid i)])=some r:=h;obtain ⟨h1,h2⟩:=Pl h;rw [BV] at h2;refine ⟨v,⟨AO (Bh f rid i) b own,ext⟩,[],[.own (Bh f rid i)],⟨_,by rw [e];rfl,?_,rfl,rfl⟩,h2,fun q=>by rw [hq] at q;cases q⟩;simp only [AP,laid,Option.bind_some,Cv];rw [show (Hp.mk own ext).get (.own (Bh f rid i))=none from h1]
 rfl
theorem BJ {op:Op} {m:Rd Made} (hq:Fm E op=false) (e:CK E ih f rid i ρ op=m) (h:Ay m (Bh f rid i) hp k=some r):Gy E ih f rid i ρ op hp k r:=by
 unfold Ay at h;cases hm:m.runLog hp [] with
 | none=>rw [hm] at h;cases h
 | some p =>
  obtain ⟨m',rd⟩:=p;rw [hm] at h;simp only at h;obtain ⟨h1,l1,h⟩:=YW _ _ h;have hh:∃h2,Cv (Bh f rid i) m' h1=some h2∧k m'.eff.val h2 rd (Bq m'.eff.upd++HX (Bh f rid i) m')=some r:=by
   unfold Jd at h;unfold Cv;cases hn:m'.new with
   | none=>rw [hn] at h;simp only [Ci] at h;exact ⟨h1,rfl,h⟩
   | some b =>
    rw [hn] at h;obtain ⟨own,ext⟩:=h1;simp only [CD,BV,Ci] at h;obtain ⟨f1,f2⟩:=Pl h;refine ⟨⟨AO (Bh f rid i) b own,ext⟩,?_,f2⟩;simp only;rw [show (Hp.mk own ext).get (.own (Bh f rid i))=none from f1]
    rfl
  obtain ⟨h2,l2,h⟩:=hh;exact ⟨_,h2,rd,_,⟨m',by rw [e,hm],by simp only [AP,l1,Option.bind_some,l2],rfl,rfl⟩,h,fun q=>by rw [hq] at q;cases q⟩
theorem Nz {x:IV} {e:Option β} {k:FV→Option β} (h:OD x e k=some r):(∃v,x=.fv v∧k v=some r)∨e=some r:=by
 unfold OD at h;split at h
 ·exact .inl ⟨_,rfl,h⟩
 ·exact .inr h
theorem Ua {x:IV} {k:List IV→Option β} {kf:List FV→Option β} (h:asAgg x k kf=some r):(∃cs,x=.agg cs∧k cs=some r)∨(∃cs,x=.fv (.agg cs)∧kf cs=some r):=by
 unfold asAgg at h;split at h
 ·exact .inl ⟨_,rfl,h⟩
 ·unfold GZ at h;split at h
  ·exact .inr ⟨_,rfl,h⟩
  ·cases h
 ·cases h
theorem Dd {x:IV} {k:Ref→Nat→Option β} {kf:List FV→Nat→Option β} (h:ET x k kf=some r):(∃q o,x=.ptr q o∧k q o=some r)∨(∃cs o,x=.fv (.fp cs o)∧kf cs o=some r):=by
 unfold ET at h;split at h
 ·exact .inl ⟨_,_,rfl,h⟩
 ·unfold As6 at h;split at h
  ·exact .inr ⟨_,_,rfl,h⟩
  ·cases h
 ·cases h
theorem GB {b:Blk} {k:List IV→Option β} (h:D7 b k=some r):∃cells ro,b=.row cells ro∧k cells=some r:=by
 unfold D7 at h;split at h
 ·exact ⟨_,_,rfl,h⟩
 ·cases h
theorem Ps {b:Blk} {k:List IV→Option β} (h:G3 b k=some r):∃cells,b=.row cells false∧k cells=some r:=by
 unfold G3 at h;split at h
 ·rename_i ro;cases ro with
  | true=>cases h
  | false=>exact ⟨_,rfl,h⟩
 ·cases h
theorem TP {x:IV} {k:Ref→Nat→Nat→Option β} {e:Option β} (h:YR x k e=some r):(∃q sz n,x=.slc q sz n∧k q sz n=some r)∨((∀q sz n,x≠.slc q sz n)∧e=some r):=by
 unfold YR at h;split at h
 ·exact .inl ⟨_,_,_,rfl,h⟩
 ·rename_i hn;exact .inr ⟨hn,h⟩
theorem Bu {α:Type} {o:Option α} {k:α→Option β} (h:o.bind k=some r):∃a,o=some a∧k a=some r:=by
 cases o with
 | none=>cases h
 | some a=>exact ⟨a,rfl,h⟩
theorem Dh {c:Prop} [Decidable c] {a:Option β} (h:(if c then a else none)=some r):c∧a=some r:=by
 by_cases hc:c
 ·rw [if_pos hc] at h;exact ⟨hc,h⟩
 ·rw [if_neg hc] at h;cases h
theorem Ds {c:Bool} {a:Option β} (h:cond c a none=some r):c=true∧a=some r:=by cases c;cases h;exact ⟨rfl,h⟩
theorem Dv {a b:Nat} (h:Nat.beq a b=true):a=b:=Nat.eq_of_beq_eq_true h
theorem Bn {a b:Nat} (h:Nat.ble a b=true):a≤b:=Nat.le_of_ble_eq_true h
theorem Fd {t:TypeId} {op:BinOp} {x y:IV} {k:IV→Option β} (h:CH E t op x y k=some r):∃v,FJ E op t x y=some v∧k v=some r:=by
 rw [CH,CA] at h;exact Bu h
theorem AkI {t:TypeId} {x y:IV} {k:IV→Option β} (h:Bp E t x y k=some r):∃v,FJ E .add t x y=some v∧k v=some r:=by
 unfold Bp at h;rcases FI h with ⟨a,rfl,g'⟩ | h
 ·replace h:=g';clear g';rcases FI h with ⟨b,rfl,g'⟩ | h
  ·replace h:=g';clear g';cases hc:Nat.ble (a+b) 9223372036854775807 with
   | false=>rw [hc] at h;exact Fd h
   | true =>
    rw [hc] at h;simp only [cond,Dm] at h;refine ⟨_,?_,h⟩;have e:IntKind.i64.wrap ((a:Int)+(b:Int))=((a+b:Nat):Int):=by
     rw [← Int.natCast_add];exact U9 (Bn hc)
    show some (IV.fv (.int .i64 (IntKind.i64.wrap ((a:Int)+(b:Int)))))=_
    rw [e]
  ·exact Fd h
 ·exact Fd h
theorem Al9 {t:TypeId} {x y:IV} {k:IV→Option β} (h:Bd E t x y k=some r):∃v,FJ E .sub t x y=some v∧k v=some r:=by
 unfold Bd at h;rcases FI h with ⟨a,rfl,g'⟩ | h
 ·replace h:=g';clear g';rcases FI h with ⟨b,rfl,g'⟩ | h
  ·replace h:=g';clear g';cases hc:(and (Nat.ble b a) (Nat.ble a 9223372036854775807)) with
   | false=>rw [hc] at h;exact Fd h
   | true =>
    rw [hc] at h;simp only [cond,Dm] at h;refine ⟨_,?_,h⟩;have hc:(Nat.ble b a && Nat.ble a 9223372036854775807)=true:=hc;simp only [Bool.and_eq_true] at hc;have h1:=Bn hc.1;have h2:=Bn hc.2;have e:IntKind.i64.wrap ((a:Int) - (b:Int))=((a - b:Nat):Int):=by
     rw [← Int.natCast_sub h1];exact U9 (by omega)
    show some (IV.fv (.int .i64 (IntKind.i64.wrap ((a:Int) - (b:Int)))))=_
    rw [e]
  ·exact Fd h
 ·exact Fd h
theorem I1 {t:TypeId} {op:BinOp} {g:Nat→Nat→Bool} (hg:∀a b:Nat,FJ E op t (.fv (.int .i64 a)) (.fv (.int .i64 b))=some (.fv (.bool (g a b)))) {x y:IV} {k:IV→Option β}
  (h:Sq E t op g x y k=some r):∃v,FJ E op t x y=some v∧k v=some r:=by
 unfold Sq at h;rcases FI h with ⟨a,rfl,g'⟩ | h
 ·replace h:=g';clear g';rcases FI h with ⟨b,rfl,g'⟩ | h
  ·replace h:=g';clear g';rw [SR] at h;exact ⟨_,hg a b,h⟩
  ·exact Fd h
 ·exact Fd h
theorem Ib (a b:Nat):Nat.beq a b=decide (a=b):=by
 cases h:Nat.beq a b with
 | true=>rw [Dv h];simp
 | false =>
  have:a≠b:=fun e=>by rw [e,show Nat.beq b b=true from Nat.beq_refl b] at h;cases h
  simp [this]
theorem Bl (a b:Nat):Nat.ble a b=decide (a≤b):=by
 cases h:Nat.ble a b with
 | true=>have:=Bn h;simp [this]
 | false =>
  have:¬ a≤b:=fun e=>by rw [Nat.ble_eq_true_of_le e] at h;cases h
  simp [this]
theorem Acy {t:TypeId} {op:BinOp} {x y:IV} {k:IV→Option β} (h:AfV E t op x y k=some r):∃v,FJ E op t x y=some v∧k v=some r:=by
 cases op with
 | add=>exact AkI h
 | sub=>exact Al9 h
 | eql =>
  refine I1 (fun a b=>?_) h
  show some (IV.fv (.bool ((a:Int) == (b:Int))))=_
  rw [Ib];congr 3;exact decide_eq_decide.2 Int.ofNat_inj
 | neq =>
  refine I1 (fun a b=>?_) h
  show some (IV.fv (.bool ((a:Int) != (b:Int))))=_
  rw [Ib];congr 3
  show (!decide ((a:Int)=(b:Int)))=!decide (a=b)
  congr 1;exact decide_eq_decide.2 Int.ofNat_inj
 | lss =>
  refine I1 (fun a b=>?_) h
  show some (IV.fv (.bool (decide ((a:Int)<(b:Int)))))=_
  rw [Bl];congr 3;exact decide_eq_decide.2 (by omega)
 | leq =>
  refine I1 (fun a b=>?_) h
  show some (IV.fv (.bool (decide ((a:Int)≤(b:Int)))))=_
  rw [Bl];congr 3;exact decide_eq_decide.2 (by omega)
 | gtr =>
  refine I1 (fun a b=>?_) h
  show some (IV.fv (.bool (decide ((a:Int) > (b:Int)))))=_
  rw [Bl];congr 3;exact decide_eq_decide.2 (by omega)
 | geq =>
  refine I1 (fun a b=>?_) h
  show some (IV.fv (.bool (decide ((a:Int) ≥ (b:Int)))))=_
  rw [Bl];congr 3;exact decide_eq_decide.2 (by omega)
 | _=>exact Fd h
theorem Acu {s d:TypeId} {x:IV} {si:TI} {a b:Nat} {z:List IV} (h1:E.T s=some si) (h2:E.T d=some ⟨a,b,.int .i64,z⟩) {k:IV→Option β} (h:VI E s d x k=some r) :
  ∃v,JQ E s d x=some v∧k v=some r:=by
 have hg:CL (JQ E s d x) k=some r→∃v,JQ E s d x=some v∧k v=some r:=fun h=>by rw [CA] at h;exact Bu h
 unfold VI at h;rcases FI h with ⟨n,rfl,g'⟩ | h
 ·replace h:=g';clear g';cases hc:Nat.ble n 9223372036854775807 with
  | false=>rw [hc] at h;exact hg h
  | true =>
   rw [hc] at h;simp only [cond,Dm] at h;refine ⟨_,?_,h⟩;simp only [JQ,h1,h2];rw [U9 (Bn hc)]
 ·exact hg h
theorem Aqg {t:TypeId} {a:Operand} (h:I5 E ih' f rid i dr ρ (.load t a) hp k=some r):Gy E ih f rid i ρ (.load t a) hp k r:=by
 simp only [I5,BD] at h;cases ht:E.T t with
 | none=>rw [ht] at h;cases h
 | some ti =>
  rw [ht] at h;simp only at h;cases hag:ti.kind.isAgg with
  | true =>
   rw [hag] at h;simp only [cond,Ag] at h;rcases Dd h with ⟨q,o,ha,h⟩ | ⟨cs,o,ha,h⟩
   ·rw [Er] at h;obtain ⟨b,hb,h⟩:=Bu h;obtain ⟨cells,ro,rfl,g'⟩:=GB h;replace h:=g';clear g';rw [K4] at h;obtain ⟨h1,h⟩:=Dh h;rw [JG] at h;obtain ⟨h2,h⟩:=Dh h;rw [Sy] at h;refine ⟨_,hp,[q],[],⟨{ eff:={ val:=Fk ((cells.drop o).take ti.size) } },?_,rfl,rfl,rfl⟩,h,fun q=>by cases q⟩;simp only [CK,ht,ha,Rd.runLog,hb,Ca,hag,if_true];rw [if_pos (by simp at h2;omega)];rfl
   ·rw [K4] at h;obtain ⟨h1,h⟩:=Dh h;rw [JG] at h;obtain ⟨h2,h⟩:=Dh h;refine ⟨_,hp,[],[],⟨{ eff:={ val:=.fv (.agg ((cs.drop o).take ti.size)) } },?_,rfl,rfl,rfl⟩,h,fun q=>by cases q⟩;simp only [CK,ht,ha,Bt,hag,if_true];rw [if_pos (by simp at h2;omega)];rfl
  | false =>
   rw [hag] at h;simp only [cond,Ae] at h;rcases Dd h with ⟨q,o,ha,h⟩ | ⟨cs,o,ha,h⟩
   ·rw [Er] at h;obtain ⟨b,hb,h⟩:=Bu h;obtain ⟨cells,ro,rfl,g'⟩:=GB h;replace h:=g';clear g';rw [CT] at h;obtain ⟨v,hv,h⟩:=Bu h;refine ⟨_,hp,[q],[],⟨{ eff:={ val:=v } },?_,rfl,rfl,rfl⟩,h,fun q=>by cases q⟩;simp only [CK,ht,ha,Rd.runLog,hb,Ca,hag,Bool.false_eq_true,if_false,hv];rfl
   ·rw [CT] at h;obtain ⟨v,hv,h⟩:=Bu h;refine ⟨_,hp,[],[],⟨{ eff:={ val:=.fv v } },?_,rfl,rfl,rfl⟩,h,fun q=>by cases q⟩;simp only [CK,ht,ha,Bt,hag,Bool.false_eq_true,if_false,hv];rfl
theorem WN (cells:List IV) (o:Nat) (v:IV):A4 cells o [v]=cells.set o v:=rfl
theorem AjK {t:TypeId} {a x:Operand} (h:I5 E ih' f rid i dr ρ (.store t a x) hp k=some r):Gy E ih f rid i ρ (.store t a x) hp k r:=by
 simp only [I5,BD] at h;cases ht:E.T t with
 | none=>rw [ht] at h;cases h
 | some ti =>
  rw [ht] at h;simp only at h;have key:∀q o cells,ρ a=.ptr q o→hp.get q=some (.row cells false) →
    ((ρ x).alive=true∧(ρ x).cells.length=ti.size∧o+ti.size≤cells.length∧(ρ x).cells.all IV.one=true∧Fu q (ρ x)=true) →
    k .dead (hp.set q (.row (A4 cells o (ρ x).cells) false)) [q] [q]=some r→Gy E ih f rid i ρ (.store t a x) hp k r:=by
   intro q o cells ha hb hc h;refine ⟨_,_,[q],[q],⟨{ eff:={ val:=.dead,upd:=[(q,.row (A4 cells o (ρ x).cells) false)] } },?_,?_,rfl,rfl⟩,h,fun q=>by cases q⟩
   ·simp only [CK,ht,ha,Rd.runLog,hb];rw [if_pos hc];rfl
   ·simp only [AP,laid,hb,Option.bind_some,Cv]
  have gen:Af ti.size (ρ a) (ρ x) hp (fun h rd wr=>k .dead h rd wr)=some r→Gy E ih f rid i ρ (.store t a x) hp k r:=by
   intro h;simp only [Af] at h;rcases Dd h with ⟨q,o,ha,h⟩ | ⟨cs,o,ha,h⟩
   ·rw [Er] at h;obtain ⟨b,hb,h⟩:=Bu h;obtain ⟨cells,rfl,g'⟩:=Ps h;replace h:=g';clear g';rcases Nz h with ⟨v,hx,h⟩ | h
    ·simp only [GZ] at h;split at h
     ·rename_i cs;obtain ⟨hc,h⟩:=Ds h;have hc:(Nat.beq cs.length ti.size && DW cs)=true:=hc;simp only [Bool.and_eq_true] at hc;obtain ⟨h1,h⟩:=NS cells o cs h;rw [KS] at h;have hl:=Dv hc.1;refine key q o cells ha hb ⟨by rw [hx];rfl,by rw [hx];simp [IV.cells,hl],by omega,by rw [hx];exact MY cs hc.2,by rw [hx];cases q<;>rfl⟩ ?_;rw [hx];exact h
     ·cases h
    ·obtain ⟨hc,h⟩:=Dh h;rw [HF,KS] at h;exact key q o cells ha hb hc h
   ·cases h
  cases hs:Nat.beq ti.size 1 with
  | true =>
   rw [hs] at h;have hs:=Dv hs;simp only [cond,A9] at h;cases ho:(ρ x).one with
   | false =>
    rw [ho] at h;rw [← hs] at h;exact gen h
   | true =>
    rw [ho] at h;simp only at h;rcases Dd h with ⟨q,o,ha,h⟩ | ⟨cs,o,ha,h⟩
    ·rw [Er] at h;obtain ⟨b,hb,h⟩:=Bu h;obtain ⟨cells,rfl,g'⟩:=Ps h;replace h:=g';clear g';cases hc:Fu q (ρ x) with
     | false=>rw [hc] at h;cases h
     | true =>
      rw [hc] at h;simp only at h;rw [Aa7] at h;obtain ⟨hlt,h⟩:=Dh h;rw [KS] at h;obtain ⟨c1,c2⟩:=Lw ho;refine key q o cells ha hb ⟨c2,by rw [c1,hs];rfl,by omega,by rw [c1];simp [ho],hc⟩ ?_;rw [c1,WN];exact h
    ·cases h
  | false =>
   rw [hs] at h;exact gen h
end
end Idl
end Go.Proofs.Ytkfecngimlcfoaa
set_option linter.unusedSimpArgs false
namespace Go.Proofs.Ytkfecngimlcfoaa
namespace Idl
section
variable {β:Type} {E:Env} {ih ih':Aa} {f rid i:Nat} {dr:Bool} {ρ:Operand→IV} {hp:Hp} {k:IV→Hp→List Ref→List Ref→Option β} {r:β}
theorem O9 {size o:Nat} {cs:List IV} {k:IV→Option β} (h:(FA cs o fun cs=>FL cs size fun cs=>OF cs k)=some r) :
  Ca true size o cs=some (Fk ((cs.drop o).take size))∧k (Fk ((cs.drop o).take size))=some r:=by
 rw [K4] at h;obtain ⟨h1,h⟩:=Dh h;rw [JG] at h;obtain ⟨h2,h⟩:=Dh h;rw [Sy] at h;refine ⟨?_,h⟩;simp only [Ca,if_true];rw [if_pos (by simp at h2;omega)]
theorem Nc {size o:Nat} {cs:List FV} {k:IV→Option β} (h:(FA cs o fun cs=>FL cs size fun cs=>k (.fv (.agg cs)))=some r) :
  Bt true size o cs=some (.agg ((cs.drop o).take size))∧k (.fv (.agg ((cs.drop o).take size)))=some r:=by
 rw [K4] at h;obtain ⟨h1,h⟩:=Dh h;rw [JG] at h;obtain ⟨h2,h⟩:=Dh h;refine ⟨?_,h⟩;simp only [Bt,if_true];rw [if_pos (by simp at h2;omega)]
theorem AiS {s:TypeId} {x:Operand} {fd:Nat} (h:I5 E ih' f rid i dr ρ (.field s x fd) hp k=some r):Gy E ih f rid i ρ (.field s x fd) hp k r:=by
 simp only [I5,BD] at h;cases hf:Hn E s fd with
 | none=>rw [hf] at h;cases h
 | some p =>
  obtain ⟨o,ti⟩:=p;rw [hf] at h;simp only at h;cases hag:ti.kind.isAgg with
  | true =>
   rw [hag] at h;simp only [cond,Apn] at h;rcases Ua h with ⟨cs,hx,h⟩ | ⟨cs,hx,h⟩
   ·obtain ⟨h1,h2⟩:=O9 (k:=fun v=>k v hp [] []) h;exact A1 (by simp only [CK,hf,hx,hag,h1];rfl) h2
   ·obtain ⟨h1,h2⟩:=Nc (k:=fun v=>k v hp [] []) h;exact A1 (by simp only [CK,hf,hx,hag,h1];rfl) h2
  | false =>
   rw [hag] at h;simp only [cond,AqF] at h;rcases Ua h with ⟨cs,hx,h⟩ | ⟨cs,hx,h⟩
   ·rw [CT] at h;obtain ⟨v,hv,h⟩:=Bu h;exact A1 (by simp only [CK,hf,hx,hag,Ca,Bool.false_eq_true,if_false,hv];rfl) h
   ·rw [CT] at h;obtain ⟨v,hv,h⟩:=Bu h;exact A1 (by simp only [CK,hf,hx,hag,Bt,Bool.false_eq_true,if_false,hv];rfl) h
theorem Ty {s:TypeId} {x:Operand} {fd:Nat} (h:I5 E ih' f rid i dr ρ (.fieldAddr s x fd) hp k=some r):Gy E ih f rid i ρ (.fieldAddr s x fd) hp k r:=by
 simp only [I5,BD] at h;cases hf:Hn E s fd with
 | none=>rw [hf] at h;cases h
 | some p =>
  obtain ⟨o,ti⟩:=p;rw [hf] at h;simp only [GW] at h;by_cases hs:ti.size=0
  ·rw [if_pos hs] at h;cases h
  ·rw [if_neg hs] at h;unfold Ab at h;rcases Dd h with ⟨q,off,hx,h⟩ | ⟨cs,off,hx,h⟩
   ·rw [BO] at h;exact A1 (by simp only [CK,hf,hx,if_neg hs]) h
   ·rw [BO] at h;exact A1 (by simp only [CK,hf,hx,if_neg hs]) h
theorem As4 {x:Operand} (h:I5 E ih' f rid i dr ρ (.nilCheck x) hp k=some r):Gy E ih f rid i ρ (.nilCheck x) hp k r:=by
 simp only [I5,BD] at h;unfold AH at h;split at h
 ·rename_i hx;exact A1 (by simp only [CK,hx]) h
 ·rename_i hx;unfold AsU at h;split at h
  ·exact A1 (by simp only [CK,hx]) h
  ·unfold Ah0 at h;split at h
   ·exact A1 (by simp only [CK,hx]) h
   ·cases h
  ·cases h
 ·rename_i hx;unfold Ah0 at h;split at h
  ·exact A1 (by simp only [CK,hx]) h
  ·cases h
 ·cases h
theorem AcO {x:Operand} {ix:Nat} (h:I5 E ih' f rid i dr ρ (.extract x ix) hp k=some r):Gy E ih f rid i ρ (.extract x ix) hp k r:=by
 simp only [I5,BD] at h;unfold Ar at h;split at h
 ·rename_i hx;rw [CT] at h;obtain ⟨v,hv,h⟩:=Bu h;exact A1 (by simp only [CK,hx,hv];rfl) h
 ·rename_i hx;simp only [ArH] at h;split at h
  ·rw [CT] at h;obtain ⟨v,hv,h⟩:=Bu h;exact A1 (by simp only [CK,hx,hv];rfl) h
  ·cases h
 ·cases h
theorem AnU {c a b:Operand} (h:I5 E ih' f rid i dr ρ (.pick c a b) hp k=some r):Gy E ih f rid i ρ (.pick c a b) hp k r:=by
 simp only [I5,AI] at h;obtain ⟨t,hc,h⟩:=SQ h;cases t with
 | true=>exact A1 (by simp only [CK,hc];rfl) h
 | false=>exact A1 (by simp only [CK,hc];rfl) h
theorem SN {t:TypeId} {x ix:Operand} (h:I5 E ih' f rid i dr ρ (.indexAddr t x ix) hp k=some r):Gy E ih f rid i ρ (.indexAddr t x ix) hp k r:=by
 simp only [I5,BD] at h;split at h
 ·rename_i e z ht;split at h
  ·rename_i ei he;unfold AT at h;obtain ⟨kd,n,hi,h⟩:=So h;rcases TP h with ⟨q,sz,len,hx,h⟩ | ⟨hx,h⟩
   ·obtain ⟨hc,h⟩:=Ds h;have hc:(Nat.ble (Nat.succ n) len && Nat.beq sz ei.size)=true:=hc;simp only [Bool.and_eq_true] at hc;have h1:=Bn hc.1;have h2:=Dv hc.2;rw [BO] at h;refine A1 ?_ h;simp only [CK,Lk,ht,he,hi,hx];rw [if_pos ⟨by omega,by omega,h2⟩];rfl
   ·rw [X8] at h;obtain ⟨es,he2,h⟩:=Bu h;rw [CT] at h;obtain ⟨el,hel,h⟩:=Bu h;rw [AdJ] at h;obtain ⟨hl,h⟩:=Dh h;refine A1 ?_ h;simp only [CK,Lk,ht,he,hi];cases hxx:ρ x with
    | slc q sz len=>exact absurd hxx (hx q sz len)
    | _ =>
     rw [hxx] at he2;simp only [he2];rw [if_neg (by omega)];simp only [Int.toNat_natCast,hel];rw [if_pos hl]
  ·cases h
 ·rename_i m e z ht;split at h
  ·rename_i ei he;unfold ixA at h;obtain ⟨kd,n,hi,h⟩:=So h;obtain ⟨hc,h⟩:=Ds h;have hc:=Bn hc;have hlt:(0:Int)≤(n:Int)∧(n:Int)<(m:Int):=⟨by omega,by omega⟩;rcases Dd h with ⟨q,o,hx,h⟩ | ⟨cs,o,hx,h⟩
   ·rw [BO] at h;refine A1 ?_ h;simp only [CK,Lk,ht,he,hi,hx];rw [if_pos hlt];rfl
   ·rw [BO] at h;refine A1 ?_ h;simp only [CK,Lk,ht,he,hi,hx];rw [if_pos hlt];rfl
  ·cases h
 ·cases h
theorem AiR {t:TypeId} {x ix:Operand} (h:I5 E ih' f rid i dr ρ (.index t x ix) hp k=some r):Gy E ih f rid i ρ (.index t x ix) hp k r:=by
 simp only [I5,BD] at h;split at h
 ·rename_i m e z ht;split at h
  ·rename_i ei he;cases hag:ei.kind.isAgg with
   | true=>rw [hag] at h;exact BJ (by simp only [Fm,ht,he,hag];rfl) rfl h
   | false =>
    rw [hag] at h;simp only [cond,AsW] at h;obtain ⟨kd,n,hi,h⟩:=So h;obtain ⟨hc,h⟩:=Ds h;have hc:=Bn hc;rcases Nz h with ⟨v,hx,h⟩ | h
    ·simp only [GZ] at h;split at h
     ·rw [CT] at h;obtain ⟨w,hw,h⟩:=Bu h;refine A1 ?_ h;simp only [CK,ht,hi,hx,he];rw [if_pos ⟨by omega,by omega⟩];simp only [hag,Bt,Bool.false_eq_true,if_false,Int.toNat_natCast,hw];rfl
     ·cases h
    ·cases h
  ·cases h
 ·rename_i hn;refine BJ ?_ rfl h;simp only [Fm]
theorem AdD {z:List IV} {o sz:Nat} {v:IV} {k:List IV→Option β} (h:Hb z o sz v k=some r):(v.alive=true∧v.cells.length=sz∧o+sz≤z.length)∧k (A4 z o v.cells)=some r:=by
 have one:v.one=true→(cond (Nat.beq sz 1) (GF z o v k) none)=some r→(v.alive=true∧v.cells.length=sz∧o+sz≤z.length)∧k (A4 z o v.cells)=some r:=by
  intro ho h;obtain ⟨hs,h⟩:=Ds h;have hs:=Dv hs;rw [Aa7] at h;obtain ⟨hlt,h⟩:=Dh h;obtain ⟨c1,c2⟩:=Lw ho;refine ⟨⟨c2,by rw [c1,hs];rfl,by omega⟩,?_⟩;rw [c1,WN];exact h
 unfold Hb at h;rcases Nz h with ⟨w,rfl,g'⟩ | h
 ·replace h:=g';clear g';cases ho:HH w with
  | true =>
   rw [ho] at h;exact one (by cases w<;>first | rfl | cases ho) h
  | false =>
   rw [ho] at h;simp only [cond,GZ] at h;split at h
   ·rename_i cs;cases hc:Nat.beq cs.length sz with
    | false=>rw [hc] at h;cases h
    | true =>
     rw [hc] at h;have hc:=Dv hc;obtain ⟨h1,h⟩:=NS z o cs h;exact ⟨⟨rfl,by simp [IV.cells,hc],by omega⟩,h⟩
   ·cases h
 ·unfold AaW at h;cases ho:v.one with
  | true=>rw [ho] at h;exact one ho h
  | false =>
   rw [ho] at h;simp only [cond] at h;obtain ⟨hc,h⟩:=Dh h;rw [HF] at h;exact ⟨hc,h⟩
theorem TW:∀(pl:List (Nat×Operand)) (place:Nat→Option (Nat×Nat)) (l:List (Nat×Nat×Operand)) (z:List IV) {k:List IV→Option β},Ln place pl=some l→Of z (WT ρ l) k=some r →
  ∃cells,Cq place z (pl.map fun (j,x)=>(j,ρ x))=some cells∧k cells=some r
 | [],place,l,z,k,hp,h=>by
  simp only [Ln,Axa] at hp;subst hp;exact ⟨z,rfl,h⟩
 | (j,x)::pl,place,l,z,k,hp,h=>by
  simp only [Ln] at hp;cases hj:place j with
  | none=>rw [hj] at hp;cases hp
  | some os =>
   obtain ⟨o,s⟩:=os;rw [hj] at hp;simp only at hp;cases hpl:Ln place pl with
   | none=>rw [hpl] at hp;cases hp
   | some l' =>
    rw [hpl] at hp;simp only [Axa] at hp;subst hp;have h:(Hb z o s (ρ x) fun z=>Of z (WT ρ l') k)=some r:=h;simp only [Axg,Cq,hj];obtain ⟨hc,h⟩:=AdD h;rw [if_pos hc];exact TW pl place l' _ hpl h
theorem AhO {t:TypeId} {parts:Array (Nat×Operand)} (h:I5 E ih' f rid i dr ρ (.build t parts) hp k=some r):Gy E ih f rid i ρ (.build t parts) hp k r:=by
 simp only [I5,BD] at h;split at h
 ·rename_i fs z ht;split at h
  ·rename_i l hl;unfold Bw at h;obtain ⟨cells,h1,h2⟩:=TW _ _ _ _ hl h;rw [Sy] at h2;refine A1 ?_ h2;simp only [CK,ht,h1];rfl
  ·cases h
 ·rename_i hn;refine BJ ?_ rfl h;simp only [Fm]
theorem AsO {t:TypeId} {x:Operand} (h:I5 E ih' f rid i dr ρ (.box t x) hp k=some r):Gy E ih f rid i ρ (.box t x) hp k r:=by
 simp only [I5,BD] at h;have hg:E.pol.fzBox f rid i=true→CK E ih f rid i ρ (.box t x)=KE true (Bh f rid i) (ρ x):=fun e=>by rw [AdQ,e]
 cases hz:E.pol.fzBox f rid i with
 | true =>
  rw [hz] at h;simp only [cond,fzS] at h;rcases Nz h with ⟨v,hx,h⟩ | h
  ·simp only [Are] at h;split at h
   ·rename_i cs;cases hc:Nat.ble cs.length 2000 with
    | false=>rw [hc] at h;exact BJ rfl (hg hz) h
    | true =>
     rw [hc] at h;have hc:=Bn hc;have key:∀(n:Nat) (cs:List FV),cs.length<n→frzL n (cs.map .fv)=.ret (cs,[]):=by
      intro n
      induction n with
      | zero=>intro cs h;omega
      | succ n ih =>
       intro cs h;cases cs with
       | nil=>rfl
       | cons c cs =>
        cases n with
        | zero=>simp at h
        | succ n =>
         simp only [Axg,frzL,CS,Rd.bind];rw [ih cs (by simp at h ⊢;omega)];rfl
     refine ⟨_,hp,[],[],⟨{ eff:={ val:=.fv (.fp cs 0),upd:=[] } },?_,rfl,rfl,rfl⟩,h,fun q=>by cases q⟩;simp only [CK,hx,IV.alive,Bool.true_eq_false,if_false,hz,if_true,IV.cells,key 4096 cs (by omega)];rfl
   ·exact BJ rfl (hg hz) h
  ·exact BJ rfl (hg hz) h
 | false =>
  rw [hz] at h;simp only [cond,AX] at h;have key:∀cs,(ρ x).cells=cs→(ρ x).alive=true→AD (Bh f rid i) (.row cs false) (.ptr (.own (Bh f rid i)) 0) hp k=some r→Gy E ih f rid i ρ (.box t x) hp k r:=by
   intro cs hcs ha h;refine T9 rfl ?_ h;simp only [CK,ha,Bool.true_eq_false,if_false,hz,Bool.false_eq_true,hcs]
  cases ho:(ρ x).one with
  | true =>
   rw [ho] at h;obtain ⟨c1,c2⟩:=Lw ho;exact key _ c1 c2 h
  | false =>
   rw [ho] at h;simp only at h;obtain ⟨ha,h⟩:=Ds h;rw [HF] at h;exact key _ rfl ha h
theorem AcB {s d:TypeId} {x:Operand} (h:I5 E ih' f rid i dr ρ (.convert s d x) hp k=some r):Gy E ih f rid i ρ (.convert s d x) hp k r:=by
 simp only [I5,BD] at h;split at h
 ·rename_i hs hd;obtain ⟨v,h1,h2⟩:=Acu hs hd h;exact A1 (by simp only [CK,h1];rfl) h2
 ·rw [CA] at h;exact Px rfl h
def Iso (E:Env) (ih:Aa) (g:FuncId) (args:List IV) (hp:Hp) (k:IV→Hp→List Ref→List Ref→Option β) (r:β):Prop :=
 ∃e rd hp',(G7 E ih g args).runLog hp []=some (e,rd)∧laid hp e.upd=some hp'∧k e.val hp' rd (Bq e.upd)=some r
theorem Km (hi:∀f args h x,ih' f args h=some x→ih f args h=some x) {g:FuncId} {args:List IV} (h:E6 (E.pol.keep g) (E.pol.split g) (E.pol.raw g) ih' g args hp k=some r):Iso E ih g args hp k r:=by
 have hasked:∀args ext x,Jh (E.pol.split g) ih' g args ext=some x→asked E ih g args ext=some x:=by
  intro args ext x e;unfold Jh at e;unfold asked;split at e
  ·rename_i hs;rw [if_pos hs];split at e
   ·split at e
    ·rename_i hc;simp only [Bool.and_eq_true] at hc;have mono:∀{o o':Option (IV×Hp)},(∀x,o=some x→o'=some x)→CB o=true→CB o'=true:=by
      intro o o' hm h;cases o with
      | none=>cases h
      | some x=>rw [hm x rfl];exact h
     rw [if_pos (by rw [mono (hi _ _ _) hc.1,mono (hi _ _ _) hc.2];rfl)];exact e
    ·cases e
   ·rename_i hne
    have:=hi _ _ _ _ e
    split
    ·exact absurd rfl (fun e=>hne rfl e)
    ·exact this
  ·rename_i hs;rw [if_neg hs];exact hi _ _ _ _ e
 unfold E6 at h;split at h
 ·cases h
 rename_i vs rs u l1 h1;split at h
 ·cases h
 rename_i l l2 h2;split at h
 ·cases h
 rename_i vs' h3;split at h
 ·cases h
 rename_i ext h4;simp only [DA (Ci 3),DA CD] at h;split at h
 ·cases h
 rename_i res hp' h5;split at h
 ·cases h
 rename_i res1 h6;split at h
 ·cases h
 rename_i res2 h7;split at h
 ·cases h
 rename_i ext' h8;obtain ⟨hc,h⟩:=Dh h;split at h
 ·cases h
 rename_i hp2 h9;simp only [LQ,Ci] at h;refine ⟨{ val:=res2,upd:=u++(Bq l).zip ext' },l2,hp2,?_,h9,h⟩;simp only [G7,Bv,h1,h2,Option.bind_some,h3,h4,hasked _ _ _ h5];rw [show Hi E g res hp'=some res1 from h6]
 simp only [Option.bind_some,h7,h8];rw [if_pos hc];rfl
def Apc (M:Nat) (g:FzK β):Prop:=∀v h lg e k r,g v h lg e k=some r→e=some r∨∃x u lg',(∀N,M≤N→(CS N v).runLog h lg=some ((x,u),lg'))∧(∀p∈u,∃s,p.1=Ref.own s)∧k x u lg'=some r
theorem H8 {M:Nat} {g:FzK β} (hg:Apc M g):∀(l:List IV) h lg e k r,C3 g l h lg e k=some r →
  e=some r∨∃xs us lg',(∀N,M+l.length+1≤N→(frzL N l).runLog h lg=some ((xs,us),lg'))∧(∀p∈us,∃s,p.1=Ref.own s)∧k xs us lg'=some r
 | [],h,lg,e,k,r,hh=>.inr ⟨[],[],lg,fun N hN=>(by cases N with | zero=>simp at hN | succ N=>rfl),fun p hp=>(by cases hp),hh⟩
 | v::l,h,lg,e,k,r,hh=>by
  have hh:(g v h lg e fun y u lg=>C3 g l h lg e fun ys us lg=>OJ u us fun w=>k (y::ys) w lg)=some r:=hh;rcases hg _ _ _ _ _ _ hh with h1 | ⟨x,u,lg1,h1,hu,hh⟩
  ·exact .inl h1
  ·rcases H8 hg l _ _ _ _ _ hh with h2 | ⟨xs,us,lg2,h2,hus,hh⟩
   ·exact .inl h2
   ·rw [VB] at hh;refine .inr ⟨x::xs,u++us,lg2,fun N hN=>?_,fun p hp=>?_,hh⟩
    ·cases N with
     | zero=>simp at hN
     | succ N =>
      simp only [Axe] at hN;simp only [frzL,Bv,h1 N (by omega),Option.bind_some,h2 N (by omega)];rfl
    ·rcases List.mem_append.1 hp with hp | hp
     ·exact hu p hp
     ·exact hus p hp
theorem Oc:∀d,Apc (β:=β) (310 * d) (EU d)
 | 0=>fun v h lg e k r hh=>.inl hh
 | d+1=>by
  intro v h lg e k r hh;have ihd:Apc (β:=β) (310 * d) (EU d):=Oc d;have one:∀{w:FV},(∀N,CS (N+1) v=.ret (w,[]))→k w [] lg=some r→e=some r∨∃x u lg',(∀N,310 * (d+1)≤N→(CS N v).runLog h lg=some ((x,u),lg'))∧(∀p∈u,∃s,p.1=Ref.own s)∧k x u lg'=some r:=by
   intro w hw hk;refine .inr ⟨w,[],lg,fun N hN=>?_,fun p hp=>(by cases hp),hk⟩;cases N with
   | zero=>omega
   | succ N=>rw [hw];rfl
  have own:∀{q:Ref} {e:Option β} {k:Nat→Option β},UE q e k=some r→e=some r∨∃s,q=.own s∧k s=some r:=by
   intro q e k h;cases q with
   | own s=>exact .inr ⟨s,rfl,h⟩
   | ext j=>exact .inl h
  have cnd2:∀{c:Bool} {a e:Option β},cond c a e=some r→e=some r∨(c=true∧a=some r):=by
   intro c a e h;cases c with
   | true=>exact .inr ⟨rfl,h⟩
   | false=>exact .inl h
  cases v with
  | fv w=>exact one (fun _=>rfl) hh
  | nils=>exact one (fun _=>rfl) hh
  | emp=>exact one (fun _=>rfl) hh
  | clip es=>exact one (fun _=>rfl) hh
  | app q es=>exact one (fun _=>rfl) hh
  | dead=>exact .inl hh
  | tuple vs=>exact .inl hh
  | mapr q=>exact .inl hh
  | ptr q off =>
   have hh:(UE q e fun s=>C5 (.own s) h fun b=>D7 b fun cells=>cond (Nat.ble cells.length 300) (C3 (EU d) cells h (.own s::lg) e fun cs u lg=>k (.fp cs off) ((.own s,.row cells true)::u) lg) e)=some r:=hh;rcases own hh with h1 | ⟨s,rfl,g'⟩
   ·exact .inl h1
   ·replace hh:=g';clear g';rw [Er] at hh;obtain ⟨b,hb,hh⟩:=Bu hh;obtain ⟨cells,ro,hbb,hh⟩:=GB hh;rcases cnd2 hh with h1 | ⟨hl,hh⟩
    ·exact .inl h1
    ·have hl:=Bn hl;rcases H8 ihd cells _ _ _ _ _ hh with h1 | ⟨xs,us,lg2,h2,hus,hh⟩
     ·exact .inl h1
     ·refine .inr ⟨_,_,_,fun N hN=>?_,fun p hp=>?_,hh⟩
      ·cases N with
       | zero=>omega
       | succ N =>
        simp only [CS,Rd.runLog,hb,hbb,Bv,h2 N (by omega),Option.bind_some]
      ·rcases List.mem_cons.1 hp with rfl | hp
       ·exact ⟨s,rfl⟩
       ·exact hus p hp
  | slc q sz len =>
   have hh:(UE q e fun s=>C5 (.own s) h fun b=>D7 b fun cells=>cond (Nat.ble cells.length 300) (cond (or (Nat.beq sz 0) (not (Nat.ble (len * sz) cells.length))) none
    (C3 (EU d) cells h (.own s::lg) e fun cs u lg=>chK sz len cs fun els=>k (.sl els) ((.own s,.row cells true)::u) lg)) e)=some r:=hh
   rcases own hh with h1 | ⟨s,rfl,g'⟩
   ·exact .inl h1
   ·replace hh:=g';clear g';rw [Er] at hh;obtain ⟨b,hb,hh⟩:=Bu hh;obtain ⟨cells,ro,hbb,hh⟩:=GB hh;rcases cnd2 hh with h1 | ⟨hl,hh⟩
    ·exact .inl h1
    ·have hl:=Bn hl;cases hc:(or (Nat.beq sz 0) (not (Nat.ble (len * sz) cells.length))) with
     | true=>rw [hc] at hh;cases hh
     | false =>
      rw [hc] at hh;simp only [cond] at hh;have hc:(Nat.beq sz 0 || !Nat.ble (len * sz) cells.length)=false:=hc;simp only [Bool.or_eq_false_iff,Bool.not_eq_false'] at hc;have c1:sz≠0:=fun e=>by rw [e] at hc;exact absurd hc.1 (by decide)
      have c2:=Bn hc.2;rcases H8 ihd cells _ _ _ _ _ hh with h1 | ⟨xs,us,lg2,h2,hus,hh⟩
      ·exact .inl h1
      ·have hh:=AeK sz len _ hh;refine .inr ⟨_,_,_,fun N hN=>?_,fun p hp=>?_,hh⟩
       ·cases N with
        | zero=>omega
        | succ N =>
         simp only [CS,Rd.runLog,hb,hbb];rw [if_neg (by omega)];simp only [Bv,h2 N (by omega),Option.bind_some,Rd.runLog]
       ·rcases List.mem_cons.1 hp with rfl | hp
        ·exact ⟨s,rfl⟩
        ·exact hus p hp
  | agg cs =>
   have hh:cond (Nat.ble cs.length 300) (C3 (EU d) cs h lg e fun cs u lg=>k (.agg cs) u lg) e=some r:=hh;rcases cnd2 hh with h1 | ⟨hl,hh⟩
   ·exact .inl h1
   ·have hl:=Bn hl;rcases H8 ihd cs _ _ _ _ _ hh with h1 | ⟨xs,us,lg2,h2,hus,hh⟩
    ·exact .inl h1
    ·refine .inr ⟨_,_,_,fun N hN=>?_,hus,hh⟩;cases N with
     | zero=>omega
     | succ N=>simp only [CS,Bv,h2 N (by omega),Option.bind_some,Rd.runLog]
  | func fn a b =>
   have hh:cond (and (Nat.ble a.length 300) (Nat.ble b.length 300)) (C3 (EU d) a h lg e fun x u lg=>C3 (EU d) b h lg e fun y v lg=>OJ u v fun w=>k (.func fn x y) w lg) e=some r:=hh;rcases cnd2 hh with h1 | ⟨hl,hh⟩
   ·exact .inl h1
   ·have hl:(Nat.ble a.length 300 && Nat.ble b.length 300)=true:=hl;simp only [Bool.and_eq_true] at hl;have l1:=Bn hl.1;have l2:=Bn hl.2;rcases H8 ihd a _ _ _ _ _ hh with h1 | ⟨xs,us,lg2,h2,hus,hh⟩
    ·exact .inl h1
    ·rcases H8 ihd b _ _ _ _ _ hh with h1 | ⟨ys,vs,lg3,h3,hvs,hh⟩
     ·exact .inl h1
     ·rw [VB] at hh;refine .inr ⟨_,_,_,fun N hN=>?_,fun p hp=>?_,hh⟩
      ·cases N with
       | zero=>omega
       | succ N=>simp only [CS,Bv,h2 N (by omega),h3 N (by omega),Option.bind_some,Rd.runLog]
      ·rcases List.mem_append.1 hp with hp | hp
       ·exact hus p hp
       ·exact hvs p hp
def Lr (m:Nat) (l:List Ref):Prop:=∀r∈l,∃j,r=.ext j∧j<m
theorem U5:∀(args:List IV) (keep:List Bool) h lg e k r,SX (β:=β) args keep h lg e k=some r →
  e=some r∨∃vs rs us lg',(Bk keep args).runLog h lg=some ((vs,rs,us),lg')∧(∀p∈us,∃s,p.1=Ref.own s)∧(IV.refs.refsL vs=rs)∧k vs rs us lg'=some r
 | [],keep,h,lg,e,k,r,hh=>.inr ⟨[],[],[],lg,by cases keep<;>rfl,fun p hp=>(by cases hp),rfl,hh⟩
 | x::l,keep,h,lg,e,k,r,hh=>by
  have fz:∀ks,(EU 12 x h lg e fun y u lg=>SX l ks h lg e fun vs rs us lg=>OJ u us fun w=>k (.fv y::vs) rs w lg)=some r →
    e=some r∨∃vs rs us lg',((CS 4096 x).bind fun (x,u)=>(Bk ks l).bind fun (vs,rs,u')=>Rd.ret (IV.fv x::vs,rs,u++u')).runLog h lg=some ((vs,rs,us),lg')∧(∀p∈us,∃s,p.1=Ref.own s)∧(IV.refs.refsL vs=rs)∧k vs rs us lg'=some r:=by
   intro ks hh;rcases Oc 12 _ _ _ _ _ _ hh with h1 | ⟨y,u,lg1,h1,hu,hh⟩
   ·exact .inl h1
   ·rcases U5 l ks _ _ _ _ _ hh with h2 | ⟨vs,rs,us,lg2,h2,hus,hrs,hh⟩
    ·exact .inl h2
    ·rw [VB] at hh;refine .inr ⟨_,_,_,_,?_,fun p hp=>?_,?_,hh⟩
     ·simp only [Bv,h1 4096 (by decide),Option.bind_some,h2,Rd.runLog]
     ·rcases List.mem_append.1 hp with hp | hp
      ·exact hu p hp
      ·exact hus p hp
     ·simp only [IV.refs.refsL,IV.refs,List.nil_append,hrs]
  cases keep with
  | nil=>exact fz [] hh
  | cons b ks =>
   cases b with
   | false=>exact fz ks hh
   | true =>
    have hh:(ET x (fun q o=>SX l ks h lg e fun vs rs us lg=>k (.ptr q o::vs) (q::rs) us lg) fun _ _=>e)=some r:=hh;rcases Dd hh with ⟨q,o,hx,hh⟩ | ⟨cs,o,_,hh⟩
    ·rcases U5 l ks _ _ _ _ _ hh with h2 | ⟨vs,rs,us,lg2,h2,hus,hrs,hh⟩
     ·exact .inl h2
     ·refine .inr ⟨_,_,_,_,?_,hus,?_,hh⟩
      ·simp only [Bk,Bv,h2,Option.bind_some,Rd.runLog,hx,IV.refs];rfl
      ·simp only [IV.refs.refsL,IV.refs,hrs];rfl
    ·exact .inl hh
mutual
theorem SP:∀(v:IV) (acc:List Ref),TM v acc=v.refs++acc
 | .dead,_=>rfl
 | .fv _,_=>rfl
 | .ptr _ _,_=>rfl
 | .slc _ _ _,_=>rfl
 | .nils,_=>rfl
 | .emp,_=>rfl
 | .clip _,_=>rfl
 | .app _ _,_=>rfl
 | .mapr _,_=>rfl
 | .func _ a b,acc=>by
  show Ct a (Ct b acc)=(IV.refs.refsL a++IV.refs.refsL b)++acc
  rw [refsDL_eq,refsDL_eq,List.append_assoc]
 | .agg cs,acc=>refsDL_eq cs acc
 | .tuple cs,acc=>refsDL_eq cs acc
theorem refsDL_eq:∀(l:List IV) (acc:List Ref),Ct l acc=IV.refs.refsL l++acc
 | [],_=>rfl
 | v::l,acc=>by
  show TM v (Ct l acc)=(v.refs++IV.refs.refsL l)++acc
  rw [SP,refsDL_eq,List.append_assoc]
end
theorem KD (b:Blk):EX b=b.refs:=by
 cases b with
 | row cells ro =>
  show Ct cells []=_
  rw [refsDL_eq,List.append_nil];rfl
 | tok _ _=>rfl
 | map es =>
  show _=IV.refs.refsL (es.map (·.2))
  induction es with
  | nil=>rfl
  | cons p es ih =>
   obtain ⟨n,v⟩:=p
   show TM v (EX (.map es))=v.refs++_
   rw [SP];congr 1
mutual
theorem AnA {g:Ref→Option Ref}:∀(v:IV),(∀r∈v.refs,g r=some r)→v.ren g=some v
 | .dead,_=>rfl
 | .fv _,_=>rfl
 | .nils,_=>rfl
 | .emp,_=>rfl
 | .clip _,_=>rfl
 | .ptr r o,h=>by simp only [IV.ren,h r (by simp [IV.refs]),Axd]
 | .slc r sz n,h=>by simp only [IV.ren,h r (by simp [IV.refs]),Axd]
 | .app r es,h=>by simp only [IV.ren,h r (by simp [IV.refs]),Axd]
 | .mapr r,h=>by simp only [IV.ren,h r (by simp [IV.refs]),Axd]
 | .func fn a b,h=>by
  have h1:=renL_id (g:=g) a (fun r hr=>h r (by simp only [IV.refs,List.mem_append];exact .inl hr));have h2:=renL_id (g:=g) b (fun r hr=>h r (by simp only [IV.refs,List.mem_append];exact .inr hr));simp only [IV.ren,h1,h2,Option.bind_some,Axd]
 | .agg cs,h=>by
  have h1:=renL_id (g:=g) cs h;simp only [IV.ren,h1,Axd]
 | .tuple cs,h=>by
  have h1:=renL_id (g:=g) cs h;simp only [IV.ren,h1,Axd]
theorem renL_id {g:Ref→Option Ref}:∀(l:List IV),(∀r∈IV.refs.refsL l,g r=some r)→IV.ren.renL g l=some l
 | [],_=>rfl
 | v::l,h=>by
  have h1:=AnA (g:=g) v (fun r hr=>h r (by simp only [IV.refs.refsL,List.mem_append];exact .inl hr));have h2:=renL_id (g:=g) l (fun r hr=>h r (by simp only [IV.refs.refsL,List.mem_append];exact .inr hr));simp only [IV.ren.renL,h1,h2,Option.bind_some,Axd]
end
theorem AfU {α γ:Type}:∀(l:List (α×γ)),(l.map (·.1)).zip (l.map (·.2))=l
 | []=>rfl
 | p::l=>by simp only [Axg,List.zip_cons_cons,AfU l]
theorem AnW {g:Ref→Option Ref} (b:Blk) (h:∀r∈b.refs,g r=some r):b.ren g=some b:=by
 cases b with
 | row cells ro=>simp only [Blk.ren,renL_id cells h,Axd]
 | tok _ _=>rfl
 | map es =>
  have e:=renL_id (g:=g) (es.map (fun p:Int×IV=>p.2)) h;simp only [Blk.ren,e,Axd,AfU]
theorem PP {g:Ref→Option Ref}:∀(l:List Blk),(∀b∈l,∀r∈b.refs,g r=some r)→A3 g l=some l
 | [],_=>rfl
 | b::l,h=>by
  simp only [A3,AnW b (h b List.mem_cons_self),Option.bind_some,PP l (fun c hc=>h c (List.mem_cons_of_mem _ hc)),Axd]
def BI:Nat→List Blk→List (Ref×Blk)
 | _,[]=>[]
 | s,b::l=>(.ext s,b)::BI (s+1) l
theorem Pa:∀(s:Nat) (l:List Blk) (b:Blk),BI s (l++[b])=BI s l++[(.ext (s+l.length),b)]
 | s,[],b=>rfl
 | s,c::l,b=>by
  simp only [List.cons_append,BI,Pa (s+1) l b,Axe];rw [show s+1+l.length=s+(l.length+1) by omega]
theorem Pw:∀(s:Nat) (l:List Blk),(BI s l).map (·.2)=l
 | _,[]=>rfl
 | s,b::l=>by simp only [BI,Axg,Pw (s+1) l]
theorem Lp:∀(s:Nat) (l:List Blk),(BI s l).length=l.length
 | _,[]=>rfl
 | s,b::l=>by simp only [BI,Axe,Lp (s+1) l]
theorem Lc:∀(s j:Nat) (l:List Blk),s≤j→hasRef (.ext j) (BI s l)=decide (j<s+l.length)
 | s,j,[],h=>by simp only [BI,hasRef,List.length_nil];rw [decide_eq_false (by omega)]
 | s,j,b::l,h=>by
  simp only [BI,hasRef,Axe];by_cases e:j=s
  ·subst e;simp
  ·rw [Lc (s+1) j l (by omega),decide_eq_false (by simp [e]),Bool.false_or];congr 1;exact propext ⟨fun h=>by omega,fun h=>by omega⟩
theorem PB:∀(s k:Nat) (l:List Blk),hasRef (.own k) (BI s l)=false
 | _,_,[]=>rfl
 | s,k,b::l=>by simp only [BI,hasRef,PB (s+1) k l,Bool.or_false];exact decide_eq_false (by simp)
theorem LM:∀(s j i:Nat) (l:List Blk),s≤j→j<s+l.length→B9 (.ext j) (BI s l) i=some (i+(j - s))
 | s,j,i,[],h1,h2=>by simp at h2;omega
 | s,j,i,b::l,h1,h2=>by
  simp only [Axe] at h2;simp only [BI,B9];by_cases e:j=s
  ·subst e;simp
  ·rw [if_neg (by simp [e]),LM (s+1) j (i+1) l (by omega) (by omega)];congr 1;omega
theorem O8:∀(s j:Nat) (l:List Blk),j<l.length→((BI s l)[j]?).map (·.1)=some (.ext (s+j))
 | s,j,[],h=>by simp at h
 | s,0,b::l,h=>rfl
 | s,j+1,b::l,h=>by
  simp only [Axe] at h;simp only [BI,List.getElem?_cons_succ];rw [O8 (s+1) j l (by omega)];congr 2;omega
theorem U6 (s:Nat):∀(l:List Blk),Bq (BI s l)=(List.range' s l.length).map .ext:=by
 intro l
 induction l generalizing s with
 | nil=>rfl
 | cons b l ih=>simp only [BI,Bq,Axg,Axe,List.range'_succ];exact congrArg _ (ih (s+1))
theorem Ao2 {own:List (Nat×Blk)} {ext:List Blk}:∀(n:Nat) (todo:List Ref) (s:Nat) (rest:List Blk),s≤ext.length→ext.drop s=rest→OE n todo s rest=true →
  (∀N,n≤N→∀lg,(BT N todo (BI 0 (ext.take s))).runLog ⟨own,ext⟩ lg=some (BI 0 ext,((List.range' s (ext.length - s)).map Ref.ext).reverse++lg)) ∧
  Lr ext.length todo∧(∀b∈rest,Lr ext.length b.refs):=by
 intro n
 induction n with
 | zero=>intro todo s rest _ _ h;cases h
 | succ n ih =>
  intro todo s rest hs hd h;cases todo with
  | nil =>
   cases rest with
   | cons _ _=>cases h
   | nil =>
    have he:s=ext.length:=by
     have:=congrArg List.length hd
     simp at this;omega
    refine ⟨fun N hN lg=>?_,fun r hr=>(by cases hr),fun b hb=>(by cases hb)⟩;cases N with
    | zero=>omega
    | succ N =>
     subst he;simp only [BT,Rd.runLog,List.take_length,Nat.sub_self,List.range'_zero,Axf,List.reverse_nil,List.nil_append]
  | cons r t =>
   cases r with
   | own k=>cases h
   | ext j =>
    have h:cond (Nat.ble (Nat.succ j) s) (OE n t s rest) (cond (Nat.beq j s) (goR (OE n) t s rest) false)=true:=h;have hl:(ext.take s).length=s:=by simp;omega
    cases hj:Nat.ble (Nat.succ j) s with
    | true =>
     rw [hj] at h;have hj:=Bn hj;obtain ⟨h1,h2,h3⟩:=ih t s rest hs hd h;refine ⟨fun N hN lg=>?_,fun r hr=>?_,h3⟩
     ·cases N with
      | zero=>omega
      | succ N =>
       simp only [BT];rw [Lc 0 j _ (Nat.zero_le _),hl,decide_eq_true (by omega),if_pos rfl];exact h1 N (by omega) lg
     ·rcases List.mem_cons.1 hr with rfl | hr
      ·exact ⟨j,rfl,by omega⟩
      ·exact h2 r hr
    | false =>
     rw [hj] at h;simp only [cond] at h;have hj':¬ j<s:=fun e=>by rw [Nat.ble_eq_true_of_le (Nat.succ_le_of_lt e)] at hj;cases hj
     cases hb:Nat.beq j s with
     | false=>rw [hb] at h;cases h
     | true =>
      rw [hb] at h;have hb:=Dv hb;subst hb;simp only at h;cases rest with
      | nil=>cases h
      | cons b rest =>
       have h:OE n (t++EX b) (Nat.succ j) rest=true:=h;have hjl:j<ext.length:=by
        have:=congrArg List.length hd
        simp at this;omega
       have hgb:ext[j]?=some b:=by
        rw [← List.head?_drop,hd];rfl
       have hd':ext.drop (j+1)=rest:=by rw [← List.tail_drop,hd];rfl
       obtain ⟨h1,h2,h3⟩:=ih (t++EX b) (j+1) rest (by omega) hd' h;rw [KD] at h1 h2;refine ⟨fun N hN lg=>?_,fun r hr=>?_,fun c hc=>?_⟩
       ·cases N with
        | zero=>omega
        | succ N =>
         simp only [BT];rw [Lc 0 j _ (Nat.zero_le _),hl,decide_eq_false (by omega)];simp only [Bool.false_eq_true,if_false,Rd.runLog,Hp.get,hgb];have ht:BI 0 (ext.take j)++[(.ext j,b)]=BI 0 (ext.take (j+1)):=by
          have:ext.take (j+1)=ext.take j++[b]:=by
           rw [List.take_add_one,hgb];rfl
          rw [this,Pa,hl,Nat.zero_add]
         rw [ht,h1 N (by omega) (.ext j::lg)];rw [show ext.length - j=(ext.length - (j+1))+1 by omega,List.range'_succ]
         simp
       ·rcases List.mem_cons.1 hr with rfl | hr
        ·exact ⟨j,rfl,hjl⟩
        ·exact h2 r (List.mem_append_left _ hr)
       ·rcases List.mem_cons.1 hc with rfl | hc
        ·exact fun r hr=>h2 r (List.mem_append_right _ hr)
        ·exact h3 c hc
theorem AfC {m:Nat}:∀(l:List Ref),okR m l=true→Lr m l
 | [],_=>fun r hr=>by cases hr
 | .own k::l,h=>by cases h
 | .ext j::l,h=>by
  have h:cond (Nat.ble (Nat.succ j) m) (okR m l) false=true:=h;cases hj:Nat.ble (Nat.succ j) m with
  | false=>rw [hj] at h;cases h
  | true =>
   rw [hj] at h;have hj:=Bn hj;intro r hr;rcases List.mem_cons.1 hr with rfl | hr
   ·exact ⟨j,rfl,by omega⟩
   ·exact AfC l h r hr
theorem AeX {m:Nat}:∀(l:List Blk),okB m l=true→∀b∈l,Lr m b.refs
 | [],_=>fun b hb=>by cases hb
 | b::l,h=>by
  have h:cond (okR m (EX b)) (okB m l) false=true:=h;cases hb:okR m (EX b) with
  | false=>rw [hb] at h;cases h
  | true =>
   rw [hb] at h;rw [KD] at hb;intro c hc;rcases List.mem_cons.1 hc with rfl | hc
   ·exact AfC _ hb
   ·exact AeX l h c hc
theorem Qi:∀(u:List (Ref×Blk)) (own:List (Nat×Blk)) (ext ext':List Blk) {k:Hp→Option β} {r:β},Ll u ⟨own,ext'⟩ k=some r →
  ∃own2,laid ⟨own,ext⟩ u=some ⟨own2,ext⟩∧laid ⟨own,ext'⟩ u=some ⟨own2,ext'⟩∧k ⟨own2,ext'⟩=some r
 | [],own,ext,ext',k,r,h=>⟨own,rfl,rfl,h⟩
 | (q,b)::u,own,ext,ext',k,r,h=>by
  have h:(UE q none fun s=>C5 (.own s) ⟨own,ext'⟩ fun _=>FM (.own s) b ⟨own,ext'⟩ fun h=>Ll u h k)=some r:=h;cases q with
  | ext j=>cases h
  | own s =>
   have h:(C5 (.own s) ⟨own,ext'⟩ fun _=>FM (.own s) b ⟨own,ext'⟩ fun h=>Ll u h k)=some r:=h;rw [Er] at h;obtain ⟨c,hc,h⟩:=Bu h;rw [KS] at h;obtain ⟨own2,h1,h2,h3⟩:=Qi u (AO s b own) ext ext' h;refine ⟨own2,?_,?_,h3⟩
   ·simp only [laid];rw [show (Hp.mk own ext).get (.own s)=some c from hc]
    exact h1
   ·simp only [laid];rw [hc];exact h2
theorem Nx:∀(ext' pre ext:List Blk) (own:List (Nat×Blk)),ext.length=ext'.length→laid ⟨own,pre++ext⟩ (((List.range' pre.length ext'.length).map Ref.ext).zip ext')=some ⟨own,pre++ext'⟩
 | [],pre,ext,own,h=>by
  cases ext with
  | nil=>rfl
  | cons _ _=>cases h
 | b::ext',pre,ext,own,h=>by
  cases ext with
  | nil=>cases h
  | cons c ext =>
   simp only [Axe,Nat.add_right_cancel_iff] at h;simp only [Axe,List.range'_succ,Axg,List.zip_cons_cons,laid,Hp.get];rw [List.getElem?_append_right (Nat.le_refl _),Nat.sub_self];simp only [List.getElem?_cons_zero,Hp.set];have e:(pre++c::ext).set pre.length b=(pre++[b])++ext:=by
    rw [List.set_append_right _ _ (Nat.le_refl _),Nat.sub_self];simp
   rw [e]
   have:=Nx ext' (pre++[b]) ext own h
   simp only [List.length_append,List.length_singleton] at this;rw [this];simp
theorem TB:∀(a b:List (Ref×Blk)) (h:Hp),laid h (a++b)=(laid h a).bind fun h=>laid h b
 | [],_,_=>rfl
 | (q,c)::a,b,h=>by
  simp only [List.cons_append,laid];cases h.get q with
  | none=>rfl
  | some _=>exact TB a b _
theorem Abb (hi:∀f args h x,ih' f args h=some x→ih f args h=some x) {g:FuncId} {args:List IV} (h:Ah (E.pol.keep g) (E.pol.split g) (E.pol.raw g) ih' g args hp k=some r):Iso E ih g args hp k r:=by
 unfold Ah at h;cases hc:(cond (E.pol.split g) true (E.pol.raw g)) with
 | true=>rw [hc] at h;exact Km hi h
 | false =>
  rw [hc] at h;simp only [cond] at h;have hs:E.pol.split g=false:=by cases e:E.pol.split g with | false=>rfl | true=>rw [e] at hc;cases hc
  rw [hs] at hc;have hr:E.pol.raw g=false:=hc;rcases U5 _ _ _ _ _ _ _ h with h1 | ⟨vs,rs,us,lg,hz,hus,hrs,h⟩
  ·exact Km hi h1
  ·cases rs with
   | nil =>
    simp only at h;cases he:ih' g vs ⟨[],[]⟩ with
    | none=>rw [he] at h;cases h
    | some p =>
     obtain ⟨v,⟨own,ext⟩⟩:=p;rw [he] at h;cases ext with
     | cons b ext=>exact absurd (show (none:Option β)=some r from h) (by simp)
     | nil =>
      have h:(EU 12 v ⟨own,[]⟩ [] (E6 (E.pol.keep g) (E.pol.split g) (E.pol.raw g) ih' g args hp k) fun w _ _=>Ll us hp fun h2=>k (.fv w) h2 lg (Bq us))=some r:=h;rcases Oc 12 _ _ _ _ _ _ h with h1 | ⟨w,u2,lg2,h2,_,h⟩
      ·exact Km hi h1
      ·obtain ⟨own0,ext0⟩:=hp;obtain ⟨own2,l1,l2,h⟩:=Qi us own0 ext0 ext0 h;refine ⟨{ val:=.fv w,upd:=us },lg,⟨own2,ext0⟩,?_,l1,h⟩;have hw:=Fw _ _ _ _ _ (h2 4096 (by decide));have hren:∀q,IV.ren.renL q vs=some vs:=fun q=>renL_id vs (fun r hr=>by rw [hrs] at hr;cases hr);simp only [G7,Bv,hz,Option.bind_some,BT,Rd.runLog,hren,Axf,A3,asked,hs,Bool.false_eq_true,if_false,hi _ _ _ _ he,Hi,hr,hw,Axd,IV.ren,Rd.of];have hk:(Bq us).all (fun r=>!hasRef r [])=true:=List.all_eq_true.2 fun r _=>rfl;rw [if_pos ⟨rfl,hk⟩];simp only [Rd.runLog,Bq,Axf,List.zip_nil_left,List.append_nil]
   | cons q rs =>
    obtain ⟨own0,ext0⟩:=hp;simp only at h;cases hg:OE 400 (q::rs) 0 ext0 with
    | false=>rw [hg] at h;exact Km hi h
    | true =>
     rw [hg] at h;simp only at h;obtain ⟨g1,g2,g3⟩:=Ao2 (own:=own0) 400 (q::rs) 0 ext0 (Nat.zero_le _) rfl hg;cases he:ih' g vs ⟨[],ext0⟩ with
     | none=>rw [he] at h;cases h
     | some p =>
      obtain ⟨v,⟨own,ext⟩⟩:=p;rw [he] at h;simp only at h;obtain ⟨ho,h⟩:=Ds h;have ho:(Nat.beq ext.length ext0.length && okB ext0.length ext)=true:=ho;simp only [Bool.and_eq_true] at ho;have hlen:=Dv ho.1;have hok:=AeX _ ho.2;rcases Oc 12 _ _ _ _ _ _ h with h1 | ⟨w,u2,lg2,h2,_,h⟩
      ·exact Km hi h1
      ·obtain ⟨own2,l1,l2,h⟩:=Qi us own0 ext0 ext h;have hw:=Fw _ _ _ _ _ (h2 4096 (by decide));have hin:∀l,Lr ext0.length l→∀r∈l,Dt (BI 0 ext0) r=some r:=by
        intro l hl r hr;obtain ⟨j,rfl,hj⟩:=hl r hr;simp only [Dt];rw [LM 0 j 0 ext0 (Nat.zero_le _) (by omega)];simp
       have hbk:∀l,Lr ext0.length l→∀r∈l,Cj (BI 0 ext0) r=some r:=by
        intro l hl r hr;obtain ⟨j,rfl,hj⟩:=hl r hr;simp only [Cj];rw [O8 0 j ext0 hj,Nat.zero_add]
       have hv:IV.ren.renL (Dt (BI 0 ext0)) vs=some vs:=renL_id vs (fun r hr=>hin _ g2 r (by rw [hrs] at hr;exact hr));have hb1:A3 (Dt (BI 0 ext0)) ext0=some ext0:=PP ext0 (fun b hb r hr=>hin _ (g3 b hb) r hr);have hb2:A3 (Cj (BI 0 ext0)) ext=some ext:=PP ext (fun b hb r hr=>hbk _ (hok b hb) r hr);have hkeys:Bq (BI 0 ext0)=CI ext0.length:=by rw [U6,CI,List.range_eq_range']
       refine ⟨{ val:=.fv w,upd:=us++(Bq (BI 0 ext0)).zip ext },(CI ext0.length).reverse++lg,⟨own2,ext⟩,?_,?_,?_⟩
       ·have hga:=g1 4096 (by decide) lg;simp only [List.take_zero,BI,Nat.sub_zero] at hga;simp only [G7,Bv,hz,Option.bind_some,hga,Pw,hv,hb1,asked,hs,Bool.false_eq_true,if_false,hi _ _ _ _ he,Hi,hr,hw,Axd,IV.ren,hb2];have hk:(Bq us).all (fun r=>!hasRef r (BI 0 ext0))=true:=List.all_eq_true.2 fun r hr=>by
         obtain ⟨p,hp,rfl⟩:=List.mem_map.1 hr;obtain ⟨s,e⟩:=hus p hp;rw [e,PB];rfl
        rw [if_pos ⟨by rw [Lp,hlen],hk⟩];simp only [Rd.of,Rd.runLog,CI,List.range_eq_range']
       ·simp only;rw [TB,l1,Option.bind_some,hkeys,CI,List.range_eq_range',← hlen];exact Nx ext [] ext0 own2 hlen.symm
       ·have hz2:Bq (us++(Bq (BI 0 ext0)).zip ext)=Bq us++CI ext0.length:=by
         simp only [Bq,List.map_append];congr 1;rw [← hkeys];exact List.map_fst_zip (by simp only [Bq,List.length_map,Lp];omega)
        simp only [hz2];exact h
def Aef (E:Env) (ih:Aa) (f rid i:Nat) (dr:Bool) (slots:List IV) (op:Op) (hp:Hp) (k:IV→Hp→List Ref→List Ref→Option β) (r:β):Prop :=
 (EG E slots op=none∧Gy E ih f rid i (AF slots) op hp k r) ∨
 (dr=false∧Fm E op=false∧∃g args v hp',EG E slots op=some (g,args)∧ih g args hp=some (v,hp')∧k v hp' [] []=some r)
theorem Ul {g:Operand} {args:Array Operand} {ts:Array TypeId} {h':FuncId} {first cap:List IV} {slots:List IV} (hc:callee (AF slots g)=some (h',first,cap)) (hin:E.pol.inl h'=false)
  (h:Iso E ih h' (first++args.toList.map (AF slots)++cap) hp k r):Aef E ih f rid i dr slots (.call ⟨.value g,args,ts⟩) hp k r:=by
 obtain ⟨e,rd,hp',h1,h2,h3⟩:=h;refine .inl ⟨?_,e.val,hp',rd,Bq e.upd,⟨{ eff:=e },?_,?_,rfl,?_⟩,h3,fun q=>by cases q⟩
 ·simp only [EG,hc,hin,Bool.false_eq_true,if_false]
 ·simp only [CK,hc,hin,Bool.false_eq_true,if_false,Rd.eff,Bv,h1,Option.bind_some,Rd.runLog]
 ·simp only [AP,h2,Option.bind_some,Cv]
 ·simp only [HX,List.append_nil]
theorem AqM (hi:∀f args h x,ih' f args h=some x→ih f args h=some x) {slots:List IV} {c:Call} (h:I5 E ih' f rid i dr (AF slots) (.call c) hp k=some r):Aef E ih f rid i dr slots (.call c) hp k r:=by
 obtain ⟨cl,args,ts⟩:=c;simp only [I5,BD] at h;cases cl with
 | invoke _ _=>cases h
 | builtin b =>
  refine .inl ⟨rfl,?_⟩;simp only [UF,BD] at h;split at h
  ·rename_i t x hts has;split at h
   ·rename_i e z ht;unfold B0 at h;have hop:CK E ih f rid i (AF slots) (.call ⟨.builtin .len,args,ts⟩)=AS E (Bh f rid i) (E.pol.rowApp f rid i) .len [t] [AF slots x]:=by
     simp only [CK,hts,has];rfl
    rcases TP h with ⟨q,sz,n,hx,h⟩ | ⟨hx,h⟩
    ·rw [Dm] at h;exact A1 (by rw [hop];simp only [AS,ht,hx]) h
    ·rw [X8] at h;obtain ⟨es,he,h⟩:=Bu h;rw [Dm] at h;refine A1 (v:=.fv (.int .i64 es.length)) ?_ h;rw [hop];simp only [AS,ht];cases hxx:AF slots x with
     | slc q sz n=>exact absurd hxx (hx q sz n)
     | _=>rw [hxx] at he;simp only [he];rfl
   ·rename_i hn;refine BJ ?_ rfl h;simp only [Fm,hts,has]
  ·rename_i b0 b1 ts1 args1 hn;refine BJ ?_ rfl h;cases b0 with
   | len =>
    simp only [Fm];split
    ·rename_i hts has;exact absurd has (hn _ _ rfl hts)
    ·rfl
   | _=>rfl
 | value g =>
  simp only [UF,BD] at h;split at h
  ·rename_i g;have hc:callee (AF slots (.func g))=some (g,[],[]):=rfl;cases hin:E.pol.inl g with
   | true =>
    rw [hin] at h;cases dr with
    | true=>cases h
    | false =>
     simp only [cond,Af9] at h;cases he:ih' g (args.toList.map (AF slots)) hp with
     | none=>rw [he] at h;cases h
     | some p =>
      obtain ⟨v,hp'⟩:=p;rw [he] at h;refine .inr ⟨rfl,rfl,g,args.toList.map (AF slots),v,hp',?_,hi _ _ _ _ he,h⟩;simp only [EG,hc,hin,if_true,List.nil_append,List.append_nil]
   | false =>
    rw [hin] at h;refine Ul hc hin ?_;simp only [List.nil_append,List.append_nil];exact Abb hi h
  ·unfold Fs at h;split at h
   ·cases h
   ·rename_i h' first cap hc
    cases hin:E.pol.inl h' with
    | true=>rw [hin] at h;cases h
    | false =>
     rw [hin] at h;simp only [cond,HF] at h;exact Ul hc hin (Abb hi h)
theorem Anc (hi:∀f args h x,ih' f args h=some x→ih f args h=some x) {slots:List IV} {op:Op} (h:I5 E ih' f rid i dr (AF slots) op hp k=some r):Aef E ih f rid i dr slots op hp k r:=by
 cases op with
 | call c=>exact AqM hi h
 | move x=>exact .inl ⟨rfl,A1 rfl h⟩
 | assign x=>exact .inl ⟨rfl,A1 rfl h⟩
 | pick c a b=>exact .inl ⟨rfl,AnU h⟩
 | alloc t =>
  refine .inl ⟨rfl,?_⟩;simp only [I5,BD] at h;cases ht:E.T t with
  | none=>rw [ht] at h;cases h
  | some ti=>rw [ht] at h;exact T9 rfl (by simp only [CK,ht]) h
 | box t x=>exact .inl ⟨rfl,AsO h⟩
 | build t ps=>exact .inl ⟨rfl,AhO h⟩
 | load t a=>exact .inl ⟨rfl,Aqg h⟩
 | store t a x=>exact .inl ⟨rfl,AjK h⟩
 | nilCheck x=>exact .inl ⟨rfl,As4 h⟩
 | binOp o t x y yt =>
  refine .inl ⟨rfl,?_⟩;simp only [I5,BD] at h;obtain ⟨v,h1,h2⟩:=Acy h;exact A1 (by simp only [CK,h1];rfl) h2
 | unOp o t x =>
  refine .inl ⟨rfl,?_⟩;simp only [I5,CA] at h;exact Px rfl h
 | convert s d x=>exact .inl ⟨rfl,AcB h⟩
 | fieldAddr s x fd=>exact .inl ⟨rfl,Ty h⟩
 | field s x fd=>exact .inl ⟨rfl,AiS h⟩
 | indexAddr t x ix=>exact .inl ⟨rfl,SN h⟩
 | index t x ix=>exact .inl ⟨rfl,AiR h⟩
 | extract x ix=>exact .inl ⟨rfl,AcO h⟩
 | makeMap t n=>cases n with
  | none=>exact .inl ⟨rfl,BJ rfl rfl h⟩
  | some _=>cases h
 | buildSlice t n ps=>exact .inl ⟨rfl,BJ rfl rfl h⟩
 | makeFunc fn a b=>exact .inl ⟨rfl,BJ rfl rfl h⟩
 | insert t m j x=>exact .inl ⟨rfl,BJ rfl rfl h⟩
 | mapUpdate t m j x=>exact .inl ⟨rfl,BJ rfl rfl h⟩
 | lookup t m j ok=>exact .inl ⟨rfl,BJ rfl rfl h⟩
 | makeSlice t l c=>exact .inl ⟨rfl,BJ rfl rfl h⟩
 | slice t x lo hi mx=>exact .inl ⟨rfl,BJ rfl rfl h⟩
 | _=>cases h
end
end Idl
end Go.Proofs.Ytkfecngimlcfoaa
namespace Go.Proofs.Ytkfecngimlcfoaa
namespace Idl
section
variable {β:Type}
def By (k:Nat) (F:(List IV→Hp→Option β)→List IV→Hp→Option β):List IV→Hp→Option β :=
 Nat.rec (motive:=fun _=>List IV→Hp→Option β) (fun _ _=>none) (fun _ rec=>F rec) k
def LZ (s:Nat) (l:List Nat):Bool:=List.rec (motive:=fun _=>Bool) false (fun x _ ih=>cond (Nat.beq s x) true ih) l
def FG (rm:List Nat) (l:List Ref):Bool:=List.rec (motive:=fun _=>Bool) true (fun r _ ih=>match r with
 | .own s=>cond (LZ s rm) false ih
 | .ext _=>ih) l
def Hh (rm:List Nat) (own:List (Nat×Blk)):Bool:=List.rec (motive:=fun _=>Bool) true (fun p _ ih=>match p with
 | (s,b)=>cond (LZ s rm) ih (cond (FG rm (EX b)) ih false)) own
def I8 (rm:List Nat) (ext:List Blk):Bool:=List.rec (motive:=fun _=>Bool) true (fun b _ ih=>cond (FG rm (EX b)) ih false) ext
def Alw (rm:List Nat) (own:List (Nat×Blk)):Bool:=List.rec (motive:=fun _=>Bool) false (fun p _ ih=>match p with
 | (s,_)=>cond (LZ s rm) true ih) own
def Tw (rm:List Nat) (own:List (Nat×Blk)) (k:List (Nat×Blk)→Option β):Option β :=
 List.rec (motive:=fun _=>(List (Nat×Blk)→Option β)→Option β) (fun k=>k []) (fun p _ ih k=>match p with
  | (s,b)=>cond (LZ s rm) (ih k) (ih fun l=>k ((s,b)::l))) own k
def Bs (base rm:List Nat) (vals:List IV) (h:Hp) (k:Hp→Option β):Option β :=
 cond (
    rm.any base.contains) none (match h with
  | ⟨own,ext⟩=>cond (Alw rm own)
   (cond (and (FG rm (Ct vals [])) (and (Hh rm own) (I8 rm ext))) (Tw rm own fun own=>k ⟨own,ext⟩)
    (match Cs base [] rm ⟨vals,⟨own,ext⟩⟩ with
     | none=>none
     | some S=>fH S.hp k)) (k ⟨own,ext⟩))
def RM (d:Option Nat) (v:IV) (h:Hp) (T:FS):FS:=match d with
 | none=>⟨T.n,T.t,h⟩
 | some d=>cond (Nat.ble T.n d) ⟨T.n,T.t,h⟩ ⟨T.n,T.t.set d v,h⟩
abbrev SlT.setKK {α:Type} (t:SlT):Nat→IV→(SlT→α)→α :=
 SlT.rec (motive:=fun _=>Nat→IV→(SlT→α)→α) (fun j v i x k=>Bool.rec (motive:=fun _=>α) (k (.leaf j v)) (k (.leaf j x)) (Nat.beq i j))
  (fun m l r gl gr i x k=>Bool.rec (motive:=fun _=>α) (gl i x fun l'=>k (.node m l' r)) (gr i x fun r'=>k (.node m l r')) (Nat.ble m i)) t
abbrev Kp (d:Option Nat) (v:IV) (h:Hp) (T:FS) (K:FS→Option β):Option β :=
 FS.rec (motive:=fun _=>Option β) (fun n t _=>Option.rec (motive:=fun _=>Option β) (K ⟨n,t,h⟩) (fun d=>Td (Nat.ble n d) (K ⟨n,t,h⟩) (t.setKK d v fun t=>K ⟨n,t,h⟩)) d) T
abbrev U4 (args:List IV):Nat→FS→(FS→Option β)→Option β :=
 List.rec (motive:=fun _=>Nat→FS→(FS→Option β)→Option β) (fun _ T K=>K T) (fun v _ ih i T K=>Kp (some i) v T.hp T fun T=>ih (Nat.succ i) T K) args
abbrev Tn (cs:List Nat):List IV→FS→(FS→Option β)→Option β :=
 List.rec (motive:=fun _=>List IV→FS→(FS→Option β)→Option β) (fun _ T k=>k T) (fun c _ ih vals T k=>AA vals fun v vals=>Kp (some c) v T.hp T fun T=>ih vals T k) cs
def LG (r s:Ref):Bool:=match r with
 | .own i=>(match s with
  | .own j=>not (Nat.beq i j)
  | .ext _=>true)
 | .ext i=>(match s with
  | .own _=>true
  | .ext j=>not (Nat.beq i j))
def KY (r:Ref) (l:List Ref):Bool:=List.rec (motive:=fun _=>Bool) true (fun s _ ih=>cond (LG r s) ih false) l
def Uw (a b:List Ref):Bool:=List.rec (motive:=fun _=>Bool) true (fun r _ ih=>cond (KY r b) ih false) a
theorem AgO (r s:Ref):LG r s=decide (r≠s):=by
 cases r<;>cases s<;>simp [LG,Ib]
theorem Tb (r:Ref):∀(l:List Ref),KY r l=l.all fun s=>decide (r≠s)
 | []=>rfl
 | s::l=>by
  rw [show KY r (s::l)=cond (LG r s) (KY r l) false from rfl,AgO,Tb r l,List.all_cons]
  cases decide (r≠s)<;>rfl
theorem AgQ:∀(a b:List Ref),Uw a b=Ob a b
 | [],_=>rfl
 | r::a,b=>by
  rw [show Uw (r::a) b=cond (KY r b) (Uw a b) false from rfl,Tb,AgQ a b]
  simp only [Ob,List.all_cons];cases (b.all fun s=>decide (r≠s))<;>rfl
def Ad (l:List (List Ref×List Ref)) (rd wr:List Ref) (a:Option β):Option β :=
 List.rec (motive:=fun _=>Option β) a (fun q _ ih=>match q with
  | (q1,q2)=>cond (Uw q2 rd) (cond (Uw q2 wr) (cond (Uw wr q1) ih none) none) none) l
def T6 (before:Nat) (done:List (Nat×List Ref×List Ref)):List (List Ref×List Ref) :=
 List.rec (motive:=fun _=>List (List Ref×List Ref)) [] (fun p _ ih=>match p with | (j,q)=>cond (before.testBit j) ih (q::ih)) done
section
variable (E:Env) (ih:Aa)
def LI (f rid:Nat) (ops:Array Oper) (i:Nat) (o:Oper) (dr:Bool) (T:FS) (K:FS→List Ref→List Ref→Option β):Option β :=
 match o.guard with
 | none=>I5 E ih f rid i dr (HI T) o.op T.hp fun v h rd wr=>Kp o.dst v h T fun T=>K T rd wr
 | some (j,want)=>match (ops[j]?).bind (·.dst) with
  | none=>none
  | some d=>Td (Nat.ble T.n d) none
   (Ac (T.get d) want T.hp (fun k=>I5 E ih f rid i dr (HI T) o.op T.hp k) fun v h rd wr=>Kp o.dst v h T fun T=>K T rd wr)
def AoQ (f rid:Nat) (ops:Array Oper) (l:List Oper):Nat→FS→(FS→Option β)→Option β :=
 List.rec (motive:=fun _=>Nat→FS→(FS→Option β)→Option β) (fun _ T K=>K T) (fun o _ rec i T K=>LI E ih f rid ops i o false T fun T _ _=>rec (Nat.succ i) T K) l
def ZM (f rid:Nat) (ops:Array Oper) (before:Array Nat) (l:List Oper):Nat→List (Nat×List Ref×List Ref)→FS→(FS→Option β)→Option β :=
 List.rec (motive:=fun _=>Nat→List (Nat×List Ref×List Ref)→FS→(FS→Option β)→Option β) (fun _ _ T K=>K T)
  (fun o _ rec i done T K=>Td (Fm E o.op) (LI E ih f rid ops i o true T fun T _ _=>rec (Nat.succ i) done T K)
   (LI E ih f rid ops i o true T fun T rd wr=>Ad (T6 (before.getD i 0) done) rd wr (rec (Nat.succ i) ((i,rd,wr)::done) T K))) l
def CG (n:Nat) (kills:List Nat):List Nat:=(List.range n).filter fun i=>!kills.contains i
def O2 (base kills rm:List Nat) (T:FS) (k:List IV→Hp→Option β):Option β :=
 match rm with
 | []=>k ((CG T.n kills).map T.get) T.hp
 | r::rm=>Bs base (r::rm) ((CG T.n kills).map T.get) T.hp fun h=>k ((CG T.n kills).map T.get) h
def FD (f n:Nat) (base:List Nat):Code→FS→(Ex→FS→Option β)→Option β
 | .skip,T,K=>K .normal T
 | .region rid ops draw,T,K=>Td draw (ZM E ih f rid ops (Region.before ops) ops.toList 0 [] T fun T=>K .normal T) (AoQ E ih f rid ops ops.toList 0 T fun T=>K .normal T)
 | .seq a b,T,K=>FD f n base a T fun ex T=>match ex with
  | .normal=>FD f n base b T K
  | .exit j=>K (.exit j) T
  | .ret=>K .ret T
 | .cond c a b,T,K=>Ai (HI T c) (FD f n base a T K) (FD f n base b T K)
 | .block id c,T,K=>FD f n base c T fun ex T=>match ex with
  | .normal=>K .normal T
  | .exit j=>Td (Nat.beq j id) (K .normal T) (K (.exit j) T)
  | .ret=>K .ret T
 | .loop c,T,K=>O2 base (E.pol.head f (B5 c)).1 (E.pol.head f (B5 c)).2 T (By n fun rec vals h =>
   Tn (CG T.n (E.pol.head f (B5 c)).1) vals ⟨T.n,dT 10 0 T.n,h⟩ fun T=>FD f n base c T fun ex T=>match ex with
    | .normal=>O2 base (E.pol.head f (B5 c)).1 (E.pol.head f (B5 c)).2 T rec
    | .exit j=>K (.exit j) T
    | .ret=>K .ret T)
 | .exit id,T,K=>K (.exit id) T
 | .ret,T,K=>K .ret T
 | _,_,_=>none
def As (agg:Bool) (size:Nat) (a:IV) (h:Hp) (k:IV→Option β):Option β :=
 cond agg (Ag size a h fun v _=>k v) (Ae a h fun v _=>k v)
def AcM (T:FS) (rs:List ResultVar):List IV→(List IV→Option β)→Option β :=
 List.rec (motive:=fun _=>List IV→(List IV→Option β)→Option β) (fun acc k=>k acc) (fun v _ rec acc k=>match v with
  | .tmp t=>rec (acc++[T.get t]) k
  | .cell a t=>match E.T t with
   | none=>none
   | some ti=>As ti.kind.isAgg ti.size (T.get a) T.hp fun v=>rec (acc++[v]) k) rs
def Al (vs:List IV) (h:Hp):Option (IV×Hp):=match vs with
 | [v]=>some (v,h)
 | vs=>UX vs fun v=>some (v,h)
def Aw (FT:Nat→Option Func) (n f:Nat) (args:List IV) (h:Hp):Option (IV×Hp):=match FT f with
 | none=>none
 | some fn=>match fn.body with
  | none=>none
  | some c=>Td (Nat.ble args.length fn.ntmps && Nat.ble fn.ntmps 1024)
   (U4 args 0 ⟨fn.ntmps,dT 10 0 fn.ntmps,h⟩ fun T=>FD E ih f n (h.own.map (·.1)) c T fun ex T=>match ex with
    | .exit _=>none
    | .normal=>AcM E T fn.results.toList [] fun vs=>Al vs T.hp
    | .ret=>AcM E T fn.results.toList [] fun vs=>Al vs T.hp) none
end
end
end Idl
end Go.Proofs.Ytkfecngimlcfoaa
set_option linter.unusedSimpArgs false
namespace Go.Proofs.Ytkfecngimlcfoaa
namespace Idl
section
variable {β:Type} {E:Env} {ih ih':Aa} {f rid:Nat} {r:β}
theorem QC (d:Option Nat) (v:IV) (h:Hp) (T:FS):RM d v h T=Qm d v ⟨T.n,T.t,h⟩:=by cases d<;>rfl
theorem UM (d:Option Nat) (v:IV) (h:Hp) (T:FS):(RM d v h T).n=T.n:=by
 cases d with
 | none=>rfl
 | some d =>
  show (cond (Nat.ble T.n d) (FS.mk T.n T.t h) ⟨T.n,T.t.set d v,h⟩).n=T.n
  cases Nat.ble T.n d<;>rfl
theorem AgV {α:Type} (t:SlT) (i:Nat) (x:IV) (k:SlT→α):t.setKK i x k=k (t.set i x):=by
 refine Eq.trans ?_ (Aau t i x k)
 induction t generalizing k with
 | leaf j v =>
  show Bool.rec (k (.leaf j v)) (k (.leaf j x)) (Nat.beq i j)=cond (Nat.beq i j) (k (.leaf j x)) (k (.leaf j v))
  cases Nat.beq i j<;>rfl
 | node m l r ihl ihr =>
  show Bool.rec (l.setKK i x fun l'=>k (.node m l' r)) (r.setKK i x fun r'=>k (.node m l r')) (Nat.ble m i)=cond (Nat.ble m i) (r.setK i x fun r'=>k (.node m l r')) (l.setK i x fun l'=>k (.node m l' r))
  cases Nat.ble m i
  ·exact ihl _
  ·exact ihr _
theorem NG (d:Option Nat) (v:IV) (h:Hp) (T:FS) (K:FS→Option β):Kp d v h T K=K (RM d v h T):=by
 obtain ⟨n,t,h0⟩:=T;cases d with
 | none=>rfl
 | some d =>
  show Td (Nat.ble n d) (K ⟨n,t,h⟩) (t.setKK d v fun t=>K ⟨n,t,h⟩)=K (cond (Nat.ble n d) ⟨n,t,h⟩ ⟨n,t.set d v,h⟩)
  rw [BD];cases Nat.ble n d
  ·simp only [cond];rw [AgV]
  ·rfl
theorem OW:∀(args:List IV) (i:Nat) (T:FS) (K:FS→Option β),U4 args i T K=WW args i T K
 | [],_,_,_=>rfl
 | v::l,i,T,K=>by
  show Kp (some i) v T.hp T (fun T=>U4 l (Nat.succ i) T K)=Af8 (some i) v T fun T=>WW l (Nat.succ i) T K
  rw [NG,Abc,QC,OW l]
theorem Od {T:FS} {S:St} (hr:Rep T S) (d:Option Nat) (v:IV) (h:Hp):Rep (RM d v h T) ⟨BY d v S.slots,h⟩:=by
 rw [QC];exact AbR (T:=⟨T.n,T.t,h⟩) (S:=⟨S.slots,h⟩) ⟨rfl,hr.len,hr.has,hr.get⟩ d v
theorem NB (hi:∀f args h x,ih' f args h=some x→ih f args h=some x) {ops:Array Oper} {i:Nat} {o:Oper} (ho:ops[i]?=some o) {dr:Bool} {T:FS} {S:St} (hr:Rep T S)
  {K:FS→List Ref→List Ref→Option β} (h:LI E ih' f rid ops i o dr T K=some r) :
  ∃S' T' rd wr,step E ih f rid ops i S=some S'∧(dr=true→KM E ih f rid ops i S=some (S',rd,wr))∧Rep T' S'∧T'.n=T.n∧K T' rd wr=some r∧(Fm E o.op=true→rd=[]∧wr=[]):=by
 have done:CQ ops S.slots o=some true→I5 E ih' f rid i dr (HI T) o.op T.hp (fun v h rd wr=>K (RM o.dst v h T) rd wr)=some r →
   ∃S' T' rd wr,step E ih f rid ops i S=some S'∧(dr=true→KM E ih f rid ops i S=some (S',rd,wr))∧Rep T' S'∧T'.n=T.n∧K T' rd wr=some r∧(Fm E o.op=true→rd=[]∧wr=[]):=by
  intro hw h;rw [LH hr,← hr.hp] at h;rcases Anc hi h with ⟨hin,v,hp',rd,wr,⟨m,hm,hh,hv,hwr⟩,hk,hq⟩ | ⟨hdr,hq,g,args,v,hp',hin,he,hk⟩
  ·have ha:D9 (Bh f rid i) o.dst S m=some ⟨BY o.dst v S.slots,hp'⟩:=by simp only [D9,hh,Axd,hv]
   refine ⟨⟨BY o.dst v S.slots,hp'⟩,RM o.dst v hp' T,rd,wr,?_,fun _=>?_,Od hr o.dst v hp',UM ..,hk,hq⟩
   ·simp only [step,ho,hw,hin,DZ];rw [Fw _ _ _ _ _ hm];exact ha
   ·simp only [KM,ho,hw,hin,DZ,hm,ha,Axd,hwr,HX];rfl
  ·refine ⟨⟨BY o.dst v S.slots,hp'⟩,RM o.dst v hp' T,[],[],?_,fun e=>(by rw [hdr] at e;cases e),Od hr o.dst v hp',UM ..,hk,fun q=>by rw [hq] at q;cases q⟩;simp only [step,ho,hw,hin,he,Axd]
 have skip:CQ ops S.slots o=some false→K (RM o.dst Fr T.hp T) [] []=some r →
   ∃S' T' rd wr,step E ih f rid ops i S=some S'∧(dr=true→KM E ih f rid ops i S=some (S',rd,wr))∧Rep T' S'∧T'.n=T.n∧K T' rd wr=some r∧(Fm E o.op=true→rd=[]∧wr=[]):=by
  intro hw h;refine ⟨_,_,[],[],?_,fun _=>?_,Od hr o.dst Fr T.hp,UM ..,h,fun _=>⟨rfl,rfl⟩⟩
  ·simp only [step,ho,hw,← hr.hp]
  ·simp only [KM,ho,hw,← hr.hp]
 unfold LI at h;have eK:(fun (v:IV) (h:Hp) (rd wr:List Ref)=>Kp o.dst v h T fun T=>K T rd wr)=fun v h rd wr=>K (RM o.dst v h T) rd wr:=by
  funext v h rd wr
  exact NG o.dst v h T fun T=>K T rd wr
 rw [eK] at h;simp only [BD] at h;cases hg:o.guard with
 | none =>
  rw [hg] at h;exact done (by simp only [CQ,hg]) h
 | some jw =>
  obtain ⟨j,want⟩:=jw;rw [hg] at h;simp only at h;cases hd:(ops[j]?).bind (·.dst) with
  | none=>rw [hd] at h;cases h
  | some d =>
   rw [hd] at h;simp only at h;cases hb:Nat.ble T.n d with
   | true=>rw [hb] at h;cases h
   | false =>
    rw [hb] at h;simp only [cond] at h;have hdn:d<T.n:=Nat.lt_of_not_le fun h=>by rw [Nat.ble_eq_true_of_le h] at hb;cases hb
    have hs:S.slots[d]?=some (T.get d):=by
     rw [hr.at_,List.getD_eq_getElem?_getD,List.getElem?_eq_getElem (by rw [hr.len];exact hdn)];rfl
    have hw:CQ ops S.slots o=match T.get d with
      | .fv (.bool b)=>some (b == want)
      | .fv (.tuple [])=>some false
      | _=>none:=by
     simp only [CQ,hg,hd,Option.bind_some,hs];generalize T.get d=v;split
     ·rename_i e;simp only [Axa] at e;subst e;rfl
     ·rename_i e;simp only [Axa] at e;subst e;rfl
     ·rename_i h1 h2;split
      ·exact absurd rfl (h1 _)
      ·exact absurd rfl h2
      ·rfl
    unfold Ac at h;rcases Nz h with ⟨v,hv,h⟩ | h
    ·rw [hv] at hw;unfold Ag0 at h;split at h
     ·rename_i b;have e:(b == want)=(cond want b (not b)):=by cases b<;>cases want<;>rfl
      cases hc:(cond want b (not b)) with
      | true =>
       rw [hc] at h;exact done (by rw [hw];simp only [e,hc]) h
      | false =>
       rw [hc] at h;exact skip (by rw [hw];simp only [e,hc]) h
     ·rename_i l;cases l with
      | nil=>exact skip hw h
      | cons _ _=>cases h
     ·cases h
    ·cases h
theorem Ako (hi:∀f args h x,ih' f args h=some x→ih f args h=some x) {ops:Array Oper}:∀(l:List Oper) (i:Nat),ops.toList.drop i=l→∀{T:FS} {S:St},Rep T S→∀{K:FS→Option β},AoQ E ih' f rid ops l i T K=some r →
  ∃S' T',Ju E ih f rid ops (List.range' i l.length) S=some S'∧Rep T' S'∧T'.n=T.n∧K T'=some r:=by
 intro l
 induction l with
 | nil=>intro i _ T S hr K h;exact ⟨S,T,rfl,hr,rfl,h⟩
 | cons o l ihl =>
  intro i hd T S hr K h;have ho:ops[i]?=some o:=by
   have:ops.toList[i]?=some o:=by rw [← List.head?_drop,hd];rfl
   simpa using this
  have hd':ops.toList.drop (i+1)=l:=by rw [← List.tail_drop,hd];rfl
  have h:LI E ih' f rid ops i o false T (fun T _ _=>AoQ E ih' f rid ops l (Nat.succ i) T K)=some r:=h;obtain ⟨S1,T1,rd,wr,h1,_,h2,hn,h3,_⟩:=NB hi ho hr h;obtain ⟨S',T',h4,h5,hn2,h6⟩:=ihl (i+1) hd' h2 h3;refine ⟨S',T',?_,h5,hn2.trans hn,h6⟩;rw [Axe,List.range'_succ];simp only [Ju,h1,Option.bind_some];exact h4
theorem All {l:List (List Ref×List Ref)} {rd wr:List Ref} {a:Option β} (h:Ad l rd wr a=some r):(∀q∈l,clash q (rd,wr)=true)∧a=some r:=by
 induction l with
 | nil=>exact ⟨fun q hq=>(by cases hq),h⟩
 | cons p l ih =>
  obtain ⟨q1,q2⟩:=p;have h:cond (Uw q2 rd) (cond (Uw q2 wr) (cond (Uw wr q1) (Ad l rd wr a) none) none) none=some r:=h;obtain ⟨h1,h⟩:=Ds h;obtain ⟨h2,h⟩:=Ds h;obtain ⟨h3,h⟩:=Ds h;rw [AgQ] at h1 h2 h3;obtain ⟨h4,h5⟩:=ih h;refine ⟨fun q hq=>?_,h5⟩;rcases List.mem_cons.1 hq with rfl | hq
  ·simp only [clash,h1,h2,h3,Bool.and_self]
  ·exact h4 q hq
theorem AcV {b:Nat} {done:List (Nat×List Ref×List Ref)} {j:Nat} {q:List Ref×List Ref} (h:(j,q)∈done) (hj:b.testBit j=false):q∈T6 b done:=by
 induction done with
 | nil=>cases h
 | cons p l ih =>
  obtain ⟨j',q'⟩:=p
  show q∈cond (b.testBit j') (T6 b l) (q'::T6 b l)
  rcases List.mem_cons.1 h with e | h
  ·simp only [Axb] at e;obtain ⟨rfl,rfl⟩:=e;rw [hj];exact List.mem_cons_self
  ·cases b.testBit j' with
   | true=>exact ih h
   | false=>exact List.mem_cons_of_mem _ (ih h)
theorem AdG (hi:∀f args h x,ih' f args h=some x→ih f args h=some x) {ops:Array Oper} {before:Array Nat}:∀(l:List Oper) (i:Nat),ops.toList.drop i=l→∀{T:FS} {S:St} (done full:List (Nat×List Ref×List Ref)),
  (∀x∈full,x.2=([],[])∨x∈done)→Rep T S→∀{K:FS→Option β},ZM E ih' f rid ops before l i done T K=some r →
  ∃S' T',Fe E ih f rid ops before (List.range' i l.length) full S=some S'∧Rep T' S'∧T'.n=T.n∧K T'=some r:=by
 intro l
 induction l with
 | nil=>intro i _ T S done full _ hr K h;exact ⟨S,T,rfl,hr,rfl,h⟩
 | cons o l ihl =>
  intro i hd T S done full hf hr K h;have ho:ops[i]?=some o:=by
   have:ops.toList[i]?=some o:=by rw [← List.head?_drop,hd];rfl
   simpa using this
  have hd':ops.toList.drop (i+1)=l:=by rw [← List.tail_drop,hd];rfl
  have h:Td (Fm E o.op) (LI E ih' f rid ops i o true T fun T _ _=>ZM E ih' f rid ops before l (Nat.succ i) done T K)
   (LI E ih' f rid ops i o true T fun T rd wr=>Ad (T6 (before.getD i 0) done) rd wr (ZM E ih' f rid ops before l (Nat.succ i) ((i,rd,wr)::done) T K))=some r:=h
  rw [BD] at h;rw [Axe,List.range'_succ];cases hq:Fm E o.op with
  | true =>
   rw [hq] at h;simp only [cond] at h;obtain ⟨S1,T1,rd,wr,_,h1,h2,hn,h3,h4⟩:=NB hi ho hr h;have h1:=h1 rfl;obtain ⟨rfl,rfl⟩:=h4 hq;obtain ⟨S',T',h4,h5,hn2,h6⟩:=ihl (i+1) hd' done ((i,[],[])::full) (fun x hx=>by
    rcases List.mem_cons.1 hx with rfl | hx
    ·exact .inl rfl
    ·exact hf x hx) h2 h3
   refine ⟨S',T',?_,h5,hn2.trans hn,h6⟩;simp only [Fe,h1]
   have:(full.all fun x=>(before.getD i 0).testBit x.1 || clash x.2 ([],[]))=true:=List.all_eq_true.2 fun x _=>by rw [AcD];simp
   rw [if_pos this];exact h4
  | false =>
   rw [hq] at h;simp only [cond] at h;obtain ⟨S1,T1,rd,wr,_,h1,h2,hn,h3,_⟩:=NB hi ho hr h;have h1:=h1 rfl;obtain ⟨hc,h3⟩:=All h3;obtain ⟨S',T',h4,h5,hn2,h6⟩:=ihl (i+1) hd' ((i,rd,wr)::done) ((i,rd,wr)::full) (fun x hx=>by
    rcases List.mem_cons.1 hx with rfl | hx
    ·exact .inr List.mem_cons_self
    ·exact (hf x hx).imp id (List.mem_cons_of_mem _)) h2 h3
   refine ⟨S',T',?_,h5,hn2.trans hn,h6⟩;simp only [Fe,h1]
   have:(full.all fun x=>(before.getD i 0).testBit x.1 || clash x.2 (rd,wr))=true:=List.all_eq_true.2 fun x hx=>by
    rcases hf x hx with e | e
    ·rw [e,AcE];simp
    ·cases hb:(before.getD i 0).testBit x.1 with
     | true=>rfl
     | false=>rw [hc x.2 (AcV (j:=x.1) e hb)];rfl
   rw [if_pos this];exact h4
theorem Agu (ks:List Nat) (l:List IV):(AY ks l).length=l.length:=by
 induction ks generalizing l with
 | nil=>rfl
 | cons i ks ih=>simp [AY,ih]
theorem Uu (ks:List Nat) (l:List IV) (i:Nat) (hi:i<l.length):(AY ks l).getD i .dead=if i∈ks then .dead else l.getD i .dead:=by
 induction ks generalizing l with
 | nil=>simp [AY]
 | cons j ks ih =>
  rw [AY,ih _ (by simpa using hi)];by_cases h:i∈ks
  ·rw [if_pos h,if_pos (List.mem_cons_of_mem _ h)]
  ·rw [if_neg h];by_cases e:i=j
   ·subst e;rw [if_pos List.mem_cons_self,List.getD_eq_getElem?_getD,List.getElem?_set_self hi];rfl
   ·rw [if_neg (by simp [e,h]),List.getD_eq_getElem?_getD,List.getElem?_set_ne (Ne.symm e),← List.getD_eq_getElem?_getD]
structure AtHead (n:Nat) (kills:List Nat) (vals:List IV) (h:Hp) (S:St):Prop where
 len:S.slots.length=n
 hp:S.hp=h
 vals:vals=(CG n kills).map fun i=>S.slots.getD i .dead
 dead:∀i,i<n→i∈kills→S.slots.getD i .dead=.dead
theorem OB {n:Nat} {kills:List Nat} {i:Nat}:i∈CG n kills ↔ i<n∧i ∉ kills:=by
 simp [CG]
theorem I2 {T:FS} {S:St} (hr:Rep T S) (kills:List Nat) (h:Hp):AtHead T.n kills ((CG T.n kills).map T.get) h ⟨AY kills S.slots,h⟩:=by
 refine ⟨by simp [Agu,hr.len],rfl,?_,fun i hi hk=>?_⟩
 ·apply List.map_congr_left;intro i hi
  have:=OB.1 hi
  rw [hr.at_];simp only;rw [Uu _ _ _ (by rw [hr.len];exact this.1),if_neg this.2]
 ·simp only;rw [Uu _ _ _ (by rw [hr.len];exact hi),if_pos hk]
theorem Qt {l:List IV}:∀(g:Nat→Bool) (n:Nat),l.length=n→(∀i,i<n→g i=false→l.getD i .dead=.dead) →
  IV.refs.refsL (((List.range n).filter g).map fun i=>l.getD i .dead)=IV.refs.refsL l:=by
 intro g n
 induction n generalizing l g with
 | zero=>intro hl _;cases l with | nil=>rfl | cons _ _=>cases hl
 | succ n ih =>
  intro hl hd;cases l with
  | nil=>cases hl
  | cons x l =>
   simp only [Axe,Nat.add_right_cancel_iff] at hl;rw [List.range_succ_eq_map];have ih:=ih (l:=l) (fun i=>g (i+1)) hl (fun i hi hg=>by simpa using hd (i+1) (by omega) hg);have e:(((List.range n).map Nat.succ).filter g).map (fun i=>(x::l).getD i .dead)=(((List.range n).filter fun i=>g (i+1))).map fun i=>l.getD i .dead:=by
    rw [List.filter_map,List.map_map];rfl
   cases hg:g 0 with
   | true =>
    rw [List.filter_cons_of_pos hg,Axg,e];simp only [IV.refs.refsL,ih];rfl
   | false =>
    rw [List.filter_cons_of_neg (by rw [hg];simp),e]
    have:x=.dead:=by simpa using hd 0 (by omega) hg
    subst this;simp only [IV.refs.refsL,ih];rfl
def Om (rm:List Nat) (rs:List Ref) (h:Hp):Option Hp :=
 let held:=rs++(h.own.filter fun p=>!rm.contains p.1).flatMap (fun p=>p.2.refs)++h.ext.flatMap Blk.refs
 let gone:=rm.filter fun k=>!anyIn [k] held
 let h2:Hp:={ h with own:=h.own.filter fun p=>!gone.contains p.1 }
 if anyIn gone (rs++h2.own.flatMap (fun p=>p.2.refs)++h2.ext.flatMap Blk.refs) then none else some h2
theorem Aky {α γ:Type} {c c':Bool} {y:α} (g:α→γ) (h:c=c'):(if c=true then none else some (g y))=(if c'=true then none else some y).map g:=by
 subst h;cases c<;>rfl
theorem Hj {base kills rm:List Nat} {sl:List IV} {h:Hp} (hb:rm.any base.contains=false) (ha:(h.own.all fun p=>!rm.contains p.1)=false) :
  Cs base kills rm ⟨sl,h⟩=(Om rm (IV.refs.refsL (AY kills sl)) h).map fun h'=>⟨AY kills sl,h'⟩:=by
 simp only [Cs,hb,ha,Bool.false_eq_true,if_false,CP,Om];exact Aky _ rfl
theorem OQ {base rm:List Nat} {S1:St} {kills:List Nat} {sl:List IV} (hsl:IV.refs.refsL sl=IV.refs.refsL (AY kills S1.slots)) (hb:rm.any base.contains=false)
  (ha:(S1.hp.own.all fun p=>!rm.contains p.1)=false) {S:St} (h:Cs base [] rm ⟨sl,S1.hp⟩=some S):Cs base kills rm S1=some ⟨AY kills S1.slots,S.hp⟩:=by
 obtain ⟨s1,h1⟩:=S1;rw [Hj hb ha] at h;rw [Hj hb ha];simp only [AY] at h;rw [hsl] at h;cases hd:Om rm (IV.refs.refsL (AY kills s1)) h1 with
 | none=>rw [hd] at h;cases h
 | some h' =>
  rw [hd] at h;simp only [Axd,Axa] at h;subst h;rfl
theorem Mx (s:Nat) (l:List Nat):LZ s l=l.contains s:=by
 induction l with
 | nil=>rfl
 | cons x l ih =>
  rw [show LZ s (x::l)=cond (Nat.beq s x) true (LZ s l) from rfl,GW,ih,List.contains_cons]
  by_cases e:s=x
  ·subst e;simp
  ·rw [if_neg e];simp [e]
theorem FC {rm:List Nat}:∀{l:List Ref},FG rm l=true→∀k∈rm,Ref.own k ∉ l
 | [],_,k,_,h=>by cases h
 | .ext j::l,h,k,hk,hm=>by
  rcases List.mem_cons.1 hm with e | hm
  ·cases e
  ·exact FC (l:=l) h k hk hm
 | .own s::l,h,k,hk,hm=>by
  have h:cond (LZ s rm) false (FG rm l)=true:=h;cases hs:LZ s rm with
  | true=>rw [hs] at h;cases h
  | false =>
   rw [hs] at h;rcases List.mem_cons.1 hm with e | hm
   ·simp only [Ref.own.injEq] at e;subst e;rw [Mx] at hs;rw [List.contains_iff_mem.2 hk] at hs;cases hs
   ·exact FC (l:=l) h k hk hm
theorem HG {rm:List Nat}:∀{own:List (Nat×Blk)},Hh rm own=true→∀k∈rm,Ref.own k ∉ (own.filter fun p=>!rm.contains p.1).flatMap fun p=>p.2.refs
 | [],_,k,_,h=>by cases h
 | (s,b)::own,h,k,hk,hm=>by
  have h:cond (LZ s rm) (Hh rm own) (cond (FG rm (EX b)) (Hh rm own) false)=true:=h;rw [Mx,KD] at h;cases hs:rm.contains s with
  | true =>
   rw [hs] at h;rw [List.filter_cons_of_neg (by rw [hs];simp)] at hm;exact HG (own:=own) h k hk hm
  | false =>
   rw [hs] at h;rw [List.filter_cons_of_pos (by rw [hs];rfl)] at hm;cases hf:FG rm b.refs with
   | false=>rw [hf] at h;cases h
   | true =>
    rw [hf] at h;simp only [List.flatMap_cons,List.mem_append] at hm;rcases hm with hm | hm
    ·exact FC hf k hk hm
    ·exact HG (own:=own) h k hk hm
theorem Oa {rm:List Nat}:∀{ext:List Blk},I8 rm ext=true→∀k∈rm,Ref.own k ∉ ext.flatMap Blk.refs
 | [],_,k,_,h=>by cases h
 | b::ext,h,k,hk,hm=>by
  have h:cond (FG rm (EX b)) (I8 rm ext) false=true:=h;rw [KD] at h;cases hf:FG rm b.refs with
  | false=>rw [hf] at h;cases h
  | true =>
   rw [hf] at h;simp only [List.flatMap_cons,List.mem_append] at hm;rcases hm with hm | hm
   ·exact FC hf k hk hm
   ·exact Oa (ext:=ext) h k hk hm
theorem Mj {rm:List Nat}:∀(own:List (Nat×Blk)),Alw rm own=!(own.all fun p=>!rm.contains p.1)
 | []=>rfl
 | (s,b)::own=>by
  rw [show Alw rm ((s,b)::own)=cond (LZ s rm) true (Alw rm own) from rfl,Mx,Mj own,List.all_cons]
  cases rm.contains s<;>rfl
theorem Hm {rm:List Nat}:∀(own:List (Nat×Blk)) (k:List (Nat×Blk)→Option β),Tw rm own k=k (own.filter fun p=>!rm.contains p.1)
 | [],_=>rfl
 | (s,b)::own,k=>by
  rw [show Tw rm ((s,b)::own) k=cond (LZ s rm) (Tw rm own k) (Tw rm own fun l=>k ((s,b)::l)) from rfl,Mx]
  cases hs:rm.contains s with
  | true=>rw [List.filter_cons_of_neg (by rw [hs];simp)];exact Hm own k
  | false=>rw [List.filter_cons_of_pos (by rw [hs];rfl)];exact Hm own _
theorem Eh {ks:List Nat}:∀{l:List Ref},(∀k∈ks,Ref.own k ∉ l)→anyIn ks l=false
 | [],_=>rfl
 | .ext j::l,h=>Eh (l:=l) fun k hk hm=>h k hk (List.mem_cons_of_mem _ hm)
 | .own s::l,h=>by
  simp only [anyIn,Bool.or_eq_false_iff];refine ⟨?_,Eh (l:=l) fun k hk hm=>h k hk (List.mem_cons_of_mem _ hm)⟩;cases hc:ks.contains s with
  | false=>rfl
  | true=>exact absurd List.mem_cons_self (h s (List.contains_iff_mem.1 hc))
theorem TU {rm:List Nat} {rs:List Ref} {own:List (Nat×Blk)} {ext:List Blk} (h1:∀k∈rm,Ref.own k ∉ rs) (h2:Hh rm own=true) (h3:I8 rm ext=true) :
  Om rm rs ⟨own,ext⟩=some ⟨own.filter fun p=>!rm.contains p.1,ext⟩:=by
 have h2:=HG h2;have h3:=Oa h3;have hh:∀k∈rm,Ref.own k ∉ rs++(own.filter fun p=>!rm.contains p.1).flatMap (fun p=>p.2.refs)++ext.flatMap Blk.refs:=fun k hk hm=>by
  rcases List.mem_append.1 hm with hm | hm
  ·rcases List.mem_append.1 hm with hm | hm
   ·exact h1 k hk hm
   ·exact h2 k hk hm
  ·exact h3 k hk hm
 have hg:(rm.filter fun k=>!anyIn [k] (rs++(own.filter fun p=>!rm.contains p.1).flatMap (fun p=>p.2.refs)++ext.flatMap Blk.refs))=rm:=by
  apply List.filter_eq_self.2;intro k hk;rw [Eh fun j hj hm=>hh j (by simp only [List.mem_singleton] at hj;rw [hj];exact hk) hm];rfl
 simp only [Om,hg];rw [Eh hh];rfl
theorem S9 {base kills rm:List Nat} {T:FS} {S:St} (hr:Rep T S) {k:List IV→Hp→Option β} (h:O2 base kills rm T k=some r) :
  ∃S' vals hp,Cs base kills rm S=some S'∧AtHead T.n kills vals hp S'∧k vals hp=some r:=by
 unfold O2 at h;split at h
 ·refine ⟨⟨AY kills S.slots,T.hp⟩,_,_,?_,I2 hr kills T.hp,h⟩;simp [Cs,hr.hp]
 ·rename_i q rm;generalize hrm:q::rm=rm' at h ⊢;have hv:=I2 hr kills S.hp;unfold Bs at h;rw [← hr.hp] at h;cases hb:rm'.any base.contains with
  | true=>rw [hb] at h;cases h
  | false =>
   rw [hb] at h;obtain ⟨sl,hp0⟩:=S;obtain ⟨own,ext⟩:=hp0;simp only [cond] at h;have hsl:IV.refs.refsL ((CG T.n kills).map T.get)=IV.refs.refsL (AY kills sl):=by
    rw [hv.vals];exact Qt _ _ (by simpa using hv.len) (fun i hi hg=>hv.dead i hi (by simpa using hg))
   rw [Mj] at h;cases ha:(own.all fun p=>!rm'.contains p.1) with
   | true =>
    rw [ha] at h;refine ⟨⟨AY kills sl,⟨own,ext⟩⟩,_,_,?_,hv,h⟩;simp only [Cs,hb,Bool.false_eq_true,if_false,ha,if_true]
   | false =>
    rw [ha] at h;simp only [Bool.not_false] at h;cases hf:(and (FG rm' (Ct ((CG T.n kills).map T.get) [])) (and (Hh rm' own) (I8 rm' ext))) with
    | true =>
     rw [hf] at h;simp only at h;have hf:(FG rm' (Ct ((CG T.n kills).map T.get) []) && (Hh rm' own && I8 rm' ext))=true:=hf;simp only [Bool.and_eq_true] at hf;rw [Hm] at h;have h1:=FC hf.1;rw [refsDL_eq,List.append_nil,hsl] at h1;refine ⟨⟨AY kills sl,⟨own.filter fun p=>!rm'.contains p.1,ext⟩⟩,_,_,?_,I2 hr kills _,h⟩;rw [Hj hb ha,TU h1 hf.2.1 hf.2.2];rfl
    | false =>
     rw [hf] at h;simp only at h;split at h
     ·cases h
     ·rename_i S2 hd;rw [LQ] at h;exact ⟨⟨AY kills sl,S2.hp⟩,_,_,OQ (S1:=⟨sl,⟨own,ext⟩⟩) (sl:=(CG T.n kills).map T.get) hsl hb ha hd,I2 hr kills S2.hp,h⟩
theorem X5:∀(cs:List Nat) (vals:List IV) (T:FS) {K:FS→Option β},(∀i∈cs,i<T.n)→(∀i,i<T.n→T.t.has i=true)→Tn cs vals T K=some r →
  ∃T',T'.n=T.n∧T'.hp=T.hp∧(∀i,i<T.n→T'.t.has i=true)∧K T'=some r∧∀g:Nat→IV,vals=cs.map g→∀i,i<T.n→T'.t.get i=if i∈cs then g i else T.t.get i
 | [],vals,T,K,_,hh,h=>⟨T,rfl,rfl,hh,h,fun g _ i _=>by simp⟩
 | c::cs,vals,T,K,hc,hh,h=>by
  have h:AA vals (fun v vals=>Kp (some c) v T.hp T fun T=>Tn cs vals T K)=some r:=h;have eK:(fun (v:IV) vals=>Kp (some c) v T.hp T fun T=>Tn cs vals T K)=fun v vals=>Tn cs vals (Qm (some c) v T) K:=by
   funext v vals
   rw [NG,QC]
  rw [eK] at h;cases vals with
  | nil=>cases h
  | cons v vals =>
   have h:Tn cs vals (Qm (some c) v T) K=some r:=h;have hcn:c<T.n:=hc c List.mem_cons_self;have hput:Qm (some c) v T=⟨T.n,T.t.set c v,T.hp⟩:=by
    simp only [Qm];cases hb:Nat.ble T.n c with
    | true=>have:=Bn hb;omega
    | false=>rfl
   rw [hput] at h;obtain ⟨T',h1,h2,h3,h4,h5⟩:=X5 cs vals ⟨T.n,T.t.set c v,T.hp⟩ (fun i hi=>hc i (List.mem_cons_of_mem _ hi)) (fun i hi=>by rw [Yw];exact hh i hi) h;refine ⟨T',h1,h2,h3,h4,fun g hg i hi=>?_⟩;simp only [Axg,List.cons.injEq] at hg;rw [h5 g hg.2 i hi];by_cases hm:i∈cs
   ·rw [if_pos hm,if_pos (List.mem_cons_of_mem _ hm)]
   ·rw [if_neg hm];simp only;rw [Zx _ _ _ (hh c hcn)];by_cases e:i=c
    ·subst e;rw [if_pos rfl,if_pos List.mem_cons_self,hg.1]
    ·rw [if_neg e,if_neg (by simp [e,hm])]
theorem AjD {n:Nat} (hn:n≤1024) {kills:List Nat} {vals:List IV} {h:Hp} {S:St} (ha:AtHead n kills vals h S) {K:FS→Option β} (e:Tn (CG n kills) vals ⟨n,dT 10 0 n,h⟩ K=some r) :
  ∃T',T'.n=n∧Rep T' S∧K T'=some r:=by
 obtain ⟨T',h1,h2,h3,h4,h5⟩:=X5 (CG n kills) vals ⟨n,dT 10 0 n,h⟩ (fun i hi=>(OB.1 hi).1) (fun i hi=>(Ab0 10 0 n i (by simpa using hn) (Nat.zero_le _) (by simpa using hi)).1) e;refine ⟨T',h1,⟨by rw [ha.hp,h2],by rw [ha.len,h1],fun i hi=>h3 i (by rw [h1] at hi;exact hi),fun i hi=>?_⟩,h4⟩;rw [h1] at hi;rw [h5 _ ha.vals i hi];by_cases hm:i∈CG n kills
 ·rw [if_pos hm]
 ·rw [if_neg hm];have hk:i∈kills:=Classical.byContradiction fun hk=>hm (OB.2 ⟨hi,hk⟩);rw [ha.dead i hi hk];exact (Ab0 10 0 n i (by simpa using hn) (Nat.zero_le _) (by simpa using hi)).2
theorem AgR (hi:∀f args h x,ih' f args h=some x→ih f args h=some x) {n:Nat} {base:List Nat}:∀(c:Code) {T:FS} {S:St},Rep T S→T.n≤1024→∀{K:Ex→FS→Option β},FD E ih' f n base c T K=some r →
  ∃ex S' T',Dx E ih f n base c S=some (ex,S')∧Rep T' S'∧T'.n=T.n∧K ex T'=some r:=by
 intro c
 induction c with
 | skip=>intro T S hr _ K h;exact ⟨_,S,T,rfl,hr,rfl,h⟩
 | region rid ops d =>
  intro T S hr _ K h;simp only [FD,BD] at h;simp only [Dx];rw [List.range_eq_range'];cases d with
  | true =>
   obtain ⟨S',T',h1,h2,h3,h4⟩:=AdG hi ops.toList 0 rfl [] [] (fun x hx=>by cases hx) hr h;simp only [Array.length_toList] at h1;exact ⟨_,S',T',by simp only [if_true,h1,Axd],h2,h3,h4⟩
  | false =>
   obtain ⟨S',T',h1,h2,h3,h4⟩:=Ako hi ops.toList 0 rfl hr h;simp only [Array.length_toList] at h1;exact ⟨_,S',T',by simp only [Bool.false_eq_true,if_false,h1,Axd],h2,h3,h4⟩
 | seq x y ihx ihy =>
  intro T S hr hl K h;simp only [FD,BD] at h;obtain ⟨ex,S1,T1,h1,h2,hn,h3⟩:=ihx hr hl h;simp only [Dx,h1];cases ex with
  | normal =>
   obtain ⟨ex,S2,T2,h4,h5,hn2,h6⟩:=ihy h2 (by rw [hn];exact hl) h3;exact ⟨ex,S2,T2,h4,h5,hn2.trans hn,h6⟩
  | exit j=>exact ⟨_,_,_,rfl,h2,hn,h3⟩
  | ret=>exact ⟨_,_,_,rfl,h2,hn,h3⟩
 | cond c x y ihx ihy =>
  intro T S hr hl K h;simp only [FD,BD,LH hr] at h;obtain ⟨t,ht,h⟩:=SQ h;cases t with
  | true=>simp only [Dx,ht];exact ihx hr hl h
  | false=>simp only [Dx,ht];exact ihy hr hl h
 | block id x ihx =>
  intro T S hr hl K h;simp only [FD,BD] at h;obtain ⟨ex,S1,T1,h1,h2,hn,h3⟩:=ihx hr hl h;simp only [Dx,h1];cases ex with
  | normal=>exact ⟨_,_,_,rfl,h2,hn,h3⟩
  | exit j =>
   simp only [GW] at h3 ⊢;by_cases e:j=id
   ·rw [if_pos e] at h3;rw [if_pos e];exact ⟨_,_,_,rfl,h2,hn,h3⟩
   ·rw [if_neg e] at h3;rw [if_neg e];exact ⟨_,_,_,rfl,h2,hn,h3⟩
  | ret=>exact ⟨_,_,_,rfl,h2,hn,h3⟩
 | loop x ihx =>
  intro T S hr hl K h;simp only [FD,BD] at h;simp only [Dx];generalize (E.pol.head f (B5 x)).1=kills at h ⊢;generalize (E.pol.head f (B5 x)).2=rm at h ⊢;generalize hF:(fun (rec:List IV→Hp→Option β) vals h=>Tn (CG T.n kills) vals ⟨T.n,dT 10 0 T.n,h⟩ fun T=>FD E ih' f n base x T fun ex T=>match ex with
   | .normal=>O2 base kills rm T rec
   | .exit j=>K (.exit j) T
   | .ret=>K .ret T)=F at h
  have key:∀(k:Nat) (S1:St) (T1:FS),Rep T1 S1→T1.n=T.n→O2 base kills rm T1 (By k F)=some r →
    ∃ex S' T',iterate (Cs base kills rm) (Dx E ih f n base x) k S1=some (ex,S')∧Rep T' S'∧T'.n=T.n∧K ex T'=some r:=by
   intro k
   induction k with
   | zero =>
    intro S1 T1 hr1 hn1 h;obtain ⟨S2,vals,hp,_,_,h⟩:=S9 hr1 h;cases h
   | succ k ihk =>
    intro S1 T1 hr1 hn1 h;obtain ⟨S2,vals,hp,h1,h2,h⟩:=S9 hr1 h;have h:F (By k F) vals hp=some r:=h;rw [← hF] at h;rw [hn1] at h2;simp only at h;obtain ⟨T2,hn2,hr2,h⟩:=AjD hl h2 h;obtain ⟨ex,S3,T3,h3,hr3,hn3,h⟩:=ihx hr2 (by rw [hn2];exact hl) h;simp only [iterate,h1,Option.bind_some,h3];cases ex with
    | normal =>
     simp only at h;rw [hF] at h;exact ihk S3 T3 hr3 (hn3.trans hn2) h
    | exit j=>exact ⟨_,_,_,rfl,hr3,hn3.trans hn2,h⟩
    | ret=>exact ⟨_,_,_,rfl,hr3,hn3.trans hn2,h⟩
  exact key n S T hr rfl h
 | exit id=>intro T S hr _ K h;exact ⟨_,S,T,rfl,hr,rfl,h⟩
 | ret=>intro T S hr _ K h;exact ⟨_,S,T,rfl,hr,rfl,h⟩
 | _=>intro T S hr _ K h;simp only [FD,BD] at h;cases h
theorem AeZ {agg:Bool} {size:Nat} {a:IV} {hp:Hp} {k:IV→Option β} (h:As agg size a hp k=some r) :
  ∃v,(match a with
   | .ptr q off=>match hp.get q with
    | some (.row cells _)=>Ca agg size off cells
    | _=>none
   | .fv (.fp cells off)=>(Bt agg size off cells).map .fv
   | _=>none)=some v∧k v=some r:=by
 cases agg with
 | true =>
  have h:Ag size a hp (fun v _=>k v)=some r:=h;unfold Ag at h;rcases Dd h with ⟨q,o,rfl,g'⟩ | ⟨cs,o,rfl,g'⟩<;>replace h:=g'<;>clear g'
  ·rw [Er] at h;obtain ⟨b,hb,h⟩:=Bu h;obtain ⟨cells,ro,rfl,g'⟩:=GB h;replace h:=g';clear g';obtain ⟨h1,h2⟩:=O9 h;exact ⟨_,by simp only [hb,h1],h2⟩
  ·obtain ⟨h1,h2⟩:=Nc h;exact ⟨_,by simp only [h1,Axd],h2⟩
 | false =>
  have h:Ae a hp (fun v _=>k v)=some r:=h;unfold Ae at h;rcases Dd h with ⟨q,o,rfl,g'⟩ | ⟨cs,o,rfl,g'⟩<;>replace h:=g'<;>clear g'
  ·rw [Er] at h;obtain ⟨b,hb,h⟩:=Bu h;obtain ⟨cells,ro,rfl,g'⟩:=GB h;replace h:=g';clear g';rw [CT] at h;obtain ⟨v,hv,h⟩:=Bu h;exact ⟨_,by simp only [hb,Ca,Bool.false_eq_true,if_false,hv],h⟩
  ·rw [CT] at h;obtain ⟨v,hv,h⟩:=Bu h;exact ⟨_,by simp only [Bt,Bool.false_eq_true,if_false,hv,Axd],h⟩
theorem PI {T:FS} {S:St} (hr:Rep T S):∀(rs:List ResultVar) (acc:List IV) {k:List IV→Option β},AcM E T rs acc k=some r→∃vs,FY E S rs=some vs∧k (acc++vs)=some r
 | [],acc,k,h=>⟨[],rfl,by rw [List.append_nil];exact h⟩
 | .tmp t::rs,acc,k,h=>by
  have h:AcM E T rs (acc++[T.get t]) k=some r:=h;obtain ⟨vs,h1,h2⟩:=PI hr rs _ h;refine ⟨T.get t::vs,?_,by simpa using h2⟩;simp only [FY,Jx,Option.bind_some,h1,Axd,hr.at_]
 | .cell a t::rs,acc,k,h=>by
  have h:(match E.T t with
   | none=>none
   | some ti=>As ti.kind.isAgg ti.size (T.get a) T.hp fun v=>AcM E T rs (acc++[v]) k)=some r:=h
  cases ht:E.T t with
  | none=>rw [ht] at h;cases h
  | some ti =>
   rw [ht] at h;obtain ⟨v,h1,h⟩:=AeZ h;obtain ⟨vs,h2,h3⟩:=PI hr rs _ h;refine ⟨v::vs,?_,by simpa using h3⟩
   have:Jx E S (.cell a t)=some v:=by
    simp only [Jx,ht,← hr.at_,hr.hp];rw [← h1];cases T.get a with
    | fv w=>cases w<;>rfl
    | _=>rfl
   simp only [FY,this,Option.bind_some,h2,Axd]
theorem AkF {FT:Nat→Option Func} (hFT:∀f fn,FT f=some fn→E.P.funcs[f]?=some fn) {n:Nat} {sh:Aa} (hi:∀f args h x,sh f args h=some x→run E n f args h=some x) {args:List IV} {h:Hp} {x:IV×Hp}
  (e:Aw E sh FT n f args h=some x):run E (n+1) f args h=some x:=by
 unfold Aw at e;simp only [BD] at e;simp only [run];cases hf:FT f with
 | none=>rw [hf] at e;cases e
 | some fn =>
  rw [hf] at e;rw [hFT f fn hf];simp only at e ⊢;cases hc:fn.body with
  | none=>rw [hc] at e;cases e
  | some c =>
   rw [hc] at e;simp only at e ⊢;obtain ⟨hl,e⟩:=Ds e;rw [OW] at e;simp only [Bool.and_eq_true] at hl;have hl1:=Bn hl.1;have hl2:=Bn hl.2;have hrep0:Rep ⟨fn.ntmps,dT 10 0 fn.ntmps,h⟩ ⟨List.replicate fn.ntmps .dead,h⟩:=by
    refine ⟨rfl,by simp,fun i hi=>(Ab0 10 0 fn.ntmps i (by simpa using hl2) (Nat.zero_le _) (by simpa using hi)).1,fun i hi=>?_⟩;rw [(Ab0 10 0 fn.ntmps i (by simpa using hl2) (Nat.zero_le _) (by simpa using hi)).2,List.getD_eq_getElem?_getD,List.getElem?_replicate];simp [hi]
   obtain ⟨T0,h1,h2⟩:=AeF args 0 (K:=_) hrep0;rw [h1] at e;have hs:J9 args 0 (List.replicate fn.ntmps .dead)=args++List.replicate (fn.ntmps - args.length) .dead:=by
    apply List.ext_getElem?;intro j;rw [LS _ _ _ _ (by simpa using hl1)];by_cases hj:j<args.length
    ·rw [if_pos (by omega),List.getElem?_append_left hj];simp
    ·rw [if_neg (by omega),List.getElem?_append_right (by omega),List.getElem?_replicate,List.getElem?_replicate];by_cases hj2:j<fn.ntmps
     ·rw [if_pos hj2,if_pos (by omega)]
     ·rw [if_neg hj2,if_neg (by omega)]
   simp only [hs] at h2;have hT0:T0.n≤1024:=by
    have:=h2.len
    simp at this;omega
   obtain ⟨ex,S',T',h3,h4,_,h5⟩:=AgR hi c h2 hT0 e;rw [h3];have hres:(AcM E T' fn.results.toList [] fun vs=>Al vs T'.hp)=some x→(GK E S' fn.results.toList).map (fun v=>(v,S'.hp))=some x:=by
    intro h;obtain ⟨vs,h1,h⟩:=PI h4 _ _ h;rw [List.nil_append] at h;simp only [GK,h1,Axd,h4.hp]
    match vs,h with
    | [],h=>simp only [Al,Aaf] at h;exact h
    | [v],h=>exact h
    | v::w::l,h=>simp only [Al,Aaf] at h;exact h
   cases ex with
   | exit j=>cases h5
   | normal=>exact hres h5
   | ret=>exact hres h5
end
end Idl
end Go.Proofs.Ytkfecngimlcfoaa
namespace Go.Proofs.Ytkfecngimlcfoaa
namespace Idl
section
variable {β:Type}
def Uj {α:Type} (l:List α) (a:Option β):Option β:=List.casesOn (motive:=fun _=>Option β) l a fun _ _=>none
def ar0 (g:Hp→Option β) (args:List IV) (h:Hp):Option β:=Uj args (g h)
def Fa (g:IV→Hp→Option β) (args:List IV) (h:Hp):Option β:=AA args fun a l=>Uj l (g a h)
def CJ (g:IV→IV→Hp→Option β) (args:List IV) (h:Hp):Option β:=AA args fun a l=>AA l fun b l=>Uj l (g a b h)
def LP (g:IV→IV→IV→Hp→Option β) (args:List IV) (h:Hp):Option β:=AA args fun a l=>AA l fun b l=>AA l fun c l=>Uj l (g a b c h)
def Ly (g:IV→IV→IV→IV→Hp→Option β) (args:List IV) (h:Hp):Option β:=AA args fun a l=>AA l fun b l=>AA l fun c l=>AA l fun d l=>Uj l (g a b c d h)
def ar5 (g:IV→IV→IV→IV→IV→Hp→Option β) (args:List IV) (h:Hp):Option β:=AA args fun a l=>AA l fun b l=>AA l fun c l=>AA l fun d l=>AA l fun e l=>Uj l (g a b c d e h)
def ar6 (g:IV→IV→IV→IV→IV→IV→Hp→Option β) (args:List IV) (h:Hp):Option β:=AA args fun a l=>AA l fun b l=>AA l fun c l=>AA l fun d l=>AA l fun e l=>AA l fun f l=>Uj l (g a b c d e f h)
theorem B7 {α:Type} {l:List α} {k:α→List α→Option β} {r:β} (h:AA l k=some r):∃a t,l=a::t∧k a t=some r:=by
 cases l with
 | nil=>cases h
 | cons a t=>exact ⟨a,t,rfl,h⟩
theorem Jg {α:Type} {l:List α} {a:Option β} {r:β} (h:Uj l a=some r):l=[]∧a=some r:=by
 cases l with
 | nil=>exact ⟨rfl,h⟩
 | cons _ _=>cases h
variable {F:List IV→Hp→Option β} {args:List IV} {h:Hp} {r:β}
theorem Vj {g:Hp→Option β} (hg:∀h,F [] h=g h) (e:ar0 g args h=some r):F args h=some r:=by
 obtain ⟨rfl,e9⟩:=Jg e;rw [hg];exact e9
theorem BH {g:IV→Hp→Option β} (hg:∀a h,F [a] h=g a h) (e:Fa g args h=some r):F args h=some r:=by
 obtain ⟨a,l1,rfl,e1⟩:=B7 e;obtain ⟨rfl,e9⟩:=Jg e1;rw [hg];exact e9
theorem A7 {g:IV→IV→Hp→Option β} (hg:∀a b h,F [a,b] h=g a b h) (e:CJ g args h=some r):F args h=some r:=by
 obtain ⟨a,l1,rfl,e1⟩:=B7 e;obtain ⟨b,l2,rfl,e2⟩:=B7 e1;obtain ⟨rfl,e9⟩:=Jg e2;rw [hg];exact e9
theorem Ef {g:IV→IV→IV→Hp→Option β} (hg:∀a b c h,F [a,b,c] h=g a b c h) (e:LP g args h=some r):F args h=some r:=by
 obtain ⟨a,l1,rfl,e1⟩:=B7 e;obtain ⟨b,l2,rfl,e2⟩:=B7 e1;obtain ⟨c,l3,rfl,e3⟩:=B7 e2;obtain ⟨rfl,e9⟩:=Jg e3;rw [hg];exact e9
theorem Dq {g:IV→IV→IV→IV→Hp→Option β} (hg:∀a b c d h,F [a,b,c,d] h=g a b c d h) (e:Ly g args h=some r):F args h=some r:=by
 obtain ⟨a,l1,rfl,e1⟩:=B7 e;obtain ⟨b,l2,rfl,e2⟩:=B7 e1;obtain ⟨c,l3,rfl,e3⟩:=B7 e2;obtain ⟨d,l4,rfl,e4⟩:=B7 e3;obtain ⟨rfl,e9⟩:=Jg e4;rw [hg];exact e9
theorem Aud {g:IV→IV→IV→IV→IV→Hp→Option β} (hg:∀a b c d x h,F [a,b,c,d,x] h=g a b c d x h) (e:ar5 g args h=some r):F args h=some r:=by
 obtain ⟨a,l1,rfl,e1⟩:=B7 e;obtain ⟨b,l2,rfl,e2⟩:=B7 e1;obtain ⟨c,l3,rfl,e3⟩:=B7 e2;obtain ⟨d,l4,rfl,e4⟩:=B7 e3;obtain ⟨x,l5,rfl,e5⟩:=B7 e4;obtain ⟨rfl,e9⟩:=Jg e5;rw [hg];exact e9
theorem AtG {g:IV→IV→IV→IV→IV→IV→Hp→Option β} (hg:∀a b c d x y h,F [a,b,c,d,x,y] h=g a b c d x y h) (e:ar6 g args h=some r):F args h=some r:=by
 obtain ⟨a,l1,rfl,e1⟩:=B7 e;obtain ⟨b,l2,rfl,e2⟩:=B7 e1;obtain ⟨c,l3,rfl,e3⟩:=B7 e2;obtain ⟨d,l4,rfl,e4⟩:=B7 e3;obtain ⟨x,l5,rfl,e5⟩:=B7 e4;obtain ⟨y,l6,rfl,e6⟩:=B7 e5;obtain ⟨rfl,e9⟩:=Jg e6;rw [hg];exact e9
end
abbrev Sh:=Aa→Nat→List IV→Hp→Option (IV×Hp)
inductive DT where
 | nil
 | leaf (f:Nat) (g:Sh)
 | node (m:Nat) (l r:DT)
def DT.call (t:DT):Nat→Sh :=
 DT.rec (motive:=fun _=>Nat→Sh) (fun _ _ _ _ _=>none) (fun f g i=>cond (Nat.beq i f) g fun _ _ _ _=>none) (fun m _ _ gl gr i=>cond (Nat.ble m i) (gr i) (gl i)) t
def SS (t:DT) (n:Nat):Aa:=Nat.rec (motive:=fun _=>Aa) (fun _ _ _=>none) (fun n ih f args h=>t.call f ih n args h) n
def Ash (E:Env) (FT:Nat→Option Func) (f:Nat) (g:Sh):Prop:=∀ih n args h x,g ih n args h=some x→Aw E ih FT n f args h=some x
def DT.Ok (E:Env) (FT:Nat→Option Func):DT→Prop
 | .nil=>True
 | .leaf f g=>Ash E FT f g
 | .node _ l r=>l.Ok E FT∧r.Ok E FT
theorem DT.call_ok {E:Env} {FT:Nat→Option Func} {t:DT} (ht:t.Ok E FT):∀f,Ash E FT f (t.call f):=by
 induction t with
 | nil=>intro f ih n args h x e;cases e
 | leaf j g =>
  intro f ih n args h x e;have e:(cond (Nat.beq f j) g fun _ _ _ _=>none) ih n args h=some x:=e;cases hb:Nat.beq f j with
  | false=>rw [hb] at e;cases e
  | true=>rw [hb] at e;rw [Dv hb];exact ht ih n args h x e
 | node m l r ihl ihr =>
  intro f ih n args h x e;have e:(cond (Nat.ble m f) (r.call f) (l.call f)) ih n args h=some x:=e;cases hb:Nat.ble m f with
  | true=>rw [hb] at e;exact ihr ht.2 f ih n args h x e
  | false=>rw [hb] at e;exact ihl ht.1 f ih n args h x e
theorem ArX {E:Env} {FT:Nat→Option Func} (hFT:∀f fn,FT f=some fn→E.P.funcs[f]?=some fn) {t:DT} (ht:t.Ok E FT):∀n f args h x,SS t n f args h=some x→run E n f args h=some x:=by
 intro n
 induction n with
 | zero=>intro f args h x e;cases e
 | succ n ihn=>intro f args h x e;exact AkF hFT ihn (DT.call_ok ht f _ _ _ _ _ e)
end Idl
end Go.Proofs.Ytkfecngimlcfoaa

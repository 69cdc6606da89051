/-
  Texts of a proof, part 7: an ideal semantics of the program, its functions in shallow form, contracts of them. No statement of the seat is proved here.
-/
import Derived.Test.YtaifgaidaglblaaChecked
import Derived.KernelRfl
import Derived.Test.YtaifgaidaglblaaEqualEtaK6
set_option linter.all false
noncomputable section
namespace Go.Proofs.Ytaifgaidaglblaa
namespace Idl
def tab:TTree :=
 .node 65 (.node 16 (.node 9 (.node 4 (.node 3 (.leaf 2 ⟨1,8,.int .i64,[.fv (.int .i64 0)]⟩)
 (.leaf 3 ⟨1,8,.int .i64,[.fv (.int .i64 0)]⟩))
 (.node 6 (.leaf 4 ⟨1,1,.bool,[.fv (.bool false)]⟩)
 (.node 8 (.leaf 6 ⟨1,1,.int .u8,[.fv (.int .u8 0)]⟩)
 (.leaf 8 ⟨4,24,.struct [(0,2),(1,3),(2,4),(3,6)],[.fv (.int .i64 0),.fv (.int .i64 0),.fv (.bool false),.fv (.int .u8 0)]⟩))))
 (.node 12 (.node 10 (.leaf 9 ⟨1,16,.str,[.fv (.str .empty)]⟩)
 (.node 11 (.leaf 10 ⟨1,16,.str,[.fv (.str .empty)]⟩)
 (.leaf 11 ⟨1,16,.str,[.fv (.str .empty)]⟩)))
 (.node 14 (.leaf 12 ⟨1,8,.int .u64,[.fv (.int .u64 0)]⟩)
 (.node 15 (.leaf 14 ⟨2,24,.struct [(0,9),(1,12)],[.fv (.str .empty),.fv (.int .u64 0)]⟩)
 (.leaf 15 ⟨1,8,.ptr,[.fv (.nilp)]⟩)))))
 (.node 28 (.node 19 (.node 17 (.leaf 16 ⟨1,8,.ptr,[.fv (.nilp)]⟩)
 (.leaf 17 ⟨1,8,.ptr,[.fv (.nilp)]⟩))
 (.node 22 (.leaf 19 ⟨1,8,.struct [(0,17)],[.fv (.nilp)]⟩)
 (.node 24 (.leaf 22 ⟨1,24,.slice 24,[.nils]⟩)
 (.leaf 24 ⟨3,40,.struct [(0,3),(1,3),(2,22)],[.fv (.int .i64 0),.fv (.int .i64 0),.nils]⟩))))
 (.node 37 (.node 29 (.leaf 28 ⟨1,24,.slice 77,[.nils]⟩)
 (.node 31 (.leaf 29 ⟨1,24,.slice 31,[.nils]⟩)
 (.leaf 31 ⟨3,40,.struct [(0,3),(1,3),(2,29)],[.fv (.int .i64 0),.fv (.int .i64 0),.nils]⟩)))
 (.node 56 (.leaf 37 ⟨1,8,.int .i64,[.fv (.int .i64 0)]⟩)
 (.node 60 (.leaf 56 ⟨1,8,.func,[.fv (.nilf)]⟩)
 (.leaf 60 ⟨1,8,.func,[.fv (.nilf)]⟩))))))
 (.node 98 (.node 80 (.node 71 (.node 69 (.leaf 65 ⟨4,48,.struct [(0,31),(3,37)],[.fv (.int .i64 0),.fv (.int .i64 0),.nils,.fv (.int .i64 0)]⟩)
 (.leaf 69 ⟨1,8,.ptr,[.fv (.nilp)]⟩))
 (.node 73 (.leaf 71 ⟨3,24,.struct [(0,3),(1,3),(2,3)],[.fv (.int .i64 0),.fv (.int .i64 0),.fv (.int .i64 0)]⟩)
 (.node 77 (.leaf 73 ⟨1,8,.ptr,[.fv (.nilp)]⟩)
 (.leaf 77 ⟨4,48,.struct [(0,3),(1,31)],[.fv (.int .i64 0),.fv (.int .i64 0),.fv (.int .i64 0),.nils]⟩))))
 (.node 89 (.node 82 (.leaf 80 ⟨1,8,.ptr,[.fv (.nilp)]⟩)
 (.node 87 (.leaf 82 ⟨2,16,.struct [(0,3),(1,3)],[.fv (.int .i64 0),.fv (.int .i64 0)]⟩)
 (.leaf 87 ⟨1,24,.slice 73,[.nils]⟩)))
 (.node 92 (.leaf 89 ⟨7,104,.struct [(0,3),(1,3),(2,87),(3,87),(4,31)],[.fv (.int .i64 0),.fv (.int .i64 0),.nils,.nils,.fv (.int .i64 0),.fv (.int .i64 0),.nils]⟩)
 (.node 96 (.leaf 92 ⟨1,24,.slice 3,[.nils]⟩)
 (.leaf 96 ⟨1,8,.ptr,[.fv (.nilp)]⟩)))))
 (.node 110 (.node 105 (.node 100 (.leaf 98 ⟨1,8,.ptr,[.fv (.nilp)]⟩)
 (.node 102 (.leaf 100 ⟨1,8,.map 3 107,[.dead]⟩)
 (.leaf 102 ⟨5,40,.struct [(0,3),(1,3),(2,3),(3,37),(4,100)],[.fv (.int .i64 0),.fv (.int .i64 0),.fv (.int .i64 0),.fv (.int .i64 0),.dead]⟩)))
 (.node 107 (.leaf 105 ⟨1,8,.func,[.fv (.nilf)]⟩)
 (.node 108 (.leaf 107 ⟨1,8,.struct [(0,105)],[.fv (.nilf)]⟩)
 (.leaf 108 ⟨1,8,.ptr,[.fv (.nilp)]⟩))))
 (.node 118 (.node 112 (.leaf 110 ⟨1,24,.slice 98,[.nils]⟩)
 (.node 116 (.leaf 112 ⟨7,88,.struct [(0,3),(1,3),(2,110),(3,31),(6,108)],[.fv (.int .i64 0),.fv (.int .i64 0),.nils,.fv (.int .i64 0),.fv (.int .i64 0),.nils,.fv (.nilp)]⟩)
 (.leaf 116 ⟨2,16,.struct [(0,98),(1,108)],[.fv (.nilp),.fv (.nilp)]⟩)))
 (.node 123 (.leaf 118 ⟨1,8,.int .i64,[.fv (.int .i64 0)]⟩)
 (.node 133 (.leaf 123 ⟨1,8,.func,[.fv (.nilf)]⟩)
 (.leaf 133 ⟨1,1,.int .u8,[.fv (.int .u8 0)]⟩))))))
def Aly:List (Nat×List Bool):=[(41,[true,false,false,false]),(42,[true,false,false]),(52,[true,false,false]),(59,[true,false]),(65,[true,false,false]),(66,[true,false,false,false]),(70,[true]),(72,[true,false]),(73,[true,false]),(74,[true,false]),(75,[true,false]),(76,[true,false]),(77,[true]),(80,[true,false]),(81,[true,false,false,false])]
def Akq:List (Nat×Nat×List Nat×List Nat):=[(8,7,[2,3,4,8,9,10,11,12,13,14,15,16,17,18,19,20,21,22,23,24,25,26,27,28,29,30,31,32,33,34,35,36,37,38,39,40,41,42,43,44,45,46,47,48,49,50,51,52,53,54,55,56,57,58,59,60,61,62,63,64,65,66,67,68,69,70,71,72,73,74,75,76,77,78,79,80,81,82,83,84,85,86,87,88,89,90,91,92,93,94,95,96,97,98,99,100,101,102],[]),
 (11,2,[1,2,4,5,6,7,8,9,10,11,12,13,14,15,16,17,18],[]),
 (18,3,[0,2,5,6,7,8,9,10,11,12,13,14,15,16,17,18,19,20],[]),
 (20,3,[1,2,5,6,7,8,9,10,11,12,13,14,15,16,17,18,19,20,21,22,23,24,25,26,27,28,29,30,31,32,33,34,35,36,37,38,39,40,41,42,43,44,45,46],[20977674]),
 (25,5,[0,4,5,9,10,11,12,13,14,15,16,17,18,19,20,21,22,23,24,25,26,27,28,29,30,31,32,33,34,35,36,37,38,39,40,41,42,43,44,45,46,47,48,49,50,51,52,53],[26221584]),
 (29,3,[1,5,6,7,8,9,10,11,12,13,14],[]),
 (33,3,[0,3,4,7,8,9,10,11,12,13,14,15,16,17,18,19,20,21,22,23,24,25,26,27,28,29,30],[]),
 (37,4,[0,1,4,6,7,8,9,10,11,12,13,14,15,16,17,18,19,20,21,22,23,24,25,26,27,28,29,30,31,32,33,34,35,36,37,38,39,40,41,42,43,44,45],[]),
 (38,3,[0,5,6,7,8,9,10,11,12,13,14,15,16,17,18,19,20,21,22,23,24,25,26,27,28,29,30,31,32,33,34,35,36,37,38,39,40,41,42,43,44,45,46,47,48,49,50,51,52,53,54,55,56,57,58,59,60,61,62,63,64,65,66,67,68,69,70,71,72,73,74,75,76,77,78,79,80,81,82,83,84,85,86,87,88,89,90,91,92,93,94,95,96,97,98,99,100,101,102,103,104,105,106,107,108,109,110,111,112,113,114,115,116,117,118,119,120,121,122,123,124,125,126,127,128,129,130],[39851014,39854084]),
 (41,10,[4,5,6,7,11,12,13,14,15,16,17,18,19,20,21,22,23,24,25,26,27,28,29,30,31,32,33,34,35,36,37,38,39,40,41,42,43,44,45,46,47,48,49,50,51,52,53,54,55,56,57,58,59,60,61,62,63,64,65,66,67,68,69,70,71,72,73,74,75,76,77,78,79,80,81,82,83,84,85,86,87,88,89,90,91,92,93,94,95,96,97,98,99,100,101,102,103,104,105,106,107,108,109,110,111,112,113,114,115,116,117,118,119,120,121,122,123,124,125,126,127,128,129,130],[43011077,43013131]),
 (41,17,[4,5,6,7,15,16,17,18,19,20,21,22,23,24,25,26,27,28,29,30,31,32,33,34,35,36,37,38,39,40,41,42,43,44,45,46,47,48,49,50,51,52,53,54,55,56,57,58,59,60,61,62,63,64,65,66,67,68,69,70,71,72,73,74,75,76,77,78,79,80,81,82,83,84,85,86,87,88,89,90,91,92,93,94,95,96,97,98,99,100,101,102,103,104,105,106,107,108,109,110,111,112,113,114,115,116,117,118,119,120,121,122,123,124,125,126,127,128,129,130],[43011077]),
 (42,9,[1,3,5,6,9,10,11,12,13,14,15,16,17,18,19,20,21,22,23,24,25,26,27,28,29,30,31,32,33,34,35,36,37,38,39,40,41,42,43,44,45,46,47,48,49,50,51,52,53,54,55,56,57,58,59,60,61,62,63,64,65,66,67,68,69,70,71,72,73,74,75,76,77,78,79,80,81,82,83,84,85,86,87,88,89,90,91,92,93,94,95],[44052492,44052494,44053518]),
 (47,3,[2,4,5,7,9,12,13,14,15,16,17,18,19,20,21,22,23,24,25,26,27,28,29,30,31,32,33,34,35,36,37,38,39,40,41,42,43,44,45,46,47,48,49,50,51,52,53,54,55,56,57,58,59,60,61,62,63,64,65,66,67,68,69,70,71],[49289232,49291267]),
 (52,7,[1,3,5,7,8,9,10,11,12,13,14,15,16,17,18,19,20,21,22,23,24,25,26,27,28,29,30,31,32,33,34,35,36,37,38,39,40,41,42,43,44,45,46,47,48,49,50,51,52,53,54,55,56,57,58,59,60,61,62,63,64,65,66,67,68],[]),
 (54,4,[0,3,4,6,7,8,9,10,11,12,13,14,15,16,17,18,19,20,21,22,23,24,25,26,27,28,29,30,31],[]),
 (60,9,[0,3,5,6,11,12,13,14,15,16,17,18,19,20,21,22,23,24,25,26,27,28,29,30,31,32,33,34,35,36,37,38,39,40,41,42,43,44,45,46,47,48,49,50,51,52,53,54,55,56,57,58,59,60,61,62,63,64,65,66,67],[62926864]),
 (63,5,[0,1,2,3,4,5,6,7,8,9,10,11,12,13,14,15,16,17,18,19,20,21,22,23,24,25,26,27,28,32,33,34,35,36,37,38],[66066434]),
 (65,8,[2,3,4,6,8,9,10,11,12,13,14,15,16,17,18,19,20,21,22,23,24,25,26,27,28,29,30,31,32,33,34,35,36,37,41,42,43,44,45,46,47,48,49,50,51,52,53,54,55,56,57,58,59,60,61,62,63,64,65,66,67,68,69],[68166659]),
 (66,11,[4,5,6,7,10,11,12,13,14,15,16,17,18,19,20,21,22,23,24,25,26,27,28,29,30,31,32,33,34,35,36,37,38,39,40,41,42,43,44,45,46,47,48,49,50,51,52,53,54,55,56,57,58,59,60,61,62,63,64,65,66,67,68,71,72,73,74,75,76,77,78,79,80,81,82,83,84,85,86,87,88,89,90,91,92,93,94,95,96,97,98,99,100,101,102,103,104,105,106,107,108,109,110,111,112,113,114,115,116,117,118,119,120,121,122,123,124,125,126,127,128,129,130,131,132,133,134,135,136],[69221377,69225478]),
 (66,17,[4,5,6,7,11,14,15,16,17,18,19,20,21,22,23,24,25,26,27,28,29,30,31,32,33,34,35,36,37,38,39,40,41,42,43,44,45,46,47,48,49,50,51,52,53,54,55,56,57,58,59,60,61,62,63,64,65,66,67,68,71,72,73,74,75,76,77,78,79,80,81,82,83,84,85,86,87,88,89,90,93,94,95,96,97,98,99,100,101,102,103,104,105,106,107,108,109,110,111,112,113,114,115,116,117,118,119,120,121,122,123,124,125,126,127,128,129,130,131,132,133,134,135,136],[69225478]),
 (67,3,[0,4,5,6,7,8,9,10,14,15,16,17,18,19,20,21,22,23,24,25,26,27,28,29],[70258691]),
 (68,3,[0,4,5,6,7,8,9,10,11,12,13,14,15,19,20,21,22,23,24,25,26,27,28,29,30,31,32,33,34,35,36,37,38,39,40,41,42,43,44,45,46,47,48],[71307267]),
 (69,4,[0,3,4,5,6,7,8,9,10,11,12,13,14,18,19,20,21,22,23,24,25,26,27,28,29,30,31],[72356867,72357892]),
 (78,1,[2,3,4,5,6,7,8,9,10,11,12,13,14,15,16,17,18,19,20,21,22],[]),
 (86,2,[1,2,3,4,5,6,10,11,12,13,14,15,16,17,18],[90181635]),
 (89,4,[0,4,5,6,7,8,9,10,11,12,13,14,15,16,17,21,22,23,24,25,26,27,28,29,30,31,32,33,34],[93328387]),
 (91,5,[0,4,5,8,9,10,11,12,13,14,15,16,17,18,19,20,21,25,26,27,28,29,30,31,32,33,34,35,36,37,38,39,40,41,42,43,44,45,46,47],[95426563])]
def WD (l:List Nat) (f:Nat):Bool:=l.any fun g=>Nat.beq g f
def Ai2 (f:Nat):List (Nat×List Bool)→List Bool
 | []=>[]
 | (g,k)::l=>if Nat.beq g f then k else Ai2 f l
def Ago (f r:Nat):List (Nat×Nat×List Nat×List Nat)→List Nat×List Nat
 | []=>([],[])
 | (g,q,k)::l=>if Nat.beq g f && Nat.beq q r then k else Ago f r l
def pol:Pol where
 inl:=WD [64]
 keep:=fun f=>Ai2 f Aly
 raw:=WD [64]
 head:=fun f r=>Ago f r Akq
 rowApp:=fun f _ _=>WD [] f
 fzBox:=fun f _ _=>WD [41,66,86] f
 split:=WD []
def EE:Env:=⟨Try.prog,tab.get,pol⟩
set_option maxRecDepth 100000 in
theorem Ane:tab.leaves.map (fun p=>AjB Try.prog p.1)=tab.leaves.map (fun p=>some p.2):=by kernel_rfl
theorem AhC:Try.prog.follows .mixedOrders=true:=by kernel_rfl
theorem Aij:Abr Try.prog=true:=by kernel_rfl
theorem AiE:Aek Try.prog=true:=by kernel_rfl
def ft:FTr :=
 .node 49 (.node 25 (.node 13 (.node 7 (.node 4 (.node 3 (.leaf 2 Try.f2)
 (.leaf 3 Try.f3))
 (.node 5 (.leaf 4 Try.f4)
 (.node 6 (.leaf 5 Try.f5)
 (.leaf 6 Try.f6))))
 (.node 10 (.node 8 (.leaf 7 Try.f7)
 (.node 9 (.leaf 8 Try.f8)
 (.leaf 9 Try.f9)))
 (.node 11 (.leaf 10 Try.f10)
 (.node 12 (.leaf 11 Try.f11)
 (.leaf 12 Try.f12)))))
 (.node 19 (.node 16 (.node 14 (.leaf 13 Try.f13)
 (.node 15 (.leaf 14 Try.f14)
 (.leaf 15 Try.f15)))
 (.node 17 (.leaf 16 Try.f16)
 (.node 18 (.leaf 17 Try.f17)
 (.leaf 18 Try.f18))))
 (.node 22 (.node 20 (.leaf 19 Try.f19)
 (.node 21 (.leaf 20 Try.f20)
 (.leaf 21 Try.f21)))
 (.node 23 (.leaf 22 Try.f22)
 (.node 24 (.leaf 23 Try.f23)
 (.leaf 24 Try.f24))))))
 (.node 37 (.node 31 (.node 28 (.node 26 (.leaf 25 Try.f25)
 (.node 27 (.leaf 26 Try.f26)
 (.leaf 27 Try.f27)))
 (.node 29 (.leaf 28 Try.f28)
 (.node 30 (.leaf 29 Try.f29)
 (.leaf 30 Try.f30))))
 (.node 34 (.node 32 (.leaf 31 Try.f31)
 (.node 33 (.leaf 32 Try.f32)
 (.leaf 33 Try.f33)))
 (.node 35 (.leaf 34 Try.f34)
 (.node 36 (.leaf 35 Try.f35)
 (.leaf 36 Try.f36)))))
 (.node 43 (.node 40 (.node 38 (.leaf 37 Try.f37)
 (.node 39 (.leaf 38 Try.f38)
 (.leaf 39 Try.f39)))
 (.node 41 (.leaf 40 Try.f40)
 (.node 42 (.leaf 41 Try.f41)
 (.leaf 42 Try.f42))))
 (.node 46 (.node 44 (.leaf 43 Try.f43)
 (.node 45 (.leaf 44 Try.f44)
 (.leaf 45 Try.f45)))
 (.node 47 (.leaf 46 Try.f46)
 (.node 48 (.leaf 47 Try.f47)
 (.leaf 48 Try.f48)))))))
 (.node 72 (.node 60 (.node 54 (.node 51 (.node 50 (.leaf 49 Try.f49)
 (.leaf 50 Try.f50))
 (.node 52 (.leaf 51 Try.f51)
 (.node 53 (.leaf 52 Try.f52)
 (.leaf 53 Try.f53))))
 (.node 57 (.node 55 (.leaf 54 Try.f54)
 (.node 56 (.leaf 55 Try.f55)
 (.leaf 56 Try.f56)))
 (.node 58 (.leaf 57 Try.f57)
 (.node 59 (.leaf 58 Try.f58)
 (.leaf 59 Try.f59)))))
 (.node 66 (.node 63 (.node 61 (.leaf 60 Try.f60)
 (.node 62 (.leaf 61 Try.f61)
 (.leaf 62 Try.f62)))
 (.node 64 (.leaf 63 Try.f63)
 (.node 65 (.leaf 64 Try.f64)
 (.leaf 65 Try.f65))))
 (.node 69 (.node 67 (.leaf 66 Try.f66)
 (.node 68 (.leaf 67 Try.f67)
 (.leaf 68 Try.f68)))
 (.node 70 (.leaf 69 Try.f69)
 (.node 71 (.leaf 70 Try.f70)
 (.leaf 71 Try.f71))))))
 (.node 84 (.node 78 (.node 75 (.node 73 (.leaf 72 Try.f72)
 (.node 74 (.leaf 73 Try.f73)
 (.leaf 74 Try.f74)))
 (.node 76 (.leaf 75 Try.f75)
 (.node 77 (.leaf 76 Try.f76)
 (.leaf 77 Try.f77))))
 (.node 81 (.node 79 (.leaf 78 Try.f78)
 (.node 80 (.leaf 79 Try.f79)
 (.leaf 80 Try.f80)))
 (.node 82 (.leaf 81 Try.f81)
 (.node 83 (.leaf 82 Try.f82)
 (.leaf 83 Try.f83)))))
 (.node 90 (.node 87 (.node 85 (.leaf 84 Try.f84)
 (.node 86 (.leaf 85 Try.f85)
 (.leaf 86 Try.f86)))
 (.node 88 (.leaf 87 Try.f87)
 (.node 89 (.leaf 88 Try.f88)
 (.leaf 89 Try.f89))))
 (.node 93 (.node 91 (.leaf 90 Try.f90)
 (.node 92 (.leaf 91 Try.f91)
 (.leaf 92 Try.f92)))
 (.node 94 (.leaf 93 Try.f93)
 (.node 95 (.leaf 94 Try.f94)
 (.leaf 95 Try.f95)))))))
theorem ArE:∀f fn,ft.get f=some fn→EE.P.funcs[f]?=some fn:=FTr.ok (by kernel_rfl)
theorem AqH:EnvOk EE:=ApO Ane AhC Aij AiE
section lists
variable {α β:Type}
def Ds (l:List α) (i:Nat) (k:α→Option β):Option β :=
 List.rec (motive:=fun _=>Nat→Option β) (fun _=>none) (fun x _ ih i=>Nat.rec (motive:=fun _=>Option β) (k x) (fun p _=>ih p) i) l i
theorem C3 (l:List α) (i:Nat) (k:α→Option β):Ds l i k=(l[i]?).bind k:=by
 induction l generalizing i with
 | nil=>rfl
 | cons x l ih=>cases i with
  | zero=>rfl
  | succ i=>exact ih i
def FY (l:List α) (n:Nat) (k:List α→Option β):Option β :=
 List.rec (motive:=fun _=>Nat→Option β) (fun n=>Nat.rec (motive:=fun _=>Option β) (k []) (fun _ _=>none) n) (fun x t ih n=>Nat.rec (motive:=fun _=>Option β) (k (x::t)) (fun p _=>ih p) n) l n
theorem K7 (l:List α) (n:Nat) (k:List α→Option β):FY l n k=if n≤l.length then k (l.drop n) else none:=by
 induction l generalizing n with
 | nil=>cases n with
  | zero=>rfl
  | succ n=>rw [if_neg (by simp)];rfl
 | cons x l ih=>cases n with
  | zero=>rw [if_pos (Nat.zero_le _)];rfl
  | succ n=>rw [show FY (x::l) (n+1) k=FY l n k from rfl,ih];simp
def Gh (l:List α) (n:Nat) (k:List α→Option β):Option β :=
 List.rec (motive:=fun _=>Nat→(List α→Option β)→Option β) (fun n k=>Nat.rec (motive:=fun _=>Option β) (k []) (fun _ _=>none) n)
  (fun x _ ih n k=>Nat.rec (motive:=fun _=>Option β) (k []) (fun p _=>ih p fun xs=>k (x::xs)) n) l n k
theorem Ll (l:List α) (n:Nat) (k:List α→Option β):Gh l n k=if n≤l.length then k (l.take n) else none:=by
 induction l generalizing n k with
 | nil=>cases n with
  | zero=>rfl
  | succ n=>rw [if_neg (by simp)];rfl
 | cons x l ih=>cases n with
  | zero=>rw [if_pos (Nat.zero_le _)];rfl
  | succ n=>rw [show Gh (x::l) (n+1) k=Gh l n (fun xs=>k (x::xs)) from rfl,ih];simp
def Q1 (l:List α) (j:Nat) (b:α) (k:List α→Option β):Option β :=
 List.rec (motive:=fun _=>Nat→(List α→Option β)→Option β) (fun _ k=>k []) (fun x t ih j k=>Nat.rec (motive:=fun _=>Option β) (k (b::t)) (fun p _=>ih p fun xs=>k (x::xs)) j) l j k
theorem Ain (l:List α) (j:Nat) (b:α) (k:List α→Option β):Q1 l j b k=k (l.set j b):=by
 induction l generalizing j k with
 | nil=>rfl
 | cons x l ih=>cases j with
  | zero=>rfl
  | succ j=>rw [show Q1 (x::l) (j+1) b k=Q1 l j b (fun xs=>k (x::xs)) from rfl,ih];rfl
def Aw (l:List α) (k:α→List α→Option β):Option β:=List.casesOn (motive:=fun _=>Option β) l none k
end lists
section
variable {α:Type}
def fRf (r:Ref) (k:Ref→α):α:=match r with
 | .own n=>D7 n fun n=>k (.own n)
 | .ext n=>D7 n fun n=>k (.ext n)
theorem OT (r:Ref) (k:Ref→α):fRf r k=k r:=by cases r<;>simp [fRf,BT]
def fV:Nat→IV→(IV→α)→α
 | 0,v,k=>k v
 | d+1,v,k=>match v with
  | .dead=>k .dead
  | .fv v=>fFV d v fun v=>k (.fv v)
  | .ptr r o=>fRf r fun r=>D7 o fun o=>k (.ptr r o)
  | .slc r sz n=>fRf r fun r=>D7 sz fun sz=>D7 n fun n=>k (.slc r sz n)
  | .nils=>k .nils
  | .emp=>k .emp
  | .clip es=>fL (fFV d) es fun es=>k (.clip es)
  | .app r es=>fRf r fun r=>fL (fFV d) es fun es=>k (.app r es)
  | .func fn a b=>fL (fV d) a fun a=>fL (fV d) b fun b=>k (.func fn a b)
  | .agg cs=>fL (fV d) cs fun cs=>k (.agg cs)
  | .tuple cs=>fL (fV d) cs fun cs=>k (.tuple cs)
  | .mapr r=>fRf r fun r=>k (.mapr r)
theorem CB:∀(d:Nat) (v:IV) (k:IV→α),fV d v k=k v
 | 0,_,_=>rfl
 | d+1,v,k=>by cases v<;>simp [fV,E8 (CB d),E8 (Pk d),Pk,BT,OT]
def fBk (b:Blk) (k:Blk→α):α:=match b with
 | .row cs ro=>fL (fV 3) cs fun cs=>k (.row cs ro)
 | .tok n sz=>D7 n fun n=>D7 sz fun sz=>k (.tok n sz)
 | .map es=>fL (fun (p:Int×IV) k=>match p with | (n,v)=>Ala n fun n=>fV 4 v fun v=>k (n,v)) es fun es=>k (.map es)
theorem C8 (b:Blk) (k:Blk→α):fBk b k=k b:=by
 cases b with
 | row cs ro=>simp only [fBk];rw [E8 (CB 3)]
 | tok n sz=>simp only [fBk];rw [BT,BT]
 | map es =>
  simp only [fBk];rw [E8];rintro ⟨n,v⟩ k;simp only;rw [Adv,CB]
def fOw (p:Nat×Blk) (k:Nat×Blk→α):α:=match p with | (n,b)=>D7 n fun n=>fBk b fun b=>k (n,b)
theorem Aok (p:Nat×Blk) (k:Nat×Blk→α):fOw p k=k p:=by
 obtain ⟨n,b⟩:=p;simp only [fOw];rw [BT,C8]
def fH (h:Hp) (k:Hp→α):α:=match h with | ⟨own,ext⟩=>fL fOw own fun own=>fL fBk ext fun ext=>k ⟨own,ext⟩
theorem ON (h:Hp) (k:Hp→α):fH h k=k h:=by
 obtain ⟨a,b⟩:=h;simp only [fH];rw [E8 Aok,E8 C8]
end
section
variable {β:Type}
def Fs (l:List (Nat×Blk)) (s:Nat) (k:Blk→Option β):Option β :=
 List.rec (motive:=fun _=>Option β) none (fun p _ ih=>match p with | (j,b)=>cond (Nat.beq s j) (k b) ih) l
theorem Hj {α:Type} (a b:Nat) (x y:α):cond (Nat.beq a b) x y=if a=b then x else y:=by
 cases h:Nat.beq a b with
 | true=>rw [if_pos (Nat.eq_of_beq_eq_true h)];rfl
 | false=>rw [if_neg (fun e=>by rw [e,show Nat.beq b b=true from Nat.beq_refl b] at h;cases h)];rfl
theorem Bk (l:List (Nat×Blk)) (s:Nat) (k:Blk→Option β):Fs l s k=(Ap s l).bind k:=by
 induction l with
 | nil=>rfl
 | cons p l ih =>
  obtain ⟨j,b⟩:=p;rw [show Fs ((j,b)::l) s k=cond (Nat.beq s j) (k b) (Fs l s k) from rfl,Hj,ih]
  simp only [Ap];split<;>rfl
def Da (r:Ref) (h:Hp) (k:Blk→Option β):Option β:=match h with
 | ⟨own,ext⟩=>match r with
  | .own s=>Fs own s k
  | .ext j=>Ds ext j k
theorem EZ (r:Ref) (h:Hp) (k:Blk→Option β):Da r h k=(h.get r).bind k:=by
 obtain ⟨own,ext⟩:=h;cases r with
 | own s=>exact Bk ..
 | ext j=>exact C3 ..
def A0 (l:List (Nat×Blk)) (s:Nat) (b:Blk) (k:List (Nat×Blk)→Option β):Option β :=
 List.rec (motive:=fun _=>(List (Nat×Blk)→Option β)→Option β) (fun k=>k [(s,b)])
  (fun p t ih k=>match p with | (j,c)=>cond (Nat.beq s j) (k ((j,b)::t)) (ih fun l=>k ((j,c)::l))) l k
theorem Bu (l:List (Nat×Blk)) (s:Nat) (b:Blk) (k:List (Nat×Blk)→Option β):A0 l s b k=k (AN s b l):=by
 induction l generalizing k with
 | nil=>rfl
 | cons p l ih =>
  obtain ⟨j,c⟩:=p;rw [show A0 ((j,c)::l) s b k=cond (Nat.beq s j) (k ((j,b)::l)) (A0 l s b fun l=>k ((j,c)::l)) from rfl,Hj,ih]
  simp only [AN];split<;>rfl
def Ge (r:Ref) (b:Blk) (h:Hp) (k:Hp→Option β):Option β:=match h with
 | ⟨own,ext⟩=>match r with
  | .own s=>A0 own s b fun own=>k ⟨own,ext⟩
  | .ext j=>Q1 ext j b fun ext=>k ⟨own,ext⟩
theorem Lx (r:Ref) (b:Blk) (h:Hp) (k:Hp→Option β):Ge r b h k=k (h.set r b):=by
 obtain ⟨own,ext⟩:=h;cases r with
 | own s=>exact Bu ..
 | ext j=>exact Ain ..
def P7 (x:IV) (e:Option β) (k:FV→Option β):Option β:=match x with
 | .fv v=>k v
 | _=>e
def Aje (v:FV) (e:Option β) (k:Nat→Option β):Option β:=match v with
 | .int .i64 (.ofNat n)=>k n
 | _=>e
def LP (x:IV) (e:Option β) (k:Nat→Option β):Option β:=P7 x e fun v=>Aje v e k
theorem FH {x:IV} {e:Option β} {k:Nat→Option β} {r:β} (h:LP x e k=some r):(∃n:Nat,x=.fv (.int .i64 n)∧k n=some r)∨e=some r:=by
 unfold LP P7 at h;split at h
 ·simp only [Aje] at h;split at h
  ·exact .inl ⟨_,rfl,h⟩
  ·exact .inr h
 ·exact .inr h
def OQ (n:Nat) (k:IV→Option β):Option β:=D7 n fun n=>k (.fv (.int .i64 (.ofNat n)))
theorem DF (n:Nat) (k:IV→Option β):OQ n k=k (.fv (.int .i64 n)):=by rw [OQ,BT];rfl
def AhR (b:Bool) (k:IV→Option β):Option β:=cond b (k (.fv (.bool true))) (k (.fv (.bool false)))
theorem Wr (b:Bool) (k:IV→Option β):AhR b k=k (.fv (.bool b)):=by cases b<;>rfl
def CO (o:Option IV) (k:IV→Option β):Option β:=match o with
 | none=>none
 | some v=>fS v k
theorem CK (o:Option IV) (k:IV→Option β):CO o k=o.bind k:=by
 cases o with
 | none=>rfl
 | some v=>exact Asc v k
def Ct (l:List IV) (e:Option β) (k:List FV→Option β):Option β :=
 List.rec (motive:=fun _=>(List FV→Option β)→Option β) (fun k=>k []) (fun x _ ih k=>P7 x e fun v=>ih fun vs=>k (v::vs)) l k
theorem Q0 (l:List IV) (e:Option β) (k:List FV→Option β):Ct l e k=match Gy l with | some vs=>k vs | none=>e:=by
 induction l generalizing k with
 | nil=>rfl
 | cons x l ih =>
  rw [show Ct (x::l) e k=P7 x e fun v=>Ct l e fun vs=>k (v::vs) from rfl]
  cases x<;>simp only [P7,Gy];rw [ih];cases Gy l<;>rfl
def Qe (l:List IV) (k:IV→Option β):Option β:=Ct l (k (.agg l)) fun vs=>k (.fv (.agg vs))
theorem UI (l:List IV) (k:IV→Option β):Qe l k=k (FI l):=by
 rw [Qe,Q0,FI];cases Gy l<;>rfl
def Xi (l:List IV) (k:IV→Option β):Option β:=Ct l (k (.tuple l)) fun vs=>k (.fv (.tuple vs))
theorem AdQ (l:List IV) (k:IV→Option β):Xi l k=k (Cx l):=by
 rw [Xi,Q0,Cx];cases Gy l<;>rfl
def Al1 (v:FV) (a b:Option β):Option β:=match v with
 | .bool t=>cond t a b
 | _=>none
def Am (v:IV) (a b:Option β):Option β:=match v with
 | .fv v=>Al1 v a b
 | _=>none
theorem V8 {v:IV} {a b:Option β} {r:β} (h:Am v a b=some r):∃t:Bool,v=.fv (.bool t)∧(if t then a else b)=some r:=by
 unfold Am at h;split at h
 ·unfold Al1 at h;split at h
  ·rename_i t;refine ⟨t,rfl,?_⟩;cases t<;>exact h
  ·cases h
 ·cases h
def AG (c a b:IV) (k:IV→Option β):Option β:=Am c (k a) (k b)
section
variable (E:Env) (t:TypeId)
def CX (op:BinOp) (x y:IV) (k:IV→Option β):Option β:=CO (Gc E op t x y) k
def BC (x y:IV) (k:IV→Option β):Option β :=
 LP x (CX E t .add x y k) fun a=>LP y (CX E t .add x y k) fun b=>cond (Nat.ble (a+b) 9223372036854775807) (OQ (a+b) k) (CX E t .add x y k)
def Be (x y:IV) (k:IV→Option β):Option β :=
 LP x (CX E t .sub x y k) fun a=>LP y (CX E t .sub x y k) fun b=>cond (and (Nat.ble b a) (Nat.ble a 9223372036854775807)) (OQ (a - b) k) (CX E t .sub x y k)
def UQ (op:BinOp) (g:Nat→Nat→Bool) (x y:IV) (k:IV→Option β):Option β :=
 LP x (CX E t op x y k) fun a=>LP y (CX E t op x y k) fun b=>AhR (g a b) k
def A5 (x y:IV) (k:IV→Option β):Option β:=UQ E t .eql Nat.beq x y k
def Hg (x y:IV) (k:IV→Option β):Option β:=UQ E t .neq (fun a b=>not (Nat.beq a b)) x y k
def GV (x y:IV) (k:IV→Option β):Option β:=UQ E t .lss (fun a b=>Nat.ble (Nat.succ a) b) x y k
def leS (x y:IV) (k:IV→Option β):Option β:=UQ E t .leq Nat.ble x y k
def Nb (x y:IV) (k:IV→Option β):Option β:=UQ E t .gtr (fun a b=>Nat.ble (Nat.succ b) a) x y k
def geS (x y:IV) (k:IV→Option β):Option β:=UQ E t .geq (fun a b=>Nat.ble b a) x y k
def AiD (op:BinOp) (x y:IV) (k:IV→Option β):Option β:=match op with
 | .add=>BC E t x y k
 | .sub=>Be E t x y k
 | .eql=>A5 E t x y k
 | .neq=>Hg E t x y k
 | .lss=>GV E t x y k
 | .leq=>leS E t x y k
 | .gtr=>Nb E t x y k
 | .geq=>geS E t x y k
 | op=>CX E t op x y k
end
theorem Yj {n:Nat} (h:n≤9223372036854775807):IntKind.i64.wrap (n:Int)=n:=by
 have e:(n:Int) % (18446744073709551616:Int)=n:=by omega
 have e2:¬ (n:Int) ≥ (9223372036854775808:Int):=by omega
 show (if (true && decide (((n:Int) % (18446744073709551616:Int)) ≥ (9223372036854775808:Int)))=true then ((n:Int) % (18446744073709551616:Int)) - (18446744073709551616:Int) else ((n:Int) % (18446744073709551616:Int)))=n
 rw [e,decide_eq_false e2];rfl
def HC (v:FV) (k:List FV→Option β):Option β:=match v with
 | .agg cs=>k cs
 | _=>none
def asAgg (x:IV) (k:List IV→Option β) (kf:List FV→Option β):Option β:=match x with
 | .agg cs=>k cs
 | .fv v=>HC v kf
 | _=>none
def Apm (o:Nat) (x:IV) (k:IV→Option β):Option β:=asAgg x (fun cs=>Ds cs o k) fun cs=>Ds cs o fun v=>k (.fv v)
def AnX (size o:Nat) (x:IV) (k:IV→Option β):Option β :=
 asAgg x (fun cs=>FY cs o fun cs=>Gh cs size fun cs=>Qe cs k) fun cs=>FY cs o fun cs=>Gh cs size fun cs=>k (.fv (.agg cs))
def DB (b:Blk) (k:List IV→Option β):Option β:=match b with
 | .row cells _=>k cells
 | _=>none
def Hk (b:Blk) (k:List IV→Option β):Option β:=match b with
 | .row cells ro=>cond ro none (k cells)
 | _=>none
def Ark (v:FV) (k:List FV→Nat→Option β):Option β:=match v with
 | .fp cs o=>k cs o
 | _=>none
def Ff (x:IV) (k:Ref→Nat→Option β) (kf:List FV→Nat→Option β):Option β:=match x with
 | .ptr r o=>k r o
 | .fv v=>Ark v kf
 | _=>none
def Af (a:IV) (h:Hp) (k:IV→List Ref→Option β):Option β :=
 Ff a (fun r o=>Da r h fun b=>DB b fun cells=>Ds cells o fun v=>k v [r]) fun cells o=>Ds cells o fun v=>k (.fv v) []
def Aj (size:Nat) (a:IV) (h:Hp) (k:IV→List Ref→Option β):Option β :=
 Ff a (fun r o=>Da r h fun b=>DB b fun cells=>FY cells o fun cs=>Gh cs size fun cs=>Qe cs fun v=>k v [r])
  fun cells o=>FY cells o fun cs=>Gh cs size fun cs=>k (.fv (.agg cs)) []
def spK {α:Type} (l:List α) (k:List α→Option β):Option β :=
 List.rec (motive:=fun _=>(List α→Option β)→Option β) (fun k=>k []) (fun x _ ih k=>ih fun xs=>k (x::xs)) l k
theorem Ik {α:Type} (l:List α) (k:List α→Option β):spK l k=k l:=by
 induction l generalizing k with
 | nil=>rfl
 | cons x l ih=>rw [show spK (x::l) k=spK l (fun xs=>k (x::xs)) from rfl,ih]
def G7 (l:List IV) (j:Nat) (b:IV) (k:List IV→Option β):Option β :=
 List.rec (motive:=fun _=>Nat→(List IV→Option β)→Option β) (fun _ _=>none) (fun x t ih j k=>Nat.rec (motive:=fun _=>Option β) (k (b::t)) (fun p _=>ih p fun xs=>k (x::xs)) j) l j k
theorem Za (l:List IV) (j:Nat) (b:IV) (k:List IV→Option β):G7 l j b k=if j<l.length then k (l.set j b) else none:=by
 induction l generalizing j k with
 | nil=>rw [if_neg (by simp)];rfl
 | cons x l ih=>cases j with
  | zero=>rw [if_pos (by simp)];rfl
  | succ j=>rw [show G7 (x::l) (j+1) b k=G7 l j b (fun xs=>k (x::xs)) from rfl,ih];simp
theorem MW {v:IV} (h:v.one=true):v.cells=[v]∧v.alive=true:=by
 cases v with
 | fv w=>cases w<;>simp_all [IV.one,IV.cells,IV.alive]
 | _=>simp_all [IV.one,IV.cells,IV.alive]
def wrK (cs:List FV):List IV→(List IV→Option β)→Option β :=
 List.rec (motive:=fun _=>List IV→(List IV→Option β)→Option β) (fun l k=>k l) (fun c _ ih l k=>Aw l fun _ t=>ih t fun t'=>k (.fv c::t')) cs
def Ef (l:List IV) (o:Nat) (cs:List FV) (k:List IV→Option β):Option β :=
 List.rec (motive:=fun _=>Nat→(List IV→Option β)→Option β) (fun o k=>Nat.rec (motive:=fun _=>Option β) (wrK cs [] k) (fun _ _=>none) o)
  (fun x t ih o k=>Nat.rec (motive:=fun _=>Option β) (wrK cs (x::t) k) (fun p _=>ih p fun t'=>k (x::t')) o) l o k
theorem GS (x:IV):∀(vs l:List IV) (o:Nat),A3 (x::l) (o+1) vs=x::A3 l o vs
 | [],_,_=>rfl
 | v::vs,l,o=>by
  simp only [A3,List.set_cons_succ];exact GS x vs (l.set o v) (o+1)
theorem XA:∀(cs:List FV) (l:List IV) {k:List IV→Option β} {r:β},wrK cs l k=some r→cs.length≤l.length∧k (A3 l 0 (cs.map .fv))=some r
 | [],l,k,r,h=>⟨Nat.zero_le _,h⟩
 | c::cs,l,k,r,h=>by
  have h:(Aw l fun _ t=>wrK cs t fun t'=>k (.fv c::t'))=some r:=h;cases l with
  | nil=>cases h
  | cons x t =>
   have h:(wrK cs t fun t'=>k (.fv c::t'))=some r:=h;obtain ⟨h1,h2⟩:=XA cs t h;refine ⟨by simp;omega,?_⟩;simp only [AwV,A3,List.set_cons_zero,Nat.zero_add];rw [GS];exact h2
theorem Ph:∀(l:List IV) (o:Nat) (cs:List FV) {k:List IV→Option β} {r:β},Ef l o cs k=some r→o+cs.length≤l.length∧k (A3 l o (cs.map .fv))=some r
 | [],0,cs,k,r,h=>by
  obtain ⟨h1,h2⟩:=XA cs [] h;exact ⟨by simpa using h1,h2⟩
 | [],o+1,cs,k,r,h=>by cases h
 | x::t,0,cs,k,r,h=>by
  obtain ⟨h1,h2⟩:=XA cs (x::t) h;exact ⟨by simpa using h1,h2⟩
 | x::t,o+1,cs,k,r,h=>by
  have h:(Ef t o cs fun t'=>k (x::t'))=some r:=h;obtain ⟨h1,h2⟩:=Ph t o cs h;exact ⟨by simp;omega,by rw [GS];exact h2⟩
def Ig (v:FV):Bool:=match v with
 | .agg _=>false
 | .tuple _=>false
 | _=>true
def DE (l:List FV):Bool:=List.rec (motive:=fun _=>Bool) true (fun v _ ih=>cond (Ig v) ih false) l
theorem Pg:∀(l:List FV),DE l=true→(l.map IV.fv).all IV.one=true
 | [],_=>rfl
 | v::l,h=>by
  have h:cond (Ig v) (DE l) false=true:=h;cases hv:Ig v with
  | false=>rw [hv] at h;cases h
  | true =>
   rw [hv] at h;simp only [AwV,List.all_cons,Pg l h,Bool.and_true];cases v<;>first | rfl | cases hv
def Ak (size:Nat) (a x:IV) (h:Hp) (k:Hp→List Ref→List Ref→Option β):Option β :=
 Ff a (fun r o=>Da r h fun b=>Hk b fun cells=>P7 x (if x.alive∧x.cells.length=size∧o+size≤cells.length∧x.cells.all IV.one∧FG r x then
  spK (A3 cells o x.cells) fun cells=>Ge r (.row cells false) h fun h=>k h [r] [r] else none) fun v=>HC v fun cs=>cond (and (Nat.beq cs.length size) (DE cs)) (Ef cells o cs fun cells=>Ge r (.row cells false) h fun h=>k h [r] [r]) none) fun _ _=>none
def BB (a x:IV) (h:Hp) (k:Hp→List Ref→List Ref→Option β):Option β :=
 cond x.one (Ff a (fun r o=>Da r h fun b=>Hk b fun cells=>cond (FG r x) (G7 cells o x fun cells=>Ge r (.row cells false) h fun h=>k h [r] [r]) none) fun _ _=>none) (Ak 1 a x h k)
def AkY (fn:Fn) (k:FuncId→Option β):Option β:=match fn with
 | .func g=>k g
 | _=>none
def Arv (v:FV) (k:IV→Option β):Option β:=match v with
 | .fp cs o=>k (.fv (.fp cs o))
 | .func fn a b=>AkY fn fun g=>k (.fv (.func (.func g) a b))
 | _=>none
def AE (x:IV) (k:IV→Option β):Option β:=match x with
 | .ptr r o=>k (.ptr r o)
 | .fv v=>Arv v k
 | .func fn a b=>AkY fn fun g=>k (.func (.func g) a b)
 | _=>none
def Ac (o:Nat) (x:IV) (k:IV→Option β):Option β :=
 Ff x (fun r off=>D7 (off+o) fun o=>k (.ptr r o)) fun cs off=>D7 (off+o) fun o=>k (.fv (.fp cs o))
def Amm (n:Int) (k:Nat→Option β):Option β:=match n with
 | .ofNat m=>k m
 | _=>none
def Amh (v:FV) (k:Nat→Option β):Option β:=match v with
 | .int _ n=>Amm n k
 | _=>none
def Afp (i:IV) (k:Nat→Option β):Option β:=P7 i none fun v=>Amh v k
theorem SN {i:IV} {k:Nat→Option β} {r:β} (h:Afp i k=some r):∃kd,∃n:Nat,i=.fv (.int kd n)∧k n=some r:=by
 unfold Afp P7 at h;split at h
 ·simp only [Amh] at h;split at h
  ·simp only [Amm] at h;split at h
   ·exact ⟨_,_,rfl,h⟩
   ·cases h
  ·cases h
 ·cases h
def At1 (v:FV) (k:List FV→Option β):Option β:=match v with
 | .sl es=>k es
 | _=>none
def Apo (x:IV) (k:List FV→Option β):Option β:=match x with
 | .nils=>k []
 | .emp=>k []
 | .clip es=>k es
 | .app _ es=>k es
 | .fv v=>At1 v k
 | _=>none
theorem Z3 (x:IV) (k:List FV→Option β):Apo x k=(Cg x).bind k:=by
 cases x with
 | fv v=>cases v<;>rfl
 | _=>rfl
def elK (size:Nat) (el:FV) (k:IV→Option β):Option β:=match el with
 | .agg cs=>cond (Nat.beq cs.length size) (k (.fv (.fp cs 0))) none
 | v=>cond (Nat.beq 1 size) (k (.fv (.fp [v] 0))) none
theorem Ah3 (size:Nat) (el:FV) (k:IV→Option β):elK size el k=if el.cells.length=size then k (.fv (.fp el.cells 0)) else none:=by
 cases el<;>simp only [elK,Hj,FV.cells]<;>rfl
def ZR (x:IV) (k:Ref→Nat→Nat→Option β) (e:Option β):Option β:=match x with
 | .slc r sz len=>k r sz len
 | _=>e
def A7 (size:Nat) (x i:IV) (k:IV→Option β):Option β :=
 Afp i fun n=>ZR x (fun r sz len=>cond (and (Nat.ble (Nat.succ n) len) (Nat.beq sz size)) (D7 (n * sz) fun o=>k (.ptr r o)) none) (Apo x fun es=>Ds es n fun el=>elK size el k)
def ixA (m size:Nat) (x i:IV) (k:IV→Option β):Option β :=
 Afp i fun n=>cond (Nat.ble (Nat.succ n) m) (Ff x (fun r o=>D7 (o+n * size) fun o=>k (.ptr r o)) fun cells o=>D7 (o+n * size) fun o=>k (.fv (.fp cells o))) none
def AqL (m size:Nat) (x i:IV) (k:IV→Option β):Option β :=
 Afp i fun n=>cond (Nat.ble (Nat.succ n) m) (P7 x none fun v=>HC v fun cs=>Ds cs (n * size) fun v=>k (.fv v)) none
def Arc (v:FV) (k:List FV→Option β):Option β:=match v with
 | .tuple vs=>k vs
 | _=>none
def AQ (ix:Nat) (x:IV) (k:IV→Option β):Option β:=match x with
 | .tuple vs=>Ds vs ix k
 | .fv v=>Arc v fun vs=>Ds vs ix fun v=>k (.fv v)
 | _=>none
def BP (x:IV) (k:IV→Option β):Option β:=ZR x (fun _ _ n=>OQ n k) (Apo x fun es=>OQ es.length k)
def Aem (z:List IV) (o sz:Nat) (v:IV) (k:List IV→Option β):Option β :=
 cond v.one (cond (Nat.beq sz 1) (G7 z o v k) none) (if v.alive∧v.cells.length=sz∧o+sz≤z.length then spK (A3 z o v.cells) k else none)
def HM (z:List IV) (o sz:Nat) (v:IV) (k:List IV→Option β):Option β :=
 P7 v (Aem z o sz v k) fun w=>cond (Ig w) (cond (Nat.beq sz 1) (G7 z o v k) none) (HC w fun cs=>cond (Nat.beq cs.length sz) (Ef z o cs k) none)
def OA (z:List IV) (pl:List (Nat×Nat×IV)) (k:List IV→Option β):Option β :=
 List.rec (motive:=fun _=>List IV→Option β) (fun z=>k z) (fun p _ ih z=>match p with
  | (o,sz,v)=>HM z o sz v ih) pl z
def BA (z:List IV) (pl:List (Nat×Nat×IV)) (k:IV→Option β):Option β:=OA z pl fun cells=>Qe cells k
def My {α:Type} (place:Nat→Option (Nat×Nat)):List (Nat×α)→Option (List (Nat×Nat×α))
 | []=>some []
 | (i,x)::l=>match place i with
  | none=>none
  | some (o,s)=>match My place l with
   | none=>none
   | some r=>some ((o,s,x)::r)
def AcA {α:Type} (g:α→IV):List (Nat×Nat×α)→List (Nat×Nat×IV)
 | []=>[]
 | (o,s,x)::l=>(o,s,g x)::AcA g l
def CT (l:List (Nat×Blk)) (s:Nat) (a:Option β):Option β :=
 List.rec (motive:=fun _=>Option β) a (fun p _ ih=>match p with | (j,_)=>cond (Nat.beq s j) none ih) l
theorem QJ {l:List (Nat×Blk)} {s:Nat} {a:Option β} {r:β} (h:CT l s a=some r):Ap s l=none∧a=some r:=by
 induction l with
 | nil=>exact ⟨rfl,h⟩
 | cons p l ih =>
  obtain ⟨j,b⟩:=p;have h:cond (Nat.beq s j) none (CT l s a)=some r:=h;rw [Hj] at h;split at h
  ·cases h
  ·rename_i hn;obtain ⟨h1,h2⟩:=ih h;exact ⟨by simp only [Ap,if_neg hn,h1],h2⟩
def AH (s:Nat) (b:Blk) (v:IV) (h:Hp) (k:IV→Hp→List Ref→List Ref→Option β):Option β:=match h with
 | ⟨own,ext⟩=>CT own s (A0 own s b fun own=>k v ⟨own,ext⟩ [] [.own s])
def A4 (s:Nat) (x:IV) (h:Hp) (k:IV→Hp→List Ref→List Ref→Option β):Option β :=
 cond x.one (AH s (.row [x] false) (.ptr (.own s) 0) h k) (cond x.alive (spK x.cells fun cs=>AH s (.row cs false) (.ptr (.own s) 0) h k) none)
def Aos (u:List (Ref×Blk)):Hp→(Hp→Option β)→Option β :=
 List.rec (motive:=fun _=>Hp→(Hp→Option β)→Option β) (fun h k=>k h) (fun p _ rec h k=>match p with
  | (r,b)=>fRf r fun r=>Da r h fun _=>fBk b fun b=>Ge r b h fun h=>rec h k) u
theorem AaX:∀(u:List (Ref×Blk)) (h:Hp) {k:Hp→Option β} {r:β},Aos u h k=some r→∃h',laid h u=some h'∧k h'=some r
 | [],h,k,r,e=>⟨h,rfl,e⟩
 | (q,b)::u,h,k,r,e=>by
  have e:(fRf q fun q=>Da q h fun _=>fBk b fun b=>Ge q b h fun h=>Aos u h k)=some r:=e;rw [OT,EZ] at e;simp only [C8,Lx] at e;cases hg:h.get q with
  | none=>rw [hg] at e;cases e
  | some c =>
   rw [hg] at e;obtain ⟨h',h1,h2⟩:=AaX u (h.set q b) e;exact ⟨h',by simp only [laid,hg,h1],h2⟩
def J7 (o:Option Blk) (s:Nat) (h:Hp) (k:Hp→Option β):Option β:=match o with
 | none=>k h
 | some b=>match h with
  | ⟨own,ext⟩=>CT own s (fBk b fun b=>A0 own s b fun own=>k ⟨own,ext⟩)
def Ay (m:Rd Made) (s:Nat) (h:Hp) (k:IV→Hp→List Ref→List Ref→Option β):Option β:=match m.runLog h [] with
 | none=>none
 | some (m,rd)=>Aos m.eff.upd h fun h=>J7 m.new s h fun h=>fV 3 m.eff.val fun v=>k v h rd (Bw m.eff.upd++I9 s m)
def Arx (v:FV) (e:Option β) (k:List FV→Option β):Option β:=match v with
 | .agg cs=>k cs
 | _=>e
def fzS (m:Rd Made) (s:Nat) (x:IV) (h:Hp) (k:IV→Hp→List Ref→List Ref→Option β):Option β :=
 P7 x (Ay m s h k) fun v=>Arx v (Ay m s h k) fun cs=>cond (Nat.ble cs.length 2000) (k (.fv (.fp cs 0)) h [] []) (Ay m s h k)
def XT (E:Env) (s d:TypeId) (x:IV) (k:IV→Option β):Option β :=
 LP x (CO (KY E s d x) k) fun n=>cond (Nat.ble n 9223372036854775807) (OQ n k) (CO (KY E s d x) k)
def AiZ (v:FV) (want:Bool) (h:Hp) (m:(IV→Hp→List Ref→List Ref→Option β)→Option β) (k:IV→Hp→List Ref→List Ref→Option β):Option β:=match v with
 | .bool b=>cond (cond want b (not b)) (m k) (k F6 h [] [])
 | .tuple l=>List.casesOn (motive:=fun _=>Option β) l (k F6 h [] []) fun _ _=>none
 | _=>none
def Ab (v:IV) (want:Bool) (h:Hp) (m:(IV→Hp→List Ref→List Ref→Option β)→Option β) (k:IV→Hp→List Ref→List Ref→Option β):Option β:=P7 v none fun v=>AiZ v want h m k
def Mo (split:Bool) (ih:Aa) (f:FuncId) (args:List IV) (ext:List Blk):Option (IV×Hp) :=
 if split then match args,ext with
  | [.fv (.sl [])],[]=>if CL (ih f [.nils] ⟨[],[]⟩) && CL (ih f [.emp] ⟨[],[]⟩) then some (.fv (.sl []),⟨[],[]⟩) else none
  | _,_=>ih f args ⟨[],ext⟩
 else ih f args ⟨[],ext⟩
def GU (keep:List Bool) (split raw:Bool) (ih:Aa) (f:FuncId) (args:List IV) (h:Hp) (k:IV→Hp→List Ref→List Ref→Option β):Option β :=
 match (Bv keep args).runLog h [] with
 | none=>none
 | some (
     (vs,rs,u),l1)=>match (Ck 4096 rs []).runLog h l1 with
  | none=>none
  | some (
      l,l2)=>match IV.ren.renL (E9 l) vs with
   | none=>none
   | some vs' =>
          match Bd (E9 l) (l.map (·.2)) with
    | none=>none
    | some ext=>fL (fV 3) vs' fun vs'=>fL fBk ext fun ext=>match Mo split ih f vs' ext with
     | none=>none
     | some (
         res,hp')=>match (if raw then some res else ((C2 4096 res).run hp').map fun (v,_)=>.fv v) with
      | none=>none
      | some res=>match res.ren (Cw l) with
       | none=>none
       | some res=>match Bd (Cw l) hp'.ext with
        | none=>none
        | some ext'=>if ext'.length=l.length∧(Bw u).all (fun r=>!hasRef r l) then
          match laid h (u++(Bw l).zip ext') with
          | none=>none
          | some h'=>fH h' fun h'=>fV 3 res fun res=>k res h' l2 (Bw (u++(Bw l).zip ext'))
         else none
def W2 (r:Ref) (e:Option β) (k:Nat→Option β):Option β:=match r with
 | .own s=>k s
 | .ext _=>e
def Nw {α:Type} (u us:List α) (k:List α→Option β):Option β :=
 List.rec (motive:=fun _=>(List α→Option β)→Option β) (fun k=>k us) (fun x _ ih k=>ih fun w=>k (x::w)) u k
theorem X4 {α:Type} (u us:List α) (k:List α→Option β):Nw u us k=k (u++us):=by
 induction u generalizing k with
 | nil=>rfl
 | cons x u ih=>rw [show Nw (x::u) us k=Nw u us (fun w=>k (x::w)) from rfl,ih];rfl
abbrev FzK (β:Type):=IV→Hp→List Ref→Option β→(FV→List (Ref×Blk)→List Ref→Option β)→Option β
def Cz (g:FzK β) (l:List IV):Hp→List Ref→Option β→(List FV→List (Ref×Blk)→List Ref→Option β)→Option β :=
 List.rec (motive:=fun _=>Hp→List Ref→Option β→(List FV→List (Ref×Blk)→List Ref→Option β)→Option β) (fun _ lg _ k=>k [] [] lg)
  (fun x _ rec h lg e k=>g x h lg e fun y u lg=>rec h lg e fun ys us lg=>Nw u us fun w=>k (y::ys) w lg) l
def elF (x:FV) (k:FV→Option β):Option β:=match x with
 | .agg l=>k (.agg [.agg l])
 | x=>k x
def elL (x:FV) (t:List FV) (k:FV→Option β):Option β:=match t with
 | []=>elF x k
 | y::t=>k (.agg (x::y::t))
def Afn (a:List FV) (k:FV→Option β):Option β:=match a with
 | []=>k (.agg [])
 | x::t=>elL x t k
theorem Aj2 (a:List FV) (k:FV→Option β):Afn a k=k (Ru a):=by
 cases a with
 | nil=>rfl
 | cons x t=>cases t with
  | nil=>cases x<;>rfl
  | cons y t=>cases x<;>rfl
def XU (sz len:Nat) (cs:List FV) (k:List FV→Option β):Option β :=
 Nat.rec (motive:=fun _=>List FV→(List FV→Option β)→Option β) (fun _ k=>k []) (fun _ rec cs k=>Gh cs sz fun a=>FY cs sz fun b=>Afn a fun x=>rec b fun xs=>k (x::xs)) len cs k
theorem AhM (sz:Nat):∀(len:Nat) (cs:List FV) {k:List FV→Option β} {r:β},XU sz len cs k=some r→k (BV sz len cs)=some r
 | 0,_,_,_,h=>h
 | len+1,cs,k,r,h=>by
  have h:(Gh cs sz fun a=>FY cs sz fun b=>Afn a fun x=>XU sz len b fun xs=>k (x::xs))=some r:=h;rw [Ll] at h;by_cases h1:sz≤cs.length
  ·rw [if_pos h1,K7,if_pos h1,Aj2] at h;exact AhM sz len _ h
  ·rw [if_neg h1] at h;cases h
def Dj (d:Nat):FzK β :=
 Nat.rec (motive:=fun _=>FzK β) (fun _ _ _ e _=>e) (fun _ g v h lg e k=>match v with
  | .fv v=>k v [] lg
  | .nils=>k (.sl []) [] lg
  | .emp=>k (.sl []) [] lg
  | .clip es=>k (.sl es) [] lg
  | .app _ es=>k (.sl es) [] lg
  | .ptr r off=>W2 r e fun s=>Da (.own s) h fun b=>DB b fun cells=>cond (Nat.ble cells.length 300) (Cz g cells h (.own s::lg) e fun cs u lg=>k (.fp cs off) ((.own s,.row cells true)::u) lg) e
  | .slc r sz len=>W2 r e fun s=>Da (.own s) h fun b=>DB b fun cells=>cond (Nat.ble cells.length 300) (cond (or (Nat.beq sz 0) (not (Nat.ble (len * sz) cells.length))) none
    (Cz g cells h (.own s::lg) e fun cs u lg=>XU sz len cs fun els=>k (.sl els) ((.own s,.row cells true)::u) lg)) e
  | .agg cs=>cond (Nat.ble cs.length 300) (Cz g cs h lg e fun cs u lg=>k (.agg cs) u lg) e
  | .func fn a b=>cond (and (Nat.ble a.length 300) (Nat.ble b.length 300)) (Cz g a h lg e fun x u lg=>Cz g b h lg e fun y v lg=>Nw u v fun w=>k (.func fn x y) w lg) e
  | _=>e) d
def Vg (args:List IV):List Bool→Hp→List Ref→Option β→(List IV→List Ref→List (Ref×Blk)→List Ref→Option β)→Option β :=
 List.rec (motive:=fun _=>List Bool→Hp→List Ref→Option β→(List IV→List Ref→List (Ref×Blk)→List Ref→Option β)→Option β) (fun _ _ lg _ k=>k [] [] [] lg)
  (fun x _ rec keep h lg e k=>match keep with
   | []=>Dj 12 x h lg e fun y u lg=>rec [] h lg e fun vs rs us lg=>Nw u us fun w=>k (.fv y::vs) rs w lg
   | b::ks=>cond b (Ff x (fun r o=>rec ks h lg e fun vs rs us lg=>k (.ptr r o::vs) (r::rs) us lg) fun _ _=>e)
     (Dj 12 x h lg e fun y u lg=>rec ks h lg e fun vs rs us lg=>Nw u us fun w=>k (.fv y::vs) rs w lg)) args
def Wm (v:IV):List Ref→List Ref :=
 IV.rec (motive_1:=fun _=>List Ref→List Ref) (motive_2:=fun _=>List Ref→List Ref) (fun acc=>acc) (fun _ acc=>acc) (fun r _ acc=>r::acc) (fun r _ _ acc=>r::acc) (fun acc=>acc) (fun acc=>acc) (fun _ acc=>acc)
  (fun r _ acc=>r::acc) (fun _ _ _ f g acc=>f (g acc)) (fun _ f acc=>f acc) (fun _ f acc=>f acc) (fun r acc=>r::acc) (fun acc=>acc) (fun _ _ f g acc=>f (g acc)) v
def CD (l:List IV):List Ref→List Ref :=
 IV.rec_1 (motive_1:=fun _=>List Ref→List Ref) (motive_2:=fun _=>List Ref→List Ref) (fun acc=>acc) (fun _ acc=>acc) (fun r _ acc=>r::acc) (fun r _ _ acc=>r::acc) (fun acc=>acc) (fun acc=>acc) (fun _ acc=>acc)
  (fun r _ acc=>r::acc) (fun _ _ _ f g acc=>f (g acc)) (fun _ f acc=>f acc) (fun _ f acc=>f acc) (fun r acc=>r::acc) (fun acc=>acc) (fun _ _ f g acc=>f (g acc)) l
def Fo (b:Blk):List Ref:=match b with
 | .row cells _=>CD cells []
 | .tok _ _=>[]
 | .map es=>List.rec (motive:=fun _=>List Ref) [] (fun p _ ih=>match p with | (_,v)=>Wm v ih) es
def goR (rec:List Ref→Nat→List Blk→Bool) (t:List Ref) (s:Nat) (rest:List Blk):Bool:=match rest with
 | []=>false
 | b::rest=>rec (t++Fo b) (Nat.succ s) rest
def Qi (n:Nat):List Ref→Nat→List Blk→Bool :=
 Nat.rec (motive:=fun _=>List Ref→Nat→List Blk→Bool) (fun _ _ _=>false) (fun _ rec todo s rest=>match todo with
  | []=>(match rest with
   | []=>true
   | _::_=>false)
  | r::t=>(match r with
   | .own _=>false
   | .ext j=>cond (Nat.ble (Nat.succ j) s) (rec t s rest) (cond (Nat.beq j s) (goR rec t s rest) false))) n
def okR (m:Nat) (rs:List Ref):Bool :=
 List.rec (motive:=fun _=>Bool) true (fun r _ rec=>match r with
  | .own _=>false
  | .ext j=>cond (Nat.ble (Nat.succ j) m) rec false) rs
def okB (m:Nat) (l:List Blk):Bool:=List.rec (motive:=fun _=>Bool) true (fun b _ rec=>cond (okR m (Fo b)) rec false) l
def Mb (u:List (Ref×Blk)):Hp→(Hp→Option β)→Option β :=
 List.rec (motive:=fun _=>Hp→(Hp→Option β)→Option β) (fun h k=>k h) (fun p _ rec h k=>match p with
  | (r,b)=>W2 r none fun s=>Da (.own s) h fun _=>Ge (.own s) b h fun h=>rec h k) u
def CR (m:Nat):List Ref:=(List.range m).map .ext
def Al (keep:List Bool) (split raw:Bool) (ih:Aa) (f:FuncId) (args:List IV) (h:Hp) (k:IV→Hp→List Ref→List Ref→Option β):Option β :=
 cond (
    cond split true raw) (GU keep split raw ih f args h k)
  (Vg args keep h [] (GU keep split raw ih f args h k) fun vs rs u lg=>match rs with
   | []=>(match ih f vs ⟨[],[]⟩ with
    | none=>none
    | some p=>match p with
     | (v,h')=>match h' with
      | ⟨own,ext⟩=>List.casesOn (motive:=fun _=>Option β) ext (Dj 12 v ⟨own,[]⟩ [] (GU keep split raw ih f args h k) fun w _ _=>Mb u h fun h2=>k (.fv w) h2 lg (Bw u)) fun _ _=>none)
   | r::rs=>(match h with
    | ⟨own,ext⟩=>cond (Qi 400 (r::rs) 0 ext) (match ih f vs ⟨[],ext⟩ with
     | none=>none
     | some p=>match p with
      | (v,h')=>match h' with
       | ⟨own',ext'⟩=>cond (and (Nat.beq ext'.length ext.length) (okB ext.length ext'))
        (Dj 12 v ⟨own',ext'⟩ [] (GU keep split raw ih f args h k) fun w _ _=>Mb u ⟨own,ext'⟩ fun h2=>k (.fv w) h2 ((CR ext.length).reverse++lg) (Bw u++CR ext.length)) none)
     (GU keep split raw ih f args h k)))
def D8 (E:Env) (ih:Aa) (g:IV) (args:List IV) (h:Hp) (k:IV→Hp→List Ref→List Ref→Option β):Option β:=match callee g with
 | none=>none
 | some (f,first,cap)=>cond (E.pol.inl f) none (spK (first++args++cap) fun args=>Al (E.pol.keep f) (E.pol.split f) (E.pol.raw f) ih f args h k)
def Ai6 (ih:Aa) (f:FuncId) (args:List IV) (h:Hp) (k:IV→Hp→List Ref→List Ref→Option β):Option β:=match ih f args h with
 | none=>none
 | some p=>match p with
  | (v,h)=>k v h [] []
section
variable (E:Env)
def Ah (t:TypeId) (len:Nat) (parts:List (Nat×IV)):Rd Made:=match E.T t with
  | some ⟨_,_,.slice e,_⟩=>match E.T e with
   | some ei=>if ei.size=0∨len * ei.size > 65536 then .fail else
    match CA (fun j=>some (j * ei.size,ei.size)) (Qg len ei.zero) parts with
    | some cells=>(frzL 65536 cells).bind fun (vs,u)=>.ret { eff:={ val:=.clip (BV ei.size len vs),upd:=u } }
    | none=>.fail
   | none=>.fail
  | _=>.fail
def Akp (t:TypeId) (parts:List (Nat×IV)):Rd Made:=match E.T t with
  | some ⟨_,_,.struct fs,z⟩=>He ((CA (Fi E fs) z parts).map FI)
  | some ⟨_,_,.arr _ e,z⟩=>match E.T e with
   | some ei=>He ((CA (fun j=>some (j * ei.size,ei.size)) z parts).map FI)
   | none=>.fail
  | _=>.fail
def K3 (fz:Bool) (s:Nat) (v:IV):Rd Made :=
  if v.alive=false then .fail else
  if fz then (frzL 4096 v.cells).bind fun (vs,u)=>.ret { eff:={ val:=.fv (.fp vs 0),upd:=u } }
  else .ret { eff:={ val:=.ptr (.own s) 0 },new:=some (.row v.cells false) }
def GX (s:Nat):Rd Made:=.ret { eff:={ val:=.mapr (.own s) },new:=some (.map []) }
def Ca (t:TypeId) (m k v:IV):Rd Made:=match E.T t with
  | some ⟨_,_,.map kt _,_⟩=>match E.T kt,m,k with
   | some ⟨_,_,.int .i64,_⟩,.mapr r,.fv (.int .i64 n)=>.get r fun
    | .map es =>
     if v.alive∧FG r v then .ret { eff:={ val:=.dead,upd:=[(r,.map (Cv n v es))] } } else .fail
    | _=>.fail
   | _,_,_=>.fail
  | _=>.fail
def Ha (t:TypeId) (m k:IV) (ok:Bool):Rd Made:=match E.T t with
  | some ⟨
      _,_,.map kt et,_⟩=>match E.T kt,E.T et,m,k with
   | some ⟨_,_,.int .i64,_⟩,some ei,.mapr r,.fv (.int .i64 n)=>.get r fun
    | .map es=>match C7 n es with
     | some v=>val (if ok then Cx [v,.fv (.bool true)] else v)
     | none=>match S8 ei with
      | some z=>val (if ok then Cx [z,.fv (.bool false)] else z)
      | none=>.fail
    | _=>.fail
   | _,_,_,_=>.fail
  | _=>.fail
def Bn (s:Nat) (t:TypeId) (l c:IV):Rd Made:=match E.T t with
  | some ⟨_,_,.slice e,_⟩=>match E.T e,l,c with
   | some ei,.fv (.int .i64 a),.fv (.int .i64 b) =>
    if 0≤a∧a≤b∧b≤1048576∧ei.size≠0∧ei.bytes≤65536 then
     .ret { eff:={ val:=.slc (.own s) ei.size a.toNat },new:=some (.row (Qg b.toNat ei.zero) false) }
    else .fail
   | _,_,_=>.fail
  | _=>.fail
def Yz (t:TypeId) (x ix:IV):Rd Made:=match E.T t,x,ix with
  | some ⟨_,_,.str,_⟩,.fv (.str s),.fv (.int _ n)=>if n<0 then .fail else match s[n.toNat]? with
   | some b=>val (.fv (.int .u8 b.toNat))
   | none=>.fail
  | some ⟨_,_,.arr m e,_⟩,.fv (.agg cs),.fv (.int _ n)=>match E.T e with
   | some ei=>if 0≤n∧n<(m:Int) then He ((Bt ei.kind.isAgg ei.size (n.toNat * ei.size) cs).map .fv) else .fail
   | none=>.fail
  | _,_,_=>.fail
theorem Ai4 {ih:Aa} {f rid i:Nat} {ρ:Operand→IV} {t:TypeId} {x:Operand}:CU E ih f rid i ρ (.box t x)=K3 (E.pol.fzBox f rid i) (Bi f rid i) (ρ x):=rfl
end
abbrev VQ {α:Type} (b:Bool) (x y:α):α:=Bool.rec (motive:=fun _=>α) y x b
theorem BJ {α:Type} (b:Bool) (x y:α):VQ b x y=cond b x y:=by cases b<;>rfl
section
variable (E:Env) (ih:Aa)
def F7:Op→Bool
 | .move _ | .assign _ | .pick .. | .nilCheck _ | .binOp .. | .unOp .. | .convert .. | .fieldAddr .. | .field .. | .extract ..=>true
 | .build t _=>match E.T t with
  | some ⟨_,_,.struct _,_⟩=>true
  | _=>false
 | .indexAddr t _ _=>match E.T t with
  | some ⟨_,_,.slice e,_⟩=>(match E.T e with | some _=>true | none=>false)
  | some ⟨_,_,.arr _ e,_⟩=>(match E.T e with | some _=>true | none=>false)
  | _=>false
 | .index t _ _=>match E.T t with
  | some ⟨_,_,.arr _ e,_⟩=>(match E.T e with | some ei=>!ei.kind.isAgg | none=>false)
  | _=>false
 | .call { callee:=.builtin .len,argTypes,args }=>match argTypes.toList,args.toList with
  | [t],[_]=>(match E.T t with | some ⟨_,_,.slice _,_⟩=>true | _=>false)
  | _,_=>false
 | _=>false
def Xx (f:FuncId) (rid i:Nat) (drawn:Bool) (ρ:Operand→IV) (cl:Callee) (args:List Operand) (ts:List TypeId) (h:Hp) (k:IV→Hp→List Ref→List Ref→Option β):Option β:=match cl with
 | .builtin b=>match b,ts,args with
  | .len,[t],[x]=>(match E.T t with
   | some ⟨_,_,.slice _,_⟩=>BP (ρ x) fun v=>k v h [] []
   | _=>Ay (AY E (Bi f rid i) (E.pol.rowApp f rid i) b ts (args.map ρ)) (Bi f rid i) h k)
  | _,_,_=>Ay (AY E (Bi f rid i) (E.pol.rowApp f rid i) b ts (args.map ρ)) (Bi f rid i) h k
 | .value g=>match g with
  | .func g=>VQ (E.pol.inl g) (VQ drawn none (Ai6 ih g (args.map ρ) h k)) (Al (E.pol.keep g) (E.pol.split g) (E.pol.raw g) ih g (args.map ρ) h k)
  | g=>D8 E ih (ρ g) (args.map ρ) h k
 | _=>none
def JI (f:FuncId) (rid i:Nat) (drawn:Bool) (ρ:Operand→IV) (op:Op) (h:Hp) (k:IV→Hp→List Ref→List Ref→Option β):Option β:=match op with
 | .move x=>k (ρ x) h [] []
 | .assign x=>k (ρ x) h [] []
 | .pick c a b=>AG (ρ c) (ρ a) (ρ b) fun v=>k v h [] []
 | .alloc t=>match E.T t with
  | some ti=>AH (Bi f rid i) (.row ti.zero false) (.ptr (.own (Bi f rid i)) 0) h k
  | none=>none
 | .box _ x=>VQ (E.pol.fzBox f rid i) (fzS (K3 true (Bi f rid i) (ρ x)) (Bi f rid i) (ρ x) h k) (A4 (Bi f rid i) (ρ x) h k)
 | .build t parts=>match E.T t with
  | some ⟨_,_,.struct fs,z⟩=>(match My (Fi E fs) parts.toList with
   | some l=>BA z (AcA ρ l) fun v=>k v h [] []
   | none=>none)
  | _=>Ay (Akp E t (parts.toList.map fun (j,x)=>(j,ρ x))) (Bi f rid i) h k
 | .buildSlice t len parts=>Ay (Ah E t len (parts.toList.map fun (j,x)=>(j,ρ x))) (Bi f rid i) h k
 | .makeFunc fn a b=>Ay (val (CS fn (a.toList.map ρ) (b.toList.map ρ))) (Bi f rid i) h k
 | .makeMap _ n=>(match n with
  | none=>Ay (GX (Bi f rid i)) (Bi f rid i) h k
  | some _=>none)
 | .insert t m j x=>Ay (Ca E t (ρ m) (ρ j) (ρ x)) (Bi f rid i) h k
 | .mapUpdate t m j x=>Ay (Ca E t (ρ m) (ρ j) (ρ x)) (Bi f rid i) h k
 | .lookup t m j ok=>Ay (Ha E t (ρ m) (ρ j) ok) (Bi f rid i) h k
 | .makeSlice t l c=>Ay (Bn E (Bi f rid i) t (ρ l) (ρ c)) (Bi f rid i) h k
 | .slice t x lo hi mx=>Ay (Yw E t (ρ x) (lo.map ρ) (hi.map ρ) (mx.map ρ)) (Bi f rid i) h k
 | .load t a=>match E.T t with
  | none=>none
  | some ti=>VQ ti.kind.isAgg (Aj ti.size (ρ a) h fun v rd=>k v h rd []) (Af (ρ a) h fun v rd=>k v h rd [])
 | .store t a x=>match E.T t with
  | none=>none
  | some ti=>VQ (Nat.beq ti.size 1) (BB (ρ a) (ρ x) h fun h rd wr=>k .dead h rd wr) (Ak ti.size (ρ a) (ρ x) h fun h rd wr=>k .dead h rd wr)
 | .nilCheck x=>AE (ρ x) fun v=>k v h [] []
 | .binOp op t x y _=>AiD E t op (ρ x) (ρ y) fun v=>k v h [] []
 | .unOp op _ x=>CO (L9 op (ρ x)) fun v=>k v h [] []
 | .convert s d x=>match E.T s,E.T d with
  | some _,some ⟨_,_,.int .i64,_⟩=>XT E s d (ρ x) fun v=>k v h [] []
  | _,_=>CO (KY E s d (ρ x)) fun v=>k v h [] []
 | .fieldAddr s x fd=>match H1 E s fd with
  | some (o,ti)=>VQ (Nat.beq ti.size 0) none (Ac o (ρ x) fun v=>k v h [] [])
  | none=>none
 | .field s x fd=>match H1 E s fd with
  | some (o,ti)=>VQ ti.kind.isAgg (AnX ti.size o (ρ x) fun v=>k v h [] []) (Apm o (ρ x) fun v=>k v h [] [])
  | none=>none
 | .indexAddr t x ix=>match E.T t with
  | some ⟨_,_,.slice e,_⟩=>(match E.T e with
   | some ei=>A7 ei.size (ρ x) (ρ ix) fun v=>k v h [] []
   | none=>none)
  | some ⟨_,_,.arr m e,_⟩=>(match E.T e with
   | some ei=>ixA m ei.size (ρ x) (ρ ix) fun v=>k v h [] []
   | none=>none)
  | _=>none
 | .index t x ix=>match E.T t with
  | some ⟨_,_,.arr m e,_⟩=>(match E.T e with
   | some ei=>VQ ei.kind.isAgg (Ay (Yz E t (ρ x) (ρ ix)) (Bi f rid i) h k) (AqL m ei.size (ρ x) (ρ ix) fun v=>k v h [] [])
   | none=>none)
  | _=>Ay (Yz E t (ρ x) (ρ ix)) (Bi f rid i) h k
 | .extract x ix=>AQ ix (ρ x) fun v=>k v h [] []
 | .call c=>match c with
  | { callee,args,argTypes }=>Xx E ih f rid i drawn ρ callee args.toList argTypes.toList h k
 | _=>none
end
end
end Idl
end Go.Proofs.Ytaifgaidaglblaa
namespace Go.Proofs.Ytaifgaidaglblaa
namespace Idl
section
variable {β:Type} {E:Env} {ih ih':Aa} {f rid i:Nat} {dr:Bool} {ρ:Operand→IV} {hp:Hp} {k:IV→Hp→List Ref→List Ref→Option β} {r:β}
def Aul (E:Env) (ih:Aa) (f rid i:Nat) (ρ:Operand→IV) (op:Op) (hp:Hp) (v:IV) (hp':Hp) (rd wr:List Ref):Prop :=
 ∃m,(CU E ih f rid i ρ op).runLog hp []=some (m,rd)∧AV (Bi f rid i) hp m=some hp'∧m.eff.val=v∧wr=Bw m.eff.upd++I9 (Bi f rid i) m
def GY (E:Env) (ih:Aa) (f rid i:Nat) (ρ:Operand→IV) (op:Op) (hp:Hp) (k:IV→Hp→List Ref→List Ref→Option β) (r:β):Prop :=
 ∃v hp' rd wr,Aul E ih f rid i ρ op hp v hp' rd wr∧k v hp' rd wr=some r∧(F7 E op=true→rd=[]∧wr=[])
theorem A2 {op:Op} {v:IV} (e:CU E ih f rid i ρ op=val v) (h:k v hp [] []=some r):GY E ih f rid i ρ op hp k r :=
 ⟨v,hp,[],[],⟨{ eff:={ val:=v } },by rw [e];rfl,rfl,rfl,rfl⟩,h,fun _=>⟨rfl,rfl⟩⟩
theorem QR {op:Op} {o:Option IV} (e:CU E ih f rid i ρ op=He o) (h:(o.bind fun v=>k v hp [] [])=some r):GY E ih f rid i ρ op hp k r:=by
 cases o with
 | none=>cases h
 | some v=>exact A2 e h
theorem V0 {op:Op} {b:Blk} {v:IV} (hq:F7 E op=false) (e:CU E ih f rid i ρ op=.ret { eff:={ val:=v },new:=some b })
  (h:AH (Bi f rid i) b v hp k=some r):GY E ih f rid i ρ op hp k r:=by
 obtain ⟨own,ext⟩:=hp;have h:CT own (Bi f rid i) (A0 own (Bi f rid i) b fun own=>k v ⟨own,ext⟩ [] [.own (Bi f rid i)])=some r:=h;obtain ⟨h1,h2⟩:=QJ h;rw [Bu] at h2;refine ⟨v,⟨AN (Bi f rid i) b own,ext⟩,[],[.own (Bi f rid i)],⟨_,by rw [e];rfl,?_,rfl,rfl⟩,h2,fun q=>by rw [hq] at q;cases q⟩;simp only [AV,laid,Option.bind_some,CG];rw [show (Hp.mk own ext).get (.own (Bi f rid i))=none from h1]
 rfl
theorem BQ {op:Op} {m:Rd Made} (hq:F7 E op=false) (e:CU E ih f rid i ρ op=m) (h:Ay m (Bi f rid i) hp k=some r):GY E ih f rid i ρ op hp k r:=by
 unfold Ay at h;cases hm:m.runLog hp [] with
 | none=>rw [hm] at h;cases h
 | some p =>
  obtain ⟨m',rd⟩:=p;rw [hm] at h;simp only at h;obtain ⟨h1,l1,h⟩:=AaX _ _ h;have hh:∃h2,CG (Bi f rid i) m' h1=some h2∧k m'.eff.val h2 rd (Bw m'.eff.upd++I9 (Bi f rid i) m')=some r:=by
   unfold J7 at h;unfold CG;cases hn:m'.new with
   | none=>rw [hn] at h;simp only [CB] at h;exact ⟨h1,rfl,h⟩
   | some b =>
    rw [hn] at h;obtain ⟨own,ext⟩:=h1;simp only [C8,Bu,CB] at h;obtain ⟨f1,f2⟩:=QJ h;refine ⟨⟨AN (Bi f rid i) b own,ext⟩,?_,f2⟩;simp only;rw [show (Hp.mk own ext).get (.own (Bi f rid i))=none from f1]
    rfl
  obtain ⟨h2,l2,h⟩:=hh;exact ⟨_,h2,rd,_,⟨m',by rw [e,hm],by simp only [AV,l1,Option.bind_some,l2],rfl,rfl⟩,h,fun q=>by rw [hq] at q;cases q⟩
theorem OF {x:IV} {e:Option β} {k:FV→Option β} (h:P7 x e k=some r):(∃v,x=.fv v∧k v=some r)∨e=some r:=by
 unfold P7 at h;split at h
 ·exact .inl ⟨_,rfl,h⟩
 ·exact .inr h
theorem Vd {x:IV} {k:List IV→Option β} {kf:List FV→Option β} (h:asAgg x k kf=some r):(∃cs,x=.agg cs∧k cs=some r)∨(∃cs,x=.fv (.agg cs)∧kf cs=some r):=by
 unfold asAgg at h;split at h
 ·exact .inl ⟨_,rfl,h⟩
 ·unfold HC at h;split at h
  ·exact .inr ⟨_,rfl,h⟩
  ·cases h
 ·cases h
theorem DK {x:IV} {k:Ref→Nat→Option β} {kf:List FV→Nat→Option β} (h:Ff x k kf=some r):(∃q o,x=.ptr q o∧k q o=some r)∨(∃cs o,x=.fv (.fp cs o)∧kf cs o=some r):=by
 unfold Ff at h;split at h
 ·exact .inl ⟨_,_,rfl,h⟩
 ·unfold Ark at h;split at h
  ·exact .inr ⟨_,_,rfl,h⟩
  ·cases h
 ·cases h
theorem GW {b:Blk} {k:List IV→Option β} (h:DB b k=some r):∃cells ro,b=.row cells ro∧k cells=some r:=by
 unfold DB at h;split at h
 ·exact ⟨_,_,rfl,h⟩
 ·cases h
theorem Q7 {b:Blk} {k:List IV→Option β} (h:Hk b k=some r):∃cells,b=.row cells false∧k cells=some r:=by
 unfold Hk at h;split at h
 ·rename_i ro;cases ro with
  | true=>cases h
  | false=>exact ⟨_,rfl,h⟩
 ·cases h
theorem Wn {x:IV} {k:Ref→Nat→Nat→Option β} {e:Option β} (h:ZR x k e=some r):(∃q sz n,x=.slc q sz n∧k q sz n=some r)∨((∀q sz n,x≠.slc q sz n)∧e=some r):=by
 unfold ZR at h;split at h
 ·exact .inl ⟨_,_,_,rfl,h⟩
 ·rename_i hn;exact .inr ⟨hn,h⟩
theorem Br {α:Type} {o:Option α} {k:α→Option β} (h:o.bind k=some r):∃a,o=some a∧k a=some r:=by
 cases o with
 | none=>cases h
 | some a=>exact ⟨a,rfl,h⟩
theorem Dp {c:Prop} [Decidable c] {a:Option β} (h:(if c then a else none)=some r):c∧a=some r:=by
 by_cases hc:c
 ·rw [if_pos hc] at h;exact ⟨hc,h⟩
 ·rw [if_neg hc] at h;cases h
theorem Dv {c:Bool} {a:Option β} (h:cond c a none=some r):c=true∧a=some r:=by cases c;cases h;exact ⟨rfl,h⟩
theorem DZ {a b:Nat} (h:Nat.beq a b=true):a=b:=Nat.eq_of_beq_eq_true h
theorem Bo {a b:Nat} (h:Nat.ble a b=true):a≤b:=Nat.le_of_ble_eq_true h
theorem Fq {t:TypeId} {op:BinOp} {x y:IV} {k:IV→Option β} (h:CX E t op x y k=some r):∃v,Gc E op t x y=some v∧k v=some r:=by
 rw [CX,CK] at h;exact Br h
theorem Alk {t:TypeId} {x y:IV} {k:IV→Option β} (h:BC E t x y k=some r):∃v,Gc E .add t x y=some v∧k v=some r:=by
 unfold BC at h;rcases FH h with ⟨a,rfl,g'⟩ | h
 ·replace h:=g';clear g';rcases FH h with ⟨b,rfl,g'⟩ | h
  ·replace h:=g';clear g';cases hc:Nat.ble (a+b) 9223372036854775807 with
   | false=>rw [hc] at h;exact Fq h
   | true =>
    rw [hc] at h;simp only [cond,DF] at h;refine ⟨_,?_,h⟩;have e:IntKind.i64.wrap ((a:Int)+(b:Int))=((a+b:Nat):Int):=by
     rw [← Int.natCast_add];exact Yj (Bo hc)
    show some (IV.fv (.int .i64 (IntKind.i64.wrap ((a:Int)+(b:Int)))))=_
    rw [e]
  ·exact Fq h
 ·exact Fq h
theorem AjH {t:TypeId} {x y:IV} {k:IV→Option β} (h:Be E t x y k=some r):∃v,Gc E .sub t x y=some v∧k v=some r:=by
 unfold Be at h;rcases FH h with ⟨a,rfl,g'⟩ | h
 ·replace h:=g';clear g';rcases FH h with ⟨b,rfl,g'⟩ | h
  ·replace h:=g';clear g';cases hc:(and (Nat.ble b a) (Nat.ble a 9223372036854775807)) with
   | false=>rw [hc] at h;exact Fq h
   | true =>
    rw [hc] at h;simp only [cond,DF] at h;refine ⟨_,?_,h⟩;have hc:(Nat.ble b a && Nat.ble a 9223372036854775807)=true:=hc;simp only [Bool.and_eq_true] at hc;have h1:=Bo hc.1;have h2:=Bo hc.2;have e:IntKind.i64.wrap ((a:Int) - (b:Int))=((a - b:Nat):Int):=by
     rw [← Int.natCast_sub h1];exact Yj (by omega)
    show some (IV.fv (.int .i64 (IntKind.i64.wrap ((a:Int) - (b:Int)))))=_
    rw [e]
  ·exact Fq h
 ·exact Fq h
theorem Jc {t:TypeId} {op:BinOp} {g:Nat→Nat→Bool} (hg:∀a b:Nat,Gc E op t (.fv (.int .i64 a)) (.fv (.int .i64 b))=some (.fv (.bool (g a b)))) {x y:IV} {k:IV→Option β}
  (h:UQ E t op g x y k=some r):∃v,Gc E op t x y=some v∧k v=some r:=by
 unfold UQ at h;rcases FH h with ⟨a,rfl,g'⟩ | h
 ·replace h:=g';clear g';rcases FH h with ⟨b,rfl,g'⟩ | h
  ·replace h:=g';clear g';rw [Wr] at h;exact ⟨_,hg a b,h⟩
  ·exact Fq h
 ·exact Fq h
theorem Is (a b:Nat):Nat.beq a b=decide (a=b):=by
 cases h:Nat.beq a b with
 | true=>rw [DZ h];simp
 | false =>
  have:a≠b:=fun e=>by rw [e,show Nat.beq b b=true from Nat.beq_refl b] at h;cases h
  simp [this]
theorem Bb (a b:Nat):Nat.ble a b=decide (a≤b):=by
 cases h:Nat.ble a b with
 | true=>have:=Bo h;simp [this]
 | false =>
  have:¬ a≤b:=fun e=>by rw [Nat.ble_eq_true_of_le e] at h;cases h
  simp [this]
theorem AfB {t:TypeId} {op:BinOp} {x y:IV} {k:IV→Option β} (h:AiD E t op x y k=some r):∃v,Gc E op t x y=some v∧k v=some r:=by
 cases op with
 | add=>exact Alk h
 | sub=>exact AjH h
 | eql =>
  refine Jc (fun a b=>?_) h
  show some (IV.fv (.bool ((a:Int) == (b:Int))))=_
  rw [Is];congr 3;exact decide_eq_decide.2 Int.ofNat_inj
 | neq =>
  refine Jc (fun a b=>?_) h
  show some (IV.fv (.bool ((a:Int) != (b:Int))))=_
  rw [Is];congr 3
  show (!decide ((a:Int)=(b:Int)))=!decide (a=b)
  congr 1;exact decide_eq_decide.2 Int.ofNat_inj
 | lss =>
  refine Jc (fun a b=>?_) h
  show some (IV.fv (.bool (decide ((a:Int)<(b:Int)))))=_
  rw [Bb];congr 3;exact decide_eq_decide.2 (by omega)
 | leq =>
  refine Jc (fun a b=>?_) h
  show some (IV.fv (.bool (decide ((a:Int)≤(b:Int)))))=_
  rw [Bb];congr 3;exact decide_eq_decide.2 (by omega)
 | gtr =>
  refine Jc (fun a b=>?_) h
  show some (IV.fv (.bool (decide ((a:Int) > (b:Int)))))=_
  rw [Bb];congr 3;exact decide_eq_decide.2 (by omega)
 | geq =>
  refine Jc (fun a b=>?_) h
  show some (IV.fv (.bool (decide ((a:Int) ≥ (b:Int)))))=_
  rw [Bb];congr 3;exact decide_eq_decide.2 (by omega)
 | _=>exact Fq h
theorem Afm {s d:TypeId} {x:IV} {si:TI} {a b:Nat} {z:List IV} (h1:E.T s=some si) (h2:E.T d=some ⟨a,b,.int .i64,z⟩) {k:IV→Option β} (h:XT E s d x k=some r) :
  ∃v,KY E s d x=some v∧k v=some r:=by
 have hg:CO (KY E s d x) k=some r→∃v,KY E s d x=some v∧k v=some r:=fun h=>by rw [CK] at h;exact Br h
 unfold XT at h;rcases FH h with ⟨n,rfl,g'⟩ | h
 ·replace h:=g';clear g';cases hc:Nat.ble n 9223372036854775807 with
  | false=>rw [hc] at h;exact hg h
  | true =>
   rw [hc] at h;simp only [cond,DF] at h;refine ⟨_,?_,h⟩;simp only [KY,h1,h2];rw [Yj (Bo hc)]
 ·exact hg h
theorem An5 {t:TypeId} {a:Operand} (h:JI E ih' f rid i dr ρ (.load t a) hp k=some r):GY E ih f rid i ρ (.load t a) hp k r:=by
 simp only [JI,BJ] at h;cases ht:E.T t with
 | none=>rw [ht] at h;cases h
 | some ti =>
  rw [ht] at h;simp only at h;cases hag:ti.kind.isAgg with
  | true =>
   rw [hag] at h;simp only [cond,Aj] at h;rcases DK h with ⟨q,o,ha,h⟩ | ⟨cs,o,ha,h⟩
   ·rw [EZ] at h;obtain ⟨b,hb,h⟩:=Br h;obtain ⟨cells,ro,rfl,g'⟩:=GW h;replace h:=g';clear g';rw [K7] at h;obtain ⟨h1,h⟩:=Dp h;rw [Ll] at h;obtain ⟨h2,h⟩:=Dp h;rw [UI] at h;refine ⟨_,hp,[q],[],⟨{ eff:={ val:=FI ((cells.drop o).take ti.size) } },?_,rfl,rfl,rfl⟩,h,fun q=>by cases q⟩;simp only [CU,ht,ha,Rd.runLog,hb,Ch,hag,if_true];rw [if_pos (by simp at h2;omega)];rfl
   ·rw [K7] at h;obtain ⟨h1,h⟩:=Dp h;rw [Ll] at h;obtain ⟨h2,h⟩:=Dp h;refine ⟨_,hp,[],[],⟨{ eff:={ val:=.fv (.agg ((cs.drop o).take ti.size)) } },?_,rfl,rfl,rfl⟩,h,fun q=>by cases q⟩;simp only [CU,ht,ha,Bt,hag,if_true];rw [if_pos (by simp at h2;omega)];rfl
  | false =>
   rw [hag] at h;simp only [cond,Af] at h;rcases DK h with ⟨q,o,ha,h⟩ | ⟨cs,o,ha,h⟩
   ·rw [EZ] at h;obtain ⟨b,hb,h⟩:=Br h;obtain ⟨cells,ro,rfl,g'⟩:=GW h;replace h:=g';clear g';rw [C3] at h;obtain ⟨v,hv,h⟩:=Br h;refine ⟨_,hp,[q],[],⟨{ eff:={ val:=v } },?_,rfl,rfl,rfl⟩,h,fun q=>by cases q⟩;simp only [CU,ht,ha,Rd.runLog,hb,Ch,hag,Bool.false_eq_true,if_false,hv];rfl
   ·rw [C3] at h;obtain ⟨v,hv,h⟩:=Br h;refine ⟨_,hp,[],[],⟨{ eff:={ val:=.fv v } },?_,rfl,rfl,rfl⟩,h,fun q=>by cases q⟩;simp only [CU,ht,ha,Bt,hag,Bool.false_eq_true,if_false,hv];rfl
theorem Zz (cells:List IV) (o:Nat) (v:IV):A3 cells o [v]=cells.set o v:=rfl
theorem Alv {t:TypeId} {a x:Operand} (h:JI E ih' f rid i dr ρ (.store t a x) hp k=some r):GY E ih f rid i ρ (.store t a x) hp k r:=by
 simp only [JI,BJ] at h;cases ht:E.T t with
 | none=>rw [ht] at h;cases h
 | some ti =>
  rw [ht] at h;simp only at h;have key:∀q o cells,ρ a=.ptr q o→hp.get q=some (.row cells false) →
    ((ρ x).alive=true∧(ρ x).cells.length=ti.size∧o+ti.size≤cells.length∧(ρ x).cells.all IV.one=true∧FG q (ρ x)=true) →
    k .dead (hp.set q (.row (A3 cells o (ρ x).cells) false)) [q] [q]=some r→GY E ih f rid i ρ (.store t a x) hp k r:=by
   intro q o cells ha hb hc h;refine ⟨_,_,[q],[q],⟨{ eff:={ val:=.dead,upd:=[(q,.row (A3 cells o (ρ x).cells) false)] } },?_,?_,rfl,rfl⟩,h,fun q=>by cases q⟩
   ·simp only [CU,ht,ha,Rd.runLog,hb];rw [if_pos hc];rfl
   ·simp only [AV,laid,hb,Option.bind_some,CG]
  have gen:Ak ti.size (ρ a) (ρ x) hp (fun h rd wr=>k .dead h rd wr)=some r→GY E ih f rid i ρ (.store t a x) hp k r:=by
   intro h;simp only [Ak] at h;rcases DK h with ⟨q,o,ha,h⟩ | ⟨cs,o,ha,h⟩
   ·rw [EZ] at h;obtain ⟨b,hb,h⟩:=Br h;obtain ⟨cells,rfl,g'⟩:=Q7 h;replace h:=g';clear g';rcases OF h with ⟨v,hx,h⟩ | h
    ·simp only [HC] at h;split at h
     ·rename_i cs;obtain ⟨hc,h⟩:=Dv h;have hc:(Nat.beq cs.length ti.size && DE cs)=true:=hc;simp only [Bool.and_eq_true] at hc;obtain ⟨h1,h⟩:=Ph cells o cs h;rw [Lx] at h;have hl:=DZ hc.1;refine key q o cells ha hb ⟨by rw [hx];rfl,by rw [hx];simp [IV.cells,hl],by omega,by rw [hx];exact Pg cs hc.2,by rw [hx];cases q<;>rfl⟩ ?_;rw [hx];exact h
     ·cases h
    ·obtain ⟨hc,h⟩:=Dp h;rw [Ik,Lx] at h;exact key q o cells ha hb hc h
   ·cases h
  cases hs:Nat.beq ti.size 1 with
  | true =>
   rw [hs] at h;have hs:=DZ hs;simp only [cond,BB] at h;cases ho:(ρ x).one with
   | false =>
    rw [ho] at h;rw [← hs] at h;exact gen h
   | true =>
    rw [ho] at h;simp only at h;rcases DK h with ⟨q,o,ha,h⟩ | ⟨cs,o,ha,h⟩
    ·rw [EZ] at h;obtain ⟨b,hb,h⟩:=Br h;obtain ⟨cells,rfl,g'⟩:=Q7 h;replace h:=g';clear g';cases hc:FG q (ρ x) with
     | false=>rw [hc] at h;cases h
     | true =>
      rw [hc] at h;simp only at h;rw [Za] at h;obtain ⟨hlt,h⟩:=Dp h;rw [Lx] at h;obtain ⟨c1,c2⟩:=MW ho;refine key q o cells ha hb ⟨c2,by rw [c1,hs];rfl,by omega,by rw [c1];simp [ho],hc⟩ ?_;rw [c1,Zz];exact h
    ·cases h
  | false =>
   rw [hs] at h;exact gen h
end
end Idl
end Go.Proofs.Ytaifgaidaglblaa
set_option linter.unusedSimpArgs false
namespace Go.Proofs.Ytaifgaidaglblaa
namespace Idl
section
variable {β:Type} {E:Env} {ih ih':Aa} {f rid i:Nat} {dr:Bool} {ρ:Operand→IV} {hp:Hp} {k:IV→Hp→List Ref→List Ref→Option β} {r:β}
theorem QA {size o:Nat} {cs:List IV} {k:IV→Option β} (h:(FY cs o fun cs=>Gh cs size fun cs=>Qe cs k)=some r) :
  Ch true size o cs=some (FI ((cs.drop o).take size))∧k (FI ((cs.drop o).take size))=some r:=by
 rw [K7] at h;obtain ⟨h1,h⟩:=Dp h;rw [Ll] at h;obtain ⟨h2,h⟩:=Dp h;rw [UI] at h;refine ⟨?_,h⟩;simp only [Ch,if_true];rw [if_pos (by simp at h2;omega)]
theorem PH {size o:Nat} {cs:List FV} {k:IV→Option β} (h:(FY cs o fun cs=>Gh cs size fun cs=>k (.fv (.agg cs)))=some r) :
  Bt true size o cs=some (.agg ((cs.drop o).take size))∧k (.fv (.agg ((cs.drop o).take size)))=some r:=by
 rw [K7] at h;obtain ⟨h1,h⟩:=Dp h;rw [Ll] at h;obtain ⟨h2,h⟩:=Dp h;refine ⟨?_,h⟩;simp only [Bt,if_true];rw [if_pos (by simp at h2;omega)]
theorem Alq {s:TypeId} {x:Operand} {fd:Nat} (h:JI E ih' f rid i dr ρ (.field s x fd) hp k=some r):GY E ih f rid i ρ (.field s x fd) hp k r:=by
 simp only [JI,BJ] at h;cases hf:H1 E s fd with
 | none=>rw [hf] at h;cases h
 | some p =>
  obtain ⟨o,ti⟩:=p;rw [hf] at h;simp only at h;cases hag:ti.kind.isAgg with
  | true =>
   rw [hag] at h;simp only [cond,AnX] at h;rcases Vd h with ⟨cs,hx,h⟩ | ⟨cs,hx,h⟩
   ·obtain ⟨h1,h2⟩:=QA (k:=fun v=>k v hp [] []) h;exact A2 (by simp only [CU,hf,hx,hag,h1];rfl) h2
   ·obtain ⟨h1,h2⟩:=PH (k:=fun v=>k v hp [] []) h;exact A2 (by simp only [CU,hf,hx,hag,h1];rfl) h2
  | false =>
   rw [hag] at h;simp only [cond,Apm] at h;rcases Vd h with ⟨cs,hx,h⟩ | ⟨cs,hx,h⟩
   ·rw [C3] at h;obtain ⟨v,hv,h⟩:=Br h;exact A2 (by simp only [CU,hf,hx,hag,Ch,Bool.false_eq_true,if_false,hv];rfl) h
   ·rw [C3] at h;obtain ⟨v,hv,h⟩:=Br h;exact A2 (by simp only [CU,hf,hx,hag,Bt,Bool.false_eq_true,if_false,hv];rfl) h
theorem VJ {s:TypeId} {x:Operand} {fd:Nat} (h:JI E ih' f rid i dr ρ (.fieldAddr s x fd) hp k=some r):GY E ih f rid i ρ (.fieldAddr s x fd) hp k r:=by
 simp only [JI,BJ] at h;cases hf:H1 E s fd with
 | none=>rw [hf] at h;cases h
 | some p =>
  obtain ⟨o,ti⟩:=p;rw [hf] at h;simp only [Hj] at h;by_cases hs:ti.size=0
  ·rw [if_pos hs] at h;cases h
  ·rw [if_neg hs] at h;unfold Ac at h;rcases DK h with ⟨q,off,hx,h⟩ | ⟨cs,off,hx,h⟩
   ·rw [BT] at h;exact A2 (by simp only [CU,hf,hx,if_neg hs]) h
   ·rw [BT] at h;exact A2 (by simp only [CU,hf,hx,if_neg hs]) h
theorem ArR {x:Operand} (h:JI E ih' f rid i dr ρ (.nilCheck x) hp k=some r):GY E ih f rid i ρ (.nilCheck x) hp k r:=by
 simp only [JI,BJ] at h;unfold AE at h;split at h
 ·rename_i hx;exact A2 (by simp only [CU,hx]) h
 ·rename_i hx;unfold Arv at h;split at h
  ·exact A2 (by simp only [CU,hx]) h
  ·unfold AkY at h;split at h
   ·exact A2 (by simp only [CU,hx]) h
   ·cases h
  ·cases h
 ·rename_i hx;unfold AkY at h;split at h
  ·exact A2 (by simp only [CU,hx]) h
  ·cases h
 ·cases h
theorem Afd {x:Operand} {ix:Nat} (h:JI E ih' f rid i dr ρ (.extract x ix) hp k=some r):GY E ih f rid i ρ (.extract x ix) hp k r:=by
 simp only [JI,BJ] at h;unfold AQ at h;split at h
 ·rename_i hx;rw [C3] at h;obtain ⟨v,hv,h⟩:=Br h;exact A2 (by simp only [CU,hx,hv];rfl) h
 ·rename_i hx;simp only [Arc] at h;split at h
  ·rw [C3] at h;obtain ⟨v,hv,h⟩:=Br h;exact A2 (by simp only [CU,hx,hv];rfl) h
  ·cases h
 ·cases h
theorem Aqh {c a b:Operand} (h:JI E ih' f rid i dr ρ (.pick c a b) hp k=some r):GY E ih f rid i ρ (.pick c a b) hp k r:=by
 simp only [JI,AG] at h;obtain ⟨t,hc,h⟩:=V8 h;cases t with
 | true=>exact A2 (by simp only [CU,hc];rfl) h
 | false=>exact A2 (by simp only [CU,hc];rfl) h
theorem V6 {t:TypeId} {x ix:Operand} (h:JI E ih' f rid i dr ρ (.indexAddr t x ix) hp k=some r):GY E ih f rid i ρ (.indexAddr t x ix) hp k r:=by
 simp only [JI,BJ] at h;split at h
 ·rename_i e z ht;split at h
  ·rename_i ei he;unfold A7 at h;obtain ⟨kd,n,hi,h⟩:=SN h;rcases Wn h with ⟨q,sz,len,hx,h⟩ | ⟨hx,h⟩
   ·obtain ⟨hc,h⟩:=Dv h;have hc:(Nat.ble (Nat.succ n) len && Nat.beq sz ei.size)=true:=hc;simp only [Bool.and_eq_true] at hc;have h1:=Bo hc.1;have h2:=DZ hc.2;rw [BT] at h;refine A2 ?_ h;simp only [CU,MA,ht,he,hi,hx];rw [if_pos ⟨by omega,by omega,h2⟩];rfl
   ·rw [Z3] at h;obtain ⟨es,he2,h⟩:=Br h;rw [C3] at h;obtain ⟨el,hel,h⟩:=Br h;rw [Ah3] at h;obtain ⟨hl,h⟩:=Dp h;refine A2 ?_ h;simp only [CU,MA,ht,he,hi];cases hxx:ρ x with
    | slc q sz len=>exact absurd hxx (hx q sz len)
    | _ =>
     rw [hxx] at he2;simp only [he2];rw [if_neg (by omega)];simp only [Int.toNat_natCast,hel];rw [if_pos hl]
  ·cases h
 ·rename_i m e z ht;split at h
  ·rename_i ei he;unfold ixA at h;obtain ⟨kd,n,hi,h⟩:=SN h;obtain ⟨hc,h⟩:=Dv h;have hc:=Bo hc;have hlt:(0:Int)≤(n:Int)∧(n:Int)<(m:Int):=⟨by omega,by omega⟩;rcases DK h with ⟨q,o,hx,h⟩ | ⟨cs,o,hx,h⟩
   ·rw [BT] at h;refine A2 ?_ h;simp only [CU,MA,ht,he,hi,hx];rw [if_pos hlt];rfl
   ·rw [BT] at h;refine A2 ?_ h;simp only [CU,MA,ht,he,hi,hx];rw [if_pos hlt];rfl
  ·cases h
 ·cases h
theorem Alg {t:TypeId} {x ix:Operand} (h:JI E ih' f rid i dr ρ (.index t x ix) hp k=some r):GY E ih f rid i ρ (.index t x ix) hp k r:=by
 simp only [JI,BJ] at h;split at h
 ·rename_i m e z ht;split at h
  ·rename_i ei he;cases hag:ei.kind.isAgg with
   | true=>rw [hag] at h;exact BQ (by simp only [F7,ht,he,hag];rfl) rfl h
   | false =>
    rw [hag] at h;simp only [cond,AqL] at h;obtain ⟨kd,n,hi,h⟩:=SN h;obtain ⟨hc,h⟩:=Dv h;have hc:=Bo hc;rcases OF h with ⟨v,hx,h⟩ | h
    ·simp only [HC] at h;split at h
     ·rw [C3] at h;obtain ⟨w,hw,h⟩:=Br h;refine A2 ?_ h;simp only [CU,ht,hi,hx,he];rw [if_pos ⟨by omega,by omega⟩];simp only [hag,Bt,Bool.false_eq_true,if_false,Int.toNat_natCast,hw];rfl
     ·cases h
    ·cases h
  ·cases h
 ·rename_i hn;refine BQ ?_ rfl h;simp only [F7]
theorem Aht {z:List IV} {o sz:Nat} {v:IV} {k:List IV→Option β} (h:HM z o sz v k=some r):(v.alive=true∧v.cells.length=sz∧o+sz≤z.length)∧k (A3 z o v.cells)=some r:=by
 have one:v.one=true→(cond (Nat.beq sz 1) (G7 z o v k) none)=some r→(v.alive=true∧v.cells.length=sz∧o+sz≤z.length)∧k (A3 z o v.cells)=some r:=by
  intro ho h;obtain ⟨hs,h⟩:=Dv h;have hs:=DZ hs;rw [Za] at h;obtain ⟨hlt,h⟩:=Dp h;obtain ⟨c1,c2⟩:=MW ho;refine ⟨⟨c2,by rw [c1,hs];rfl,by omega⟩,?_⟩;rw [c1,Zz];exact h
 unfold HM at h;rcases OF h with ⟨w,rfl,g'⟩ | h
 ·replace h:=g';clear g';cases ho:Ig w with
  | true =>
   rw [ho] at h;exact one (by cases w<;>first | rfl | cases ho) h
  | false =>
   rw [ho] at h;simp only [cond,HC] at h;split at h
   ·rename_i cs;cases hc:Nat.beq cs.length sz with
    | false=>rw [hc] at h;cases h
    | true =>
     rw [hc] at h;have hc:=DZ hc;obtain ⟨h1,h⟩:=Ph z o cs h;exact ⟨⟨rfl,by simp [IV.cells,hc],by omega⟩,h⟩
   ·cases h
 ·unfold Aem at h;cases ho:v.one with
  | true=>rw [ho] at h;exact one ho h
  | false =>
   rw [ho] at h;simp only [cond] at h;obtain ⟨hc,h⟩:=Dp h;rw [Ik] at h;exact ⟨hc,h⟩
theorem Wh:∀(pl:List (Nat×Operand)) (place:Nat→Option (Nat×Nat)) (l:List (Nat×Nat×Operand)) (z:List IV) {k:List IV→Option β},My place pl=some l→OA z (AcA ρ l) k=some r →
  ∃cells,CA place z (pl.map fun (j,x)=>(j,ρ x))=some cells∧k cells=some r
 | [],place,l,z,k,hp,h=>by
  simp only [My,AwP] at hp;subst hp;exact ⟨z,rfl,h⟩
 | (j,x)::pl,place,l,z,k,hp,h=>by
  simp only [My] at hp;cases hj:place j with
  | none=>rw [hj] at hp;cases hp
  | some os =>
   obtain ⟨o,s⟩:=os;rw [hj] at hp;simp only at hp;cases hpl:My place pl with
   | none=>rw [hpl] at hp;cases hp
   | some l' =>
    rw [hpl] at hp;simp only [AwP] at hp;subst hp;have h:(HM z o s (ρ x) fun z=>OA z (AcA ρ l') k)=some r:=h;simp only [AwV,CA,hj];obtain ⟨hc,h⟩:=Aht h;rw [if_pos hc];exact Wh pl place l' _ hpl h
theorem Ak9 {t:TypeId} {parts:Array (Nat×Operand)} (h:JI E ih' f rid i dr ρ (.build t parts) hp k=some r):GY E ih f rid i ρ (.build t parts) hp k r:=by
 simp only [JI,BJ] at h;split at h
 ·rename_i fs z ht;split at h
  ·rename_i l hl;unfold BA at h;obtain ⟨cells,h1,h2⟩:=Wh _ _ _ _ hl h;rw [UI] at h2;refine A2 ?_ h2;simp only [CU,ht,h1];rfl
  ·cases h
 ·rename_i hn;refine BQ ?_ rfl h;simp only [F7]
theorem AqV {t:TypeId} {x:Operand} (h:JI E ih' f rid i dr ρ (.box t x) hp k=some r):GY E ih f rid i ρ (.box t x) hp k r:=by
 simp only [JI,BJ] at h;have hg:E.pol.fzBox f rid i=true→CU E ih f rid i ρ (.box t x)=K3 true (Bi f rid i) (ρ x):=fun e=>by rw [Ai4,e]
 cases hz:E.pol.fzBox f rid i with
 | true =>
  rw [hz] at h;simp only [cond,fzS] at h;rcases OF h with ⟨v,hx,h⟩ | h
  ·simp only [Arx] at h;split at h
   ·rename_i cs;cases hc:Nat.ble cs.length 2000 with
    | false=>rw [hc] at h;exact BQ rfl (hg hz) h
    | true =>
     rw [hc] at h;have hc:=Bo hc;have key:∀(n:Nat) (cs:List FV),cs.length<n→frzL n (cs.map .fv)=.ret (cs,[]):=by
      intro n
      induction n with
      | zero=>intro cs h;omega
      | succ n ih =>
       intro cs h;cases cs with
       | nil=>rfl
       | cons c cs =>
        cases n with
        | zero=>simp at h
        | succ n =>
         simp only [AwV,frzL,C2,Rd.bind];rw [ih cs (by simp at h ⊢;omega)];rfl
     refine ⟨_,hp,[],[],⟨{ eff:={ val:=.fv (.fp cs 0),upd:=[] } },?_,rfl,rfl,rfl⟩,h,fun q=>by cases q⟩;simp only [CU,hx,IV.alive,Bool.true_eq_false,if_false,hz,if_true,IV.cells,key 4096 cs (by omega)];rfl
   ·exact BQ rfl (hg hz) h
  ·exact BQ rfl (hg hz) h
 | false =>
  rw [hz] at h;simp only [cond,A4] at h;have key:∀cs,(ρ x).cells=cs→(ρ x).alive=true→AH (Bi f rid i) (.row cs false) (.ptr (.own (Bi f rid i)) 0) hp k=some r→GY E ih f rid i ρ (.box t x) hp k r:=by
   intro cs hcs ha h;refine V0 rfl ?_ h;simp only [CU,ha,Bool.true_eq_false,if_false,hz,Bool.false_eq_true,hcs]
  cases ho:(ρ x).one with
  | true =>
   rw [ho] at h;obtain ⟨c1,c2⟩:=MW ho;exact key _ c1 c2 h
  | false =>
   rw [ho] at h;simp only at h;obtain ⟨ha,h⟩:=Dv h;rw [Ik] at h;exact key _ rfl ha h
theorem AfA {s d:TypeId} {x:Operand} (h:JI E ih' f rid i dr ρ (.convert s d x) hp k=some r):GY E ih f rid i ρ (.convert s d x) hp k r:=by
 simp only [JI,BJ] at h;split at h
 ·rename_i hs hd;obtain ⟨v,h1,h2⟩:=Afm hs hd h;exact A2 (by simp only [CU,h1];rfl) h2
 ·rw [CK] at h;exact QR rfl h
def Iso (E:Env) (ih:Aa) (g:FuncId) (args:List IV) (hp:Hp) (k:IV→Hp→List Ref→List Ref→Option β) (r:β):Prop :=
 ∃e rd hp',(HA E ih g args).runLog hp []=some (e,rd)∧laid hp e.upd=some hp'∧k e.val hp' rd (Bw e.upd)=some r
theorem Lw (hi:∀f args h x,ih' f args h=some x→ih f args h=some x) {g:FuncId} {args:List IV} (h:GU (E.pol.keep g) (E.pol.split g) (E.pol.raw g) ih' g args hp k=some r):Iso E ih g args hp k r:=by
 have hasked:∀args ext x,Mo (E.pol.split g) ih' g args ext=some x→asked E ih g args ext=some x:=by
  intro args ext x e;unfold Mo at e;unfold asked;split at e
  ·rename_i hs;rw [if_pos hs];split at e
   ·split at e
    ·rename_i hc;simp only [Bool.and_eq_true] at hc;have mono:∀{o o':Option (IV×Hp)},(∀x,o=some x→o'=some x)→CL o=true→CL o'=true:=by
      intro o o' hm h;cases o with
      | none=>cases h
      | some x=>rw [hm x rfl];exact h
     rw [if_pos (by rw [mono (hi _ _ _) hc.1,mono (hi _ _ _) hc.2];rfl)];exact e
    ·cases e
   ·rename_i hne
    have:=hi _ _ _ _ e
    split
    ·exact absurd rfl (fun e=>hne rfl e)
    ·exact this
  ·rename_i hs;rw [if_neg hs];exact hi _ _ _ _ e
 unfold GU at h;split at h
 ·cases h
 rename_i vs rs u l1 h1;split at h
 ·cases h
 rename_i l l2 h2;split at h
 ·cases h
 rename_i vs' h3;split at h
 ·cases h
 rename_i ext h4;simp only [E8 (CB 3),E8 C8] at h;split at h
 ·cases h
 rename_i res hp' h5;split at h
 ·cases h
 rename_i res1 h6;split at h
 ·cases h
 rename_i res2 h7;split at h
 ·cases h
 rename_i ext' h8;obtain ⟨hc,h⟩:=Dp h;split at h
 ·cases h
 rename_i hp2 h9;simp only [ON,CB] at h;refine ⟨{ val:=res2,upd:=u++(Bw l).zip ext' },l2,hp2,?_,h9,h⟩;simp only [HA,By,h1,h2,Option.bind_some,h3,h4,hasked _ _ _ h5];rw [show Ih E g res hp'=some res1 from h6]
 simp only [Option.bind_some,h7,h8];rw [if_pos hc];rfl
def AmN (M:Nat) (g:FzK β):Prop:=∀v h lg e k r,g v h lg e k=some r→e=some r∨∃x u lg',(∀N,M≤N→(C2 N v).runLog h lg=some ((x,u),lg'))∧(∀p∈u,∃s,p.1=Ref.own s)∧k x u lg'=some r
theorem JC {M:Nat} {g:FzK β} (hg:AmN M g):∀(l:List IV) h lg e k r,Cz g l h lg e k=some r →
  e=some r∨∃xs us lg',(∀N,M+l.length+1≤N→(frzL N l).runLog h lg=some ((xs,us),lg'))∧(∀p∈us,∃s,p.1=Ref.own s)∧k xs us lg'=some r
 | [],h,lg,e,k,r,hh=>.inr ⟨[],[],lg,fun N hN=>(by cases N with | zero=>simp at hN | succ N=>rfl),fun p hp=>(by cases hp),hh⟩
 | v::l,h,lg,e,k,r,hh=>by
  have hh:(g v h lg e fun y u lg=>Cz g l h lg e fun ys us lg=>Nw u us fun w=>k (y::ys) w lg)=some r:=hh;rcases hg _ _ _ _ _ _ hh with h1 | ⟨x,u,lg1,h1,hu,hh⟩
  ·exact .inl h1
  ·rcases JC hg l _ _ _ _ _ hh with h2 | ⟨xs,us,lg2,h2,hus,hh⟩
   ·exact .inl h2
   ·rw [X4] at hh;refine .inr ⟨x::xs,u++us,lg2,fun N hN=>?_,fun p hp=>?_,hh⟩
    ·cases N with
     | zero=>simp at hN
     | succ N =>
      simp only [AwT] at hN;simp only [frzL,By,h1 N (by omega),Option.bind_some,h2 N (by omega)];rfl
    ·rcases List.mem_append.1 hp with hp | hp
     ·exact hu p hp
     ·exact hus p hp
theorem PC:∀d,AmN (β:=β) (310 * d) (Dj d)
 | 0=>fun v h lg e k r hh=>.inl hh
 | d+1=>by
  intro v h lg e k r hh;have ihd:AmN (β:=β) (310 * d) (Dj d):=PC d;have one:∀{w:FV},(∀N,C2 (N+1) v=.ret (w,[]))→k w [] lg=some r→e=some r∨∃x u lg',(∀N,310 * (d+1)≤N→(C2 N v).runLog h lg=some ((x,u),lg'))∧(∀p∈u,∃s,p.1=Ref.own s)∧k x u lg'=some r:=by
   intro w hw hk;refine .inr ⟨w,[],lg,fun N hN=>?_,fun p hp=>(by cases hp),hk⟩;cases N with
   | zero=>omega
   | succ N=>rw [hw];rfl
  have own:∀{q:Ref} {e:Option β} {k:Nat→Option β},W2 q e k=some r→e=some r∨∃s,q=.own s∧k s=some r:=by
   intro q e k h;cases q with
   | own s=>exact .inr ⟨s,rfl,h⟩
   | ext j=>exact .inl h
  have cnd2:∀{c:Bool} {a e:Option β},cond c a e=some r→e=some r∨(c=true∧a=some r):=by
   intro c a e h;cases c with
   | true=>exact .inr ⟨rfl,h⟩
   | false=>exact .inl h
  cases v with
  | fv w=>exact one (fun _=>rfl) hh
  | nils=>exact one (fun _=>rfl) hh
  | emp=>exact one (fun _=>rfl) hh
  | clip es=>exact one (fun _=>rfl) hh
  | app q es=>exact one (fun _=>rfl) hh
  | dead=>exact .inl hh
  | tuple vs=>exact .inl hh
  | mapr q=>exact .inl hh
  | ptr q off =>
   have hh:(W2 q e fun s=>Da (.own s) h fun b=>DB b fun cells=>cond (Nat.ble cells.length 300) (Cz (Dj d) cells h (.own s::lg) e fun cs u lg=>k (.fp cs off) ((.own s,.row cells true)::u) lg) e)=some r:=hh;rcases own hh with h1 | ⟨s,rfl,g'⟩
   ·exact .inl h1
   ·replace hh:=g';clear g';rw [EZ] at hh;obtain ⟨b,hb,hh⟩:=Br hh;obtain ⟨cells,ro,hbb,hh⟩:=GW hh;rcases cnd2 hh with h1 | ⟨hl,hh⟩
    ·exact .inl h1
    ·have hl:=Bo hl;rcases JC ihd cells _ _ _ _ _ hh with h1 | ⟨xs,us,lg2,h2,hus,hh⟩
     ·exact .inl h1
     ·refine .inr ⟨_,_,_,fun N hN=>?_,fun p hp=>?_,hh⟩
      ·cases N with
       | zero=>omega
       | succ N =>
        simp only [C2,Rd.runLog,hb,hbb,By,h2 N (by omega),Option.bind_some]
      ·rcases List.mem_cons.1 hp with rfl | hp
       ·exact ⟨s,rfl⟩
       ·exact hus p hp
  | slc q sz len =>
   have hh:(W2 q e fun s=>Da (.own s) h fun b=>DB b fun cells=>cond (Nat.ble cells.length 300) (cond (or (Nat.beq sz 0) (not (Nat.ble (len * sz) cells.length))) none
    (Cz (Dj d) cells h (.own s::lg) e fun cs u lg=>XU sz len cs fun els=>k (.sl els) ((.own s,.row cells true)::u) lg)) e)=some r:=hh
   rcases own hh with h1 | ⟨s,rfl,g'⟩
   ·exact .inl h1
   ·replace hh:=g';clear g';rw [EZ] at hh;obtain ⟨b,hb,hh⟩:=Br hh;obtain ⟨cells,ro,hbb,hh⟩:=GW hh;rcases cnd2 hh with h1 | ⟨hl,hh⟩
    ·exact .inl h1
    ·have hl:=Bo hl;cases hc:(or (Nat.beq sz 0) (not (Nat.ble (len * sz) cells.length))) with
     | true=>rw [hc] at hh;cases hh
     | false =>
      rw [hc] at hh;simp only [cond] at hh;have hc:(Nat.beq sz 0 || !Nat.ble (len * sz) cells.length)=false:=hc;simp only [Bool.or_eq_false_iff,Bool.not_eq_false'] at hc;have c1:sz≠0:=fun e=>by rw [e] at hc;exact absurd hc.1 (by decide)
      have c2:=Bo hc.2;rcases JC ihd cells _ _ _ _ _ hh with h1 | ⟨xs,us,lg2,h2,hus,hh⟩
      ·exact .inl h1
      ·have hh:=AhM sz len _ hh;refine .inr ⟨_,_,_,fun N hN=>?_,fun p hp=>?_,hh⟩
       ·cases N with
        | zero=>omega
        | succ N =>
         simp only [C2,Rd.runLog,hb,hbb];rw [if_neg (by omega)];simp only [By,h2 N (by omega),Option.bind_some,Rd.runLog]
       ·rcases List.mem_cons.1 hp with rfl | hp
        ·exact ⟨s,rfl⟩
        ·exact hus p hp
  | agg cs =>
   have hh:cond (Nat.ble cs.length 300) (Cz (Dj d) cs h lg e fun cs u lg=>k (.agg cs) u lg) e=some r:=hh;rcases cnd2 hh with h1 | ⟨hl,hh⟩
   ·exact .inl h1
   ·have hl:=Bo hl;rcases JC ihd cs _ _ _ _ _ hh with h1 | ⟨xs,us,lg2,h2,hus,hh⟩
    ·exact .inl h1
    ·refine .inr ⟨_,_,_,fun N hN=>?_,hus,hh⟩;cases N with
     | zero=>omega
     | succ N=>simp only [C2,By,h2 N (by omega),Option.bind_some,Rd.runLog]
  | func fn a b =>
   have hh:cond (and (Nat.ble a.length 300) (Nat.ble b.length 300)) (Cz (Dj d) a h lg e fun x u lg=>Cz (Dj d) b h lg e fun y v lg=>Nw u v fun w=>k (.func fn x y) w lg) e=some r:=hh;rcases cnd2 hh with h1 | ⟨hl,hh⟩
   ·exact .inl h1
   ·have hl:(Nat.ble a.length 300 && Nat.ble b.length 300)=true:=hl;simp only [Bool.and_eq_true] at hl;have l1:=Bo hl.1;have l2:=Bo hl.2;rcases JC ihd a _ _ _ _ _ hh with h1 | ⟨xs,us,lg2,h2,hus,hh⟩
    ·exact .inl h1
    ·rcases JC ihd b _ _ _ _ _ hh with h1 | ⟨ys,vs,lg3,h3,hvs,hh⟩
     ·exact .inl h1
     ·rw [X4] at hh;refine .inr ⟨_,_,_,fun N hN=>?_,fun p hp=>?_,hh⟩
      ·cases N with
       | zero=>omega
       | succ N=>simp only [C2,By,h2 N (by omega),h3 N (by omega),Option.bind_some,Rd.runLog]
      ·rcases List.mem_append.1 hp with hp | hp
       ·exact hus p hp
       ·exact hvs p hp
def Me (m:Nat) (l:List Ref):Prop:=∀r∈l,∃j,r=.ext j∧j<m
theorem Xz:∀(args:List IV) (keep:List Bool) h lg e k r,Vg (β:=β) args keep h lg e k=some r →
  e=some r∨∃vs rs us lg',(Bv keep args).runLog h lg=some ((vs,rs,us),lg')∧(∀p∈us,∃s,p.1=Ref.own s)∧(IV.refs.refsL vs=rs)∧k vs rs us lg'=some r
 | [],keep,h,lg,e,k,r,hh=>.inr ⟨[],[],[],lg,by cases keep<;>rfl,fun p hp=>(by cases hp),rfl,hh⟩
 | x::l,keep,h,lg,e,k,r,hh=>by
  have fz:∀ks,(Dj 12 x h lg e fun y u lg=>Vg l ks h lg e fun vs rs us lg=>Nw u us fun w=>k (.fv y::vs) rs w lg)=some r →
    e=some r∨∃vs rs us lg',((C2 4096 x).bind fun (x,u)=>(Bv ks l).bind fun (vs,rs,u')=>Rd.ret (IV.fv x::vs,rs,u++u')).runLog h lg=some ((vs,rs,us),lg')∧(∀p∈us,∃s,p.1=Ref.own s)∧(IV.refs.refsL vs=rs)∧k vs rs us lg'=some r:=by
   intro ks hh;rcases PC 12 _ _ _ _ _ _ hh with h1 | ⟨y,u,lg1,h1,hu,hh⟩
   ·exact .inl h1
   ·rcases Xz l ks _ _ _ _ _ hh with h2 | ⟨vs,rs,us,lg2,h2,hus,hrs,hh⟩
    ·exact .inl h2
    ·rw [X4] at hh;refine .inr ⟨_,_,_,_,?_,fun p hp=>?_,?_,hh⟩
     ·simp only [By,h1 4096 (by decide),Option.bind_some,h2,Rd.runLog]
     ·rcases List.mem_append.1 hp with hp | hp
      ·exact hu p hp
      ·exact hus p hp
     ·simp only [IV.refs.refsL,IV.refs,List.nil_append,hrs]
  cases keep with
  | nil=>exact fz [] hh
  | cons b ks =>
   cases b with
   | false=>exact fz ks hh
   | true =>
    have hh:(Ff x (fun q o=>Vg l ks h lg e fun vs rs us lg=>k (.ptr q o::vs) (q::rs) us lg) fun _ _=>e)=some r:=hh;rcases DK hh with ⟨q,o,hx,hh⟩ | ⟨cs,o,_,hh⟩
    ·rcases Xz l ks _ _ _ _ _ hh with h2 | ⟨vs,rs,us,lg2,h2,hus,hrs,hh⟩
     ·exact .inl h2
     ·refine .inr ⟨_,_,_,_,?_,hus,?_,hh⟩
      ·simp only [Bv,By,h2,Option.bind_some,Rd.runLog,hx,IV.refs];rfl
      ·simp only [IV.refs.refsL,IV.refs,hrs];rfl
    ·exact .inl hh
mutual
theorem VG:∀(v:IV) (acc:List Ref),Wm v acc=v.refs++acc
 | .dead,_=>rfl
 | .fv _,_=>rfl
 | .ptr _ _,_=>rfl
 | .slc _ _ _,_=>rfl
 | .nils,_=>rfl
 | .emp,_=>rfl
 | .clip _,_=>rfl
 | .app _ _,_=>rfl
 | .mapr _,_=>rfl
 | .func _ a b,acc=>by
  show CD a (CD b acc)=(IV.refs.refsL a++IV.refs.refsL b)++acc
  rw [refsDL_eq,refsDL_eq,List.append_assoc]
 | .agg cs,acc=>refsDL_eq cs acc
 | .tuple cs,acc=>refsDL_eq cs acc
theorem refsDL_eq:∀(l:List IV) (acc:List Ref),CD l acc=IV.refs.refsL l++acc
 | [],_=>rfl
 | v::l,acc=>by
  show Wm v (CD l acc)=(v.refs++IV.refs.refsL l)++acc
  rw [VG,refsDL_eq,List.append_assoc]
end
theorem L5 (b:Blk):Fo b=b.refs:=by
 cases b with
 | row cells ro =>
  show CD cells []=_
  rw [refsDL_eq,List.append_nil];rfl
 | tok _ _=>rfl
 | map es =>
  show _=IV.refs.refsL (es.map (·.2))
  induction es with
  | nil=>rfl
  | cons p es ih =>
   obtain ⟨n,v⟩:=p
   show Wm v (Fo (.map es))=v.refs++_
   rw [VG];congr 1
mutual
theorem ApR {g:Ref→Option Ref}:∀(v:IV),(∀r∈v.refs,g r=some r)→v.ren g=some v
 | .dead,_=>rfl
 | .fv _,_=>rfl
 | .nils,_=>rfl
 | .emp,_=>rfl
 | .clip _,_=>rfl
 | .ptr r o,h=>by simp only [IV.ren,h r (by simp [IV.refs]),AwS]
 | .slc r sz n,h=>by simp only [IV.ren,h r (by simp [IV.refs]),AwS]
 | .app r es,h=>by simp only [IV.ren,h r (by simp [IV.refs]),AwS]
 | .mapr r,h=>by simp only [IV.ren,h r (by simp [IV.refs]),AwS]
 | .func fn a b,h=>by
  have h1:=renL_id (g:=g) a (fun r hr=>h r (by simp only [IV.refs,List.mem_append];exact .inl hr));have h2:=renL_id (g:=g) b (fun r hr=>h r (by simp only [IV.refs,List.mem_append];exact .inr hr));simp only [IV.ren,h1,h2,Option.bind_some,AwS]
 | .agg cs,h=>by
  have h1:=renL_id (g:=g) cs h;simp only [IV.ren,h1,AwS]
 | .tuple cs,h=>by
  have h1:=renL_id (g:=g) cs h;simp only [IV.ren,h1,AwS]
theorem renL_id {g:Ref→Option Ref}:∀(l:List IV),(∀r∈IV.refs.refsL l,g r=some r)→IV.ren.renL g l=some l
 | [],_=>rfl
 | v::l,h=>by
  have h1:=ApR (g:=g) v (fun r hr=>h r (by simp only [IV.refs.refsL,List.mem_append];exact .inl hr));have h2:=renL_id (g:=g) l (fun r hr=>h r (by simp only [IV.refs.refsL,List.mem_append];exact .inr hr));simp only [IV.ren.renL,h1,h2,Option.bind_some,AwS]
end
theorem AhF {α γ:Type}:∀(l:List (α×γ)),(l.map (·.1)).zip (l.map (·.2))=l
 | []=>rfl
 | p::l=>by simp only [AwV,List.zip_cons_cons,AhF l]
theorem Am3 {g:Ref→Option Ref} (b:Blk) (h:∀r∈b.refs,g r=some r):b.ren g=some b:=by
 cases b with
 | row cells ro=>simp only [Blk.ren,renL_id cells h,AwS]
 | tok _ _=>rfl
 | map es =>
  have e:=renL_id (g:=g) (es.map (fun p:Int×IV=>p.2)) h;simp only [Blk.ren,e,AwS,AhF]
theorem SZ {g:Ref→Option Ref}:∀(l:List Blk),(∀b∈l,∀r∈b.refs,g r=some r)→Bd g l=some l
 | [],_=>rfl
 | b::l,h=>by
  simp only [Bd,Am3 b (h b List.mem_cons_self),Option.bind_some,SZ l (fun c hc=>h c (List.mem_cons_of_mem _ hc)),AwS]
def BO:Nat→List Blk→List (Ref×Blk)
 | _,[]=>[]
 | s,b::l=>(.ext s,b)::BO (s+1) l
theorem Qy:∀(s:Nat) (l:List Blk) (b:Blk),BO s (l++[b])=BO s l++[(.ext (s+l.length),b)]
 | s,[],b=>rfl
 | s,c::l,b=>by
  simp only [List.cons_append,BO,Qy (s+1) l b,AwT];rw [show s+1+l.length=s+(l.length+1) by omega]
theorem QX:∀(s:Nat) (l:List Blk),(BO s l).map (·.2)=l
 | _,[]=>rfl
 | s,b::l=>by simp only [BO,AwV,QX (s+1) l]
theorem MH:∀(s:Nat) (l:List Blk),(BO s l).length=l.length
 | _,[]=>rfl
 | s,b::l=>by simp only [BO,AwT,MH (s+1) l]
theorem Mm:∀(s j:Nat) (l:List Blk),s≤j→hasRef (.ext j) (BO s l)=decide (j<s+l.length)
 | s,j,[],h=>by simp only [BO,hasRef,List.length_nil];rw [decide_eq_false (by omega)]
 | s,j,b::l,h=>by
  simp only [BO,hasRef,AwT];by_cases e:j=s
  ·subst e;simp
  ·rw [Mm (s+1) j l (by omega),decide_eq_false (by simp [e]),Bool.false_or];congr 1;exact propext ⟨fun h=>by omega,fun h=>by omega⟩
theorem QW:∀(s k:Nat) (l:List Blk),hasRef (.own k) (BO s l)=false
 | _,_,[]=>rfl
 | s,k,b::l=>by simp only [BO,hasRef,QW (s+1) k l,Bool.or_false];exact decide_eq_false (by simp)
theorem Nk:∀(s j i:Nat) (l:List Blk),s≤j→j<s+l.length→Co (.ext j) (BO s l) i=some (i+(j - s))
 | s,j,i,[],h1,h2=>by simp at h2;omega
 | s,j,i,b::l,h1,h2=>by
  simp only [AwT] at h2;simp only [BO,Co];by_cases e:j=s
  ·subst e;simp
  ·rw [if_neg (by simp [e]),Nk (s+1) j (i+1) l (by omega) (by omega)];congr 1;omega
theorem Qp:∀(s j:Nat) (l:List Blk),j<l.length→((BO s l)[j]?).map (·.1)=some (.ext (s+j))
 | s,j,[],h=>by simp at h
 | s,0,b::l,h=>rfl
 | s,j+1,b::l,h=>by
  simp only [AwT] at h;simp only [BO,List.getElem?_cons_succ];rw [Qp (s+1) j l (by omega)];congr 2;omega
theorem WG (s:Nat):∀(l:List Blk),Bw (BO s l)=(List.range' s l.length).map .ext:=by
 intro l
 induction l generalizing s with
 | nil=>rfl
 | cons b l ih=>simp only [BO,Bw,AwV,AwT,List.range'_succ];exact congrArg _ (ih (s+1))
theorem Aow {own:List (Nat×Blk)} {ext:List Blk}:∀(n:Nat) (todo:List Ref) (s:Nat) (rest:List Blk),s≤ext.length→ext.drop s=rest→Qi n todo s rest=true →
  (∀N,n≤N→∀lg,(Ck N todo (BO 0 (ext.take s))).runLog ⟨own,ext⟩ lg=some (BO 0 ext,((List.range' s (ext.length - s)).map Ref.ext).reverse++lg)) ∧
  Me ext.length todo∧(∀b∈rest,Me ext.length b.refs):=by
 intro n
 induction n with
 | zero=>intro todo s rest _ _ h;cases h
 | succ n ih =>
  intro todo s rest hs hd h;cases todo with
  | nil =>
   cases rest with
   | cons _ _=>cases h
   | nil =>
    have he:s=ext.length:=by
     have:=congrArg List.length hd
     simp at this;omega
    refine ⟨fun N hN lg=>?_,fun r hr=>(by cases hr),fun b hb=>(by cases hb)⟩;cases N with
    | zero=>omega
    | succ N =>
     subst he;simp only [Ck,Rd.runLog,List.take_length,Nat.sub_self,List.range'_zero,AwU,List.reverse_nil,List.nil_append]
  | cons r t =>
   cases r with
   | own k=>cases h
   | ext j =>
    have h:cond (Nat.ble (Nat.succ j) s) (Qi n t s rest) (cond (Nat.beq j s) (goR (Qi n) t s rest) false)=true:=h;have hl:(ext.take s).length=s:=by simp;omega
    cases hj:Nat.ble (Nat.succ j) s with
    | true =>
     rw [hj] at h;have hj:=Bo hj;obtain ⟨h1,h2,h3⟩:=ih t s rest hs hd h;refine ⟨fun N hN lg=>?_,fun r hr=>?_,h3⟩
     ·cases N with
      | zero=>omega
      | succ N =>
       simp only [Ck];rw [Mm 0 j _ (Nat.zero_le _),hl,decide_eq_true (by omega),if_pos rfl];exact h1 N (by omega) lg
     ·rcases List.mem_cons.1 hr with rfl | hr
      ·exact ⟨j,rfl,by omega⟩
      ·exact h2 r hr
    | false =>
     rw [hj] at h;simp only [cond] at h;have hj':¬ j<s:=fun e=>by rw [Nat.ble_eq_true_of_le (Nat.succ_le_of_lt e)] at hj;cases hj
     cases hb:Nat.beq j s with
     | false=>rw [hb] at h;cases h
     | true =>
      rw [hb] at h;have hb:=DZ hb;subst hb;simp only at h;cases rest with
      | nil=>cases h
      | cons b rest =>
       have h:Qi n (t++Fo b) (Nat.succ j) rest=true:=h;have hjl:j<ext.length:=by
        have:=congrArg List.length hd
        simp at this;omega
       have hgb:ext[j]?=some b:=by
        rw [← List.head?_drop,hd];rfl
       have hd':ext.drop (j+1)=rest:=by rw [← List.tail_drop,hd];rfl
       obtain ⟨h1,h2,h3⟩:=ih (t++Fo b) (j+1) rest (by omega) hd' h;rw [L5] at h1 h2;refine ⟨fun N hN lg=>?_,fun r hr=>?_,fun c hc=>?_⟩
       ·cases N with
        | zero=>omega
        | succ N =>
         simp only [Ck];rw [Mm 0 j _ (Nat.zero_le _),hl,decide_eq_false (by omega)];simp only [Bool.false_eq_true,if_false,Rd.runLog,Hp.get,hgb];have ht:BO 0 (ext.take j)++[(.ext j,b)]=BO 0 (ext.take (j+1)):=by
          have:ext.take (j+1)=ext.take j++[b]:=by
           rw [List.take_add_one,hgb];rfl
          rw [this,Qy,hl,Nat.zero_add]
         rw [ht,h1 N (by omega) (.ext j::lg)];rw [show ext.length - j=(ext.length - (j+1))+1 by omega,List.range'_succ]
         simp
       ·rcases List.mem_cons.1 hr with rfl | hr
        ·exact ⟨j,rfl,hjl⟩
        ·exact h2 r (List.mem_append_left _ hr)
       ·rcases List.mem_cons.1 hc with rfl | hc
        ·exact fun r hr=>h2 r (List.mem_append_right _ hr)
        ·exact h3 c hc
theorem Ags {m:Nat}:∀(l:List Ref),okR m l=true→Me m l
 | [],_=>fun r hr=>by cases hr
 | .own k::l,h=>by cases h
 | .ext j::l,h=>by
  have h:cond (Nat.ble (Nat.succ j) m) (okR m l) false=true:=h;cases hj:Nat.ble (Nat.succ j) m with
  | false=>rw [hj] at h;cases h
  | true =>
   rw [hj] at h;have hj:=Bo hj;intro r hr;rcases List.mem_cons.1 hr with rfl | hr
   ·exact ⟨j,rfl,by omega⟩
   ·exact Ags l h r hr
theorem Ahs {m:Nat}:∀(l:List Blk),okB m l=true→∀b∈l,Me m b.refs
 | [],_=>fun b hb=>by cases hb
 | b::l,h=>by
  have h:cond (okR m (Fo b)) (okB m l) false=true:=h;cases hb:okR m (Fo b) with
  | false=>rw [hb] at h;cases h
  | true =>
   rw [hb] at h;rw [L5] at hb;intro c hc;rcases List.mem_cons.1 hc with rfl | hc
   ·exact Ags _ hb
   ·exact Ahs l h c hc
theorem R4:∀(u:List (Ref×Blk)) (own:List (Nat×Blk)) (ext ext':List Blk) {k:Hp→Option β} {r:β},Mb u ⟨own,ext'⟩ k=some r →
  ∃own2,laid ⟨own,ext⟩ u=some ⟨own2,ext⟩∧laid ⟨own,ext'⟩ u=some ⟨own2,ext'⟩∧k ⟨own2,ext'⟩=some r
 | [],own,ext,ext',k,r,h=>⟨own,rfl,rfl,h⟩
 | (q,b)::u,own,ext,ext',k,r,h=>by
  have h:(W2 q none fun s=>Da (.own s) ⟨own,ext'⟩ fun _=>Ge (.own s) b ⟨own,ext'⟩ fun h=>Mb u h k)=some r:=h;cases q with
  | ext j=>cases h
  | own s =>
   have h:(Da (.own s) ⟨own,ext'⟩ fun _=>Ge (.own s) b ⟨own,ext'⟩ fun h=>Mb u h k)=some r:=h;rw [EZ] at h;obtain ⟨c,hc,h⟩:=Br h;rw [Lx] at h;obtain ⟨own2,h1,h2,h3⟩:=R4 u (AN s b own) ext ext' h;refine ⟨own2,?_,?_,h3⟩
   ·simp only [laid];rw [show (Hp.mk own ext).get (.own s)=some c from hc]
    exact h1
   ·simp only [laid];rw [hc];exact h2
theorem PQ:∀(ext' pre ext:List Blk) (own:List (Nat×Blk)),ext.length=ext'.length→laid ⟨own,pre++ext⟩ (((List.range' pre.length ext'.length).map Ref.ext).zip ext')=some ⟨own,pre++ext'⟩
 | [],pre,ext,own,h=>by
  cases ext with
  | nil=>rfl
  | cons _ _=>cases h
 | b::ext',pre,ext,own,h=>by
  cases ext with
  | nil=>cases h
  | cons c ext =>
   simp only [AwT,Nat.add_right_cancel_iff] at h;simp only [AwT,List.range'_succ,AwV,List.zip_cons_cons,laid,Hp.get];rw [List.getElem?_append_right (Nat.le_refl _),Nat.sub_self];simp only [List.getElem?_cons_zero,Hp.set];have e:(pre++c::ext).set pre.length b=(pre++[b])++ext:=by
    rw [List.set_append_right _ _ (Nat.le_refl _),Nat.sub_self];simp
   rw [e]
   have:=PQ ext' (pre++[b]) ext own h
   simp only [List.length_append,List.length_singleton] at this;rw [this];simp
theorem Wf:∀(a b:List (Ref×Blk)) (h:Hp),laid h (a++b)=(laid h a).bind fun h=>laid h b
 | [],_,_=>rfl
 | (q,c)::a,b,h=>by
  simp only [List.cons_append,laid];cases h.get q with
  | none=>rfl
  | some _=>exact Wf a b _
theorem ZT (hi:∀f args h x,ih' f args h=some x→ih f args h=some x) {g:FuncId} {args:List IV} (h:Al (E.pol.keep g) (E.pol.split g) (E.pol.raw g) ih' g args hp k=some r):Iso E ih g args hp k r:=by
 unfold Al at h;cases hc:(cond (E.pol.split g) true (E.pol.raw g)) with
 | true=>rw [hc] at h;exact Lw hi h
 | false =>
  rw [hc] at h;simp only [cond] at h;have hs:E.pol.split g=false:=by cases e:E.pol.split g with | false=>rfl | true=>rw [e] at hc;cases hc
  rw [hs] at hc;have hr:E.pol.raw g=false:=hc;rcases Xz _ _ _ _ _ _ _ h with h1 | ⟨vs,rs,us,lg,hz,hus,hrs,h⟩
  ·exact Lw hi h1
  ·cases rs with
   | nil =>
    simp only at h;cases he:ih' g vs ⟨[],[]⟩ with
    | none=>rw [he] at h;cases h
    | some p =>
     obtain ⟨v,⟨own,ext⟩⟩:=p;rw [he] at h;cases ext with
     | cons b ext=>exact absurd (show (none:Option β)=some r from h) (by simp)
     | nil =>
      have h:(Dj 12 v ⟨own,[]⟩ [] (GU (E.pol.keep g) (E.pol.split g) (E.pol.raw g) ih' g args hp k) fun w _ _=>Mb us hp fun h2=>k (.fv w) h2 lg (Bw us))=some r:=h;rcases PC 12 _ _ _ _ _ _ h with h1 | ⟨w,u2,lg2,h2,_,h⟩
      ·exact Lw hi h1
      ·obtain ⟨own0,ext0⟩:=hp;obtain ⟨own2,l1,l2,h⟩:=R4 us own0 ext0 ext0 h;refine ⟨{ val:=.fv w,upd:=us },lg,⟨own2,ext0⟩,?_,l1,h⟩;have hw:=F8 _ _ _ _ _ (h2 4096 (by decide));have hren:∀q,IV.ren.renL q vs=some vs:=fun q=>renL_id vs (fun r hr=>by rw [hrs] at hr;cases hr);simp only [HA,By,hz,Option.bind_some,Ck,Rd.runLog,hren,AwU,Bd,asked,hs,Bool.false_eq_true,if_false,hi _ _ _ _ he,Ih,hr,hw,AwS,IV.ren,Rd.of];have hk:(Bw us).all (fun r=>!hasRef r [])=true:=List.all_eq_true.2 fun r _=>rfl;rw [if_pos ⟨rfl,hk⟩];simp only [Rd.runLog,Bw,AwU,List.zip_nil_left,List.append_nil]
   | cons q rs =>
    obtain ⟨own0,ext0⟩:=hp;simp only at h;cases hg:Qi 400 (q::rs) 0 ext0 with
    | false=>rw [hg] at h;exact Lw hi h
    | true =>
     rw [hg] at h;simp only at h;obtain ⟨g1,g2,g3⟩:=Aow (own:=own0) 400 (q::rs) 0 ext0 (Nat.zero_le _) rfl hg;cases he:ih' g vs ⟨[],ext0⟩ with
     | none=>rw [he] at h;cases h
     | some p =>
      obtain ⟨v,⟨own,ext⟩⟩:=p;rw [he] at h;simp only at h;obtain ⟨ho,h⟩:=Dv h;have ho:(Nat.beq ext.length ext0.length && okB ext0.length ext)=true:=ho;simp only [Bool.and_eq_true] at ho;have hlen:=DZ ho.1;have hok:=Ahs _ ho.2;rcases PC 12 _ _ _ _ _ _ h with h1 | ⟨w,u2,lg2,h2,_,h⟩
      ·exact Lw hi h1
      ·obtain ⟨own2,l1,l2,h⟩:=R4 us own0 ext0 ext h;have hw:=F8 _ _ _ _ _ (h2 4096 (by decide));have hin:∀l,Me ext0.length l→∀r∈l,E9 (BO 0 ext0) r=some r:=by
        intro l hl r hr;obtain ⟨j,rfl,hj⟩:=hl r hr;simp only [E9];rw [Nk 0 j 0 ext0 (Nat.zero_le _) (by omega)];simp
       have hbk:∀l,Me ext0.length l→∀r∈l,Cw (BO 0 ext0) r=some r:=by
        intro l hl r hr;obtain ⟨j,rfl,hj⟩:=hl r hr;simp only [Cw];rw [Qp 0 j ext0 hj,Nat.zero_add]
       have hv:IV.ren.renL (E9 (BO 0 ext0)) vs=some vs:=renL_id vs (fun r hr=>hin _ g2 r (by rw [hrs] at hr;exact hr));have hb1:Bd (E9 (BO 0 ext0)) ext0=some ext0:=SZ ext0 (fun b hb r hr=>hin _ (g3 b hb) r hr);have hb2:Bd (Cw (BO 0 ext0)) ext=some ext:=SZ ext (fun b hb r hr=>hbk _ (hok b hb) r hr);have hkeys:Bw (BO 0 ext0)=CR ext0.length:=by rw [WG,CR,List.range_eq_range']
       refine ⟨{ val:=.fv w,upd:=us++(Bw (BO 0 ext0)).zip ext },(CR ext0.length).reverse++lg,⟨own2,ext⟩,?_,?_,?_⟩
       ·have hga:=g1 4096 (by decide) lg;simp only [List.take_zero,BO,Nat.sub_zero] at hga;simp only [HA,By,hz,Option.bind_some,hga,QX,hv,hb1,asked,hs,Bool.false_eq_true,if_false,hi _ _ _ _ he,Ih,hr,hw,AwS,IV.ren,hb2];have hk:(Bw us).all (fun r=>!hasRef r (BO 0 ext0))=true:=List.all_eq_true.2 fun r hr=>by
         obtain ⟨p,hp,rfl⟩:=List.mem_map.1 hr;obtain ⟨s,e⟩:=hus p hp;rw [e,QW];rfl
        rw [if_pos ⟨by rw [MH,hlen],hk⟩];simp only [Rd.of,Rd.runLog,CR,List.range_eq_range']
       ·simp only;rw [Wf,l1,Option.bind_some,hkeys,CR,List.range_eq_range',← hlen];exact PQ ext [] ext0 own2 hlen.symm
       ·have hz2:Bw (us++(Bw (BO 0 ext0)).zip ext)=Bw us++CR ext0.length:=by
         simp only [Bw,List.map_append];congr 1;rw [← hkeys];exact List.map_fst_zip (by simp only [Bw,List.length_map,MH];omega)
        simp only [hz2];exact h
def Agi (E:Env) (ih:Aa) (f rid i:Nat) (dr:Bool) (slots:List IV) (op:Op) (hp:Hp) (k:IV→Hp→List Ref→List Ref→Option β) (r:β):Prop :=
 (EC E slots op=none∧GY E ih f rid i (AC slots) op hp k r) ∨
 (dr=false∧F7 E op=false∧∃g args v hp',EC E slots op=some (g,args)∧ih g args hp=some (v,hp')∧k v hp' [] []=some r)
theorem VH {g:Operand} {args:Array Operand} {ts:Array TypeId} {h':FuncId} {first cap:List IV} {slots:List IV} (hc:callee (AC slots g)=some (h',first,cap)) (hin:E.pol.inl h'=false)
  (h:Iso E ih h' (first++args.toList.map (AC slots)++cap) hp k r):Agi E ih f rid i dr slots (.call ⟨.value g,args,ts⟩) hp k r:=by
 obtain ⟨e,rd,hp',h1,h2,h3⟩:=h;refine .inl ⟨?_,e.val,hp',rd,Bw e.upd,⟨{ eff:=e },?_,?_,rfl,?_⟩,h3,fun q=>by cases q⟩
 ·simp only [EC,hc,hin,Bool.false_eq_true,if_false]
 ·simp only [CU,hc,hin,Bool.false_eq_true,if_false,Rd.eff,By,h1,Option.bind_some,Rd.runLog]
 ·simp only [AV,h2,Option.bind_some,CG]
 ·simp only [I9,List.append_nil]
theorem AoN (hi:∀f args h x,ih' f args h=some x→ih f args h=some x) {slots:List IV} {c:Call} (h:JI E ih' f rid i dr (AC slots) (.call c) hp k=some r):Agi E ih f rid i dr slots (.call c) hp k r:=by
 obtain ⟨cl,args,ts⟩:=c;simp only [JI,BJ] at h;cases cl with
 | invoke _ _=>cases h
 | builtin b =>
  refine .inl ⟨rfl,?_⟩;simp only [Xx,BJ] at h;split at h
  ·rename_i t x hts has;split at h
   ·rename_i e z ht;unfold BP at h;have hop:CU E ih f rid i (AC slots) (.call ⟨.builtin .len,args,ts⟩)=AY E (Bi f rid i) (E.pol.rowApp f rid i) .len [t] [AC slots x]:=by
     simp only [CU,hts,has];rfl
    rcases Wn h with ⟨q,sz,n,hx,h⟩ | ⟨hx,h⟩
    ·rw [DF] at h;exact A2 (by rw [hop];simp only [AY,ht,hx]) h
    ·rw [Z3] at h;obtain ⟨es,he,h⟩:=Br h;rw [DF] at h;refine A2 (v:=.fv (.int .i64 es.length)) ?_ h;rw [hop];simp only [AY,ht];cases hxx:AC slots x with
     | slc q sz n=>exact absurd hxx (hx q sz n)
     | _=>rw [hxx] at he;simp only [he];rfl
   ·rename_i hn;refine BQ ?_ rfl h;simp only [F7,hts,has]
  ·rename_i b0 b1 ts1 args1 hn;refine BQ ?_ rfl h;cases b0 with
   | len =>
    simp only [F7];split
    ·rename_i hts has;exact absurd has (hn _ _ rfl hts)
    ·rfl
   | _=>rfl
 | value g =>
  simp only [Xx,BJ] at h;split at h
  ·rename_i g;have hc:callee (AC slots (.func g))=some (g,[],[]):=rfl;cases hin:E.pol.inl g with
   | true =>
    rw [hin] at h;cases dr with
    | true=>cases h
    | false =>
     simp only [cond,Ai6] at h;cases he:ih' g (args.toList.map (AC slots)) hp with
     | none=>rw [he] at h;cases h
     | some p =>
      obtain ⟨v,hp'⟩:=p;rw [he] at h;refine .inr ⟨rfl,rfl,g,args.toList.map (AC slots),v,hp',?_,hi _ _ _ _ he,h⟩;simp only [EC,hc,hin,if_true,List.nil_append,List.append_nil]
   | false =>
    rw [hin] at h;refine VH hc hin ?_;simp only [List.nil_append,List.append_nil];exact ZT hi h
  ·unfold D8 at h;split at h
   ·cases h
   ·rename_i h' first cap hc
    cases hin:E.pol.inl h' with
    | true=>rw [hin] at h;cases h
    | false =>
     rw [hin] at h;simp only [cond,Ik] at h;exact VH hc hin (ZT hi h)
theorem Aoa (hi:∀f args h x,ih' f args h=some x→ih f args h=some x) {slots:List IV} {op:Op} (h:JI E ih' f rid i dr (AC slots) op hp k=some r):Agi E ih f rid i dr slots op hp k r:=by
 cases op with
 | call c=>exact AoN hi h
 | move x=>exact .inl ⟨rfl,A2 rfl h⟩
 | assign x=>exact .inl ⟨rfl,A2 rfl h⟩
 | pick c a b=>exact .inl ⟨rfl,Aqh h⟩
 | alloc t =>
  refine .inl ⟨rfl,?_⟩;simp only [JI,BJ] at h;cases ht:E.T t with
  | none=>rw [ht] at h;cases h
  | some ti=>rw [ht] at h;exact V0 rfl (by simp only [CU,ht]) h
 | box t x=>exact .inl ⟨rfl,AqV h⟩
 | build t ps=>exact .inl ⟨rfl,Ak9 h⟩
 | load t a=>exact .inl ⟨rfl,An5 h⟩
 | store t a x=>exact .inl ⟨rfl,Alv h⟩
 | nilCheck x=>exact .inl ⟨rfl,ArR h⟩
 | binOp o t x y yt =>
  refine .inl ⟨rfl,?_⟩;simp only [JI,BJ] at h;obtain ⟨v,h1,h2⟩:=AfB h;exact A2 (by simp only [CU,h1];rfl) h2
 | unOp o t x =>
  refine .inl ⟨rfl,?_⟩;simp only [JI,CK] at h;exact QR rfl h
 | convert s d x=>exact .inl ⟨rfl,AfA h⟩
 | fieldAddr s x fd=>exact .inl ⟨rfl,VJ h⟩
 | field s x fd=>exact .inl ⟨rfl,Alq h⟩
 | indexAddr t x ix=>exact .inl ⟨rfl,V6 h⟩
 | index t x ix=>exact .inl ⟨rfl,Alg h⟩
 | extract x ix=>exact .inl ⟨rfl,Afd h⟩
 | makeMap t n=>cases n with
  | none=>exact .inl ⟨rfl,BQ rfl rfl h⟩
  | some _=>cases h
 | buildSlice t n ps=>exact .inl ⟨rfl,BQ rfl rfl h⟩
 | makeFunc fn a b=>exact .inl ⟨rfl,BQ rfl rfl h⟩
 | insert t m j x=>exact .inl ⟨rfl,BQ rfl rfl h⟩
 | mapUpdate t m j x=>exact .inl ⟨rfl,BQ rfl rfl h⟩
 | lookup t m j ok=>exact .inl ⟨rfl,BQ rfl rfl h⟩
 | makeSlice t l c=>exact .inl ⟨rfl,BQ rfl rfl h⟩
 | slice t x lo hi mx=>exact .inl ⟨rfl,BQ rfl rfl h⟩
 | _=>cases h
end
end Idl
end Go.Proofs.Ytaifgaidaglblaa
namespace Go.Proofs.Ytaifgaidaglblaa
namespace Idl
section
variable {β:Type}
def BE (k:Nat) (F:(List IV→Hp→Option β)→List IV→Hp→Option β):List IV→Hp→Option β :=
 Nat.rec (motive:=fun _=>List IV→Hp→Option β) (fun _ _=>none) (fun _ rec=>F rec) k
def Nt (s:Nat) (l:List Nat):Bool:=List.rec (motive:=fun _=>Bool) false (fun x _ ih=>cond (Nat.beq s x) true ih) l
def FP (rm:List Nat) (l:List Ref):Bool:=List.rec (motive:=fun _=>Bool) true (fun r _ ih=>match r with
 | .own s=>cond (Nt s rm) false ih
 | .ext _=>ih) l
def HQ (rm:List Nat) (own:List (Nat×Blk)):Bool:=List.rec (motive:=fun _=>Bool) true (fun p _ ih=>match p with
 | (s,b)=>cond (Nt s rm) ih (cond (FP rm (Fo b)) ih false)) own
def JO (rm:List Nat) (ext:List Blk):Bool:=List.rec (motive:=fun _=>Bool) true (fun b _ ih=>cond (FP rm (Fo b)) ih false) ext
def Alm (rm:List Nat) (own:List (Nat×Blk)):Bool:=List.rec (motive:=fun _=>Bool) false (fun p _ ih=>match p with
 | (s,_)=>cond (Nt s rm) true ih) own
def V3 (rm:List Nat) (own:List (Nat×Blk)) (k:List (Nat×Blk)→Option β):Option β :=
 List.rec (motive:=fun _=>(List (Nat×Blk)→Option β)→Option β) (fun k=>k []) (fun p _ ih k=>match p with
  | (s,b)=>cond (Nt s rm) (ih k) (ih fun l=>k ((s,b)::l))) own k
def Bg (base rm:List Nat) (vals:List IV) (h:Hp) (k:Hp→Option β):Option β :=
 cond (
    rm.any base.contains) none (match h with
  | ⟨own,ext⟩=>cond (Alm rm own)
   (cond (and (FP rm (CD vals [])) (and (HQ rm own) (JO rm ext))) (V3 rm own fun own=>k ⟨own,ext⟩)
    (match CH base [] rm ⟨vals,⟨own,ext⟩⟩ with
     | none=>none
     | some S=>fH S.hp k)) (k ⟨own,ext⟩))
def RG (d:Option Nat) (v:IV) (h:Hp) (T:FS):FS:=match d with
 | none=>⟨T.n,T.t,h⟩
 | some d=>cond (Nat.ble T.n d) ⟨T.n,T.t,h⟩ ⟨T.n,T.t.set d v,h⟩
abbrev SlT.setKK {α:Type} (t:SlT):Nat→IV→(SlT→α)→α :=
 SlT.rec (motive:=fun _=>Nat→IV→(SlT→α)→α) (fun j v i x k=>Bool.rec (motive:=fun _=>α) (k (.leaf j v)) (k (.leaf j x)) (Nat.beq i j))
  (fun m l r gl gr i x k=>Bool.rec (motive:=fun _=>α) (gl i x fun l'=>k (.node m l' r)) (gr i x fun r'=>k (.node m l r')) (Nat.ble m i)) t
abbrev K0 (d:Option Nat) (v:IV) (h:Hp) (T:FS) (K:FS→Option β):Option β :=
 FS.rec (motive:=fun _=>Option β) (fun n t _=>Option.rec (motive:=fun _=>Option β) (K ⟨n,t,h⟩) (fun d=>VQ (Nat.ble n d) (K ⟨n,t,h⟩) (t.setKK d v fun t=>K ⟨n,t,h⟩)) d) T
abbrev W8 (args:List IV):Nat→FS→(FS→Option β)→Option β :=
 List.rec (motive:=fun _=>Nat→FS→(FS→Option β)→Option β) (fun _ T K=>K T) (fun v _ ih i T K=>K0 (some i) v T.hp T fun T=>ih (Nat.succ i) T K) args
abbrev Vf (cs:List Nat):List IV→FS→(FS→Option β)→Option β :=
 List.rec (motive:=fun _=>List IV→FS→(FS→Option β)→Option β) (fun _ T k=>k T) (fun c _ ih vals T k=>Aw vals fun v vals=>K0 (some c) v T.hp T fun T=>ih vals T k) cs
def Nn (r s:Ref):Bool:=match r with
 | .own i=>(match s with
  | .own j=>not (Nat.beq i j)
  | .ext _=>true)
 | .ext i=>(match s with
  | .own _=>true
  | .ext j=>not (Nat.beq i j))
def LF (r:Ref) (l:List Ref):Bool:=List.rec (motive:=fun _=>Bool) true (fun s _ ih=>cond (Nn r s) ih false) l
def P9 (a b:List Ref):Bool:=List.rec (motive:=fun _=>Bool) true (fun r _ ih=>cond (LF r b) ih false) a
theorem Ait (r s:Ref):Nn r s=decide (r≠s):=by
 cases r<;>cases s<;>simp [Nn,Is]
theorem VL (r:Ref):∀(l:List Ref),LF r l=l.all fun s=>decide (r≠s)
 | []=>rfl
 | s::l=>by
  rw [show LF r (s::l)=cond (Nn r s) (LF r l) false from rfl,Ait,VL r l,List.all_cons]
  cases decide (r≠s)<;>rfl
theorem Agb:∀(a b:List Ref),P9 a b=OS a b
 | [],_=>rfl
 | r::a,b=>by
  rw [show P9 (r::a) b=cond (LF r b) (P9 a b) false from rfl,VL,Agb a b]
  simp only [OS,List.all_cons];cases (b.all fun s=>decide (r≠s))<;>rfl
def Ad (l:List (List Ref×List Ref)) (rd wr:List Ref) (a:Option β):Option β :=
 List.rec (motive:=fun _=>Option β) a (fun q _ ih=>match q with
  | (q1,q2)=>cond (P9 q2 rd) (cond (P9 q2 wr) (cond (P9 wr q1) ih none) none) none) l
def Wx (before:Nat) (done:List (Nat×List Ref×List Ref)):List (List Ref×List Ref) :=
 List.rec (motive:=fun _=>List (List Ref×List Ref)) [] (fun p _ ih=>match p with | (j,q)=>cond (before.testBit j) ih (q::ih)) done
section
variable (E:Env) (ih:Aa)
def Nh (f rid:Nat) (ops:Array Oper) (i:Nat) (o:Oper) (dr:Bool) (T:FS) (K:FS→List Ref→List Ref→Option β):Option β :=
 match o.guard with
 | none=>JI E ih f rid i dr (HP T) o.op T.hp fun v h rd wr=>K0 o.dst v h T fun T=>K T rd wr
 | some (j,want)=>match (ops[j]?).bind (·.dst) with
  | none=>none
  | some d=>VQ (Nat.ble T.n d) none
   (Ab (T.get d) want T.hp (fun k=>JI E ih f rid i dr (HP T) o.op T.hp k) fun v h rd wr=>K0 o.dst v h T fun T=>K T rd wr)
def AoC (f rid:Nat) (ops:Array Oper) (l:List Oper):Nat→FS→(FS→Option β)→Option β :=
 List.rec (motive:=fun _=>Nat→FS→(FS→Option β)→Option β) (fun _ T K=>K T) (fun o _ rec i T K=>Nh E ih f rid ops i o false T fun T _ _=>rec (Nat.succ i) T K) l
def AdL (f rid:Nat) (ops:Array Oper) (before:Array Nat) (l:List Oper):Nat→List (Nat×List Ref×List Ref)→FS→(FS→Option β)→Option β :=
 List.rec (motive:=fun _=>Nat→List (Nat×List Ref×List Ref)→FS→(FS→Option β)→Option β) (fun _ _ T K=>K T)
  (fun o _ rec i done T K=>VQ (F7 E o.op) (Nh E ih f rid ops i o true T fun T _ _=>rec (Nat.succ i) done T K)
   (Nh E ih f rid ops i o true T fun T rd wr=>Ad (Wx (before.getD i 0) done) rd wr (rec (Nat.succ i) ((i,rd,wr)::done) T K))) l
def CQ (n:Nat) (kills:List Nat):List Nat:=(List.range n).filter fun i=>!kills.contains i
def QN (base kills rm:List Nat) (T:FS) (k:List IV→Hp→Option β):Option β :=
 match rm with
 | []=>k ((CQ T.n kills).map T.get) T.hp
 | r::rm=>Bg base (r::rm) ((CQ T.n kills).map T.get) T.hp fun h=>k ((CQ T.n kills).map T.get) h
def FU (f n:Nat) (base:List Nat):Code→FS→(Ex→FS→Option β)→Option β
 | .skip,T,K=>K .normal T
 | .region rid ops draw,T,K=>VQ draw (AdL E ih f rid ops (Region.before ops) ops.toList 0 [] T fun T=>K .normal T) (AoC E ih f rid ops ops.toList 0 T fun T=>K .normal T)
 | .seq a b,T,K=>FU f n base a T fun ex T=>match ex with
  | .normal=>FU f n base b T K
  | .exit j=>K (.exit j) T
  | .ret=>K .ret T
 | .cond c a b,T,K=>Am (HP T c) (FU f n base a T K) (FU f n base b T K)
 | .block id c,T,K=>FU f n base c T fun ex T=>match ex with
  | .normal=>K .normal T
  | .exit j=>VQ (Nat.beq j id) (K .normal T) (K (.exit j) T)
  | .ret=>K .ret T
 | .loop c,T,K=>QN base (E.pol.head f (Cc c)).1 (E.pol.head f (Cc c)).2 T (BE n fun rec vals h =>
   Vf (CQ T.n (E.pol.head f (Cc c)).1) vals ⟨T.n,dT 10 0 T.n,h⟩ fun T=>FU f n base c T fun ex T=>match ex with
    | .normal=>QN base (E.pol.head f (Cc c)).1 (E.pol.head f (Cc c)).2 T rec
    | .exit j=>K (.exit j) T
    | .ret=>K .ret T)
 | .exit id,T,K=>K (.exit id) T
 | .ret,T,K=>K .ret T
 | _,_,_=>none
def AA (agg:Bool) (size:Nat) (a:IV) (h:Hp) (k:IV→Option β):Option β :=
 cond agg (Aj size a h fun v _=>k v) (Af a h fun v _=>k v)
def Afw (T:FS) (rs:List ResultVar):List IV→(List IV→Option β)→Option β :=
 List.rec (motive:=fun _=>List IV→(List IV→Option β)→Option β) (fun acc k=>k acc) (fun v _ rec acc k=>match v with
  | .tmp t=>rec (acc++[T.get t]) k
  | .cell a t=>match E.T t with
   | none=>none
   | some ti=>AA ti.kind.isAgg ti.size (T.get a) T.hp fun v=>rec (acc++[v]) k) rs
def An (vs:List IV) (h:Hp):Option (IV×Hp):=match vs with
 | [v]=>some (v,h)
 | vs=>Xi vs fun v=>some (v,h)
def Az (FT:Nat→Option Func) (n f:Nat) (args:List IV) (h:Hp):Option (IV×Hp):=match FT f with
 | none=>none
 | some fn=>match fn.body with
  | none=>none
  | some c=>VQ (Nat.ble args.length fn.ntmps && Nat.ble fn.ntmps 1024)
   (W8 args 0 ⟨fn.ntmps,dT 10 0 fn.ntmps,h⟩ fun T=>FU E ih f n (h.own.map (·.1)) c T fun ex T=>match ex with
    | .exit _=>none
    | .normal=>Afw E T fn.results.toList [] fun vs=>An vs T.hp
    | .ret=>Afw E T fn.results.toList [] fun vs=>An vs T.hp) none
end
end
end Idl
end Go.Proofs.Ytaifgaidaglblaa
set_option linter.unusedSimpArgs false
namespace Go.Proofs.Ytaifgaidaglblaa
namespace Idl
section
variable {β:Type} {E:Env} {ih ih':Aa} {f rid:Nat} {r:β}
theorem Tp (d:Option Nat) (v:IV) (h:Hp) (T:FS):RG d v h T=SK d v ⟨T.n,T.t,h⟩:=by cases d<;>rfl
theorem WM (d:Option Nat) (v:IV) (h:Hp) (T:FS):(RG d v h T).n=T.n:=by
 cases d with
 | none=>rfl
 | some d =>
  show (cond (Nat.ble T.n d) (FS.mk T.n T.t h) ⟨T.n,T.t.set d v,h⟩).n=T.n
  cases Nat.ble T.n d<;>rfl
theorem Ajd {α:Type} (t:SlT) (i:Nat) (x:IV) (k:SlT→α):t.setKK i x k=k (t.set i x):=by
 refine Eq.trans ?_ (AdR t i x k)
 induction t generalizing k with
 | leaf j v =>
  show Bool.rec (k (.leaf j v)) (k (.leaf j x)) (Nat.beq i j)=cond (Nat.beq i j) (k (.leaf j x)) (k (.leaf j v))
  cases Nat.beq i j<;>rfl
 | node m l r ihl ihr =>
  show Bool.rec (l.setKK i x fun l'=>k (.node m l' r)) (r.setKK i x fun r'=>k (.node m l r')) (Nat.ble m i)=cond (Nat.ble m i) (r.setK i x fun r'=>k (.node m l r')) (l.setK i x fun l'=>k (.node m l' r))
  cases Nat.ble m i
  ·exact ihl _
  ·exact ihr _
theorem Pz (d:Option Nat) (v:IV) (h:Hp) (T:FS) (K:FS→Option β):K0 d v h T K=K (RG d v h T):=by
 obtain ⟨n,t,h0⟩:=T;cases d with
 | none=>rfl
 | some d =>
  show VQ (Nat.ble n d) (K ⟨n,t,h⟩) (t.setKK d v fun t=>K ⟨n,t,h⟩)=K (cond (Nat.ble n d) ⟨n,t,h⟩ ⟨n,t.set d v,h⟩)
  rw [BJ];cases Nat.ble n d
  ·simp only [cond];rw [Ajd]
  ·rfl
theorem QQ:∀(args:List IV) (i:Nat) (T:FS) (K:FS→Option β),W8 args i T K=ZY args i T K
 | [],_,_,_=>rfl
 | v::l,i,T,K=>by
  show K0 (some i) v T.hp T (fun T=>W8 l (Nat.succ i) T K)=Ahr (some i) v T fun T=>ZY l (Nat.succ i) T K
  rw [Pz,Ach,Tp,QQ l]
theorem OW {T:FS} {S:St} (hr:Rep T S) (d:Option Nat) (v:IV) (h:Hp):Rep (RG d v h T) ⟨B7 d v S.slots,h⟩:=by
 rw [Tp];exact Zq (T:=⟨T.n,T.t,h⟩) (S:=⟨S.slots,h⟩) ⟨rfl,hr.len,hr.has,hr.get⟩ d v
theorem P4 (hi:∀f args h x,ih' f args h=some x→ih f args h=some x) {ops:Array Oper} {i:Nat} {o:Oper} (ho:ops[i]?=some o) {dr:Bool} {T:FS} {S:St} (hr:Rep T S)
  {K:FS→List Ref→List Ref→Option β} (h:Nh E ih' f rid ops i o dr T K=some r) :
  ∃S' T' rd wr,step E ih f rid ops i S=some S'∧(dr=true→Km E ih f rid ops i S=some (S',rd,wr))∧Rep T' S'∧T'.n=T.n∧K T' rd wr=some r∧(F7 E o.op=true→rd=[]∧wr=[]):=by
 have done:C4 ops S.slots o=some true→JI E ih' f rid i dr (HP T) o.op T.hp (fun v h rd wr=>K (RG o.dst v h T) rd wr)=some r →
   ∃S' T' rd wr,step E ih f rid ops i S=some S'∧(dr=true→Km E ih f rid ops i S=some (S',rd,wr))∧Rep T' S'∧T'.n=T.n∧K T' rd wr=some r∧(F7 E o.op=true→rd=[]∧wr=[]):=by
  intro hw h;rw [M4 hr,← hr.hp] at h;rcases Aoa hi h with ⟨hin,v,hp',rd,wr,⟨m,hm,hh,hv,hwr⟩,hk,hq⟩ | ⟨hdr,hq,g,args,v,hp',hin,he,hk⟩
  ·have ha:Ej (Bi f rid i) o.dst S m=some ⟨B7 o.dst v S.slots,hp'⟩:=by simp only [Ej,hh,AwS,hv]
   refine ⟨⟨B7 o.dst v S.slots,hp'⟩,RG o.dst v hp' T,rd,wr,?_,fun _=>?_,OW hr o.dst v hp',WM ..,hk,hq⟩
   ·simp only [step,ho,hw,hin,Eb];rw [F8 _ _ _ _ _ hm];exact ha
   ·simp only [Km,ho,hw,hin,Eb,hm,ha,AwS,hwr,I9];rfl
  ·refine ⟨⟨B7 o.dst v S.slots,hp'⟩,RG o.dst v hp' T,[],[],?_,fun e=>(by rw [hdr] at e;cases e),OW hr o.dst v hp',WM ..,hk,fun q=>by rw [hq] at q;cases q⟩;simp only [step,ho,hw,hin,he,AwS]
 have skip:C4 ops S.slots o=some false→K (RG o.dst F6 T.hp T) [] []=some r →
   ∃S' T' rd wr,step E ih f rid ops i S=some S'∧(dr=true→Km E ih f rid ops i S=some (S',rd,wr))∧Rep T' S'∧T'.n=T.n∧K T' rd wr=some r∧(F7 E o.op=true→rd=[]∧wr=[]):=by
  intro hw h;refine ⟨_,_,[],[],?_,fun _=>?_,OW hr o.dst F6 T.hp,WM ..,h,fun _=>⟨rfl,rfl⟩⟩
  ·simp only [step,ho,hw,← hr.hp]
  ·simp only [Km,ho,hw,← hr.hp]
 unfold Nh at h;have eK:(fun (v:IV) (h:Hp) (rd wr:List Ref)=>K0 o.dst v h T fun T=>K T rd wr)=fun v h rd wr=>K (RG o.dst v h T) rd wr:=by
  funext v h rd wr
  exact Pz o.dst v h T fun T=>K T rd wr
 rw [eK] at h;simp only [BJ] at h;cases hg:o.guard with
 | none =>
  rw [hg] at h;exact done (by simp only [C4,hg]) h
 | some jw =>
  obtain ⟨j,want⟩:=jw;rw [hg] at h;simp only at h;cases hd:(ops[j]?).bind (·.dst) with
  | none=>rw [hd] at h;cases h
  | some d =>
   rw [hd] at h;simp only at h;cases hb:Nat.ble T.n d with
   | true=>rw [hb] at h;cases h
   | false =>
    rw [hb] at h;simp only [cond] at h;have hdn:d<T.n:=Nat.lt_of_not_le fun h=>by rw [Nat.ble_eq_true_of_le h] at hb;cases hb
    have hs:S.slots[d]?=some (T.get d):=by
     rw [hr.at_,List.getD_eq_getElem?_getD,List.getElem?_eq_getElem (by rw [hr.len];exact hdn)];rfl
    have hw:C4 ops S.slots o=match T.get d with
      | .fv (.bool b)=>some (b == want)
      | .fv (.tuple [])=>some false
      | _=>none:=by
     simp only [C4,hg,hd,Option.bind_some,hs];generalize T.get d=v;split
     ·rename_i e;simp only [AwP] at e;subst e;rfl
     ·rename_i e;simp only [AwP] at e;subst e;rfl
     ·rename_i h1 h2;split
      ·exact absurd rfl (h1 _)
      ·exact absurd rfl h2
      ·rfl
    unfold Ab at h;rcases OF h with ⟨v,hv,h⟩ | h
    ·rw [hv] at hw;unfold AiZ at h;split at h
     ·rename_i b;have e:(b == want)=(cond want b (not b)):=by cases b<;>cases want<;>rfl
      cases hc:(cond want b (not b)) with
      | true =>
       rw [hc] at h;exact done (by rw [hw];simp only [e,hc]) h
      | false =>
       rw [hc] at h;exact skip (by rw [hw];simp only [e,hc]) h
     ·rename_i l;cases l with
      | nil=>exact skip hw h
      | cons _ _=>cases h
     ·cases h
    ·cases h
theorem AjU (hi:∀f args h x,ih' f args h=some x→ih f args h=some x) {ops:Array Oper}:∀(l:List Oper) (i:Nat),ops.toList.drop i=l→∀{T:FS} {S:St},Rep T S→∀{K:FS→Option β},AoC E ih' f rid ops l i T K=some r →
  ∃S' T',J1 E ih f rid ops (List.range' i l.length) S=some S'∧Rep T' S'∧T'.n=T.n∧K T'=some r:=by
 intro l
 induction l with
 | nil=>intro i _ T S hr K h;exact ⟨S,T,rfl,hr,rfl,h⟩
 | cons o l ihl =>
  intro i hd T S hr K h;have ho:ops[i]?=some o:=by
   have:ops.toList[i]?=some o:=by rw [← List.head?_drop,hd];rfl
   simpa using this
  have hd':ops.toList.drop (i+1)=l:=by rw [← List.tail_drop,hd];rfl
  have h:Nh E ih' f rid ops i o false T (fun T _ _=>AoC E ih' f rid ops l (Nat.succ i) T K)=some r:=h;obtain ⟨S1,T1,rd,wr,h1,_,h2,hn,h3,_⟩:=P4 hi ho hr h;obtain ⟨S',T',h4,h5,hn2,h6⟩:=ihl (i+1) hd' h2 h3;refine ⟨S',T',?_,h5,hn2.trans hn,h6⟩;rw [AwT,List.range'_succ];simp only [J1,h1,Option.bind_some];exact h4
theorem AjV {l:List (List Ref×List Ref)} {rd wr:List Ref} {a:Option β} (h:Ad l rd wr a=some r):(∀q∈l,clash q (rd,wr)=true)∧a=some r:=by
 induction l with
 | nil=>exact ⟨fun q hq=>(by cases hq),h⟩
 | cons p l ih =>
  obtain ⟨q1,q2⟩:=p;have h:cond (P9 q2 rd) (cond (P9 q2 wr) (cond (P9 wr q1) (Ad l rd wr a) none) none) none=some r:=h;obtain ⟨h1,h⟩:=Dv h;obtain ⟨h2,h⟩:=Dv h;obtain ⟨h3,h⟩:=Dv h;rw [Agb] at h1 h2 h3;obtain ⟨h4,h5⟩:=ih h;refine ⟨fun q hq=>?_,h5⟩;rcases List.mem_cons.1 hq with rfl | hq
  ·simp only [clash,h1,h2,h3,Bool.and_self]
  ·exact h4 q hq
theorem AeR {b:Nat} {done:List (Nat×List Ref×List Ref)} {j:Nat} {q:List Ref×List Ref} (h:(j,q)∈done) (hj:b.testBit j=false):q∈Wx b done:=by
 induction done with
 | nil=>cases h
 | cons p l ih =>
  obtain ⟨j',q'⟩:=p
  show q∈cond (b.testBit j') (Wx b l) (q'::Wx b l)
  rcases List.mem_cons.1 h with e | h
  ·simp only [AwQ] at e;obtain ⟨rfl,rfl⟩:=e;rw [hj];exact List.mem_cons_self
  ·cases b.testBit j' with
   | true=>exact ih h
   | false=>exact List.mem_cons_of_mem _ (ih h)
theorem Ah6 (hi:∀f args h x,ih' f args h=some x→ih f args h=some x) {ops:Array Oper} {before:Array Nat}:∀(l:List Oper) (i:Nat),ops.toList.drop i=l→∀{T:FS} {S:St} (done full:List (Nat×List Ref×List Ref)),
  (∀x∈full,x.2=([],[])∨x∈done)→Rep T S→∀{K:FS→Option β},AdL E ih' f rid ops before l i done T K=some r →
  ∃S' T',FB E ih f rid ops before (List.range' i l.length) full S=some S'∧Rep T' S'∧T'.n=T.n∧K T'=some r:=by
 intro l
 induction l with
 | nil=>intro i _ T S done full _ hr K h;exact ⟨S,T,rfl,hr,rfl,h⟩
 | cons o l ihl =>
  intro i hd T S done full hf hr K h;have ho:ops[i]?=some o:=by
   have:ops.toList[i]?=some o:=by rw [← List.head?_drop,hd];rfl
   simpa using this
  have hd':ops.toList.drop (i+1)=l:=by rw [← List.tail_drop,hd];rfl
  have h:VQ (F7 E o.op) (Nh E ih' f rid ops i o true T fun T _ _=>AdL E ih' f rid ops before l (Nat.succ i) done T K)
   (Nh E ih' f rid ops i o true T fun T rd wr=>Ad (Wx (before.getD i 0) done) rd wr (AdL E ih' f rid ops before l (Nat.succ i) ((i,rd,wr)::done) T K))=some r:=h
  rw [BJ] at h;rw [AwT,List.range'_succ];cases hq:F7 E o.op with
  | true =>
   rw [hq] at h;simp only [cond] at h;obtain ⟨S1,T1,rd,wr,_,h1,h2,hn,h3,h4⟩:=P4 hi ho hr h;have h1:=h1 rfl;obtain ⟨rfl,rfl⟩:=h4 hq;obtain ⟨S',T',h4,h5,hn2,h6⟩:=ihl (i+1) hd' done ((i,[],[])::full) (fun x hx=>by
    rcases List.mem_cons.1 hx with rfl | hx
    ·exact .inl rfl
    ·exact hf x hx) h2 h3
   refine ⟨S',T',?_,h5,hn2.trans hn,h6⟩;simp only [FB,h1]
   have:(full.all fun x=>(before.getD i 0).testBit x.1 || clash x.2 ([],[]))=true:=List.all_eq_true.2 fun x _=>by rw [AfI];simp
   rw [if_pos this];exact h4
  | false =>
   rw [hq] at h;simp only [cond] at h;obtain ⟨S1,T1,rd,wr,_,h1,h2,hn,h3,_⟩:=P4 hi ho hr h;have h1:=h1 rfl;obtain ⟨hc,h3⟩:=AjV h3;obtain ⟨S',T',h4,h5,hn2,h6⟩:=ihl (i+1) hd' ((i,rd,wr)::done) ((i,rd,wr)::full) (fun x hx=>by
    rcases List.mem_cons.1 hx with rfl | hx
    ·exact .inr List.mem_cons_self
    ·exact (hf x hx).imp id (List.mem_cons_of_mem _)) h2 h3
   refine ⟨S',T',?_,h5,hn2.trans hn,h6⟩;simp only [FB,h1]
   have:(full.all fun x=>(before.getD i 0).testBit x.1 || clash x.2 (rd,wr))=true:=List.all_eq_true.2 fun x hx=>by
    rcases hf x hx with e | e
    ·rw [e,Ae1];simp
    ·cases hb:(before.getD i 0).testBit x.1 with
     | true=>rfl
     | false=>rw [hc x.2 (AeR (j:=x.1) e hb)];rfl
   rw [if_pos this];exact h4
theorem Ajj (ks:List Nat) (l:List IV):(A1 ks l).length=l.length:=by
 induction ks generalizing l with
 | nil=>rfl
 | cons i ks ih=>simp [A1,ih]
theorem VY (ks:List Nat) (l:List IV) (i:Nat) (hi:i<l.length):(A1 ks l).getD i .dead=if i∈ks then .dead else l.getD i .dead:=by
 induction ks generalizing l with
 | nil=>simp [A1]
 | cons j ks ih =>
  rw [A1,ih _ (by simpa using hi)];by_cases h:i∈ks
  ·rw [if_pos h,if_pos (List.mem_cons_of_mem _ h)]
  ·rw [if_neg h];by_cases e:i=j
   ·subst e;rw [if_pos List.mem_cons_self,List.getD_eq_getElem?_getD,List.getElem?_set_self hi];rfl
   ·rw [if_neg (by simp [e,h]),List.getD_eq_getElem?_getD,List.getElem?_set_ne (Ne.symm e),← List.getD_eq_getElem?_getD]
structure AtHead (n:Nat) (kills:List Nat) (vals:List IV) (h:Hp) (S:St):Prop where
 len:S.slots.length=n
 hp:S.hp=h
 vals:vals=(CQ n kills).map fun i=>S.slots.getD i .dead
 dead:∀i,i<n→i∈kills→S.slots.getD i .dead=.dead
theorem Ov {n:Nat} {kills:List Nat} {i:Nat}:i∈CQ n kills ↔ i<n∧i ∉ kills:=by
 simp [CQ]
theorem IC {T:FS} {S:St} (hr:Rep T S) (kills:List Nat) (h:Hp):AtHead T.n kills ((CQ T.n kills).map T.get) h ⟨A1 kills S.slots,h⟩:=by
 refine ⟨by simp [Ajj,hr.len],rfl,?_,fun i hi hk=>?_⟩
 ·apply List.map_congr_left;intro i hi
  have:=Ov.1 hi
  rw [hr.at_];simp only;rw [VY _ _ _ (by rw [hr.len];exact this.1),if_neg this.2]
 ·simp only;rw [VY _ _ _ (by rw [hr.len];exact hi),if_pos hk]
theorem T7 {l:List IV}:∀(g:Nat→Bool) (n:Nat),l.length=n→(∀i,i<n→g i=false→l.getD i .dead=.dead) →
  IV.refs.refsL (((List.range n).filter g).map fun i=>l.getD i .dead)=IV.refs.refsL l:=by
 intro g n
 induction n generalizing l g with
 | zero=>intro hl _;cases l with | nil=>rfl | cons _ _=>cases hl
 | succ n ih =>
  intro hl hd;cases l with
  | nil=>cases hl
  | cons x l =>
   simp only [AwT,Nat.add_right_cancel_iff] at hl;rw [List.range_succ_eq_map];have ih:=ih (l:=l) (fun i=>g (i+1)) hl (fun i hi hg=>by simpa using hd (i+1) (by omega) hg);have e:(((List.range n).map Nat.succ).filter g).map (fun i=>(x::l).getD i .dead)=(((List.range n).filter fun i=>g (i+1))).map fun i=>l.getD i .dead:=by
    rw [List.filter_map,List.map_map];rfl
   cases hg:g 0 with
   | true =>
    rw [List.filter_cons_of_pos hg,AwV,e];simp only [IV.refs.refsL,ih];rfl
   | false =>
    rw [List.filter_cons_of_neg (by rw [hg];simp),e]
    have:x=.dead:=by simpa using hd 0 (by omega) hg
    subst this;simp only [IV.refs.refsL,ih];rfl
def OD (rm:List Nat) (rs:List Ref) (h:Hp):Option Hp :=
 let held:=rs++(h.own.filter fun p=>!rm.contains p.1).flatMap (fun p=>p.2.refs)++h.ext.flatMap Blk.refs
 let gone:=rm.filter fun k=>!anyIn [k] held
 let h2:Hp:={ h with own:=h.own.filter fun p=>!gone.contains p.1 }
 if anyIn gone (rs++h2.own.flatMap (fun p=>p.2.refs)++h2.ext.flatMap Blk.refs) then none else some h2
theorem Akk {α γ:Type} {c c':Bool} {y:α} (g:α→γ) (h:c=c'):(if c=true then none else some (g y))=(if c'=true then none else some y).map g:=by
 subst h;cases c<;>rfl
theorem H9 {base kills rm:List Nat} {sl:List IV} {h:Hp} (hb:rm.any base.contains=false) (ha:(h.own.all fun p=>!rm.contains p.1)=false) :
  CH base kills rm ⟨sl,h⟩=(OD rm (IV.refs.refsL (A1 kills sl)) h).map fun h'=>⟨A1 kills sl,h'⟩:=by
 simp only [CH,hb,ha,Bool.false_eq_true,if_false,CZ,OD];exact Akk _ rfl
theorem Qf {base rm:List Nat} {S1:St} {kills:List Nat} {sl:List IV} (hsl:IV.refs.refsL sl=IV.refs.refsL (A1 kills S1.slots)) (hb:rm.any base.contains=false)
  (ha:(S1.hp.own.all fun p=>!rm.contains p.1)=false) {S:St} (h:CH base [] rm ⟨sl,S1.hp⟩=some S):CH base kills rm S1=some ⟨A1 kills S1.slots,S.hp⟩:=by
 obtain ⟨s1,h1⟩:=S1;rw [H9 hb ha] at h;rw [H9 hb ha];simp only [A1] at h;rw [hsl] at h;cases hd:OD rm (IV.refs.refsL (A1 kills s1)) h1 with
 | none=>rw [hd] at h;cases h
 | some h' =>
  rw [hd] at h;simp only [AwS,AwP] at h;subst h;rfl
theorem NC (s:Nat) (l:List Nat):Nt s l=l.contains s:=by
 induction l with
 | nil=>rfl
 | cons x l ih =>
  rw [show Nt s (x::l)=cond (Nat.beq s x) true (Nt s l) from rfl,Hj,ih,List.contains_cons]
  by_cases e:s=x
  ·subst e;simp
  ·rw [if_neg e];simp [e]
theorem Ga {rm:List Nat}:∀{l:List Ref},FP rm l=true→∀k∈rm,Ref.own k ∉ l
 | [],_,k,_,h=>by cases h
 | .ext j::l,h,k,hk,hm=>by
  rcases List.mem_cons.1 hm with e | hm
  ·cases e
  ·exact Ga (l:=l) h k hk hm
 | .own s::l,h,k,hk,hm=>by
  have h:cond (Nt s rm) false (FP rm l)=true:=h;cases hs:Nt s rm with
  | true=>rw [hs] at h;cases h
  | false =>
   rw [hs] at h;rcases List.mem_cons.1 hm with e | hm
   ·simp only [Ref.own.injEq] at e;subst e;rw [NC] at hs;rw [List.contains_iff_mem.2 hk] at hs;cases hs
   ·exact Ga (l:=l) h k hk hm
theorem HU {rm:List Nat}:∀{own:List (Nat×Blk)},HQ rm own=true→∀k∈rm,Ref.own k ∉ (own.filter fun p=>!rm.contains p.1).flatMap fun p=>p.2.refs
 | [],_,k,_,h=>by cases h
 | (s,b)::own,h,k,hk,hm=>by
  have h:cond (Nt s rm) (HQ rm own) (cond (FP rm (Fo b)) (HQ rm own) false)=true:=h;rw [NC,L5] at h;cases hs:rm.contains s with
  | true =>
   rw [hs] at h;rw [List.filter_cons_of_neg (by rw [hs];simp)] at hm;exact HU (own:=own) h k hk hm
  | false =>
   rw [hs] at h;rw [List.filter_cons_of_pos (by rw [hs];rfl)] at hm;cases hf:FP rm b.refs with
   | false=>rw [hf] at h;cases h
   | true =>
    rw [hf] at h;simp only [List.flatMap_cons,List.mem_append] at hm;rcases hm with hm | hm
    ·exact Ga hf k hk hm
    ·exact HU (own:=own) h k hk hm
theorem PP {rm:List Nat}:∀{ext:List Blk},JO rm ext=true→∀k∈rm,Ref.own k ∉ ext.flatMap Blk.refs
 | [],_,k,_,h=>by cases h
 | b::ext,h,k,hk,hm=>by
  have h:cond (FP rm (Fo b)) (JO rm ext) false=true:=h;rw [L5] at h;cases hf:FP rm b.refs with
  | false=>rw [hf] at h;cases h
  | true =>
   rw [hf] at h;simp only [List.flatMap_cons,List.mem_append] at hm;rcases hm with hm | hm
   ·exact Ga hf k hk hm
   ·exact PP (ext:=ext) h k hk hm
theorem Ob {rm:List Nat}:∀(own:List (Nat×Blk)),Alm rm own=!(own.all fun p=>!rm.contains p.1)
 | []=>rfl
 | (s,b)::own=>by
  rw [show Alm rm ((s,b)::own)=cond (Nt s rm) true (Alm rm own) from rfl,NC,Ob own,List.all_cons]
  cases rm.contains s<;>rfl
theorem HV {rm:List Nat}:∀(own:List (Nat×Blk)) (k:List (Nat×Blk)→Option β),V3 rm own k=k (own.filter fun p=>!rm.contains p.1)
 | [],_=>rfl
 | (s,b)::own,k=>by
  rw [show V3 rm ((s,b)::own) k=cond (Nt s rm) (V3 rm own k) (V3 rm own fun l=>k ((s,b)::l)) from rfl,NC]
  cases hs:rm.contains s with
  | true=>rw [List.filter_cons_of_neg (by rw [hs];simp)];exact HV own k
  | false=>rw [List.filter_cons_of_pos (by rw [hs];rfl)];exact HV own _
theorem Eu {ks:List Nat}:∀{l:List Ref},(∀k∈ks,Ref.own k ∉ l)→anyIn ks l=false
 | [],_=>rfl
 | .ext j::l,h=>Eu (l:=l) fun k hk hm=>h k hk (List.mem_cons_of_mem _ hm)
 | .own s::l,h=>by
  simp only [anyIn,Bool.or_eq_false_iff];refine ⟨?_,Eu (l:=l) fun k hk hm=>h k hk (List.mem_cons_of_mem _ hm)⟩;cases hc:ks.contains s with
  | false=>rfl
  | true=>exact absurd List.mem_cons_self (h s (List.contains_iff_mem.1 hc))
theorem V4 {rm:List Nat} {rs:List Ref} {own:List (Nat×Blk)} {ext:List Blk} (h1:∀k∈rm,Ref.own k ∉ rs) (h2:HQ rm own=true) (h3:JO rm ext=true) :
  OD rm rs ⟨own,ext⟩=some ⟨own.filter fun p=>!rm.contains p.1,ext⟩:=by
 have h2:=HU h2;have h3:=PP h3;have hh:∀k∈rm,Ref.own k ∉ rs++(own.filter fun p=>!rm.contains p.1).flatMap (fun p=>p.2.refs)++ext.flatMap Blk.refs:=fun k hk hm=>by
  rcases List.mem_append.1 hm with hm | hm
  ·rcases List.mem_append.1 hm with hm | hm
   ·exact h1 k hk hm
   ·exact h2 k hk hm
  ·exact h3 k hk hm
 have hg:(rm.filter fun k=>!anyIn [k] (rs++(own.filter fun p=>!rm.contains p.1).flatMap (fun p=>p.2.refs)++ext.flatMap Blk.refs))=rm:=by
  apply List.filter_eq_self.2;intro k hk;rw [Eu fun j hj hm=>hh j (by simp only [List.mem_singleton] at hj;rw [hj];exact hk) hm];rfl
 simp only [OD,hg];rw [Eu hh];rfl
theorem WC {base kills rm:List Nat} {T:FS} {S:St} (hr:Rep T S) {k:List IV→Hp→Option β} (h:QN base kills rm T k=some r) :
  ∃S' vals hp,CH base kills rm S=some S'∧AtHead T.n kills vals hp S'∧k vals hp=some r:=by
 unfold QN at h;split at h
 ·refine ⟨⟨A1 kills S.slots,T.hp⟩,_,_,?_,IC hr kills T.hp,h⟩;simp [CH,hr.hp]
 ·rename_i q rm;generalize hrm:q::rm=rm' at h ⊢;have hv:=IC hr kills S.hp;unfold Bg at h;rw [← hr.hp] at h;cases hb:rm'.any base.contains with
  | true=>rw [hb] at h;cases h
  | false =>
   rw [hb] at h;obtain ⟨sl,hp0⟩:=S;obtain ⟨own,ext⟩:=hp0;simp only [cond] at h;have hsl:IV.refs.refsL ((CQ T.n kills).map T.get)=IV.refs.refsL (A1 kills sl):=by
    rw [hv.vals];exact T7 _ _ (by simpa using hv.len) (fun i hi hg=>hv.dead i hi (by simpa using hg))
   rw [Ob] at h;cases ha:(own.all fun p=>!rm'.contains p.1) with
   | true =>
    rw [ha] at h;refine ⟨⟨A1 kills sl,⟨own,ext⟩⟩,_,_,?_,hv,h⟩;simp only [CH,hb,Bool.false_eq_true,if_false,ha,if_true]
   | false =>
    rw [ha] at h;simp only [Bool.not_false] at h;cases hf:(and (FP rm' (CD ((CQ T.n kills).map T.get) [])) (and (HQ rm' own) (JO rm' ext))) with
    | true =>
     rw [hf] at h;simp only at h;have hf:(FP rm' (CD ((CQ T.n kills).map T.get) []) && (HQ rm' own && JO rm' ext))=true:=hf;simp only [Bool.and_eq_true] at hf;rw [HV] at h;have h1:=Ga hf.1;rw [refsDL_eq,List.append_nil,hsl] at h1;refine ⟨⟨A1 kills sl,⟨own.filter fun p=>!rm'.contains p.1,ext⟩⟩,_,_,?_,IC hr kills _,h⟩;rw [H9 hb ha,V4 h1 hf.2.1 hf.2.2];rfl
    | false =>
     rw [hf] at h;simp only at h;split at h
     ·cases h
     ·rename_i S2 hd;rw [ON] at h;exact ⟨⟨A1 kills sl,S2.hp⟩,_,_,Qf (S1:=⟨sl,⟨own,ext⟩⟩) (sl:=(CQ T.n kills).map T.get) hsl hb ha hd,IC hr kills S2.hp,h⟩
theorem Zk:∀(cs:List Nat) (vals:List IV) (T:FS) {K:FS→Option β},(∀i∈cs,i<T.n)→(∀i,i<T.n→T.t.has i=true)→Vf cs vals T K=some r →
  ∃T',T'.n=T.n∧T'.hp=T.hp∧(∀i,i<T.n→T'.t.has i=true)∧K T'=some r∧∀g:Nat→IV,vals=cs.map g→∀i,i<T.n→T'.t.get i=if i∈cs then g i else T.t.get i
 | [],vals,T,K,_,hh,h=>⟨T,rfl,rfl,hh,h,fun g _ i _=>by simp⟩
 | c::cs,vals,T,K,hc,hh,h=>by
  have h:Aw vals (fun v vals=>K0 (some c) v T.hp T fun T=>Vf cs vals T K)=some r:=h;have eK:(fun (v:IV) vals=>K0 (some c) v T.hp T fun T=>Vf cs vals T K)=fun v vals=>Vf cs vals (SK (some c) v T) K:=by
   funext v vals
   rw [Pz,Tp]
  rw [eK] at h;cases vals with
  | nil=>cases h
  | cons v vals =>
   have h:Vf cs vals (SK (some c) v T) K=some r:=h;have hcn:c<T.n:=hc c List.mem_cons_self;have hput:SK (some c) v T=⟨T.n,T.t.set c v,T.hp⟩:=by
    simp only [SK];cases hb:Nat.ble T.n c with
    | true=>have:=Bo hb;omega
    | false=>rfl
   rw [hput] at h;obtain ⟨T',h1,h2,h3,h4,h5⟩:=Zk cs vals ⟨T.n,T.t.set c v,T.hp⟩ (fun i hi=>hc i (List.mem_cons_of_mem _ hi)) (fun i hi=>by rw [Z9];exact hh i hi) h;refine ⟨T',h1,h2,h3,h4,fun g hg i hi=>?_⟩;simp only [AwV,List.cons.injEq] at hg;rw [h5 g hg.2 i hi];by_cases hm:i∈cs
   ·rw [if_pos hm,if_pos (List.mem_cons_of_mem _ hm)]
   ·rw [if_neg hm];simp only;rw [AcJ _ _ _ (hh c hcn)];by_cases e:i=c
    ·subst e;rw [if_pos rfl,if_pos List.mem_cons_self,hg.1]
    ·rw [if_neg e,if_neg (by simp [e,hm])]
theorem Aj8 {n:Nat} (hn:n≤1024) {kills:List Nat} {vals:List IV} {h:Hp} {S:St} (ha:AtHead n kills vals h S) {K:FS→Option β} (e:Vf (CQ n kills) vals ⟨n,dT 10 0 n,h⟩ K=some r) :
  ∃T',T'.n=n∧Rep T' S∧K T'=some r:=by
 obtain ⟨T',h1,h2,h3,h4,h5⟩:=Zk (CQ n kills) vals ⟨n,dT 10 0 n,h⟩ (fun i hi=>(Ov.1 hi).1) (fun i hi=>(Aaq 10 0 n i (by simpa using hn) (Nat.zero_le _) (by simpa using hi)).1) e;refine ⟨T',h1,⟨by rw [ha.hp,h2],by rw [ha.len,h1],fun i hi=>h3 i (by rw [h1] at hi;exact hi),fun i hi=>?_⟩,h4⟩;rw [h1] at hi;rw [h5 _ ha.vals i hi];by_cases hm:i∈CQ n kills
 ·rw [if_pos hm]
 ·rw [if_neg hm];have hk:i∈kills:=Classical.byContradiction fun hk=>hm (Ov.2 ⟨hi,hk⟩);rw [ha.dead i hi hk];exact (Aaq 10 0 n i (by simpa using hn) (Nat.zero_le _) (by simpa using hi)).2
theorem AgU (hi:∀f args h x,ih' f args h=some x→ih f args h=some x) {n:Nat} {base:List Nat}:∀(c:Code) {T:FS} {S:St},Rep T S→T.n≤1024→∀{K:Ex→FS→Option β},FU E ih' f n base c T K=some r →
  ∃ex S' T',D0 E ih f n base c S=some (ex,S')∧Rep T' S'∧T'.n=T.n∧K ex T'=some r:=by
 intro c
 induction c with
 | skip=>intro T S hr _ K h;exact ⟨_,S,T,rfl,hr,rfl,h⟩
 | region rid ops d =>
  intro T S hr _ K h;simp only [FU,BJ] at h;simp only [D0];rw [List.range_eq_range'];cases d with
  | true =>
   obtain ⟨S',T',h1,h2,h3,h4⟩:=Ah6 hi ops.toList 0 rfl [] [] (fun x hx=>by cases hx) hr h;simp only [Array.length_toList] at h1;exact ⟨_,S',T',by simp only [if_true,h1,AwS],h2,h3,h4⟩
  | false =>
   obtain ⟨S',T',h1,h2,h3,h4⟩:=AjU hi ops.toList 0 rfl hr h;simp only [Array.length_toList] at h1;exact ⟨_,S',T',by simp only [Bool.false_eq_true,if_false,h1,AwS],h2,h3,h4⟩
 | seq x y ihx ihy =>
  intro T S hr hl K h;simp only [FU,BJ] at h;obtain ⟨ex,S1,T1,h1,h2,hn,h3⟩:=ihx hr hl h;simp only [D0,h1];cases ex with
  | normal =>
   obtain ⟨ex,S2,T2,h4,h5,hn2,h6⟩:=ihy h2 (by rw [hn];exact hl) h3;exact ⟨ex,S2,T2,h4,h5,hn2.trans hn,h6⟩
  | exit j=>exact ⟨_,_,_,rfl,h2,hn,h3⟩
  | ret=>exact ⟨_,_,_,rfl,h2,hn,h3⟩
 | cond c x y ihx ihy =>
  intro T S hr hl K h;simp only [FU,BJ,M4 hr] at h;obtain ⟨t,ht,h⟩:=V8 h;cases t with
  | true=>simp only [D0,ht];exact ihx hr hl h
  | false=>simp only [D0,ht];exact ihy hr hl h
 | block id x ihx =>
  intro T S hr hl K h;simp only [FU,BJ] at h;obtain ⟨ex,S1,T1,h1,h2,hn,h3⟩:=ihx hr hl h;simp only [D0,h1];cases ex with
  | normal=>exact ⟨_,_,_,rfl,h2,hn,h3⟩
  | exit j =>
   simp only [Hj] at h3 ⊢;by_cases e:j=id
   ·rw [if_pos e] at h3;rw [if_pos e];exact ⟨_,_,_,rfl,h2,hn,h3⟩
   ·rw [if_neg e] at h3;rw [if_neg e];exact ⟨_,_,_,rfl,h2,hn,h3⟩
  | ret=>exact ⟨_,_,_,rfl,h2,hn,h3⟩
 | loop x ihx =>
  intro T S hr hl K h;simp only [FU,BJ] at h;simp only [D0];generalize (E.pol.head f (Cc x)).1=kills at h ⊢;generalize (E.pol.head f (Cc x)).2=rm at h ⊢;generalize hF:(fun (rec:List IV→Hp→Option β) vals h=>Vf (CQ T.n kills) vals ⟨T.n,dT 10 0 T.n,h⟩ fun T=>FU E ih' f n base x T fun ex T=>match ex with
   | .normal=>QN base kills rm T rec
   | .exit j=>K (.exit j) T
   | .ret=>K .ret T)=F at h
  have key:∀(k:Nat) (S1:St) (T1:FS),Rep T1 S1→T1.n=T.n→QN base kills rm T1 (BE k F)=some r →
    ∃ex S' T',iterate (CH base kills rm) (D0 E ih f n base x) k S1=some (ex,S')∧Rep T' S'∧T'.n=T.n∧K ex T'=some r:=by
   intro k
   induction k with
   | zero =>
    intro S1 T1 hr1 hn1 h;obtain ⟨S2,vals,hp,_,_,h⟩:=WC hr1 h;cases h
   | succ k ihk =>
    intro S1 T1 hr1 hn1 h;obtain ⟨S2,vals,hp,h1,h2,h⟩:=WC hr1 h;have h:F (BE k F) vals hp=some r:=h;rw [← hF] at h;rw [hn1] at h2;simp only at h;obtain ⟨T2,hn2,hr2,h⟩:=Aj8 hl h2 h;obtain ⟨ex,S3,T3,h3,hr3,hn3,h⟩:=ihx hr2 (by rw [hn2];exact hl) h;simp only [iterate,h1,Option.bind_some,h3];cases ex with
    | normal =>
     simp only at h;rw [hF] at h;exact ihk S3 T3 hr3 (hn3.trans hn2) h
    | exit j=>exact ⟨_,_,_,rfl,hr3,hn3.trans hn2,h⟩
    | ret=>exact ⟨_,_,_,rfl,hr3,hn3.trans hn2,h⟩
  exact key n S T hr rfl h
 | exit id=>intro T S hr _ K h;exact ⟨_,S,T,rfl,hr,rfl,h⟩
 | ret=>intro T S hr _ K h;exact ⟨_,S,T,rfl,hr,rfl,h⟩
 | _=>intro T S hr _ K h;simp only [FU,BJ] at h;cases h
theorem AiC {agg:Bool} {size:Nat} {a:IV} {hp:Hp} {k:IV→Option β} (h:AA agg size a hp k=some r) :
  ∃v,(match a with
   | .ptr q off=>match hp.get q with
    | some (.row cells _)=>Ch agg size off cells
    | _=>none
   | .fv (.fp cells off)=>(Bt agg size off cells).map .fv
   | _=>none)=some v∧k v=some r:=by
 cases agg with
 | true =>
  have h:Aj size a hp (fun v _=>k v)=some r:=h;unfold Aj at h;rcases DK h with ⟨q,o,rfl,g'⟩ | ⟨cs,o,rfl,g'⟩<;>replace h:=g'<;>clear g'
  ·rw [EZ] at h;obtain ⟨b,hb,h⟩:=Br h;obtain ⟨cells,ro,rfl,g'⟩:=GW h;replace h:=g';clear g';obtain ⟨h1,h2⟩:=QA h;exact ⟨_,by simp only [hb,h1],h2⟩
  ·obtain ⟨h1,h2⟩:=PH h;exact ⟨_,by simp only [h1,AwS],h2⟩
 | false =>
  have h:Af a hp (fun v _=>k v)=some r:=h;unfold Af at h;rcases DK h with ⟨q,o,rfl,g'⟩ | ⟨cs,o,rfl,g'⟩<;>replace h:=g'<;>clear g'
  ·rw [EZ] at h;obtain ⟨b,hb,h⟩:=Br h;obtain ⟨cells,ro,rfl,g'⟩:=GW h;replace h:=g';clear g';rw [C3] at h;obtain ⟨v,hv,h⟩:=Br h;exact ⟨_,by simp only [hb,Ch,Bool.false_eq_true,if_false,hv],h⟩
  ·rw [C3] at h;obtain ⟨v,hv,h⟩:=Br h;exact ⟨_,by simp only [Bt,Bool.false_eq_true,if_false,hv,AwS],h⟩
theorem R8 {T:FS} {S:St} (hr:Rep T S):∀(rs:List ResultVar) (acc:List IV) {k:List IV→Option β},Afw E T rs acc k=some r→∃vs,Gi E S rs=some vs∧k (acc++vs)=some r
 | [],acc,k,h=>⟨[],rfl,by rw [List.append_nil];exact h⟩
 | .tmp t::rs,acc,k,h=>by
  have h:Afw E T rs (acc++[T.get t]) k=some r:=h;obtain ⟨vs,h1,h2⟩:=R8 hr rs _ h;refine ⟨T.get t::vs,?_,by simpa using h2⟩;simp only [Gi,J5,Option.bind_some,h1,AwS,hr.at_]
 | .cell a t::rs,acc,k,h=>by
  have h:(match E.T t with
   | none=>none
   | some ti=>AA ti.kind.isAgg ti.size (T.get a) T.hp fun v=>Afw E T rs (acc++[v]) k)=some r:=h
  cases ht:E.T t with
  | none=>rw [ht] at h;cases h
  | some ti =>
   rw [ht] at h;obtain ⟨v,h1,h⟩:=AiC h;obtain ⟨vs,h2,h3⟩:=R8 hr rs _ h;refine ⟨v::vs,?_,by simpa using h3⟩
   have:J5 E S (.cell a t)=some v:=by
    simp only [J5,ht,← hr.at_,hr.hp];rw [← h1];cases T.get a with
    | fv w=>cases w<;>rfl
    | _=>rfl
   simp only [Gi,this,Option.bind_some,h2,AwS]
theorem Akf {FT:Nat→Option Func} (hFT:∀f fn,FT f=some fn→E.P.funcs[f]?=some fn) {n:Nat} {sh:Aa} (hi:∀f args h x,sh f args h=some x→run E n f args h=some x) {args:List IV} {h:Hp} {x:IV×Hp}
  (e:Az E sh FT n f args h=some x):run E (n+1) f args h=some x:=by
 unfold Az at e;simp only [BJ] at e;simp only [run];cases hf:FT f with
 | none=>rw [hf] at e;cases e
 | some fn =>
  rw [hf] at e;rw [hFT f fn hf];simp only at e ⊢;cases hc:fn.body with
  | none=>rw [hc] at e;cases e
  | some c =>
   rw [hc] at e;simp only at e ⊢;obtain ⟨hl,e⟩:=Dv e;rw [QQ] at e;simp only [Bool.and_eq_true] at hl;have hl1:=Bo hl.1;have hl2:=Bo hl.2;have hrep0:Rep ⟨fn.ntmps,dT 10 0 fn.ntmps,h⟩ ⟨List.replicate fn.ntmps .dead,h⟩:=by
    refine ⟨rfl,by simp,fun i hi=>(Aaq 10 0 fn.ntmps i (by simpa using hl2) (Nat.zero_le _) (by simpa using hi)).1,fun i hi=>?_⟩;rw [(Aaq 10 0 fn.ntmps i (by simpa using hl2) (Nat.zero_le _) (by simpa using hi)).2,List.getD_eq_getElem?_getD,List.getElem?_replicate];simp [hi]
   obtain ⟨T0,h1,h2⟩:=AhK args 0 (K:=_) hrep0;rw [h1] at e;have hs:LM args 0 (List.replicate fn.ntmps .dead)=args++List.replicate (fn.ntmps - args.length) .dead:=by
    apply List.ext_getElem?;intro j;rw [Nq _ _ _ _ (by simpa using hl1)];by_cases hj:j<args.length
    ·rw [if_pos (by omega),List.getElem?_append_left hj];simp
    ·rw [if_neg (by omega),List.getElem?_append_right (by omega),List.getElem?_replicate,List.getElem?_replicate];by_cases hj2:j<fn.ntmps
     ·rw [if_pos hj2,if_pos (by omega)]
     ·rw [if_neg hj2,if_neg (by omega)]
   simp only [hs] at h2;have hT0:T0.n≤1024:=by
    have:=h2.len
    simp at this;omega
   obtain ⟨ex,S',T',h3,h4,_,h5⟩:=AgU hi c h2 hT0 e;rw [h3];have hres:(Afw E T' fn.results.toList [] fun vs=>An vs T'.hp)=some x→(G8 E S' fn.results.toList).map (fun v=>(v,S'.hp))=some x:=by
    intro h;obtain ⟨vs,h1,h⟩:=R8 h4 _ _ h;rw [List.nil_append] at h;simp only [G8,h1,AwS,h4.hp]
    match vs,h with
    | [],h=>simp only [An,AdQ] at h;exact h
    | [v],h=>exact h
    | v::w::l,h=>simp only [An,AdQ] at h;exact h
   cases ex with
   | exit j=>cases h5
   | normal=>exact hres h5
   | ret=>exact hres h5
end
end Idl
end Go.Proofs.Ytaifgaidaglblaa
namespace Go.Proofs.Ytaifgaidaglblaa
namespace Idl
section
variable {β:Type}
def Wz {α:Type} (l:List α) (a:Option β):Option β:=List.casesOn (motive:=fun _=>Option β) l a fun _ _=>none
def Pp (g:Hp→Option β) (args:List IV) (h:Hp):Option β:=Wz args (g h)
def Fv (g:IV→Hp→Option β) (args:List IV) (h:Hp):Option β:=Aw args fun a l=>Wz l (g a h)
def Ed (g:IV→IV→Hp→Option β) (args:List IV) (h:Hp):Option β:=Aw args fun a l=>Aw l fun b l=>Wz l (g a b h)
def L8 (g:IV→IV→IV→Hp→Option β) (args:List IV) (h:Hp):Option β:=Aw args fun a l=>Aw l fun b l=>Aw l fun c l=>Wz l (g a b c h)
def Ma (g:IV→IV→IV→IV→Hp→Option β) (args:List IV) (h:Hp):Option β:=Aw args fun a l=>Aw l fun b l=>Aw l fun c l=>Aw l fun d l=>Wz l (g a b c d h)
def ar5 (g:IV→IV→IV→IV→IV→Hp→Option β) (args:List IV) (h:Hp):Option β:=Aw args fun a l=>Aw l fun b l=>Aw l fun c l=>Aw l fun d l=>Aw l fun e l=>Wz l (g a b c d e h)
def ar6 (g:IV→IV→IV→IV→IV→IV→Hp→Option β) (args:List IV) (h:Hp):Option β:=Aw args fun a l=>Aw l fun b l=>Aw l fun c l=>Aw l fun d l=>Aw l fun e l=>Aw l fun f l=>Wz l (g a b c d e f h)
theorem Cd {α:Type} {l:List α} {k:α→List α→Option β} {r:β} (h:Aw l k=some r):∃a t,l=a::t∧k a t=some r:=by
 cases l with
 | nil=>cases h
 | cons a t=>exact ⟨a,t,rfl,h⟩
theorem J8 {α:Type} {l:List α} {a:Option β} {r:β} (h:Wz l a=some r):l=[]∧a=some r:=by
 cases l with
 | nil=>exact ⟨rfl,h⟩
 | cons _ _=>cases h
variable {F:List IV→Hp→Option β} {args:List IV} {h:Hp} {r:β}
theorem WZ {g:Hp→Option β} (hg:∀h,F [] h=g h) (e:Pp g args h=some r):F args h=some r:=by
 obtain ⟨rfl,e9⟩:=J8 e;rw [hg];exact e9
theorem BU {g:IV→Hp→Option β} (hg:∀a h,F [a] h=g a h) (e:Fv g args h=some r):F args h=some r:=by
 obtain ⟨a,l1,rfl,e1⟩:=Cd e;obtain ⟨rfl,e9⟩:=J8 e1;rw [hg];exact e9
theorem BH {g:IV→IV→Hp→Option β} (hg:∀a b h,F [a,b] h=g a b h) (e:Ed g args h=some r):F args h=some r:=by
 obtain ⟨a,l1,rfl,e1⟩:=Cd e;obtain ⟨b,l2,rfl,e2⟩:=Cd e1;obtain ⟨rfl,e9⟩:=J8 e2;rw [hg];exact e9
theorem Ek {g:IV→IV→IV→Hp→Option β} (hg:∀a b c h,F [a,b,c] h=g a b c h) (e:L8 g args h=some r):F args h=some r:=by
 obtain ⟨a,l1,rfl,e1⟩:=Cd e;obtain ⟨b,l2,rfl,e2⟩:=Cd e1;obtain ⟨c,l3,rfl,e3⟩:=Cd e2;obtain ⟨rfl,e9⟩:=J8 e3;rw [hg];exact e9
theorem Es {g:IV→IV→IV→IV→Hp→Option β} (hg:∀a b c d h,F [a,b,c,d] h=g a b c d h) (e:Ma g args h=some r):F args h=some r:=by
 obtain ⟨a,l1,rfl,e1⟩:=Cd e;obtain ⟨b,l2,rfl,e2⟩:=Cd e1;obtain ⟨c,l3,rfl,e3⟩:=Cd e2;obtain ⟨d,l4,rfl,e4⟩:=Cd e3;obtain ⟨rfl,e9⟩:=J8 e4;rw [hg];exact e9
theorem AtH {g:IV→IV→IV→IV→IV→Hp→Option β} (hg:∀a b c d x h,F [a,b,c,d,x] h=g a b c d x h) (e:ar5 g args h=some r):F args h=some r:=by
 obtain ⟨a,l1,rfl,e1⟩:=Cd e;obtain ⟨b,l2,rfl,e2⟩:=Cd e1;obtain ⟨c,l3,rfl,e3⟩:=Cd e2;obtain ⟨d,l4,rfl,e4⟩:=Cd e3;obtain ⟨x,l5,rfl,e5⟩:=Cd e4;obtain ⟨rfl,e9⟩:=J8 e5;rw [hg];exact e9
theorem AtY {g:IV→IV→IV→IV→IV→IV→Hp→Option β} (hg:∀a b c d x y h,F [a,b,c,d,x,y] h=g a b c d x y h) (e:ar6 g args h=some r):F args h=some r:=by
 obtain ⟨a,l1,rfl,e1⟩:=Cd e;obtain ⟨b,l2,rfl,e2⟩:=Cd e1;obtain ⟨c,l3,rfl,e3⟩:=Cd e2;obtain ⟨d,l4,rfl,e4⟩:=Cd e3;obtain ⟨x,l5,rfl,e5⟩:=Cd e4;obtain ⟨y,l6,rfl,e6⟩:=Cd e5;obtain ⟨rfl,e9⟩:=J8 e6;rw [hg];exact e9
end
abbrev Sh:=Aa→Nat→List IV→Hp→Option (IV×Hp)
inductive DT where
 | nil
 | leaf (f:Nat) (g:Sh)
 | node (m:Nat) (l r:DT)
def DT.call (t:DT):Nat→Sh :=
 DT.rec (motive:=fun _=>Nat→Sh) (fun _ _ _ _ _=>none) (fun f g i=>cond (Nat.beq i f) g fun _ _ _ _=>none) (fun m _ _ gl gr i=>cond (Nat.ble m i) (gr i) (gl i)) t
def SS (t:DT) (n:Nat):Aa:=Nat.rec (motive:=fun _=>Aa) (fun _ _ _=>none) (fun n ih f args h=>t.call f ih n args h) n
def Ar5 (E:Env) (FT:Nat→Option Func) (f:Nat) (g:Sh):Prop:=∀ih n args h x,g ih n args h=some x→Az E ih FT n f args h=some x
def DT.Ok (E:Env) (FT:Nat→Option Func):DT→Prop
 | .nil=>True
 | .leaf f g=>Ar5 E FT f g
 | .node _ l r=>l.Ok E FT∧r.Ok E FT
theorem DT.call_ok {E:Env} {FT:Nat→Option Func} {t:DT} (ht:t.Ok E FT):∀f,Ar5 E FT f (t.call f):=by
 induction t with
 | nil=>intro f ih n args h x e;cases e
 | leaf j g =>
  intro f ih n args h x e;have e:(cond (Nat.beq f j) g fun _ _ _ _=>none) ih n args h=some x:=e;cases hb:Nat.beq f j with
  | false=>rw [hb] at e;cases e
  | true=>rw [hb] at e;rw [DZ hb];exact ht ih n args h x e
 | node m l r ihl ihr =>
  intro f ih n args h x e;have e:(cond (Nat.ble m f) (r.call f) (l.call f)) ih n args h=some x:=e;cases hb:Nat.ble m f with
  | true=>rw [hb] at e;exact ihr ht.2 f ih n args h x e
  | false=>rw [hb] at e;exact ihl ht.1 f ih n args h x e
theorem Ara {E:Env} {FT:Nat→Option Func} (hFT:∀f fn,FT f=some fn→E.P.funcs[f]?=some fn) {t:DT} (ht:t.Ok E FT):∀n f args h x,SS t n f args h=some x→run E n f args h=some x:=by
 intro n
 induction n with
 | zero=>intro f args h x e;cases e
 | succ n ihn=>intro f args h x e;exact Akf hFT ihn (DT.call_ok ht f _ _ _ _ _ e)
end Idl
end Go.Proofs.Ytaifgaidaglblaa

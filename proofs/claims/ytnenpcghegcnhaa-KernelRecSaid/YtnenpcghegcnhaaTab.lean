/-
  THE IDEAL SEMANTICS OVER THE PROGRAM OF THIS SEAT: its types, the calls' ways. Printed by a program of mine (gen-tab). No statement is proved here.
-/
import Derived.Test.YtnenpcghegcnhaaChecked
import Derived.KernelRfl
import Derived.Test.YtnenpcghegcnhaaIdl23
namespace Go.Proofs.Ytnenpcghegcnhaa
namespace Idl
noncomputable def tab : TTree :=
 .node 39 (.node 14 (.node 8 (.node 4 (.node 3 (.leaf 2 ⟨1, 8, .int .i64, [.fv (.int .i64 0)]⟩)
 (.leaf 3 ⟨1, 8, .int .i64, [.fv (.int .i64 0)]⟩))
 (.node 5 (.leaf 4 ⟨1, 1, .bool, [.fv (.bool false)]⟩)
 (.node 6 (.leaf 5 ⟨1, 1, .int .u8, [.fv (.int .u8 0)]⟩)
 (.leaf 6 ⟨1, 1, .int .u8, [.fv (.int .u8 0)]⟩))))
 (.node 10 (.node 9 (.leaf 8 ⟨4, 24, .struct [(0, 2), (1, 3), (2, 4), (3, 6)], [.fv (.int .i64 0), .fv (.int .i64 0), .fv (.bool false), .fv (.int .u8 0)]⟩)
 (.leaf 9 ⟨1, 16, .str, [.fv (.str .empty)]⟩))
 (.node 11 (.leaf 10 ⟨1, 16, .str, [.fv (.str .empty)]⟩)
 (.node 12 (.leaf 11 ⟨1, 16, .str, [.fv (.str .empty)]⟩)
 (.leaf 12 ⟨1, 8, .int .u64, [.fv (.int .u64 0)]⟩)))))
 (.node 23 (.node 16 (.node 15 (.leaf 14 ⟨2, 24, .struct [(0, 9), (1, 12)], [.fv (.str .empty), .fv (.int .u64 0)]⟩)
 (.leaf 15 ⟨1, 8, .ptr, [.fv (.nilp)]⟩))
 (.node 17 (.leaf 16 ⟨1, 8, .ptr, [.fv (.nilp)]⟩)
 (.node 19 (.leaf 17 ⟨1, 8, .ptr, [.fv (.nilp)]⟩)
 (.leaf 19 ⟨1, 8, .struct [(0, 17)], [.fv (.nilp)]⟩))))
 (.node 31 (.node 25 (.leaf 23 ⟨1, 24, .slice 25, [.nils]⟩)
 (.node 28 (.leaf 25 ⟨3, 40, .struct [(0, 3), (1, 3), (2, 23)], [.fv (.int .i64 0), .fv (.int .i64 0), .nils]⟩)
 (.leaf 28 ⟨1, 24, .slice 9, [.nils]⟩)))
 (.node 35 (.leaf 31 ⟨1, 24, .slice 37, [.nils]⟩)
 (.node 37 (.leaf 35 ⟨1, 8, .func, [.fv (.nilf)]⟩)
 (.leaf 37 ⟨4, 48, .struct [(0, 3), (1, 25)], [.fv (.int .i64 0), .fv (.int .i64 0), .fv (.int .i64 0), .nils]⟩))))))
 (.node 72 (.node 56 (.node 48 (.node 42 (.leaf 39 ⟨1, 8, .int .i64, [.fv (.int .i64 0)]⟩)
 (.leaf 42 ⟨1, 8, .func, [.fv (.nilf)]⟩))
 (.node 50 (.leaf 48 ⟨1, 8, .func, [.fv (.nilf)]⟩)
 (.node 54 (.leaf 50 ⟨1, 24, .slice 37, [.nils]⟩)
 (.leaf 54 ⟨1, 24, .slice 5, [.nils]⟩))))
 (.node 66 (.node 63 (.leaf 56 ⟨1, 8, .ptr, [.fv (.nilp)]⟩)
 (.leaf 63 ⟨1, 8, .int .i64, [.fv (.int .i64 0)]⟩))
 (.node 68 (.leaf 66 ⟨1, 8, .ptr, [.fv (.nilp)]⟩)
 (.node 70 (.leaf 68 ⟨1, 8, .ptr, [.fv (.nilp)]⟩)
 (.leaf 70 ⟨1, 8, .map 3 91, [.dead]⟩)))))
 (.node 91 (.node 83 (.node 78 (.leaf 72 ⟨5, 40, .struct [(0, 3), (1, 3), (2, 3), (3, 39), (4, 70)], [.fv (.int .i64 0), .fv (.int .i64 0), .fv (.int .i64 0), .fv (.int .i64 0), .dead]⟩)
 (.leaf 78 ⟨1, 8, .func, [.fv (.nilf)]⟩))
 (.node 87 (.leaf 83 ⟨4, 48, .struct [(0, 25), (3, 39)], [.fv (.int .i64 0), .fv (.int .i64 0), .nils, .fv (.int .i64 0)]⟩)
 (.node 89 (.leaf 87 ⟨31, 248, .arr 31 3, [.fv (.int .i64 0), .fv (.int .i64 0), .fv (.int .i64 0), .fv (.int .i64 0), .fv (.int .i64 0), .fv (.int .i64 0), .fv (.int .i64 0), .fv (.int .i64 0), .fv (.int .i64 0), .fv (.int .i64 0), .fv (.int .i64 0), .fv (.int .i64 0), .fv (.int .i64 0), .fv (.int .i64 0), .fv (.int .i64 0), .fv (.int .i64 0), .fv (.int .i64 0), .fv (.int .i64 0), .fv (.int .i64 0), .fv (.int .i64 0), .fv (.int .i64 0), .fv (.int .i64 0), .fv (.int .i64 0), .fv (.int .i64 0), .fv (.int .i64 0), .fv (.int .i64 0), .fv (.int .i64 0), .fv (.int .i64 0), .fv (.int .i64 0), .fv (.int .i64 0), .fv (.int .i64 0)]⟩)
 (.leaf 89 ⟨1, 8, .func, [.fv (.nilf)]⟩))))
 (.node 96 (.node 92 (.leaf 91 ⟨1, 8, .struct [(0, 89)], [.fv (.nilf)]⟩)
 (.node 94 (.leaf 92 ⟨1, 8, .ptr, [.fv (.nilp)]⟩)
 (.leaf 94 ⟨1, 24, .slice 68, [.nils]⟩)))
 (.node 107 (.leaf 96 ⟨7, 88, .struct [(0, 3), (1, 3), (2, 94), (3, 25), (6, 92)], [.fv (.int .i64 0), .fv (.int .i64 0), .nils, .fv (.int .i64 0), .fv (.int .i64 0), .nils, .fv (.nilp)]⟩)
 (.node 121 (.leaf 107 ⟨2, 16, .struct [(0, 68), (1, 92)], [.fv (.nilp), .fv (.nilp)]⟩)
 (.leaf 121 ⟨1, 1, .int .u8, [.fv (.int .u8 0)]⟩))))))
noncomputable def keepTab : List (Nat × List Bool) := [(34, [false, true, false]), (45, [true, false, false]), (46, [true, false, false, false]), (68, [true, false]), (69, [true, false]), (70, [true, false]), (71, [true, false]), (72, [true, false]), (73, [true]), (76, [true, false]), (77, [true, false, false, false])]
noncomputable def headTab : List (Nat × Nat × List Nat × List Nat) := [(5, 7, [2, 3, 4, 10, 11, 12, 13, 14, 15, 16, 17, 18, 19, 20, 21, 22, 23, 24, 25, 26, 27, 28, 29, 30, 31, 32, 33, 34, 35, 36, 37, 38, 39, 40, 41, 42, 43, 44, 45, 46, 47, 48, 49, 50, 51, 52, 53, 54, 55, 56, 57, 58, 59, 60, 61, 62, 63, 64, 65, 66, 67, 68, 69, 70, 71, 72, 73, 74, 75, 76, 77, 78, 79, 80, 81, 82, 83, 84, 85, 86, 87, 88, 89, 90, 91, 92, 93, 94, 95, 96, 97, 98, 99, 100, 101, 102], []),
 (15, 3, [1, 5, 6, 7, 8, 9, 10, 11, 12, 13, 14], []),
 (16, 15, [0, 2, 3, 6, 7, 8, 9, 10, 11, 12, 13, 14, 15, 16, 17, 18, 19, 20, 21, 22, 23, 24, 25, 26, 27, 28, 29, 30, 31, 32, 33, 34, 35, 36, 37, 38, 39, 40, 41, 42, 43, 44, 45, 46, 47, 48, 49, 50, 51, 52, 53, 54, 55, 56, 57, 58, 59, 60, 61], []),
 (21, 4, [0, 1, 4, 6, 7, 8, 9, 10, 11, 12, 13, 14, 15, 16, 17, 18, 19, 20, 21, 22, 23, 24, 25, 26, 27, 28, 29, 30, 31, 32, 33, 34, 35, 36, 37, 38, 39, 40, 41, 42, 43, 44, 45], []),
 (34, 7, [0, 3, 4, 5, 6, 7, 8, 9, 10, 11, 12, 13, 14, 15, 16, 17, 18, 19, 20, 21, 22, 23, 24, 25, 26, 27, 28, 29, 30, 31, 32, 33, 34, 35, 36, 37, 38, 42, 43, 44, 45, 46, 47, 48, 49, 50, 51, 52, 53], [35659778]),
 (35, 2, [2, 3, 4, 5, 6, 9, 10, 11, 12, 13, 14, 15, 16, 17, 18], []),
 (43, 5, [0, 1, 2, 3, 4, 5, 6, 7, 8, 9, 10, 11, 12, 13, 14, 15, 16, 17, 18, 19, 20, 21, 22, 23, 24, 25, 26, 27, 28, 32, 33, 34, 35, 36, 37, 38], [45094914]),
 (45, 8, [2, 3, 4, 6, 8, 9, 10, 11, 12, 13, 14, 15, 16, 17, 18, 19, 20, 21, 22, 23, 24, 25, 26, 27, 28, 29, 30, 31, 32, 33, 34, 35, 36, 37, 41, 42, 43, 44, 45, 46, 47, 48, 49, 50, 51, 52, 53, 54, 55, 56, 57, 58, 59, 60, 61, 62, 63, 64, 65, 66, 67, 68, 69], [47195139]),
 (46, 11, [4, 5, 6, 7, 10, 11, 12, 13, 14, 15, 16, 17, 18, 19, 20, 21, 22, 23, 24, 25, 26, 27, 28, 29, 30, 31, 32, 33, 34, 35, 36, 37, 38, 39, 40, 41, 42, 43, 44, 45, 46, 47, 48, 49, 50, 51, 52, 53, 54, 55, 56, 57, 58, 59, 60, 61, 62, 63, 64, 65, 66, 67, 68, 71, 72, 73, 74, 75, 76, 77, 78, 79, 80, 81, 82, 83, 84, 85, 86, 87, 88, 89, 90, 91, 92, 93, 94, 95, 96, 97, 98, 99, 100, 101, 102, 103, 104, 105, 106, 107, 108, 109, 110, 111, 112, 113, 114, 115, 116, 117, 118, 119, 120, 121, 122, 123, 124, 125, 126, 127, 128, 129, 130, 131, 132, 133, 134, 135, 136], [48249857, 48253958]),
 (46, 17, [4, 5, 6, 7, 11, 14, 15, 16, 17, 18, 19, 20, 21, 22, 23, 24, 25, 26, 27, 28, 29, 30, 31, 32, 33, 34, 35, 36, 37, 38, 39, 40, 41, 42, 43, 44, 45, 46, 47, 48, 49, 50, 51, 52, 53, 54, 55, 56, 57, 58, 59, 60, 61, 62, 63, 64, 65, 66, 67, 68, 71, 72, 73, 74, 75, 76, 77, 78, 79, 80, 81, 82, 83, 84, 85, 86, 87, 88, 89, 90, 93, 94, 95, 96, 97, 98, 99, 100, 101, 102, 103, 104, 105, 106, 107, 108, 109, 110, 111, 112, 113, 114, 115, 116, 117, 118, 119, 120, 121, 122, 123, 124, 125, 126, 127, 128, 129, 130, 131, 132, 133, 134, 135, 136], [48253958]),
 (54, 3, [0, 2, 3, 4, 5, 7, 8, 10, 11, 12, 13, 14, 18, 19, 20, 21, 22, 23, 24, 25, 26, 27, 28, 29], [56627202]),
 (74, 1, [2, 3, 4, 5, 6, 7, 8, 9, 10, 11, 12, 13, 14, 15, 16, 17, 18, 19, 20, 21, 22], []),
 (78, 5, [0, 4, 5, 8, 9, 10, 11, 12, 13, 14, 15, 16, 17, 18, 19, 20, 21, 25, 26, 27, 28, 29, 30, 31, 32, 33, 34, 35, 36, 37, 38, 39, 40, 41, 42, 43, 44, 45, 46, 47], [81795075]),
 (90, 2, [1, 2, 3, 4, 5, 6, 10, 11, 12, 13, 14, 15, 16, 17, 18], [94375939]),
 (93, 4, [0, 4, 5, 6, 7, 8, 9, 10, 11, 12, 13, 14, 15, 16, 17, 21, 22, 23, 24, 25, 26, 27, 28, 29, 30, 31, 32, 33, 34], [97522691]),
 (96, 3, [0, 4, 5, 6, 7, 8, 9, 10, 14, 15, 16, 17, 18, 19, 20, 21, 22, 23, 24, 25, 26, 27, 28, 29], [100667395]),
 (97, 3, [0, 4, 5, 6, 7, 8, 9, 10, 11, 12, 13, 14, 15, 19, 20, 21, 22, 23, 24, 25, 26, 27, 28, 29, 30, 31, 32, 33, 34, 35, 36, 37, 38, 39, 40, 41, 42, 43, 44, 45, 46, 47, 48], [101715971]),
 (98, 4, [0, 3, 4, 5, 6, 7, 8, 9, 10, 11, 12, 13, 14, 18, 19, 20, 21, 22, 23, 24, 25, 26, 27, 28, 29, 30, 31], [102765571, 102766596])]
noncomputable def inTab (l : List Nat) (f : Nat) : Bool := l.any fun g => Nat.beq g f
noncomputable def keepOf (f : Nat) : List (Nat × List Bool) → List Bool
  | [] => []
  | (g, k) :: l => if Nat.beq g f then k else keepOf f l
noncomputable def headAt (f r : Nat) : List (Nat × Nat × List Nat × List Nat) → List Nat × List Nat
  | [] => ([], [])
  | (g, q, k) :: l => if Nat.beq g f && Nat.beq q r then k else headAt f r l
noncomputable def pol : Pol where
  inl := inTab [44]
  keep := fun f => keepOf f keepTab
  raw := inTab [44, 91]
  head := fun f r => headAt f r headTab
  rowApp := fun f _ _ => inTab [] f
  fzBox := fun f _ _ => inTab [46, 90] f
  split := inTab [92]
noncomputable def EE : Env := ⟨Try.prog, tab.get, pol⟩
set_option maxRecDepth 100000 in
theorem tab_ok : tab.leaves.map (fun p => tiOf Try.prog p.1) = tab.leaves.map (fun p => some p.2) := by kernel_rfl
theorem mixed_ok : Try.prog.follows .mixedOrders = true := by kernel_rfl
theorem names_ok : namesOk Try.prog = true := by kernel_rfl
theorem codes_ok : codesOk Try.prog = true := by kernel_rfl
noncomputable def ft : FTr :=
 .node 51 (.node 26 (.node 14 (.node 8 (.node 5 (.node 3 (.leaf 2 Try.f2)
 (.node 4 (.leaf 3 Try.f3)
 (.leaf 4 Try.f4)))
 (.node 6 (.leaf 5 Try.f5)
 (.node 7 (.leaf 6 Try.f6)
 (.leaf 7 Try.f7))))
 (.node 11 (.node 9 (.leaf 8 Try.f8)
 (.node 10 (.leaf 9 Try.f9)
 (.leaf 10 Try.f10)))
 (.node 12 (.leaf 11 Try.f11)
 (.node 13 (.leaf 12 Try.f12)
 (.leaf 13 Try.f13)))))
 (.node 20 (.node 17 (.node 15 (.leaf 14 Try.f14)
 (.node 16 (.leaf 15 Try.f15)
 (.leaf 16 Try.f16)))
 (.node 18 (.leaf 17 Try.f17)
 (.node 19 (.leaf 18 Try.f18)
 (.leaf 19 Try.f19))))
 (.node 23 (.node 21 (.leaf 20 Try.f20)
 (.node 22 (.leaf 21 Try.f21)
 (.leaf 22 Try.f22)))
 (.node 24 (.leaf 23 Try.f23)
 (.node 25 (.leaf 24 Try.f24)
 (.leaf 25 Try.f25))))))
 (.node 38 (.node 32 (.node 29 (.node 27 (.leaf 26 Try.f26)
 (.node 28 (.leaf 27 Try.f27)
 (.leaf 28 Try.f28)))
 (.node 30 (.leaf 29 Try.f29)
 (.node 31 (.leaf 30 Try.f30)
 (.leaf 31 Try.f31))))
 (.node 35 (.node 33 (.leaf 32 Try.f32)
 (.node 34 (.leaf 33 Try.f33)
 (.leaf 34 Try.f34)))
 (.node 36 (.leaf 35 Try.f35)
 (.node 37 (.leaf 36 Try.f36)
 (.leaf 37 Try.f37)))))
 (.node 44 (.node 41 (.node 39 (.leaf 38 Try.f38)
 (.node 40 (.leaf 39 Try.f39)
 (.leaf 40 Try.f40)))
 (.node 42 (.leaf 41 Try.f41)
 (.node 43 (.leaf 42 Try.f42)
 (.leaf 43 Try.f43))))
 (.node 47 (.node 45 (.leaf 44 Try.f44)
 (.node 46 (.leaf 45 Try.f45)
 (.leaf 46 Try.f46)))
 (.node 49 (.node 48 (.leaf 47 Try.f47)
 (.leaf 48 Try.f48))
 (.node 50 (.leaf 49 Try.f49)
 (.leaf 50 Try.f50)))))))
 (.node 76 (.node 63 (.node 57 (.node 54 (.node 52 (.leaf 51 Try.f51)
 (.node 53 (.leaf 52 Try.f52)
 (.leaf 53 Try.f53)))
 (.node 55 (.leaf 54 Try.f54)
 (.node 56 (.leaf 55 Try.f55)
 (.leaf 56 Try.f56))))
 (.node 60 (.node 58 (.leaf 57 Try.f57)
 (.node 59 (.leaf 58 Try.f58)
 (.leaf 59 Try.f59)))
 (.node 61 (.leaf 60 Try.f60)
 (.node 62 (.leaf 61 Try.f61)
 (.leaf 62 Try.f62)))))
 (.node 69 (.node 66 (.node 64 (.leaf 63 Try.f63)
 (.node 65 (.leaf 64 Try.f64)
 (.leaf 65 Try.f65)))
 (.node 67 (.leaf 66 Try.f66)
 (.node 68 (.leaf 67 Try.f67)
 (.leaf 68 Try.f68))))
 (.node 72 (.node 70 (.leaf 69 Try.f69)
 (.node 71 (.leaf 70 Try.f70)
 (.leaf 71 Try.f71)))
 (.node 74 (.node 73 (.leaf 72 Try.f72)
 (.leaf 73 Try.f73))
 (.node 75 (.leaf 74 Try.f74)
 (.leaf 75 Try.f75))))))
 (.node 88 (.node 82 (.node 79 (.node 77 (.leaf 76 Try.f76)
 (.node 78 (.leaf 77 Try.f77)
 (.leaf 78 Try.f78)))
 (.node 80 (.leaf 79 Try.f79)
 (.node 81 (.leaf 80 Try.f80)
 (.leaf 81 Try.f81))))
 (.node 85 (.node 83 (.leaf 82 Try.f82)
 (.node 84 (.leaf 83 Try.f83)
 (.leaf 84 Try.f84)))
 (.node 86 (.leaf 85 Try.f85)
 (.node 87 (.leaf 86 Try.f86)
 (.leaf 87 Try.f87)))))
 (.node 94 (.node 91 (.node 89 (.leaf 88 Try.f88)
 (.node 90 (.leaf 89 Try.f89)
 (.leaf 90 Try.f90)))
 (.node 92 (.leaf 91 Try.f91)
 (.node 93 (.leaf 92 Try.f92)
 (.leaf 93 Try.f93))))
 (.node 97 (.node 95 (.leaf 94 Try.f94)
 (.node 96 (.leaf 95 Try.f95)
 (.leaf 96 Try.f96)))
 (.node 99 (.node 98 (.leaf 97 Try.f97)
 (.leaf 98 Try.f98))
 (.node 100 (.leaf 99 Try.f99)
 (.leaf 100 Try.f100)))))))
theorem ft_ok : ∀ f fn, ft.get f = some fn → EE.P.funcs[f]? = some fn := FTr.ok (by kernel_rfl)
theorem ee_ok : EnvOk EE := env_ok tab_ok mixed_ok names_ok codes_ok
theorem sim (n : Nat) : SimH EE (run EE n) := run_ok ee_ok n
end Idl
end Go.Proofs.Ytnenpcghegcnhaa

/-
  Runs of a law in the ideal semantics, reckoned by the shallow form. Printed by a program of mine (gen-out2.py). No statement is proved here.
-/
import Derived.Test.YtbkdidonegggdaaSh
import Derived.Test.YtbkdidonegggdaaIdl32
import Derived.KernelRfl
namespace Go.Proofs.Ytbkdidonegggdaa
namespace Idl
set_option maxRecDepth 1000000
theorem out7_0_0 (x y : Int) : outT EE ft dt 28 3000 7 [.fv (.int .i64 x), .fv (.int .i64 y)] [0, 0] = some ([([.fv (.int .i64 x), .fv (.int .i64 10)], 0), ([.fv (.int .i64 y), .fv (.int .i64 10)], 0)], .fv (.bool true)) := by kernel_rfl
theorem out7_0_1 (x y : Int) : outT EE ft dt 28 3000 7 [.fv (.int .i64 x), .fv (.int .i64 y)] [0, 1] = some ([([.fv (.int .i64 x), .fv (.int .i64 10)], 0), ([.fv (.int .i64 y), .fv (.int .i64 10)], 1)], .fv (.bool true)) := by kernel_rfl
theorem out7_0_2 (x y : Int) : outT EE ft dt 28 3000 7 [.fv (.int .i64 x), .fv (.int .i64 y)] [0, 2] = some ([([.fv (.int .i64 x), .fv (.int .i64 10)], 0), ([.fv (.int .i64 y), .fv (.int .i64 10)], 2)], .fv (.bool true)) := by kernel_rfl
theorem out7_0_3 (x y : Int) : outT EE ft dt 28 3000 7 [.fv (.int .i64 x), .fv (.int .i64 y)] [0, 3] = some ([([.fv (.int .i64 x), .fv (.int .i64 10)], 0), ([.fv (.int .i64 y), .fv (.int .i64 10)], 3)], .fv (.bool true)) := by kernel_rfl
theorem out7_0_4 (x y : Int) : outT EE ft dt 28 3000 7 [.fv (.int .i64 x), .fv (.int .i64 y)] [0, 4] = some ([([.fv (.int .i64 x), .fv (.int .i64 10)], 0), ([.fv (.int .i64 y), .fv (.int .i64 10)], 4)], .fv (.bool true)) := by kernel_rfl
theorem out7_0_5 (x y : Int) : outT EE ft dt 28 3000 7 [.fv (.int .i64 x), .fv (.int .i64 y)] [0, 5] = some ([([.fv (.int .i64 x), .fv (.int .i64 10)], 0), ([.fv (.int .i64 y), .fv (.int .i64 10)], 5)], .fv (.bool true)) := by kernel_rfl
theorem out7_0_6 (x y : Int) : outT EE ft dt 28 3000 7 [.fv (.int .i64 x), .fv (.int .i64 y)] [0, 6] = some ([([.fv (.int .i64 x), .fv (.int .i64 10)], 0), ([.fv (.int .i64 y), .fv (.int .i64 10)], 6)], .fv (.bool true)) := by kernel_rfl
theorem out7_0_7 (x y : Int) : outT EE ft dt 28 3000 7 [.fv (.int .i64 x), .fv (.int .i64 y)] [0, 7] = some ([([.fv (.int .i64 x), .fv (.int .i64 10)], 0), ([.fv (.int .i64 y), .fv (.int .i64 10)], 7)], .fv (.bool true)) := by kernel_rfl
theorem out7_0_8 (x y : Int) : outT EE ft dt 28 3000 7 [.fv (.int .i64 x), .fv (.int .i64 y)] [0, 8] = some ([([.fv (.int .i64 x), .fv (.int .i64 10)], 0), ([.fv (.int .i64 y), .fv (.int .i64 10)], 8)], .fv (.bool true)) := by kernel_rfl
theorem out7_0_9 (x y : Int) : outT EE ft dt 28 3000 7 [.fv (.int .i64 x), .fv (.int .i64 y)] [0, 9] = some ([([.fv (.int .i64 x), .fv (.int .i64 10)], 0), ([.fv (.int .i64 y), .fv (.int .i64 10)], 9)], .fv (.bool true)) := by kernel_rfl
theorem out7_1_0 (x y : Int) : outT EE ft dt 28 3000 7 [.fv (.int .i64 x), .fv (.int .i64 y)] [1, 0] = some ([([.fv (.int .i64 x), .fv (.int .i64 10)], 1), ([.fv (.int .i64 y), .fv (.int .i64 10)], 0)], .fv (.bool true)) := by kernel_rfl
theorem out7_1_1 (x y : Int) : outT EE ft dt 28 3000 7 [.fv (.int .i64 x), .fv (.int .i64 y)] [1, 1] = some ([([.fv (.int .i64 x), .fv (.int .i64 10)], 1), ([.fv (.int .i64 y), .fv (.int .i64 10)], 1)], .fv (.bool true)) := by kernel_rfl
theorem out7_1_2 (x y : Int) : outT EE ft dt 28 3000 7 [.fv (.int .i64 x), .fv (.int .i64 y)] [1, 2] = some ([([.fv (.int .i64 x), .fv (.int .i64 10)], 1), ([.fv (.int .i64 y), .fv (.int .i64 10)], 2)], .fv (.bool true)) := by kernel_rfl
theorem out7_1_3 (x y : Int) : outT EE ft dt 28 3000 7 [.fv (.int .i64 x), .fv (.int .i64 y)] [1, 3] = some ([([.fv (.int .i64 x), .fv (.int .i64 10)], 1), ([.fv (.int .i64 y), .fv (.int .i64 10)], 3)], .fv (.bool true)) := by kernel_rfl
theorem out7_1_4 (x y : Int) : outT EE ft dt 28 3000 7 [.fv (.int .i64 x), .fv (.int .i64 y)] [1, 4] = some ([([.fv (.int .i64 x), .fv (.int .i64 10)], 1), ([.fv (.int .i64 y), .fv (.int .i64 10)], 4)], .fv (.bool true)) := by kernel_rfl
theorem out7_1_5 (x y : Int) : outT EE ft dt 28 3000 7 [.fv (.int .i64 x), .fv (.int .i64 y)] [1, 5] = some ([([.fv (.int .i64 x), .fv (.int .i64 10)], 1), ([.fv (.int .i64 y), .fv (.int .i64 10)], 5)], .fv (.bool true)) := by kernel_rfl
theorem out7_1_6 (x y : Int) : outT EE ft dt 28 3000 7 [.fv (.int .i64 x), .fv (.int .i64 y)] [1, 6] = some ([([.fv (.int .i64 x), .fv (.int .i64 10)], 1), ([.fv (.int .i64 y), .fv (.int .i64 10)], 6)], .fv (.bool true)) := by kernel_rfl
theorem out7_1_7 (x y : Int) : outT EE ft dt 28 3000 7 [.fv (.int .i64 x), .fv (.int .i64 y)] [1, 7] = some ([([.fv (.int .i64 x), .fv (.int .i64 10)], 1), ([.fv (.int .i64 y), .fv (.int .i64 10)], 7)], .fv (.bool true)) := by kernel_rfl
theorem out7_1_8 (x y : Int) : outT EE ft dt 28 3000 7 [.fv (.int .i64 x), .fv (.int .i64 y)] [1, 8] = some ([([.fv (.int .i64 x), .fv (.int .i64 10)], 1), ([.fv (.int .i64 y), .fv (.int .i64 10)], 8)], .fv (.bool true)) := by kernel_rfl
theorem out7_1_9 (x y : Int) : outT EE ft dt 28 3000 7 [.fv (.int .i64 x), .fv (.int .i64 y)] [1, 9] = some ([([.fv (.int .i64 x), .fv (.int .i64 10)], 1), ([.fv (.int .i64 y), .fv (.int .i64 10)], 9)], .fv (.bool true)) := by kernel_rfl
end Idl
end Go.Proofs.Ytbkdidonegggdaa

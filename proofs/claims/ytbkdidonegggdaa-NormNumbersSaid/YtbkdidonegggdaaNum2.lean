/-
  Runs of a law in the ideal semantics, reckoned by the shallow form. Printed by a program of mine (gen-out2.py). No statement is proved here.
-/
import Derived.Test.YtbkdidonegggdaaSh
import Derived.Test.YtbkdidonegggdaaIdl32
import Derived.KernelRfl
namespace Go.Proofs.Ytbkdidonegggdaa
namespace Idl
set_option maxRecDepth 1000000
theorem out7_2_0 (x y : Int) : outT EE ft dt 28 3000 7 [.fv (.int .i64 x), .fv (.int .i64 y)] [2, 0] = some ([([.fv (.int .i64 x), .fv (.int .i64 10)], 2), ([.fv (.int .i64 y), .fv (.int .i64 10)], 0)], .fv (.bool true)) := by kernel_rfl
theorem out7_2_1 (x y : Int) : outT EE ft dt 28 3000 7 [.fv (.int .i64 x), .fv (.int .i64 y)] [2, 1] = some ([([.fv (.int .i64 x), .fv (.int .i64 10)], 2), ([.fv (.int .i64 y), .fv (.int .i64 10)], 1)], .fv (.bool true)) := by kernel_rfl
theorem out7_2_2 (x y : Int) : outT EE ft dt 28 3000 7 [.fv (.int .i64 x), .fv (.int .i64 y)] [2, 2] = some ([([.fv (.int .i64 x), .fv (.int .i64 10)], 2), ([.fv (.int .i64 y), .fv (.int .i64 10)], 2)], .fv (.bool true)) := by kernel_rfl
theorem out7_2_3 (x y : Int) : outT EE ft dt 28 3000 7 [.fv (.int .i64 x), .fv (.int .i64 y)] [2, 3] = some ([([.fv (.int .i64 x), .fv (.int .i64 10)], 2), ([.fv (.int .i64 y), .fv (.int .i64 10)], 3)], .fv (.bool true)) := by kernel_rfl
theorem out7_2_4 (x y : Int) : outT EE ft dt 28 3000 7 [.fv (.int .i64 x), .fv (.int .i64 y)] [2, 4] = some ([([.fv (.int .i64 x), .fv (.int .i64 10)], 2), ([.fv (.int .i64 y), .fv (.int .i64 10)], 4)], .fv (.bool true)) := by kernel_rfl
theorem out7_2_5 (x y : Int) : outT EE ft dt 28 3000 7 [.fv (.int .i64 x), .fv (.int .i64 y)] [2, 5] = some ([([.fv (.int .i64 x), .fv (.int .i64 10)], 2), ([.fv (.int .i64 y), .fv (.int .i64 10)], 5)], .fv (.bool true)) := by kernel_rfl
theorem out7_2_6 (x y : Int) : outT EE ft dt 28 3000 7 [.fv (.int .i64 x), .fv (.int .i64 y)] [2, 6] = some ([([.fv (.int .i64 x), .fv (.int .i64 10)], 2), ([.fv (.int .i64 y), .fv (.int .i64 10)], 6)], .fv (.bool true)) := by kernel_rfl
theorem out7_2_7 (x y : Int) : outT EE ft dt 28 3000 7 [.fv (.int .i64 x), .fv (.int .i64 y)] [2, 7] = some ([([.fv (.int .i64 x), .fv (.int .i64 10)], 2), ([.fv (.int .i64 y), .fv (.int .i64 10)], 7)], .fv (.bool true)) := by kernel_rfl
theorem out7_2_8 (x y : Int) : outT EE ft dt 28 3000 7 [.fv (.int .i64 x), .fv (.int .i64 y)] [2, 8] = some ([([.fv (.int .i64 x), .fv (.int .i64 10)], 2), ([.fv (.int .i64 y), .fv (.int .i64 10)], 8)], .fv (.bool true)) := by kernel_rfl
theorem out7_2_9 (x y : Int) : outT EE ft dt 28 3000 7 [.fv (.int .i64 x), .fv (.int .i64 y)] [2, 9] = some ([([.fv (.int .i64 x), .fv (.int .i64 10)], 2), ([.fv (.int .i64 y), .fv (.int .i64 10)], 9)], .fv (.bool true)) := by kernel_rfl
end Idl
end Go.Proofs.Ytbkdidonegggdaa

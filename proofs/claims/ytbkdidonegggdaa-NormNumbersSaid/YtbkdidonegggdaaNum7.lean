/-
  Runs of a law in the ideal semantics, reckoned by the shallow form. Printed by a program of mine (gen-out2.py). No statement is proved here.
-/
import Derived.Test.YtbkdidonegggdaaSh
import Derived.Test.YtbkdidonegggdaaIdl32
import Derived.KernelRfl
namespace Go.Proofs.Ytbkdidonegggdaa
namespace Idl
set_option maxRecDepth 1000000
theorem out7_7_0 (x y : Int) : outT EE ft dt 28 3000 7 [.fv (.int .i64 x), .fv (.int .i64 y)] [7, 0] = some ([([.fv (.int .i64 x), .fv (.int .i64 10)], 7), ([.fv (.int .i64 y), .fv (.int .i64 10)], 0)], .fv (.bool true)) := by kernel_rfl
theorem out7_7_1 (x y : Int) : outT EE ft dt 28 3000 7 [.fv (.int .i64 x), .fv (.int .i64 y)] [7, 1] = some ([([.fv (.int .i64 x), .fv (.int .i64 10)], 7), ([.fv (.int .i64 y), .fv (.int .i64 10)], 1)], .fv (.bool true)) := by kernel_rfl
theorem out7_7_2 (x y : Int) : outT EE ft dt 28 3000 7 [.fv (.int .i64 x), .fv (.int .i64 y)] [7, 2] = some ([([.fv (.int .i64 x), .fv (.int .i64 10)], 7), ([.fv (.int .i64 y), .fv (.int .i64 10)], 2)], .fv (.bool true)) := by kernel_rfl
theorem out7_7_3 (x y : Int) : outT EE ft dt 28 3000 7 [.fv (.int .i64 x), .fv (.int .i64 y)] [7, 3] = some ([([.fv (.int .i64 x), .fv (.int .i64 10)], 7), ([.fv (.int .i64 y), .fv (.int .i64 10)], 3)], .fv (.bool true)) := by kernel_rfl
theorem out7_7_4 (x y : Int) : outT EE ft dt 28 3000 7 [.fv (.int .i64 x), .fv (.int .i64 y)] [7, 4] = some ([([.fv (.int .i64 x), .fv (.int .i64 10)], 7), ([.fv (.int .i64 y), .fv (.int .i64 10)], 4)], .fv (.bool true)) := by kernel_rfl
theorem out7_7_5 (x y : Int) : outT EE ft dt 28 3000 7 [.fv (.int .i64 x), .fv (.int .i64 y)] [7, 5] = some ([([.fv (.int .i64 x), .fv (.int .i64 10)], 7), ([.fv (.int .i64 y), .fv (.int .i64 10)], 5)], .fv (.bool true)) := by kernel_rfl
theorem out7_7_6 (x y : Int) : outT EE ft dt 28 3000 7 [.fv (.int .i64 x), .fv (.int .i64 y)] [7, 6] = some ([([.fv (.int .i64 x), .fv (.int .i64 10)], 7), ([.fv (.int .i64 y), .fv (.int .i64 10)], 6)], .fv (.bool true)) := by kernel_rfl
theorem out7_7_7 (x y : Int) : outT EE ft dt 28 3000 7 [.fv (.int .i64 x), .fv (.int .i64 y)] [7, 7] = some ([([.fv (.int .i64 x), .fv (.int .i64 10)], 7), ([.fv (.int .i64 y), .fv (.int .i64 10)], 7)], .fv (.bool true)) := by kernel_rfl
theorem out7_7_8 (x y : Int) : outT EE ft dt 28 3000 7 [.fv (.int .i64 x), .fv (.int .i64 y)] [7, 8] = some ([([.fv (.int .i64 x), .fv (.int .i64 10)], 7), ([.fv (.int .i64 y), .fv (.int .i64 10)], 8)], .fv (.bool true)) := by kernel_rfl
theorem out7_7_9 (x y : Int) : outT EE ft dt 28 3000 7 [.fv (.int .i64 x), .fv (.int .i64 y)] [7, 9] = some ([([.fv (.int .i64 x), .fv (.int .i64 10)], 7), ([.fv (.int .i64 y), .fv (.int .i64 10)], 9)], .fv (.bool true)) := by kernel_rfl
end Idl
end Go.Proofs.Ytbkdidonegggdaa

/-
  Runs of a law in the ideal semantics, reckoned by the shallow form. Printed by a program of mine (gen-out2.py). No statement is proved here.
-/
import Derived.Test.YtnenpcghegcnhaaSh
import Derived.Test.YtnenpcghegcnhaaIdl32
import Derived.KernelRfl
namespace Go.Proofs.Ytnenpcghegcnhaa
namespace Idl
set_option maxRecDepth 1000000
theorem out5_6_0 (x y : Int) : outT EE ft dt 12 3000 5 [.fv (.int .i64 x), .fv (.int .i64 y)] [6, 0] = some ([([.fv (.int .i64 x), .fv (.int .i64 12)], 6), ([.fv (.int .i64 y), .fv (.int .i64 5)], 0)], .fv (.bool true)) := by kernel_rfl
theorem out5_6_1 (x y : Int) : outT EE ft dt 12 3000 5 [.fv (.int .i64 x), .fv (.int .i64 y)] [6, 1] = some ([([.fv (.int .i64 x), .fv (.int .i64 12)], 6), ([.fv (.int .i64 y), .fv (.int .i64 5)], 1)], .fv (.bool true)) := by kernel_rfl
theorem out5_6_2 (x y : Int) : outT EE ft dt 12 3000 5 [.fv (.int .i64 x), .fv (.int .i64 y)] [6, 2] = some ([([.fv (.int .i64 x), .fv (.int .i64 12)], 6), ([.fv (.int .i64 y), .fv (.int .i64 5)], 2)], .fv (.bool true)) := by kernel_rfl
theorem out5_6_3 (x y : Int) : outT EE ft dt 12 3000 5 [.fv (.int .i64 x), .fv (.int .i64 y)] [6, 3] = some ([([.fv (.int .i64 x), .fv (.int .i64 12)], 6), ([.fv (.int .i64 y), .fv (.int .i64 5)], 3)], .fv (.bool true)) := by kernel_rfl
theorem out5_6_4 (x y : Int) : outT EE ft dt 12 3000 5 [.fv (.int .i64 x), .fv (.int .i64 y)] [6, 4] = some ([([.fv (.int .i64 x), .fv (.int .i64 12)], 6), ([.fv (.int .i64 y), .fv (.int .i64 5)], 4)], .fv (.bool true)) := by kernel_rfl
theorem out5_7_0 (x y : Int) : outT EE ft dt 12 3000 5 [.fv (.int .i64 x), .fv (.int .i64 y)] [7, 0] = some ([([.fv (.int .i64 x), .fv (.int .i64 12)], 7), ([.fv (.int .i64 y), .fv (.int .i64 5)], 0)], .fv (.bool true)) := by kernel_rfl
theorem out5_7_1 (x y : Int) : outT EE ft dt 12 3000 5 [.fv (.int .i64 x), .fv (.int .i64 y)] [7, 1] = some ([([.fv (.int .i64 x), .fv (.int .i64 12)], 7), ([.fv (.int .i64 y), .fv (.int .i64 5)], 1)], .fv (.bool true)) := by kernel_rfl
theorem out5_7_2 (x y : Int) : outT EE ft dt 12 3000 5 [.fv (.int .i64 x), .fv (.int .i64 y)] [7, 2] = some ([([.fv (.int .i64 x), .fv (.int .i64 12)], 7), ([.fv (.int .i64 y), .fv (.int .i64 5)], 2)], .fv (.bool true)) := by kernel_rfl
theorem out5_7_3 (x y : Int) : outT EE ft dt 12 3000 5 [.fv (.int .i64 x), .fv (.int .i64 y)] [7, 3] = some ([([.fv (.int .i64 x), .fv (.int .i64 12)], 7), ([.fv (.int .i64 y), .fv (.int .i64 5)], 3)], .fv (.bool true)) := by kernel_rfl
theorem out5_7_4 (x y : Int) : outT EE ft dt 12 3000 5 [.fv (.int .i64 x), .fv (.int .i64 y)] [7, 4] = some ([([.fv (.int .i64 x), .fv (.int .i64 12)], 7), ([.fv (.int .i64 y), .fv (.int .i64 5)], 4)], .fv (.bool true)) := by kernel_rfl
theorem out5_8_0 (x y : Int) : outT EE ft dt 12 3000 5 [.fv (.int .i64 x), .fv (.int .i64 y)] [8, 0] = some ([([.fv (.int .i64 x), .fv (.int .i64 12)], 8), ([.fv (.int .i64 y), .fv (.int .i64 5)], 0)], .fv (.bool true)) := by kernel_rfl
theorem out5_8_1 (x y : Int) : outT EE ft dt 12 3000 5 [.fv (.int .i64 x), .fv (.int .i64 y)] [8, 1] = some ([([.fv (.int .i64 x), .fv (.int .i64 12)], 8), ([.fv (.int .i64 y), .fv (.int .i64 5)], 1)], .fv (.bool true)) := by kernel_rfl
theorem out5_8_2 (x y : Int) : outT EE ft dt 12 3000 5 [.fv (.int .i64 x), .fv (.int .i64 y)] [8, 2] = some ([([.fv (.int .i64 x), .fv (.int .i64 12)], 8), ([.fv (.int .i64 y), .fv (.int .i64 5)], 2)], .fv (.bool true)) := by kernel_rfl
theorem out5_8_3 (x y : Int) : outT EE ft dt 12 3000 5 [.fv (.int .i64 x), .fv (.int .i64 y)] [8, 3] = some ([([.fv (.int .i64 x), .fv (.int .i64 12)], 8), ([.fv (.int .i64 y), .fv (.int .i64 5)], 3)], .fv (.bool true)) := by kernel_rfl
theorem out5_8_4 (x y : Int) : outT EE ft dt 12 3000 5 [.fv (.int .i64 x), .fv (.int .i64 y)] [8, 4] = some ([([.fv (.int .i64 x), .fv (.int .i64 12)], 8), ([.fv (.int .i64 y), .fv (.int .i64 5)], 4)], .fv (.bool true)) := by kernel_rfl
end Idl
end Go.Proofs.Ytnenpcghegcnhaa

/-
  Runs of a law in the ideal semantics, reckoned by the shallow form. Printed by a program of mine (gen-out2.py). No statement is proved here.
-/
import Derived.Test.YtnenpcghegcnhaaSh
import Derived.Test.YtnenpcghegcnhaaIdl32
import Derived.KernelRfl
namespace Go.Proofs.Ytnenpcghegcnhaa
namespace Idl
set_option maxRecDepth 1000000
theorem out5_9_0 (x y : Int) : outT EE ft dt 12 3000 5 [.fv (.int .i64 x), .fv (.int .i64 y)] [9, 0] = some ([([.fv (.int .i64 x), .fv (.int .i64 12)], 9), ([.fv (.int .i64 y), .fv (.int .i64 5)], 0)], .fv (.bool true)) := by kernel_rfl
theorem out5_9_1 (x y : Int) : outT EE ft dt 12 3000 5 [.fv (.int .i64 x), .fv (.int .i64 y)] [9, 1] = some ([([.fv (.int .i64 x), .fv (.int .i64 12)], 9), ([.fv (.int .i64 y), .fv (.int .i64 5)], 1)], .fv (.bool true)) := by kernel_rfl
theorem out5_9_2 (x y : Int) : outT EE ft dt 12 3000 5 [.fv (.int .i64 x), .fv (.int .i64 y)] [9, 2] = some ([([.fv (.int .i64 x), .fv (.int .i64 12)], 9), ([.fv (.int .i64 y), .fv (.int .i64 5)], 2)], .fv (.bool true)) := by kernel_rfl
theorem out5_9_3 (x y : Int) : outT EE ft dt 12 3000 5 [.fv (.int .i64 x), .fv (.int .i64 y)] [9, 3] = some ([([.fv (.int .i64 x), .fv (.int .i64 12)], 9), ([.fv (.int .i64 y), .fv (.int .i64 5)], 3)], .fv (.bool true)) := by kernel_rfl
theorem out5_9_4 (x y : Int) : outT EE ft dt 12 3000 5 [.fv (.int .i64 x), .fv (.int .i64 y)] [9, 4] = some ([([.fv (.int .i64 x), .fv (.int .i64 12)], 9), ([.fv (.int .i64 y), .fv (.int .i64 5)], 4)], .fv (.bool true)) := by kernel_rfl
theorem out5_10_0 (x y : Int) : outT EE ft dt 12 3000 5 [.fv (.int .i64 x), .fv (.int .i64 y)] [10, 0] = some ([([.fv (.int .i64 x), .fv (.int .i64 12)], 10), ([.fv (.int .i64 y), .fv (.int .i64 5)], 0)], .fv (.bool true)) := by kernel_rfl
theorem out5_10_1 (x y : Int) : outT EE ft dt 12 3000 5 [.fv (.int .i64 x), .fv (.int .i64 y)] [10, 1] = some ([([.fv (.int .i64 x), .fv (.int .i64 12)], 10), ([.fv (.int .i64 y), .fv (.int .i64 5)], 1)], .fv (.bool true)) := by kernel_rfl
theorem out5_10_2 (x y : Int) : outT EE ft dt 12 3000 5 [.fv (.int .i64 x), .fv (.int .i64 y)] [10, 2] = some ([([.fv (.int .i64 x), .fv (.int .i64 12)], 10), ([.fv (.int .i64 y), .fv (.int .i64 5)], 2)], .fv (.bool true)) := by kernel_rfl
theorem out5_10_3 (x y : Int) : outT EE ft dt 12 3000 5 [.fv (.int .i64 x), .fv (.int .i64 y)] [10, 3] = some ([([.fv (.int .i64 x), .fv (.int .i64 12)], 10), ([.fv (.int .i64 y), .fv (.int .i64 5)], 3)], .fv (.bool true)) := by kernel_rfl
theorem out5_10_4 (x y : Int) : outT EE ft dt 12 3000 5 [.fv (.int .i64 x), .fv (.int .i64 y)] [10, 4] = some ([([.fv (.int .i64 x), .fv (.int .i64 12)], 10), ([.fv (.int .i64 y), .fv (.int .i64 5)], 4)], .fv (.bool true)) := by kernel_rfl
theorem out5_11_0 (x y : Int) : outT EE ft dt 12 3000 5 [.fv (.int .i64 x), .fv (.int .i64 y)] [11, 0] = some ([([.fv (.int .i64 x), .fv (.int .i64 12)], 11), ([.fv (.int .i64 y), .fv (.int .i64 5)], 0)], .fv (.bool true)) := by kernel_rfl
theorem out5_11_1 (x y : Int) : outT EE ft dt 12 3000 5 [.fv (.int .i64 x), .fv (.int .i64 y)] [11, 1] = some ([([.fv (.int .i64 x), .fv (.int .i64 12)], 11), ([.fv (.int .i64 y), .fv (.int .i64 5)], 1)], .fv (.bool true)) := by kernel_rfl
theorem out5_11_2 (x y : Int) : outT EE ft dt 12 3000 5 [.fv (.int .i64 x), .fv (.int .i64 y)] [11, 2] = some ([([.fv (.int .i64 x), .fv (.int .i64 12)], 11), ([.fv (.int .i64 y), .fv (.int .i64 5)], 2)], .fv (.bool true)) := by kernel_rfl
theorem out5_11_3 (x y : Int) : outT EE ft dt 12 3000 5 [.fv (.int .i64 x), .fv (.int .i64 y)] [11, 3] = some ([([.fv (.int .i64 x), .fv (.int .i64 12)], 11), ([.fv (.int .i64 y), .fv (.int .i64 5)], 3)], .fv (.bool true)) := by kernel_rfl
theorem out5_11_4 (x y : Int) : outT EE ft dt 12 3000 5 [.fv (.int .i64 x), .fv (.int .i64 y)] [11, 4] = some ([([.fv (.int .i64 x), .fv (.int .i64 12)], 11), ([.fv (.int .i64 y), .fv (.int .i64 5)], 4)], .fv (.bool true)) := by kernel_rfl
end Idl
end Go.Proofs.Ytnenpcghegcnhaa

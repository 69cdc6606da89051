/-
  Runs of a law in the ideal semantics, reckoned by the shallow form. Printed by a program of mine (gen-out2.py). No statement is proved here.
-/
import Derived.Test.YtnenpcghegcnhaaSh
import Derived.Test.YtnenpcghegcnhaaIdl32
import Derived.KernelRfl
namespace Go.Proofs.Ytnenpcghegcnhaa
namespace Idl
set_option maxRecDepth 1000000
theorem out5_0_0 (x y : Int) : outT EE ft dt 12 3000 5 [.fv (.int .i64 x), .fv (.int .i64 y)] [0, 0] = some ([([.fv (.int .i64 x), .fv (.int .i64 12)], 0), ([.fv (.int .i64 y), .fv (.int .i64 5)], 0)], .fv (.bool true)) := by kernel_rfl
theorem out5_0_1 (x y : Int) : outT EE ft dt 12 3000 5 [.fv (.int .i64 x), .fv (.int .i64 y)] [0, 1] = some ([([.fv (.int .i64 x), .fv (.int .i64 12)], 0), ([.fv (.int .i64 y), .fv (.int .i64 5)], 1)], .fv (.bool true)) := by kernel_rfl
theorem out5_0_2 (x y : Int) : outT EE ft dt 12 3000 5 [.fv (.int .i64 x), .fv (.int .i64 y)] [0, 2] = some ([([.fv (.int .i64 x), .fv (.int .i64 12)], 0), ([.fv (.int .i64 y), .fv (.int .i64 5)], 2)], .fv (.bool true)) := by kernel_rfl
theorem out5_0_3 (x y : Int) : outT EE ft dt 12 3000 5 [.fv (.int .i64 x), .fv (.int .i64 y)] [0, 3] = some ([([.fv (.int .i64 x), .fv (.int .i64 12)], 0), ([.fv (.int .i64 y), .fv (.int .i64 5)], 3)], .fv (.bool true)) := by kernel_rfl
theorem out5_0_4 (x y : Int) : outT EE ft dt 12 3000 5 [.fv (.int .i64 x), .fv (.int .i64 y)] [0, 4] = some ([([.fv (.int .i64 x), .fv (.int .i64 12)], 0), ([.fv (.int .i64 y), .fv (.int .i64 5)], 4)], .fv (.bool true)) := by kernel_rfl
theorem out5_1_0 (x y : Int) : outT EE ft dt 12 3000 5 [.fv (.int .i64 x), .fv (.int .i64 y)] [1, 0] = some ([([.fv (.int .i64 x), .fv (.int .i64 12)], 1), ([.fv (.int .i64 y), .fv (.int .i64 5)], 0)], .fv (.bool true)) := by kernel_rfl
theorem out5_1_1 (x y : Int) : outT EE ft dt 12 3000 5 [.fv (.int .i64 x), .fv (.int .i64 y)] [1, 1] = some ([([.fv (.int .i64 x), .fv (.int .i64 12)], 1), ([.fv (.int .i64 y), .fv (.int .i64 5)], 1)], .fv (.bool true)) := by kernel_rfl
theorem out5_1_2 (x y : Int) : outT EE ft dt 12 3000 5 [.fv (.int .i64 x), .fv (.int .i64 y)] [1, 2] = some ([([.fv (.int .i64 x), .fv (.int .i64 12)], 1), ([.fv (.int .i64 y), .fv (.int .i64 5)], 2)], .fv (.bool true)) := by kernel_rfl
theorem out5_1_3 (x y : Int) : outT EE ft dt 12 3000 5 [.fv (.int .i64 x), .fv (.int .i64 y)] [1, 3] = some ([([.fv (.int .i64 x), .fv (.int .i64 12)], 1), ([.fv (.int .i64 y), .fv (.int .i64 5)], 3)], .fv (.bool true)) := by kernel_rfl
theorem out5_1_4 (x y : Int) : outT EE ft dt 12 3000 5 [.fv (.int .i64 x), .fv (.int .i64 y)] [1, 4] = some ([([.fv (.int .i64 x), .fv (.int .i64 12)], 1), ([.fv (.int .i64 y), .fv (.int .i64 5)], 4)], .fv (.bool true)) := by kernel_rfl
theorem out5_2_0 (x y : Int) : outT EE ft dt 12 3000 5 [.fv (.int .i64 x), .fv (.int .i64 y)] [2, 0] = some ([([.fv (.int .i64 x), .fv (.int .i64 12)], 2), ([.fv (.int .i64 y), .fv (.int .i64 5)], 0)], .fv (.bool true)) := by kernel_rfl
theorem out5_2_1 (x y : Int) : outT EE ft dt 12 3000 5 [.fv (.int .i64 x), .fv (.int .i64 y)] [2, 1] = some ([([.fv (.int .i64 x), .fv (.int .i64 12)], 2), ([.fv (.int .i64 y), .fv (.int .i64 5)], 1)], .fv (.bool true)) := by kernel_rfl
theorem out5_2_2 (x y : Int) : outT EE ft dt 12 3000 5 [.fv (.int .i64 x), .fv (.int .i64 y)] [2, 2] = some ([([.fv (.int .i64 x), .fv (.int .i64 12)], 2), ([.fv (.int .i64 y), .fv (.int .i64 5)], 2)], .fv (.bool true)) := by kernel_rfl
theorem out5_2_3 (x y : Int) : outT EE ft dt 12 3000 5 [.fv (.int .i64 x), .fv (.int .i64 y)] [2, 3] = some ([([.fv (.int .i64 x), .fv (.int .i64 12)], 2), ([.fv (.int .i64 y), .fv (.int .i64 5)], 3)], .fv (.bool true)) := by kernel_rfl
theorem out5_2_4 (x y : Int) : outT EE ft dt 12 3000 5 [.fv (.int .i64 x), .fv (.int .i64 y)] [2, 4] = some ([([.fv (.int .i64 x), .fv (.int .i64 12)], 2), ([.fv (.int .i64 y), .fv (.int .i64 5)], 4)], .fv (.bool true)) := by kernel_rfl
theorem out5_3_0 (x y : Int) : outT EE ft dt 12 3000 5 [.fv (.int .i64 x), .fv (.int .i64 y)] [3, 0] = some ([([.fv (.int .i64 x), .fv (.int .i64 12)], 3), ([.fv (.int .i64 y), .fv (.int .i64 5)], 0)], .fv (.bool true)) := by kernel_rfl
theorem out5_3_1 (x y : Int) : outT EE ft dt 12 3000 5 [.fv (.int .i64 x), .fv (.int .i64 y)] [3, 1] = some ([([.fv (.int .i64 x), .fv (.int .i64 12)], 3), ([.fv (.int .i64 y), .fv (.int .i64 5)], 1)], .fv (.bool true)) := by kernel_rfl
theorem out5_3_2 (x y : Int) : outT EE ft dt 12 3000 5 [.fv (.int .i64 x), .fv (.int .i64 y)] [3, 2] = some ([([.fv (.int .i64 x), .fv (.int .i64 12)], 3), ([.fv (.int .i64 y), .fv (.int .i64 5)], 2)], .fv (.bool true)) := by kernel_rfl
theorem out5_3_3 (x y : Int) : outT EE ft dt 12 3000 5 [.fv (.int .i64 x), .fv (.int .i64 y)] [3, 3] = some ([([.fv (.int .i64 x), .fv (.int .i64 12)], 3), ([.fv (.int .i64 y), .fv (.int .i64 5)], 3)], .fv (.bool true)) := by kernel_rfl
theorem out5_3_4 (x y : Int) : outT EE ft dt 12 3000 5 [.fv (.int .i64 x), .fv (.int .i64 y)] [3, 4] = some ([([.fv (.int .i64 x), .fv (.int .i64 12)], 3), ([.fv (.int .i64 y), .fv (.int .i64 5)], 4)], .fv (.bool true)) := by kernel_rfl
theorem out5_4_0 (x y : Int) : outT EE ft dt 12 3000 5 [.fv (.int .i64 x), .fv (.int .i64 y)] [4, 0] = some ([([.fv (.int .i64 x), .fv (.int .i64 12)], 4), ([.fv (.int .i64 y), .fv (.int .i64 5)], 0)], .fv (.bool true)) := by kernel_rfl
theorem out5_4_1 (x y : Int) : outT EE ft dt 12 3000 5 [.fv (.int .i64 x), .fv (.int .i64 y)] [4, 1] = some ([([.fv (.int .i64 x), .fv (.int .i64 12)], 4), ([.fv (.int .i64 y), .fv (.int .i64 5)], 1)], .fv (.bool true)) := by kernel_rfl
theorem out5_4_2 (x y : Int) : outT EE ft dt 12 3000 5 [.fv (.int .i64 x), .fv (.int .i64 y)] [4, 2] = some ([([.fv (.int .i64 x), .fv (.int .i64 12)], 4), ([.fv (.int .i64 y), .fv (.int .i64 5)], 2)], .fv (.bool true)) := by kernel_rfl
theorem out5_4_3 (x y : Int) : outT EE ft dt 12 3000 5 [.fv (.int .i64 x), .fv (.int .i64 y)] [4, 3] = some ([([.fv (.int .i64 x), .fv (.int .i64 12)], 4), ([.fv (.int .i64 y), .fv (.int .i64 5)], 3)], .fv (.bool true)) := by kernel_rfl
theorem out5_4_4 (x y : Int) : outT EE ft dt 12 3000 5 [.fv (.int .i64 x), .fv (.int .i64 y)] [4, 4] = some ([([.fv (.int .i64 x), .fv (.int .i64 12)], 4), ([.fv (.int .i64 y), .fv (.int .i64 5)], 4)], .fv (.bool true)) := by kernel_rfl
theorem out5_5_0 (x y : Int) : outT EE ft dt 12 3000 5 [.fv (.int .i64 x), .fv (.int .i64 y)] [5, 0] = some ([([.fv (.int .i64 x), .fv (.int .i64 12)], 5), ([.fv (.int .i64 y), .fv (.int .i64 5)], 0)], .fv (.bool true)) := by kernel_rfl
theorem out5_5_1 (x y : Int) : outT EE ft dt 12 3000 5 [.fv (.int .i64 x), .fv (.int .i64 y)] [5, 1] = some ([([.fv (.int .i64 x), .fv (.int .i64 12)], 5), ([.fv (.int .i64 y), .fv (.int .i64 5)], 1)], .fv (.bool true)) := by kernel_rfl
theorem out5_5_2 (x y : Int) : outT EE ft dt 12 3000 5 [.fv (.int .i64 x), .fv (.int .i64 y)] [5, 2] = some ([([.fv (.int .i64 x), .fv (.int .i64 12)], 5), ([.fv (.int .i64 y), .fv (.int .i64 5)], 2)], .fv (.bool true)) := by kernel_rfl
theorem out5_5_3 (x y : Int) : outT EE ft dt 12 3000 5 [.fv (.int .i64 x), .fv (.int .i64 y)] [5, 3] = some ([([.fv (.int .i64 x), .fv (.int .i64 12)], 5), ([.fv (.int .i64 y), .fv (.int .i64 5)], 3)], .fv (.bool true)) := by kernel_rfl
theorem out5_5_4 (x y : Int) : outT EE ft dt 12 3000 5 [.fv (.int .i64 x), .fv (.int .i64 y)] [5, 4] = some ([([.fv (.int .i64 x), .fv (.int .i64 12)], 5), ([.fv (.int .i64 y), .fv (.int .i64 5)], 4)], .fv (.bool true)) := by kernel_rfl
end Idl
end Go.Proofs.Ytnenpcghegcnhaa

/-
  Runs of a law in the ideal semantics, reckoned by the shallow form. Printed by a program of mine (gen-out2.py). No statement is proved here.
-/
import Derived.Test.YtaifgaidaglblaaSh
import Derived.Test.YtaifgaidaglblaaIdl32
import Derived.KernelRfl
namespace Go.Proofs.Ytaifgaidaglblaa
namespace Idl
set_option maxRecDepth 1000000
theorem out8_0_0 (x y : Int) : outT EE ft dt 28 3000 8 [.fv (.int .i64 x), .fv (.int .i64 y)] [0, 0] = some ([([.fv (.int .i64 x), .fv (.int .i64 12)], 0), ([.fv (.int .i64 y), .fv (.int .i64 4)], 0)], .fv (.bool true)) := by kernel_rfl
theorem out8_0_1 (x y : Int) : outT EE ft dt 28 3000 8 [.fv (.int .i64 x), .fv (.int .i64 y)] [0, 1] = some ([([.fv (.int .i64 x), .fv (.int .i64 12)], 0), ([.fv (.int .i64 y), .fv (.int .i64 4)], 1)], .fv (.bool true)) := by kernel_rfl
theorem out8_0_2 (x y : Int) : outT EE ft dt 28 3000 8 [.fv (.int .i64 x), .fv (.int .i64 y)] [0, 2] = some ([([.fv (.int .i64 x), .fv (.int .i64 12)], 0), ([.fv (.int .i64 y), .fv (.int .i64 4)], 2)], .fv (.bool true)) := by kernel_rfl
theorem out8_0_3 (x y : Int) : outT EE ft dt 28 3000 8 [.fv (.int .i64 x), .fv (.int .i64 y)] [0, 3] = some ([([.fv (.int .i64 x), .fv (.int .i64 12)], 0), ([.fv (.int .i64 y), .fv (.int .i64 4)], 3)], .fv (.bool true)) := by kernel_rfl
theorem out8_1_0 (x y : Int) : outT EE ft dt 28 3000 8 [.fv (.int .i64 x), .fv (.int .i64 y)] [1, 0] = some ([([.fv (.int .i64 x), .fv (.int .i64 12)], 1), ([.fv (.int .i64 y), .fv (.int .i64 4)], 0)], .fv (.bool true)) := by kernel_rfl
theorem out8_1_1 (x y : Int) : outT EE ft dt 28 3000 8 [.fv (.int .i64 x), .fv (.int .i64 y)] [1, 1] = some ([([.fv (.int .i64 x), .fv (.int .i64 12)], 1), ([.fv (.int .i64 y), .fv (.int .i64 4)], 1)], .fv (.bool true)) := by kernel_rfl
theorem out8_1_2 (x y : Int) : outT EE ft dt 28 3000 8 [.fv (.int .i64 x), .fv (.int .i64 y)] [1, 2] = some ([([.fv (.int .i64 x), .fv (.int .i64 12)], 1), ([.fv (.int .i64 y), .fv (.int .i64 4)], 2)], .fv (.bool true)) := by kernel_rfl
theorem out8_1_3 (x y : Int) : outT EE ft dt 28 3000 8 [.fv (.int .i64 x), .fv (.int .i64 y)] [1, 3] = some ([([.fv (.int .i64 x), .fv (.int .i64 12)], 1), ([.fv (.int .i64 y), .fv (.int .i64 4)], 3)], .fv (.bool true)) := by kernel_rfl
theorem out8_2_0 (x y : Int) : outT EE ft dt 28 3000 8 [.fv (.int .i64 x), .fv (.int .i64 y)] [2, 0] = some ([([.fv (.int .i64 x), .fv (.int .i64 12)], 2), ([.fv (.int .i64 y), .fv (.int .i64 4)], 0)], .fv (.bool true)) := by kernel_rfl
theorem out8_2_1 (x y : Int) : outT EE ft dt 28 3000 8 [.fv (.int .i64 x), .fv (.int .i64 y)] [2, 1] = some ([([.fv (.int .i64 x), .fv (.int .i64 12)], 2), ([.fv (.int .i64 y), .fv (.int .i64 4)], 1)], .fv (.bool true)) := by kernel_rfl
theorem out8_2_2 (x y : Int) : outT EE ft dt 28 3000 8 [.fv (.int .i64 x), .fv (.int .i64 y)] [2, 2] = some ([([.fv (.int .i64 x), .fv (.int .i64 12)], 2), ([.fv (.int .i64 y), .fv (.int .i64 4)], 2)], .fv (.bool true)) := by kernel_rfl
theorem out8_2_3 (x y : Int) : outT EE ft dt 28 3000 8 [.fv (.int .i64 x), .fv (.int .i64 y)] [2, 3] = some ([([.fv (.int .i64 x), .fv (.int .i64 12)], 2), ([.fv (.int .i64 y), .fv (.int .i64 4)], 3)], .fv (.bool true)) := by kernel_rfl
theorem out8_3_0 (x y : Int) : outT EE ft dt 28 3000 8 [.fv (.int .i64 x), .fv (.int .i64 y)] [3, 0] = some ([([.fv (.int .i64 x), .fv (.int .i64 12)], 3), ([.fv (.int .i64 y), .fv (.int .i64 4)], 0)], .fv (.bool true)) := by kernel_rfl
theorem out8_3_1 (x y : Int) : outT EE ft dt 28 3000 8 [.fv (.int .i64 x), .fv (.int .i64 y)] [3, 1] = some ([([.fv (.int .i64 x), .fv (.int .i64 12)], 3), ([.fv (.int .i64 y), .fv (.int .i64 4)], 1)], .fv (.bool true)) := by kernel_rfl
theorem out8_3_2 (x y : Int) : outT EE ft dt 28 3000 8 [.fv (.int .i64 x), .fv (.int .i64 y)] [3, 2] = some ([([.fv (.int .i64 x), .fv (.int .i64 12)], 3), ([.fv (.int .i64 y), .fv (.int .i64 4)], 2)], .fv (.bool true)) := by kernel_rfl
theorem out8_3_3 (x y : Int) : outT EE ft dt 28 3000 8 [.fv (.int .i64 x), .fv (.int .i64 y)] [3, 3] = some ([([.fv (.int .i64 x), .fv (.int .i64 12)], 3), ([.fv (.int .i64 y), .fv (.int .i64 4)], 3)], .fv (.bool true)) := by kernel_rfl
theorem out8_4_0 (x y : Int) : outT EE ft dt 28 3000 8 [.fv (.int .i64 x), .fv (.int .i64 y)] [4, 0] = some ([([.fv (.int .i64 x), .fv (.int .i64 12)], 4), ([.fv (.int .i64 y), .fv (.int .i64 4)], 0)], .fv (.bool true)) := by kernel_rfl
theorem out8_4_1 (x y : Int) : outT EE ft dt 28 3000 8 [.fv (.int .i64 x), .fv (.int .i64 y)] [4, 1] = some ([([.fv (.int .i64 x), .fv (.int .i64 12)], 4), ([.fv (.int .i64 y), .fv (.int .i64 4)], 1)], .fv (.bool true)) := by kernel_rfl
theorem out8_4_2 (x y : Int) : outT EE ft dt 28 3000 8 [.fv (.int .i64 x), .fv (.int .i64 y)] [4, 2] = some ([([.fv (.int .i64 x), .fv (.int .i64 12)], 4), ([.fv (.int .i64 y), .fv (.int .i64 4)], 2)], .fv (.bool true)) := by kernel_rfl
theorem out8_4_3 (x y : Int) : outT EE ft dt 28 3000 8 [.fv (.int .i64 x), .fv (.int .i64 y)] [4, 3] = some ([([.fv (.int .i64 x), .fv (.int .i64 12)], 4), ([.fv (.int .i64 y), .fv (.int .i64 4)], 3)], .fv (.bool true)) := by kernel_rfl
theorem out8_5_0 (x y : Int) : outT EE ft dt 28 3000 8 [.fv (.int .i64 x), .fv (.int .i64 y)] [5, 0] = some ([([.fv (.int .i64 x), .fv (.int .i64 12)], 5), ([.fv (.int .i64 y), .fv (.int .i64 4)], 0)], .fv (.bool true)) := by kernel_rfl
theorem out8_5_1 (x y : Int) : outT EE ft dt 28 3000 8 [.fv (.int .i64 x), .fv (.int .i64 y)] [5, 1] = some ([([.fv (.int .i64 x), .fv (.int .i64 12)], 5), ([.fv (.int .i64 y), .fv (.int .i64 4)], 1)], .fv (.bool true)) := by kernel_rfl
theorem out8_5_2 (x y : Int) : outT EE ft dt 28 3000 8 [.fv (.int .i64 x), .fv (.int .i64 y)] [5, 2] = some ([([.fv (.int .i64 x), .fv (.int .i64 12)], 5), ([.fv (.int .i64 y), .fv (.int .i64 4)], 2)], .fv (.bool true)) := by kernel_rfl
theorem out8_5_3 (x y : Int) : outT EE ft dt 28 3000 8 [.fv (.int .i64 x), .fv (.int .i64 y)] [5, 3] = some ([([.fv (.int .i64 x), .fv (.int .i64 12)], 5), ([.fv (.int .i64 y), .fv (.int .i64 4)], 3)], .fv (.bool true)) := by kernel_rfl
end Idl
end Go.Proofs.Ytaifgaidaglblaa

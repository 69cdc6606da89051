/-
  Runs of a law in the ideal semantics, reckoned by the shallow form. Printed by a program of mine (gen-out2.py). No statement is proved here.
-/
import Derived.Test.YtaifgaidaglblaaSh
import Derived.Test.YtaifgaidaglblaaIdl32
import Derived.KernelRfl
namespace Go.Proofs.Ytaifgaidaglblaa
namespace Idl
set_option maxRecDepth 1000000
theorem out8_9_0 (x y : Int) : outT EE ft dt 28 3000 8 [.fv (.int .i64 x), .fv (.int .i64 y)] [9, 0] = some ([([.fv (.int .i64 x), .fv (.int .i64 12)], 9), ([.fv (.int .i64 y), .fv (.int .i64 4)], 0)], .fv (.bool true)) := by kernel_rfl
theorem out8_9_1 (x y : Int) : outT EE ft dt 28 3000 8 [.fv (.int .i64 x), .fv (.int .i64 y)] [9, 1] = some ([([.fv (.int .i64 x), .fv (.int .i64 12)], 9), ([.fv (.int .i64 y), .fv (.int .i64 4)], 1)], .fv (.bool true)) := by kernel_rfl
theorem out8_9_2 (x y : Int) : outT EE ft dt 28 3000 8 [.fv (.int .i64 x), .fv (.int .i64 y)] [9, 2] = some ([([.fv (.int .i64 x), .fv (.int .i64 12)], 9), ([.fv (.int .i64 y), .fv (.int .i64 4)], 2)], .fv (.bool true)) := by kernel_rfl
theorem out8_9_3 (x y : Int) : outT EE ft dt 28 3000 8 [.fv (.int .i64 x), .fv (.int .i64 y)] [9, 3] = some ([([.fv (.int .i64 x), .fv (.int .i64 12)], 9), ([.fv (.int .i64 y), .fv (.int .i64 4)], 3)], .fv (.bool true)) := by kernel_rfl
theorem out8_10_0 (x y : Int) : outT EE ft dt 28 3000 8 [.fv (.int .i64 x), .fv (.int .i64 y)] [10, 0] = some ([([.fv (.int .i64 x), .fv (.int .i64 12)], 10), ([.fv (.int .i64 y), .fv (.int .i64 4)], 0)], .fv (.bool true)) := by kernel_rfl
theorem out8_10_1 (x y : Int) : outT EE ft dt 28 3000 8 [.fv (.int .i64 x), .fv (.int .i64 y)] [10, 1] = some ([([.fv (.int .i64 x), .fv (.int .i64 12)], 10), ([.fv (.int .i64 y), .fv (.int .i64 4)], 1)], .fv (.bool true)) := by kernel_rfl
theorem out8_10_2 (x y : Int) : outT EE ft dt 28 3000 8 [.fv (.int .i64 x), .fv (.int .i64 y)] [10, 2] = some ([([.fv (.int .i64 x), .fv (.int .i64 12)], 10), ([.fv (.int .i64 y), .fv (.int .i64 4)], 2)], .fv (.bool true)) := by kernel_rfl
theorem out8_10_3 (x y : Int) : outT EE ft dt 28 3000 8 [.fv (.int .i64 x), .fv (.int .i64 y)] [10, 3] = some ([([.fv (.int .i64 x), .fv (.int .i64 12)], 10), ([.fv (.int .i64 y), .fv (.int .i64 4)], 3)], .fv (.bool true)) := by kernel_rfl
theorem out8_11_0 (x y : Int) : outT EE ft dt 28 3000 8 [.fv (.int .i64 x), .fv (.int .i64 y)] [11, 0] = some ([([.fv (.int .i64 x), .fv (.int .i64 12)], 11), ([.fv (.int .i64 y), .fv (.int .i64 4)], 0)], .fv (.bool true)) := by kernel_rfl
theorem out8_11_1 (x y : Int) : outT EE ft dt 28 3000 8 [.fv (.int .i64 x), .fv (.int .i64 y)] [11, 1] = some ([([.fv (.int .i64 x), .fv (.int .i64 12)], 11), ([.fv (.int .i64 y), .fv (.int .i64 4)], 1)], .fv (.bool true)) := by kernel_rfl
theorem out8_11_2 (x y : Int) : outT EE ft dt 28 3000 8 [.fv (.int .i64 x), .fv (.int .i64 y)] [11, 2] = some ([([.fv (.int .i64 x), .fv (.int .i64 12)], 11), ([.fv (.int .i64 y), .fv (.int .i64 4)], 2)], .fv (.bool true)) := by kernel_rfl
theorem out8_11_3 (x y : Int) : outT EE ft dt 28 3000 8 [.fv (.int .i64 x), .fv (.int .i64 y)] [11, 3] = some ([([.fv (.int .i64 x), .fv (.int .i64 12)], 11), ([.fv (.int .i64 y), .fv (.int .i64 4)], 3)], .fv (.bool true)) := by kernel_rfl
end Idl
end Go.Proofs.Ytaifgaidaglblaa

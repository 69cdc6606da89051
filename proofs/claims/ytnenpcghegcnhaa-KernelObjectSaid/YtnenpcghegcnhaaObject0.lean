/-
  Runs of a law in the ideal semantics, reckoned by the shallow form. Printed by a program of mine (gen-out.py). No statement is proved here.
-/
import Derived.Test.YtnenpcghegcnhaaSh
import Derived.Test.YtnenpcghegcnhaaIdl32
import Derived.KernelRfl
namespace Go.Proofs.Ytnenpcghegcnhaa
namespace Idl
set_option maxRecDepth 1000000
theorem out4_0 (x : Int) : outT EE ft dt 12 3000 4 [.fv (.int .i64 x)] [0] = some ([([.fv (.int .i64 x), .fv (.int .i64 27)], 0)], .fv (.bool true)) := by kernel_rfl
theorem out4_1 (x : Int) : outT EE ft dt 12 3000 4 [.fv (.int .i64 x)] [1] = some ([([.fv (.int .i64 x), .fv (.int .i64 27)], 1)], .fv (.bool true)) := by kernel_rfl
theorem out4_2 (x : Int) : outT EE ft dt 12 3000 4 [.fv (.int .i64 x)] [2] = some ([([.fv (.int .i64 x), .fv (.int .i64 27)], 2)], .fv (.bool true)) := by kernel_rfl
theorem out4_3 (x : Int) : outT EE ft dt 12 3000 4 [.fv (.int .i64 x)] [3] = some ([([.fv (.int .i64 x), .fv (.int .i64 27)], 3)], .fv (.bool true)) := by kernel_rfl
theorem out4_4 (x : Int) : outT EE ft dt 12 3000 4 [.fv (.int .i64 x)] [4] = some ([([.fv (.int .i64 x), .fv (.int .i64 27)], 4)], .fv (.bool true)) := by kernel_rfl
theorem out4_5 (x : Int) : outT EE ft dt 12 3000 4 [.fv (.int .i64 x)] [5] = some ([([.fv (.int .i64 x), .fv (.int .i64 27)], 5)], .fv (.bool true)) := by kernel_rfl
theorem out4_6 (x : Int) : outT EE ft dt 12 3000 4 [.fv (.int .i64 x)] [6] = some ([([.fv (.int .i64 x), .fv (.int .i64 27)], 6)], .fv (.bool true)) := by kernel_rfl
theorem out4_7 (x : Int) : outT EE ft dt 12 3000 4 [.fv (.int .i64 x)] [7] = some ([([.fv (.int .i64 x), .fv (.int .i64 27)], 7)], .fv (.bool true)) := by kernel_rfl
theorem out4_8 (x : Int) : outT EE ft dt 12 3000 4 [.fv (.int .i64 x)] [8] = some ([([.fv (.int .i64 x), .fv (.int .i64 27)], 8)], .fv (.bool true)) := by kernel_rfl
theorem out4_9 (x : Int) : outT EE ft dt 12 3000 4 [.fv (.int .i64 x)] [9] = some ([([.fv (.int .i64 x), .fv (.int .i64 27)], 9)], .fv (.bool true)) := by kernel_rfl
theorem out4_10 (x : Int) : outT EE ft dt 12 3000 4 [.fv (.int .i64 x)] [10] = some ([([.fv (.int .i64 x), .fv (.int .i64 27)], 10)], .fv (.bool true)) := by kernel_rfl
theorem out4_11 (x : Int) : outT EE ft dt 12 3000 4 [.fv (.int .i64 x)] [11] = some ([([.fv (.int .i64 x), .fv (.int .i64 27)], 11)], .fv (.bool true)) := by kernel_rfl
theorem out4_12 (x : Int) : outT EE ft dt 12 3000 4 [.fv (.int .i64 x)] [12] = some ([([.fv (.int .i64 x), .fv (.int .i64 27)], 12)], .fv (.bool true)) := by kernel_rfl
theorem out4_13 (x : Int) : outT EE ft dt 12 3000 4 [.fv (.int .i64 x)] [13] = some ([([.fv (.int .i64 x), .fv (.int .i64 27)], 13)], .fv (.bool true)) := by kernel_rfl
end Idl
end Go.Proofs.Ytnenpcghegcnhaa

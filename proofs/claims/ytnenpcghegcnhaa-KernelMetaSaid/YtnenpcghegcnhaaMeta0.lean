/-
  Runs of a law in the ideal semantics, reckoned by the shallow form. Printed by a program of mine (gen-out.py). No statement is proved here.
-/
import Derived.Test.YtnenpcghegcnhaaSh
import Derived.Test.YtnenpcghegcnhaaIdl32
import Derived.KernelRfl
namespace Go.Proofs.Ytnenpcghegcnhaa
namespace Idl
set_option maxRecDepth 1000000
theorem out3_0 (x : Int) : outT EE ft dt 12 3000 3 [.fv (.int .i64 x)] [0] = some ([([.fv (.int .i64 x), .fv (.int .i64 34)], 0)], .fv (.bool true)) := by kernel_rfl
theorem out3_1 (x : Int) : outT EE ft dt 12 3000 3 [.fv (.int .i64 x)] [1] = some ([([.fv (.int .i64 x), .fv (.int .i64 34)], 1)], .fv (.bool true)) := by kernel_rfl
theorem out3_2 (x : Int) : outT EE ft dt 12 3000 3 [.fv (.int .i64 x)] [2] = some ([([.fv (.int .i64 x), .fv (.int .i64 34)], 2)], .fv (.bool true)) := by kernel_rfl
theorem out3_3 (x : Int) : outT EE ft dt 12 3000 3 [.fv (.int .i64 x)] [3] = some ([([.fv (.int .i64 x), .fv (.int .i64 34)], 3)], .fv (.bool true)) := by kernel_rfl
theorem out3_4 (x : Int) : outT EE ft dt 12 3000 3 [.fv (.int .i64 x)] [4] = some ([([.fv (.int .i64 x), .fv (.int .i64 34)], 4)], .fv (.bool true)) := by kernel_rfl
theorem out3_5 (x : Int) : outT EE ft dt 12 3000 3 [.fv (.int .i64 x)] [5] = some ([([.fv (.int .i64 x), .fv (.int .i64 34)], 5)], .fv (.bool true)) := by kernel_rfl
theorem out3_6 (x : Int) : outT EE ft dt 12 3000 3 [.fv (.int .i64 x)] [6] = some ([([.fv (.int .i64 x), .fv (.int .i64 34)], 6)], .fv (.bool true)) := by kernel_rfl
theorem out3_7 (x : Int) : outT EE ft dt 12 3000 3 [.fv (.int .i64 x)] [7] = some ([([.fv (.int .i64 x), .fv (.int .i64 34)], 7)], .fv (.bool true)) := by kernel_rfl
theorem out3_8 (x : Int) : outT EE ft dt 12 3000 3 [.fv (.int .i64 x)] [8] = some ([([.fv (.int .i64 x), .fv (.int .i64 34)], 8)], .fv (.bool true)) := by kernel_rfl
theorem out3_9 (x : Int) : outT EE ft dt 12 3000 3 [.fv (.int .i64 x)] [9] = some ([([.fv (.int .i64 x), .fv (.int .i64 34)], 9)], .fv (.bool true)) := by kernel_rfl
theorem out3_10 (x : Int) : outT EE ft dt 12 3000 3 [.fv (.int .i64 x)] [10] = some ([([.fv (.int .i64 x), .fv (.int .i64 34)], 10)], .fv (.bool true)) := by kernel_rfl
theorem out3_11 (x : Int) : outT EE ft dt 12 3000 3 [.fv (.int .i64 x)] [11] = some ([([.fv (.int .i64 x), .fv (.int .i64 34)], 11)], .fv (.bool true)) := by kernel_rfl
theorem out3_12 (x : Int) : outT EE ft dt 12 3000 3 [.fv (.int .i64 x)] [12] = some ([([.fv (.int .i64 x), .fv (.int .i64 34)], 12)], .fv (.bool true)) := by kernel_rfl
theorem out3_13 (x : Int) : outT EE ft dt 12 3000 3 [.fv (.int .i64 x)] [13] = some ([([.fv (.int .i64 x), .fv (.int .i64 34)], 13)], .fv (.bool true)) := by kernel_rfl
theorem out3_14 (x : Int) : outT EE ft dt 12 3000 3 [.fv (.int .i64 x)] [14] = some ([([.fv (.int .i64 x), .fv (.int .i64 34)], 14)], .fv (.bool true)) := by kernel_rfl
theorem out3_15 (x : Int) : outT EE ft dt 12 3000 3 [.fv (.int .i64 x)] [15] = some ([([.fv (.int .i64 x), .fv (.int .i64 34)], 15)], .fv (.bool true)) := by kernel_rfl
theorem out3_16 (x : Int) : outT EE ft dt 12 3000 3 [.fv (.int .i64 x)] [16] = some ([([.fv (.int .i64 x), .fv (.int .i64 34)], 16)], .fv (.bool true)) := by kernel_rfl
end Idl
end Go.Proofs.Ytnenpcghegcnhaa

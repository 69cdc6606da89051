/-
  Runs of a law in the ideal semantics, reckoned by the shallow form. Printed by a program of mine (gen-out.py). No statement is proved here.
-/
import Derived.Test.YtnenpcghegcnhaaSh
import Derived.Test.YtnenpcghegcnhaaIdl32
import Derived.KernelRfl
namespace Go.Proofs.Ytnenpcghegcnhaa
namespace Idl
set_option maxRecDepth 1000000
theorem out4_14 (x : Int) : outT EE ft dt 12 3000 4 [.fv (.int .i64 x)] [14] = some ([([.fv (.int .i64 x), .fv (.int .i64 27)], 14)], .fv (.bool true)) := by kernel_rfl
theorem out4_15 (x : Int) : outT EE ft dt 12 3000 4 [.fv (.int .i64 x)] [15] = some ([([.fv (.int .i64 x), .fv (.int .i64 27)], 15)], .fv (.bool true)) := by kernel_rfl
theorem out4_16 (x : Int) : outT EE ft dt 12 3000 4 [.fv (.int .i64 x)] [16] = some ([([.fv (.int .i64 x), .fv (.int .i64 27)], 16)], .fv (.bool true)) := by kernel_rfl
theorem out4_17 (x : Int) : outT EE ft dt 12 3000 4 [.fv (.int .i64 x)] [17] = some ([([.fv (.int .i64 x), .fv (.int .i64 27)], 17)], .fv (.bool true)) := by kernel_rfl
theorem out4_18 (x : Int) : outT EE ft dt 12 3000 4 [.fv (.int .i64 x)] [18] = some ([([.fv (.int .i64 x), .fv (.int .i64 27)], 18)], .fv (.bool true)) := by kernel_rfl
theorem out4_19 (x : Int) : outT EE ft dt 12 3000 4 [.fv (.int .i64 x)] [19] = some ([([.fv (.int .i64 x), .fv (.int .i64 27)], 19)], .fv (.bool true)) := by kernel_rfl
theorem out4_20 (x : Int) : outT EE ft dt 12 3000 4 [.fv (.int .i64 x)] [20] = some ([([.fv (.int .i64 x), .fv (.int .i64 27)], 20)], .fv (.bool true)) := by kernel_rfl
theorem out4_21 (x : Int) : outT EE ft dt 12 3000 4 [.fv (.int .i64 x)] [21] = some ([([.fv (.int .i64 x), .fv (.int .i64 27)], 21)], .fv (.bool true)) := by kernel_rfl
theorem out4_22 (x : Int) : outT EE ft dt 12 3000 4 [.fv (.int .i64 x)] [22] = some ([([.fv (.int .i64 x), .fv (.int .i64 27)], 22)], .fv (.bool true)) := by kernel_rfl
theorem out4_23 (x : Int) : outT EE ft dt 12 3000 4 [.fv (.int .i64 x)] [23] = some ([([.fv (.int .i64 x), .fv (.int .i64 27)], 23)], .fv (.bool true)) := by kernel_rfl
theorem out4_24 (x : Int) : outT EE ft dt 12 3000 4 [.fv (.int .i64 x)] [24] = some ([([.fv (.int .i64 x), .fv (.int .i64 27)], 24)], .fv (.bool true)) := by kernel_rfl
theorem out4_25 (x : Int) : outT EE ft dt 12 3000 4 [.fv (.int .i64 x)] [25] = some ([([.fv (.int .i64 x), .fv (.int .i64 27)], 25)], .fv (.bool true)) := by kernel_rfl
theorem out4_26 (x : Int) : outT EE ft dt 12 3000 4 [.fv (.int .i64 x)] [26] = some ([([.fv (.int .i64 x), .fv (.int .i64 27)], 26)], .fv (.bool true)) := by kernel_rfl
end Idl
end Go.Proofs.Ytnenpcghegcnhaa

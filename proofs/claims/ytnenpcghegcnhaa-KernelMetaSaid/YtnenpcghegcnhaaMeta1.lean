/-
  Runs of a law in the ideal semantics, reckoned by the shallow form. Printed by a program of mine (gen-out.py). No statement is proved here.
-/
import Derived.Test.YtnenpcghegcnhaaSh
import Derived.Test.YtnenpcghegcnhaaIdl32
import Derived.KernelRfl
namespace Go.Proofs.Ytnenpcghegcnhaa
namespace Idl
set_option maxRecDepth 1000000
theorem out3_17 (x : Int) : outT EE ft dt 12 3000 3 [.fv (.int .i64 x)] [17] = some ([([.fv (.int .i64 x), .fv (.int .i64 34)], 17)], .fv (.bool true)) := by kernel_rfl
theorem out3_18 (x : Int) : outT EE ft dt 12 3000 3 [.fv (.int .i64 x)] [18] = some ([([.fv (.int .i64 x), .fv (.int .i64 34)], 18)], .fv (.bool true)) := by kernel_rfl
theorem out3_19 (x : Int) : outT EE ft dt 12 3000 3 [.fv (.int .i64 x)] [19] = some ([([.fv (.int .i64 x), .fv (.int .i64 34)], 19)], .fv (.bool true)) := by kernel_rfl
theorem out3_20 (x : Int) : outT EE ft dt 12 3000 3 [.fv (.int .i64 x)] [20] = some ([([.fv (.int .i64 x), .fv (.int .i64 34)], 20)], .fv (.bool true)) := by kernel_rfl
theorem out3_21 (x : Int) : outT EE ft dt 12 3000 3 [.fv (.int .i64 x)] [21] = some ([([.fv (.int .i64 x), .fv (.int .i64 34)], 21)], .fv (.bool true)) := by kernel_rfl
theorem out3_22 (x : Int) : outT EE ft dt 12 3000 3 [.fv (.int .i64 x)] [22] = some ([([.fv (.int .i64 x), .fv (.int .i64 34)], 22)], .fv (.bool true)) := by kernel_rfl
theorem out3_23 (x : Int) : outT EE ft dt 12 3000 3 [.fv (.int .i64 x)] [23] = some ([([.fv (.int .i64 x), .fv (.int .i64 34)], 23)], .fv (.bool true)) := by kernel_rfl
theorem out3_24 (x : Int) : outT EE ft dt 12 3000 3 [.fv (.int .i64 x)] [24] = some ([([.fv (.int .i64 x), .fv (.int .i64 34)], 24)], .fv (.bool true)) := by kernel_rfl
theorem out3_25 (x : Int) : outT EE ft dt 12 3000 3 [.fv (.int .i64 x)] [25] = some ([([.fv (.int .i64 x), .fv (.int .i64 34)], 25)], .fv (.bool true)) := by kernel_rfl
theorem out3_26 (x : Int) : outT EE ft dt 12 3000 3 [.fv (.int .i64 x)] [26] = some ([([.fv (.int .i64 x), .fv (.int .i64 34)], 26)], .fv (.bool true)) := by kernel_rfl
theorem out3_27 (x : Int) : outT EE ft dt 12 3000 3 [.fv (.int .i64 x)] [27] = some ([([.fv (.int .i64 x), .fv (.int .i64 34)], 27)], .fv (.bool true)) := by kernel_rfl
theorem out3_28 (x : Int) : outT EE ft dt 12 3000 3 [.fv (.int .i64 x)] [28] = some ([([.fv (.int .i64 x), .fv (.int .i64 34)], 28)], .fv (.bool true)) := by kernel_rfl
theorem out3_29 (x : Int) : outT EE ft dt 12 3000 3 [.fv (.int .i64 x)] [29] = some ([([.fv (.int .i64 x), .fv (.int .i64 34)], 29)], .fv (.bool true)) := by kernel_rfl
theorem out3_30 (x : Int) : outT EE ft dt 12 3000 3 [.fv (.int .i64 x)] [30] = some ([([.fv (.int .i64 x), .fv (.int .i64 34)], 30)], .fv (.bool true)) := by kernel_rfl
theorem out3_31 (x : Int) : outT EE ft dt 12 3000 3 [.fv (.int .i64 x)] [31] = some ([([.fv (.int .i64 x), .fv (.int .i64 34)], 31)], .fv (.bool true)) := by kernel_rfl
theorem out3_32 (x : Int) : outT EE ft dt 12 3000 3 [.fv (.int .i64 x)] [32] = some ([([.fv (.int .i64 x), .fv (.int .i64 34)], 32)], .fv (.bool true)) := by kernel_rfl
theorem out3_33 (x : Int) : outT EE ft dt 12 3000 3 [.fv (.int .i64 x)] [33] = some ([([.fv (.int .i64 x), .fv (.int .i64 34)], 33)], .fv (.bool true)) := by kernel_rfl
end Idl
end Go.Proofs.Ytnenpcghegcnhaa

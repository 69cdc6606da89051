/-
  Runs of a law in the ideal semantics, reckoned by the shallow form. Printed by a program of mine (gen-out.py). No statement is proved here.
-/
import Derived.Test.YtkfecngimlcfoaaSh
import Derived.Test.YtkfecngimlcfoaaIdl32
import Derived.KernelRfl
namespace Go.Proofs.Ytkfecngimlcfoaa
namespace Idl
set_option maxRecDepth 1000000
theorem out7_0 (x : Int) : outT EE ft dt 23 3000 7 [.fv (.int .i64 x)] [0] = some ([([.fv (.int .i64 x), .fv (.int .i64 8)], 0)], .fv (.bool true)) := by kernel_rfl
theorem out7_1 (x : Int) : outT EE ft dt 23 3000 7 [.fv (.int .i64 x)] [1] = some ([([.fv (.int .i64 x), .fv (.int .i64 8)], 1)], .fv (.bool true)) := by kernel_rfl
theorem out7_2 (x : Int) : outT EE ft dt 23 3000 7 [.fv (.int .i64 x)] [2] = some ([([.fv (.int .i64 x), .fv (.int .i64 8)], 2)], .fv (.bool true)) := by kernel_rfl
theorem out7_3 (x : Int) : outT EE ft dt 23 3000 7 [.fv (.int .i64 x)] [3] = some ([([.fv (.int .i64 x), .fv (.int .i64 8)], 3)], .fv (.bool true)) := by kernel_rfl
theorem out7_4 (x : Int) : outT EE ft dt 23 3000 7 [.fv (.int .i64 x)] [4] = some ([([.fv (.int .i64 x), .fv (.int .i64 8)], 4)], .fv (.bool true)) := by kernel_rfl
theorem out7_5 (x : Int) : outT EE ft dt 23 3000 7 [.fv (.int .i64 x)] [5] = some ([([.fv (.int .i64 x), .fv (.int .i64 8)], 5)], .fv (.bool true)) := by kernel_rfl
theorem out7_6 (x : Int) : outT EE ft dt 23 3000 7 [.fv (.int .i64 x)] [6] = some ([([.fv (.int .i64 x), .fv (.int .i64 8)], 6)], .fv (.bool true)) := by kernel_rfl
theorem out7_7 (x : Int) : outT EE ft dt 23 3000 7 [.fv (.int .i64 x)] [7] = some ([([.fv (.int .i64 x), .fv (.int .i64 8)], 7)], .fv (.bool true)) := by kernel_rfl
end Idl
end Go.Proofs.Ytkfecngimlcfoaa

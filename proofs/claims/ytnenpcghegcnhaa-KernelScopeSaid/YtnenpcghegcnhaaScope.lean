/-
  Runs of a law in the ideal semantics, reckoned by the shallow form. Printed by a program of mine (gen-out.py). No statement is proved here.
-/
import Derived.Test.YtnenpcghegcnhaaSh
import Derived.Test.YtnenpcghegcnhaaIdl32
import Derived.KernelRfl
namespace Go.Proofs.Ytnenpcghegcnhaa
namespace Idl
set_option maxRecDepth 1000000
theorem out6_0 (x : Int) : outT EE ft dt 12 3000 6 [.fv (.int .i64 x)] [0] = some ([([.fv (.int .i64 x), .fv (.int .i64 4)], 0)], .fv (.bool true)) := by kernel_rfl
theorem out6_1 (x : Int) : outT EE ft dt 12 3000 6 [.fv (.int .i64 x)] [1] = some ([([.fv (.int .i64 x), .fv (.int .i64 4)], 1)], .fv (.bool true)) := by kernel_rfl
theorem out6_2 (x : Int) : outT EE ft dt 12 3000 6 [.fv (.int .i64 x)] [2] = some ([([.fv (.int .i64 x), .fv (.int .i64 4)], 2)], .fv (.bool true)) := by kernel_rfl
theorem out6_3 (x : Int) : outT EE ft dt 12 3000 6 [.fv (.int .i64 x)] [3] = some ([([.fv (.int .i64 x), .fv (.int .i64 4)], 3)], .fv (.bool true)) := by kernel_rfl
end Idl
end Go.Proofs.Ytnenpcghegcnhaa

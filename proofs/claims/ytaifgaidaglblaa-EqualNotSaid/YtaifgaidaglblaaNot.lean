/-
  Runs of a law in the ideal semantics, reckoned by the shallow form. Printed by a program of mine (gen-out.py). No statement is proved here.
-/
import Derived.Test.YtaifgaidaglblaaSh
import Derived.Test.YtaifgaidaglblaaIdl32
import Derived.KernelRfl
namespace Go.Proofs.Ytaifgaidaglblaa
namespace Idl
set_option maxRecDepth 1000000
theorem out9_0 (x : Int) : outT EE ft dt 28 3000 9 [.fv (.int .i64 x)] [0] = some ([([.fv (.int .i64 x), .fv (.int .i64 6)], 0)], .fv (.bool true)) := by kernel_rfl
theorem out9_1 (x : Int) : outT EE ft dt 28 3000 9 [.fv (.int .i64 x)] [1] = some ([([.fv (.int .i64 x), .fv (.int .i64 6)], 1)], .fv (.bool true)) := by kernel_rfl
theorem out9_2 (x : Int) : outT EE ft dt 28 3000 9 [.fv (.int .i64 x)] [2] = some ([([.fv (.int .i64 x), .fv (.int .i64 6)], 2)], .fv (.bool true)) := by kernel_rfl
theorem out9_3 (x : Int) : outT EE ft dt 28 3000 9 [.fv (.int .i64 x)] [3] = some ([([.fv (.int .i64 x), .fv (.int .i64 6)], 3)], .fv (.bool true)) := by kernel_rfl
theorem out9_4 (x : Int) : outT EE ft dt 28 3000 9 [.fv (.int .i64 x)] [4] = some ([([.fv (.int .i64 x), .fv (.int .i64 6)], 4)], .fv (.bool true)) := by kernel_rfl
theorem out9_5 (x : Int) : outT EE ft dt 28 3000 9 [.fv (.int .i64 x)] [5] = some ([([.fv (.int .i64 x), .fv (.int .i64 6)], 5)], .fv (.bool true)) := by kernel_rfl
end Idl
end Go.Proofs.Ytaifgaidaglblaa

/-
  Runs of a law in the ideal semantics, reckoned. Printed by a program of mine (gen-known.py). No statement is proved here.
-/
import Derived.Test.YtbkdidonegggdaaTab
import Derived.Test.YtbkdidonegggdaaIdl24
namespace Go.Proofs.Ytbkdidonegggdaa
namespace Idl
set_option maxRecDepth 1000000
theorem out9_0 (x : Int) : outS EE ft 28 3000 9 [.fv (.int .i64 x)] [0] = some ([([.fv (.int .i64 x), .fv (.int .i64 12)], 0)], .fv (.bool true)) := by kernel_rfl
theorem out9_1 (x : Int) : outS EE ft 28 3000 9 [.fv (.int .i64 x)] [1] = some ([([.fv (.int .i64 x), .fv (.int .i64 12)], 1)], .fv (.bool true)) := by kernel_rfl
theorem out9_2 (x : Int) : outS EE ft 28 3000 9 [.fv (.int .i64 x)] [2] = some ([([.fv (.int .i64 x), .fv (.int .i64 12)], 2)], .fv (.bool true)) := by kernel_rfl
theorem out9_3 (x : Int) : outS EE ft 28 3000 9 [.fv (.int .i64 x)] [3] = some ([([.fv (.int .i64 x), .fv (.int .i64 12)], 3)], .fv (.bool true)) := by kernel_rfl
end Idl
end Go.Proofs.Ytbkdidonegggdaa

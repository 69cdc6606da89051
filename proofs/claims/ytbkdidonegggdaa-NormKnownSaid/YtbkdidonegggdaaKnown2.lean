/-
  Runs of a law in the ideal semantics, reckoned. Printed by a program of mine (gen-known.py). No statement is proved here.
-/
import Derived.Test.YtbkdidonegggdaaTab
import Derived.Test.YtbkdidonegggdaaIdl24
namespace Go.Proofs.Ytbkdidonegggdaa
namespace Idl
set_option maxRecDepth 1000000
theorem out9_8 (x : Int) : outS EE ft 28 3000 9 [.fv (.int .i64 x)] [8] = some ([([.fv (.int .i64 x), .fv (.int .i64 12)], 8)], .fv (.bool true)) := by kernel_rfl
theorem out9_9 (x : Int) : outS EE ft 28 3000 9 [.fv (.int .i64 x)] [9] = some ([([.fv (.int .i64 x), .fv (.int .i64 12)], 9)], .fv (.bool true)) := by kernel_rfl
theorem out9_10 (x : Int) : outS EE ft 28 3000 9 [.fv (.int .i64 x)] [10] = some ([([.fv (.int .i64 x), .fv (.int .i64 12)], 10)], .fv (.bool true)) := by kernel_rfl
theorem out9_11 (x : Int) : outS EE ft 28 3000 9 [.fv (.int .i64 x)] [11] = some ([([.fv (.int .i64 x), .fv (.int .i64 12)], 11)], .fv (.bool true)) := by kernel_rfl
end Idl
end Go.Proofs.Ytbkdidonegggdaa

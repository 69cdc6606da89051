/-
  Runs of a law in the ideal semantics, reckoned. Printed by a program of mine (gen-known.py). No statement is proved here.
-/
import Derived.Test.YtbkdidonegggdaaTab
import Derived.Test.YtbkdidonegggdaaIdl24
namespace Go.Proofs.Ytbkdidonegggdaa
namespace Idl
set_option maxRecDepth 1000000
theorem out9_4 (x : Int) : outS EE ft 28 3000 9 [.fv (.int .i64 x)] [4] = some ([([.fv (.int .i64 x), .fv (.int .i64 12)], 4)], .fv (.bool true)) := by kernel_rfl
theorem out9_5 (x : Int) : outS EE ft 28 3000 9 [.fv (.int .i64 x)] [5] = some ([([.fv (.int .i64 x), .fv (.int .i64 12)], 5)], .fv (.bool true)) := by kernel_rfl
theorem out9_6 (x : Int) : outS EE ft 28 3000 9 [.fv (.int .i64 x)] [6] = some ([([.fv (.int .i64 x), .fv (.int .i64 12)], 6)], .fv (.bool true)) := by kernel_rfl
theorem out9_7 (x : Int) : outS EE ft 28 3000 9 [.fv (.int .i64 x)] [7] = some ([([.fv (.int .i64 x), .fv (.int .i64 12)], 7)], .fv (.bool true)) := by kernel_rfl
end Idl
end Go.Proofs.Ytbkdidonegggdaa

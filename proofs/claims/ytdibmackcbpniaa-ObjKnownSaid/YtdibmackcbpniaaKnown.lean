/-
  Runs of a law in the ideal semantics, reckoned by the shallow form. Printed by a program of mine (gen-out.py). No statement is proved here.
-/
import Derived.Test.YtdibmackcbpniaaSh
import Derived.Test.YtdibmackcbpniaaIdl32
import Derived.KernelRfl
namespace Go.Proofs.Ytdibmackcbpniaa
namespace Idl
set_option maxRecDepth 1000000
theorem out10_0 (x : Int) : outT EE ft dt 23 3000 10 [.fv (.int .i64 x)] [0] = some ([([.fv (.int .i64 x), .fv (.int .i64 23)], 0)], .fv (.bool true)) := by kernel_rfl
theorem out10_1 (x : Int) : outT EE ft dt 23 3000 10 [.fv (.int .i64 x)] [1] = some ([([.fv (.int .i64 x), .fv (.int .i64 23)], 1)], .fv (.bool true)) := by kernel_rfl
theorem out10_2 (x : Int) : outT EE ft dt 23 3000 10 [.fv (.int .i64 x)] [2] = some ([([.fv (.int .i64 x), .fv (.int .i64 23)], 2)], .fv (.bool true)) := by kernel_rfl
theorem out10_3 (x : Int) : outT EE ft dt 23 3000 10 [.fv (.int .i64 x)] [3] = some ([([.fv (.int .i64 x), .fv (.int .i64 23)], 3)], .fv (.bool true)) := by kernel_rfl
theorem out10_4 (x : Int) : outT EE ft dt 23 3000 10 [.fv (.int .i64 x)] [4] = some ([([.fv (.int .i64 x), .fv (.int .i64 23)], 4)], .fv (.bool true)) := by kernel_rfl
theorem out10_5 (x : Int) : outT EE ft dt 23 3000 10 [.fv (.int .i64 x)] [5] = some ([([.fv (.int .i64 x), .fv (.int .i64 23)], 5)], .fv (.bool true)) := by kernel_rfl
theorem out10_6 (x : Int) : outT EE ft dt 23 3000 10 [.fv (.int .i64 x)] [6] = some ([([.fv (.int .i64 x), .fv (.int .i64 23)], 6)], .fv (.bool true)) := by kernel_rfl
theorem out10_7 (x : Int) : outT EE ft dt 23 3000 10 [.fv (.int .i64 x)] [7] = some ([([.fv (.int .i64 x), .fv (.int .i64 23)], 7)], .fv (.bool true)) := by kernel_rfl
theorem out10_8 (x : Int) : outT EE ft dt 23 3000 10 [.fv (.int .i64 x)] [8] = some ([([.fv (.int .i64 x), .fv (.int .i64 23)], 8)], .fv (.bool true)) := by kernel_rfl
theorem out10_9 (x : Int) : outT EE ft dt 23 3000 10 [.fv (.int .i64 x)] [9] = some ([([.fv (.int .i64 x), .fv (.int .i64 23)], 9)], .fv (.bool true)) := by kernel_rfl
theorem out10_10 (x : Int) : outT EE ft dt 23 3000 10 [.fv (.int .i64 x)] [10] = some ([([.fv (.int .i64 x), .fv (.int .i64 23)], 10)], .fv (.bool true)) := by kernel_rfl
theorem out10_11 (x : Int) : outT EE ft dt 23 3000 10 [.fv (.int .i64 x)] [11] = some ([([.fv (.int .i64 x), .fv (.int .i64 23)], 11)], .fv (.bool true)) := by kernel_rfl
theorem out10_12 (x : Int) : outT EE ft dt 23 3000 10 [.fv (.int .i64 x)] [12] = some ([([.fv (.int .i64 x), .fv (.int .i64 23)], 12)], .fv (.bool true)) := by kernel_rfl
theorem out10_13 (x : Int) : outT EE ft dt 23 3000 10 [.fv (.int .i64 x)] [13] = some ([([.fv (.int .i64 x), .fv (.int .i64 23)], 13)], .fv (.bool true)) := by kernel_rfl
theorem out10_14 (x : Int) : outT EE ft dt 23 3000 10 [.fv (.int .i64 x)] [14] = some ([([.fv (.int .i64 x), .fv (.int .i64 23)], 14)], .fv (.bool true)) := by kernel_rfl
theorem out10_15 (x : Int) : outT EE ft dt 23 3000 10 [.fv (.int .i64 x)] [15] = some ([([.fv (.int .i64 x), .fv (.int .i64 23)], 15)], .fv (.bool true)) := by kernel_rfl
theorem out10_16 (x : Int) : outT EE ft dt 23 3000 10 [.fv (.int .i64 x)] [16] = some ([([.fv (.int .i64 x), .fv (.int .i64 23)], 16)], .fv (.bool true)) := by kernel_rfl
theorem out10_17 (x : Int) : outT EE ft dt 23 3000 10 [.fv (.int .i64 x)] [17] = some ([([.fv (.int .i64 x), .fv (.int .i64 23)], 17)], .fv (.bool true)) := by kernel_rfl
theorem out10_18 (x : Int) : outT EE ft dt 23 3000 10 [.fv (.int .i64 x)] [18] = some ([([.fv (.int .i64 x), .fv (.int .i64 23)], 18)], .fv (.bool true)) := by kernel_rfl
theorem out10_19 (x : Int) : outT EE ft dt 23 3000 10 [.fv (.int .i64 x)] [19] = some ([([.fv (.int .i64 x), .fv (.int .i64 23)], 19)], .fv (.bool true)) := by kernel_rfl
theorem out10_20 (x : Int) : outT EE ft dt 23 3000 10 [.fv (.int .i64 x)] [20] = some ([([.fv (.int .i64 x), .fv (.int .i64 23)], 20)], .fv (.bool true)) := by kernel_rfl
theorem out10_21 (x : Int) : outT EE ft dt 23 3000 10 [.fv (.int .i64 x)] [21] = some ([([.fv (.int .i64 x), .fv (.int .i64 23)], 21)], .fv (.bool true)) := by kernel_rfl
theorem out10_22 (x : Int) : outT EE ft dt 23 3000 10 [.fv (.int .i64 x)] [22] = some ([([.fv (.int .i64 x), .fv (.int .i64 23)], 22)], .fv (.bool true)) := by kernel_rfl
end Idl
end Go.Proofs.Ytdibmackcbpniaa

/-
  The law 'NormStuck' holds: for all numbers it answers true, and its arguments read as they did.
-/
import Derived.Test.YtbkdidonegggdaaRows
import Derived.WalkKit
import Derived.ProofKit
import Derived.OpenShut
import Derived.Test.YtbkdidonegggdaaWithin
import Derived.Test.YtbkdidonegggdaaStuck0
import Derived.Test.YtbkdidonegggdaaStuck1
import Derived.Test.YtbkdidonegggdaaStuck2
import Derived.Test.YtbkdidonegggdaaStuck3
import Derived.Test.YtbkdidonegggdaaStuck4
import Derived.Test.YtbkdidonegggdaaStuck5
import Derived.Test.YtbkdidonegggdaaStuck6
import Derived.Test.YtbkdidonegggdaaStuck7
namespace Go.Proofs.Ytbkdidonegggdaa.normStuck
open Go.ChangeShapes Go.WideShapes Go.ChangeAt Go.RowKit
open Go.Proofs.Ytbkdidonegggdaa.Idl
set_option linter.unusedVariables false

theorem own : ownKnob Try.prog.godebug = none := by kernel_rfl

theorem asked (x y z : Int) {k j l : Int} (hk : x % 8 = k) (hj : y % 8 = j) (hl : z % 5 = l) : Stand (run EE 3000) 28 [([.fv (.int .i64 x), .fv (.int .i64 8)], k), ([.fv (.int .i64 y), .fv (.int .i64 8)], j), ([.fv (.int .i64 z), .fv (.int .i64 5)], l)] := by
  intro q hq
  rcases List.mem_cons.1 hq with rfl | hq
  · have := within_run 2999 x 8 (by decide) (by decide) (by kernel_rfl)
    rw [show ((8 : Nat) : Int) = 8 from rfl, hk] at this
    exact this
  rcases List.mem_cons.1 hq with rfl | hq
  · have := within_run 2999 y 8 (by decide) (by decide) (by kernel_rfl)
    rw [show ((8 : Nat) : Int) = 8 from rfl, hj] at this
    exact this
  rcases List.mem_cons.1 hq with rfl | hq
  · have := within_run 2999 z 5 (by decide) (by decide) (by kernel_rfl)
    rw [show ((5 : Nat) : Int) = 5 from rfl, hl] at this
    exact this
  cases hq
theorem runs_0_0 (x y z : Int) (h : x % 8 = 0) (g : y % 8 = 0) : ∃ hp', run EE 3001 8 [.fv (.int .i64 x), .fv (.int .i64 y), .fv (.int .i64 z)] ⟨[], []⟩ = some (.fv (.bool true), hp') := by
  have h1 := Int.emod_nonneg z (show (5 : Int) ≠ 0 by decide)
  have h2 := Int.emod_lt_of_pos z (show (0 : Int) < 5 by decide)
  have : z % 5 = 0 ∨ z % 5 = 1 ∨ z % 5 = 2 ∨ z % 5 = 3 ∨ z % 5 = 4 := by omega
  rcases this with e | e | e | e | e
  · exact outT_run ft_ok dt_ok (out8_0_0_0 x y z) (asked x y z h g e)
  · exact outT_run ft_ok dt_ok (out8_0_0_1 x y z) (asked x y z h g e)
  · exact outT_run ft_ok dt_ok (out8_0_0_2 x y z) (asked x y z h g e)
  · exact outT_run ft_ok dt_ok (out8_0_0_3 x y z) (asked x y z h g e)
  · exact outT_run ft_ok dt_ok (out8_0_0_4 x y z) (asked x y z h g e)
theorem runs_0_1 (x y z : Int) (h : x % 8 = 0) (g : y % 8 = 1) : ∃ hp', run EE 3001 8 [.fv (.int .i64 x), .fv (.int .i64 y), .fv (.int .i64 z)] ⟨[], []⟩ = some (.fv (.bool true), hp') := by
  have h1 := Int.emod_nonneg z (show (5 : Int) ≠ 0 by decide)
  have h2 := Int.emod_lt_of_pos z (show (0 : Int) < 5 by decide)
  have : z % 5 = 0 ∨ z % 5 = 1 ∨ z % 5 = 2 ∨ z % 5 = 3 ∨ z % 5 = 4 := by omega
  rcases this with e | e | e | e | e
  · exact outT_run ft_ok dt_ok (out8_0_1_0 x y z) (asked x y z h g e)
  · exact outT_run ft_ok dt_ok (out8_0_1_1 x y z) (asked x y z h g e)
  · exact outT_run ft_ok dt_ok (out8_0_1_2 x y z) (asked x y z h g e)
  · exact outT_run ft_ok dt_ok (out8_0_1_3 x y z) (asked x y z h g e)
  · exact outT_run ft_ok dt_ok (out8_0_1_4 x y z) (asked x y z h g e)
theorem runs_0_2 (x y z : Int) (h : x % 8 = 0) (g : y % 8 = 2) : ∃ hp', run EE 3001 8 [.fv (.int .i64 x), .fv (.int .i64 y), .fv (.int .i64 z)] ⟨[], []⟩ = some (.fv (.bool true), hp') := by
  have h1 := Int.emod_nonneg z (show (5 : Int) ≠ 0 by decide)
  have h2 := Int.emod_lt_of_pos z (show (0 : Int) < 5 by decide)
  have : z % 5 = 0 ∨ z % 5 = 1 ∨ z % 5 = 2 ∨ z % 5 = 3 ∨ z % 5 = 4 := by omega
  rcases this with e | e | e | e | e
  · exact outT_run ft_ok dt_ok (out8_0_2_0 x y z) (asked x y z h g e)
  · exact outT_run ft_ok dt_ok (out8_0_2_1 x y z) (asked x y z h g e)
  · exact outT_run ft_ok dt_ok (out8_0_2_2 x y z) (asked x y z h g e)
  · exact outT_run ft_ok dt_ok (out8_0_2_3 x y z) (asked x y z h g e)
  · exact outT_run ft_ok dt_ok (out8_0_2_4 x y z) (asked x y z h g e)
theorem runs_0_3 (x y z : Int) (h : x % 8 = 0) (g : y % 8 = 3) : ∃ hp', run EE 3001 8 [.fv (.int .i64 x), .fv (.int .i64 y), .fv (.int .i64 z)] ⟨[], []⟩ = some (.fv (.bool true), hp') := by
  have h1 := Int.emod_nonneg z (show (5 : Int) ≠ 0 by decide)
  have h2 := Int.emod_lt_of_pos z (show (0 : Int) < 5 by decide)
  have : z % 5 = 0 ∨ z % 5 = 1 ∨ z % 5 = 2 ∨ z % 5 = 3 ∨ z % 5 = 4 := by omega
  rcases this with e | e | e | e | e
  · exact outT_run ft_ok dt_ok (out8_0_3_0 x y z) (asked x y z h g e)
  · exact outT_run ft_ok dt_ok (out8_0_3_1 x y z) (asked x y z h g e)
  · exact outT_run ft_ok dt_ok (out8_0_3_2 x y z) (asked x y z h g e)
  · exact outT_run ft_ok dt_ok (out8_0_3_3 x y z) (asked x y z h g e)
  · exact outT_run ft_ok dt_ok (out8_0_3_4 x y z) (asked x y z h g e)
theorem runs_0_4 (x y z : Int) (h : x % 8 = 0) (g : y % 8 = 4) : ∃ hp', run EE 3001 8 [.fv (.int .i64 x), .fv (.int .i64 y), .fv (.int .i64 z)] ⟨[], []⟩ = some (.fv (.bool true), hp') := by
  have h1 := Int.emod_nonneg z (show (5 : Int) ≠ 0 by decide)
  have h2 := Int.emod_lt_of_pos z (show (0 : Int) < 5 by decide)
  have : z % 5 = 0 ∨ z % 5 = 1 ∨ z % 5 = 2 ∨ z % 5 = 3 ∨ z % 5 = 4 := by omega
  rcases this with e | e | e | e | e
  · exact outT_run ft_ok dt_ok (out8_0_4_0 x y z) (asked x y z h g e)
  · exact outT_run ft_ok dt_ok (out8_0_4_1 x y z) (asked x y z h g e)
  · exact outT_run ft_ok dt_ok (out8_0_4_2 x y z) (asked x y z h g e)
  · exact outT_run ft_ok dt_ok (out8_0_4_3 x y z) (asked x y z h g e)
  · exact outT_run ft_ok dt_ok (out8_0_4_4 x y z) (asked x y z h g e)
theorem runs_0_5 (x y z : Int) (h : x % 8 = 0) (g : y % 8 = 5) : ∃ hp', run EE 3001 8 [.fv (.int .i64 x), .fv (.int .i64 y), .fv (.int .i64 z)] ⟨[], []⟩ = some (.fv (.bool true), hp') := by
  have h1 := Int.emod_nonneg z (show (5 : Int) ≠ 0 by decide)
  have h2 := Int.emod_lt_of_pos z (show (0 : Int) < 5 by decide)
  have : z % 5 = 0 ∨ z % 5 = 1 ∨ z % 5 = 2 ∨ z % 5 = 3 ∨ z % 5 = 4 := by omega
  rcases this with e | e | e | e | e
  · exact outT_run ft_ok dt_ok (out8_0_5_0 x y z) (asked x y z h g e)
  · exact outT_run ft_ok dt_ok (out8_0_5_1 x y z) (asked x y z h g e)
  · exact outT_run ft_ok dt_ok (out8_0_5_2 x y z) (asked x y z h g e)
  · exact outT_run ft_ok dt_ok (out8_0_5_3 x y z) (asked x y z h g e)
  · exact outT_run ft_ok dt_ok (out8_0_5_4 x y z) (asked x y z h g e)
theorem runs_0_6 (x y z : Int) (h : x % 8 = 0) (g : y % 8 = 6) : ∃ hp', run EE 3001 8 [.fv (.int .i64 x), .fv (.int .i64 y), .fv (.int .i64 z)] ⟨[], []⟩ = some (.fv (.bool true), hp') := by
  have h1 := Int.emod_nonneg z (show (5 : Int) ≠ 0 by decide)
  have h2 := Int.emod_lt_of_pos z (show (0 : Int) < 5 by decide)
  have : z % 5 = 0 ∨ z % 5 = 1 ∨ z % 5 = 2 ∨ z % 5 = 3 ∨ z % 5 = 4 := by omega
  rcases this with e | e | e | e | e
  · exact outT_run ft_ok dt_ok (out8_0_6_0 x y z) (asked x y z h g e)
  · exact outT_run ft_ok dt_ok (out8_0_6_1 x y z) (asked x y z h g e)
  · exact outT_run ft_ok dt_ok (out8_0_6_2 x y z) (asked x y z h g e)
  · exact outT_run ft_ok dt_ok (out8_0_6_3 x y z) (asked x y z h g e)
  · exact outT_run ft_ok dt_ok (out8_0_6_4 x y z) (asked x y z h g e)
theorem runs_0_7 (x y z : Int) (h : x % 8 = 0) (g : y % 8 = 7) : ∃ hp', run EE 3001 8 [.fv (.int .i64 x), .fv (.int .i64 y), .fv (.int .i64 z)] ⟨[], []⟩ = some (.fv (.bool true), hp') := by
  have h1 := Int.emod_nonneg z (show (5 : Int) ≠ 0 by decide)
  have h2 := Int.emod_lt_of_pos z (show (0 : Int) < 5 by decide)
  have : z % 5 = 0 ∨ z % 5 = 1 ∨ z % 5 = 2 ∨ z % 5 = 3 ∨ z % 5 = 4 := by omega
  rcases this with e | e | e | e | e
  · exact outT_run ft_ok dt_ok (out8_0_7_0 x y z) (asked x y z h g e)
  · exact outT_run ft_ok dt_ok (out8_0_7_1 x y z) (asked x y z h g e)
  · exact outT_run ft_ok dt_ok (out8_0_7_2 x y z) (asked x y z h g e)
  · exact outT_run ft_ok dt_ok (out8_0_7_3 x y z) (asked x y z h g e)
  · exact outT_run ft_ok dt_ok (out8_0_7_4 x y z) (asked x y z h g e)
theorem runs_0 (x y z : Int) (h : x % 8 = 0) : ∃ hp', run EE 3001 8 [.fv (.int .i64 x), .fv (.int .i64 y), .fv (.int .i64 z)] ⟨[], []⟩ = some (.fv (.bool true), hp') := by
  have h1 := Int.emod_nonneg y (show (8 : Int) ≠ 0 by decide)
  have h2 := Int.emod_lt_of_pos y (show (0 : Int) < 8 by decide)
  have : y % 8 = 0 ∨ y % 8 = 1 ∨ y % 8 = 2 ∨ y % 8 = 3 ∨ y % 8 = 4 ∨ y % 8 = 5 ∨ y % 8 = 6 ∨ y % 8 = 7 := by omega
  rcases this with g | g | g | g | g | g | g | g
  · exact runs_0_0 x y z h g
  · exact runs_0_1 x y z h g
  · exact runs_0_2 x y z h g
  · exact runs_0_3 x y z h g
  · exact runs_0_4 x y z h g
  · exact runs_0_5 x y z h g
  · exact runs_0_6 x y z h g
  · exact runs_0_7 x y z h g
theorem runs_1_0 (x y z : Int) (h : x % 8 = 1) (g : y % 8 = 0) : ∃ hp', run EE 3001 8 [.fv (.int .i64 x), .fv (.int .i64 y), .fv (.int .i64 z)] ⟨[], []⟩ = some (.fv (.bool true), hp') := by
  have h1 := Int.emod_nonneg z (show (5 : Int) ≠ 0 by decide)
  have h2 := Int.emod_lt_of_pos z (show (0 : Int) < 5 by decide)
  have : z % 5 = 0 ∨ z % 5 = 1 ∨ z % 5 = 2 ∨ z % 5 = 3 ∨ z % 5 = 4 := by omega
  rcases this with e | e | e | e | e
  · exact outT_run ft_ok dt_ok (out8_1_0_0 x y z) (asked x y z h g e)
  · exact outT_run ft_ok dt_ok (out8_1_0_1 x y z) (asked x y z h g e)
  · exact outT_run ft_ok dt_ok (out8_1_0_2 x y z) (asked x y z h g e)
  · exact outT_run ft_ok dt_ok (out8_1_0_3 x y z) (asked x y z h g e)
  · exact outT_run ft_ok dt_ok (out8_1_0_4 x y z) (asked x y z h g e)
theorem runs_1_1 (x y z : Int) (h : x % 8 = 1) (g : y % 8 = 1) : ∃ hp', run EE 3001 8 [.fv (.int .i64 x), .fv (.int .i64 y), .fv (.int .i64 z)] ⟨[], []⟩ = some (.fv (.bool true), hp') := by
  have h1 := Int.emod_nonneg z (show (5 : Int) ≠ 0 by decide)
  have h2 := Int.emod_lt_of_pos z (show (0 : Int) < 5 by decide)
  have : z % 5 = 0 ∨ z % 5 = 1 ∨ z % 5 = 2 ∨ z % 5 = 3 ∨ z % 5 = 4 := by omega
  rcases this with e | e | e | e | e
  · exact outT_run ft_ok dt_ok (out8_1_1_0 x y z) (asked x y z h g e)
  · exact outT_run ft_ok dt_ok (out8_1_1_1 x y z) (asked x y z h g e)
  · exact outT_run ft_ok dt_ok (out8_1_1_2 x y z) (asked x y z h g e)
  · exact outT_run ft_ok dt_ok (out8_1_1_3 x y z) (asked x y z h g e)
  · exact outT_run ft_ok dt_ok (out8_1_1_4 x y z) (asked x y z h g e)
theorem runs_1_2 (x y z : Int) (h : x % 8 = 1) (g : y % 8 = 2) : ∃ hp', run EE 3001 8 [.fv (.int .i64 x), .fv (.int .i64 y), .fv (.int .i64 z)] ⟨[], []⟩ = some (.fv (.bool true), hp') := by
  have h1 := Int.emod_nonneg z (show (5 : Int) ≠ 0 by decide)
  have h2 := Int.emod_lt_of_pos z (show (0 : Int) < 5 by decide)
  have : z % 5 = 0 ∨ z % 5 = 1 ∨ z % 5 = 2 ∨ z % 5 = 3 ∨ z % 5 = 4 := by omega
  rcases this with e | e | e | e | e
  · exact outT_run ft_ok dt_ok (out8_1_2_0 x y z) (asked x y z h g e)
  · exact outT_run ft_ok dt_ok (out8_1_2_1 x y z) (asked x y z h g e)
  · exact outT_run ft_ok dt_ok (out8_1_2_2 x y z) (asked x y z h g e)
  · exact outT_run ft_ok dt_ok (out8_1_2_3 x y z) (asked x y z h g e)
  · exact outT_run ft_ok dt_ok (out8_1_2_4 x y z) (asked x y z h g e)
theorem runs_1_3 (x y z : Int) (h : x % 8 = 1) (g : y % 8 = 3) : ∃ hp', run EE 3001 8 [.fv (.int .i64 x), .fv (.int .i64 y), .fv (.int .i64 z)] ⟨[], []⟩ = some (.fv (.bool true), hp') := by
  have h1 := Int.emod_nonneg z (show (5 : Int) ≠ 0 by decide)
  have h2 := Int.emod_lt_of_pos z (show (0 : Int) < 5 by decide)
  have : z % 5 = 0 ∨ z % 5 = 1 ∨ z % 5 = 2 ∨ z % 5 = 3 ∨ z % 5 = 4 := by omega
  rcases this with e | e | e | e | e
  · exact outT_run ft_ok dt_ok (out8_1_3_0 x y z) (asked x y z h g e)
  · exact outT_run ft_ok dt_ok (out8_1_3_1 x y z) (asked x y z h g e)
  · exact outT_run ft_ok dt_ok (out8_1_3_2 x y z) (asked x y z h g e)
  · exact outT_run ft_ok dt_ok (out8_1_3_3 x y z) (asked x y z h g e)
  · exact outT_run ft_ok dt_ok (out8_1_3_4 x y z) (asked x y z h g e)
theorem runs_1_4 (x y z : Int) (h : x % 8 = 1) (g : y % 8 = 4) : ∃ hp', run EE 3001 8 [.fv (.int .i64 x), .fv (.int .i64 y), .fv (.int .i64 z)] ⟨[], []⟩ = some (.fv (.bool true), hp') := by
  have h1 := Int.emod_nonneg z (show (5 : Int) ≠ 0 by decide)
  have h2 := Int.emod_lt_of_pos z (show (0 : Int) < 5 by decide)
  have : z % 5 = 0 ∨ z % 5 = 1 ∨ z % 5 = 2 ∨ z % 5 = 3 ∨ z % 5 = 4 := by omega
  rcases this with e | e | e | e | e
  · exact outT_run ft_ok dt_ok (out8_1_4_0 x y z) (asked x y z h g e)
  · exact outT_run ft_ok dt_ok (out8_1_4_1 x y z) (asked x y z h g e)
  · exact outT_run ft_ok dt_ok (out8_1_4_2 x y z) (asked x y z h g e)
  · exact outT_run ft_ok dt_ok (out8_1_4_3 x y z) (asked x y z h g e)
  · exact outT_run ft_ok dt_ok (out8_1_4_4 x y z) (asked x y z h g e)
theorem runs_1_5 (x y z : Int) (h : x % 8 = 1) (g : y % 8 = 5) : ∃ hp', run EE 3001 8 [.fv (.int .i64 x), .fv (.int .i64 y), .fv (.int .i64 z)] ⟨[], []⟩ = some (.fv (.bool true), hp') := by
  have h1 := Int.emod_nonneg z (show (5 : Int) ≠ 0 by decide)
  have h2 := Int.emod_lt_of_pos z (show (0 : Int) < 5 by decide)
  have : z % 5 = 0 ∨ z % 5 = 1 ∨ z % 5 = 2 ∨ z % 5 = 3 ∨ z % 5 = 4 := by omega
  rcases this with e | e | e | e | e
  · exact outT_run ft_ok dt_ok (out8_1_5_0 x y z) (asked x y z h g e)
  · exact outT_run ft_ok dt_ok (out8_1_5_1 x y z) (asked x y z h g e)
  · exact outT_run ft_ok dt_ok (out8_1_5_2 x y z) (asked x y z h g e)
  · exact outT_run ft_ok dt_ok (out8_1_5_3 x y z) (asked x y z h g e)
  · exact outT_run ft_ok dt_ok (out8_1_5_4 x y z) (asked x y z h g e)
theorem runs_1_6 (x y z : Int) (h : x % 8 = 1) (g : y % 8 = 6) : ∃ hp', run EE 3001 8 [.fv (.int .i64 x), .fv (.int .i64 y), .fv (.int .i64 z)] ⟨[], []⟩ = some (.fv (.bool true), hp') := by
  have h1 := Int.emod_nonneg z (show (5 : Int) ≠ 0 by decide)
  have h2 := Int.emod_lt_of_pos z (show (0 : Int) < 5 by decide)
  have : z % 5 = 0 ∨ z % 5 = 1 ∨ z % 5 = 2 ∨ z % 5 = 3 ∨ z % 5 = 4 := by omega
  rcases this with e | e | e | e | e
  · exact outT_run ft_ok dt_ok (out8_1_6_0 x y z) (asked x y z h g e)
  · exact outT_run ft_ok dt_ok (out8_1_6_1 x y z) (asked x y z h g e)
  · exact outT_run ft_ok dt_ok (out8_1_6_2 x y z) (asked x y z h g e)
  · exact outT_run ft_ok dt_ok (out8_1_6_3 x y z) (asked x y z h g e)
  · exact outT_run ft_ok dt_ok (out8_1_6_4 x y z) (asked x y z h g e)
theorem runs_1_7 (x y z : Int) (h : x % 8 = 1) (g : y % 8 = 7) : ∃ hp', run EE 3001 8 [.fv (.int .i64 x), .fv (.int .i64 y), .fv (.int .i64 z)] ⟨[], []⟩ = some (.fv (.bool true), hp') := by
  have h1 := Int.emod_nonneg z (show (5 : Int) ≠ 0 by decide)
  have h2 := Int.emod_lt_of_pos z (show (0 : Int) < 5 by decide)
  have : z % 5 = 0 ∨ z % 5 = 1 ∨ z % 5 = 2 ∨ z % 5 = 3 ∨ z % 5 = 4 := by omega
  rcases this with e | e | e | e | e
  · exact outT_run ft_ok dt_ok (out8_1_7_0 x y z) (asked x y z h g e)
  · exact outT_run ft_ok dt_ok (out8_1_7_1 x y z) (asked x y z h g e)
  · exact outT_run ft_ok dt_ok (out8_1_7_2 x y z) (asked x y z h g e)
  · exact outT_run ft_ok dt_ok (out8_1_7_3 x y z) (asked x y z h g e)
  · exact outT_run ft_ok dt_ok (out8_1_7_4 x y z) (asked x y z h g e)
theorem runs_1 (x y z : Int) (h : x % 8 = 1) : ∃ hp', run EE 3001 8 [.fv (.int .i64 x), .fv (.int .i64 y), .fv (.int .i64 z)] ⟨[], []⟩ = some (.fv (.bool true), hp') := by
  have h1 := Int.emod_nonneg y (show (8 : Int) ≠ 0 by decide)
  have h2 := Int.emod_lt_of_pos y (show (0 : Int) < 8 by decide)
  have : y % 8 = 0 ∨ y % 8 = 1 ∨ y % 8 = 2 ∨ y % 8 = 3 ∨ y % 8 = 4 ∨ y % 8 = 5 ∨ y % 8 = 6 ∨ y % 8 = 7 := by omega
  rcases this with g | g | g | g | g | g | g | g
  · exact runs_1_0 x y z h g
  · exact runs_1_1 x y z h g
  · exact runs_1_2 x y z h g
  · exact runs_1_3 x y z h g
  · exact runs_1_4 x y z h g
  · exact runs_1_5 x y z h g
  · exact runs_1_6 x y z h g
  · exact runs_1_7 x y z h g
theorem runs_2_0 (x y z : Int) (h : x % 8 = 2) (g : y % 8 = 0) : ∃ hp', run EE 3001 8 [.fv (.int .i64 x), .fv (.int .i64 y), .fv (.int .i64 z)] ⟨[], []⟩ = some (.fv (.bool true), hp') := by
  have h1 := Int.emod_nonneg z (show (5 : Int) ≠ 0 by decide)
  have h2 := Int.emod_lt_of_pos z (show (0 : Int) < 5 by decide)
  have : z % 5 = 0 ∨ z % 5 = 1 ∨ z % 5 = 2 ∨ z % 5 = 3 ∨ z % 5 = 4 := by omega
  rcases this with e | e | e | e | e
  · exact outT_run ft_ok dt_ok (out8_2_0_0 x y z) (asked x y z h g e)
  · exact outT_run ft_ok dt_ok (out8_2_0_1 x y z) (asked x y z h g e)
  · exact outT_run ft_ok dt_ok (out8_2_0_2 x y z) (asked x y z h g e)
  · exact outT_run ft_ok dt_ok (out8_2_0_3 x y z) (asked x y z h g e)
  · exact outT_run ft_ok dt_ok (out8_2_0_4 x y z) (asked x y z h g e)
theorem runs_2_1 (x y z : Int) (h : x % 8 = 2) (g : y % 8 = 1) : ∃ hp', run EE 3001 8 [.fv (.int .i64 x), .fv (.int .i64 y), .fv (.int .i64 z)] ⟨[], []⟩ = some (.fv (.bool true), hp') := by
  have h1 := Int.emod_nonneg z (show (5 : Int) ≠ 0 by decide)
  have h2 := Int.emod_lt_of_pos z (show (0 : Int) < 5 by decide)
  have : z % 5 = 0 ∨ z % 5 = 1 ∨ z % 5 = 2 ∨ z % 5 = 3 ∨ z % 5 = 4 := by omega
  rcases this with e | e | e | e | e
  · exact outT_run ft_ok dt_ok (out8_2_1_0 x y z) (asked x y z h g e)
  · exact outT_run ft_ok dt_ok (out8_2_1_1 x y z) (asked x y z h g e)
  · exact outT_run ft_ok dt_ok (out8_2_1_2 x y z) (asked x y z h g e)
  · exact outT_run ft_ok dt_ok (out8_2_1_3 x y z) (asked x y z h g e)
  · exact outT_run ft_ok dt_ok (out8_2_1_4 x y z) (asked x y z h g e)
theorem runs_2_2 (x y z : Int) (h : x % 8 = 2) (g : y % 8 = 2) : ∃ hp', run EE 3001 8 [.fv (.int .i64 x), .fv (.int .i64 y), .fv (.int .i64 z)] ⟨[], []⟩ = some (.fv (.bool true), hp') := by
  have h1 := Int.emod_nonneg z (show (5 : Int) ≠ 0 by decide)
  have h2 := Int.emod_lt_of_pos z (show (0 : Int) < 5 by decide)
  have : z % 5 = 0 ∨ z % 5 = 1 ∨ z % 5 = 2 ∨ z % 5 = 3 ∨ z % 5 = 4 := by omega
  rcases this with e | e | e | e | e
  · exact outT_run ft_ok dt_ok (out8_2_2_0 x y z) (asked x y z h g e)
  · exact outT_run ft_ok dt_ok (out8_2_2_1 x y z) (asked x y z h g e)
  · exact outT_run ft_ok dt_ok (out8_2_2_2 x y z) (asked x y z h g e)
  · exact outT_run ft_ok dt_ok (out8_2_2_3 x y z) (asked x y z h g e)
  · exact outT_run ft_ok dt_ok (out8_2_2_4 x y z) (asked x y z h g e)
theorem runs_2_3 (x y z : Int) (h : x % 8 = 2) (g : y % 8 = 3) : ∃ hp', run EE 3001 8 [.fv (.int .i64 x), .fv (.int .i64 y), .fv (.int .i64 z)] ⟨[], []⟩ = some (.fv (.bool true), hp') := by
  have h1 := Int.emod_nonneg z (show (5 : Int) ≠ 0 by decide)
  have h2 := Int.emod_lt_of_pos z (show (0 : Int) < 5 by decide)
  have : z % 5 = 0 ∨ z % 5 = 1 ∨ z % 5 = 2 ∨ z % 5 = 3 ∨ z % 5 = 4 := by omega
  rcases this with e | e | e | e | e
  · exact outT_run ft_ok dt_ok (out8_2_3_0 x y z) (asked x y z h g e)
  · exact outT_run ft_ok dt_ok (out8_2_3_1 x y z) (asked x y z h g e)
  · exact outT_run ft_ok dt_ok (out8_2_3_2 x y z) (asked x y z h g e)
  · exact outT_run ft_ok dt_ok (out8_2_3_3 x y z) (asked x y z h g e)
  · exact outT_run ft_ok dt_ok (out8_2_3_4 x y z) (asked x y z h g e)
theorem runs_2_4 (x y z : Int) (h : x % 8 = 2) (g : y % 8 = 4) : ∃ hp', run EE 3001 8 [.fv (.int .i64 x), .fv (.int .i64 y), .fv (.int .i64 z)] ⟨[], []⟩ = some (.fv (.bool true), hp') := by
  have h1 := Int.emod_nonneg z (show (5 : Int) ≠ 0 by decide)
  have h2 := Int.emod_lt_of_pos z (show (0 : Int) < 5 by decide)
  have : z % 5 = 0 ∨ z % 5 = 1 ∨ z % 5 = 2 ∨ z % 5 = 3 ∨ z % 5 = 4 := by omega
  rcases this with e | e | e | e | e
  · exact outT_run ft_ok dt_ok (out8_2_4_0 x y z) (asked x y z h g e)
  · exact outT_run ft_ok dt_ok (out8_2_4_1 x y z) (asked x y z h g e)
  · exact outT_run ft_ok dt_ok (out8_2_4_2 x y z) (asked x y z h g e)
  · exact outT_run ft_ok dt_ok (out8_2_4_3 x y z) (asked x y z h g e)
  · exact outT_run ft_ok dt_ok (out8_2_4_4 x y z) (asked x y z h g e)
theorem runs_2_5 (x y z : Int) (h : x % 8 = 2) (g : y % 8 = 5) : ∃ hp', run EE 3001 8 [.fv (.int .i64 x), .fv (.int .i64 y), .fv (.int .i64 z)] ⟨[], []⟩ = some (.fv (.bool true), hp') := by
  have h1 := Int.emod_nonneg z (show (5 : Int) ≠ 0 by decide)
  have h2 := Int.emod_lt_of_pos z (show (0 : Int) < 5 by decide)
  have : z % 5 = 0 ∨ z % 5 = 1 ∨ z % 5 = 2 ∨ z % 5 = 3 ∨ z % 5 = 4 := by omega
  rcases this with e | e | e | e | e
  · exact outT_run ft_ok dt_ok (out8_2_5_0 x y z) (asked x y z h g e)
  · exact outT_run ft_ok dt_ok (out8_2_5_1 x y z) (asked x y z h g e)
  · exact outT_run ft_ok dt_ok (out8_2_5_2 x y z) (asked x y z h g e)
  · exact outT_run ft_ok dt_ok (out8_2_5_3 x y z) (asked x y z h g e)
  · exact outT_run ft_ok dt_ok (out8_2_5_4 x y z) (asked x y z h g e)
theorem runs_2_6 (x y z : Int) (h : x % 8 = 2) (g : y % 8 = 6) : ∃ hp', run EE 3001 8 [.fv (.int .i64 x), .fv (.int .i64 y), .fv (.int .i64 z)] ⟨[], []⟩ = some (.fv (.bool true), hp') := by
  have h1 := Int.emod_nonneg z (show (5 : Int) ≠ 0 by decide)
  have h2 := Int.emod_lt_of_pos z (show (0 : Int) < 5 by decide)
  have : z % 5 = 0 ∨ z % 5 = 1 ∨ z % 5 = 2 ∨ z % 5 = 3 ∨ z % 5 = 4 := by omega
  rcases this with e | e | e | e | e
  · exact outT_run ft_ok dt_ok (out8_2_6_0 x y z) (asked x y z h g e)
  · exact outT_run ft_ok dt_ok (out8_2_6_1 x y z) (asked x y z h g e)
  · exact outT_run ft_ok dt_ok (out8_2_6_2 x y z) (asked x y z h g e)
  · exact outT_run ft_ok dt_ok (out8_2_6_3 x y z) (asked x y z h g e)
  · exact outT_run ft_ok dt_ok (out8_2_6_4 x y z) (asked x y z h g e)
theorem runs_2_7 (x y z : Int) (h : x % 8 = 2) (g : y % 8 = 7) : ∃ hp', run EE 3001 8 [.fv (.int .i64 x), .fv (.int .i64 y), .fv (.int .i64 z)] ⟨[], []⟩ = some (.fv (.bool true), hp') := by
  have h1 := Int.emod_nonneg z (show (5 : Int) ≠ 0 by decide)
  have h2 := Int.emod_lt_of_pos z (show (0 : Int) < 5 by decide)
  have : z % 5 = 0 ∨ z % 5 = 1 ∨ z % 5 = 2 ∨ z % 5 = 3 ∨ z % 5 = 4 := by omega
  rcases this with e | e | e | e | e
  · exact outT_run ft_ok dt_ok (out8_2_7_0 x y z) (asked x y z h g e)
  · exact outT_run ft_ok dt_ok (out8_2_7_1 x y z) (asked x y z h g e)
  · exact outT_run ft_ok dt_ok (out8_2_7_2 x y z) (asked x y z h g e)
  · exact outT_run ft_ok dt_ok (out8_2_7_3 x y z) (asked x y z h g e)
  · exact outT_run ft_ok dt_ok (out8_2_7_4 x y z) (asked x y z h g e)
theorem runs_2 (x y z : Int) (h : x % 8 = 2) : ∃ hp', run EE 3001 8 [.fv (.int .i64 x), .fv (.int .i64 y), .fv (.int .i64 z)] ⟨[], []⟩ = some (.fv (.bool true), hp') := by
  have h1 := Int.emod_nonneg y (show (8 : Int) ≠ 0 by decide)
  have h2 := Int.emod_lt_of_pos y (show (0 : Int) < 8 by decide)
  have : y % 8 = 0 ∨ y % 8 = 1 ∨ y % 8 = 2 ∨ y % 8 = 3 ∨ y % 8 = 4 ∨ y % 8 = 5 ∨ y % 8 = 6 ∨ y % 8 = 7 := by omega
  rcases this with g | g | g | g | g | g | g | g
  · exact runs_2_0 x y z h g
  · exact runs_2_1 x y z h g
  · exact runs_2_2 x y z h g
  · exact runs_2_3 x y z h g
  · exact runs_2_4 x y z h g
  · exact runs_2_5 x y z h g
  · exact runs_2_6 x y z h g
  · exact runs_2_7 x y z h g
theorem runs_3_0 (x y z : Int) (h : x % 8 = 3) (g : y % 8 = 0) : ∃ hp', run EE 3001 8 [.fv (.int .i64 x), .fv (.int .i64 y), .fv (.int .i64 z)] ⟨[], []⟩ = some (.fv (.bool true), hp') := by
  have h1 := Int.emod_nonneg z (show (5 : Int) ≠ 0 by decide)
  have h2 := Int.emod_lt_of_pos z (show (0 : Int) < 5 by decide)
  have : z % 5 = 0 ∨ z % 5 = 1 ∨ z % 5 = 2 ∨ z % 5 = 3 ∨ z % 5 = 4 := by omega
  rcases this with e | e | e | e | e
  · exact outT_run ft_ok dt_ok (out8_3_0_0 x y z) (asked x y z h g e)
  · exact outT_run ft_ok dt_ok (out8_3_0_1 x y z) (asked x y z h g e)
  · exact outT_run ft_ok dt_ok (out8_3_0_2 x y z) (asked x y z h g e)
  · exact outT_run ft_ok dt_ok (out8_3_0_3 x y z) (asked x y z h g e)
  · exact outT_run ft_ok dt_ok (out8_3_0_4 x y z) (asked x y z h g e)
theorem runs_3_1 (x y z : Int) (h : x % 8 = 3) (g : y % 8 = 1) : ∃ hp', run EE 3001 8 [.fv (.int .i64 x), .fv (.int .i64 y), .fv (.int .i64 z)] ⟨[], []⟩ = some (.fv (.bool true), hp') := by
  have h1 := Int.emod_nonneg z (show (5 : Int) ≠ 0 by decide)
  have h2 := Int.emod_lt_of_pos z (show (0 : Int) < 5 by decide)
  have : z % 5 = 0 ∨ z % 5 = 1 ∨ z % 5 = 2 ∨ z % 5 = 3 ∨ z % 5 = 4 := by omega
  rcases this with e | e | e | e | e
  · exact outT_run ft_ok dt_ok (out8_3_1_0 x y z) (asked x y z h g e)
  · exact outT_run ft_ok dt_ok (out8_3_1_1 x y z) (asked x y z h g e)
  · exact outT_run ft_ok dt_ok (out8_3_1_2 x y z) (asked x y z h g e)
  · exact outT_run ft_ok dt_ok (out8_3_1_3 x y z) (asked x y z h g e)
  · exact outT_run ft_ok dt_ok (out8_3_1_4 x y z) (asked x y z h g e)
theorem runs_3_2 (x y z : Int) (h : x % 8 = 3) (g : y % 8 = 2) : ∃ hp', run EE 3001 8 [.fv (.int .i64 x), .fv (.int .i64 y), .fv (.int .i64 z)] ⟨[], []⟩ = some (.fv (.bool true), hp') := by
  have h1 := Int.emod_nonneg z (show (5 : Int) ≠ 0 by decide)
  have h2 := Int.emod_lt_of_pos z (show (0 : Int) < 5 by decide)
  have : z % 5 = 0 ∨ z % 5 = 1 ∨ z % 5 = 2 ∨ z % 5 = 3 ∨ z % 5 = 4 := by omega
  rcases this with e | e | e | e | e
  · exact outT_run ft_ok dt_ok (out8_3_2_0 x y z) (asked x y z h g e)
  · exact outT_run ft_ok dt_ok (out8_3_2_1 x y z) (asked x y z h g e)
  · exact outT_run ft_ok dt_ok (out8_3_2_2 x y z) (asked x y z h g e)
  · exact outT_run ft_ok dt_ok (out8_3_2_3 x y z) (asked x y z h g e)
  · exact outT_run ft_ok dt_ok (out8_3_2_4 x y z) (asked x y z h g e)
theorem runs_3_3 (x y z : Int) (h : x % 8 = 3) (g : y % 8 = 3) : ∃ hp', run EE 3001 8 [.fv (.int .i64 x), .fv (.int .i64 y), .fv (.int .i64 z)] ⟨[], []⟩ = some (.fv (.bool true), hp') := by
  have h1 := Int.emod_nonneg z (show (5 : Int) ≠ 0 by decide)
  have h2 := Int.emod_lt_of_pos z (show (0 : Int) < 5 by decide)
  have : z % 5 = 0 ∨ z % 5 = 1 ∨ z % 5 = 2 ∨ z % 5 = 3 ∨ z % 5 = 4 := by omega
  rcases this with e | e | e | e | e
  · exact outT_run ft_ok dt_ok (out8_3_3_0 x y z) (asked x y z h g e)
  · exact outT_run ft_ok dt_ok (out8_3_3_1 x y z) (asked x y z h g e)
  · exact outT_run ft_ok dt_ok (out8_3_3_2 x y z) (asked x y z h g e)
  · exact outT_run ft_ok dt_ok (out8_3_3_3 x y z) (asked x y z h g e)
  · exact outT_run ft_ok dt_ok (out8_3_3_4 x y z) (asked x y z h g e)
theorem runs_3_4 (x y z : Int) (h : x % 8 = 3) (g : y % 8 = 4) : ∃ hp', run EE 3001 8 [.fv (.int .i64 x), .fv (.int .i64 y), .fv (.int .i64 z)] ⟨[], []⟩ = some (.fv (.bool true), hp') := by
  have h1 := Int.emod_nonneg z (show (5 : Int) ≠ 0 by decide)
  have h2 := Int.emod_lt_of_pos z (show (0 : Int) < 5 by decide)
  have : z % 5 = 0 ∨ z % 5 = 1 ∨ z % 5 = 2 ∨ z % 5 = 3 ∨ z % 5 = 4 := by omega
  rcases this with e | e | e | e | e
  · exact outT_run ft_ok dt_ok (out8_3_4_0 x y z) (asked x y z h g e)
  · exact outT_run ft_ok dt_ok (out8_3_4_1 x y z) (asked x y z h g e)
  · exact outT_run ft_ok dt_ok (out8_3_4_2 x y z) (asked x y z h g e)
  · exact outT_run ft_ok dt_ok (out8_3_4_3 x y z) (asked x y z h g e)
  · exact outT_run ft_ok dt_ok (out8_3_4_4 x y z) (asked x y z h g e)
theorem runs_3_5 (x y z : Int) (h : x % 8 = 3) (g : y % 8 = 5) : ∃ hp', run EE 3001 8 [.fv (.int .i64 x), .fv (.int .i64 y), .fv (.int .i64 z)] ⟨[], []⟩ = some (.fv (.bool true), hp') := by
  have h1 := Int.emod_nonneg z (show (5 : Int) ≠ 0 by decide)
  have h2 := Int.emod_lt_of_pos z (show (0 : Int) < 5 by decide)
  have : z % 5 = 0 ∨ z % 5 = 1 ∨ z % 5 = 2 ∨ z % 5 = 3 ∨ z % 5 = 4 := by omega
  rcases this with e | e | e | e | e
  · exact outT_run ft_ok dt_ok (out8_3_5_0 x y z) (asked x y z h g e)
  · exact outT_run ft_ok dt_ok (out8_3_5_1 x y z) (asked x y z h g e)
  · exact outT_run ft_ok dt_ok (out8_3_5_2 x y z) (asked x y z h g e)
  · exact outT_run ft_ok dt_ok (out8_3_5_3 x y z) (asked x y z h g e)
  · exact outT_run ft_ok dt_ok (out8_3_5_4 x y z) (asked x y z h g e)
theorem runs_3_6 (x y z : Int) (h : x % 8 = 3) (g : y % 8 = 6) : ∃ hp', run EE 3001 8 [.fv (.int .i64 x), .fv (.int .i64 y), .fv (.int .i64 z)] ⟨[], []⟩ = some (.fv (.bool true), hp') := by
  have h1 := Int.emod_nonneg z (show (5 : Int) ≠ 0 by decide)
  have h2 := Int.emod_lt_of_pos z (show (0 : Int) < 5 by decide)
  have : z % 5 = 0 ∨ z % 5 = 1 ∨ z % 5 = 2 ∨ z % 5 = 3 ∨ z % 5 = 4 := by omega
  rcases this with e | e | e | e | e
  · exact outT_run ft_ok dt_ok (out8_3_6_0 x y z) (asked x y z h g e)
  · exact outT_run ft_ok dt_ok (out8_3_6_1 x y z) (asked x y z h g e)
  · exact outT_run ft_ok dt_ok (out8_3_6_2 x y z) (asked x y z h g e)
  · exact outT_run ft_ok dt_ok (out8_3_6_3 x y z) (asked x y z h g e)
  · exact outT_run ft_ok dt_ok (out8_3_6_4 x y z) (asked x y z h g e)
theorem runs_3_7 (x y z : Int) (h : x % 8 = 3) (g : y % 8 = 7) : ∃ hp', run EE 3001 8 [.fv (.int .i64 x), .fv (.int .i64 y), .fv (.int .i64 z)] ⟨[], []⟩ = some (.fv (.bool true), hp') := by
  have h1 := Int.emod_nonneg z (show (5 : Int) ≠ 0 by decide)
  have h2 := Int.emod_lt_of_pos z (show (0 : Int) < 5 by decide)
  have : z % 5 = 0 ∨ z % 5 = 1 ∨ z % 5 = 2 ∨ z % 5 = 3 ∨ z % 5 = 4 := by omega
  rcases this with e | e | e | e | e
  · exact outT_run ft_ok dt_ok (out8_3_7_0 x y z) (asked x y z h g e)
  · exact outT_run ft_ok dt_ok (out8_3_7_1 x y z) (asked x y z h g e)
  · exact outT_run ft_ok dt_ok (out8_3_7_2 x y z) (asked x y z h g e)
  · exact outT_run ft_ok dt_ok (out8_3_7_3 x y z) (asked x y z h g e)
  · exact outT_run ft_ok dt_ok (out8_3_7_4 x y z) (asked x y z h g e)
theorem runs_3 (x y z : Int) (h : x % 8 = 3) : ∃ hp', run EE 3001 8 [.fv (.int .i64 x), .fv (.int .i64 y), .fv (.int .i64 z)] ⟨[], []⟩ = some (.fv (.bool true), hp') := by
  have h1 := Int.emod_nonneg y (show (8 : Int) ≠ 0 by decide)
  have h2 := Int.emod_lt_of_pos y (show (0 : Int) < 8 by decide)
  have : y % 8 = 0 ∨ y % 8 = 1 ∨ y % 8 = 2 ∨ y % 8 = 3 ∨ y % 8 = 4 ∨ y % 8 = 5 ∨ y % 8 = 6 ∨ y % 8 = 7 := by omega
  rcases this with g | g | g | g | g | g | g | g
  · exact runs_3_0 x y z h g
  · exact runs_3_1 x y z h g
  · exact runs_3_2 x y z h g
  · exact runs_3_3 x y z h g
  · exact runs_3_4 x y z h g
  · exact runs_3_5 x y z h g
  · exact runs_3_6 x y z h g
  · exact runs_3_7 x y z h g
theorem runs_4_0 (x y z : Int) (h : x % 8 = 4) (g : y % 8 = 0) : ∃ hp', run EE 3001 8 [.fv (.int .i64 x), .fv (.int .i64 y), .fv (.int .i64 z)] ⟨[], []⟩ = some (.fv (.bool true), hp') := by
  have h1 := Int.emod_nonneg z (show (5 : Int) ≠ 0 by decide)
  have h2 := Int.emod_lt_of_pos z (show (0 : Int) < 5 by decide)
  have : z % 5 = 0 ∨ z % 5 = 1 ∨ z % 5 = 2 ∨ z % 5 = 3 ∨ z % 5 = 4 := by omega
  rcases this with e | e | e | e | e
  · exact outT_run ft_ok dt_ok (out8_4_0_0 x y z) (asked x y z h g e)
  · exact outT_run ft_ok dt_ok (out8_4_0_1 x y z) (asked x y z h g e)
  · exact outT_run ft_ok dt_ok (out8_4_0_2 x y z) (asked x y z h g e)
  · exact outT_run ft_ok dt_ok (out8_4_0_3 x y z) (asked x y z h g e)
  · exact outT_run ft_ok dt_ok (out8_4_0_4 x y z) (asked x y z h g e)
theorem runs_4_1 (x y z : Int) (h : x % 8 = 4) (g : y % 8 = 1) : ∃ hp', run EE 3001 8 [.fv (.int .i64 x), .fv (.int .i64 y), .fv (.int .i64 z)] ⟨[], []⟩ = some (.fv (.bool true), hp') := by
  have h1 := Int.emod_nonneg z (show (5 : Int) ≠ 0 by decide)
  have h2 := Int.emod_lt_of_pos z (show (0 : Int) < 5 by decide)
  have : z % 5 = 0 ∨ z % 5 = 1 ∨ z % 5 = 2 ∨ z % 5 = 3 ∨ z % 5 = 4 := by omega
  rcases this with e | e | e | e | e
  · exact outT_run ft_ok dt_ok (out8_4_1_0 x y z) (asked x y z h g e)
  · exact outT_run ft_ok dt_ok (out8_4_1_1 x y z) (asked x y z h g e)
  · exact outT_run ft_ok dt_ok (out8_4_1_2 x y z) (asked x y z h g e)
  · exact outT_run ft_ok dt_ok (out8_4_1_3 x y z) (asked x y z h g e)
  · exact outT_run ft_ok dt_ok (out8_4_1_4 x y z) (asked x y z h g e)
theorem runs_4_2 (x y z : Int) (h : x % 8 = 4) (g : y % 8 = 2) : ∃ hp', run EE 3001 8 [.fv (.int .i64 x), .fv (.int .i64 y), .fv (.int .i64 z)] ⟨[], []⟩ = some (.fv (.bool true), hp') := by
  have h1 := Int.emod_nonneg z (show (5 : Int) ≠ 0 by decide)
  have h2 := Int.emod_lt_of_pos z (show (0 : Int) < 5 by decide)
  have : z % 5 = 0 ∨ z % 5 = 1 ∨ z % 5 = 2 ∨ z % 5 = 3 ∨ z % 5 = 4 := by omega
  rcases this with e | e | e | e | e
  · exact outT_run ft_ok dt_ok (out8_4_2_0 x y z) (asked x y z h g e)
  · exact outT_run ft_ok dt_ok (out8_4_2_1 x y z) (asked x y z h g e)
  · exact outT_run ft_ok dt_ok (out8_4_2_2 x y z) (asked x y z h g e)
  · exact outT_run ft_ok dt_ok (out8_4_2_3 x y z) (asked x y z h g e)
  · exact outT_run ft_ok dt_ok (out8_4_2_4 x y z) (asked x y z h g e)
theorem runs_4_3 (x y z : Int) (h : x % 8 = 4) (g : y % 8 = 3) : ∃ hp', run EE 3001 8 [.fv (.int .i64 x), .fv (.int .i64 y), .fv (.int .i64 z)] ⟨[], []⟩ = some (.fv (.bool true), hp') := by
  have h1 := Int.emod_nonneg z (show (5 : Int) ≠ 0 by decide)
  have h2 := Int.emod_lt_of_pos z (show (0 : Int) < 5 by decide)
  have : z % 5 = 0 ∨ z % 5 = 1 ∨ z % 5 = 2 ∨ z % 5 = 3 ∨ z % 5 = 4 := by omega
  rcases this with e | e | e | e | e
  · exact outT_run ft_ok dt_ok (out8_4_3_0 x y z) (asked x y z h g e)
  · exact outT_run ft_ok dt_ok (out8_4_3_1 x y z) (asked x y z h g e)
  · exact outT_run ft_ok dt_ok (out8_4_3_2 x y z) (asked x y z h g e)
  · exact outT_run ft_ok dt_ok (out8_4_3_3 x y z) (asked x y z h g e)
  · exact outT_run ft_ok dt_ok (out8_4_3_4 x y z) (asked x y z h g e)
theorem runs_4_4 (x y z : Int) (h : x % 8 = 4) (g : y % 8 = 4) : ∃ hp', run EE 3001 8 [.fv (.int .i64 x), .fv (.int .i64 y), .fv (.int .i64 z)] ⟨[], []⟩ = some (.fv (.bool true), hp') := by
  have h1 := Int.emod_nonneg z (show (5 : Int) ≠ 0 by decide)
  have h2 := Int.emod_lt_of_pos z (show (0 : Int) < 5 by decide)
  have : z % 5 = 0 ∨ z % 5 = 1 ∨ z % 5 = 2 ∨ z % 5 = 3 ∨ z % 5 = 4 := by omega
  rcases this with e | e | e | e | e
  · exact outT_run ft_ok dt_ok (out8_4_4_0 x y z) (asked x y z h g e)
  · exact outT_run ft_ok dt_ok (out8_4_4_1 x y z) (asked x y z h g e)
  · exact outT_run ft_ok dt_ok (out8_4_4_2 x y z) (asked x y z h g e)
  · exact outT_run ft_ok dt_ok (out8_4_4_3 x y z) (asked x y z h g e)
  · exact outT_run ft_ok dt_ok (out8_4_4_4 x y z) (asked x y z h g e)
theorem runs_4_5 (x y z : Int) (h : x % 8 = 4) (g : y % 8 = 5) : ∃ hp', run EE 3001 8 [.fv (.int .i64 x), .fv (.int .i64 y), .fv (.int .i64 z)] ⟨[], []⟩ = some (.fv (.bool true), hp') := by
  have h1 := Int.emod_nonneg z (show (5 : Int) ≠ 0 by decide)
  have h2 := Int.emod_lt_of_pos z (show (0 : Int) < 5 by decide)
  have : z % 5 = 0 ∨ z % 5 = 1 ∨ z % 5 = 2 ∨ z % 5 = 3 ∨ z % 5 = 4 := by omega
  rcases this with e | e | e | e | e
  · exact outT_run ft_ok dt_ok (out8_4_5_0 x y z) (asked x y z h g e)
  · exact outT_run ft_ok dt_ok (out8_4_5_1 x y z) (asked x y z h g e)
  · exact outT_run ft_ok dt_ok (out8_4_5_2 x y z) (asked x y z h g e)
  · exact outT_run ft_ok dt_ok (out8_4_5_3 x y z) (asked x y z h g e)
  · exact outT_run ft_ok dt_ok (out8_4_5_4 x y z) (asked x y z h g e)
theorem runs_4_6 (x y z : Int) (h : x % 8 = 4) (g : y % 8 = 6) : ∃ hp', run EE 3001 8 [.fv (.int .i64 x), .fv (.int .i64 y), .fv (.int .i64 z)] ⟨[], []⟩ = some (.fv (.bool true), hp') := by
  have h1 := Int.emod_nonneg z (show (5 : Int) ≠ 0 by decide)
  have h2 := Int.emod_lt_of_pos z (show (0 : Int) < 5 by decide)
  have : z % 5 = 0 ∨ z % 5 = 1 ∨ z % 5 = 2 ∨ z % 5 = 3 ∨ z % 5 = 4 := by omega
  rcases this with e | e | e | e | e
  · exact outT_run ft_ok dt_ok (out8_4_6_0 x y z) (asked x y z h g e)
  · exact outT_run ft_ok dt_ok (out8_4_6_1 x y z) (asked x y z h g e)
  · exact outT_run ft_ok dt_ok (out8_4_6_2 x y z) (asked x y z h g e)
  · exact outT_run ft_ok dt_ok (out8_4_6_3 x y z) (asked x y z h g e)
  · exact outT_run ft_ok dt_ok (out8_4_6_4 x y z) (asked x y z h g e)
theorem runs_4_7 (x y z : Int) (h : x % 8 = 4) (g : y % 8 = 7) : ∃ hp', run EE 3001 8 [.fv (.int .i64 x), .fv (.int .i64 y), .fv (.int .i64 z)] ⟨[], []⟩ = some (.fv (.bool true), hp') := by
  have h1 := Int.emod_nonneg z (show (5 : Int) ≠ 0 by decide)
  have h2 := Int.emod_lt_of_pos z (show (0 : Int) < 5 by decide)
  have : z % 5 = 0 ∨ z % 5 = 1 ∨ z % 5 = 2 ∨ z % 5 = 3 ∨ z % 5 = 4 := by omega
  rcases this with e | e | e | e | e
  · exact outT_run ft_ok dt_ok (out8_4_7_0 x y z) (asked x y z h g e)
  · exact outT_run ft_ok dt_ok (out8_4_7_1 x y z) (asked x y z h g e)
  · exact outT_run ft_ok dt_ok (out8_4_7_2 x y z) (asked x y z h g e)
  · exact outT_run ft_ok dt_ok (out8_4_7_3 x y z) (asked x y z h g e)
  · exact outT_run ft_ok dt_ok (out8_4_7_4 x y z) (asked x y z h g e)
theorem runs_4 (x y z : Int) (h : x % 8 = 4) : ∃ hp', run EE 3001 8 [.fv (.int .i64 x), .fv (.int .i64 y), .fv (.int .i64 z)] ⟨[], []⟩ = some (.fv (.bool true), hp') := by
  have h1 := Int.emod_nonneg y (show (8 : Int) ≠ 0 by decide)
  have h2 := Int.emod_lt_of_pos y (show (0 : Int) < 8 by decide)
  have : y % 8 = 0 ∨ y % 8 = 1 ∨ y % 8 = 2 ∨ y % 8 = 3 ∨ y % 8 = 4 ∨ y % 8 = 5 ∨ y % 8 = 6 ∨ y % 8 = 7 := by omega
  rcases this with g | g | g | g | g | g | g | g
  · exact runs_4_0 x y z h g
  · exact runs_4_1 x y z h g
  · exact runs_4_2 x y z h g
  · exact runs_4_3 x y z h g
  · exact runs_4_4 x y z h g
  · exact runs_4_5 x y z h g
  · exact runs_4_6 x y z h g
  · exact runs_4_7 x y z h g
theorem runs_5_0 (x y z : Int) (h : x % 8 = 5) (g : y % 8 = 0) : ∃ hp', run EE 3001 8 [.fv (.int .i64 x), .fv (.int .i64 y), .fv (.int .i64 z)] ⟨[], []⟩ = some (.fv (.bool true), hp') := by
  have h1 := Int.emod_nonneg z (show (5 : Int) ≠ 0 by decide)
  have h2 := Int.emod_lt_of_pos z (show (0 : Int) < 5 by decide)
  have : z % 5 = 0 ∨ z % 5 = 1 ∨ z % 5 = 2 ∨ z % 5 = 3 ∨ z % 5 = 4 := by omega
  rcases this with e | e | e | e | e
  · exact outT_run ft_ok dt_ok (out8_5_0_0 x y z) (asked x y z h g e)
  · exact outT_run ft_ok dt_ok (out8_5_0_1 x y z) (asked x y z h g e)
  · exact outT_run ft_ok dt_ok (out8_5_0_2 x y z) (asked x y z h g e)
  · exact outT_run ft_ok dt_ok (out8_5_0_3 x y z) (asked x y z h g e)
  · exact outT_run ft_ok dt_ok (out8_5_0_4 x y z) (asked x y z h g e)
theorem runs_5_1 (x y z : Int) (h : x % 8 = 5) (g : y % 8 = 1) : ∃ hp', run EE 3001 8 [.fv (.int .i64 x), .fv (.int .i64 y), .fv (.int .i64 z)] ⟨[], []⟩ = some (.fv (.bool true), hp') := by
  have h1 := Int.emod_nonneg z (show (5 : Int) ≠ 0 by decide)
  have h2 := Int.emod_lt_of_pos z (show (0 : Int) < 5 by decide)
  have : z % 5 = 0 ∨ z % 5 = 1 ∨ z % 5 = 2 ∨ z % 5 = 3 ∨ z % 5 = 4 := by omega
  rcases this with e | e | e | e | e
  · exact outT_run ft_ok dt_ok (out8_5_1_0 x y z) (asked x y z h g e)
  · exact outT_run ft_ok dt_ok (out8_5_1_1 x y z) (asked x y z h g e)
  · exact outT_run ft_ok dt_ok (out8_5_1_2 x y z) (asked x y z h g e)
  · exact outT_run ft_ok dt_ok (out8_5_1_3 x y z) (asked x y z h g e)
  · exact outT_run ft_ok dt_ok (out8_5_1_4 x y z) (asked x y z h g e)
theorem runs_5_2 (x y z : Int) (h : x % 8 = 5) (g : y % 8 = 2) : ∃ hp', run EE 3001 8 [.fv (.int .i64 x), .fv (.int .i64 y), .fv (.int .i64 z)] ⟨[], []⟩ = some (.fv (.bool true), hp') := by
  have h1 := Int.emod_nonneg z (show (5 : Int) ≠ 0 by decide)
  have h2 := Int.emod_lt_of_pos z (show (0 : Int) < 5 by decide)
  have : z % 5 = 0 ∨ z % 5 = 1 ∨ z % 5 = 2 ∨ z % 5 = 3 ∨ z % 5 = 4 := by omega
  rcases this with e | e | e | e | e
  · exact outT_run ft_ok dt_ok (out8_5_2_0 x y z) (asked x y z h g e)
  · exact outT_run ft_ok dt_ok (out8_5_2_1 x y z) (asked x y z h g e)
  · exact outT_run ft_ok dt_ok (out8_5_2_2 x y z) (asked x y z h g e)
  · exact outT_run ft_ok dt_ok (out8_5_2_3 x y z) (asked x y z h g e)
  · exact outT_run ft_ok dt_ok (out8_5_2_4 x y z) (asked x y z h g e)
theorem runs_5_3 (x y z : Int) (h : x % 8 = 5) (g : y % 8 = 3) : ∃ hp', run EE 3001 8 [.fv (.int .i64 x), .fv (.int .i64 y), .fv (.int .i64 z)] ⟨[], []⟩ = some (.fv (.bool true), hp') := by
  have h1 := Int.emod_nonneg z (show (5 : Int) ≠ 0 by decide)
  have h2 := Int.emod_lt_of_pos z (show (0 : Int) < 5 by decide)
  have : z % 5 = 0 ∨ z % 5 = 1 ∨ z % 5 = 2 ∨ z % 5 = 3 ∨ z % 5 = 4 := by omega
  rcases this with e | e | e | e | e
  · exact outT_run ft_ok dt_ok (out8_5_3_0 x y z) (asked x y z h g e)
  · exact outT_run ft_ok dt_ok (out8_5_3_1 x y z) (asked x y z h g e)
  · exact outT_run ft_ok dt_ok (out8_5_3_2 x y z) (asked x y z h g e)
  · exact outT_run ft_ok dt_ok (out8_5_3_3 x y z) (asked x y z h g e)
  · exact outT_run ft_ok dt_ok (out8_5_3_4 x y z) (asked x y z h g e)
theorem runs_5_4 (x y z : Int) (h : x % 8 = 5) (g : y % 8 = 4) : ∃ hp', run EE 3001 8 [.fv (.int .i64 x), .fv (.int .i64 y), .fv (.int .i64 z)] ⟨[], []⟩ = some (.fv (.bool true), hp') := by
  have h1 := Int.emod_nonneg z (show (5 : Int) ≠ 0 by decide)
  have h2 := Int.emod_lt_of_pos z (show (0 : Int) < 5 by decide)
  have : z % 5 = 0 ∨ z % 5 = 1 ∨ z % 5 = 2 ∨ z % 5 = 3 ∨ z % 5 = 4 := by omega
  rcases this with e | e | e | e | e
  · exact outT_run ft_ok dt_ok (out8_5_4_0 x y z) (asked x y z h g e)
  · exact outT_run ft_ok dt_ok (out8_5_4_1 x y z) (asked x y z h g e)
  · exact outT_run ft_ok dt_ok (out8_5_4_2 x y z) (asked x y z h g e)
  · exact outT_run ft_ok dt_ok (out8_5_4_3 x y z) (asked x y z h g e)
  · exact outT_run ft_ok dt_ok (out8_5_4_4 x y z) (asked x y z h g e)
theorem runs_5_5 (x y z : Int) (h : x % 8 = 5) (g : y % 8 = 5) : ∃ hp', run EE 3001 8 [.fv (.int .i64 x), .fv (.int .i64 y), .fv (.int .i64 z)] ⟨[], []⟩ = some (.fv (.bool true), hp') := by
  have h1 := Int.emod_nonneg z (show (5 : Int) ≠ 0 by decide)
  have h2 := Int.emod_lt_of_pos z (show (0 : Int) < 5 by decide)
  have : z % 5 = 0 ∨ z % 5 = 1 ∨ z % 5 = 2 ∨ z % 5 = 3 ∨ z % 5 = 4 := by omega
  rcases this with e | e | e | e | e
  · exact outT_run ft_ok dt_ok (out8_5_5_0 x y z) (asked x y z h g e)
  · exact outT_run ft_ok dt_ok (out8_5_5_1 x y z) (asked x y z h g e)
  · exact outT_run ft_ok dt_ok (out8_5_5_2 x y z) (asked x y z h g e)
  · exact outT_run ft_ok dt_ok (out8_5_5_3 x y z) (asked x y z h g e)
  · exact outT_run ft_ok dt_ok (out8_5_5_4 x y z) (asked x y z h g e)
theorem runs_5_6 (x y z : Int) (h : x % 8 = 5) (g : y % 8 = 6) : ∃ hp', run EE 3001 8 [.fv (.int .i64 x), .fv (.int .i64 y), .fv (.int .i64 z)] ⟨[], []⟩ = some (.fv (.bool true), hp') := by
  have h1 := Int.emod_nonneg z (show (5 : Int) ≠ 0 by decide)
  have h2 := Int.emod_lt_of_pos z (show (0 : Int) < 5 by decide)
  have : z % 5 = 0 ∨ z % 5 = 1 ∨ z % 5 = 2 ∨ z % 5 = 3 ∨ z % 5 = 4 := by omega
  rcases this with e | e | e | e | e
  · exact outT_run ft_ok dt_ok (out8_5_6_0 x y z) (asked x y z h g e)
  · exact outT_run ft_ok dt_ok (out8_5_6_1 x y z) (asked x y z h g e)
  · exact outT_run ft_ok dt_ok (out8_5_6_2 x y z) (asked x y z h g e)
  · exact outT_run ft_ok dt_ok (out8_5_6_3 x y z) (asked x y z h g e)
  · exact outT_run ft_ok dt_ok (out8_5_6_4 x y z) (asked x y z h g e)
theorem runs_5_7 (x y z : Int) (h : x % 8 = 5) (g : y % 8 = 7) : ∃ hp', run EE 3001 8 [.fv (.int .i64 x), .fv (.int .i64 y), .fv (.int .i64 z)] ⟨[], []⟩ = some (.fv (.bool true), hp') := by
  have h1 := Int.emod_nonneg z (show (5 : Int) ≠ 0 by decide)
  have h2 := Int.emod_lt_of_pos z (show (0 : Int) < 5 by decide)
  have : z % 5 = 0 ∨ z % 5 = 1 ∨ z % 5 = 2 ∨ z % 5 = 3 ∨ z % 5 = 4 := by omega
  rcases this with e | e | e | e | e
  · exact outT_run ft_ok dt_ok (out8_5_7_0 x y z) (asked x y z h g e)
  · exact outT_run ft_ok dt_ok (out8_5_7_1 x y z) (asked x y z h g e)
  · exact outT_run ft_ok dt_ok (out8_5_7_2 x y z) (asked x y z h g e)
  · exact outT_run ft_ok dt_ok (out8_5_7_3 x y z) (asked x y z h g e)
  · exact outT_run ft_ok dt_ok (out8_5_7_4 x y z) (asked x y z h g e)
theorem runs_5 (x y z : Int) (h : x % 8 = 5) : ∃ hp', run EE 3001 8 [.fv (.int .i64 x), .fv (.int .i64 y), .fv (.int .i64 z)] ⟨[], []⟩ = some (.fv (.bool true), hp') := by
  have h1 := Int.emod_nonneg y (show (8 : Int) ≠ 0 by decide)
  have h2 := Int.emod_lt_of_pos y (show (0 : Int) < 8 by decide)
  have : y % 8 = 0 ∨ y % 8 = 1 ∨ y % 8 = 2 ∨ y % 8 = 3 ∨ y % 8 = 4 ∨ y % 8 = 5 ∨ y % 8 = 6 ∨ y % 8 = 7 := by omega
  rcases this with g | g | g | g | g | g | g | g
  · exact runs_5_0 x y z h g
  · exact runs_5_1 x y z h g
  · exact runs_5_2 x y z h g
  · exact runs_5_3 x y z h g
  · exact runs_5_4 x y z h g
  · exact runs_5_5 x y z h g
  · exact runs_5_6 x y z h g
  · exact runs_5_7 x y z h g
theorem runs_6_0 (x y z : Int) (h : x % 8 = 6) (g : y % 8 = 0) : ∃ hp', run EE 3001 8 [.fv (.int .i64 x), .fv (.int .i64 y), .fv (.int .i64 z)] ⟨[], []⟩ = some (.fv (.bool true), hp') := by
  have h1 := Int.emod_nonneg z (show (5 : Int) ≠ 0 by decide)
  have h2 := Int.emod_lt_of_pos z (show (0 : Int) < 5 by decide)
  have : z % 5 = 0 ∨ z % 5 = 1 ∨ z % 5 = 2 ∨ z % 5 = 3 ∨ z % 5 = 4 := by omega
  rcases this with e | e | e | e | e
  · exact outT_run ft_ok dt_ok (out8_6_0_0 x y z) (asked x y z h g e)
  · exact outT_run ft_ok dt_ok (out8_6_0_1 x y z) (asked x y z h g e)
  · exact outT_run ft_ok dt_ok (out8_6_0_2 x y z) (asked x y z h g e)
  · exact outT_run ft_ok dt_ok (out8_6_0_3 x y z) (asked x y z h g e)
  · exact outT_run ft_ok dt_ok (out8_6_0_4 x y z) (asked x y z h g e)
theorem runs_6_1 (x y z : Int) (h : x % 8 = 6) (g : y % 8 = 1) : ∃ hp', run EE 3001 8 [.fv (.int .i64 x), .fv (.int .i64 y), .fv (.int .i64 z)] ⟨[], []⟩ = some (.fv (.bool true), hp') := by
  have h1 := Int.emod_nonneg z (show (5 : Int) ≠ 0 by decide)
  have h2 := Int.emod_lt_of_pos z (show (0 : Int) < 5 by decide)
  have : z % 5 = 0 ∨ z % 5 = 1 ∨ z % 5 = 2 ∨ z % 5 = 3 ∨ z % 5 = 4 := by omega
  rcases this with e | e | e | e | e
  · exact outT_run ft_ok dt_ok (out8_6_1_0 x y z) (asked x y z h g e)
  · exact outT_run ft_ok dt_ok (out8_6_1_1 x y z) (asked x y z h g e)
  · exact outT_run ft_ok dt_ok (out8_6_1_2 x y z) (asked x y z h g e)
  · exact outT_run ft_ok dt_ok (out8_6_1_3 x y z) (asked x y z h g e)
  · exact outT_run ft_ok dt_ok (out8_6_1_4 x y z) (asked x y z h g e)
theorem runs_6_2 (x y z : Int) (h : x % 8 = 6) (g : y % 8 = 2) : ∃ hp', run EE 3001 8 [.fv (.int .i64 x), .fv (.int .i64 y), .fv (.int .i64 z)] ⟨[], []⟩ = some (.fv (.bool true), hp') := by
  have h1 := Int.emod_nonneg z (show (5 : Int) ≠ 0 by decide)
  have h2 := Int.emod_lt_of_pos z (show (0 : Int) < 5 by decide)
  have : z % 5 = 0 ∨ z % 5 = 1 ∨ z % 5 = 2 ∨ z % 5 = 3 ∨ z % 5 = 4 := by omega
  rcases this with e | e | e | e | e
  · exact outT_run ft_ok dt_ok (out8_6_2_0 x y z) (asked x y z h g e)
  · exact outT_run ft_ok dt_ok (out8_6_2_1 x y z) (asked x y z h g e)
  · exact outT_run ft_ok dt_ok (out8_6_2_2 x y z) (asked x y z h g e)
  · exact outT_run ft_ok dt_ok (out8_6_2_3 x y z) (asked x y z h g e)
  · exact outT_run ft_ok dt_ok (out8_6_2_4 x y z) (asked x y z h g e)
theorem runs_6_3 (x y z : Int) (h : x % 8 = 6) (g : y % 8 = 3) : ∃ hp', run EE 3001 8 [.fv (.int .i64 x), .fv (.int .i64 y), .fv (.int .i64 z)] ⟨[], []⟩ = some (.fv (.bool true), hp') := by
  have h1 := Int.emod_nonneg z (show (5 : Int) ≠ 0 by decide)
  have h2 := Int.emod_lt_of_pos z (show (0 : Int) < 5 by decide)
  have : z % 5 = 0 ∨ z % 5 = 1 ∨ z % 5 = 2 ∨ z % 5 = 3 ∨ z % 5 = 4 := by omega
  rcases this with e | e | e | e | e
  · exact outT_run ft_ok dt_ok (out8_6_3_0 x y z) (asked x y z h g e)
  · exact outT_run ft_ok dt_ok (out8_6_3_1 x y z) (asked x y z h g e)
  · exact outT_run ft_ok dt_ok (out8_6_3_2 x y z) (asked x y z h g e)
  · exact outT_run ft_ok dt_ok (out8_6_3_3 x y z) (asked x y z h g e)
  · exact outT_run ft_ok dt_ok (out8_6_3_4 x y z) (asked x y z h g e)
theorem runs_6_4 (x y z : Int) (h : x % 8 = 6) (g : y % 8 = 4) : ∃ hp', run EE 3001 8 [.fv (.int .i64 x), .fv (.int .i64 y), .fv (.int .i64 z)] ⟨[], []⟩ = some (.fv (.bool true), hp') := by
  have h1 := Int.emod_nonneg z (show (5 : Int) ≠ 0 by decide)
  have h2 := Int.emod_lt_of_pos z (show (0 : Int) < 5 by decide)
  have : z % 5 = 0 ∨ z % 5 = 1 ∨ z % 5 = 2 ∨ z % 5 = 3 ∨ z % 5 = 4 := by omega
  rcases this with e | e | e | e | e
  · exact outT_run ft_ok dt_ok (out8_6_4_0 x y z) (asked x y z h g e)
  · exact outT_run ft_ok dt_ok (out8_6_4_1 x y z) (asked x y z h g e)
  · exact outT_run ft_ok dt_ok (out8_6_4_2 x y z) (asked x y z h g e)
  · exact outT_run ft_ok dt_ok (out8_6_4_3 x y z) (asked x y z h g e)
  · exact outT_run ft_ok dt_ok (out8_6_4_4 x y z) (asked x y z h g e)
theorem runs_6_5 (x y z : Int) (h : x % 8 = 6) (g : y % 8 = 5) : ∃ hp', run EE 3001 8 [.fv (.int .i64 x), .fv (.int .i64 y), .fv (.int .i64 z)] ⟨[], []⟩ = some (.fv (.bool true), hp') := by
  have h1 := Int.emod_nonneg z (show (5 : Int) ≠ 0 by decide)
  have h2 := Int.emod_lt_of_pos z (show (0 : Int) < 5 by decide)
  have : z % 5 = 0 ∨ z % 5 = 1 ∨ z % 5 = 2 ∨ z % 5 = 3 ∨ z % 5 = 4 := by omega
  rcases this with e | e | e | e | e
  · exact outT_run ft_ok dt_ok (out8_6_5_0 x y z) (asked x y z h g e)
  · exact outT_run ft_ok dt_ok (out8_6_5_1 x y z) (asked x y z h g e)
  · exact outT_run ft_ok dt_ok (out8_6_5_2 x y z) (asked x y z h g e)
  · exact outT_run ft_ok dt_ok (out8_6_5_3 x y z) (asked x y z h g e)
  · exact outT_run ft_ok dt_ok (out8_6_5_4 x y z) (asked x y z h g e)
theorem runs_6_6 (x y z : Int) (h : x % 8 = 6) (g : y % 8 = 6) : ∃ hp', run EE 3001 8 [.fv (.int .i64 x), .fv (.int .i64 y), .fv (.int .i64 z)] ⟨[], []⟩ = some (.fv (.bool true), hp') := by
  have h1 := Int.emod_nonneg z (show (5 : Int) ≠ 0 by decide)
  have h2 := Int.emod_lt_of_pos z (show (0 : Int) < 5 by decide)
  have : z % 5 = 0 ∨ z % 5 = 1 ∨ z % 5 = 2 ∨ z % 5 = 3 ∨ z % 5 = 4 := by omega
  rcases this with e | e | e | e | e
  · exact outT_run ft_ok dt_ok (out8_6_6_0 x y z) (asked x y z h g e)
  · exact outT_run ft_ok dt_ok (out8_6_6_1 x y z) (asked x y z h g e)
  · exact outT_run ft_ok dt_ok (out8_6_6_2 x y z) (asked x y z h g e)
  · exact outT_run ft_ok dt_ok (out8_6_6_3 x y z) (asked x y z h g e)
  · exact outT_run ft_ok dt_ok (out8_6_6_4 x y z) (asked x y z h g e)
theorem runs_6_7 (x y z : Int) (h : x % 8 = 6) (g : y % 8 = 7) : ∃ hp', run EE 3001 8 [.fv (.int .i64 x), .fv (.int .i64 y), .fv (.int .i64 z)] ⟨[], []⟩ = some (.fv (.bool true), hp') := by
  have h1 := Int.emod_nonneg z (show (5 : Int) ≠ 0 by decide)
  have h2 := Int.emod_lt_of_pos z (show (0 : Int) < 5 by decide)
  have : z % 5 = 0 ∨ z % 5 = 1 ∨ z % 5 = 2 ∨ z % 5 = 3 ∨ z % 5 = 4 := by omega
  rcases this with e | e | e | e | e
  · exact outT_run ft_ok dt_ok (out8_6_7_0 x y z) (asked x y z h g e)
  · exact outT_run ft_ok dt_ok (out8_6_7_1 x y z) (asked x y z h g e)
  · exact outT_run ft_ok dt_ok (out8_6_7_2 x y z) (asked x y z h g e)
  · exact outT_run ft_ok dt_ok (out8_6_7_3 x y z) (asked x y z h g e)
  · exact outT_run ft_ok dt_ok (out8_6_7_4 x y z) (asked x y z h g e)
theorem runs_6 (x y z : Int) (h : x % 8 = 6) : ∃ hp', run EE 3001 8 [.fv (.int .i64 x), .fv (.int .i64 y), .fv (.int .i64 z)] ⟨[], []⟩ = some (.fv (.bool true), hp') := by
  have h1 := Int.emod_nonneg y (show (8 : Int) ≠ 0 by decide)
  have h2 := Int.emod_lt_of_pos y (show (0 : Int) < 8 by decide)
  have : y % 8 = 0 ∨ y % 8 = 1 ∨ y % 8 = 2 ∨ y % 8 = 3 ∨ y % 8 = 4 ∨ y % 8 = 5 ∨ y % 8 = 6 ∨ y % 8 = 7 := by omega
  rcases this with g | g | g | g | g | g | g | g
  · exact runs_6_0 x y z h g
  · exact runs_6_1 x y z h g
  · exact runs_6_2 x y z h g
  · exact runs_6_3 x y z h g
  · exact runs_6_4 x y z h g
  · exact runs_6_5 x y z h g
  · exact runs_6_6 x y z h g
  · exact runs_6_7 x y z h g
theorem runs_7_0 (x y z : Int) (h : x % 8 = 7) (g : y % 8 = 0) : ∃ hp', run EE 3001 8 [.fv (.int .i64 x), .fv (.int .i64 y), .fv (.int .i64 z)] ⟨[], []⟩ = some (.fv (.bool true), hp') := by
  have h1 := Int.emod_nonneg z (show (5 : Int) ≠ 0 by decide)
  have h2 := Int.emod_lt_of_pos z (show (0 : Int) < 5 by decide)
  have : z % 5 = 0 ∨ z % 5 = 1 ∨ z % 5 = 2 ∨ z % 5 = 3 ∨ z % 5 = 4 := by omega
  rcases this with e | e | e | e | e
  · exact outT_run ft_ok dt_ok (out8_7_0_0 x y z) (asked x y z h g e)
  · exact outT_run ft_ok dt_ok (out8_7_0_1 x y z) (asked x y z h g e)
  · exact outT_run ft_ok dt_ok (out8_7_0_2 x y z) (asked x y z h g e)
  · exact outT_run ft_ok dt_ok (out8_7_0_3 x y z) (asked x y z h g e)
  · exact outT_run ft_ok dt_ok (out8_7_0_4 x y z) (asked x y z h g e)
theorem runs_7_1 (x y z : Int) (h : x % 8 = 7) (g : y % 8 = 1) : ∃ hp', run EE 3001 8 [.fv (.int .i64 x), .fv (.int .i64 y), .fv (.int .i64 z)] ⟨[], []⟩ = some (.fv (.bool true), hp') := by
  have h1 := Int.emod_nonneg z (show (5 : Int) ≠ 0 by decide)
  have h2 := Int.emod_lt_of_pos z (show (0 : Int) < 5 by decide)
  have : z % 5 = 0 ∨ z % 5 = 1 ∨ z % 5 = 2 ∨ z % 5 = 3 ∨ z % 5 = 4 := by omega
  rcases this with e | e | e | e | e
  · exact outT_run ft_ok dt_ok (out8_7_1_0 x y z) (asked x y z h g e)
  · exact outT_run ft_ok dt_ok (out8_7_1_1 x y z) (asked x y z h g e)
  · exact outT_run ft_ok dt_ok (out8_7_1_2 x y z) (asked x y z h g e)
  · exact outT_run ft_ok dt_ok (out8_7_1_3 x y z) (asked x y z h g e)
  · exact outT_run ft_ok dt_ok (out8_7_1_4 x y z) (asked x y z h g e)
theorem runs_7_2 (x y z : Int) (h : x % 8 = 7) (g : y % 8 = 2) : ∃ hp', run EE 3001 8 [.fv (.int .i64 x), .fv (.int .i64 y), .fv (.int .i64 z)] ⟨[], []⟩ = some (.fv (.bool true), hp') := by
  have h1 := Int.emod_nonneg z (show (5 : Int) ≠ 0 by decide)
  have h2 := Int.emod_lt_of_pos z (show (0 : Int) < 5 by decide)
  have : z % 5 = 0 ∨ z % 5 = 1 ∨ z % 5 = 2 ∨ z % 5 = 3 ∨ z % 5 = 4 := by omega
  rcases this with e | e | e | e | e
  · exact outT_run ft_ok dt_ok (out8_7_2_0 x y z) (asked x y z h g e)
  · exact outT_run ft_ok dt_ok (out8_7_2_1 x y z) (asked x y z h g e)
  · exact outT_run ft_ok dt_ok (out8_7_2_2 x y z) (asked x y z h g e)
  · exact outT_run ft_ok dt_ok (out8_7_2_3 x y z) (asked x y z h g e)
  · exact outT_run ft_ok dt_ok (out8_7_2_4 x y z) (asked x y z h g e)
theorem runs_7_3 (x y z : Int) (h : x % 8 = 7) (g : y % 8 = 3) : ∃ hp', run EE 3001 8 [.fv (.int .i64 x), .fv (.int .i64 y), .fv (.int .i64 z)] ⟨[], []⟩ = some (.fv (.bool true), hp') := by
  have h1 := Int.emod_nonneg z (show (5 : Int) ≠ 0 by decide)
  have h2 := Int.emod_lt_of_pos z (show (0 : Int) < 5 by decide)
  have : z % 5 = 0 ∨ z % 5 = 1 ∨ z % 5 = 2 ∨ z % 5 = 3 ∨ z % 5 = 4 := by omega
  rcases this with e | e | e | e | e
  · exact outT_run ft_ok dt_ok (out8_7_3_0 x y z) (asked x y z h g e)
  · exact outT_run ft_ok dt_ok (out8_7_3_1 x y z) (asked x y z h g e)
  · exact outT_run ft_ok dt_ok (out8_7_3_2 x y z) (asked x y z h g e)
  · exact outT_run ft_ok dt_ok (out8_7_3_3 x y z) (asked x y z h g e)
  · exact outT_run ft_ok dt_ok (out8_7_3_4 x y z) (asked x y z h g e)
theorem runs_7_4 (x y z : Int) (h : x % 8 = 7) (g : y % 8 = 4) : ∃ hp', run EE 3001 8 [.fv (.int .i64 x), .fv (.int .i64 y), .fv (.int .i64 z)] ⟨[], []⟩ = some (.fv (.bool true), hp') := by
  have h1 := Int.emod_nonneg z (show (5 : Int) ≠ 0 by decide)
  have h2 := Int.emod_lt_of_pos z (show (0 : Int) < 5 by decide)
  have : z % 5 = 0 ∨ z % 5 = 1 ∨ z % 5 = 2 ∨ z % 5 = 3 ∨ z % 5 = 4 := by omega
  rcases this with e | e | e | e | e
  · exact outT_run ft_ok dt_ok (out8_7_4_0 x y z) (asked x y z h g e)
  · exact outT_run ft_ok dt_ok (out8_7_4_1 x y z) (asked x y z h g e)
  · exact outT_run ft_ok dt_ok (out8_7_4_2 x y z) (asked x y z h g e)
  · exact outT_run ft_ok dt_ok (out8_7_4_3 x y z) (asked x y z h g e)
  · exact outT_run ft_ok dt_ok (out8_7_4_4 x y z) (asked x y z h g e)
theorem runs_7_5 (x y z : Int) (h : x % 8 = 7) (g : y % 8 = 5) : ∃ hp', run EE 3001 8 [.fv (.int .i64 x), .fv (.int .i64 y), .fv (.int .i64 z)] ⟨[], []⟩ = some (.fv (.bool true), hp') := by
  have h1 := Int.emod_nonneg z (show (5 : Int) ≠ 0 by decide)
  have h2 := Int.emod_lt_of_pos z (show (0 : Int) < 5 by decide)
  have : z % 5 = 0 ∨ z % 5 = 1 ∨ z % 5 = 2 ∨ z % 5 = 3 ∨ z % 5 = 4 := by omega
  rcases this with e | e | e | e | e
  · exact outT_run ft_ok dt_ok (out8_7_5_0 x y z) (asked x y z h g e)
  · exact outT_run ft_ok dt_ok (out8_7_5_1 x y z) (asked x y z h g e)
  · exact outT_run ft_ok dt_ok (out8_7_5_2 x y z) (asked x y z h g e)
  · exact outT_run ft_ok dt_ok (out8_7_5_3 x y z) (asked x y z h g e)
  · exact outT_run ft_ok dt_ok (out8_7_5_4 x y z) (asked x y z h g e)
theorem runs_7_6 (x y z : Int) (h : x % 8 = 7) (g : y % 8 = 6) : ∃ hp', run EE 3001 8 [.fv (.int .i64 x), .fv (.int .i64 y), .fv (.int .i64 z)] ⟨[], []⟩ = some (.fv (.bool true), hp') := by
  have h1 := Int.emod_nonneg z (show (5 : Int) ≠ 0 by decide)
  have h2 := Int.emod_lt_of_pos z (show (0 : Int) < 5 by decide)
  have : z % 5 = 0 ∨ z % 5 = 1 ∨ z % 5 = 2 ∨ z % 5 = 3 ∨ z % 5 = 4 := by omega
  rcases this with e | e | e | e | e
  · exact outT_run ft_ok dt_ok (out8_7_6_0 x y z) (asked x y z h g e)
  · exact outT_run ft_ok dt_ok (out8_7_6_1 x y z) (asked x y z h g e)
  · exact outT_run ft_ok dt_ok (out8_7_6_2 x y z) (asked x y z h g e)
  · exact outT_run ft_ok dt_ok (out8_7_6_3 x y z) (asked x y z h g e)
  · exact outT_run ft_ok dt_ok (out8_7_6_4 x y z) (asked x y z h g e)
theorem runs_7_7 (x y z : Int) (h : x % 8 = 7) (g : y % 8 = 7) : ∃ hp', run EE 3001 8 [.fv (.int .i64 x), .fv (.int .i64 y), .fv (.int .i64 z)] ⟨[], []⟩ = some (.fv (.bool true), hp') := by
  have h1 := Int.emod_nonneg z (show (5 : Int) ≠ 0 by decide)
  have h2 := Int.emod_lt_of_pos z (show (0 : Int) < 5 by decide)
  have : z % 5 = 0 ∨ z % 5 = 1 ∨ z % 5 = 2 ∨ z % 5 = 3 ∨ z % 5 = 4 := by omega
  rcases this with e | e | e | e | e
  · exact outT_run ft_ok dt_ok (out8_7_7_0 x y z) (asked x y z h g e)
  · exact outT_run ft_ok dt_ok (out8_7_7_1 x y z) (asked x y z h g e)
  · exact outT_run ft_ok dt_ok (out8_7_7_2 x y z) (asked x y z h g e)
  · exact outT_run ft_ok dt_ok (out8_7_7_3 x y z) (asked x y z h g e)
  · exact outT_run ft_ok dt_ok (out8_7_7_4 x y z) (asked x y z h g e)
theorem runs_7 (x y z : Int) (h : x % 8 = 7) : ∃ hp', run EE 3001 8 [.fv (.int .i64 x), .fv (.int .i64 y), .fv (.int .i64 z)] ⟨[], []⟩ = some (.fv (.bool true), hp') := by
  have h1 := Int.emod_nonneg y (show (8 : Int) ≠ 0 by decide)
  have h2 := Int.emod_lt_of_pos y (show (0 : Int) < 8 by decide)
  have : y % 8 = 0 ∨ y % 8 = 1 ∨ y % 8 = 2 ∨ y % 8 = 3 ∨ y % 8 = 4 ∨ y % 8 = 5 ∨ y % 8 = 6 ∨ y % 8 = 7 := by omega
  rcases this with g | g | g | g | g | g | g | g
  · exact runs_7_0 x y z h g
  · exact runs_7_1 x y z h g
  · exact runs_7_2 x y z h g
  · exact runs_7_3 x y z h g
  · exact runs_7_4 x y z h g
  · exact runs_7_5 x y z h g
  · exact runs_7_6 x y z h g
  · exact runs_7_7 x y z h g
theorem runs (x y z : Int) : ∃ hp', run EE 3001 8 [.fv (.int .i64 x), .fv (.int .i64 y), .fv (.int .i64 z)] ⟨[], []⟩ = some (.fv (.bool true), hp') := by
  have h1 := Int.emod_nonneg x (show (8 : Int) ≠ 0 by decide)
  have h2 := Int.emod_lt_of_pos x (show (0 : Int) < 8 by decide)
  have : x % 8 = 0 ∨ x % 8 = 1 ∨ x % 8 = 2 ∨ x % 8 = 3 ∨ x % 8 = 4 ∨ x % 8 = 5 ∨ x % 8 = 6 ∨ x % 8 = 7 := by omega
  rcases this with h | h | h | h | h | h | h | h
  · exact runs_0 x y z h
  · exact runs_1 x y z h
  · exact runs_2 x y z h
  · exact runs_3 x y z h
  · exact runs_4 x y z h
  · exact runs_5 x y z h
  · exact runs_6 x y z h
  · exact runs_7 x y z h

theorem three_int {w : World} {k : IntKind} {x y z : Int} : SlotsR (fun _ => 0) w (all w) ⟨[], []⟩ [.fv (.int k x), .fv (.int k y), .fv (.int k z)] #[.int k x, .int k y, .int k z] := by
  refine ⟨rfl, fun i v hv => ?_⟩
  cases i with
  | zero => simp at hv; subst hv; exact .fv _ _ (.int k x)
  | succ i => cases i with
    | zero => simp at hv; subst hv; exact .fv _ _ (.int k y)
    | succ i => cases i with
      | zero => simp at hv; subst hv; exact .fv _ _ (.int k z)
      | succ i => simp at hv

theorem walk (a0 a1 a2 : Int) (w : World) : Calls Try.prog 8 #[.int .i64 a0, .int .i64 a1, .int .i64 a2] w fun e w' => e = .returned (.bool true) ∧ Grown w w' := by
  obtain ⟨hp', h⟩ := runs a0 a1 a2
  exact law_calls (E := EE) ee_ok three_int h

set_option maxRecDepth 100000 in
theorem contract (H : Type) (enc : TypeId × Value → H) (W : World) (base : Nat) (args : Array Value) (ds gs : List (DataW H)) (before : List MemPlace)
    (hval : ∀ (j : Nat) t v, Try.f8.params[j]? = some t → args[j]? = some v → Value.okWide Try.prog W .any base t v)
    (hW : DataW.Whole enc Try.prog Try.f8.params.toList Rows.normStuckSpec.vars false W args.toList ds gs before) :
    Calls Try.prog 8 args W fun e W' => ∃ v, e = .returned v ∧ Rows.normStuckSpec.post enc Try.prog Try.f8 false true false false W args v W' := by
  have hW' := hW
  obtain ⟨p, q, hA0, hV, rfl, hfz, hnd⟩ := hW
  have hA : DataW.TrodAll enc Try.prog W 0 (fun _ => true) true Try.f8.params.toList args.toList ds p := hA0
  rw [Try.params8] at hA hval
  obtain ⟨v0, vs0, d0, ds0, p0, q0, hargs, rfl, rfl, h0, r0⟩ := trodAll_cons hA
  obtain ⟨v1, vs1, d1, ds1, p1, q1, hargs1, rfl, rfl, h1, r1⟩ := trodAll_cons r0
  obtain ⟨v2, vs2, d2, ds2, p2, q2, hargs2, rfl, rfl, h2, r2⟩ := trodAll_cons r1
  obtain ⟨rfl, rfl, rfl⟩ := trodAll_nil r2
  obtain rfl : args = #[v0, v1, v2] := by cases args; simp_all
  obtain ⟨rfl, rfl⟩ := trodVars_none hV
  obtain ⟨a0, rfl, rfl, rfl, w0⟩ := open_int Try.underlying3 (hval 0 3 v0 rfl rfl) h0
  obtain ⟨a1, rfl, rfl, rfl, w1⟩ := open_int Try.underlying3 (hval 1 3 v1 rfl rfl) h1
  obtain ⟨a2, rfl, rfl, rfl, w2⟩ := open_int Try.underlying3 (hval 2 3 v2 rfl rfl) h2
  clear hA0
  simp only [List.append_nil] at hW'
  refine (walk a0 a1 a2 W).mono fun e W' ⟨he, hg⟩ => ?_
  subst he
  exact ⟨_, rfl, post_of_same (pa := []) (pv := []) hW' (fun _ _ _ => (trodAll_cons_mk (shut_bool Try.underlying4 _) trodAll_mk0)) (fun sp _ => (trodAll_cons_mk (shut_int Try.underlying3 w0) (trodAll_cons_mk (shut_int Try.underlying3 w1) (trodAll_cons_mk (shut_int Try.underlying3 w2) trodAll_mk0)))) (fun _ _ => rfl) rfl
    (hg.frame _) hg.2.1 (ok_one (by kernel_rfl) rfl (okWide_bool_mk Try.underlying4 _))⟩

set_option maxRecDepth 100000 in
theorem lifted (os : Os) (started : os.Started) (H : Type) (enc : TypeId × Value → H) :
    ReturnsInHanded {} Try.checked os 8 .any (Rows.normStuckSpec.pre6 enc Try.prog Try.f8 Rows.normStuckRow.domain false) (Rows.normStuckSpec.post enc Try.prog Try.f8 false true false false) := by
  refine returnsInHanded_of_change (C := Try.checked) (s := Rows.normStuckSpec) own started (by kernel_rfl) Try.func8
    (ChangeSpec.witness6 (enc := enc) (C := Try.checked) (s := Rows.normStuckSpec) false ⟨#[], #[.int .i64 0, .int .i64 0, .int .i64 0], []⟩ 8 (by kernel_rfl) (by kernel_rfl) (by kernel_rfl) (by kernel_rfl)) ?_
  intro W base args ds gs before hval hW _ _
  exact contract H enc W base args ds gs before hval hW

theorem over : Rows.normStuckRow.holds Try.pinned (OpenSpec.ofChange Rows.normStuckSpec) :=
  OpenClaim.holds_of_wide 8 Try.f8 rfl rfl rfl rfl rfl rfl rfl ⟨rfl, rfl, rfl, rfl, rfl⟩ rfl rfl rfl rfl rfl (by kernel_rfl) Try.func8 (by kernel_rfl)
    (of_decide_eq_true (by kernel_rfl)) (by unfold Func.isWrapper; first | (rw [if_pos (by decide +kernel)]; kernel_rfl) | (rw [if_neg (by decide +kernel)]; exact ⟨rfl, rfl⟩))
    (fun os started H enc _ => lifted os started H enc)

theorem proved : Rows.NormStuckSaid :=
  over
end Go.Proofs.Ytbkdidonegggdaa.normStuck

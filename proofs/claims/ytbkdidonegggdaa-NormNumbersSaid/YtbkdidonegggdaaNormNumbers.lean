/-
  The law 'NormNumbers' holds: for all numbers it answers true, and its arguments read as they did.
-/
import Derived.Test.YtbkdidonegggdaaRows
import Derived.WalkKit
import Derived.ProofKit
import Derived.OpenShut
import Derived.Test.YtbkdidonegggdaaWithin
import Derived.Test.YtbkdidonegggdaaNum0
import Derived.Test.YtbkdidonegggdaaNum2
import Derived.Test.YtbkdidonegggdaaNum3
import Derived.Test.YtbkdidonegggdaaNum4
import Derived.Test.YtbkdidonegggdaaNum5
import Derived.Test.YtbkdidonegggdaaNum6
import Derived.Test.YtbkdidonegggdaaNum7
import Derived.Test.YtbkdidonegggdaaNum8
import Derived.Test.YtbkdidonegggdaaNum9
namespace Go.Proofs.Ytbkdidonegggdaa.normNumbers
open Go.ChangeShapes Go.WideShapes Go.ChangeAt Go.RowKit
open Go.Proofs.Ytbkdidonegggdaa.Idl
set_option linter.unusedVariables false

theorem own : ownKnob Try.prog.godebug = none := by kernel_rfl

theorem asked (x y : Int) {k j : Int} (hk : x % 10 = k) (hj : y % 10 = j) : Stand (run EE 3000) 28 [([.fv (.int .i64 x), .fv (.int .i64 10)], k), ([.fv (.int .i64 y), .fv (.int .i64 10)], j)] := by
  intro q hq
  rcases List.mem_cons.1 hq with rfl | hq
  · have := within_run 2999 x 10 (by decide) (by decide) (by kernel_rfl)
    rw [show ((10 : Nat) : Int) = 10 from rfl, hk] at this
    exact this
  rcases List.mem_cons.1 hq with rfl | hq
  · have := within_run 2999 y 10 (by decide) (by decide) (by kernel_rfl)
    rw [show ((10 : Nat) : Int) = 10 from rfl, hj] at this
    exact this
  · cases hq
theorem runs_0 (x y : Int) (h : x % 10 = 0) : ∃ hp', run EE 3001 7 [.fv (.int .i64 x), .fv (.int .i64 y)] ⟨[], []⟩ = some (.fv (.bool true), hp') := by
  have h1 := Int.emod_nonneg y (show (10 : Int) ≠ 0 by decide)
  have h2 := Int.emod_lt_of_pos y (show (0 : Int) < 10 by decide)
  have : y % 10 = 0 ∨ y % 10 = 1 ∨ y % 10 = 2 ∨ y % 10 = 3 ∨ y % 10 = 4 ∨ y % 10 = 5 ∨ y % 10 = 6 ∨ y % 10 = 7 ∨ y % 10 = 8 ∨ y % 10 = 9 := by omega
  rcases this with g | g | g | g | g | g | g | g | g | g
  · exact outT_run ft_ok dt_ok (out7_0_0 x y) (asked x y h g)
  · exact outT_run ft_ok dt_ok (out7_0_1 x y) (asked x y h g)
  · exact outT_run ft_ok dt_ok (out7_0_2 x y) (asked x y h g)
  · exact outT_run ft_ok dt_ok (out7_0_3 x y) (asked x y h g)
  · exact outT_run ft_ok dt_ok (out7_0_4 x y) (asked x y h g)
  · exact outT_run ft_ok dt_ok (out7_0_5 x y) (asked x y h g)
  · exact outT_run ft_ok dt_ok (out7_0_6 x y) (asked x y h g)
  · exact outT_run ft_ok dt_ok (out7_0_7 x y) (asked x y h g)
  · exact outT_run ft_ok dt_ok (out7_0_8 x y) (asked x y h g)
  · exact outT_run ft_ok dt_ok (out7_0_9 x y) (asked x y h g)
theorem runs_1 (x y : Int) (h : x % 10 = 1) : ∃ hp', run EE 3001 7 [.fv (.int .i64 x), .fv (.int .i64 y)] ⟨[], []⟩ = some (.fv (.bool true), hp') := by
  have h1 := Int.emod_nonneg y (show (10 : Int) ≠ 0 by decide)
  have h2 := Int.emod_lt_of_pos y (show (0 : Int) < 10 by decide)
  have : y % 10 = 0 ∨ y % 10 = 1 ∨ y % 10 = 2 ∨ y % 10 = 3 ∨ y % 10 = 4 ∨ y % 10 = 5 ∨ y % 10 = 6 ∨ y % 10 = 7 ∨ y % 10 = 8 ∨ y % 10 = 9 := by omega
  rcases this with g | g | g | g | g | g | g | g | g | g
  · exact outT_run ft_ok dt_ok (out7_1_0 x y) (asked x y h g)
  · exact outT_run ft_ok dt_ok (out7_1_1 x y) (asked x y h g)
  · exact outT_run ft_ok dt_ok (out7_1_2 x y) (asked x y h g)
  · exact outT_run ft_ok dt_ok (out7_1_3 x y) (asked x y h g)
  · exact outT_run ft_ok dt_ok (out7_1_4 x y) (asked x y h g)
  · exact outT_run ft_ok dt_ok (out7_1_5 x y) (asked x y h g)
  · exact outT_run ft_ok dt_ok (out7_1_6 x y) (asked x y h g)
  · exact outT_run ft_ok dt_ok (out7_1_7 x y) (asked x y h g)
  · exact outT_run ft_ok dt_ok (out7_1_8 x y) (asked x y h g)
  · exact outT_run ft_ok dt_ok (out7_1_9 x y) (asked x y h g)
theorem runs_2 (x y : Int) (h : x % 10 = 2) : ∃ hp', run EE 3001 7 [.fv (.int .i64 x), .fv (.int .i64 y)] ⟨[], []⟩ = some (.fv (.bool true), hp') := by
  have h1 := Int.emod_nonneg y (show (10 : Int) ≠ 0 by decide)
  have h2 := Int.emod_lt_of_pos y (show (0 : Int) < 10 by decide)
  have : y % 10 = 0 ∨ y % 10 = 1 ∨ y % 10 = 2 ∨ y % 10 = 3 ∨ y % 10 = 4 ∨ y % 10 = 5 ∨ y % 10 = 6 ∨ y % 10 = 7 ∨ y % 10 = 8 ∨ y % 10 = 9 := by omega
  rcases this with g | g | g | g | g | g | g | g | g | g
  · exact outT_run ft_ok dt_ok (out7_2_0 x y) (asked x y h g)
  · exact outT_run ft_ok dt_ok (out7_2_1 x y) (asked x y h g)
  · exact outT_run ft_ok dt_ok (out7_2_2 x y) (asked x y h g)
  · exact outT_run ft_ok dt_ok (out7_2_3 x y) (asked x y h g)
  · exact outT_run ft_ok dt_ok (out7_2_4 x y) (asked x y h g)
  · exact outT_run ft_ok dt_ok (out7_2_5 x y) (asked x y h g)
  · exact outT_run ft_ok dt_ok (out7_2_6 x y) (asked x y h g)
  · exact outT_run ft_ok dt_ok (out7_2_7 x y) (asked x y h g)
  · exact outT_run ft_ok dt_ok (out7_2_8 x y) (asked x y h g)
  · exact outT_run ft_ok dt_ok (out7_2_9 x y) (asked x y h g)
theorem runs_3 (x y : Int) (h : x % 10 = 3) : ∃ hp', run EE 3001 7 [.fv (.int .i64 x), .fv (.int .i64 y)] ⟨[], []⟩ = some (.fv (.bool true), hp') := by
  have h1 := Int.emod_nonneg y (show (10 : Int) ≠ 0 by decide)
  have h2 := Int.emod_lt_of_pos y (show (0 : Int) < 10 by decide)
  have : y % 10 = 0 ∨ y % 10 = 1 ∨ y % 10 = 2 ∨ y % 10 = 3 ∨ y % 10 = 4 ∨ y % 10 = 5 ∨ y % 10 = 6 ∨ y % 10 = 7 ∨ y % 10 = 8 ∨ y % 10 = 9 := by omega
  rcases this with g | g | g | g | g | g | g | g | g | g
  · exact outT_run ft_ok dt_ok (out7_3_0 x y) (asked x y h g)
  · exact outT_run ft_ok dt_ok (out7_3_1 x y) (asked x y h g)
  · exact outT_run ft_ok dt_ok (out7_3_2 x y) (asked x y h g)
  · exact outT_run ft_ok dt_ok (out7_3_3 x y) (asked x y h g)
  · exact outT_run ft_ok dt_ok (out7_3_4 x y) (asked x y h g)
  · exact outT_run ft_ok dt_ok (out7_3_5 x y) (asked x y h g)
  · exact outT_run ft_ok dt_ok (out7_3_6 x y) (asked x y h g)
  · exact outT_run ft_ok dt_ok (out7_3_7 x y) (asked x y h g)
  · exact outT_run ft_ok dt_ok (out7_3_8 x y) (asked x y h g)
  · exact outT_run ft_ok dt_ok (out7_3_9 x y) (asked x y h g)
theorem runs_4 (x y : Int) (h : x % 10 = 4) : ∃ hp', run EE 3001 7 [.fv (.int .i64 x), .fv (.int .i64 y)] ⟨[], []⟩ = some (.fv (.bool true), hp') := by
  have h1 := Int.emod_nonneg y (show (10 : Int) ≠ 0 by decide)
  have h2 := Int.emod_lt_of_pos y (show (0 : Int) < 10 by decide)
  have : y % 10 = 0 ∨ y % 10 = 1 ∨ y % 10 = 2 ∨ y % 10 = 3 ∨ y % 10 = 4 ∨ y % 10 = 5 ∨ y % 10 = 6 ∨ y % 10 = 7 ∨ y % 10 = 8 ∨ y % 10 = 9 := by omega
  rcases this with g | g | g | g | g | g | g | g | g | g
  · exact outT_run ft_ok dt_ok (out7_4_0 x y) (asked x y h g)
  · exact outT_run ft_ok dt_ok (out7_4_1 x y) (asked x y h g)
  · exact outT_run ft_ok dt_ok (out7_4_2 x y) (asked x y h g)
  · exact outT_run ft_ok dt_ok (out7_4_3 x y) (asked x y h g)
  · exact outT_run ft_ok dt_ok (out7_4_4 x y) (asked x y h g)
  · exact outT_run ft_ok dt_ok (out7_4_5 x y) (asked x y h g)
  · exact outT_run ft_ok dt_ok (out7_4_6 x y) (asked x y h g)
  · exact outT_run ft_ok dt_ok (out7_4_7 x y) (asked x y h g)
  · exact outT_run ft_ok dt_ok (out7_4_8 x y) (asked x y h g)
  · exact outT_run ft_ok dt_ok (out7_4_9 x y) (asked x y h g)
theorem runs_5 (x y : Int) (h : x % 10 = 5) : ∃ hp', run EE 3001 7 [.fv (.int .i64 x), .fv (.int .i64 y)] ⟨[], []⟩ = some (.fv (.bool true), hp') := by
  have h1 := Int.emod_nonneg y (show (10 : Int) ≠ 0 by decide)
  have h2 := Int.emod_lt_of_pos y (show (0 : Int) < 10 by decide)
  have : y % 10 = 0 ∨ y % 10 = 1 ∨ y % 10 = 2 ∨ y % 10 = 3 ∨ y % 10 = 4 ∨ y % 10 = 5 ∨ y % 10 = 6 ∨ y % 10 = 7 ∨ y % 10 = 8 ∨ y % 10 = 9 := by omega
  rcases this with g | g | g | g | g | g | g | g | g | g
  · exact outT_run ft_ok dt_ok (out7_5_0 x y) (asked x y h g)
  · exact outT_run ft_ok dt_ok (out7_5_1 x y) (asked x y h g)
  · exact outT_run ft_ok dt_ok (out7_5_2 x y) (asked x y h g)
  · exact outT_run ft_ok dt_ok (out7_5_3 x y) (asked x y h g)
  · exact outT_run ft_ok dt_ok (out7_5_4 x y) (asked x y h g)
  · exact outT_run ft_ok dt_ok (out7_5_5 x y) (asked x y h g)
  · exact outT_run ft_ok dt_ok (out7_5_6 x y) (asked x y h g)
  · exact outT_run ft_ok dt_ok (out7_5_7 x y) (asked x y h g)
  · exact outT_run ft_ok dt_ok (out7_5_8 x y) (asked x y h g)
  · exact outT_run ft_ok dt_ok (out7_5_9 x y) (asked x y h g)
theorem runs_6 (x y : Int) (h : x % 10 = 6) : ∃ hp', run EE 3001 7 [.fv (.int .i64 x), .fv (.int .i64 y)] ⟨[], []⟩ = some (.fv (.bool true), hp') := by
  have h1 := Int.emod_nonneg y (show (10 : Int) ≠ 0 by decide)
  have h2 := Int.emod_lt_of_pos y (show (0 : Int) < 10 by decide)
  have : y % 10 = 0 ∨ y % 10 = 1 ∨ y % 10 = 2 ∨ y % 10 = 3 ∨ y % 10 = 4 ∨ y % 10 = 5 ∨ y % 10 = 6 ∨ y % 10 = 7 ∨ y % 10 = 8 ∨ y % 10 = 9 := by omega
  rcases this with g | g | g | g | g | g | g | g | g | g
  · exact outT_run ft_ok dt_ok (out7_6_0 x y) (asked x y h g)
  · exact outT_run ft_ok dt_ok (out7_6_1 x y) (asked x y h g)
  · exact outT_run ft_ok dt_ok (out7_6_2 x y) (asked x y h g)
  · exact outT_run ft_ok dt_ok (out7_6_3 x y) (asked x y h g)
  · exact outT_run ft_ok dt_ok (out7_6_4 x y) (asked x y h g)
  · exact outT_run ft_ok dt_ok (out7_6_5 x y) (asked x y h g)
  · exact outT_run ft_ok dt_ok (out7_6_6 x y) (asked x y h g)
  · exact outT_run ft_ok dt_ok (out7_6_7 x y) (asked x y h g)
  · exact outT_run ft_ok dt_ok (out7_6_8 x y) (asked x y h g)
  · exact outT_run ft_ok dt_ok (out7_6_9 x y) (asked x y h g)
theorem runs_7 (x y : Int) (h : x % 10 = 7) : ∃ hp', run EE 3001 7 [.fv (.int .i64 x), .fv (.int .i64 y)] ⟨[], []⟩ = some (.fv (.bool true), hp') := by
  have h1 := Int.emod_nonneg y (show (10 : Int) ≠ 0 by decide)
  have h2 := Int.emod_lt_of_pos y (show (0 : Int) < 10 by decide)
  have : y % 10 = 0 ∨ y % 10 = 1 ∨ y % 10 = 2 ∨ y % 10 = 3 ∨ y % 10 = 4 ∨ y % 10 = 5 ∨ y % 10 = 6 ∨ y % 10 = 7 ∨ y % 10 = 8 ∨ y % 10 = 9 := by omega
  rcases this with g | g | g | g | g | g | g | g | g | g
  · exact outT_run ft_ok dt_ok (out7_7_0 x y) (asked x y h g)
  · exact outT_run ft_ok dt_ok (out7_7_1 x y) (asked x y h g)
  · exact outT_run ft_ok dt_ok (out7_7_2 x y) (asked x y h g)
  · exact outT_run ft_ok dt_ok (out7_7_3 x y) (asked x y h g)
  · exact outT_run ft_ok dt_ok (out7_7_4 x y) (asked x y h g)
  · exact outT_run ft_ok dt_ok (out7_7_5 x y) (asked x y h g)
  · exact outT_run ft_ok dt_ok (out7_7_6 x y) (asked x y h g)
  · exact outT_run ft_ok dt_ok (out7_7_7 x y) (asked x y h g)
  · exact outT_run ft_ok dt_ok (out7_7_8 x y) (asked x y h g)
  · exact outT_run ft_ok dt_ok (out7_7_9 x y) (asked x y h g)
theorem runs_8 (x y : Int) (h : x % 10 = 8) : ∃ hp', run EE 3001 7 [.fv (.int .i64 x), .fv (.int .i64 y)] ⟨[], []⟩ = some (.fv (.bool true), hp') := by
  have h1 := Int.emod_nonneg y (show (10 : Int) ≠ 0 by decide)
  have h2 := Int.emod_lt_of_pos y (show (0 : Int) < 10 by decide)
  have : y % 10 = 0 ∨ y % 10 = 1 ∨ y % 10 = 2 ∨ y % 10 = 3 ∨ y % 10 = 4 ∨ y % 10 = 5 ∨ y % 10 = 6 ∨ y % 10 = 7 ∨ y % 10 = 8 ∨ y % 10 = 9 := by omega
  rcases this with g | g | g | g | g | g | g | g | g | g
  · exact outT_run ft_ok dt_ok (out7_8_0 x y) (asked x y h g)
  · exact outT_run ft_ok dt_ok (out7_8_1 x y) (asked x y h g)
  · exact outT_run ft_ok dt_ok (out7_8_2 x y) (asked x y h g)
  · exact outT_run ft_ok dt_ok (out7_8_3 x y) (asked x y h g)
  · exact outT_run ft_ok dt_ok (out7_8_4 x y) (asked x y h g)
  · exact outT_run ft_ok dt_ok (out7_8_5 x y) (asked x y h g)
  · exact outT_run ft_ok dt_ok (out7_8_6 x y) (asked x y h g)
  · exact outT_run ft_ok dt_ok (out7_8_7 x y) (asked x y h g)
  · exact outT_run ft_ok dt_ok (out7_8_8 x y) (asked x y h g)
  · exact outT_run ft_ok dt_ok (out7_8_9 x y) (asked x y h g)
theorem runs_9 (x y : Int) (h : x % 10 = 9) : ∃ hp', run EE 3001 7 [.fv (.int .i64 x), .fv (.int .i64 y)] ⟨[], []⟩ = some (.fv (.bool true), hp') := by
  have h1 := Int.emod_nonneg y (show (10 : Int) ≠ 0 by decide)
  have h2 := Int.emod_lt_of_pos y (show (0 : Int) < 10 by decide)
  have : y % 10 = 0 ∨ y % 10 = 1 ∨ y % 10 = 2 ∨ y % 10 = 3 ∨ y % 10 = 4 ∨ y % 10 = 5 ∨ y % 10 = 6 ∨ y % 10 = 7 ∨ y % 10 = 8 ∨ y % 10 = 9 := by omega
  rcases this with g | g | g | g | g | g | g | g | g | g
  · exact outT_run ft_ok dt_ok (out7_9_0 x y) (asked x y h g)
  · exact outT_run ft_ok dt_ok (out7_9_1 x y) (asked x y h g)
  · exact outT_run ft_ok dt_ok (out7_9_2 x y) (asked x y h g)
  · exact outT_run ft_ok dt_ok (out7_9_3 x y) (asked x y h g)
  · exact outT_run ft_ok dt_ok (out7_9_4 x y) (asked x y h g)
  · exact outT_run ft_ok dt_ok (out7_9_5 x y) (asked x y h g)
  · exact outT_run ft_ok dt_ok (out7_9_6 x y) (asked x y h g)
  · exact outT_run ft_ok dt_ok (out7_9_7 x y) (asked x y h g)
  · exact outT_run ft_ok dt_ok (out7_9_8 x y) (asked x y h g)
  · exact outT_run ft_ok dt_ok (out7_9_9 x y) (asked x y h g)
theorem runs (x y : Int) : ∃ hp', run EE 3001 7 [.fv (.int .i64 x), .fv (.int .i64 y)] ⟨[], []⟩ = some (.fv (.bool true), hp') := by
  have h1 := Int.emod_nonneg x (show (10 : Int) ≠ 0 by decide)
  have h2 := Int.emod_lt_of_pos x (show (0 : Int) < 10 by decide)
  have : x % 10 = 0 ∨ x % 10 = 1 ∨ x % 10 = 2 ∨ x % 10 = 3 ∨ x % 10 = 4 ∨ x % 10 = 5 ∨ x % 10 = 6 ∨ x % 10 = 7 ∨ x % 10 = 8 ∨ x % 10 = 9 := by omega
  rcases this with h | h | h | h | h | h | h | h | h | h
  · exact runs_0 x y h
  · exact runs_1 x y h
  · exact runs_2 x y h
  · exact runs_3 x y h
  · exact runs_4 x y h
  · exact runs_5 x y h
  · exact runs_6 x y h
  · exact runs_7 x y h
  · exact runs_8 x y h
  · exact runs_9 x y h

theorem two_int {w : World} {k : IntKind} {x y : Int} : SlotsR (fun _ => 0) w (all w) ⟨[], []⟩ [.fv (.int k x), .fv (.int k y)] #[.int k x, .int k y] := by
  refine ⟨rfl, fun i v hv => ?_⟩
  cases i with
  | zero => simp at hv; subst hv; exact .fv _ _ (.int k x)
  | succ i => cases i with
    | zero => simp at hv; subst hv; exact .fv _ _ (.int k y)
    | succ i => simp at hv

theorem walk (a0 a1 : Int) (w : World) : Calls Try.prog 7 #[.int .i64 a0, .int .i64 a1] w fun e w' => e = .returned (.bool true) ∧ Grown w w' := by
  obtain ⟨hp', h⟩ := runs a0 a1
  exact law_calls (E := EE) ee_ok two_int h

set_option maxRecDepth 100000 in
theorem contract (H : Type) (enc : TypeId × Value → H) (W : World) (base : Nat) (args : Array Value) (ds gs : List (DataW H)) (before : List MemPlace)
    (hval : ∀ (j : Nat) t v, Try.f7.params[j]? = some t → args[j]? = some v → Value.okWide Try.prog W .any base t v)
    (hW : DataW.Whole enc Try.prog Try.f7.params.toList Rows.normNumbersSpec.vars false W args.toList ds gs before) :
    Calls Try.prog 7 args W fun e W' => ∃ v, e = .returned v ∧ Rows.normNumbersSpec.post enc Try.prog Try.f7 false true false false W args v W' := by
  have hW' := hW
  obtain ⟨p, q, hA0, hV, rfl, hfz, hnd⟩ := hW
  have hA : DataW.TrodAll enc Try.prog W 0 (fun _ => true) true Try.f7.params.toList args.toList ds p := hA0
  rw [Try.params7] at hA hval
  obtain ⟨v0, vs0, d0, ds0, p0, q0, hargs, rfl, rfl, h0, r0⟩ := trodAll_cons hA
  obtain ⟨v1, vs1, d1, ds1, p1, q1, hargs1, rfl, rfl, h1, r1⟩ := trodAll_cons r0
  obtain ⟨rfl, rfl, rfl⟩ := trodAll_nil r1
  obtain rfl : args = #[v0, v1] := by cases args; simp_all
  obtain ⟨rfl, rfl⟩ := trodVars_none hV
  obtain ⟨a0, rfl, rfl, rfl, w0⟩ := open_int Try.underlying3 (hval 0 3 v0 rfl rfl) h0
  obtain ⟨a1, rfl, rfl, rfl, w1⟩ := open_int Try.underlying3 (hval 1 3 v1 rfl rfl) h1
  clear hA0
  simp only [List.append_nil] at hW'
  refine (walk a0 a1 W).mono fun e W' ⟨he, hg⟩ => ?_
  subst he
  exact ⟨_, rfl, post_of_same (pa := []) (pv := []) hW' (fun _ _ _ => (trodAll_cons_mk (shut_bool Try.underlying4 _) trodAll_mk0)) (fun sp _ => (trodAll_cons_mk (shut_int Try.underlying3 w0) (trodAll_cons_mk (shut_int Try.underlying3 w1) trodAll_mk0))) (fun _ _ => rfl) rfl
    (hg.frame _) hg.2.1 (ok_one (by kernel_rfl) rfl (okWide_bool_mk Try.underlying4 _))⟩

set_option maxRecDepth 100000 in
theorem lifted (os : Os) (started : os.Started) (H : Type) (enc : TypeId × Value → H) :
    ReturnsInHanded {} Try.checked os 7 .any (Rows.normNumbersSpec.pre6 enc Try.prog Try.f7 Rows.normNumbersRow.domain false) (Rows.normNumbersSpec.post enc Try.prog Try.f7 false true false false) := by
  refine returnsInHanded_of_change (C := Try.checked) (s := Rows.normNumbersSpec) own started (by kernel_rfl) Try.func7
    (ChangeSpec.witness6 (enc := enc) (C := Try.checked) (s := Rows.normNumbersSpec) false ⟨#[], #[.int .i64 0, .int .i64 0], []⟩ 8 (by kernel_rfl) (by kernel_rfl) (by kernel_rfl) (by kernel_rfl)) ?_
  intro W base args ds gs before hval hW _ _
  exact contract H enc W base args ds gs before hval hW

theorem over : Rows.normNumbersRow.holds Try.pinned (OpenSpec.ofChange Rows.normNumbersSpec) :=
  OpenClaim.holds_of_wide 7 Try.f7 rfl rfl rfl rfl rfl rfl rfl ⟨rfl, rfl, rfl, rfl, rfl⟩ rfl rfl rfl rfl rfl (by kernel_rfl) Try.func7 (by kernel_rfl)
    (of_decide_eq_true (by kernel_rfl)) (by unfold Func.isWrapper; first | (rw [if_pos (by decide +kernel)]; kernel_rfl) | (rw [if_neg (by decide +kernel)]; exact ⟨rfl, rfl⟩))
    (fun os started H enc _ => lifted os started H enc)

theorem proved : Rows.NormNumbersSaid :=
  over
end Go.Proofs.Ytbkdidonegggdaa.normNumbers

/-
  The law 'KernelRec' holds: for all numbers it answers true, and its arguments read as they did.
-/
import Derived.Test.YtnenpcghegcnhaaRows
import Derived.WalkKit
import Derived.ProofKit
import Derived.OpenShut
import Derived.Test.YtnenpcghegcnhaaWithin
import Derived.Test.YtnenpcghegcnhaaRec0
import Derived.Test.YtnenpcghegcnhaaRec1
import Derived.Test.YtnenpcghegcnhaaRec2
namespace Go.Proofs.Ytnenpcghegcnhaa.kernelRec
open Go.ChangeShapes Go.WideShapes Go.ChangeAt Go.RowKit
open Go.Proofs.Ytnenpcghegcnhaa.Idl
set_option linter.unusedVariables false

theorem own : ownKnob Try.prog.godebug = none := by kernel_rfl

theorem asked (x y : Int) {k j : Int} (hk : x % 12 = k) (hj : y % 5 = j) : Stand (run EE 3000) 12 [([.fv (.int .i64 x), .fv (.int .i64 12)], k), ([.fv (.int .i64 y), .fv (.int .i64 5)], j)] := by
  intro q hq
  rcases List.mem_cons.1 hq with rfl | hq
  · have := within_run 2999 x 12 (by decide) (by decide) (by kernel_rfl)
    rw [show ((12 : Nat) : Int) = 12 from rfl, hk] at this
    exact this
  rcases List.mem_cons.1 hq with rfl | hq
  · have := within_run 2999 y 5 (by decide) (by decide) (by kernel_rfl)
    rw [show ((5 : Nat) : Int) = 5 from rfl, hj] at this
    exact this
  · cases hq
theorem runs_0 (x y : Int) (h : x % 12 = 0) : ∃ hp', run EE 3001 5 [.fv (.int .i64 x), .fv (.int .i64 y)] ⟨[], []⟩ = some (.fv (.bool true), hp') := by
  have h1 := Int.emod_nonneg y (show (5 : Int) ≠ 0 by decide)
  have h2 := Int.emod_lt_of_pos y (show (0 : Int) < 5 by decide)
  have : y % 5 = 0 ∨ y % 5 = 1 ∨ y % 5 = 2 ∨ y % 5 = 3 ∨ y % 5 = 4 := by omega
  rcases this with g | g | g | g | g
  · exact outT_run ft_ok dt_ok (out5_0_0 x y) (asked x y h g)
  · exact outT_run ft_ok dt_ok (out5_0_1 x y) (asked x y h g)
  · exact outT_run ft_ok dt_ok (out5_0_2 x y) (asked x y h g)
  · exact outT_run ft_ok dt_ok (out5_0_3 x y) (asked x y h g)
  · exact outT_run ft_ok dt_ok (out5_0_4 x y) (asked x y h g)
theorem runs_1 (x y : Int) (h : x % 12 = 1) : ∃ hp', run EE 3001 5 [.fv (.int .i64 x), .fv (.int .i64 y)] ⟨[], []⟩ = some (.fv (.bool true), hp') := by
  have h1 := Int.emod_nonneg y (show (5 : Int) ≠ 0 by decide)
  have h2 := Int.emod_lt_of_pos y (show (0 : Int) < 5 by decide)
  have : y % 5 = 0 ∨ y % 5 = 1 ∨ y % 5 = 2 ∨ y % 5 = 3 ∨ y % 5 = 4 := by omega
  rcases this with g | g | g | g | g
  · exact outT_run ft_ok dt_ok (out5_1_0 x y) (asked x y h g)
  · exact outT_run ft_ok dt_ok (out5_1_1 x y) (asked x y h g)
  · exact outT_run ft_ok dt_ok (out5_1_2 x y) (asked x y h g)
  · exact outT_run ft_ok dt_ok (out5_1_3 x y) (asked x y h g)
  · exact outT_run ft_ok dt_ok (out5_1_4 x y) (asked x y h g)
theorem runs_2 (x y : Int) (h : x % 12 = 2) : ∃ hp', run EE 3001 5 [.fv (.int .i64 x), .fv (.int .i64 y)] ⟨[], []⟩ = some (.fv (.bool true), hp') := by
  have h1 := Int.emod_nonneg y (show (5 : Int) ≠ 0 by decide)
  have h2 := Int.emod_lt_of_pos y (show (0 : Int) < 5 by decide)
  have : y % 5 = 0 ∨ y % 5 = 1 ∨ y % 5 = 2 ∨ y % 5 = 3 ∨ y % 5 = 4 := by omega
  rcases this with g | g | g | g | g
  · exact outT_run ft_ok dt_ok (out5_2_0 x y) (asked x y h g)
  · exact outT_run ft_ok dt_ok (out5_2_1 x y) (asked x y h g)
  · exact outT_run ft_ok dt_ok (out5_2_2 x y) (asked x y h g)
  · exact outT_run ft_ok dt_ok (out5_2_3 x y) (asked x y h g)
  · exact outT_run ft_ok dt_ok (out5_2_4 x y) (asked x y h g)
theorem runs_3 (x y : Int) (h : x % 12 = 3) : ∃ hp', run EE 3001 5 [.fv (.int .i64 x), .fv (.int .i64 y)] ⟨[], []⟩ = some (.fv (.bool true), hp') := by
  have h1 := Int.emod_nonneg y (show (5 : Int) ≠ 0 by decide)
  have h2 := Int.emod_lt_of_pos y (show (0 : Int) < 5 by decide)
  have : y % 5 = 0 ∨ y % 5 = 1 ∨ y % 5 = 2 ∨ y % 5 = 3 ∨ y % 5 = 4 := by omega
  rcases this with g | g | g | g | g
  · exact outT_run ft_ok dt_ok (out5_3_0 x y) (asked x y h g)
  · exact outT_run ft_ok dt_ok (out5_3_1 x y) (asked x y h g)
  · exact outT_run ft_ok dt_ok (out5_3_2 x y) (asked x y h g)
  · exact outT_run ft_ok dt_ok (out5_3_3 x y) (asked x y h g)
  · exact outT_run ft_ok dt_ok (out5_3_4 x y) (asked x y h g)
theorem runs_4 (x y : Int) (h : x % 12 = 4) : ∃ hp', run EE 3001 5 [.fv (.int .i64 x), .fv (.int .i64 y)] ⟨[], []⟩ = some (.fv (.bool true), hp') := by
  have h1 := Int.emod_nonneg y (show (5 : Int) ≠ 0 by decide)
  have h2 := Int.emod_lt_of_pos y (show (0 : Int) < 5 by decide)
  have : y % 5 = 0 ∨ y % 5 = 1 ∨ y % 5 = 2 ∨ y % 5 = 3 ∨ y % 5 = 4 := by omega
  rcases this with g | g | g | g | g
  · exact outT_run ft_ok dt_ok (out5_4_0 x y) (asked x y h g)
  · exact outT_run ft_ok dt_ok (out5_4_1 x y) (asked x y h g)
  · exact outT_run ft_ok dt_ok (out5_4_2 x y) (asked x y h g)
  · exact outT_run ft_ok dt_ok (out5_4_3 x y) (asked x y h g)
  · exact outT_run ft_ok dt_ok (out5_4_4 x y) (asked x y h g)
theorem runs_5 (x y : Int) (h : x % 12 = 5) : ∃ hp', run EE 3001 5 [.fv (.int .i64 x), .fv (.int .i64 y)] ⟨[], []⟩ = some (.fv (.bool true), hp') := by
  have h1 := Int.emod_nonneg y (show (5 : Int) ≠ 0 by decide)
  have h2 := Int.emod_lt_of_pos y (show (0 : Int) < 5 by decide)
  have : y % 5 = 0 ∨ y % 5 = 1 ∨ y % 5 = 2 ∨ y % 5 = 3 ∨ y % 5 = 4 := by omega
  rcases this with g | g | g | g | g
  · exact outT_run ft_ok dt_ok (out5_5_0 x y) (asked x y h g)
  · exact outT_run ft_ok dt_ok (out5_5_1 x y) (asked x y h g)
  · exact outT_run ft_ok dt_ok (out5_5_2 x y) (asked x y h g)
  · exact outT_run ft_ok dt_ok (out5_5_3 x y) (asked x y h g)
  · exact outT_run ft_ok dt_ok (out5_5_4 x y) (asked x y h g)
theorem runs_6 (x y : Int) (h : x % 12 = 6) : ∃ hp', run EE 3001 5 [.fv (.int .i64 x), .fv (.int .i64 y)] ⟨[], []⟩ = some (.fv (.bool true), hp') := by
  have h1 := Int.emod_nonneg y (show (5 : Int) ≠ 0 by decide)
  have h2 := Int.emod_lt_of_pos y (show (0 : Int) < 5 by decide)
  have : y % 5 = 0 ∨ y % 5 = 1 ∨ y % 5 = 2 ∨ y % 5 = 3 ∨ y % 5 = 4 := by omega
  rcases this with g | g | g | g | g
  · exact outT_run ft_ok dt_ok (out5_6_0 x y) (asked x y h g)
  · exact outT_run ft_ok dt_ok (out5_6_1 x y) (asked x y h g)
  · exact outT_run ft_ok dt_ok (out5_6_2 x y) (asked x y h g)
  · exact outT_run ft_ok dt_ok (out5_6_3 x y) (asked x y h g)
  · exact outT_run ft_ok dt_ok (out5_6_4 x y) (asked x y h g)
theorem runs_7 (x y : Int) (h : x % 12 = 7) : ∃ hp', run EE 3001 5 [.fv (.int .i64 x), .fv (.int .i64 y)] ⟨[], []⟩ = some (.fv (.bool true), hp') := by
  have h1 := Int.emod_nonneg y (show (5 : Int) ≠ 0 by decide)
  have h2 := Int.emod_lt_of_pos y (show (0 : Int) < 5 by decide)
  have : y % 5 = 0 ∨ y % 5 = 1 ∨ y % 5 = 2 ∨ y % 5 = 3 ∨ y % 5 = 4 := by omega
  rcases this with g | g | g | g | g
  · exact outT_run ft_ok dt_ok (out5_7_0 x y) (asked x y h g)
  · exact outT_run ft_ok dt_ok (out5_7_1 x y) (asked x y h g)
  · exact outT_run ft_ok dt_ok (out5_7_2 x y) (asked x y h g)
  · exact outT_run ft_ok dt_ok (out5_7_3 x y) (asked x y h g)
  · exact outT_run ft_ok dt_ok (out5_7_4 x y) (asked x y h g)
theorem runs_8 (x y : Int) (h : x % 12 = 8) : ∃ hp', run EE 3001 5 [.fv (.int .i64 x), .fv (.int .i64 y)] ⟨[], []⟩ = some (.fv (.bool true), hp') := by
  have h1 := Int.emod_nonneg y (show (5 : Int) ≠ 0 by decide)
  have h2 := Int.emod_lt_of_pos y (show (0 : Int) < 5 by decide)
  have : y % 5 = 0 ∨ y % 5 = 1 ∨ y % 5 = 2 ∨ y % 5 = 3 ∨ y % 5 = 4 := by omega
  rcases this with g | g | g | g | g
  · exact outT_run ft_ok dt_ok (out5_8_0 x y) (asked x y h g)
  · exact outT_run ft_ok dt_ok (out5_8_1 x y) (asked x y h g)
  · exact outT_run ft_ok dt_ok (out5_8_2 x y) (asked x y h g)
  · exact outT_run ft_ok dt_ok (out5_8_3 x y) (asked x y h g)
  · exact outT_run ft_ok dt_ok (out5_8_4 x y) (asked x y h g)
theorem runs_9 (x y : Int) (h : x % 12 = 9) : ∃ hp', run EE 3001 5 [.fv (.int .i64 x), .fv (.int .i64 y)] ⟨[], []⟩ = some (.fv (.bool true), hp') := by
  have h1 := Int.emod_nonneg y (show (5 : Int) ≠ 0 by decide)
  have h2 := Int.emod_lt_of_pos y (show (0 : Int) < 5 by decide)
  have : y % 5 = 0 ∨ y % 5 = 1 ∨ y % 5 = 2 ∨ y % 5 = 3 ∨ y % 5 = 4 := by omega
  rcases this with g | g | g | g | g
  · exact outT_run ft_ok dt_ok (out5_9_0 x y) (asked x y h g)
  · exact outT_run ft_ok dt_ok (out5_9_1 x y) (asked x y h g)
  · exact outT_run ft_ok dt_ok (out5_9_2 x y) (asked x y h g)
  · exact outT_run ft_ok dt_ok (out5_9_3 x y) (asked x y h g)
  · exact outT_run ft_ok dt_ok (out5_9_4 x y) (asked x y h g)
theorem runs_10 (x y : Int) (h : x % 12 = 10) : ∃ hp', run EE 3001 5 [.fv (.int .i64 x), .fv (.int .i64 y)] ⟨[], []⟩ = some (.fv (.bool true), hp') := by
  have h1 := Int.emod_nonneg y (show (5 : Int) ≠ 0 by decide)
  have h2 := Int.emod_lt_of_pos y (show (0 : Int) < 5 by decide)
  have : y % 5 = 0 ∨ y % 5 = 1 ∨ y % 5 = 2 ∨ y % 5 = 3 ∨ y % 5 = 4 := by omega
  rcases this with g | g | g | g | g
  · exact outT_run ft_ok dt_ok (out5_10_0 x y) (asked x y h g)
  · exact outT_run ft_ok dt_ok (out5_10_1 x y) (asked x y h g)
  · exact outT_run ft_ok dt_ok (out5_10_2 x y) (asked x y h g)
  · exact outT_run ft_ok dt_ok (out5_10_3 x y) (asked x y h g)
  · exact outT_run ft_ok dt_ok (out5_10_4 x y) (asked x y h g)
theorem runs_11 (x y : Int) (h : x % 12 = 11) : ∃ hp', run EE 3001 5 [.fv (.int .i64 x), .fv (.int .i64 y)] ⟨[], []⟩ = some (.fv (.bool true), hp') := by
  have h1 := Int.emod_nonneg y (show (5 : Int) ≠ 0 by decide)
  have h2 := Int.emod_lt_of_pos y (show (0 : Int) < 5 by decide)
  have : y % 5 = 0 ∨ y % 5 = 1 ∨ y % 5 = 2 ∨ y % 5 = 3 ∨ y % 5 = 4 := by omega
  rcases this with g | g | g | g | g
  · exact outT_run ft_ok dt_ok (out5_11_0 x y) (asked x y h g)
  · exact outT_run ft_ok dt_ok (out5_11_1 x y) (asked x y h g)
  · exact outT_run ft_ok dt_ok (out5_11_2 x y) (asked x y h g)
  · exact outT_run ft_ok dt_ok (out5_11_3 x y) (asked x y h g)
  · exact outT_run ft_ok dt_ok (out5_11_4 x y) (asked x y h g)
theorem runs (x y : Int) : ∃ hp', run EE 3001 5 [.fv (.int .i64 x), .fv (.int .i64 y)] ⟨[], []⟩ = some (.fv (.bool true), hp') := by
  have h1 := Int.emod_nonneg x (show (12 : Int) ≠ 0 by decide)
  have h2 := Int.emod_lt_of_pos x (show (0 : Int) < 12 by decide)
  have : x % 12 = 0 ∨ x % 12 = 1 ∨ x % 12 = 2 ∨ x % 12 = 3 ∨ x % 12 = 4 ∨ x % 12 = 5 ∨ x % 12 = 6 ∨ x % 12 = 7 ∨ x % 12 = 8 ∨ x % 12 = 9 ∨ x % 12 = 10 ∨ x % 12 = 11 := by omega
  rcases this with h | h | h | h | h | h | h | h | h | h | h | h
  · exact runs_0 x y h
  · exact runs_1 x y h
  · exact runs_2 x y h
  · exact runs_3 x y h
  · exact runs_4 x y h
  · exact runs_5 x y h
  · exact runs_6 x y h
  · exact runs_7 x y h
  · exact runs_8 x y h
  · exact runs_9 x y h
  · exact runs_10 x y h
  · exact runs_11 x y h

theorem two_int {w : World} {k : IntKind} {x y : Int} : SlotsR (fun _ => 0) w (all w) ⟨[], []⟩ [.fv (.int k x), .fv (.int k y)] #[.int k x, .int k y] := by
  refine ⟨rfl, fun i v hv => ?_⟩
  cases i with
  | zero => simp at hv; subst hv; exact .fv _ _ (.int k x)
  | succ i => cases i with
    | zero => simp at hv; subst hv; exact .fv _ _ (.int k y)
    | succ i => simp at hv

theorem walk (a0 a1 : Int) (w : World) : Calls Try.prog 5 #[.int .i64 a0, .int .i64 a1] w fun e w' => e = .returned (.bool true) ∧ Grown w w' := by
  obtain ⟨hp', h⟩ := runs a0 a1
  exact law_calls (E := EE) ee_ok two_int h

set_option maxRecDepth 100000 in
theorem contract (H : Type) (enc : TypeId × Value → H) (W : World) (base : Nat) (args : Array Value) (ds gs : List (DataW H)) (before : List MemPlace)
    (hval : ∀ (j : Nat) t v, Try.f5.params[j]? = some t → args[j]? = some v → Value.okWide Try.prog W .any base t v)
    (hW : DataW.Whole enc Try.prog Try.f5.params.toList Rows.kernelRecSpec.vars false W args.toList ds gs before) :
    Calls Try.prog 5 args W fun e W' => ∃ v, e = .returned v ∧ Rows.kernelRecSpec.post enc Try.prog Try.f5 false true false false W args v W' := by
  have hW' := hW
  obtain ⟨p, q, hA0, hV, rfl, hfz, hnd⟩ := hW
  have hA : DataW.TrodAll enc Try.prog W 0 (fun _ => true) true Try.f5.params.toList args.toList ds p := hA0
  rw [Try.params5] at hA hval
  obtain ⟨v0, vs0, d0, ds0, p0, q0, hargs, rfl, rfl, h0, r0⟩ := trodAll_cons hA
  obtain ⟨v1, vs1, d1, ds1, p1, q1, hargs1, rfl, rfl, h1, r1⟩ := trodAll_cons r0
  obtain ⟨rfl, rfl, rfl⟩ := trodAll_nil r1
  obtain rfl : args = #[v0, v1] := by cases args; simp_all
  obtain ⟨rfl, rfl⟩ := trodVars_none hV
  obtain ⟨a0, rfl, rfl, rfl, w0⟩ := open_int Try.underlying3 (hval 0 3 v0 rfl rfl) h0
  obtain ⟨a1, rfl, rfl, rfl, w1⟩ := open_int Try.underlying3 (hval 1 3 v1 rfl rfl) h1
  clear hA0
  simp only [List.append_nil] at hW'
  refine (walk a0 a1 W).mono fun e W' ⟨he, hg⟩ => ?_
  subst he
  exact ⟨_, rfl, post_of_same (pa := []) (pv := []) hW' (fun _ _ _ => (trodAll_cons_mk (shut_bool Try.underlying4 _) trodAll_mk0)) (fun sp _ => (trodAll_cons_mk (shut_int Try.underlying3 w0) (trodAll_cons_mk (shut_int Try.underlying3 w1) trodAll_mk0))) (fun _ _ => rfl) rfl
    (hg.frame _) hg.2.1 (ok_one (by kernel_rfl) rfl (okWide_bool_mk Try.underlying4 _))⟩

set_option maxRecDepth 100000 in
theorem lifted (os : Os) (started : os.Started) (H : Type) (enc : TypeId × Value → H) :
    ReturnsInHanded {} Try.checked os 5 .any (Rows.kernelRecSpec.pre6 enc Try.prog Try.f5 Rows.kernelRecRow.domain false) (Rows.kernelRecSpec.post enc Try.prog Try.f5 false true false false) := by
  refine returnsInHanded_of_change (C := Try.checked) (s := Rows.kernelRecSpec) own started (by kernel_rfl) Try.func5
    (ChangeSpec.witness6 (enc := enc) (C := Try.checked) (s := Rows.kernelRecSpec) false ⟨#[], #[.int .i64 0, .int .i64 0], []⟩ 8 (by kernel_rfl) (by kernel_rfl) (by kernel_rfl) (by kernel_rfl)) ?_
  intro W base args ds gs before hval hW _ _
  exact contract H enc W base args ds gs before hval hW

theorem over : Rows.kernelRecRow.holds Try.pinned (OpenSpec.ofChange Rows.kernelRecSpec) :=
  OpenClaim.holds_of_wide 5 Try.f5 rfl rfl rfl rfl rfl rfl rfl ⟨rfl, rfl, rfl, rfl, rfl⟩ rfl rfl rfl rfl rfl (by kernel_rfl) Try.func5 (by kernel_rfl)
    (of_decide_eq_true (by kernel_rfl)) (by unfold Func.isWrapper; first | (rw [if_pos (by decide +kernel)]; kernel_rfl) | (rw [if_neg (by decide +kernel)]; exact ⟨rfl, rfl⟩))
    (fun os started H enc _ => lifted os started H enc)

theorem proved : Rows.KernelRecSaid :=
  over
end Go.Proofs.Ytnenpcghegcnhaa.kernelRec

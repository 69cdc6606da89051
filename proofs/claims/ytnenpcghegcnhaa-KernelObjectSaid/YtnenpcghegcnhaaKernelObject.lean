/-
  The law 'KernelObject' holds: for every number it answers true, and its argument reads as it did.
-/
import Derived.Test.YtnenpcghegcnhaaRows
import Derived.WalkKit
import Derived.ProofKit
import Derived.OpenShut
import Derived.Test.YtnenpcghegcnhaaWithin
import Derived.Test.YtnenpcghegcnhaaObject0
import Derived.Test.YtnenpcghegcnhaaObject1
namespace Go.Proofs.Ytnenpcghegcnhaa.kernelObject
open Go.ChangeShapes Go.WideShapes Go.ChangeAt Go.RowKit
open Go.Proofs.Ytnenpcghegcnhaa.Idl
set_option linter.unusedVariables false

theorem own : ownKnob Try.prog.godebug = none := by kernel_rfl

theorem asked (x : Int) {k : Int} (hk : x % 27 = k) : Stand (run EE 3000) 12 [([.fv (.int .i64 x), .fv (.int .i64 27)], k)] := by
  intro q hq
  rcases List.mem_cons.1 hq with rfl | hq
  · have := within_run 2999 x 27 (by decide) (by decide) (by kernel_rfl)
    rw [show ((27 : Nat) : Int) = 27 from rfl, hk] at this
    exact this
  · cases hq
theorem runs (x : Int) : ∃ hp', run EE 3001 4 [.fv (.int .i64 x)] ⟨[], []⟩ = some (.fv (.bool true), hp') := by
  have h1 := Int.emod_nonneg x (show (27 : Int) ≠ 0 by decide)
  have h2 := Int.emod_lt_of_pos x (show (0 : Int) < 27 by decide)
  have : x % 27 = 0 ∨ x % 27 = 1 ∨ x % 27 = 2 ∨ x % 27 = 3 ∨ x % 27 = 4 ∨ x % 27 = 5 ∨ x % 27 = 6 ∨ x % 27 = 7 ∨ x % 27 = 8 ∨ x % 27 = 9 ∨ x % 27 = 10 ∨ x % 27 = 11 ∨ x % 27 = 12 ∨ x % 27 = 13 ∨ x % 27 = 14 ∨ x % 27 = 15 ∨ x % 27 = 16 ∨ x % 27 = 17 ∨ x % 27 = 18 ∨ x % 27 = 19 ∨ x % 27 = 20 ∨ x % 27 = 21 ∨ x % 27 = 22 ∨ x % 27 = 23 ∨ x % 27 = 24 ∨ x % 27 = 25 ∨ x % 27 = 26 := by omega
  rcases this with h | h | h | h | h | h | h | h | h | h | h | h | h | h | h | h | h | h | h | h | h | h | h | h | h | h | h
  · exact outT_run ft_ok dt_ok (out4_0 x) (asked x h)
  · exact outT_run ft_ok dt_ok (out4_1 x) (asked x h)
  · exact outT_run ft_ok dt_ok (out4_2 x) (asked x h)
  · exact outT_run ft_ok dt_ok (out4_3 x) (asked x h)
  · exact outT_run ft_ok dt_ok (out4_4 x) (asked x h)
  · exact outT_run ft_ok dt_ok (out4_5 x) (asked x h)
  · exact outT_run ft_ok dt_ok (out4_6 x) (asked x h)
  · exact outT_run ft_ok dt_ok (out4_7 x) (asked x h)
  · exact outT_run ft_ok dt_ok (out4_8 x) (asked x h)
  · exact outT_run ft_ok dt_ok (out4_9 x) (asked x h)
  · exact outT_run ft_ok dt_ok (out4_10 x) (asked x h)
  · exact outT_run ft_ok dt_ok (out4_11 x) (asked x h)
  · exact outT_run ft_ok dt_ok (out4_12 x) (asked x h)
  · exact outT_run ft_ok dt_ok (out4_13 x) (asked x h)
  · exact outT_run ft_ok dt_ok (out4_14 x) (asked x h)
  · exact outT_run ft_ok dt_ok (out4_15 x) (asked x h)
  · exact outT_run ft_ok dt_ok (out4_16 x) (asked x h)
  · exact outT_run ft_ok dt_ok (out4_17 x) (asked x h)
  · exact outT_run ft_ok dt_ok (out4_18 x) (asked x h)
  · exact outT_run ft_ok dt_ok (out4_19 x) (asked x h)
  · exact outT_run ft_ok dt_ok (out4_20 x) (asked x h)
  · exact outT_run ft_ok dt_ok (out4_21 x) (asked x h)
  · exact outT_run ft_ok dt_ok (out4_22 x) (asked x h)
  · exact outT_run ft_ok dt_ok (out4_23 x) (asked x h)
  · exact outT_run ft_ok dt_ok (out4_24 x) (asked x h)
  · exact outT_run ft_ok dt_ok (out4_25 x) (asked x h)
  · exact outT_run ft_ok dt_ok (out4_26 x) (asked x h)

theorem walk (a0 : Int) (w : World) : Calls Try.prog 4 #[.int .i64 a0] w fun e w' => e = .returned (.bool true) ∧ Grown w w' := by
  obtain ⟨hp', h⟩ := runs a0
  exact law_calls (E := EE) ee_ok one_int h

set_option maxRecDepth 100000 in
theorem contract (H : Type) (enc : TypeId × Value → H) (W : World) (base : Nat) (args : Array Value) (ds gs : List (DataW H)) (before : List MemPlace)
    (hval : ∀ (j : Nat) t v, Try.f4.params[j]? = some t → args[j]? = some v → Value.okWide Try.prog W .any base t v)
    (hW : DataW.Whole enc Try.prog Try.f4.params.toList Rows.kernelObjectSpec.vars false W args.toList ds gs before) :
    Calls Try.prog 4 args W fun e W' => ∃ v, e = .returned v ∧ Rows.kernelObjectSpec.post enc Try.prog Try.f4 false true false false W args v W' := by
  have hW' := hW
  obtain ⟨p, q, hA0, hV, rfl, hfz, hnd⟩ := hW
  have hA : DataW.TrodAll enc Try.prog W 0 (fun _ => true) true Try.f4.params.toList args.toList ds p := hA0
  rw [Try.params4] at hA hval
  obtain ⟨v0, vs0, d0, ds0, p0, q0, hargs, rfl, rfl, h0, r0⟩ := trodAll_cons hA
  obtain ⟨rfl, rfl, rfl⟩ := trodAll_nil r0
  obtain rfl : args = #[v0] := by cases args; simp_all
  obtain ⟨rfl, rfl⟩ := trodVars_none hV
  obtain ⟨a0, rfl, rfl, rfl, w0⟩ := open_int Try.underlying3 (hval 0 3 v0 rfl rfl) h0
  clear hA0
  simp only [List.append_nil] at hW'
  refine (walk a0 W).mono fun e W' ⟨he, hg⟩ => ?_
  subst he
  exact ⟨_, rfl, post_of_same (pa := []) (pv := []) hW' (fun _ _ _ => (trodAll_cons_mk (shut_bool Try.underlying4 _) trodAll_mk0)) (fun sp _ => (trodAll_cons_mk (shut_int Try.underlying3 w0) trodAll_mk0)) (fun _ _ => rfl) rfl
    (hg.frame _) hg.2.1 (ok_one (by kernel_rfl) rfl (okWide_bool_mk Try.underlying4 _))⟩

set_option maxRecDepth 100000 in
theorem lifted (os : Os) (started : os.Started) (H : Type) (enc : TypeId × Value → H) :
    ReturnsInHanded {} Try.checked os 4 .any (Rows.kernelObjectSpec.pre6 enc Try.prog Try.f4 Rows.kernelObjectRow.domain false) (Rows.kernelObjectSpec.post enc Try.prog Try.f4 false true false false) := by
  refine returnsInHanded_of_change (C := Try.checked) (s := Rows.kernelObjectSpec) own started (by kernel_rfl) Try.func4
    (ChangeSpec.witness6 (enc := enc) (C := Try.checked) (s := Rows.kernelObjectSpec) false ⟨#[], #[.int .i64 0], []⟩ 8 (by kernel_rfl) (by kernel_rfl) (by kernel_rfl) (by kernel_rfl)) ?_
  intro W base args ds gs before hval hW _ _
  exact contract H enc W base args ds gs before hval hW

theorem over : Rows.kernelObjectRow.holds Try.pinned (OpenSpec.ofChange Rows.kernelObjectSpec) :=
  OpenClaim.holds_of_wide 4 Try.f4 rfl rfl rfl rfl rfl rfl rfl ⟨rfl, rfl, rfl, rfl, rfl⟩ rfl rfl rfl rfl rfl (by kernel_rfl) Try.func4 (by kernel_rfl)
    (of_decide_eq_true (by kernel_rfl)) (by unfold Func.isWrapper; first | (rw [if_pos (by decide +kernel)]; kernel_rfl) | (rw [if_neg (by decide +kernel)]; exact ⟨rfl, rfl⟩))
    (fun os started H enc _ => lifted os started H enc)

theorem proved : Rows.KernelObjectSaid :=
  over
end Go.Proofs.Ytnenpcghegcnhaa.kernelObject

/-
  The law 'KernelMeta' holds: for every number it answers true, and its argument reads as it did.
-/
import Derived.Test.YtnenpcghegcnhaaRows
import Derived.WalkKit
import Derived.ProofKit
import Derived.OpenShut
import Derived.Test.YtnenpcghegcnhaaWithin
import Derived.Test.YtnenpcghegcnhaaMeta0
import Derived.Test.YtnenpcghegcnhaaMeta1
namespace Go.Proofs.Ytnenpcghegcnhaa.kernelMeta
open Go.ChangeShapes Go.WideShapes Go.ChangeAt Go.RowKit
open Go.Proofs.Ytnenpcghegcnhaa.Idl
set_option linter.unusedVariables false

theorem own : ownKnob Try.prog.godebug = none := by kernel_rfl

theorem asked (x : Int) {k : Int} (hk : x % 34 = k) : Stand (run EE 3000) 12 [([.fv (.int .i64 x), .fv (.int .i64 34)], k)] := by
  intro q hq
  rcases List.mem_cons.1 hq with rfl | hq
  · have := within_run 2999 x 34 (by decide) (by decide) (by kernel_rfl)
    rw [show ((34 : Nat) : Int) = 34 from rfl, hk] at this
    exact this
  · cases hq
theorem runs (x : Int) : ∃ hp', run EE 3001 3 [.fv (.int .i64 x)] ⟨[], []⟩ = some (.fv (.bool true), hp') := by
  have h1 := Int.emod_nonneg x (show (34 : Int) ≠ 0 by decide)
  have h2 := Int.emod_lt_of_pos x (show (0 : Int) < 34 by decide)
  have : x % 34 = 0 ∨ x % 34 = 1 ∨ x % 34 = 2 ∨ x % 34 = 3 ∨ x % 34 = 4 ∨ x % 34 = 5 ∨ x % 34 = 6 ∨ x % 34 = 7 ∨ x % 34 = 8 ∨ x % 34 = 9 ∨ x % 34 = 10 ∨ x % 34 = 11 ∨ x % 34 = 12 ∨ x % 34 = 13 ∨ x % 34 = 14 ∨ x % 34 = 15 ∨ x % 34 = 16 ∨ x % 34 = 17 ∨ x % 34 = 18 ∨ x % 34 = 19 ∨ x % 34 = 20 ∨ x % 34 = 21 ∨ x % 34 = 22 ∨ x % 34 = 23 ∨ x % 34 = 24 ∨ x % 34 = 25 ∨ x % 34 = 26 ∨ x % 34 = 27 ∨ x % 34 = 28 ∨ x % 34 = 29 ∨ x % 34 = 30 ∨ x % 34 = 31 ∨ x % 34 = 32 ∨ x % 34 = 33 := by omega
  rcases this with h | h | h | h | h | h | h | h | h | h | h | h | h | h | h | h | h | h | h | h | h | h | h | h | h | h | h | h | h | h | h | h | h | h
  · exact outT_run ft_ok dt_ok (out3_0 x) (asked x h)
  · exact outT_run ft_ok dt_ok (out3_1 x) (asked x h)
  · exact outT_run ft_ok dt_ok (out3_2 x) (asked x h)
  · exact outT_run ft_ok dt_ok (out3_3 x) (asked x h)
  · exact outT_run ft_ok dt_ok (out3_4 x) (asked x h)
  · exact outT_run ft_ok dt_ok (out3_5 x) (asked x h)
  · exact outT_run ft_ok dt_ok (out3_6 x) (asked x h)
  · exact outT_run ft_ok dt_ok (out3_7 x) (asked x h)
  · exact outT_run ft_ok dt_ok (out3_8 x) (asked x h)
  · exact outT_run ft_ok dt_ok (out3_9 x) (asked x h)
  · exact outT_run ft_ok dt_ok (out3_10 x) (asked x h)
  · exact outT_run ft_ok dt_ok (out3_11 x) (asked x h)
  · exact outT_run ft_ok dt_ok (out3_12 x) (asked x h)
  · exact outT_run ft_ok dt_ok (out3_13 x) (asked x h)
  · exact outT_run ft_ok dt_ok (out3_14 x) (asked x h)
  · exact outT_run ft_ok dt_ok (out3_15 x) (asked x h)
  · exact outT_run ft_ok dt_ok (out3_16 x) (asked x h)
  · exact outT_run ft_ok dt_ok (out3_17 x) (asked x h)
  · exact outT_run ft_ok dt_ok (out3_18 x) (asked x h)
  · exact outT_run ft_ok dt_ok (out3_19 x) (asked x h)
  · exact outT_run ft_ok dt_ok (out3_20 x) (asked x h)
  · exact outT_run ft_ok dt_ok (out3_21 x) (asked x h)
  · exact outT_run ft_ok dt_ok (out3_22 x) (asked x h)
  · exact outT_run ft_ok dt_ok (out3_23 x) (asked x h)
  · exact outT_run ft_ok dt_ok (out3_24 x) (asked x h)
  · exact outT_run ft_ok dt_ok (out3_25 x) (asked x h)
  · exact outT_run ft_ok dt_ok (out3_26 x) (asked x h)
  · exact outT_run ft_ok dt_ok (out3_27 x) (asked x h)
  · exact outT_run ft_ok dt_ok (out3_28 x) (asked x h)
  · exact outT_run ft_ok dt_ok (out3_29 x) (asked x h)
  · exact outT_run ft_ok dt_ok (out3_30 x) (asked x h)
  · exact outT_run ft_ok dt_ok (out3_31 x) (asked x h)
  · exact outT_run ft_ok dt_ok (out3_32 x) (asked x h)
  · exact outT_run ft_ok dt_ok (out3_33 x) (asked x h)

theorem walk (a0 : Int) (w : World) : Calls Try.prog 3 #[.int .i64 a0] w fun e w' => e = .returned (.bool true) ∧ Grown w w' := by
  obtain ⟨hp', h⟩ := runs a0
  exact law_calls (E := EE) ee_ok one_int h

set_option maxRecDepth 100000 in
theorem contract (H : Type) (enc : TypeId × Value → H) (W : World) (base : Nat) (args : Array Value) (ds gs : List (DataW H)) (before : List MemPlace)
    (hval : ∀ (j : Nat) t v, Try.f3.params[j]? = some t → args[j]? = some v → Value.okWide Try.prog W .any base t v)
    (hW : DataW.Whole enc Try.prog Try.f3.params.toList Rows.kernelMetaSpec.vars false W args.toList ds gs before) :
    Calls Try.prog 3 args W fun e W' => ∃ v, e = .returned v ∧ Rows.kernelMetaSpec.post enc Try.prog Try.f3 false true false false W args v W' := by
  have hW' := hW
  obtain ⟨p, q, hA0, hV, rfl, hfz, hnd⟩ := hW
  have hA : DataW.TrodAll enc Try.prog W 0 (fun _ => true) true Try.f3.params.toList args.toList ds p := hA0
  rw [Try.params3] at hA hval
  obtain ⟨v0, vs0, d0, ds0, p0, q0, hargs, rfl, rfl, h0, r0⟩ := trodAll_cons hA
  obtain ⟨rfl, rfl, rfl⟩ := trodAll_nil r0
  obtain rfl : args = #[v0] := by cases args; simp_all
  obtain ⟨rfl, rfl⟩ := trodVars_none hV
  obtain ⟨a0, rfl, rfl, rfl, w0⟩ := open_int Try.underlying3 (hval 0 3 v0 rfl rfl) h0
  clear hA0
  simp only [List.append_nil] at hW'
  refine (walk a0 W).mono fun e W' ⟨he, hg⟩ => ?_
  subst he
  exact ⟨_, rfl, post_of_same (pa := []) (pv := []) hW' (fun _ _ _ => (trodAll_cons_mk (shut_bool Try.underlying4 _) trodAll_mk0)) (fun sp _ => (trodAll_cons_mk (shut_int Try.underlying3 w0) trodAll_mk0)) (fun _ _ => rfl) rfl
    (hg.frame _) hg.2.1 (ok_one (by kernel_rfl) rfl (okWide_bool_mk Try.underlying4 _))⟩

set_option maxRecDepth 100000 in
theorem lifted (os : Os) (started : os.Started) (H : Type) (enc : TypeId × Value → H) :
    ReturnsInHanded {} Try.checked os 3 .any (Rows.kernelMetaSpec.pre6 enc Try.prog Try.f3 Rows.kernelMetaRow.domain false) (Rows.kernelMetaSpec.post enc Try.prog Try.f3 false true false false) := by
  refine returnsInHanded_of_change (C := Try.checked) (s := Rows.kernelMetaSpec) own started (by kernel_rfl) Try.func3
    (ChangeSpec.witness6 (enc := enc) (C := Try.checked) (s := Rows.kernelMetaSpec) false ⟨#[], #[.int .i64 0], []⟩ 8 (by kernel_rfl) (by kernel_rfl) (by kernel_rfl) (by kernel_rfl)) ?_
  intro W base args ds gs before hval hW _ _
  exact contract H enc W base args ds gs before hval hW

theorem over : Rows.kernelMetaRow.holds Try.pinned (OpenSpec.ofChange Rows.kernelMetaSpec) :=
  OpenClaim.holds_of_wide 3 Try.f3 rfl rfl rfl rfl rfl rfl rfl ⟨rfl, rfl, rfl, rfl, rfl⟩ rfl rfl rfl rfl rfl (by kernel_rfl) Try.func3 (by kernel_rfl)
    (of_decide_eq_true (by kernel_rfl)) (by unfold Func.isWrapper; first | (rw [if_pos (by decide +kernel)]; kernel_rfl) | (rw [if_neg (by decide +kernel)]; exact ⟨rfl, rfl⟩))
    (fun os started H enc _ => lifted os started H enc)

theorem proved : Rows.KernelMetaSaid :=
  over
end Go.Proofs.Ytnenpcghegcnhaa.kernelMeta

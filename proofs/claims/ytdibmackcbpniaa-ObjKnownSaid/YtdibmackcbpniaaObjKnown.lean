/-
  The law 'ObjKnown' holds: for every number it answers true, and its argument reads as it did.
-/
import Derived.Test.YtdibmackcbpniaaRows
import Derived.WalkKit
import Derived.ProofKit
import Derived.OpenShut
import Derived.Test.YtdibmackcbpniaaWithin
import Derived.Test.YtdibmackcbpniaaKnown
namespace Go.Proofs.Ytdibmackcbpniaa.objKnown
open Go.ChangeShapes Go.WideShapes Go.ChangeAt Go.RowKit
open Go.Proofs.Ytdibmackcbpniaa.Idl
set_option linter.unusedVariables false

theorem own : ownKnob Try.prog.godebug = none := by kernel_rfl

theorem asked (x : Int) {k : Int} (hk : x % 23 = k) : Stand (run EE 3000) 23 [([.fv (.int .i64 x), .fv (.int .i64 23)], k)] := by
  intro q hq
  rcases List.mem_cons.1 hq with rfl | hq
  · have := within_run 2999 x 23 (by decide) (by decide) (by kernel_rfl)
    rw [show ((23 : Nat) : Int) = 23 from rfl, hk] at this
    exact this
  · cases hq
theorem runs (x : Int) : ∃ hp', run EE 3001 10 [.fv (.int .i64 x)] ⟨[], []⟩ = some (.fv (.bool true), hp') := by
  have h1 := Int.emod_nonneg x (show (23 : Int) ≠ 0 by decide)
  have h2 := Int.emod_lt_of_pos x (show (0 : Int) < 23 by decide)
  have : x % 23 = 0 ∨ x % 23 = 1 ∨ x % 23 = 2 ∨ x % 23 = 3 ∨ x % 23 = 4 ∨ x % 23 = 5 ∨ x % 23 = 6 ∨ x % 23 = 7 ∨ x % 23 = 8 ∨ x % 23 = 9 ∨ x % 23 = 10 ∨ x % 23 = 11 ∨ x % 23 = 12 ∨ x % 23 = 13 ∨ x % 23 = 14 ∨ x % 23 = 15 ∨ x % 23 = 16 ∨ x % 23 = 17 ∨ x % 23 = 18 ∨ x % 23 = 19 ∨ x % 23 = 20 ∨ x % 23 = 21 ∨ x % 23 = 22 := by omega
  rcases this with h | h | h | h | h | h | h | h | h | h | h | h | h | h | h | h | h | h | h | h | h | h | h
  · exact outT_run ft_ok dt_ok (out10_0 x) (asked x h)
  · exact outT_run ft_ok dt_ok (out10_1 x) (asked x h)
  · exact outT_run ft_ok dt_ok (out10_2 x) (asked x h)
  · exact outT_run ft_ok dt_ok (out10_3 x) (asked x h)
  · exact outT_run ft_ok dt_ok (out10_4 x) (asked x h)
  · exact outT_run ft_ok dt_ok (out10_5 x) (asked x h)
  · exact outT_run ft_ok dt_ok (out10_6 x) (asked x h)
  · exact outT_run ft_ok dt_ok (out10_7 x) (asked x h)
  · exact outT_run ft_ok dt_ok (out10_8 x) (asked x h)
  · exact outT_run ft_ok dt_ok (out10_9 x) (asked x h)
  · exact outT_run ft_ok dt_ok (out10_10 x) (asked x h)
  · exact outT_run ft_ok dt_ok (out10_11 x) (asked x h)
  · exact outT_run ft_ok dt_ok (out10_12 x) (asked x h)
  · exact outT_run ft_ok dt_ok (out10_13 x) (asked x h)
  · exact outT_run ft_ok dt_ok (out10_14 x) (asked x h)
  · exact outT_run ft_ok dt_ok (out10_15 x) (asked x h)
  · exact outT_run ft_ok dt_ok (out10_16 x) (asked x h)
  · exact outT_run ft_ok dt_ok (out10_17 x) (asked x h)
  · exact outT_run ft_ok dt_ok (out10_18 x) (asked x h)
  · exact outT_run ft_ok dt_ok (out10_19 x) (asked x h)
  · exact outT_run ft_ok dt_ok (out10_20 x) (asked x h)
  · exact outT_run ft_ok dt_ok (out10_21 x) (asked x h)
  · exact outT_run ft_ok dt_ok (out10_22 x) (asked x h)

theorem walk (a0 : Int) (w : World) : Calls Try.prog 10 #[.int .i64 a0] w fun e w' => e = .returned (.bool true) ∧ Grown w w' := by
  obtain ⟨hp', h⟩ := runs a0
  exact law_calls (E := EE) ee_ok one_int h

set_option maxRecDepth 100000 in
theorem contract (H : Type) (enc : TypeId × Value → H) (W : World) (base : Nat) (args : Array Value) (ds gs : List (DataW H)) (before : List MemPlace)
    (hval : ∀ (j : Nat) t v, Try.f10.params[j]? = some t → args[j]? = some v → Value.okWide Try.prog W .any base t v)
    (hW : DataW.Whole enc Try.prog Try.f10.params.toList Rows.objKnownSpec.vars false W args.toList ds gs before) :
    Calls Try.prog 10 args W fun e W' => ∃ v, e = .returned v ∧ Rows.objKnownSpec.post enc Try.prog Try.f10 false true false false W args v W' := by
  have hW' := hW
  obtain ⟨p, q, hA0, hV, rfl, hfz, hnd⟩ := hW
  have hA : DataW.TrodAll enc Try.prog W 0 (fun _ => true) true Try.f10.params.toList args.toList ds p := hA0
  rw [Try.params10] at hA hval
  obtain ⟨v0, vs0, d0, ds0, p0, q0, hargs, rfl, rfl, h0, r0⟩ := trodAll_cons hA
  obtain ⟨rfl, rfl, rfl⟩ := trodAll_nil r0
  obtain rfl : args = #[v0] := by cases args; simp_all
  obtain ⟨rfl, rfl⟩ := trodVars_none hV
  obtain ⟨a0, rfl, rfl, rfl, w0⟩ := open_int Try.underlying3 (hval 0 3 v0 rfl rfl) h0
  clear hA0
  simp only [List.append_nil] at hW'
  refine (walk a0 W).mono fun e W' ⟨he, hg⟩ => ?_
  subst he
  exact ⟨_, rfl, post_of_same (pa := []) (pv := []) hW' (fun _ _ _ => (trodAll_cons_mk (shut_bool Try.underlying4 _) trodAll_mk0)) (fun sp _ => (trodAll_cons_mk (shut_int Try.underlying3 w0) trodAll_mk0)) (fun _ _ => rfl) rfl
    (hg.frame _) hg.2.1 (ok_one (by kernel_rfl) rfl (okWide_bool_mk Try.underlying4 _))⟩

set_option maxRecDepth 100000 in
theorem lifted (os : Os) (started : os.Started) (H : Type) (enc : TypeId × Value → H) :
    ReturnsInHanded {} Try.checked os 10 .any (Rows.objKnownSpec.pre6 enc Try.prog Try.f10 Rows.objKnownRow.domain false) (Rows.objKnownSpec.post enc Try.prog Try.f10 false true false false) := by
  refine returnsInHanded_of_change (C := Try.checked) (s := Rows.objKnownSpec) own started (by kernel_rfl) Try.func10
    (ChangeSpec.witness6 (enc := enc) (C := Try.checked) (s := Rows.objKnownSpec) false ⟨#[], #[.int .i64 0], []⟩ 8 (by kernel_rfl) (by kernel_rfl) (by kernel_rfl) (by kernel_rfl)) ?_
  intro W base args ds gs before hval hW _ _
  exact contract H enc W base args ds gs before hval hW

theorem over : Rows.objKnownRow.holds Try.pinned (OpenSpec.ofChange Rows.objKnownSpec) :=
  OpenClaim.holds_of_wide 10 Try.f10 rfl rfl rfl rfl rfl rfl rfl ⟨rfl, rfl, rfl, rfl, rfl⟩ rfl rfl rfl rfl rfl (by kernel_rfl) Try.func10 (by kernel_rfl)
    (of_decide_eq_true (by kernel_rfl)) (by unfold Func.isWrapper; first | (rw [if_pos (by decide +kernel)]; kernel_rfl) | (rw [if_neg (by decide +kernel)]; exact ⟨rfl, rfl⟩))
    (fun os started H enc _ => lifted os started H enc)

theorem proved : Rows.ObjKnownSaid :=
  over
end Go.Proofs.Ytdibmackcbpniaa.objKnown

/-
  'within' of the laws, in the ideal semantics: a number's remainder, not below nought. No statement is proved here.
-/
import Derived.Test.YtbkdidonegggdaaTab
import Derived.Test.YtbkdidonegggdaaIdl25
namespace Go.Proofs.Ytbkdidonegggdaa
namespace Idl
noncomputable def partL : Code → Code
  | .seq a _ => a
  | c => c
noncomputable def partR : Code → Code
  | .seq _ b => b
  | c => c
noncomputable def condT : Code → Code
  | .cond _ a _ => a
  | c => c
noncomputable def bodyOf (fn : Func) : Code := fn.body.getD .skip
theorem exec_seq {E : Env} {ih : Handler} {f k : Nat} {base : List Nat} {a b : Code} {S S' : St} (h : exec E ih f k base a S = some (.normal, S')) :
    exec E ih f k base (.seq a b) S = exec E ih f k base b S' := by simp only [exec, h]
theorem exec_cond {E : Env} {ih : Handler} {f k : Nat} {base : List Nat} {c : Operand} {a b : Code} {S : St} {t : Bool} (h : operand S.slots c = .fv (.bool t)) :
    exec E ih f k base (.cond c a b) S = if t then exec E ih f k base a S else exec E ih f k base b S := by
  cases t <;> simp only [exec, h] <;> rfl

noncomputable def wI (x : Int) : IV := .fv (.int .i64 x)
theorem within_parts : (bodyOf Try.f28) = .seq (partL (bodyOf Try.f28)) (.seq (partL (partR (bodyOf Try.f28))) (.seq (.seq (partL (partL (partR (partR (bodyOf Try.f28))))) (.cond (.tmp 10) (condT (partR (partL (partR (partR (bodyOf Try.f28)))))) .skip)) (.seq (partL (partR (partR (partR (bodyOf Try.f28))))) .ret))) := by kernel_rfl
theorem within_run (n : Nat) (x : Int) (m : Nat) (hm : 0 < m) (hm' : m < 1000000)
    (hb : exec EE (run EE n) 28 n [] (partL (partR (bodyOf Try.f28))) ⟨[wI x, wI m, .dead, .dead, wI 0, .dead, .dead, .dead, .dead, .dead, .dead, .dead, .dead, .dead, .dead], ⟨[], []⟩⟩ =
      some (.normal, ⟨[wI x, wI m, .dead, .dead, wI 0, wI (Int.tmod x m), wI x, wI m, wI (Int.tmod x m), .dead, .dead, .dead, .dead, .dead, .dead], ⟨[], []⟩⟩)) :
    run EE (n + 1) 28 [wI x, wI m] ⟨[], []⟩ = some (wI (x % m), ⟨[], []⟩) := by
  have h0 : run EE (n + 1) 28 [wI x, wI m] ⟨[], []⟩ = match exec EE (run EE n) 28 n [] (bodyOf Try.f28) ⟨[wI x, wI m, .dead, .dead, .dead, .dead, .dead, .dead, .dead, .dead, .dead, .dead, .dead, .dead, .dead], ⟨[], []⟩⟩ with
      | some (.ret, S) | some (.normal, S) => (resultOf EE S Try.f28.results.toList).map fun v => (v, S.hp)
      | _ => none := by kernel_rfl
  rw [h0, within_parts]
  have ha : exec EE (run EE n) 28 n [] (partL (bodyOf Try.f28)) ⟨[wI x, wI m, .dead, .dead, .dead, .dead, .dead, .dead, .dead, .dead, .dead, .dead, .dead, .dead, .dead], ⟨[], []⟩⟩ =
      some (.normal, ⟨[wI x, wI m, .dead, .dead, wI 0, .dead, .dead, .dead, .dead, .dead, .dead, .dead, .dead, .dead, .dead], ⟨[], []⟩⟩) := by kernel_rfl
  rw [exec_seq ha, exec_seq hb]
  have hc : exec EE (run EE n) 28 n [] (partL (partL (partR (partR (bodyOf Try.f28))))) ⟨[wI x, wI m, .dead, .dead, wI 0, wI (Int.tmod x m), wI x, wI m, wI (Int.tmod x m), .dead, .dead, .dead, .dead, .dead, .dead], ⟨[], []⟩⟩ =
      some (.normal, ⟨[wI x, wI m, .dead, .dead, wI 0, wI (Int.tmod x m), wI x, wI m, wI (Int.tmod x m), wI (Int.tmod x m), .fv (.bool (decide (Int.tmod x m < 0))), .dead, .dead, .dead, .dead], ⟨[], []⟩⟩) := by kernel_rfl
  by_cases hneg : Int.tmod x m < 0
  · have hd : exec EE (run EE n) 28 n [] (condT (partR (partL (partR (partR (bodyOf Try.f28)))))) ⟨[wI x, wI m, .dead, .dead, wI 0, wI (Int.tmod x m), wI x, wI m, wI (Int.tmod x m), wI (Int.tmod x m), .fv (.bool (decide (Int.tmod x m < 0))), .dead, .dead, .dead, .dead], ⟨[], []⟩⟩ =
        some (.normal, ⟨[wI x, wI m, .dead, .dead, wI 0, wI (IntKind.i64.wrap (Int.tmod x m + m)), wI x, wI m, wI (Int.tmod x m), wI (Int.tmod x m), .fv (.bool (decide (Int.tmod x m < 0))), wI (Int.tmod x m), wI m, wI (IntKind.i64.wrap (Int.tmod x m + m)), .dead], ⟨[], []⟩⟩) := by kernel_rfl
    have hcd := (exec_seq (b := .cond (.tmp 10) (condT (partR (partL (partR (partR (bodyOf Try.f28)))))) .skip) hc).trans ((exec_cond (t := decide (Int.tmod x m < 0)) (by rfl)).trans ((if_pos (by simpa using hneg)).trans hd))
    rw [exec_seq hcd]
    have he : (match exec EE (run EE n) 28 n [] (.seq (partL (partR (partR (partR (bodyOf Try.f28))))) .ret) ⟨[wI x, wI m, .dead, .dead, wI 0, wI (IntKind.i64.wrap (Int.tmod x m + m)), wI x, wI m, wI (Int.tmod x m), wI (Int.tmod x m), .fv (.bool (decide (Int.tmod x m < 0))), wI (Int.tmod x m), wI m, wI (IntKind.i64.wrap (Int.tmod x m + m)), .dead], ⟨[], []⟩⟩ with
      | some (.ret, S) | some (.normal, S) => (resultOf EE S Try.f28.results.toList).map fun v => (v, S.hp)
      | _ => none) = some (wI (IntKind.i64.wrap (Int.tmod x m + m)), ⟨[], []⟩) := by kernel_rfl
    rw [he]
    have h1 : Int.tmod x m + m = x % m := by
      have := Int.tmod_eq_emod (a := x) (b := (m : Int))
      have h2 := Int.emod_lt_of_pos x (show (0 : Int) < m by omega)
      have h3 := Int.emod_nonneg x (show (m : Int) ≠ 0 by omega)
      split at this <;> simp at this <;> omega
    rw [h1]
    have h2 := Int.emod_lt_of_pos x (show (0 : Int) < m by omega)
    have h3 := Int.emod_nonneg x (show (m : Int) ≠ 0 by omega)
    have : IntKind.i64.wrap (x % m) = x % m := by
      simp only [IntKind.wrap]
      simp [IntKind.signed, IntKind.bits]
      omega
    rw [this]
  · have hcd := (exec_seq (b := .cond (.tmp 10) (condT (partR (partL (partR (partR (bodyOf Try.f28)))))) .skip) hc).trans ((exec_cond (t := decide (Int.tmod x m < 0)) (by rfl)).trans ((if_neg (by simpa using hneg)).trans (show exec EE (run EE n) 28 n [] .skip _ = some (.normal, _) from rfl)))
    rw [exec_seq hcd]
    have he : (match exec EE (run EE n) 28 n [] (.seq (partL (partR (partR (partR (bodyOf Try.f28))))) .ret) ⟨[wI x, wI m, .dead, .dead, wI 0, wI (Int.tmod x m), wI x, wI m, wI (Int.tmod x m), wI (Int.tmod x m), .fv (.bool (decide (Int.tmod x m < 0))), .dead, .dead, .dead, .dead], ⟨[], []⟩⟩ with
      | some (.ret, S) | some (.normal, S) => (resultOf EE S Try.f28.results.toList).map fun v => (v, S.hp)
      | _ => none) = some (wI (Int.tmod x m), ⟨[], []⟩) := by kernel_rfl
    rw [he]
    have h1 : Int.tmod x m = x % m := by
      have := Int.tmod_eq_emod (a := x) (b := (m : Int))
      have h2 := Int.emod_lt_of_pos x (show (0 : Int) < m by omega)
      have h3 := Int.emod_nonneg x (show (m : Int) ≠ 0 by omega)
      split at this <;> simp at this <;> omega
    rw [h1]
end Idl
end Go.Proofs.Ytbkdidonegggdaa

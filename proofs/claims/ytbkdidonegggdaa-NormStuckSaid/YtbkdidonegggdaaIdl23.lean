/-
  A FASTER WAY TO RECKON AN IDEAL RUN: functions in a tree; the outcome.
-/
import Derived.Test.YtbkdidonegggdaaIdl22
namespace Go.Proofs.Ytbkdidonegggdaa
namespace Idl
inductive FTr where
  | nil
  | leaf (f : Nat) (fn : Func)
  | node (m : Nat) (l r : FTr)
noncomputable def FTr.get (t : FTr) : Nat → Option Func :=
  FTr.rec (motive := fun _ => Nat → Option Func) (fun _ => none) (fun j fn i => cond (Nat.beq i j) (some fn) none) (fun m _ _ gl gr i => cond (Nat.ble m i) (gr i) (gl i)) t
def FTr.leaves : FTr → List (Nat × Func)
  | .nil => []
  | .leaf f fn => [(f, fn)]
  | .node _ l r => l.leaves ++ r.leaves
theorem FTr.get_mem {t : FTr} {f : Nat} {fn : Func} (h : t.get f = some fn) : (f, fn) ∈ t.leaves := by
  induction t with
  | nil => cases h
  | leaf j g =>
    have h : cond (Nat.beq f j) (some g) none = some fn := h
    cases hb : Nat.beq f j with
    | false => rw [hb] at h; cases h
    | true =>
      rw [hb] at h
      simp only [cond, Option.some.injEq] at h
      subst h
      rw [Nat.eq_of_beq_eq_true hb]
      exact List.mem_cons_self
  | node m l r ihl ihr =>
    have h : cond (Nat.ble m f) (r.get f) (l.get f) = some fn := h
    simp only [FTr.leaves, List.mem_append]
    cases hb : Nat.ble m f with
    | true => rw [hb] at h; exact .inr (ihr h)
    | false => rw [hb] at h; exact .inl (ihl h)
theorem FTr.ok {P : Program} {t : FTr} (h : t.leaves.map (fun p => P.funcs[p.1]?) = t.leaves.map (fun p => some p.2)) : ∀ f fn, t.get f = some fn → P.funcs[f]? = some fn :=
  fun _ _ hf => List.map_inj_left.1 h _ (FTr.get_mem hf)

/-- The outcome of a run, reckoned. -/
noncomputable def outK (E : Env) (FT : FTr) (n : Nat) (f : FuncId) (args : List IV) : Option IV := runK E FT.get n f args ⟨[], []⟩ fun v _ => some v
theorem outK_run {E : Env} {FT : FTr} (hFT : ∀ f fn, FT.get f = some fn → E.P.funcs[f]? = some fn) {n : Nat} {f : FuncId} {args : List IV} {v : IV} (h : outK E FT n f args = some v) :
    ∃ hp', run E n f args ⟨[], []⟩ = some (v, hp') := by
  obtain ⟨r, hp', h1, h2⟩ := runK_ok (G := fun o => o = some v) (fun e => by cases e) hFT n f args ⟨[], []⟩ _ h
  simp only [Option.some.injEq] at h2
  subst h2
  exact ⟨hp', h1⟩
/-- Does it answer true? -/
noncomputable def trueK (E : Env) (FT : FTr) (n : Nat) (f : FuncId) (args : List IV) : Bool :=
  match outK E FT n f args with
  | some (.fv (.bool b)) => b
  | _ => false
theorem trueK_run {E : Env} {FT : FTr} (hFT : ∀ f fn, FT.get f = some fn → E.P.funcs[f]? = some fn) {n : Nat} {f : FuncId} {args : List IV} (h : trueK E FT n f args = true) :
    ∃ hp', run E n f args ⟨[], []⟩ = some (.fv (.bool true), hp') := by
  unfold trueK at h
  split at h
  · rename_i b hb
    subst h
    exact outK_run hFT hb
  · cases h
end Idl
end Go.Proofs.Ytbkdidonegggdaa

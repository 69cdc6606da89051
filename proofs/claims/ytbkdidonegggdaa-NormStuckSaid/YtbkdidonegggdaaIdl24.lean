/-
  A FASTER WAY TO RECKON AN IDEAL RUN: where one function's answers are handed in, as numbers.
-/
import Derived.Test.YtbkdidonegggdaaIdl23
namespace Go.Proofs.Ytbkdidonegggdaa
namespace Idl
/-- What is asked of that function; what it is said to answer. -/
abbrev Asks := List (List IV × Int)
abbrev KS := List Int → Option (Asks × IV)
noncomputable def saidK (W : FuncId) (R : KR KS) : KR KS := fun f args hp K =>
  cond (Nat.beq f W)
    (match hp with
      | ⟨[], []⟩ => some fun st => match st with
        | [] => none
        | k :: st => match K (.fv (.int .i64 k)) ⟨[], []⟩ with
          | none => none
          | some g => match g st with
            | none => none
            | some (log, v) => some ((args, k) :: log, v)
      | _ => none)
    (R f args hp K)
noncomputable def outS (E : Env) (FT : FTr) (W : FuncId) (n : Nat) (f : FuncId) (args : List IV) (st : List Int) : Option (Asks × IV) :=
  match callK E (saidK W (runK E FT.get n)) FT.get n f args ⟨[], []⟩ (fun v _ => some fun _ => some ([], v)) with
  | none => none
  | some g => g st
/-- What is said of that function holds. -/
def Stand (ih : Handler) (W : FuncId) (log : Asks) : Prop := ∀ q ∈ log, ih W q.1 ⟨[], []⟩ = some (.fv (.int .i64 q.2), ⟨[], []⟩)
def SG (ih : Handler) (W : FuncId) (v : IV) (o : Option KS) : Prop := ∃ g st log, o = some g ∧ g st = some (log, v) ∧ Stand ih W log
theorem sg_none {ih : Handler} {W : FuncId} {v : IV} : ¬ SG ih W v none := fun ⟨_, _, _, h, _⟩ => by cases h
theorem said_ok {ih : Handler} {W : FuncId} {v : IV} {R : KR KS} (hR : Snd (SG ih W v) R ih) : Snd (SG ih W v) (saidK W R) ih := by
  intro f args hp K h
  unfold saidK at h
  cases hb : Nat.beq f W with
  | false => rw [hb] at h; exact hR _ _ _ _ h
  | true =>
    rw [hb] at h
    simp only [cond] at h
    rw [Nat.eq_of_beq_eq_true hb]
    split at h
    · obtain ⟨g, st, log, e1, e2, e3⟩ := h
      simp only [Option.some.injEq] at e1
      subst e1
      simp only at e2
      split at e2
      · cases e2
      · rename_i k st
        cases hk : K (.fv (.int .i64 k)) ⟨[], []⟩ with
        | none => simp only [hk] at e2; cases e2
        | some g' =>
          simp only [hk] at e2
          cases hg : g' st with
          | none => simp only [hg] at e2; cases e2
          | some p =>
            obtain ⟨log', v'⟩ := p
            simp only [hg, Option.some.injEq, Prod.mk.injEq] at e2
            obtain ⟨rfl, rfl⟩ := e2
            exact ⟨_, _, e3 _ List.mem_cons_self, g', st, log', hk, hg, fun q hq => e3 q (List.mem_cons_of_mem _ hq)⟩
    · exact absurd h sg_none
theorem outS_run {E : Env} {FT : FTr} (hFT : ∀ f fn, FT.get f = some fn → E.P.funcs[f]? = some fn) {W : FuncId} {n : Nat} {f : FuncId} {args : List IV} {st : List Int} {log : Asks} {v : IV}
    (h : outS E FT W n f args st = some (log, v)) (hs : Stand (run E n) W log) : ∃ hp', run E (n + 1) f args ⟨[], []⟩ = some (v, hp') := by
  unfold outS at h
  split at h
  · cases h
  · rename_i g hg
    have hG : SG (run E n) W v (callK E (saidK W (runK E FT.get n)) FT.get n f args ⟨[], []⟩ (fun v _ => some fun _ => some ([], v))) := ⟨g, st, log, hg, h, hs⟩
    obtain ⟨r, hp', h1, h2⟩ := callK_ok sg_none hFT (said_ok (runK_ok sg_none hFT n)) f args ⟨[], []⟩ _ hG
    obtain ⟨g', st', log', e1, e2, _⟩ := h2
    simp only [Option.some.injEq] at e1
    subst e1
    simp only [Option.some.injEq, Prod.mk.injEq] at e2
    exact ⟨hp', by rw [h1, e2.2]⟩
end Idl
end Go.Proofs.Ytbkdidonegggdaa

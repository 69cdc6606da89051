/-
  A LAW'S OWN BODY, reckoned with its calls answered by the shallow form; one function's answers are handed in. No statement of the seat is proved here.
-/
import Derived.Test.YtbkdidonegggdaaIdl31
import Derived.Test.YtbkdidonegggdaaIdl25
namespace Go.Proofs.Ytbkdidonegggdaa
namespace Idl
noncomputable def ssK (t : DT) (n : Nat) : KR KS := fun f args hp K => match SS t n f args hp with
  | none => none
  | some p => match p with
    | (v, hp) => K v hp
theorem ssK_ok {E : Env} {FT : Nat → Option Func} (hFT : ∀ f fn, FT f = some fn → E.P.funcs[f]? = some fn) {t : DT} (ht : t.Ok E FT) {G : Option KS → Prop} (hG : ¬ G none) (n : Nat) : Snd G (ssK t n) (run E n) := by
  intro f args hp K h
  unfold ssK at h
  cases e : SS t n f args hp with
  | none => rw [e] at h; exact absurd h hG
  | some p =>
    obtain ⟨v, hp'⟩ := p
    rw [e] at h
    exact ⟨v, hp', SS_ok hFT ht n f args hp _ e, h⟩
noncomputable def outT (E : Env) (FT : FTr) (t : DT) (W : FuncId) (n : Nat) (f : FuncId) (args : List IV) (st : List Int) : Option (Asks × IV) :=
  match callK E (saidK W (ssK t n)) FT.get n f args ⟨[], []⟩ (fun v _ => some fun _ => some ([], v)) with
  | none => none
  | some g => g st
theorem outT_run {E : Env} {FT : FTr} (hFT : ∀ f fn, FT.get f = some fn → E.P.funcs[f]? = some fn) {t : DT} (ht : t.Ok E FT.get) {W : FuncId} {n : Nat} {f : FuncId} {args : List IV} {st : List Int} {log : Asks} {v : IV}
    (h : outT E FT t W n f args st = some (log, v)) (hs : Stand (run E n) W log) : ∃ hp', run E (n + 1) f args ⟨[], []⟩ = some (v, hp') := by
  unfold outT at h
  split at h
  · cases h
  · rename_i g hg
    have hG : SG (run E n) W v (callK E (saidK W (ssK t n)) FT.get n f args ⟨[], []⟩ (fun v _ => some fun _ => some ([], v))) := ⟨g, st, log, hg, h, hs⟩
    obtain ⟨r, hp', h1, h2⟩ := callK_ok sg_none hFT (said_ok (ssK_ok hFT ht sg_none n)) f args ⟨[], []⟩ _ hG
    obtain ⟨g', st', log', e1, e2, _⟩ := h2
    simp only [Option.some.injEq] at e1
    subst e1
    simp only [Option.some.injEq, Prod.mk.injEq] at e2
    exact ⟨hp', by rw [h1, e2.2]⟩
end Idl
end Go.Proofs.Ytbkdidonegggdaa

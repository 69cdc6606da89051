/-
  THE IDEAL SEMANTICS AND MEMORY: a program's types, in a tree; what a program must meet, as closed checks.
-/
import Derived.Test.YtbkdidonegggdaaIdl18
namespace Go.Proofs.Ytbkdidonegggdaa
namespace Idl

def kindOf : TypeDesc → Option TK
  | .int k => some (.int k)
  | .bool => some .bool
  | .string => some .str
  | .pointer _ => some .ptr
  | .func .. => some .func
  | .slice e => some (.slice e)
  | .array n e => some (.arr n e)
  | .struct fs => some (.struct (fs.toList.map fun f => (f.offset, f.type)))
  | .map k e => some (.map k e)
  | _ => none
def isAggV : Value → Bool
  | .agg _ => true
  | _ => false
def fieldsOk (P : Program) : TK → Bool
  | .struct fs => fs.all fun p => (P.info? p.2).isSome
  | _ => true
/-- What a program tells of a type. -/
def tiOf (P : Program) (t : TypeId) : Option TI :=
  match P.info? t, P.underlying t with
  | some i, some d => match kindOf d, i.zero with
    | some k, some z =>
      if z.cells.size = i.size ∧ isAggV z = k.isAgg ∧ fieldsOk P k = true then
        some ⟨i.size, i.bytes, k, z.cells.toList.map ofConst1⟩ else none
    | _, _ => none
  | _, _ => none

theorem kindOf_ok {d : TypeDesc} {k : TK} (h : kindOf d = some k) : kindOk d k := by
  cases d <;> simp only [kindOf, Option.some.injEq, reduceCtorEq] at h <;> subst h <;> simp [kindOk]
theorem tiOf_ok {P : Program} {t : TypeId} {ti : TI} (h : tiOf P t = some ti) : TIok P t ti := by
  unfold tiOf at h
  split at h
  · rename_i i d hi hd
    split at h
    · rename_i k z hk hz
      split at h
      · rename_i hc
        obtain ⟨c1, c2, c3⟩ := hc
        simp only [Option.some.injEq] at h
        subst h
        refine ⟨⟨i, z, hi, rfl, rfl, hz, rfl, c1, fun ha => ?_, fun ha => ?_⟩, ⟨d, hd, kindOf_ok hk⟩, fun fs hf p hp => ?_⟩
        · rw [← c2] at ha
          cases z <;> simp [isAggV] at ha
          rfl
        · rw [← c2] at ha
          cases z <;> simp [isAggV] at ha <;> rfl
        · simp only at hf
          subst hf
          exact Option.isSome_iff_exists.1 (List.all_eq_true.1 c3 p hp)
      · cases h
    · cases h
  · cases h

inductive TTree where
  | nil
  | leaf (t : Nat) (ti : TI)
  | node (m : Nat) (l r : TTree)
def TTree.get : TTree → Nat → Option TI
  | .nil, _ => none
  | .leaf j ti, t => if Nat.beq t j then some ti else none
  | .node m l r, t => if Nat.blt t m then l.get t else r.get t
def TTree.leaves : TTree → List (Nat × TI)
  | .nil => []
  | .leaf t ti => [(t, ti)]
  | .node _ l r => l.leaves ++ r.leaves
theorem TTree.get_mem : ∀ {tr : TTree} {t : Nat} {ti : TI}, tr.get t = some ti → (t, ti) ∈ tr.leaves
  | .nil, _, _, h => by cases h
  | .leaf j ti, t, ti', h => by
    simp only [TTree.get] at h
    split at h
    · rename_i e
      simp only [Option.some.injEq] at h
      subst h
      rw [Nat.eq_of_beq_eq_true e]
      exact List.mem_cons_self
    · cases h
  | .node m l r, t, ti, h => by
    simp only [TTree.get] at h
    simp only [TTree.leaves, List.mem_append]
    split at h
    · exact .inl (get_mem h)
    · exact .inr (get_mem h)

def namesOk (P : Program) : Bool := P.funcs.toList.all fun fn => fn.body.isNone || !(fn.name == "runtime.NumGoroutine")
def codesOk (P : Program) : Bool := P.funcs.toList.all fun fn => match fn.body with | some c => codeOk c | none => true

theorem env_ok {P : Program} {tr : TTree} {pol : Pol} (h1 : tr.leaves.map (fun p => tiOf P p.1) = tr.leaves.map (fun p => some p.2)) (h2 : P.follows .mixedOrders = true)
    (h3 : namesOk P = true) (h4 : codesOk P = true) : EnvOk ⟨P, tr.get, pol⟩ := by
  refine ⟨fun t ti h => tiOf_ok ?_, h2, fun f fn hf hb => ?_, fun f fn c hf hc => ?_⟩
  · have := List.map_inj_left.1 h1 _ (TTree.get_mem h)
    exact this
  · have hm : fn ∈ P.funcs.toList := by
      have := Array.mem_of_getElem? hf
      simpa using this
    have := List.all_eq_true.1 h3 fn hm
    simp only [Bool.or_eq_true, Bool.not_eq_true'] at this
    rcases this with h | h
    · cases hq : fn.body with
      | none => rw [hq] at hb; cases hb
      | some c => rw [hq] at h; cases h
    · exact h
  · have hm : fn ∈ P.funcs.toList := by
      have := Array.mem_of_getElem? hf
      simpa using this
    have := List.all_eq_true.1 h4 fn hm
    rw [hc] at this
    exact this
end Idl
end Go.Proofs.Ytbkdidonegggdaa

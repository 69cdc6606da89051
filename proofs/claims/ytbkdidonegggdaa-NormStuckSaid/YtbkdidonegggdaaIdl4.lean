/-
  THE IDEAL SEMANTICS AND MEMORY: what the model's own steps do: new blocks, stores.
-/
import Derived.Test.YtbkdidonegggdaaIdl3
namespace Go.Proofs.Ytbkdidonegggdaa
namespace Idl

section
variable {μ : Ref → Nat} {w : World} {F : Prot} {hp : Hp}

def updMu (μ : Ref → Nat) (r : Ref) (b : Nat) : Ref → Nat := fun s => if s = r then b else μ s
theorem updMu_same (μ : Ref → Nat) (r : Ref) (b : Nat) : updMu μ r b r = b := by simp [updMu]
theorem updMu_other (μ : Ref → Nat) {r s : Ref} (b : Nat) (h : s ≠ r) : updMu μ r b s = μ s := by simp [updMu, h]

theorem heap_push (w : World) (o : Obj) (b : Nat) : (w.alloc o).heap[b]? = if b = w.heap.size then some o else w.heap[b]? := by
  show (w.heap.push o)[b]? = _
  rw [Array.getElem?_push]
theorem heap_push_lt (w : World) (o : Obj) {b : Nat} (h : b < w.heap.size) : (w.alloc o).heap[b]? = w.heap[b]? := by
  rw [heap_push, if_neg (by omega)]
theorem heap_lt {b : Nat} {o : Obj} (h : w.heap[b]? = some o) : b < w.heap.size := (Array.getElem?_eq_some_iff.1 h).1

theorem WS.alloc (F : Prot) (w : World) (o : Obj) (ho : ∀ c e fr, o = .cells c e fr → fr = (0, 0)) : WS F w (w.alloc o) where
  rows b c e fr h := ⟨c, by rw [heap_push_lt _ _ (heap_lt h)]; exact h, rfl⟩
  prot b i v _ h := by
    have hb : b < w.heap.size := by
      rcases Nat.lt_or_ge b w.heap.size with hl | hl
      · exact hl
      · simp [World.cell?, Array.getElem?_eq_none hl] at h
    rw [World.cell?_alloc_lt (a := ⟨b, i, none⟩) (h := hb)]; exact h
  size := by simp
  frozen a := by
    by_cases h : a.block = w.heap.size
    · have e1 : (w.alloc o).heap[a.block]? = some o := by rw [heap_push, if_pos h]
      have e2 : w.heap[a.block]? = none := by rw [h]; simp
      simp only [World.frozen?, e1, e2]
      cases o with
      | cells c e fr => have := ho c e fr rfl; subst this; simp
      | _ => rfl
    · simp only [World.frozen?]
      rw [heap_push, if_neg h]
  os := rfl
  output := rfl
  tape := rfl

theorem WS.drew (F : Prot) (w : World) : WS F w w.drew := ⟨fun _ c _ _ h => ⟨c, h, rfl⟩, fun _ _ _ _ h => h, Nat.le_refl _, fun _ => rfl, rfl, rfl, rfl⟩
theorem drew_stp (hr : HR μ w F hp) : Stp μ w F hp μ w.drew F hp ∧ HR μ w.drew F hp := by
  have hst : Stp μ w F hp μ w.drew F hp := ⟨.drew F w, fun _ _ h => h, fun r cs ro h => ⟨⟨cs, ro, h⟩, rfl⟩, fun r es h => ⟨⟨es, h⟩, rfl⟩,
    fun r n sz h => ⟨n, h, Nat.le_refl _, .inl rfl⟩, fun r h h' => (by rw [h] at h'; cases h'), fun _ _ _ => rfl, fun _ _ h => .inl h⟩
  exact ⟨hst, fun r b hb => (hr.blk r b hb).mono hst rfl rfl fun _ h => h, hr.inj, hr.wf⟩

/-- A new block, under a new name. -/
theorem alloc_stp (hr : HR μ w F hp) (k : Nat) (hk : hp.get (.own k) = none) (o : Obj) (b : Blk) (ho : ∀ c e fr, o = .cells c e fr → fr = (0, 0)) (Fn : Nat → Prop) :
    let μ' := updMu μ (.own k) w.heap.size
    let F' : Prot := fun c i => F c i ∨ (c = w.heap.size ∧ Fn i)
    Stp μ w F hp μ' (w.alloc o) F' (hp.set (.own k) b) ∧ (BR μ' (w.alloc o) F' (hp.set (.own k) b) (.own k) b → HR μ' (w.alloc o) F' (hp.set (.own k) b)) := by
  intro μ' F'
  have hne : ∀ r b, hp.get r = some b → r ≠ .own k := fun r b h e => by rw [e, hk] at h; cases h
  have hget : ∀ r b', hp.get r = some b' → (hp.set (.own k) b).get r = some b' := fun r b' h => by rw [get_set_other _ _ _ _ (hne r b' h)]; exact h
  have hμk : μ' (.own k) = w.heap.size := updMu_same _ _ _
  have hmu : ∀ r b', hp.get r = some b' → μ' r = μ r := fun r b' h => updMu_other _ _ (hne r b' h)
  have hst : Stp μ w F hp μ' (w.alloc o) F' (hp.set (.own k) b) := by
    refine ⟨.alloc F w o ho, fun _ _ h => .inl h, fun r cs ro h => ⟨⟨cs, ro, hget r _ h⟩, hmu r _ h⟩, fun r es h => ⟨⟨es, hget r _ h⟩, hmu r _ h⟩,
      fun r n sz h => ⟨n, hget r _ h, Nat.le_refl _, .inl (hmu r _ h)⟩, fun r h h' => ?_, fun c hc _ => heap_push_lt _ _ hc, fun c i h => ?_⟩
    · by_cases e : r = .own k
      · subst e; rw [hμk]; exact Nat.le_refl _
      · rw [get_set_other _ _ _ _ e, h] at h'; cases h'
    · rcases h with h | ⟨h, _⟩
      · exact .inl h
      · exact .inr (.inl (by omega))
  refine ⟨hst, fun hb => ⟨fun r b' h => ?_, fun r s h1 h2 e => ?_, fun c i h => ?_⟩⟩
  · by_cases e : r = .own k
    · subst e; rw [get_set_own] at h; cases h; exact hb
    · rw [get_set_other _ _ _ _ e] at h
      have hlt := hr.lt (r := r) (by rw [h]; rfl)
      refine (hr.blk r b' h).mono hst (hmu r _ h) (heap_push_lt _ _ hlt) fun i hi => ?_
      rcases hi with hi | ⟨hi, _⟩
      · exact hi
      · omega
  · have hlt : ∀ r, r ≠ .own k → ((hp.set (.own k) b).get r).isSome → μ' r = μ r ∧ μ r < w.heap.size ∧ (hp.get r).isSome := fun r hr' h => by
      rw [get_set_other _ _ _ _ hr'] at h
      exact ⟨updMu_other _ _ hr', hr.lt h, h⟩
    by_cases er : r = .own k
    · by_cases es : s = .own k
      · rw [er, es]
      · obtain ⟨e1, e2, _⟩ := hlt s es h2
        rw [er, hμk, e1] at e; omega
    · obtain ⟨e1, e2, e3⟩ := hlt r er h1
      by_cases es : s = .own k
      · rw [es, hμk, e1] at e; omega
      · obtain ⟨f1, f2, f3⟩ := hlt s es h2
        exact hr.inj r s e3 f3 (by rw [← e1, ← f1]; exact e)
  · rcases h with h | ⟨h, _⟩
    · have := hr.wf c i h; simp; omega
    · simp; omega

/-- A new row of the call's own. -/
theorem alloc_row (hr : HR μ w F hp) (k : Nat) (hk : hp.get (.own k) = none) (arr : Array Value) (e : TypeId) (cells : List IV) (hl : cells.length ≤ arr.size)
    (hc : ∀ j x, cells[j]? = some x → R μ w F hp x (arr.getD j undef)) :
    ∃ μ' F', Stp μ w F hp μ' (w.alloc (.cells arr e)) F' (hp.set (.own k) (.row cells false)) ∧ HR μ' (w.alloc (.cells arr e)) F' (hp.set (.own k) (.row cells false)) ∧
      μ' (.own k) = w.heap.size := by
  obtain ⟨hst, hhr⟩ := alloc_stp hr k hk (.cells arr e) (.row cells false) (fun _ _ _ h => by cases h; rfl) (fun _ => False)
  refine ⟨_, _, hst, hhr ⟨arr, e, ?_, hl, fun j x hx => (hc j x hx).mono hst, fun _ o h => ?_, fun h => (by cases h)⟩, updMu_same _ _ _⟩
  · rw [updMu_same, heap_push, if_pos rfl]
  · rw [updMu_same] at h
    rcases h with h | ⟨_, h⟩
    · have := hr.wf _ _ h; omega
    · exact h

/-- A new row that is frozen at once. -/
theorem alloc_froz (hr : HR μ w F hp) (arr : Array Value) (e : TypeId) :
    let F' : Prot := fun c i => F c i ∨ (c = w.heap.size ∧ i < arr.size)
    Stp μ w F hp μ (w.alloc (.cells arr e)) F' hp ∧ HR μ (w.alloc (.cells arr e)) F' hp := by
  intro F'
  have hst : Stp μ w F hp μ (w.alloc (.cells arr e)) F' hp := by
    refine ⟨.alloc F w _ (fun _ _ _ h => by cases h; rfl), fun _ _ h => .inl h, fun r cs ro h => ⟨⟨cs, ro, h⟩, rfl⟩, fun r es h => ⟨⟨es, h⟩, rfl⟩,
      fun r n sz h => ⟨n, h, Nat.le_refl _, .inl rfl⟩, fun r h h' => (by rw [h] at h'; cases h'), fun c hc _ => heap_push_lt _ _ hc, fun c i h => ?_⟩
    rcases h with h | ⟨h, _⟩
    · exact .inl h
    · exact .inr (.inl (by omega))
  refine ⟨hst, fun r b h => ?_, hr.inj, fun c i h => ?_⟩
  · have hlt := hr.lt (r := r) (by rw [h]; rfl)
    refine (hr.blk r b h).mono hst rfl (heap_push_lt _ _ hlt) fun i hi => ?_
    rcases hi with hi | ⟨hi, _⟩
    · exact hi
    · omega
  · rcases h with h | ⟨h, _⟩
    · have := hr.wf c i h; simp; omega
    · simp; omega

theorem setRow_get (w : World) (g b : Nat) (cs : Array Value) : (w.setRow g cs).heap[b]? = if b = g then (w.heap[g]?).map (fun | .cells _ e fr => .cells cs e fr | o => o) else w.heap[b]? := by
  simp only [World.setRow, Array.getElem?_modify]
  by_cases h : g = b
  · subst h
    rw [if_pos rfl, if_pos rfl]
    cases w.heap[g]? with
    | none => rfl
    | some o => cases o <;> rfl
  · rw [if_neg h, if_neg (fun e => h e.symm)]

theorem WS.setRow (F : Prot) (w : World) (g : Nat) (c c' : Array Value) (e : TypeId) (hg : w.heap[g]? = some (.cells c e (0, 0))) (hs : c'.size = c.size)
    (hF : ∀ o, F g o → c'[o]? = c[o]?) : WS F w (w.setRow g c') where
  rows b c1 e1 fr h := by
    rw [setRow_get]
    by_cases hb : b = g
    · subst hb; rw [hg] at h; cases h; exact ⟨c', by simp [hg], hs⟩
    · exact ⟨c1, by rw [if_neg hb]; exact h, rfl⟩
  prot b o v hf h := by
    by_cases hb : b = g
    · subst hb
      have : (w.setRow b c').heap[b]? = some (.cells c' e (0, 0)) := by rw [setRow_get]; simp [hg]
      rw [cell_row this, hF o hf, ← cell_row hg]; exact h
    · simp only [World.cell?, setRow_get, if_neg hb] at h ⊢; exact h
  size := by simp [World.setRow]
  frozen a := by
    simp only [World.frozen?, setRow_get]
    by_cases hb : a.block = g
    · rw [if_pos hb, hb, hg]; rfl
    · rw [if_neg hb]
  os := rfl
  output := rfl
  tape := rfl

/-- A store into a row of the call's own. -/
theorem store_stp (hr : HR μ w F hp) (r : Ref) (cells cells' : List IV) (c c' : Array Value) (e : TypeId) (h : hp.get r = some (.row cells false))
    (hg : w.heap[μ r]? = some (.cells c e (0, 0))) (hs : c'.size = c.size) (hl : cells'.length ≤ c'.size) (hc : ∀ j x, cells'[j]? = some x → R μ w F hp x (c'.getD j undef)) :
    Stp μ w F hp μ (w.setRow (μ r) c') F (hp.set r (.row cells' false)) ∧ HR μ (w.setRow (μ r) c') F (hp.set r (.row cells' false)) := by
  have hsome : (hp.get r).isSome := by rw [h]; rfl
  have hnF : ∀ o, ¬ F (μ r) o := by obtain ⟨_, _, _, _, _, h4, _⟩ := hr.blk r _ h; exact h4 rfl
  have hget : ∀ s b', s ≠ r → hp.get s = some b' → (hp.set r (.row cells' false)).get s = some b' := fun s b' hn h => by rw [get_set_other _ _ _ _ hn]; exact h
  have hsame := get_set_same hp r (.row cells' false) hsome
  have hst : Stp μ w F hp μ (w.setRow (μ r) c') F (hp.set r (.row cells' false)) := by
    refine ⟨.setRow F w (μ r) c c' e hg hs (fun o ho => absurd ho (hnF o)), fun _ _ h => h, fun s cs ro hs' => ⟨?_, rfl⟩, fun s es hs' => ⟨?_, rfl⟩, fun s n sz hs' => ⟨n, ?_, Nat.le_refl _, .inl rfl⟩,
      fun s h1 h2 => ?_, fun b hb hb' => ?_, fun _ _ h => .inl h⟩
    · by_cases e : s = r
      · subst e; exact ⟨_, _, hsame⟩
      · exact ⟨cs, ro, hget s _ e hs'⟩
    · by_cases e : s = r
      · subst e; rw [h] at hs'; cases hs'
      · exact ⟨es, hget s _ e hs'⟩
    · by_cases e : s = r
      · subst e; rw [h] at hs'; cases hs'
      · exact hget s _ e hs'
    · by_cases e : s = r
      · subst e; rw [h] at h1; cases h1
      · rw [get_set_other _ _ _ _ e, h1] at h2; cases h2
    · rw [setRow_get, if_neg (fun e => hb' r hsome e.symm)]
  have hsome' : ∀ s, ((hp.set r (.row cells' false)).get s).isSome → (hp.get s).isSome := fun s hs' => by
    by_cases e : s = r
    · rw [e]; exact hsome
    · rwa [get_set_other _ _ _ _ e] at hs'
  refine ⟨hst, fun s b hb => ?_, fun s t h1 h2 e => hr.inj s t (hsome' s h1) (hsome' t h2) e, fun b o h => ?_⟩
  · by_cases e1 : s = r
    · subst e1
      rw [hsame] at hb; cases hb
      exact ⟨c', e, by rw [setRow_get]; simp [hg], hl, fun j x hx => (hc j x hx).mono hst, fun _ => hnF, fun h => (by cases h)⟩
    · rw [get_set_other _ _ _ _ e1] at hb
      refine (hr.blk s b hb).mono hst rfl ?_ fun _ h => h
      rw [setRow_get, if_neg (fun e2 => e1 (hr.inj s r (by rw [hb]; rfl) hsome e2))]
  · have := hr.wf b o h; simp only [World.setRow, Array.size_modify]; exact this
end
end Idl
end Go.Proofs.Ytbkdidonegggdaa

/-
  THE IDEAL SEMANTICS AND MEMORY: what freezing does.
-/
import Derived.Test.YtbkdidonegggdaaIdl2
namespace Go.Proofs.Ytbkdidonegggdaa
namespace Idl

theorem Rd.run_bind {α β : Type} (r : Rd α) (f : α → Rd β) (h : Hp) : (r.bind f).run h = (r.run h).bind fun a => (f a).run h := by
  induction r with
  | ret a => rfl
  | fail => rfl
  | get r k ih =>
    simp only [Rd.bind, Rd.run]
    cases h.get r with
    | none => rfl
    | some b => exact ih b
theorem Rd.run_bind_some {α β : Type} {r : Rd α} {f : α → Rd β} {h : Hp} {b : β} (e : (r.bind f).run h = some b) : ∃ a, r.run h = some a ∧ (f a).run h = some b := by
  rw [Rd.run_bind] at e
  cases hr : r.run h with
  | none => rw [hr] at e; cases e
  | some a => rw [hr] at e; exact ⟨a, rfl, e⟩
theorem Rd.run_get_some {α : Type} {r : Ref} {k : Blk → Rd α} {h : Hp} {a : α} (e : (Rd.get r k).run h = some a) : ∃ b, h.get r = some b ∧ (k b).run h = some a := by
  simp only [Rd.run] at e
  cases hr : h.get r with
  | none => rw [hr] at e; cases e
  | some b => rw [hr] at e; exact ⟨b, rfl, e⟩
theorem Rd.run_of {α : Type} {o : Option α} {h : Hp} {a : α} (e : (Rd.of o).run h = some a) : o = some a := by
  cases o with
  | none => cases e
  | some b => exact e

theorem elemFv_cells (l : List FV) : (elemFv l).cells = l := by
  unfold elemFv
  split
  · rfl
  · rename_i x hx
    cases x <;> first | rfl | exact absurd rfl (hx _)
  · rfl

theorem chunks_length (sz : Nat) : ∀ (n : Nat) (cs : List FV), (chunks sz n cs).length = n
  | 0, _ => rfl
  | n + 1, cs => by simp [chunks, chunks_length sz n]
theorem chunks_get (sz : Nat) : ∀ (n : Nat) (cs : List FV) (i : Nat) (e : FV), (chunks sz n cs)[i]? = some e → e.cells = (cs.drop (i * sz)).take sz
  | 0, _, _, _, h => by simp [chunks] at h
  | n + 1, cs, 0, e, h => by
    simp only [chunks, List.getElem?_cons_zero, Option.some.injEq] at h
    rw [← h, elemFv_cells]; simp
  | n + 1, cs, i + 1, e, h => by
    simp only [chunks, List.getElem?_cons_succ] at h
    rw [chunks_get sz n _ i e h, List.drop_drop]
    congr 2
    rw [Nat.add_mul]; omega

/-- Marks of freezing: rows of the call's own, as they are, but read-only. -/
def Marks (hp : Hp) (u : List (Ref × Blk)) : Prop := ∀ p ∈ u, ∃ cs ro, hp.get p.1 = some (.row cs ro) ∧ p.2 = .row cs true
theorem Marks.nil (hp : Hp) : Marks hp [] := fun _ h => by cases h
theorem Marks.append {hp : Hp} {u v : List (Ref × Blk)} (h1 : Marks hp u) (h2 : Marks hp v) : Marks hp (u ++ v) := fun p hm => by
  rcases List.mem_append.1 hm with h | h
  · exact h1 p h
  · exact h2 p h
/-- The cells that are protected besides. -/
def addF (μ : Ref → Nat) (u : List (Ref × Blk)) (F : Prot) : Prot := fun b o => F b o ∨ ∃ p ∈ u, ∃ cs ro, p.2 = .row cs ro ∧ b = μ p.1 ∧ o < cs.length

section
variable {μ : Ref → Nat} {w : World} {F : Prot} {hp : Hp}

theorem addF_sub (u : List (Ref × Blk)) : ∀ b o, F b o → addF μ u F b o := fun _ _ h => .inl h
theorem addF_left (u v : List (Ref × Blk)) : ∀ b o, addF μ u F b o → addF μ (u ++ v) F b o
  | _, _, .inl h => .inl h
  | _, _, .inr ⟨p, hp, h⟩ => .inr ⟨p, List.mem_append.2 (.inl hp), h⟩
theorem addF_right (u v : List (Ref × Blk)) : ∀ b o, addF μ v F b o → addF μ (u ++ v) F b o
  | _, _, .inl h => .inl h
  | _, _, .inr ⟨p, hp, h⟩ => .inr ⟨p, List.mem_append.2 (.inr hp), h⟩
theorem addF_cons (q : Ref × Blk) (v : List (Ref × Blk)) : ∀ b o, addF μ v F b o → addF μ (q :: v) F b o := addF_right [q] v
theorem RF.more {F F' : Prot} {v : FV} {x : Value} (hs : ∀ b o, F b o → F' b o) (h : RF w F v x) : RF w F' v x := h.mono (.refl F w) hs

theorem frz_ok (hr : HR μ w F hp) : ∀ n : Nat,
    (∀ v x fv u, R μ w F hp v x → (frz n v).run hp = some (fv, u) → Marks hp u ∧ RF w (addF μ u F) fv x) ∧
    (∀ l (vs : Nat → Value) fl u, (∀ j y, l[j]? = some y → R μ w F hp y (vs j)) → (frzL n l).run hp = some (fl, u) →
      Marks hp u ∧ fl.length = l.length ∧ ∀ j c, fl[j]? = some c → RF w (addF μ u F) c (vs j)) := by
  intro n
  induction n with
  | zero =>
    refine ⟨fun v x fv u _ h => ?_, fun l vs fl u _ h => ?_⟩
    · simp only [frz, Rd.run] at h; cases h
    · simp only [frzL, Rd.run] at h; cases h
  | succ n ih =>
    obtain ⟨ih1, ih2⟩ := ih
    refine ⟨fun v x fv u hR h => ?_, fun l vs fl u hR h => ?_⟩
    · cases hR with
      | dead => simp only [frz, Rd.run] at h; cases h
      | fv v x hx => simp only [frz, Rd.run, Option.some.injEq, Prod.mk.injEq] at h; obtain ⟨rfl, rfl⟩ := h; exact ⟨.nil hp, hx.more (addF_sub _)⟩
      | ptr r off hg =>
        cases r with
        | ext j => simp only [frz, Rd.run] at h; cases h
        | own k =>
          simp only [frz] at h
          obtain ⟨b, hb, h⟩ := Rd.run_get_some h
          cases b with
          | tok => simp only [Rd.run] at h; cases h
          | map => simp only [Rd.run] at h; cases h
          | row cells ro =>
            simp only at h
            obtain ⟨⟨cs, u1⟩, h1, h2⟩ := Rd.run_bind_some h
            simp only [Rd.run, Option.some.injEq, Prod.mk.injEq] at h2
            obtain ⟨rfl, rfl⟩ := h2
            obtain ⟨c, e, hw, hlen, hcell, _⟩ := hr.blk _ _ hb
            obtain ⟨hm, hl, hc⟩ := ih2 cells (fun j => c.getD j undef) cs u1 hcell h1
            refine ⟨fun p hp' => ?_, ?_⟩
            · rcases List.mem_cons.1 hp' with rfl | hp'
              · exact ⟨cells, ro, hb, rfl⟩
              · exact hm p hp'
            · have := RF.fp (w := w) (F := addF μ ((.own k, .row cells true) :: u1) F) cs off (μ (.own k)) 0 (fun j => c.getD j undef)
                (fun j hj => .inr ⟨_, List.mem_cons_self, cells, true, rfl, rfl, by simp; omega⟩)
                (fun j hj => by rw [cell_row hw]; simp; rw [Array.getElem?_eq_getElem (by omega)]; simp)
                (fun j c' hc' => (hc j c' hc').more (addF_cons _ _))
              simpa using this
      | slc r sz len cap hg hle =>
        cases r with
        | ext j => simp only [frz, Rd.run] at h; cases h
        | own k =>
          simp only [frz] at h
          obtain ⟨b, hb, h⟩ := Rd.run_get_some h
          cases b with
          | tok => simp only [Rd.run] at h; cases h
          | map => simp only [Rd.run] at h; cases h
          | row cells ro =>
            simp only at h
            split at h
            · simp only [Rd.run] at h; cases h
            rename_i hsz
            obtain ⟨⟨cs, u1⟩, h1, h2⟩ := Rd.run_bind_some h
            simp only [Rd.run, Option.some.injEq, Prod.mk.injEq] at h2
            obtain ⟨rfl, rfl⟩ := h2
            have hsz0 : 0 < sz := by omega
            have hcl : len * sz ≤ cells.length := by omega
            obtain ⟨c, e, hw, hlen, hcell, _⟩ := hr.blk _ _ hb
            obtain ⟨hm, hl, hc⟩ := ih2 cells (fun j => c.getD j undef) cs u1 hcell h1
            refine ⟨fun p hp' => ?_, ?_⟩
            · rcases List.mem_cons.1 hp' with rfl | hp'
              · exact ⟨cells, ro, hb, rfl⟩
              · exact hm p hp'
            · by_cases h0 : len = 0
              · subst h0; exact .sl0 _ _ (fun h => by cases h)
              · have hlt : ∀ i j, i < len → j < sz → i * sz + j < len * sz := fun i j hi hj => by
                  have : (i + 1) * sz ≤ len * sz := Nat.mul_le_mul_right _ hi
                  rw [Nat.add_mul] at this; omega
                have hce : ∀ i j e, (chunks sz len cs)[i]? = some e → e.cells[j]? = if j < sz then cs[i * sz + j]? else none := fun i j e he => by
                  rw [chunks_get sz len cs i e he, List.getElem?_take]
                  split
                  · rw [List.getElem?_drop]
                  · rfl
                have := RF.sl (w := w) (F := addF μ ((.own k, .row cells true) :: u1) F) (chunks sz len cs) (μ (.own k)) 0 sz cap (fun i j => c.getD (i * sz + j) undef)
                  (fun e => by have := chunks_length sz len cs; rw [e] at this; simp at this; omega) (by rw [chunks_length]; exact hle)
                  (fun e he => by
                    obtain ⟨i, hi, rfl⟩ := List.getElem_of_mem he
                    rw [chunks_get sz len cs i _ (List.getElem?_eq_getElem hi), List.length_take, List.length_drop]
                    rw [chunks_length] at hi
                    have := hlt i (sz - 1) hi (by omega)
                    omega)
                  (fun i j hi hj => .inr ⟨_, List.mem_cons_self, cells, true, rfl, rfl, by rw [chunks_length] at hi; have := hlt i j hi hj; omega⟩)
                  (fun i j hi hj => by
                    rw [chunks_length] at hi
                    have := hlt i j hi hj
                    rw [cell_row hw, Nat.zero_add, Array.getElem?_eq_getElem (by omega)]
                    simp [show i * sz + j < c.size by omega])
                  (fun i j e' c' he' hc' => by
                    rw [hce i j e' he'] at hc'
                    split at hc'
                    · exact (hc _ _ hc').more (addF_cons _ _)
                    · cases hc')
                rw [chunks_length] at this
                exact this
      | nils => simp only [frz, Rd.run, Option.some.injEq, Prod.mk.injEq] at h; obtain ⟨rfl, rfl⟩ := h; exact ⟨.nil hp, .sl0 _ _ (fun _ => rfl)⟩
      | emp a cap => simp only [frz, Rd.run, Option.some.injEq, Prod.mk.injEq] at h; obtain ⟨rfl, rfl⟩ := h; exact ⟨.nil hp, .sl0 _ _ (fun h => by cases h)⟩
      | clip es a hx => simp only [frz, Rd.run, Option.some.injEq, Prod.mk.injEq] at h; obtain ⟨rfl, rfl⟩ := h; exact ⟨.nil hp, hx.more (addF_sub _)⟩
      | clip0 a => simp only [frz, Rd.run, Option.some.injEq, Prod.mk.injEq] at h; obtain ⟨rfl, rfl⟩ := h; exact ⟨.nil hp, .sl0 _ _ (fun _ => rfl)⟩
      | app r es x hx _ _ => simp only [frz, Rd.run, Option.some.injEq, Prod.mk.injEq] at h; obtain ⟨rfl, rfl⟩ := h; exact ⟨.nil hp, hx.more (addF_sub _)⟩
      | func fn a b x y ha hb h1 h2 =>
        simp only [frz] at h
        obtain ⟨⟨p, u1⟩, e1, h⟩ := Rd.run_bind_some h
        obtain ⟨⟨q, u2⟩, e2, h⟩ := Rd.run_bind_some h
        simp only [Rd.run, Option.some.injEq, Prod.mk.injEq] at h
        obtain ⟨rfl, rfl⟩ := h
        obtain ⟨m1, l1, c1⟩ := ih2 a (fun j => x.getD j undef) p u1 h1 e1
        obtain ⟨m2, l2, c2⟩ := ih2 b (fun j => y.getD j undef) q u2 h2 e2
        exact ⟨m1.append m2, .func fn p q x y (by omega) (by omega) (fun j c hc => (c1 j c hc).more (addF_left _ _)) (fun j c hc => (c2 j c hc).more (addF_right _ _))⟩
      | agg cs x hl h1 =>
        simp only [frz] at h
        obtain ⟨⟨p, u1⟩, e1, h⟩ := Rd.run_bind_some h
        simp only [Rd.run, Option.some.injEq, Prod.mk.injEq] at h
        obtain ⟨rfl, rfl⟩ := h
        obtain ⟨m1, l1, c1⟩ := ih2 cs (fun j => x.getD j undef) p u1 h1 e1
        exact ⟨m1, .agg p x (by omega) c1⟩
      | tuple cs x hl h1 =>
        simp only [frz] at h
        obtain ⟨⟨p, u1⟩, e1, h⟩ := Rd.run_bind_some h
        simp only [Rd.run, Option.some.injEq, Prod.mk.injEq] at h
        obtain ⟨rfl, rfl⟩ := h
        obtain ⟨m1, l1, c1⟩ := ih2 cs (fun j => x.getD j undef) p u1 h1 e1
        exact ⟨m1, .tuple p x (by omega) c1⟩
      | mapr r hg => simp only [frz, Rd.run] at h; cases h
    · cases l with
      | nil => simp only [frzL, Rd.run, Option.some.injEq, Prod.mk.injEq] at h; obtain ⟨rfl, rfl⟩ := h; exact ⟨.nil hp, rfl, fun j c hc => by simp at hc⟩
      | cons v l =>
        simp only [frzL] at h
        obtain ⟨⟨p, u1⟩, e1, h⟩ := Rd.run_bind_some h
        obtain ⟨⟨q, u2⟩, e2, h⟩ := Rd.run_bind_some h
        simp only [Rd.run, Option.some.injEq, Prod.mk.injEq] at h
        obtain ⟨rfl, rfl⟩ := h
        obtain ⟨m1, c1⟩ := ih1 v (vs 0) p u1 (hR 0 v rfl) e1
        obtain ⟨m2, l2, c2⟩ := ih2 l (fun j => vs (j + 1)) q u2 (fun j y hy => hR (j + 1) y hy) e2
        refine ⟨m1.append m2, by simp [l2], fun j c hc => ?_⟩
        cases j with
        | zero => simp at hc; subst hc; exact c1.more (addF_left _ _)
        | succ j => exact (c2 j c (by simpa using hc)).more (addF_right _ _)

/-- The marks, laid. -/
theorem laid_get : ∀ (u : List (Ref × Blk)) (h h' : Hp), laid h u = some h' → ∀ r, (∀ p ∈ u, p.1 ≠ r) → h'.get r = h.get r
  | [], h, h', e, r, _ => by simp only [laid, Option.some.injEq] at e; rw [e]
  | (s, b) :: u, h, h', e, r, hne => by
    simp only [laid] at e
    cases hs : h.get s with
    | none => rw [hs] at e; cases e
    | some c =>
      rw [hs] at e
      rw [laid_get u _ _ e r (fun p hp => hne p (List.mem_cons_of_mem _ hp)), get_set_other _ _ _ _ (fun e => hne _ List.mem_cons_self e.symm)]
theorem laid_append : ∀ (u v : List (Ref × Blk)) (h : Hp), laid h (u ++ v) = (laid h u).bind fun h => laid h v
  | [], _, _ => rfl
  | (s, b) :: u, v, h => by
    simp only [List.cons_append, laid]
    cases h.get s with
    | none => rfl
    | some c => exact laid_append u v _
/-- All of one reference's marks being one block, that is what is laid. -/
theorem laid_mem : ∀ (u : List (Ref × Blk)) (h h' : Hp), laid h u = some h' → ∀ r b, (∀ p ∈ u, p.1 = r → p.2 = b) → (∃ p ∈ u, p.1 = r) → h'.get r = some b
  | [], _, _, _, _, _, _, ⟨_, hp, _⟩ => by cases hp
  | (s, c) :: u, h, h', e, r, b, hall, hex => by
    simp only [laid] at e
    cases hs : h.get s with
    | none => rw [hs] at e; cases e
    | some d =>
      rw [hs] at e
      by_cases hin : ∃ p ∈ u, p.1 = r
      · exact laid_mem u _ _ e r b (fun p hp => hall p (List.mem_cons_of_mem _ hp)) hin
      · obtain ⟨p, hp, hpr⟩ := hex
        rcases List.mem_cons.1 hp with rfl | hp
        · simp only at hpr
          subst hpr
          have hb : c = b := hall _ List.mem_cons_self rfl
          subst hb
          rw [laid_get u _ _ e s (fun p hp e => hin ⟨p, hp, e⟩)]
          exact get_set_same h s c (by rw [hs]; rfl)
        · exact absurd ⟨p, hp, hpr⟩ hin

/-- FREEZING IS A STEP: no memory changes; some rows are protected from now on. -/
theorem marks_stp (hr : HR μ w F hp) {u : List (Ref × Blk)} {hp' : Hp} (hm : Marks hp u) (hl : laid hp u = some hp') :
    Stp μ w F hp μ w (addF μ u F) hp' ∧ HR μ w (addF μ u F) hp' := by
  have hget : ∀ r, hp'.get r = hp.get r ∨ (∃ cs ro, hp.get r = some (.row cs ro) ∧ hp'.get r = some (.row cs true) ∧ ∃ p ∈ u, p.1 = r) := fun r => by
    by_cases hin : ∃ p ∈ u, p.1 = r
    · obtain ⟨p, hp1, rfl⟩ := hin
      obtain ⟨cs, ro, h1, h2⟩ := hm p hp1
      refine .inr ⟨cs, ro, h1, laid_mem u hp hp' hl p.1 (.row cs true) (fun q hq e => ?_) ⟨p, hp1, rfl⟩, p, hp1, rfl⟩
      obtain ⟨cs', ro', h1', h2'⟩ := hm q hq
      rw [e, h1] at h1'
      cases h1'
      exact h2'
    · exact .inl (laid_get u hp hp' hl r (fun p hp1 e => hin ⟨p, hp1, e⟩))
  have hst : Stp μ w F hp μ w (addF μ u F) hp' := by
    refine ⟨.refl F w, addF_sub u, fun r cs ro h => ⟨?_, rfl⟩, fun r es h => ⟨?_, rfl⟩, fun r n sz h => ⟨n, ?_, Nat.le_refl _, .inl rfl⟩, fun r h h' => ?_, fun _ _ _ => rfl, fun b o h => ?_⟩
    · rcases hget r with e | ⟨cs', _, _, e, _⟩
      · exact ⟨cs, ro, e.trans h⟩
      · exact ⟨_, _, e⟩
    · rcases hget r with e | ⟨cs', ro', e, _⟩
      · exact ⟨es, e.trans h⟩
      · rw [h] at e; cases e
    · rcases hget r with e | ⟨cs', ro', e, _⟩
      · exact e.trans h
      · rw [h] at e; cases e
    · rcases hget r with e | ⟨cs', ro', e, _⟩
      · rw [e, h] at h'; cases h'
      · rw [h] at e; cases e
    · rcases h with h | ⟨p, hp1, cs, ro, _, e, _⟩
      · exact .inl h
      · obtain ⟨cs', ro', h1, _⟩ := hm p hp1
        exact .inr (.inr ⟨p.1, by rw [h1]; rfl, e.symm⟩)
  refine ⟨hst, fun r b hb => ?_, fun r s h1 h2 e => ?_, fun b o h => ?_⟩
  · rcases hget r with e | ⟨cs, ro, e1, e2, p, hp1, rfl⟩
    · have hb' : hp.get r = some b := e ▸ hb
      have hB := hr.blk r b hb'
      by_cases hrow : ∃ cs, b = .row cs true
      · obtain ⟨cs, rfl⟩ := hrow
        obtain ⟨c, e, h1, h2, h3, _, h5⟩ := hB
        exact ⟨c, e, h1, h2, fun j x hx => (h3 j x hx).mono hst, fun h => (by cases h), fun h o ho => .inl (h5 h o ho)⟩
      · refine hB.mono hst rfl rfl fun o h => ?_
        rcases h with h | ⟨p, hp1, cs, ro, _, e', _⟩
        · exact h
        · obtain ⟨cs', ro', h1, h2⟩ := hm p hp1
          have hrp : r = p.1 := hr.inj r p.1 (by rw [hb']; rfl) (by rw [h1]; rfl) e'
          subst hrp
          exact absurd ⟨cs', by
            have := laid_mem u hp hp' hl p.1 (.row cs' true) (fun q hq e => by
              obtain ⟨c2, r2, h1', h2'⟩ := hm q hq
              rw [e, h1] at h1'; cases h1'; exact h2') ⟨p, hp1, rfl⟩
            rw [hb] at this; exact Option.some.inj this⟩ hrow
    · rw [e2] at hb
      cases hb
      obtain ⟨c, e, h1, h2, h3, _, _⟩ := hr.blk _ _ e1
      refine ⟨c, e, h1, h2, fun j x hx => (h3 j x hx).mono hst, fun h => (by cases h), fun _ o ho => .inr ⟨p, hp1, cs, true, ?_, rfl, ho⟩⟩
      obtain ⟨cs', ro', h1', h2'⟩ := hm p hp1
      rw [e1] at h1'; cases h1'; exact h2'
  · have hs : ∀ r, (hp'.get r).isSome → (hp.get r).isSome := fun r h => by
      rcases hget r with e | ⟨cs, ro, e, _⟩
      · rwa [e] at h
      · rw [e]; rfl
    exact hr.inj r s (hs r h1) (hs s h2) e
  · rcases h with h | ⟨p, hp1, cs, ro, _, e, _⟩
    · exact hr.wf b o h
    · obtain ⟨cs', ro', h1, _⟩ := hm p hp1
      rw [e]; exact hr.lt (by rw [h1]; rfl)
end
end Idl
end Go.Proofs.Ytbkdidonegggdaa

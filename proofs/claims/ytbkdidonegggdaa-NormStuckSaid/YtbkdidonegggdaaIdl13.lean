/-
  THE IDEAL SEMANTICS AND MEMORY: calls.
-/
import Derived.Test.YtbkdidonegggdaaIdl12
namespace Go.Proofs.Ytbkdidonegggdaa
namespace Idl

/-- A call comes to what the ideal run says. -/
def SimC (E : Env) (μ : Ref → Nat) (w : World) (F : Prot) (hp : Hp) (f : FuncId) (vals : Array Value) (res : IV) (hp' : Hp) : Prop :=
  Calls E.P f vals w fun e w' => ∃ v μ' F', e = .returned v ∧ Stp μ w F hp μ' w' F' hp' ∧ HR μ' w' F' hp' ∧ R μ' w' F' hp' res v
def SimH (E : Env) (ih : Handler) : Prop := ∀ f args hp res hp', ih f args hp = some (res, hp') → (∃ fn, E.P.funcs[f]? = some fn ∧ fn.body.isSome) ∧
  ∀ μ w F vals, HR μ w F hp → SlotsR μ w F hp args vals → SimC E μ w F hp f vals res hp'

/-- Other names for the same blocks. -/
structure Nm (ρ : Ref → Option Ref) (μ : Ref → Nat) (hp : Hp) (μ' : Ref → Nat) (hp' : Hp) : Prop where
  row : ∀ r r' cs ro, ρ r = some r' → hp.get r = some (.row cs ro) → (∃ cs' ro', hp'.get r' = some (.row cs' ro')) ∧ μ' r' = μ r
  map : ∀ r r' es, ρ r = some r' → hp.get r = some (.map es) → (∃ es', hp'.get r' = some (.map es')) ∧ μ' r' = μ r
  tok : ∀ r r' n sz, ρ r = some r' → hp.get r = some (.tok n sz) → hp'.get r' = some (.tok n sz) ∧ μ' r' = μ r

theorem renL_get {ρ : Ref → Option Ref} : ∀ {cs cs' : List IV}, IV.ren.renL ρ cs = some cs' → cs'.length = cs.length ∧ ∀ (j : Nat) (y' : IV), cs'[j]? = some y' → ∃ y : IV, cs[j]? = some y ∧ y.ren ρ = some y'
  | [], cs', h => by simp only [IV.ren.renL, Option.some.injEq] at h; subst h; exact ⟨rfl, fun j y' hy => by simp at hy⟩
  | v :: l, cs', h => by
    simp only [IV.ren.renL, Option.bind_eq_some_iff, Option.map_eq_some_iff] at h
    obtain ⟨v', h1, l', h2, rfl⟩ := h
    obtain ⟨e1, e2⟩ := renL_get h2
    refine ⟨by simp [e1], fun j y' hy => ?_⟩
    cases j with
    | zero => simp at hy; subst hy; exact ⟨v, rfl, h1⟩
    | succ j => obtain ⟨y, g1, g2⟩ := e2 j y' (by simpa using hy); exact ⟨y, by simpa using g1, g2⟩

section
variable {E : Env} {μ μ' : Ref → Nat} {w : World} {F : Prot} {hp hp' : Hp} {ρ : Ref → Option Ref}

theorem ren_R (nm : Nm ρ μ hp μ' hp') {v : IV} {x : Value} (h : R μ w F hp v x) : ∀ v', v.ren ρ = some v' → R μ' w F hp' v' x := by
  induction h with
  | dead x => intro v' e; simp only [IV.ren, Option.some.injEq] at e; subst e; exact .dead x
  | fv v x h => intro v' e; simp only [IV.ren, Option.some.injEq] at e; subst e; exact .fv v x h
  | ptr r off h =>
    intro v' e
    simp only [IV.ren, Option.map_eq_some_iff] at e
    obtain ⟨r', h1, rfl⟩ := e
    obtain ⟨cs, ro, h⟩ := h
    obtain ⟨h2, h3⟩ := nm.row r r' cs ro h1 h
    rw [← h3]; exact .ptr r' off h2
  | slc r sz len cap h hle =>
    intro v' e
    simp only [IV.ren, Option.map_eq_some_iff] at e
    obtain ⟨r', h1, rfl⟩ := e
    obtain ⟨cs, ro, h⟩ := h
    obtain ⟨h2, h3⟩ := nm.row r r' cs ro h1 h
    rw [← h3]; exact .slc r' sz len cap h2 hle
  | nils => intro v' e; simp only [IV.ren, Option.some.injEq] at e; subst e; exact .nils
  | emp a cap => intro v' e; simp only [IV.ren, Option.some.injEq] at e; subst e; exact .emp a cap
  | clip es a h => intro v' e; simp only [IV.ren, Option.some.injEq] at e; subst e; exact .clip es a h
  | clip0 a => intro v' e; simp only [IV.ren, Option.some.injEq] at e; subst e; exact .clip0 a
  | app r es x hx hne h =>
    intro v' e
    simp only [IV.ren, Option.map_eq_some_iff] at e
    obtain ⟨r', h1, rfl⟩ := e
    obtain ⟨n, sz, h2, h3, h4⟩ := h
    obtain ⟨h5, h6⟩ := nm.tok r r' n sz h1 h2
    refine .app r' es x hx hne ⟨n, sz, h5, h3, fun e => ?_⟩
    have := h4 e
    unfold Front at this ⊢
    rw [h6]; exact this
  | func fn a b x y ha hb h1 h2 ih1 ih2 =>
    intro v' e
    simp only [IV.ren, Option.bind_eq_some_iff, Option.map_eq_some_iff] at e
    obtain ⟨a', e1, b', e2, rfl⟩ := e
    obtain ⟨l1, g1⟩ := renL_get e1
    obtain ⟨l2, g2⟩ := renL_get e2
    refine .func fn a' b' x y (by omega) (by omega) (fun j c hc => ?_) (fun j c hc => ?_)
    · obtain ⟨y', q1, q2⟩ := g1 j c hc; exact ih1 j y' q1 c q2
    · obtain ⟨y', q1, q2⟩ := g2 j c hc; exact ih2 j y' q1 c q2
  | agg cs x hl h ih =>
    intro v' e
    simp only [IV.ren, Option.map_eq_some_iff] at e
    obtain ⟨a', e1, rfl⟩ := e
    obtain ⟨l1, g1⟩ := renL_get e1
    refine .agg a' x (by omega) (fun j c hc => ?_)
    obtain ⟨y', q1, q2⟩ := g1 j c hc; exact ih j y' q1 c q2
  | tuple cs x hl h ih =>
    intro v' e
    simp only [IV.ren, Option.map_eq_some_iff] at e
    obtain ⟨a', e1, rfl⟩ := e
    obtain ⟨l1, g1⟩ := renL_get e1
    refine .tuple a' x (by omega) (fun j c hc => ?_)
    obtain ⟨y', q1, q2⟩ := g1 j c hc; exact ih j y' q1 c q2
  | mapr r h =>
    intro v' e
    simp only [IV.ren, Option.map_eq_some_iff] at e
    obtain ⟨r', h1, rfl⟩ := e
    obtain ⟨es, h⟩ := h
    obtain ⟨h2, h3⟩ := nm.map r r' es h1 h
    rw [← h3]; exact .mapr r' h2

/-- The kind of a block. -/
def sameKind : Blk → Blk → Prop
  | .row cs ro, .row ds ro' => cs.length = ds.length ∧ ro = ro'
  | .tok n sz, .tok m sz' => n = m ∧ sz = sz'
  | .map _, .map _ => True
  | _, _ => False
theorem blk_ren {b b' : Blk} (h : b.ren ρ = some b') : sameKind b b' := by
  cases b with
  | row cells ro =>
    simp only [Blk.ren, Option.map_eq_some_iff] at h
    obtain ⟨c, h1, rfl⟩ := h
    exact ⟨(renL_get h1).1.symm, rfl⟩
  | tok n sz => simp only [Blk.ren, Option.some.injEq] at h; subst h; exact ⟨rfl, rfl⟩
  | map es =>
    simp only [Blk.ren, Option.map_eq_some_iff] at h
    obtain ⟨c, h1, rfl⟩ := h
    trivial
theorem BR_ren (nm : Nm ρ μ hp μ' hp') {r r' : Ref} {b b' : Blk} (h : BR μ w F hp r b) (e : b.ren ρ = some b') (hμ : μ' r' = μ r) : BR μ' w F hp' r' b' := by
  cases b with
  | row cells ro =>
    simp only [Blk.ren, Option.map_eq_some_iff] at e
    obtain ⟨cs, h1, rfl⟩ := e
    obtain ⟨l1, g1⟩ := renL_get h1
    obtain ⟨c, e', h2, h3, h4, h5, h6⟩ := h
    refine ⟨c, e', by rw [hμ]; exact h2, by omega, fun j x hx => ?_, fun hr o => by rw [hμ]; exact h5 hr o, fun hr o ho => by rw [hμ]; exact h6 hr o (by omega)⟩
    obtain ⟨y, q1, q2⟩ := g1 j x hx
    exact ren_R nm (h4 j y q1) x q2
  | tok n sz =>
    simp only [Blk.ren, Option.some.injEq] at e
    subst e
    obtain ⟨h1, h2, c, e', h3, h4, h5⟩ := h
    exact ⟨h1, h2, c, e', by rw [hμ]; exact h3, h4, fun o => by rw [hμ]; exact h5 o⟩
  | map es =>
    simp only [Blk.ren, Option.map_eq_some_iff] at e
    obtain ⟨cs, h1, rfl⟩ := e
    obtain ⟨l1, g1⟩ := renL_get h1
    obtain ⟨arr, clk, h2, h3, h4⟩ := h
    simp only [List.length_map] at l1
    refine ⟨arr, clk, by rw [hμ]; exact h2, by simp [l1, h3], fun j n x hx => ?_⟩
    rw [List.getElem?_zip_eq_some] at hx
    obtain ⟨hx1, hx2⟩ := hx
    obtain ⟨y, q1, q2⟩ := g1 j x hx2
    simp only [List.getElem?_map, Option.map_eq_some_iff] at hx1 q1
    obtain ⟨p, p1, p2⟩ := hx1
    obtain ⟨q, q3, q4⟩ := q1
    rw [p1] at q3; cases q3
    obtain ⟨me, m1, m2, m3⟩ := h4 j n y (by rw [p1, ← p2, ← q4])
    exact ⟨me, m1, m2, ren_R nm m3 x q2⟩

theorem renBlks_get : ∀ {l l' : List Blk}, renBlks ρ l = some l' → l'.length = l.length ∧ ∀ (j : Nat) (b' : Blk), l'[j]? = some b' → ∃ b : Blk, l[j]? = some b ∧ b.ren ρ = some b'
  | [], l', h => by simp only [renBlks, Option.some.injEq] at h; subst h; exact ⟨rfl, fun j b' hb => by simp at hb⟩
  | b :: l, l', h => by
    simp only [renBlks, Option.bind_eq_some_iff, Option.map_eq_some_iff] at h
    obtain ⟨v', h1, l'', h2, rfl⟩ := h
    obtain ⟨e1, e2⟩ := renBlks_get h2
    refine ⟨by simp [e1], fun j y' hy => ?_⟩
    cases j with
    | zero => simp at hy; subst hy; exact ⟨b, rfl, h1⟩
    | succ j => obtain ⟨y, g1, g2⟩ := e2 j y' (by simpa using hy); exact ⟨y, by simpa using g1, g2⟩
end

theorem hasRef_iff {r : Ref} : ∀ {l : List (Ref × Blk)}, hasRef r l = true ↔ ∃ p ∈ l, p.1 = r
  | [] => by simp [hasRef]
  | (s, b) :: l => by
    simp only [hasRef, Bool.or_eq_true, decide_eq_true_eq, hasRef_iff (l := l), List.mem_cons]
    constructor
    · rintro (h | ⟨p, h1, h2⟩)
      · exact ⟨(s, b), .inl rfl, h.symm⟩
      · exact ⟨p, .inr h1, h2⟩
    · rintro ⟨p, h1 | h1, h2⟩
      · subst h1; exact .inl h2.symm
      · exact .inr ⟨p, h1, h2⟩

/-- What is gathered: blocks as they are, each once. -/
def Got (hp : Hp) (l : List (Ref × Blk)) : Prop := (∀ p ∈ l, hp.get p.1 = some p.2) ∧ (keys l).Nodup
theorem gather_got {hp : Hp} : ∀ (n : Nat) (todo : List Ref) (done l : List (Ref × Blk)), (gather n todo done).run hp = some l → Got hp done → Got hp l
  | 0, _, _, _, h, _ => by simp only [gather, Rd.run] at h; cases h
  | n + 1, [], done, l, h, hd => by simp only [gather, Rd.run, Option.some.injEq] at h; subst h; exact hd
  | n + 1, r :: rest, done, l, h, hd => by
    simp only [gather] at h
    split at h
    · exact gather_got n rest done l h hd
    · rename_i hn
      obtain ⟨b, hb, h⟩ := Rd.run_get_some h
      refine gather_got n _ _ l h ⟨fun p hp' => ?_, ?_⟩
      · rcases List.mem_append.1 hp' with h1 | h1
        · exact hd.1 p h1
        · simp only [List.mem_singleton] at h1; subst h1; exact hb
      · show ((done ++ [(r, b)]).map (·.1)).Nodup
        rw [List.map_append, List.nodup_append]
        refine ⟨hd.2, by simp, fun x hx y hy => ?_⟩
        simp only [List.map_cons, List.map_nil, List.mem_singleton] at hy
        subst hy
        intro e
        subst e
        simp only [List.mem_map] at hx
        obtain ⟨p, p1, p2⟩ := hx
        exact hn (hasRef_iff.2 ⟨p, p1, p2⟩)
theorem placeOf_get {r : Ref} : ∀ {l : List (Ref × Blk)} {i j : Nat}, placeOf r l i = some j → ∃ b, l[j - i]? = some (r, b) ∧ i ≤ j
  | [], i, j, h => by cases h
  | (s, b) :: l, i, j, h => by
    simp only [placeOf] at h
    split at h
    · rename_i e
      subst e
      simp only [Option.some.injEq] at h
      subst h
      exact ⟨b, by simp, Nat.le_refl _⟩
    · obtain ⟨b', h1, h2⟩ := placeOf_get h
      exact ⟨b', by rw [show j - i = (j - (i + 1)) + 1 by omega]; simpa using h1, by omega⟩
theorem into_get {l : List (Ref × Blk)} {r r' : Ref} (h : into l r = some r') : ∃ j b, r' = .ext j ∧ l[j]? = some (r, b) := by
  simp only [into, Option.map_eq_some_iff] at h
  obtain ⟨j, h1, rfl⟩ := h
  obtain ⟨b, h2, _⟩ := placeOf_get h1
  exact ⟨j, b, rfl, by simpa using h2⟩
theorem back_get {l : List (Ref × Blk)} {r r' : Ref} (h : back l r = some r') : ∃ j b, r = .ext j ∧ l[j]? = some (r', b) := by
  cases r with
  | own k => cases h
  | ext j =>
    simp only [back, Option.map_eq_some_iff] at h
    obtain ⟨p, h1, rfl⟩ := h
    exact ⟨j, p.2, rfl, h1⟩
theorem nodup_get {l : List (Ref × Blk)} (h : (keys l).Nodup) {i j : Nat} {p q : Ref × Blk} (hi : l[i]? = some p) (hj : l[j]? = some q) (e : p.1 = q.1) : i = j := by
  have h1 : (keys l)[i]? = some p.1 := by simp [keys, hi]
  have h2 : (keys l)[j]? = some q.1 := by simp [keys, hj]
  rw [← e] at h2
  have hil : i < (keys l).length := (List.getElem?_eq_some_iff.1 h1).1
  have hjl : j < (keys l).length := (List.getElem?_eq_some_iff.1 h2).1
  rw [List.getElem?_eq_getElem hil] at h1
  rw [List.getElem?_eq_getElem hjl] at h2
  exact (List.getElem_inj (h₀ := hil) (h₁ := hjl) h).1 (Option.some.inj (h1.trans h2.symm))

section
variable {E : Env} {μ : Ref → Nat} {w : World} {F : Prot} {hp : Hp}

theorem frz_keys : ∀ n : Nat, (∀ v fv u, (frz n v).run hp = some (fv, u) → ∀ p ∈ u, ∃ k, p.1 = .own k) ∧ (∀ l fl u, (frzL n l).run hp = some (fl, u) → ∀ p ∈ u, ∃ k, p.1 = .own k) := by
  intro n
  induction n with
  | zero => exact ⟨fun v fv u h => (by simp only [frz, Rd.run] at h; cases h), fun l fl u h => (by simp only [frzL, Rd.run] at h; cases h)⟩
  | succ n ih =>
    obtain ⟨ih1, ih2⟩ := ih
    refine ⟨fun v fv u h => ?_, fun l fl u h => ?_⟩
    · cases v with
      | dead => simp only [frz, Rd.run] at h; cases h
      | mapr r => simp only [frz, Rd.run] at h; cases h
      | fv v => simp only [frz, Rd.run, Option.some.injEq, Prod.mk.injEq] at h; obtain ⟨_, rfl⟩ := h; exact fun p hp => by cases hp
      | nils => simp only [frz, Rd.run, Option.some.injEq, Prod.mk.injEq] at h; obtain ⟨_, rfl⟩ := h; exact fun p hp => by cases hp
      | emp => simp only [frz, Rd.run, Option.some.injEq, Prod.mk.injEq] at h; obtain ⟨_, rfl⟩ := h; exact fun p hp => by cases hp
      | clip es => simp only [frz, Rd.run, Option.some.injEq, Prod.mk.injEq] at h; obtain ⟨_, rfl⟩ := h; exact fun p hp => by cases hp
      | app r es => simp only [frz, Rd.run, Option.some.injEq, Prod.mk.injEq] at h; obtain ⟨_, rfl⟩ := h; exact fun p hp => by cases hp
      | ptr r off =>
        cases r with
        | ext j => simp only [frz, Rd.run] at h; cases h
        | own k =>
          simp only [frz] at h
          obtain ⟨b, hb, h⟩ := Rd.run_get_some h
          cases b with
          | row cells ro =>
            obtain ⟨⟨cs, u1⟩, h1, h2⟩ := Rd.run_bind_some h
            simp only [Rd.run, Option.some.injEq, Prod.mk.injEq] at h2
            obtain ⟨_, rfl⟩ := h2
            intro p hp
            rcases List.mem_cons.1 hp with rfl | hp
            · exact ⟨k, rfl⟩
            · exact ih2 _ _ _ h1 p hp
          | _ => simp only [Rd.run] at h; cases h
      | slc r sz len =>
        cases r with
        | ext j => simp only [frz, Rd.run] at h; cases h
        | own k =>
          simp only [frz] at h
          obtain ⟨b, hb, h⟩ := Rd.run_get_some h
          cases b with
          | row cells ro =>
            simp only at h
            split at h
            · simp only [Rd.run] at h; cases h
            obtain ⟨⟨cs, u1⟩, h1, h2⟩ := Rd.run_bind_some h
            simp only [Rd.run, Option.some.injEq, Prod.mk.injEq] at h2
            obtain ⟨_, rfl⟩ := h2
            intro p hp
            rcases List.mem_cons.1 hp with rfl | hp
            · exact ⟨k, rfl⟩
            · exact ih2 _ _ _ h1 p hp
          | _ => simp only [Rd.run] at h; cases h
      | func fn a b =>
        simp only [frz] at h
        obtain ⟨⟨p, u1⟩, e1, h⟩ := Rd.run_bind_some h
        obtain ⟨⟨q, u2⟩, e2, h⟩ := Rd.run_bind_some h
        simp only [Rd.run, Option.some.injEq, Prod.mk.injEq] at h
        obtain ⟨_, rfl⟩ := h
        intro p hp
        rcases List.mem_append.1 hp with hp | hp
        · exact ih2 _ _ _ e1 p hp
        · exact ih2 _ _ _ e2 p hp
      | agg cs =>
        simp only [frz] at h
        obtain ⟨⟨p, u1⟩, e1, h⟩ := Rd.run_bind_some h
        simp only [Rd.run, Option.some.injEq, Prod.mk.injEq] at h
        obtain ⟨_, rfl⟩ := h
        exact ih2 _ _ _ e1
      | tuple cs =>
        simp only [frz] at h
        obtain ⟨⟨p, u1⟩, e1, h⟩ := Rd.run_bind_some h
        simp only [Rd.run, Option.some.injEq, Prod.mk.injEq] at h
        obtain ⟨_, rfl⟩ := h
        exact ih2 _ _ _ e1
    · cases l with
      | nil => simp only [frzL, Rd.run, Option.some.injEq, Prod.mk.injEq] at h; obtain ⟨_, rfl⟩ := h; exact fun p hp => by cases hp
      | cons v l =>
        simp only [frzL] at h
        obtain ⟨⟨p, u1⟩, e1, h⟩ := Rd.run_bind_some h
        obtain ⟨⟨q, u2⟩, e2, h⟩ := Rd.run_bind_some h
        simp only [Rd.run, Option.some.injEq, Prod.mk.injEq] at h
        obtain ⟨_, rfl⟩ := h
        intro p hp
        rcases List.mem_append.1 hp with hp | hp
        · exact ih1 _ _ _ e1 p hp
        · exact ih2 _ _ _ e2 p hp

theorem laid_some : ∀ (u : List (Ref × Blk)) (h : Hp), (∀ p ∈ u, (h.get p.1).isSome) → ∃ h', laid h u = some h'
  | [], h, _ => ⟨h, rfl⟩
  | (r, b) :: u, h, hs => by
    have h1 := hs (r, b) List.mem_cons_self
    simp only at h1
    cases hr : h.get r with
    | none => rw [hr] at h1; cases h1
    | some c =>
      obtain ⟨h', h2⟩ := laid_some u (h.set r b) (fun p hp => by
        by_cases e : p.1 = r
        · rw [e, get_set_same h r b (by rw [hr]; rfl)]; rfl
        · rw [get_set_other _ _ _ _ e]; exact hs p (List.mem_cons_of_mem _ hp))
      exact ⟨h', by simp only [laid, hr]; exact h2⟩

/-- Protection alone, the blocks' marks left out. -/
theorem more_stp {u : List (Ref × Blk)} (hm : Marks hp u) : Stp μ w F hp μ w (addF μ u F) hp := by
  refine ⟨.refl F w, addF_sub u, fun r cs ro h => ⟨⟨cs, ro, h⟩, rfl⟩, fun r es h => ⟨⟨es, h⟩, rfl⟩, fun r n sz h => ⟨n, h, Nat.le_refl _, .inl rfl⟩, fun r h h' => (by rw [h] at h'; cases h'), fun _ _ _ => rfl, fun b o h => ?_⟩
  rcases h with h | ⟨p, hp1, cs, ro, _, e, _⟩
  · exact .inl h
  · obtain ⟨cs', ro', h1, _⟩ := hm p hp1
    exact .inr (.inr ⟨p.1, by rw [h1]; rfl, e.symm⟩)

theorem frzArgs_ok (hr : HR μ w F hp) : ∀ (ks : List Bool) (args vs : List IV) (rs : List Ref) (u : List (Ref × Blk)) (x : Nat → Value), (∀ j y, args[j]? = some y → R μ w F hp y (x j)) →
    (frzArgs ks args).run hp = some (vs, rs, u) → Marks hp u ∧ vs.length = args.length ∧ ∀ j y, vs[j]? = some y → R μ w (addF μ u F) hp y (x j)
  | ks, [], vs, rs, u, x, _, h => by
    cases ks with
    | nil => simp only [frzArgs, Rd.run, Option.some.injEq, Prod.mk.injEq] at h; obtain ⟨rfl, rfl, rfl⟩ := h; exact ⟨.nil hp, rfl, fun j y hy => by simp at hy⟩
    | cons k ks => simp only [frzArgs, Rd.run, Option.some.injEq, Prod.mk.injEq] at h; obtain ⟨rfl, rfl, rfl⟩ := h; exact ⟨.nil hp, rfl, fun j y hy => by simp at hy⟩
  | ks, v :: l, vs, rs, u, x, hx, h => by
    have froz : ∀ ks', ((frz 4096 v).bind fun (x, u) => (frzArgs ks' l).bind fun (vs, rs, u') => .ret (.fv x :: vs, rs, u ++ u')).run hp = some (vs, rs, u) →
        Marks hp u ∧ vs.length = (v :: l).length ∧ ∀ j y, vs[j]? = some y → R μ w (addF μ u F) hp y (x j) := by
      intro ks' h
      obtain ⟨⟨fv, u1⟩, e1, h⟩ := Rd.run_bind_some h
      obtain ⟨⟨vs', rs', u2⟩, e2, h⟩ := Rd.run_bind_some h
      simp only [Rd.run, Option.some.injEq, Prod.mk.injEq] at h
      obtain ⟨rfl, rfl, rfl⟩ := h
      obtain ⟨m1, r1⟩ := (frz_ok hr 4096).1 v (x 0) fv u1 (hx 0 v rfl) e1
      obtain ⟨m2, l2, r2⟩ := frzArgs_ok hr ks' l vs' rs' u2 (fun j => x (j + 1)) (fun j y hy => hx (j + 1) y hy) e2
      refine ⟨m1.append m2, by simp [l2], fun j y hy => ?_⟩
      have st : Stp μ w (addF μ u2 F) hp μ w (addF μ (u1 ++ u2) F) hp := by
        refine ⟨.refl _ w, addF_right _ _, fun r cs ro h => ⟨⟨cs, ro, h⟩, rfl⟩, fun r es h => ⟨⟨es, h⟩, rfl⟩, fun r n sz h => ⟨n, h, Nat.le_refl _, .inl rfl⟩, fun r h h' => (by rw [h] at h'; cases h'), fun _ _ _ => rfl, fun b o h => ?_⟩
        rcases h with h | ⟨p, hp1, cs, ro, _, e, _⟩
        · exact .inl (.inl h)
        · obtain ⟨cs', ro', h1, _⟩ := (m1.append m2) p hp1
          exact .inr (.inr ⟨p.1, by rw [h1]; rfl, e.symm⟩)
      cases j with
      | zero => simp at hy; subst hy; exact .fv _ _ (r1.more (addF_left _ _))
      | succ j => exact (r2 j y (by simpa using hy)).mono st
    cases ks with
    | nil => simp only [frzArgs] at h; exact froz [] h
    | cons k ks =>
      cases k with
      | false => simp only [frzArgs] at h; exact froz ks h
      | true =>
        simp only [frzArgs] at h
        obtain ⟨⟨vs', rs', u2⟩, e2, h⟩ := Rd.run_bind_some h
        simp only [Rd.run, Option.some.injEq, Prod.mk.injEq] at h
        obtain ⟨rfl, rfl, rfl⟩ := h
        obtain ⟨m2, l2, r2⟩ := frzArgs_ok hr ks l vs' rs' u2 (fun j => x (j + 1)) (fun j y hy => hx (j + 1) y hy) e2
        refine ⟨m2, by simp [l2], fun j y hy => ?_⟩
        cases j with
        | zero => simp at hy; subst hy; exact (hx 0 v rfl).mono (more_stp m2)
        | succ j => exact r2 j y (by simpa using hy)
end
end Idl
end Go.Proofs.Ytbkdidonegggdaa

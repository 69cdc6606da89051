/-
  THE IDEAL SEMANTICS AND MEMORY: any order of a region.
-/
import Derived.Test.YtbkdidonegggdaaIdl16
namespace Go.Proofs.Ytbkdidonegggdaa
namespace Idl

theorem mem_ready {ops : Array Oper} {listed : Array Bool} (hs : listed.size = ops.size) {i : Nat} : i ∈ Region.ready .any ops listed ↔
    ∃ o, ops[i]? = some o ∧ listed[i]? = some false ∧ ∀ e ∈ o.after, Region.binds .any e = true → listed[e.on]? = some true := by
  have hget : ∀ (k : Nat), listed.getD k false = true ↔ listed[k]? = some true := fun k => by
    rw [Array.getD_eq_getD_getElem?]
    cases listed[k]? with
    | none => simp
    | some b => simp
  have hget' : ∀ (k : Nat), k < ops.size → (listed.getD k true = false ↔ listed[k]? = some false) := fun k hk => by
    rw [Array.getD_eq_getD_getElem?]
    cases h : listed[k]? with
    | none => rw [Array.getElem?_eq_none_iff] at h; omega
    | some b => simp
  simp only [Region.ready, List.mem_filter, List.mem_range, Bool.and_eq_true, Bool.not_eq_true']
  constructor
  · rintro ⟨hi, h1, h2⟩
    rw [Array.getElem?_eq_getElem hi] at h2
    simp only [Option.map_some, Option.getD_some, Array.all_eq_true_iff_forall_mem, Bool.or_eq_true, Bool.not_eq_true'] at h2
    refine ⟨ops[i], Array.getElem?_eq_getElem hi, (hget' i hi).1 h1, fun e he hb => ?_⟩
    rcases h2 e he with h | h
    · rw [hb] at h; cases h
    · exact (hget _).1 h
  · rintro ⟨o, ho, h1, h2⟩
    have hi : i < ops.size := (Array.getElem?_eq_some_iff.1 ho).1
    refine ⟨hi, (hget' i hi).2 h1, ?_⟩
    rw [ho]
    simp only [Option.map_some, Option.getD_some, Array.all_eq_true_iff_forall_mem, Bool.or_eq_true, Bool.not_eq_true']
    intro e he
    cases hb : Region.binds .any e with
    | false => exact .inl rfl
    | true => exact .inr ((hget _).2 (h2 e he hb))

section
variable {E : Env} {ih : Handler} {f : FuncId} {rid : Nat} {ops : Array Oper} {μ0 : Ref → Nat} {w0 : World} {F0 : Prot} {hp0 : Hp} {Q : Exit → Act → World → Prop}

theorem At.congr {S S' : St} {a : Act} {w : World} (e : Eqv S S') (h : At μ0 w0 F0 hp0 S a w) : At μ0 w0 F0 hp0 S' a w := by
  obtain ⟨hd, μ, F, hs, hr, st⟩ := h
  have hk : ∀ {v x}, R μ w F S.hp v x → R μ w F S'.hp v x := fun h => R_keep h fun r _ => (e.2 r).symm
  refine ⟨hd, μ, F, ⟨by rw [← e.1]; exact hs.size, fun i v hv => hk (hs.at_ i v (by rw [e.1]; exact hv))⟩, ⟨fun r b hb => BR_keep (hr.blk r b (by rw [e.2]; exact hb)) fun r _ => (e.2 r).symm, fun r s h1 h2 => hr.inj r s (by rw [e.2]; exact h1) (by rw [e.2]; exact h2), hr.wf⟩,
    ⟨st.ws, st.sub, fun r cs ro h => ?_, fun r es h => ?_, fun r n sz h => ?_, fun r h h' => st.new r h (by rw [e.2]; exact h'), st.frame, st.newF⟩⟩
  · have := st.row r cs ro h; rw [e.2] at this; exact this
  · have := st.map r es h; rw [e.2] at this; exact this
  · have := st.tok r n sz h; rw [e.2] at this; exact this

theorem draw_ok (hE : EnvOk E) (hih : SimH E ih) (hreg : regionOk ops = true) : ∀ (m : Nat) (ps : List (Nat × Lg)) (listed : Array Bool) (S S' : St) (a : Act) (w : World), ps.length = m →
    Path E ih f rid ops ps S S' → ps.Pairwise (NoMeet (Region.before ops)) → ps.Pairwise (fun x y => x.1 < y.1) → listed.size = ops.size →
    (∀ i, listed[i]? = some false ↔ ∃ p, (i, p) ∈ ps) →
    (∀ i j, listed[i]? = some true → ((Region.before ops).getD i 0).testBit j = true → j < ops.size → listed[j]? = some true) →
    At μ0 w0 F0 hp0 S a w → (∀ a' w', At μ0 w0 F0 hp0 S' a' w' → Q .normal a' w') → wpAny E.P .any ops Q m listed a w := by
  intro m
  induction m with
  | zero =>
    intro ps listed S S' a w hm hp _ _ hs hl _ hat hQ
    have : ps = [] := List.length_eq_zero_iff.1 hm
    subst this
    refine ⟨?_, ?_⟩
    · rw [List.eq_nil_iff_forall_not_mem]
      intro i hi
      obtain ⟨o, _, h1, _⟩ := (mem_ready hs).1 hi
      obtain ⟨p, hp⟩ := (hl i).1 h1
      cases hp
    · cases hp with
      | nil e => exact hQ a w (hat.congr e)
  | succ m ihm =>
    intro ps listed S S' a w hm hp hw hso hs hl hdown hat hQ
    refine ⟨fun hnil => ?_, fun i hi => ?_⟩
    · -- the first is ready
      exfalso
      cases ps with
      | nil => cases hm
      | cons x ps =>
        obtain ⟨i, p⟩ := x
        cases hp with
        | cons o ho h t =>
          have hi1 : listed[i]? = some false := (hl i).2 ⟨p, List.mem_cons_self⟩
          have : i ∈ Region.ready .any ops listed := by
            refine (mem_ready hs).2 ⟨o, ho, hi1, fun e he hb => ?_⟩
            have hlt := (regionOk_spec hreg ho).1 e he hb
            have hes : e.on < listed.size := by rw [hs]; have := (Array.getElem?_eq_some_iff.1 ho).1; omega
            cases hv : listed[e.on]? with
            | none => rw [Array.getElem?_eq_none_iff] at hv; omega
            | some b =>
              cases b with
              | true => rfl
              | false =>
                obtain ⟨q, hq⟩ := (hl e.on).1 hv
                rcases List.mem_cons.1 hq with hq | hq
                · simp only [Prod.mk.injEq] at hq; omega
                · have := (List.pairwise_cons.1 hso).1 _ hq
                  simp only at this
                  omega
          rw [hnil] at this
          cases this
    · obtain ⟨o, ho, h1, h2⟩ := (mem_ready hs).1 hi
      obtain ⟨p, hpm⟩ := (hl i).1 h1
      obtain ⟨xs, ys, hsplit⟩ := List.append_of_mem hpm
      subst hsplit
      obtain ⟨q1, q2, q3⟩ := regionOk_spec hreg ho
      have hlt : ∀ x ∈ xs, x.1 < i := fun x hx => (List.pairwise_append.1 hso).2.2 x hx (i, p) List.mem_cons_self
      have hgt : ∀ y ∈ ys, i < y.1 := fun y hy => (List.pairwise_cons.1 (List.pairwise_append.1 hso).2.1).1 y hy
      have hbits : ∀ j, ((Region.before ops).getD i 0).testBit j = true → j < ops.size → listed[j]? = some true := fun j hj hjs => by
        obtain ⟨_, e, e1, e2, e3⟩ := q2 j hjs hj
        have he := h2 e e1 e2
        rcases e3 with rfl | e3
        · exact he
        · exact hdown e.on j he e3 hjs
      have hfront := Path.front ho xs hp fun x hx => by
        have hlx := hlt x hx
        have hnb : ¬ ((Region.before ops).getD i 0).testBit x.1 = true := fun hb => by
          have hxs : x.1 < ops.size := by have := (Array.getElem?_eq_some_iff.1 ho).1; omega
          have h3 := hbits x.1 hb hxs
          have h4 := (hl x.1).2 ⟨x.2, List.mem_append_left _ hx⟩
          rw [h3] at h4
          cases h4
        refine ⟨?_, fun oj hoj => (q3 x.1 oj hlx hoj).resolve_left hnb⟩
        exact ((List.pairwise_append.1 hw).2.2 x hx (i, p) List.mem_cons_self).resolve_left hnb
      cases hfront with
      | cons o' ho' hd t =>
        refine step_ok hE hih (does_step hd) hat fun a' w' hat' => ihm (xs ++ ys) _ _ S' a' w' ?_ t ?_ ?_ ?_ ?_ ?_ hat' hQ
        · simp at hm ⊢; omega
        · exact List.Pairwise.sublist ((List.Sublist.refl xs).append (List.sublist_cons_self (i, p) ys)) hw
        · exact List.Pairwise.sublist ((List.Sublist.refl xs).append (List.sublist_cons_self (i, p) ys)) hso
        · simp [hs]
        · intro j
          have hil : i < listed.size := (Array.getElem?_eq_some_iff.1 h1).1
          by_cases hij : i = j
          · subst hij
            rw [Array.getElem?_setIfInBounds_self_of_lt hil]
            refine ⟨fun h => (by cases h), fun ⟨r, hr⟩ => ?_⟩
            rcases List.mem_append.1 hr with hr | hr
            · have := hlt _ hr; simp only at this; omega
            · have := hgt _ hr; simp only at this; omega
          · rw [Array.getElem?_setIfInBounds_ne hij, hl j]
            constructor
            · rintro ⟨r, hr⟩
              refine ⟨r, ?_⟩
              rcases List.mem_append.1 hr with hr | hr
              · exact List.mem_append_left _ hr
              · rcases List.mem_cons.1 hr with hr | hr
                · simp only [Prod.mk.injEq] at hr; exact absurd hr.1.symm hij
                · exact List.mem_append_right _ hr
            · rintro ⟨r, hr⟩
              refine ⟨r, ?_⟩
              rcases List.mem_append.1 hr with hr | hr
              · exact List.mem_append_left _ hr
              · exact List.mem_append_right _ (List.mem_cons_of_mem _ hr)
        · have hil : i < listed.size := (Array.getElem?_eq_some_iff.1 h1).1
          have hup : ∀ j, listed[j]? = some true → (listed.setIfInBounds i true)[j]? = some true := fun j hj => by
            by_cases hij : i = j
            · subst hij; rw [Array.getElem?_setIfInBounds_self_of_lt hil]
            · rw [Array.getElem?_setIfInBounds_ne hij]; exact hj
          intro k j hk hb hj
          by_cases hik : i = k
          · subst hik; exact hup j (hbits j hb hj)
          · rw [Array.getElem?_setIfInBounds_ne hik] at hk
            exact hup j (hdown k j hk hb hj)

theorem region_ok (hE : EnvOk E) (hih : SimH E ih) (hreg : regionOk ops = true) {S S' : St} {a : Act} {w : World}
    (h : runDraw E ih f rid ops (Region.before ops) (List.range ops.size) [] S = some S') (hat : At μ0 w0 F0 hp0 S a w) (hQ : ∀ a' w', At μ0 w0 F0 hp0 S' a' w' → Q .normal a' w') :
    (Code.region rid ops true).wp E.P Q a w := by
  refine wp_region_any hE.mixed ?_
  obtain ⟨ps, e1, hp, hw, _⟩ := runDraw_path (List.range ops.size) [] (fun i hi => ⟨ops[i]'(by simpa using hi), Array.getElem?_eq_getElem _⟩) h
  have hlen : ps.length = ops.size := by rw [← List.length_map (f := (·.1)), e1, List.length_range]
  have hat' : At μ0 w0 F0 hp0 S a { w with drawn := w.drawn + 1 } := by
    obtain ⟨hd, μ, F, hs, hr, st⟩ := hat
    obtain ⟨s1, s2⟩ := drew_stp hr
    exact ⟨hd, μ, F, hs.mono s1, s2, st.trans s1⟩
  rw [← hlen]
  refine draw_ok hE hih hreg ps.length ps _ S S' a _ rfl hp hw ?_ (by simp [hlen]) (fun i => ?_) (fun i j hi => ?_) hat' hQ
  · have : (ps.map (·.1)).Pairwise (· < ·) := by rw [e1]; exact List.pairwise_lt_range
    rw [List.pairwise_map] at this
    exact this
  · rw [Array.getElem?_replicate]
    have : (∃ p, (i, p) ∈ ps) ↔ i ∈ ps.map (·.1) := by simp
    rw [this, e1, List.mem_range, hlen]
    constructor
    · intro h; split at h
      · assumption
      · cases h
    · intro h; rw [if_pos h]
  · rw [Array.getElem?_replicate] at hi
    split at hi <;> cases hi
end
end Idl
end Go.Proofs.Ytbkdidonegggdaa

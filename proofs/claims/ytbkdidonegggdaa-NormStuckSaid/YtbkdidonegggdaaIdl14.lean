/-
  THE IDEAL SEMANTICS AND MEMORY: a call of which the callee sees what it is handed alone.
-/
import Derived.Test.YtbkdidonegggdaaIdl13
namespace Go.Proofs.Ytbkdidonegggdaa
namespace Idl

/-- The callee's places. -/
def muC (μ : Ref → Nat) (l : List (Ref × Blk)) : Ref → Nat
  | .ext j => match l[j]? with | some p => μ p.1 | none => 0
  | .own _ => 0
/-- The caller's places, afterwards. -/
def muB (μ μ1 : Ref → Nat) (l : List (Ref × Blk)) (r : Ref) : Nat := match placeOf r l 0 with | some j => μ1 (.ext j) | none => μ r

theorem muC_at {μ : Ref → Nat} {l : List (Ref × Blk)} {j : Nat} {p : Ref × Blk} (h : l[j]? = some p) : muC μ l (.ext j) = μ p.1 := by simp [muC, h]
theorem placeOf_none {r : Ref} : ∀ {l : List (Ref × Blk)} {i : Nat}, placeOf r l i = none → ∀ p ∈ l, p.1 ≠ r
  | [], _, _, _, hp => by cases hp
  | (s, b) :: l, i, h, p, hp => by
    simp only [placeOf] at h
    split at h
    · cases h
    · rename_i hn
      rcases List.mem_cons.1 hp with rfl | hp
      · exact fun e => hn e.symm
      · exact placeOf_none h p hp
theorem placeOf_at {l : List (Ref × Blk)} (hn : (keys l).Nodup) {j : Nat} {p : Ref × Blk} (h : l[j]? = some p) : placeOf p.1 l 0 = some j := by
  cases e : placeOf p.1 l 0 with
  | none => exact absurd rfl (placeOf_none e p (List.mem_of_getElem? h))
  | some i =>
    obtain ⟨b, h1, _⟩ := placeOf_get e
    rw [Nat.sub_zero] at h1
    rw [nodup_get hn h1 h rfl]
theorem muB_at {μ μ1 : Ref → Nat} {l : List (Ref × Blk)} (hn : (keys l).Nodup) {j : Nat} {p : Ref × Blk} (h : l[j]? = some p) : muB μ μ1 l p.1 = μ1 (.ext j) := by
  simp [muB, placeOf_at hn h]
theorem muB_off {μ μ1 : Ref → Nat} {l : List (Ref × Blk)} {r : Ref} (h : ∀ p ∈ l, p.1 ≠ r) : muB μ μ1 l r = μ r := by
  unfold muB
  cases e : placeOf r l 0 with
  | none => rfl
  | some i =>
    obtain ⟨b, h1, _⟩ := placeOf_get e
    exact absurd rfl (h _ (List.mem_of_getElem? h1))

section
variable {E : Env} {μ μ1 : Ref → Nat} {w w' : World} {F F' : Prot} {hp hp' hpc : Hp} {l : List (Ref × Blk)} {ext : List Blk}

theorem into_nm (hg : Got hp l) (hx : renBlks (into l) (l.map (·.2)) = some ext) : Nm (into l) μ hp (muC μ l) ⟨[], ext⟩ := by
  have key : ∀ r r' b, into l r = some r' → hp.get r = some b → ∃ b', (Hp.mk [] ext).get r' = some b' ∧ sameKind b b' ∧ muC μ l r' = μ r := by
    intro r r' b h1 h2
    obtain ⟨j, b0, rfl, h3⟩ := into_get h1
    have h4 := hg.1 _ (List.mem_of_getElem? h3)
    rw [h2] at h4
    cases h4
    obtain ⟨e1, e2⟩ := renBlks_get hx
    have hj : j < ext.length := by rw [e1, List.length_map]; exact (List.getElem?_eq_some_iff.1 h3).1
    obtain ⟨b1, g1, g2⟩ := e2 j ext[j] (List.getElem?_eq_getElem hj)
    simp only [List.getElem?_map, h3, Option.map_some, Option.some.injEq] at g1
    subst g1
    exact ⟨ext[j], List.getElem?_eq_getElem hj, blk_ren g2, muC_at h3⟩
  refine ⟨fun r r' cs ro h1 h2 => ?_, fun r r' es h1 h2 => ?_, fun r r' n sz h1 h2 => ?_⟩
  · obtain ⟨b', k1, k2, k3⟩ := key r r' _ h1 h2
    cases b' with
    | row cs' ro' => exact ⟨⟨cs', ro', k1⟩, k3⟩
    | _ => cases k2
  · obtain ⟨b', k1, k2, k3⟩ := key r r' _ h1 h2
    cases b' with
    | map es' => exact ⟨⟨es', k1⟩, k3⟩
    | _ => cases k2
  · obtain ⟨b', k1, k2, k3⟩ := key r r' _ h1 h2
    cases b' with
    | tok n' sz' => obtain ⟨rfl, rfl⟩ := k2; exact ⟨k1, k3⟩
    | _ => cases k2

theorem ext_at (hx : renBlks (into l) (l.map (·.2)) = some ext) {j : Nat} {b' : Blk} (h : ext[j]? = some b') : ∃ p, l[j]? = some p ∧ p.2.ren (into l) = some b' := by
  obtain ⟨e1, e2⟩ := renBlks_get hx
  obtain ⟨b1, g1, g2⟩ := e2 j b' h
  simp only [List.getElem?_map, Option.map_eq_some_iff] at g1
  obtain ⟨p, p1, rfl⟩ := g1
  exact ⟨p, p1, g2⟩

theorem callee_hr (hr : HR μ w F hp) (hg : Got hp l) (hx : renBlks (into l) (l.map (·.2)) = some ext) : HR (muC μ l) w F ⟨[], ext⟩ := by
  refine ⟨fun r b h => ?_, fun r s h1 h2 e => ?_, hr.wf⟩
  · cases r with
    | own k => cases h
    | ext j =>
      obtain ⟨p, p1, p2⟩ := ext_at hx h
      exact BR_ren (into_nm hg hx) (hr.blk p.1 p.2 (hg.1 p (List.mem_of_getElem? p1))) p2 (muC_at p1)
  · cases r with
    | own k => cases h1
    | ext i => cases s with
      | own k => cases h2
      | ext j =>
        obtain ⟨b1, h1⟩ := Option.isSome_iff_exists.1 h1
        obtain ⟨b2, h2⟩ := Option.isSome_iff_exists.1 h2
        obtain ⟨p, p1, _⟩ := ext_at hx h1
        obtain ⟨q, q1, _⟩ := ext_at hx h2
        rw [muC_at p1, muC_at q1] at e
        have h3 := hg.1 p (List.mem_of_getElem? p1)
        have h4 := hg.1 q (List.mem_of_getElem? q1)
        have := hr.inj p.1 q.1 (by rw [h3]; rfl) (by rw [h4]; rfl) e
        rw [nodup_get hg.2 p1 q1 this]

theorem zip_keys {ext' : List Blk} {q : Ref × Blk} (h : q ∈ (keys l).zip ext') : ∃ (j : Nat) (p : Ref × Blk), l[j]? = some p ∧ p.1 = q.1 ∧ ext'[j]? = some q.2 := by
  obtain ⟨j, hj⟩ := List.mem_iff_getElem?.1 h
  rw [List.getElem?_zip_eq_some] at hj
  obtain ⟨h1, h2⟩ := hj
  simp only [keys, List.getElem?_map, Option.map_eq_some_iff] at h1
  obtain ⟨p, p1, p2⟩ := h1
  exact ⟨j, p, p1, p2, h2⟩

/-- What the caller holds afterwards. -/
theorem after_get {ext' : List Blk} (hg : Got hp l) (hl : ext'.length = l.length) (h : laid hp ((keys l).zip ext') = some hp') :
    (∀ (j : Nat) (p : Ref × Blk), l[j]? = some p → hp'.get p.1 = ext'[j]?) ∧ ∀ r, (∀ p ∈ l, p.1 ≠ r) → hp'.get r = hp.get r := by
  refine ⟨fun j p hj => ?_, fun r hr => laid_get _ _ _ h r fun q hq e => ?_⟩
  · have hjl : j < ext'.length := by rw [hl]; exact (List.getElem?_eq_some_iff.1 hj).1
    rw [List.getElem?_eq_getElem hjl]
    refine laid_mem _ _ _ h p.1 _ (fun q hq e => ?_) ⟨(p.1, ext'[j]), ?_, rfl⟩
    · obtain ⟨i, p', h1, h2, h3⟩ := zip_keys hq
      have : i = j := nodup_get hg.2 h1 hj (h2.trans e)
      subst this
      rw [List.getElem?_eq_getElem hjl] at h3
      exact (Option.some.inj h3).symm
    · exact List.mem_iff_getElem?.2 ⟨j, by rw [List.getElem?_zip_eq_some]; exact ⟨by simp [keys, hj], List.getElem?_eq_getElem hjl⟩⟩
  · obtain ⟨i, p', h1, h2, _⟩ := zip_keys hq
    exact hr p' (List.mem_of_getElem? h1) (h2.trans e)

theorem back_step (hr : HR μ w F hp) (hg : Got hp l) (hx : renBlks (into l) (l.map (·.2)) = some ext) (st : Stp (muC μ l) w F ⟨[], ext⟩ μ1 w' F' hpc) (hrc : HR μ1 w' F' hpc)
    {ext' : List Blk} (hb : renBlks (back l) hpc.ext = some ext') (hl : ext'.length = l.length) (h : laid hp ((keys l).zip ext') = some hp') :
    Nm (back l) μ1 hpc (muB μ μ1 l) hp' ∧ Stp μ w F hp (muB μ μ1 l) w' F' hp' ∧ HR (muB μ μ1 l) w' F' hp' := by
  obtain ⟨g1, g2⟩ := after_get hg hl h
  have exlen : ext.length = l.length := by rw [(renBlks_get hx).1, List.length_map]
  have clen : ∀ (j : Nat) (p : Ref × Blk), l[j]? = some p → ∃ b, ext[j]? = some b ∧ sameKind p.2 b := fun j p hp1 => by
    have hj : j < ext.length := by rw [exlen]; exact (List.getElem?_eq_some_iff.1 hp1).1
    obtain ⟨q, q1, q2⟩ := ext_at hx (List.getElem?_eq_getElem hj)
    rw [hp1] at q1; cases q1
    exact ⟨ext[j], List.getElem?_eq_getElem hj, blk_ren q2⟩
  have hback : ∀ (j : Nat) (p : Ref × Blk) (b : Blk), l[j]? = some p → hpc.ext[j]? = some b → ∃ b', hp'.get p.1 = some b' ∧ b.ren (back l) = some b' := fun j p b hp1 hb1 => by
    have hj : j < ext'.length := by rw [hl]; exact (List.getElem?_eq_some_iff.1 hp1).1
    obtain ⟨b0, k1, k2⟩ := (renBlks_get hb).2 j ext'[j] (List.getElem?_eq_getElem hj)
    rw [hb1] at k1; cases k1
    exact ⟨ext'[j], by rw [g1 j p hp1]; exact List.getElem?_eq_getElem hj, k2⟩
  have hin : ∀ r, (∃ (j : Nat) (p : Ref × Blk), l[j]? = some p ∧ p.1 = r) ∨ (∀ p ∈ l, p.1 ≠ r) := fun r => by
    by_cases hq : ∃ p ∈ l, p.1 = r
    · obtain ⟨p, p1, p2⟩ := hq
      obtain ⟨j, hj⟩ := List.mem_iff_getElem?.1 p1
      exact .inl ⟨j, p, hj, p2⟩
    · exact .inr fun p hp1 e => hq ⟨p, hp1, e⟩
  have nm : Nm (back l) μ1 hpc (muB μ μ1 l) hp' := by
    have key : ∀ r r' b, back l r = some r' → hpc.get r = some b → ∃ b', hp'.get r' = some b' ∧ sameKind b b' ∧ muB μ μ1 l r' = μ1 r := by
      intro r r' b h1 h2
      obtain ⟨j, b0, rfl, h3⟩ := back_get h1
      obtain ⟨b', k1, k2⟩ := hback j _ b h3 h2
      exact ⟨b', k1, blk_ren k2, muB_at hg.2 h3⟩
    refine ⟨fun r r' cs ro h1 h2 => ?_, fun r r' es h1 h2 => ?_, fun r r' n sz h1 h2 => ?_⟩
    · obtain ⟨b', k1, k2, k3⟩ := key r r' _ h1 h2
      cases b' with
      | row cs' ro' => exact ⟨⟨cs', ro', k1⟩, k3⟩
      | _ => cases k2
    · obtain ⟨b', k1, k2, k3⟩ := key r r' _ h1 h2
      cases b' with
      | map es' => exact ⟨⟨es', k1⟩, k3⟩
      | _ => cases k2
    · obtain ⟨b', k1, k2, k3⟩ := key r r' _ h1 h2
      cases b' with
      | tok n' sz' => obtain ⟨rfl, rfl⟩ := k2; exact ⟨k1, k3⟩
      | _ => cases k2
  have hcs : ∀ j, j < l.length → ((Hp.mk [] ext).get (.ext j)).isSome := fun j hj => by
    show (ext[j]?).isSome
    rw [List.getElem?_eq_getElem (by omega)]; rfl
  have hcin : ∀ r, ((Hp.mk [] ext).get r).isSome → ∃ (j : Nat) (p : Ref × Blk), r = .ext j ∧ l[j]? = some p := fun r h1 => by
    cases r with
    | own k => cases h1
    | ext j =>
      obtain ⟨b, hb⟩ := Option.isSome_iff_exists.1 h1
      have : j < ext.length := (List.getElem?_eq_some_iff.1 hb).1
      exact ⟨j, _, rfl, List.getElem?_eq_getElem (by omega)⟩
  have hcmu : ∀ r b, ((Hp.mk [] ext).get r).isSome → muC μ l r = b → ∃ p ∈ l, μ p.1 = b := fun r b h1 h2 => by
    obtain ⟨j, p, rfl, hj⟩ := hcin r h1
    exact ⟨p, List.mem_of_getElem? hj, by rw [← muC_at (μ := μ) hj]; exact h2⟩
  have hls : ∀ p ∈ l, (hp.get p.1).isSome := fun p hp1 => by rw [hg.1 p hp1]; rfl
  have hst : Stp μ w F hp (muB μ μ1 l) w' F' hp' := by
    refine ⟨st.ws, st.sub, fun r cs ro h1 => ?_, fun r es h1 => ?_, fun r n sz h1 => ?_, fun r h1 h2 => ?_, fun b hb1 hb2 => ?_, fun b o hf => ?_⟩
    · rcases hin r with ⟨j, p, hj, rfl⟩ | hoff
      · have hb := hg.1 p (List.mem_of_getElem? hj)
        rw [h1] at hb
        obtain ⟨b, q1, q2⟩ := clen j p hj
        obtain ⟨p1, p2⟩ := p
        cases hb
        cases b with
        | row cs2 ro2 =>
          obtain ⟨⟨a, a', e1⟩, e2⟩ := st.row (.ext j) cs2 ro2 q1
          obtain ⟨⟨c, c', e3⟩, e4⟩ := nm.row (.ext j) p1 a a' (by simp [back, hj]) e1
          exact ⟨⟨c, c', e3⟩, by rw [e4, e2, muC_at hj]⟩
        | _ => cases q2
      · exact ⟨⟨cs, ro, by rw [g2 r hoff]; exact h1⟩, muB_off hoff⟩
    · rcases hin r with ⟨j, p, hj, rfl⟩ | hoff
      · have hb := hg.1 p (List.mem_of_getElem? hj)
        rw [h1] at hb
        obtain ⟨b, q1, q2⟩ := clen j p hj
        obtain ⟨p1, p2⟩ := p
        cases hb
        cases b with
        | map es2 =>
          obtain ⟨⟨a, e1⟩, e2⟩ := st.map (.ext j) es2 q1
          obtain ⟨⟨c, e3⟩, e4⟩ := nm.map (.ext j) p1 a (by simp [back, hj]) e1
          exact ⟨⟨c, e3⟩, by rw [e4, e2, muC_at hj]⟩
        | _ => cases q2
      · exact ⟨⟨es, by rw [g2 r hoff]; exact h1⟩, muB_off hoff⟩
    · rcases hin r with ⟨j, p, hj, rfl⟩ | hoff
      · have hb := hg.1 p (List.mem_of_getElem? hj)
        rw [h1] at hb
        obtain ⟨b, q1, q2⟩ := clen j p hj
        obtain ⟨p1, p2⟩ := p
        cases hb
        cases b with
        | tok n2 sz2 =>
          obtain ⟨rfl, rfl⟩ := q2
          obtain ⟨a, e1, e2, e5⟩ := st.tok (.ext j) n sz q1
          obtain ⟨e3, e4⟩ := nm.tok (.ext j) p1 a sz (by simp [back, hj]) e1
          refine ⟨a, e3, e2, ?_⟩
          rw [e4]
          rw [muC_at hj] at e5
          exact e5
        | _ => cases q2
      · exact ⟨n, by rw [g2 r hoff]; exact h1, Nat.le_refl _, .inl (muB_off hoff)⟩
    · rcases hin r with ⟨j, p, hj, rfl⟩ | hoff
      · have := hls p (List.mem_of_getElem? hj); rw [h1] at this; cases this
      · rw [g2 r hoff, h1] at h2; cases h2
    · refine st.frame b hb1 fun r hr1 e => ?_
      obtain ⟨p, p1, p2⟩ := hcmu r b hr1 e
      exact hb2 p.1 (hls p p1) p2
    · rcases st.newF b o hf with h1 | h1 | ⟨r, r1, r2⟩
      · exact .inl h1
      · exact .inr (.inl h1)
      · obtain ⟨p, p1, p2⟩ := hcmu r b r1 r2
        exact .inr (.inr ⟨p.1, hls p p1, p2⟩)
  have hsz := st.ws.size
  refine ⟨nm, hst, fun r b hb1 => ?_, fun r s h1 h2 e => ?_, hrc.wf⟩
  · rcases hin r with ⟨j, p, hj, rfl⟩ | hoff
    · have hbj := g1 j p hj
      rw [hb1] at hbj
      obtain ⟨b0, k1, k2⟩ := (renBlks_get hb).2 j b hbj.symm
      exact BR_ren nm (hrc.blk (.ext j) b0 k1) k2 (muB_at hg.2 hj)
    · have hb2 : hp.get r = some b := by rw [← g2 r hoff]; exact hb1
      have hsome : (hp.get r).isSome := by rw [hb2]; rfl
      have hlt := hr.lt hsome
      have hne : ∀ r', ((Hp.mk [] ext).get r').isSome → muC μ l r' ≠ μ r := fun r' h1 e => by
        obtain ⟨p, p1, p2⟩ := hcmu r' _ h1 e
        exact hoff p p1 (hr.inj p.1 r (hls p p1) hsome p2)
      refine (hr.blk r b hb2).mono hst (muB_off hoff) (st.frame _ hlt hne) fun o hf => ?_
      rcases st.newF _ o hf with h1 | h1 | ⟨r', r1, r2⟩
      · exact h1
      · omega
      · exact absurd r2 (hne r' r1)
  · have hpl : ∀ (j : Nat) (p : Ref × Blk), l[j]? = some p → (hpc.get (.ext j)).isSome ∧ (μ1 (.ext j) = μ p.1 ∨ w.heap.size ≤ μ1 (.ext j)) := fun j p hj => by
      have hs := hcs j (List.getElem?_eq_some_iff.1 hj).1
      refine ⟨st.some_of hs, ?_⟩
      rw [← muC_at (μ := μ) hj]
      exact st.place hs
    rcases hin r with ⟨i, p, hi, rfl⟩ | hoff <;> rcases hin s with ⟨j, q, hj, rfl⟩ | hoff'
    · rw [muB_at hg.2 hi, muB_at hg.2 hj] at e
      have := hrc.inj _ _ (hpl i p hi).1 (hpl j q hj).1 e
      cases this
      rw [hi] at hj; cases hj; rfl
    · rw [muB_at hg.2 hi, muB_off hoff'] at e
      rw [g2 s hoff'] at h2
      have hlt := hr.lt h2
      rcases (hpl i p hi).2 with e1 | e1
      · exact hr.inj _ _ (hls p (List.mem_of_getElem? hi)) h2 (e1.symm.trans e)
      · omega
    · rw [muB_at hg.2 hj, muB_off hoff] at e
      rw [g2 r hoff] at h1
      have hlt := hr.lt h1
      rcases (hpl j q hj).2 with e1 | e1
      · exact hr.inj _ _ h1 (hls q (List.mem_of_getElem? hj)) (e.trans e1)
      · omega
    · rw [muB_off hoff, muB_off hoff'] at e
      rw [g2 r hoff] at h1
      rw [g2 s hoff'] at h2
      exact hr.inj r s h1 h2 e
end

section
variable {E : Env} {μ : Ref → Nat} {w : World} {F : Prot} {hp hp' : Hp} {ih : Handler}

theorem isEmptySl_some {o : Option (IV × Hp)} (h : isEmptySl o = true) : ∃ r own, o = some (r, ⟨own, []⟩) ∧ ∀ μ w F hp v, R μ w F hp r v → RF w F (.sl []) v := by
  unfold isEmptySl at h
  split at h
  · exact ⟨_, _, rfl, fun μ w F hp v hv => by cases hv; exact .sl0 none 0 fun _ => rfl⟩
  · exact ⟨_, _, rfl, fun μ w F hp v hv => by cases hv; exact .sl0 _ _ fun e => by cases e⟩
  · refine ⟨_, _, rfl, fun μ w F hp v hv => ?_⟩
    cases hv with
    | clip _ a h => exact h
    | clip0 a => exact .sl0 _ _ fun _ => rfl
  · exact ⟨_, _, rfl, fun μ w F hp v hv => by cases hv with | fv _ _ h => exact h⟩
  · cases h

theorem asked_ok (hih : SimH E ih) {f : FuncId} {args : List IV} {ext : List Blk} {res : IV} {vals : Array Value} (h : asked E ih f args ext = some (res, hp'))
    (hr : HR μ w F ⟨[], ext⟩) (hs : SlotsR μ w F ⟨[], ext⟩ args vals) : (∃ fn, E.P.funcs[f]? = some fn ∧ fn.body.isSome) ∧ SimC E μ w F ⟨[], ext⟩ f vals res hp' := by
  unfold asked at h
  split at h
  · split at h
    · split at h
      · rename_i hc
        simp only [Bool.and_eq_true] at hc
        simp only [Option.some.injEq, Prod.mk.injEq] at h
        obtain ⟨rfl, rfl⟩ := h
        have go : ∀ arg, R μ w F ⟨[], []⟩ arg (vals.getD 0 undef) → isEmptySl (ih f [arg] ⟨[], []⟩) = true →
            (∃ fn, E.P.funcs[f]? = some fn ∧ fn.body.isSome) ∧ SimC E μ w F ⟨[], []⟩ f vals (.fv (.sl [])) ⟨[], []⟩ := by
          intro arg ha he
          obtain ⟨r, own, h1, h2⟩ := isEmptySl_some he
          obtain ⟨h3, h4⟩ := hih f _ _ _ _ h1
          refine ⟨h3, ?_⟩
          refine (h4 μ w F vals hr ⟨by simpa using hs.size, fun j y hy => ?_⟩).mono ?_
          · cases j with
            | zero => simp at hy; subst hy; exact ha
            | succ j => simp at hy
          · rintro e w' ⟨v, μ', F', e1, st, hr', hv⟩
            refine ⟨v, μ', F', e1, ⟨st.ws, st.sub, fun r cs ro h => ?_, fun r es h => ?_, fun r n sz h => ?_, fun r _ h => ?_, st.frame, st.newF⟩, ⟨fun r b h => ?_, fun r s h => ?_, hr'.wf⟩, .fv _ _ (h2 _ _ _ _ _ hv)⟩
            all_goals cases r <;> simp [Hp.get, lookupOwn] at h
        have h0 := hs.at_ 0 _ rfl
        cases h0 with | fv _ _ h0 =>
        generalize hx : vals.getD 0 undef = x0 at h0
        cases h0 with
        | sl0 a cap hcap =>
          cases a with
          | none =>
            have : cap = 0 := hcap rfl
            subst this
            exact go .nils (by rw [hx]; exact .nils) hc.1
          | some a => exact go .emp (by rw [hx]; exact .emp a cap) hc.2
        | sl _ b base sz cap vs hne => exact absurd rfl hne
      · cases h
    · obtain ⟨h3, h4⟩ := hih f _ _ _ _ h
      exact ⟨h3, h4 μ w F vals hr hs⟩
  · obtain ⟨h3, h4⟩ := hih f _ _ _ _ h
    exact ⟨h3, h4 μ w F vals hr hs⟩

theorem laid_ext : ∀ (u : List (Ref × Blk)) (h h' : Hp), laid h u = some h' → (∀ p ∈ u, ∃ k, p.1 = .own k) → h'.ext = h.ext
  | [], h, h', e, _ => by simp only [laid, Option.some.injEq] at e; rw [e]
  | (r, b) :: u, h, h', e, hk => by
    simp only [laid] at e
    cases hs : h.get r with
    | none => rw [hs] at e; cases e
    | some d =>
      rw [hs] at e
      simp only at e
      obtain ⟨k, hk'⟩ := hk _ List.mem_cons_self
      simp only at hk'
      subst hk'
      exact (laid_ext u _ _ e fun p hp => hk p (List.mem_cons_of_mem _ hp)).trans rfl

theorem iso_ok (hr : HR μ w F hp) (hih : SimH E ih) {f : FuncId} {args : List IV} {vals : Array Value} (hs : SlotsR μ w F hp args vals) {eff : Eff}
    (h : (isoCall E ih f args).run hp = some eff) (hl : laid hp eff.upd = some hp') : (∃ fn, E.P.funcs[f]? = some fn ∧ fn.body.isSome) ∧ SimC E μ w F hp f vals eff.val hp' := by
  unfold isoCall at h
  obtain ⟨⟨vs, rs, u⟩, h1, h⟩ := Rd.run_bind_some h
  obtain ⟨l, h2, h⟩ := Rd.run_bind_some h
  have h := Rd.run_of h
  simp only [Option.bind_eq_some_iff] at h
  obtain ⟨vs', h3, ext, h4, ⟨res, hpc⟩, h5, res1, h6, res2, h7, ext', h8, h9⟩ := h
  split at h9
  · rename_i hc
    obtain ⟨hc1, hc2⟩ := hc
    simp only [Option.some.injEq] at h9
    subst h9
    have hg := gather_got _ _ _ _ h2 ⟨fun p hp => (by cases hp), List.nodup_nil⟩
    obtain ⟨m1, lv, r1⟩ := frzArgs_ok hr _ args vs rs u (fun j => vals.getD j undef) hs.at_ h1
    simp only at hl
    rw [laid_append] at hl
    obtain ⟨hp1, hl1, hl2⟩ := Option.bind_eq_some_iff.1 hl
    obtain ⟨st1, hr1⟩ := marks_stp hr m1 hl1
    have hg1 : Got hp1 l := by
      refine ⟨fun p hp' => ?_, hg.2⟩
      rw [laid_get u _ _ hl1 p.1 fun q hq e => ?_]
      · exact hg.1 p hp'
      · have := List.all_eq_true.1 hc2 q.1 (List.mem_map.2 ⟨q, hq, rfl⟩)
        simp only [Bool.not_eq_true'] at this
        rw [hasRef_iff.2 ⟨p, hp', e.symm⟩] at this
        cases this
    have hrc := callee_hr hr1 hg1 h4
    have nmi := into_nm (μ := μ) hg1 h4
    obtain ⟨l3, g3⟩ := renL_get h3
    have hsc : SlotsR (muC μ l) w (addF μ u F) ⟨[], ext⟩ vs' vals := ⟨by rw [← hs.size, ← lv, ← l3], fun j y hy => by
      obtain ⟨y0, k1, k2⟩ := g3 j y hy
      have := r1 j y0 k1
      exact ren_R nmi (this.mono ⟨.refl _ w, fun _ _ h => h, st1.row, st1.map, st1.tok, st1.new, fun _ _ _ => rfl, fun b o h => .inl h⟩) y k2⟩
    obtain ⟨hfn, hsim⟩ := asked_ok hih h5 hrc hsc
    refine ⟨hfn, hsim.mono ?_⟩
    rintro e w' ⟨v, μ1, F1, e1, st, hr', hv⟩
    have hfin : ∃ F2 hpc', hpc'.ext = hpc.ext ∧ Stp (muC μ l) w (addF μ u F) ⟨[], ext⟩ μ1 w' F2 hpc' ∧ HR μ1 w' F2 hpc' ∧ R μ1 w' F2 hpc' res1 v := by
      unfold handBack at h6
      split at h6
      · simp only [Option.some.injEq] at h6
        subst h6
        exact ⟨F1, hpc, rfl, st, hr', hv⟩
      · simp only [Option.map_eq_some_iff] at h6
        obtain ⟨⟨fv, u2⟩, q1, rfl⟩ := h6
        obtain ⟨m2, rf⟩ := (frz_ok hr' 4096).1 res v fv u2 hv q1
        obtain ⟨hpc', q2⟩ := laid_some u2 hpc fun p hp => by obtain ⟨cs, ro, q, _⟩ := m2 p hp; rw [q]; rfl
        obtain ⟨st2, hr2⟩ := marks_stp hr' m2 q2
        exact ⟨_, hpc', laid_ext _ _ _ q2 ((frz_keys 4096).1 _ _ _ q1), st.trans st2, hr2, .fv _ _ rf⟩
    obtain ⟨F2, hpc', he, st', hr2, hv2⟩ := hfin
    rw [← he] at h8
    obtain ⟨nmb, stb, hrb⟩ := back_step hr1 hg1 h4 st' hr2 h8 hc1 hl2
    exact ⟨v, _, F2, e1, st1.trans stb, hrb, ren_R nmb hv2 _ h7⟩
  · cases h9
end
end Idl
end Go.Proofs.Ytbkdidonegggdaa

/-
  THE IDEAL SEMANTICS AND MEMORY: regions that draw their order.
-/
import Derived.Test.YtbkdidonegggdaaIdl15
namespace Go.Proofs.Ytbkdidonegggdaa
namespace Idl

theorem runLog_sub {α : Type} : ∀ (r : Rd α) (h : Hp) (l l' : List Ref) (a : α), r.runLog h l = some (a, l') → ∀ x ∈ l, x ∈ l'
  | .ret a, h, l, l', b, e, x, hx => by simp only [Rd.runLog, Option.some.injEq, Prod.mk.injEq] at e; rw [← e.2]; exact hx
  | .fail, h, l, l', b, e, x, hx => by cases e
  | .get r k, h, l, l', b, e, x, hx => by
    simp only [Rd.runLog] at e
    split at e
    · exact runLog_sub _ h _ l' b e x (List.mem_cons_of_mem _ hx)
    · cases e
theorem runLog_run {α : Type} : ∀ (r : Rd α) (h : Hp) (l l' : List Ref) (a : α), r.runLog h l = some (a, l') → r.run h = some a
  | .ret a, h, l, l', b, e => by simp only [Rd.runLog, Option.some.injEq, Prod.mk.injEq] at e; simp [Rd.run, e.1]
  | .fail, h, l, l', b, e => by cases e
  | .get r k, h, l, l', b, e => by
    simp only [Rd.runLog] at e
    split at e
    · rename_i c hc
      simp only [Rd.run, hc]
      exact runLog_run _ h _ l' b e
    · cases e
theorem runLog_agree {α : Type} : ∀ (r : Rd α) (h h' : Hp) (l l' : List Ref) (a : α), r.runLog h l = some (a, l') → (∀ x ∈ l', h'.get x = h.get x) → r.runLog h' l = some (a, l')
  | .ret a, h, h', l, l', b, e, _ => e
  | .fail, h, h', l, l', b, e, _ => by cases e
  | .get r k, h, h', l, l', b, e, hx => by
    simp only [Rd.runLog] at e ⊢
    split at e
    · rename_i c hc
      have hr : r ∈ l' := runLog_sub _ h _ l' b e r List.mem_cons_self
      rw [hx r hr, hc]
      exact runLog_agree _ h h' _ l' b e hx
    · cases e

theorem set_agree {A : Ref → Prop} {h h' : Hp} {s : Ref} {b : Blk} (e : ∀ r, A r → h'.get r = h.get r) (hs : A s) (hk : (∃ k, s = .own k) ∨ (h.get s).isSome) :
    ∀ r, A r → (h'.set s b).get r = (h.set s b).get r := by
  intro r hr
  by_cases hrs : r = s
  · subst hrs
    rcases hk with ⟨k, rfl⟩ | hk
    · rw [get_set_own, get_set_own]
    · rw [get_set_same _ _ _ hk, get_set_same _ _ _ (by rw [e r hs]; exact hk)]
  · rw [get_set_other _ _ _ _ hrs, get_set_other _ _ _ _ hrs]
    exact e r hr
theorem laid_agree {A : Ref → Prop} : ∀ (u : List (Ref × Blk)) (h h' h1 : Hp), laid h u = some h1 → (∀ r, A r → h'.get r = h.get r) → (∀ r ∈ keys u, A r) →
    ∃ h1', laid h' u = some h1' ∧ ∀ r, A r → h1'.get r = h1.get r
  | [], h, h', h1, e, ha, _ => by simp only [laid, Option.some.injEq] at e; subst e; exact ⟨h', rfl, ha⟩
  | (s, b) :: u, h, h', h1, e, ha, hk => by
    simp only [laid] at e ⊢
    have hs : A s := hk s (by simp [keys])
    cases hq : h.get s with
    | none => rw [hq] at e; cases e
    | some c =>
      rw [hq] at e
      rw [ha s hs, hq]
      exact laid_agree u _ _ h1 e (set_agree ha hs (.inr (by rw [hq]; rfl))) fun r hr => hk r (by simp [keys] at hr ⊢; exact .inr hr)

def newKeys (k : Nat) (m : Made) : List Ref := keys m.eff.upd ++ (match m.new with | some _ => [.own k] | none => [])
theorem heap_agree {A : Ref → Prop} {k : Nat} {m : Made} {h h' h1 : Hp} (e : heapOf k h m = some h1) (ha : ∀ r, A r → h'.get r = h.get r) (hk : ∀ r ∈ newKeys k m, A r) :
    ∃ h1', heapOf k h' m = some h1' ∧ ∀ r, A r → h1'.get r = h1.get r := by
  unfold heapOf at e ⊢
  obtain ⟨g, e1, e2⟩ := Option.bind_eq_some_iff.1 e
  obtain ⟨g', e3, e4⟩ := laid_agree _ h h' g e1 ha fun r hr => hk r (List.mem_append_left _ hr)
  rw [e3]
  simp only [Option.bind_some]
  unfold newOf at e2 ⊢
  split at e2
  · simp only [Option.some.injEq] at e2; subst e2; exact ⟨g', rfl, e4⟩
  · rename_i b hb
    have hA : A (.own k) := hk _ (by simp [newKeys, hb])
    split at e2
    · cases e2
    · rename_i hn
      simp only [Option.some.injEq] at e2
      subst e2
      rw [e4 _ hA, hn]
      exact ⟨_, rfl, set_agree e4 hA (.inl ⟨k, rfl⟩)⟩
theorem heap_frame {k : Nat} {m : Made} {h h1 : Hp} (e : heapOf k h m = some h1) : ∀ r, r ∉ newKeys k m → h1.get r = h.get r := by
  intro r hr
  unfold heapOf at e
  obtain ⟨g, e1, e2⟩ := Option.bind_eq_some_iff.1 e
  have h2 : g.get r = h.get r := laid_get _ _ _ e1 r fun p hp e => hr (List.mem_append_left _ (by simp only [keys]; exact List.mem_map.2 ⟨p, hp, e⟩))
  rw [← h2]
  unfold newOf at e2
  split at e2
  · simp only [Option.some.injEq] at e2; rw [e2]
  · rename_i b hb
    split at e2
    · cases e2
    · simp only [Option.some.injEq] at e2
      rw [← e2]
      exact get_set_other _ _ _ _ fun e => hr (by simp [newKeys, hb, e])

section
variable {E : Env} {ih : Handler} {f : FuncId} {rid : Nat} {ops : Array Oper}

theorem inlCall_congr {slots slots' : List IV} {o : Op} (h : ∀ x ∈ o.operands, operand slots' x = operand slots x) : inlCall E slots' o = inlCall E slots o := by
  unfold inlCall
  split
  · rename_i g args ts
    simp only [Op.operands] at h
    rw [h g (by simp [Call.operands]), List.map_congr_left (g := operand slots) fun x hx => h x (by simp [Call.operands]; exact .inr (by simpa using hx))]
  · rfl
theorem opR_congr {slots slots' : List IV} {i : Nat} {o : Op} (h : ∀ x ∈ o.operands, operand slots' x = operand slots x) : opR E ih f rid i slots' o = opR E ih f rid i slots o := by
  have pairs : ∀ ps : Array (Nat × Operand), (∀ x ∈ ps.map (·.2), operand slots' x = operand slots x) →
      (ps.toList.map fun (j, x) => (j, operand slots' x)) = (ps.toList.map fun (j, x) => (j, operand slots x)) := fun ps hp =>
    List.map_congr_left fun p hm => by
      obtain ⟨i, x⟩ := p
      simp only [hp x (Array.mem_map.2 ⟨(i, x), by simpa using hm, rfl⟩)]
  cases o <;> simp only [Op.operands] at h <;> simp only [opR, opG]
  case build t ps => rw [pairs ps fun x hx => h x (by simpa using hx)]
  case buildSlice t n ps => rw [pairs ps fun x hx => h x (by simpa using hx)]
  case makeFunc fn first captured =>
    rw [List.map_congr_left (l := first.toList) fun x hx => h x (by simp at hx; simp [hx]), List.map_congr_left (l := captured.toList) fun x hx => h x (by simp at hx; simp [hx])]
  case call c =>
    obtain ⟨cl, args, ts⟩ := c
    have ha : args.toList.map (operand slots') = args.toList.map (operand slots) := List.map_congr_left fun x hx => h x (by simp [Call.operands]; simp at hx; simp [hx])
    cases cl with
    | value g => simp only [ha, h g (by simp [Call.operands])]
    | builtin b => simp only [ha]
    | invoke r n => rfl
  case makeMap t r => cases r <;> simp_all
  case slice t x lo hi mx => cases lo <;> cases hi <;> cases mx <;> simp_all
  all_goals (first | rfl | (simp_all; done))

theorem wantedI_congr {slots slots' : List IV} {o : Oper} (h : ∀ d ∈ o.looksAt ops, slots'[d]? = slots[d]?) : wantedI ops slots' o = wantedI ops slots o := by
  unfold wantedI
  cases hg : o.guard with
  | none => rfl
  | some gw =>
    obtain ⟨j, want⟩ := gw
    simp only
    have : ((ops[j]?).bind (·.dst)).bind (slots'[·]?) = ((ops[j]?).bind (·.dst)).bind (slots[·]?) := by
      cases hd : (ops[j]?).bind (·.dst) with
      | none => rfl
      | some d => exact h d (by simp [Oper.looksAt, hg, hd])
    rw [this]

abbrev Lg := List Ref × List Ref
abbrev Does (E : Env) (ih : Handler) (f : FuncId) (rid : Nat) (ops : Array Oper) (i : Nat) (S : St) (S' : St) (p : Lg) : Prop := stepP E ih f rid ops i S = some (S', p)

/-- The same operation from a state that agrees on what it looks at. -/
theorem transfer {i : Nat} {o : Oper} (ho : ops[i]? = some o) {S S1 T : St} {p : Lg} (h : Does E ih f rid ops i S S1 p) (hsl : ∀ d ∈ o.looksAt ops, T.slots[d]? = S.slots[d]?)
    {A : Ref → Prop} (ha : ∀ r, A r → T.hp.get r = S.hp.get r) (h1 : ∀ r ∈ p.1, A r) (h2 : ∀ r ∈ p.2, A r) :
    ∃ T1, Does E ih f rid ops i T T1 p ∧ (∀ r, A r → T1.hp.get r = S1.hp.get r) ∧ (∀ r, r ∉ p.2 → T1.hp.get r = T.hp.get r) ∧ (∀ r, r ∉ p.2 → S1.hp.get r = S.hp.get r) ∧
      ∃ v, T1.slots = putSlot o.dst v T.slots ∧ S1.slots = putSlot o.dst v S.slots := by
  have hopd : ∀ x ∈ o.op.operands, operand T.slots x = operand S.slots x := fun x hx => by
    cases x with
    | tmp t =>
      simp only [operand, List.getD_eq_getElem?_getD]
      rw [hsl t (List.mem_append_left _ (List.mem_filterMap.2 ⟨.tmp t, by simpa using hx, rfl⟩))]
    | _ => rfl
  unfold Does stepP at h ⊢
  simp only [ho] at h ⊢
  rw [wantedI_congr hsl]
  split at h
  · cases h
  · simp only [Option.some.injEq, Prod.mk.injEq] at h
    obtain ⟨rfl, rfl⟩ := h
    exact ⟨_, rfl, ha, fun _ _ => rfl, fun _ _ => rfl, undefV, rfl, rfl⟩
  · rw [inlCall_congr hopd, opR_congr hopd]
    split at h
    · cases h
    · cases hl : (opR E ih f rid i S.slots o.op).runLog S.hp [] with
      | none => rw [hl] at h; cases h
      | some ml =>
        obtain ⟨m, rd⟩ := ml
        rw [hl] at h
        simp only [applyMade, Option.map_map, Option.map_eq_some_iff, Function.comp, Prod.mk.injEq] at h
        obtain ⟨g, hg, rfl, rfl⟩ := h
        have hl' := runLog_agree _ S.hp T.hp [] rd m hl fun x hx => ha x (h1 x hx)
        obtain ⟨g', hg', hag⟩ := heap_agree hg ha h2
        rw [hl']
        refine ⟨⟨putSlot o.dst m.eff.val T.slots, g'⟩, ?_, hag, heap_frame hg', heap_frame hg, m.eff.val, rfl, rfl⟩
        simp [applyMade, hg']

theorem does_step {i : Nat} {S S1 : St} {p : Lg} (h : Does E ih f rid ops i S S1 p) : step E ih f rid ops i S = some S1 := by
  unfold Does stepP at h
  unfold step
  cases ho : ops[i]? with
  | none =>
    simp only [ho, Option.some.injEq, Prod.mk.injEq] at h ⊢
    exact h.1
  | some o =>
    simp only [ho] at h ⊢
    split at h
    · cases h
    · rename_i hw
      simp only [Option.some.injEq, Prod.mk.injEq] at h
      simp only [Option.some.injEq]
      exact h.1
    · rename_i hw
      split at h
      · cases h
      · rename_i hin
        cases hl : (opR E ih f rid i S.slots o.op).runLog S.hp [] with
        | none => rw [hl] at h; cases h
        | some ml =>
          obtain ⟨m, rd⟩ := ml
          rw [hl] at h
          simp only [Option.map_eq_some_iff, Prod.mk.injEq] at h
          obtain ⟨g, hg, rfl, _⟩ := h
          rw [hin, runLog_run _ _ _ _ _ hl]
          exact hg

def Eqv (S T : St) : Prop := S.slots = T.slots ∧ ∀ r, S.hp.get r = T.hp.get r

/-- Operations that are done one after the other. -/
inductive Path (E : Env) (ih : Handler) (f : FuncId) (rid : Nat) (ops : Array Oper) : List (Nat × Lg) → St → St → Prop
  | nil {S S' : St} (e : Eqv S S') : Path E ih f rid ops [] S S'
  | cons {i : Nat} {p : Lg} {ps : List (Nat × Lg)} {S S1 S' : St} (o : Oper) (ho : ops[i]? = some o) (h : Does E ih f rid ops i S S1 p) (t : Path E ih f rid ops ps S1 S') : Path E ih f rid ops ((i, p) :: ps) S S'

theorem Path.congr {ps : List (Nat × Lg)} {S S' : St} (h : Path E ih f rid ops ps S S') : ∀ {T : St}, Eqv T S → Path E ih f rid ops ps T S' := by
  induction h with
  | nil e => exact fun {T} e' => .nil ⟨e'.1.trans e.1, fun r => (e'.2 r).trans (e.2 r)⟩
  | cons o ho h t ih' =>
    intro T e
    obtain ⟨T1, h1, h2, _, _, v, h3, h4⟩ := transfer ho h (T := T) (fun d _ => by rw [e.1]) (A := fun _ => True) (fun r _ => e.2 r) (fun _ _ => trivial) (fun _ _ => trivial)
    exact .cons o ho h1 (ih' ⟨by rw [h3, h4, e.1], fun r => h2 r trivial⟩)

theorem disj_spec {a b : List Ref} (h : disj a b = true) : ∀ r ∈ a, r ∉ b := by
  intro r hr hb
  have h1 := List.all_eq_true.1 h r hr
  have h2 := List.all_eq_true.1 h1 r hb
  simp at h2

theorem putSlot_get {d : Option Nat} {v : IV} {slots : List IV} {t : Nat} (h : ∀ e, d = some e → e ≠ t) : (putSlot d v slots)[t]? = slots[t]? := by
  cases d with
  | none => rfl
  | some e => exact List.getElem?_set_ne (h e rfl)

theorem swap {i j : Nat} {oi oj : Oper} (hi : ops[i]? = some oi) (hj : ops[j]? = some oj) {S S1 S2 : St} {p q : Lg} (h1 : Does E ih f rid ops j S S1 q) (h2 : Does E ih f rid ops i S1 S2 p)
    (hap : oj.apart ops oi = true) (hc : clash q p = true) : ∃ T U, Does E ih f rid ops i S T p ∧ Does E ih f rid ops j T U q ∧ Eqv U S2 := by
  obtain ⟨a1, a2, a3⟩ := Oper.apart_spec hap
  simp only [clash, Bool.and_eq_true] at hc
  obtain ⟨⟨c1, c2⟩, c3⟩ := hc
  have d1 := disj_spec c1
  have d2 := disj_spec c2
  have d3 := disj_spec c3
  obtain ⟨_, _, _, _, f1, v, _, s1⟩ := transfer hj h1 (T := S) (fun _ _ => rfl) (A := fun _ => True) (fun _ _ => rfl) (fun _ _ => trivial) (fun _ _ => trivial)
  obtain ⟨T, t1, t2, t3, f2, u, s2, s3⟩ := transfer hi h2 (T := S) (fun d hd => by rw [s1, putSlot_get fun e he e' => a1 e he (e' ▸ hd)]) (A := fun r => r ∉ q.2) (fun r hr => (f1 r hr).symm)
    (fun r hr hq => d1 r hq hr) (fun r hr hq => d2 r hq hr)
  obtain ⟨U, u1, u2, u3, _, v', s4, s5⟩ := transfer hj h1 (T := T) (fun d hd => by rw [s2, putSlot_get fun e he e' => a3 e he (e' ▸ hd)]) (A := fun r => r ∉ p.2) (fun r hr => t3 r hr)
    (fun r hr hp => d3 r hp hr) (fun r hr hp => d2 r hr hp)
  refine ⟨T, U, t1, u1, ?_, fun r => ?_⟩
  · rw [s4, s2, s3, s5]
    cases hdj : oj.dst with
    | none => rfl
    | some d => cases hdi : oi.dst with
      | none => rfl
      | some e =>
        have hne : e ≠ d := fun h => a2 d hdj (by rw [hdi, h])
        exact List.set_comm _ _ hne
  · by_cases hr : r ∈ q.2
    · have hp : r ∉ p.2 := d2 r hr
      rw [u2 r hp, f2 r hp]
    · rw [u3 r hr, t2 r hr]

theorem Path.front {i : Nat} {p : Lg} {oi : Oper} (hi : ops[i]? = some oi) {ys : List (Nat × Lg)} {S' : St} : ∀ (xs : List (Nat × Lg)) {S : St}, Path E ih f rid ops (xs ++ (i, p) :: ys) S S' →
    (∀ x ∈ xs, clash x.2 p = true ∧ ∀ oj, ops[x.1]? = some oj → oj.apart ops oi = true) → Path E ih f rid ops ((i, p) :: (xs ++ ys)) S S'
  | [], S, h, _ => h
  | x :: xs, S, h, hx => by
    cases h with
    | cons o ho h1 t =>
      have ih' := Path.front hi xs t fun y hy => hx y (List.mem_cons_of_mem _ hy)
      cases ih' with
      | cons o' ho' h2 t' =>
        obtain ⟨hc, hap⟩ := hx _ List.mem_cons_self
        obtain ⟨T, U, g1, g2, g3⟩ := swap hi ho h1 h2 (hap o ho) hc
        exact .cons oi hi g1 (.cons o ho g2 (t'.congr g3))

/-- Whatever is not ordered does not meet. -/
def NoMeet (b : Array Nat) (x y : Nat × Lg) : Prop := (b.getD y.1 0).testBit x.1 = true ∨ clash x.2 y.2 = true
theorem runDraw_path {b : Array Nat} : ∀ (L : List Nat) (done : List (Nat × Lg)) {S S' : St}, (∀ i ∈ L, ∃ o, ops[i]? = some o) → runDraw E ih f rid ops b L done S = some S' →
    ∃ ps : List (Nat × Lg), ps.map (·.1) = L ∧ Path E ih f rid ops ps S S' ∧ ps.Pairwise (NoMeet b) ∧ ∀ y ∈ ps, ∀ x ∈ done, NoMeet b x y
  | [], done, S, S', _, h => by
    simp only [runDraw, Option.some.injEq] at h
    subst h
    exact ⟨[], rfl, .nil ⟨rfl, fun _ => rfl⟩, .nil, fun y hy => by cases hy⟩
  | i :: l, done, S, S', hL, h => by
    simp only [runDraw] at h
    split at h
    · cases h
    · rename_i S1 p hs
      split at h
      · rename_i hd
        obtain ⟨ps, e, hp, hw, hm⟩ := runDraw_path l _ (fun j hj => hL j (List.mem_cons_of_mem _ hj)) h
        obtain ⟨o, ho⟩ := hL i List.mem_cons_self
        refine ⟨(i, p) :: ps, by simp [e], .cons o ho hs hp, List.pairwise_cons.2 ⟨fun y hy => hm y hy _ List.mem_cons_self, hw⟩, fun y hy x hx => ?_⟩
        rcases List.mem_cons.1 hy with rfl | hy
        · have := List.all_eq_true.1 hd x hx
          simp only [Bool.or_eq_true] at this
          exact this
        · exact hm y hy x (List.mem_cons_of_mem _ hx)
      · cases h

theorem regionOk_spec (h : regionOk ops = true) {i : Nat} {o : Oper} (ho : ops[i]? = some o) :
    (∀ e ∈ o.after, Region.binds .any e = true → e.on < i) ∧
    (∀ j, j < ops.size → ((Region.before ops).getD i 0).testBit j = true → j < i ∧ ∃ e ∈ o.after, Region.binds .any e = true ∧ (e.on = j ∨ ((Region.before ops).getD e.on 0).testBit j = true)) ∧
    (∀ j oj, j < i → ops[j]? = some oj → ((Region.before ops).getD i 0).testBit j = true ∨ oj.apart ops o = true) := by
  have hi : i < ops.size := (Array.getElem?_eq_some_iff.1 ho).1
  unfold regionOk at h
  have h1 := List.all_eq_true.1 h i (by simpa using hi)
  simp only [ho, Bool.and_eq_true] at h1
  obtain ⟨h2, h3⟩ := h1
  refine ⟨fun e he hb => ?_, fun j hj hb => ?_, fun j oj hj hoj => ?_⟩
  · have := List.all_eq_true.1 h2 e (by simpa using he)
    simp only [hb, Bool.not_true, Bool.false_or, decide_eq_true_eq] at this
    exact this
  · have := List.all_eq_true.1 h3 j (by simpa using hj)
    simp only [hb, Bool.not_true, Bool.false_or, Bool.and_eq_true, decide_eq_true_eq, List.any_eq_true, Bool.or_eq_true] at this
    obtain ⟨⟨t1, e, t2, t3, t4⟩, _⟩ := this
    exact ⟨t1, e, by simpa using t2, t3, t4⟩
  · have hjs : j < ops.size := by omega
    have := List.all_eq_true.1 h3 j (by simpa using hjs)
    simp only [Bool.and_eq_true, Bool.or_eq_true, decide_eq_true_eq, hoj] at this
    rcases this.2 with (t | t) | t
    · omega
    · exact .inl t
    · exact .inr t
end
end Idl
end Go.Proofs.Ytbkdidonegggdaa

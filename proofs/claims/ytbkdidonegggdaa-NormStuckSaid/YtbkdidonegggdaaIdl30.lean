/-
  A SHALLOW FORM OF THE IDEAL RUN: it answers only what the ideal run answers. No statement of the seat is proved here.
-/
import Derived.Test.YtbkdidonegggdaaIdl29
set_option linter.unusedSimpArgs false
namespace Go.Proofs.Ytbkdidonegggdaa
namespace Idl

section
variable {β : Type} {E : Env} {ih ih' : Handler} {f rid : Nat} {r : β}

theorem setT_eq (d : Option Nat) (v : IV) (h : Hp) (T : FS) : setT d v h T = putT d v ⟨T.n, T.t, h⟩ := by cases d <;> rfl
theorem setT_n (d : Option Nat) (v : IV) (h : Hp) (T : FS) : (setT d v h T).n = T.n := by
  cases d with
  | none => rfl
  | some d =>
    show (cond (Nat.ble T.n d) (FS.mk T.n T.t h) ⟨T.n, T.t.set d v, h⟩).n = T.n
    cases Nat.ble T.n d <;> rfl
theorem setKK_eq {α : Type} (t : SlT) (i : Nat) (x : IV) (k : SlT → α) : t.setKK i x k = k (t.set i x) := by
  refine Eq.trans ?_ (setK_eq t i x k)
  induction t generalizing k with
  | leaf j v =>
    show Bool.rec (k (.leaf j v)) (k (.leaf j x)) (Nat.beq i j) = cond (Nat.beq i j) (k (.leaf j x)) (k (.leaf j v))
    cases Nat.beq i j <;> rfl
  | node m l r ihl ihr =>
    show Bool.rec (l.setKK i x fun l' => k (.node m l' r)) (r.setKK i x fun r' => k (.node m l r')) (Nat.ble m i) = cond (Nat.ble m i) (r.setK i x fun r' => k (.node m l r')) (l.setK i x fun l' => k (.node m l' r))
    cases Nat.ble m i
    · exact ihl _
    · exact ihr _
theorem setTK_eq (d : Option Nat) (v : IV) (h : Hp) (T : FS) (K : FS → Option β) : setTK d v h T K = K (setT d v h T) := by
  obtain ⟨n, t, h0⟩ := T
  cases d with
  | none => rfl
  | some d =>
    show cnd (Nat.ble n d) (K ⟨n, t, h⟩) (t.setKK d v fun t => K ⟨n, t, h⟩) = K (cond (Nat.ble n d) ⟨n, t, h⟩ ⟨n, t.set d v, h⟩)
    rw [cnd_eq]
    cases Nat.ble n d
    · simp only [cond]; rw [setKK_eq]
    · rfl
theorem argsKK_eq : ∀ (args : List IV) (i : Nat) (T : FS) (K : FS → Option β), argsKK args i T K = argsK args i T K
  | [], _, _, _ => rfl
  | v :: l, i, T, K => by
    show setTK (some i) v T.hp T (fun T => argsKK l (Nat.succ i) T K) = putK (some i) v T fun T => argsK l (Nat.succ i) T K
    rw [setTK_eq, putK_eq, setT_eq, argsKK_eq l]
theorem setT_rep {T : FS} {S : St} (hr : Rep T S) (d : Option Nat) (v : IV) (h : Hp) : Rep (setT d v h T) ⟨putSlot d v S.slots, h⟩ := by
  rw [setT_eq]
  exact put_rep (T := ⟨T.n, T.t, h⟩) (S := ⟨S.slots, h⟩) ⟨rfl, hr.len, hr.has, hr.get⟩ d v

theorem stepS_ok (hi : ∀ f args h x, ih' f args h = some x → ih f args h = some x) {ops : Array Oper} {i : Nat} {o : Oper} (ho : ops[i]? = some o) {dr : Bool} {T : FS} {S : St} (hr : Rep T S)
    {K : FS → List Ref → List Ref → Option β} (h : stepS E ih' f rid ops i o dr T K = some r) :
    ∃ S' T' rd wr, step E ih f rid ops i S = some S' ∧ (dr = true → stepP E ih f rid ops i S = some (S', rd, wr)) ∧ Rep T' S' ∧ T'.n = T.n ∧ K T' rd wr = some r ∧ (quiet E o.op = true → rd = [] ∧ wr = []) := by
  have done : wantedI ops S.slots o = some true → opS E ih' f rid i dr (operandT T) o.op T.hp (fun v h rd wr => K (setT o.dst v h T) rd wr) = some r →
      ∃ S' T' rd wr, step E ih f rid ops i S = some S' ∧ (dr = true → stepP E ih f rid ops i S = some (S', rd, wr)) ∧ Rep T' S' ∧ T'.n = T.n ∧ K T' rd wr = some r ∧ (quiet E o.op = true → rd = [] ∧ wr = []) := by
    intro hw h
    rw [operandT_eq hr, ← hr.hp] at h
    rcases opS_ok hi h with ⟨hin, v, hp', rd, wr, ⟨m, hm, hh, hv, hwr⟩, hk, hq⟩ | ⟨hdr, hq, g, args, v, hp', hin, he, hk⟩
    · have ha : applyMade (site f rid i) o.dst S m = some ⟨putSlot o.dst v S.slots, hp'⟩ := by simp only [applyMade, hh, Option.map_some, hv]
      refine ⟨⟨putSlot o.dst v S.slots, hp'⟩, setT o.dst v hp' T, rd, wr, ?_, fun _ => ?_, setT_rep hr o.dst v hp', setT_n .., hk, hq⟩
      · simp only [step, ho, hw, hin, opR]
        rw [runLog_run _ _ _ _ _ hm]
        exact ha
      · simp only [stepP, ho, hw, hin, opR, hm, ha, Option.map_some, hwr, newRefs]; rfl
    · refine ⟨⟨putSlot o.dst v S.slots, hp'⟩, setT o.dst v hp' T, [], [], ?_, fun e => (by rw [hdr] at e; cases e), setT_rep hr o.dst v hp', setT_n .., hk, fun q => by rw [hq] at q; cases q⟩
      simp only [step, ho, hw, hin, he, Option.map_some]
  have skip : wantedI ops S.slots o = some false → K (setT o.dst undefV T.hp T) [] [] = some r →
      ∃ S' T' rd wr, step E ih f rid ops i S = some S' ∧ (dr = true → stepP E ih f rid ops i S = some (S', rd, wr)) ∧ Rep T' S' ∧ T'.n = T.n ∧ K T' rd wr = some r ∧ (quiet E o.op = true → rd = [] ∧ wr = []) := by
    intro hw h
    refine ⟨_, _, [], [], ?_, fun _ => ?_, setT_rep hr o.dst undefV T.hp, setT_n .., h, fun _ => ⟨rfl, rfl⟩⟩
    · simp only [step, ho, hw, ← hr.hp]
    · simp only [stepP, ho, hw, ← hr.hp]
  unfold stepS at h
  have eK : (fun (v : IV) (h : Hp) (rd wr : List Ref) => setTK o.dst v h T fun T => K T rd wr) = fun v h rd wr => K (setT o.dst v h T) rd wr := by
    funext v h rd wr
    exact setTK_eq o.dst v h T fun T => K T rd wr
  rw [eK] at h
  simp only [cnd_eq] at h
  cases hg : o.guard with
  | none =>
    rw [hg] at h
    exact done (by simp only [wantedI, hg]) h
  | some jw =>
    obtain ⟨j, want⟩ := jw
    rw [hg] at h
    simp only at h
    cases hd : (ops[j]?).bind (·.dst) with
    | none => rw [hd] at h; cases h
    | some d =>
      rw [hd] at h
      simp only at h
      cases hb : Nat.ble T.n d with
      | true => rw [hb] at h; cases h
      | false =>
        rw [hb] at h
        simp only [cond] at h
        have hdn : d < T.n := Nat.lt_of_not_le fun h => by rw [Nat.ble_eq_true_of_le h] at hb; cases hb
        have hs : S.slots[d]? = some (T.get d) := by
          rw [hr.at_, List.getD_eq_getElem?_getD, List.getElem?_eq_getElem (by rw [hr.len]; exact hdn)]; rfl
        have hw : wantedI ops S.slots o = match T.get d with
            | .fv (.bool b) => some (b == want)
            | .fv (.tuple []) => some false
            | _ => none := by
          simp only [wantedI, hg, hd, Option.bind_some, hs]
          generalize T.get d = v
          split
          · rename_i e; simp only [Option.some.injEq] at e; subst e; rfl
          · rename_i e; simp only [Option.some.injEq] at e; subst e; rfl
          · rename_i h1 h2
            split
            · exact absurd rfl (h1 _)
            · exact absurd rfl h2
            · rfl
        unfold guardS at h
        rcases asF_ok h with ⟨v, hv, h⟩ | h
        · rw [hv] at hw
          unfold guardF at h
          split at h
          · rename_i b
            have e : (b == want) = (cond want b (not b)) := by cases b <;> cases want <;> rfl
            cases hc : (cond want b (not b)) with
            | true =>
              rw [hc] at h
              exact done (by rw [hw]; simp only [e, hc]) h
            | false =>
              rw [hc] at h
              exact skip (by rw [hw]; simp only [e, hc]) h
          · rename_i l
            cases l with
            | nil => exact skip hw h
            | cons _ _ => cases h
          · cases h
        · cases h

theorem opsS_ok (hi : ∀ f args h x, ih' f args h = some x → ih f args h = some x) {ops : Array Oper} : ∀ (l : List Oper) (i : Nat), ops.toList.drop i = l → ∀ {T : FS} {S : St}, Rep T S → ∀ {K : FS → Option β}, opsS E ih' f rid ops l i T K = some r →
    ∃ S' T', runOps E ih f rid ops (List.range' i l.length) S = some S' ∧ Rep T' S' ∧ T'.n = T.n ∧ K T' = some r := by
  intro l
  induction l with
  | nil => intro i _ T S hr K h; exact ⟨S, T, rfl, hr, rfl, h⟩
  | cons o l ihl =>
    intro i hd T S hr K h
    have ho : ops[i]? = some o := by
      have : ops.toList[i]? = some o := by rw [← List.head?_drop, hd]; rfl
      simpa using this
    have hd' : ops.toList.drop (i + 1) = l := by rw [← List.tail_drop, hd]; rfl
    have h : stepS E ih' f rid ops i o false T (fun T _ _ => opsS E ih' f rid ops l (Nat.succ i) T K) = some r := h
    obtain ⟨S1, T1, rd, wr, h1, _, h2, hn, h3, _⟩ := stepS_ok hi ho hr h
    obtain ⟨S', T', h4, h5, hn2, h6⟩ := ihl (i + 1) hd' h2 h3
    refine ⟨S', T', ?_, h5, hn2.trans hn, h6⟩
    rw [List.length_cons, List.range'_succ]
    simp only [runOps, h1, Option.bind_some]
    exact h4

theorem chkS_ok {l : List (List Ref × List Ref)} {rd wr : List Ref} {a : Option β} (h : chkS l rd wr a = some r) : (∀ q ∈ l, clash q (rd, wr) = true) ∧ a = some r := by
  induction l with
  | nil => exact ⟨fun q hq => (by cases hq), h⟩
  | cons p l ih =>
    obtain ⟨q1, q2⟩ := p
    have h : cond (djB q2 rd) (cond (djB q2 wr) (cond (djB wr q1) (chkS l rd wr a) none) none) none = some r := h
    obtain ⟨h1, h⟩ := cond_ok h
    obtain ⟨h2, h⟩ := cond_ok h
    obtain ⟨h3, h⟩ := cond_ok h
    rw [djB_eq] at h1 h2 h3
    obtain ⟨h4, h5⟩ := ih h
    refine ⟨fun q hq => ?_, h5⟩
    rcases List.mem_cons.1 hq with rfl | hq
    · simp only [clash, h1, h2, h3, Bool.and_self]
    · exact h4 q hq
theorem loose_mem {b : Nat} {done : List (Nat × List Ref × List Ref)} {j : Nat} {q : List Ref × List Ref} (h : (j, q) ∈ done) (hj : b.testBit j = false) : q ∈ loose b done := by
  induction done with
  | nil => cases h
  | cons p l ih =>
    obtain ⟨j', q'⟩ := p
    show q ∈ cond (b.testBit j') (loose b l) (q' :: loose b l)
    rcases List.mem_cons.1 h with e | h
    · simp only [Prod.mk.injEq] at e
      obtain ⟨rfl, rfl⟩ := e
      rw [hj]
      exact List.mem_cons_self
    · cases b.testBit j' with
      | true => exact ih h
      | false => exact List.mem_cons_of_mem _ (ih h)

theorem drawS_ok (hi : ∀ f args h x, ih' f args h = some x → ih f args h = some x) {ops : Array Oper} {before : Array Nat} : ∀ (l : List Oper) (i : Nat), ops.toList.drop i = l → ∀ {T : FS} {S : St} (done full : List (Nat × List Ref × List Ref)),
    (∀ x ∈ full, x.2 = ([], []) ∨ x ∈ done) → Rep T S → ∀ {K : FS → Option β}, drawS E ih' f rid ops before l i done T K = some r →
    ∃ S' T', runDraw E ih f rid ops before (List.range' i l.length) full S = some S' ∧ Rep T' S' ∧ T'.n = T.n ∧ K T' = some r := by
  intro l
  induction l with
  | nil => intro i _ T S done full _ hr K h; exact ⟨S, T, rfl, hr, rfl, h⟩
  | cons o l ihl =>
    intro i hd T S done full hf hr K h
    have ho : ops[i]? = some o := by
      have : ops.toList[i]? = some o := by rw [← List.head?_drop, hd]; rfl
      simpa using this
    have hd' : ops.toList.drop (i + 1) = l := by rw [← List.tail_drop, hd]; rfl
    have h : cnd (quiet E o.op) (stepS E ih' f rid ops i o true T fun T _ _ => drawS E ih' f rid ops before l (Nat.succ i) done T K)
      (stepS E ih' f rid ops i o true T fun T rd wr => chkS (loose (before.getD i 0) done) rd wr (drawS E ih' f rid ops before l (Nat.succ i) ((i, rd, wr) :: done) T K)) = some r := h
    rw [cnd_eq] at h
    rw [List.length_cons, List.range'_succ]
    cases hq : quiet E o.op with
    | true =>
      rw [hq] at h
      simp only [cond] at h
      obtain ⟨S1, T1, rd, wr, _, h1, h2, hn, h3, h4⟩ := stepS_ok hi ho hr h
      have h1 := h1 rfl
      obtain ⟨rfl, rfl⟩ := h4 hq
      obtain ⟨S', T', h4, h5, hn2, h6⟩ := ihl (i + 1) hd' done ((i, [], []) :: full) (fun x hx => by
        rcases List.mem_cons.1 hx with rfl | hx
        · exact .inl rfl
        · exact hf x hx) h2 h3
      refine ⟨S', T', ?_, h5, hn2.trans hn, h6⟩
      simp only [runDraw, h1]
      have : (full.all fun x => (before.getD i 0).testBit x.1 || clash x.2 ([], [])) = true := List.all_eq_true.2 fun x _ => by rw [clash_nil]; simp
      rw [if_pos this]
      exact h4
    | false =>
      rw [hq] at h
      simp only [cond] at h
      obtain ⟨S1, T1, rd, wr, _, h1, h2, hn, h3, _⟩ := stepS_ok hi ho hr h
      have h1 := h1 rfl
      obtain ⟨hc, h3⟩ := chkS_ok h3
      obtain ⟨S', T', h4, h5, hn2, h6⟩ := ihl (i + 1) hd' ((i, rd, wr) :: done) ((i, rd, wr) :: full) (fun x hx => by
        rcases List.mem_cons.1 hx with rfl | hx
        · exact .inr List.mem_cons_self
        · exact (hf x hx).imp id (List.mem_cons_of_mem _)) h2 h3
      refine ⟨S', T', ?_, h5, hn2.trans hn, h6⟩
      simp only [runDraw, h1]
      have : (full.all fun x => (before.getD i 0).testBit x.1 || clash x.2 (rd, wr)) = true := List.all_eq_true.2 fun x hx => by
        rcases hf x hx with e | e
        · rw [e, nil_clash]; simp
        · cases hb : (before.getD i 0).testBit x.1 with
          | true => rfl
          | false => rw [hc x.2 (loose_mem (j := x.1) e hb)]; rfl
      rw [if_pos this]
      exact h4

/-! ## Loops -/
theorem kill_len (ks : List Nat) (l : List IV) : (killSlots ks l).length = l.length := by
  induction ks generalizing l with
  | nil => rfl
  | cons i ks ih => simp [killSlots, ih]
theorem kill_get (ks : List Nat) (l : List IV) (i : Nat) (hi : i < l.length) : (killSlots ks l).getD i .dead = if i ∈ ks then .dead else l.getD i .dead := by
  induction ks generalizing l with
  | nil => simp [killSlots]
  | cons j ks ih =>
    rw [killSlots, ih _ (by simpa using hi)]
    by_cases h : i ∈ ks
    · rw [if_pos h, if_pos (List.mem_cons_of_mem _ h)]
    · rw [if_neg h]
      by_cases e : i = j
      · subst e
        rw [if_pos List.mem_cons_self, List.getD_eq_getElem?_getD, List.getElem?_set_self hi]; rfl
      · rw [if_neg (by simp [e, h]), List.getD_eq_getElem?_getD, List.getElem?_set_ne (Ne.symm e), ← List.getD_eq_getElem?_getD]
/-- What stands at a loop's head. -/
structure AtHead (n : Nat) (kills : List Nat) (vals : List IV) (h : Hp) (S : St) : Prop where
  len : S.slots.length = n
  hp : S.hp = h
  vals : vals = (keptOf n kills).map fun i => S.slots.getD i .dead
  dead : ∀ i, i < n → i ∈ kills → S.slots.getD i .dead = .dead
theorem kept_mem {n : Nat} {kills : List Nat} {i : Nat} : i ∈ keptOf n kills ↔ i < n ∧ i ∉ kills := by
  simp [keptOf]
theorem head_vals {T : FS} {S : St} (hr : Rep T S) (kills : List Nat) (h : Hp) : AtHead T.n kills ((keptOf T.n kills).map T.get) h ⟨killSlots kills S.slots, h⟩ := by
  refine ⟨by simp [kill_len, hr.len], rfl, ?_, fun i hi hk => ?_⟩
  · apply List.map_congr_left
    intro i hi
    have := kept_mem.1 hi
    rw [hr.at_]
    simp only
    rw [kill_get _ _ _ (by rw [hr.len]; exact this.1), if_neg this.2]
  · simp only
    rw [kill_get _ _ _ (by rw [hr.len]; exact hi), if_pos hk]
theorem refsL_filter {l : List IV} : ∀ (g : Nat → Bool) (n : Nat), l.length = n → (∀ i, i < n → g i = false → l.getD i .dead = .dead) →
    IV.refs.refsL (((List.range n).filter g).map fun i => l.getD i .dead) = IV.refs.refsL l := by
  intro g n
  induction n generalizing l g with
  | zero => intro hl _; cases l with | nil => rfl | cons _ _ => cases hl
  | succ n ih =>
    intro hl hd
    cases l with
    | nil => cases hl
    | cons x l =>
      simp only [List.length_cons, Nat.add_right_cancel_iff] at hl
      rw [List.range_succ_eq_map]
      have ih := ih (l := l) (fun i => g (i + 1)) hl (fun i hi hg => by simpa using hd (i + 1) (by omega) hg)
      have e : (((List.range n).map Nat.succ).filter g).map (fun i => (x :: l).getD i .dead) = (((List.range n).filter fun i => g (i + 1))).map fun i => l.getD i .dead := by
        rw [List.filter_map, List.map_map]
        rfl
      cases hg : g 0 with
      | true =>
        rw [List.filter_cons_of_pos hg, List.map_cons, e]
        simp only [IV.refs.refsL, ih]
        rfl
      | false =>
        rw [List.filter_cons_of_neg (by rw [hg]; simp), e]
        have : x = .dead := by simpa using hd 0 (by omega) hg
        subst this
        simp only [IV.refs.refsL, ih]
        rfl
def dropHp (rm : List Nat) (rs : List Ref) (h : Hp) : Option Hp :=
  let held := rs ++ (h.own.filter fun p => !rm.contains p.1).flatMap (fun p => p.2.refs) ++ h.ext.flatMap Blk.refs
  let gone := rm.filter fun k => !anyIn [k] held
  let h2 : Hp := { h with own := h.own.filter fun p => !gone.contains p.1 }
  if anyIn gone (rs ++ h2.own.flatMap (fun p => p.2.refs) ++ h2.ext.flatMap Blk.refs) then none else some h2
theorem ite_map {α γ : Type} {c c' : Bool} {y : α} (g : α → γ) (h : c = c') : (if c = true then none else some (g y)) = (if c' = true then none else some y).map g := by
  subst h
  cases c <;> rfl
theorem dropAt_form {base kills rm : List Nat} {sl : List IV} {h : Hp} (hb : rm.any base.contains = false) (ha : (h.own.all fun p => !rm.contains p.1) = false) :
    dropAt base kills rm ⟨sl, h⟩ = (dropHp rm (IV.refs.refsL (killSlots kills sl)) h).map fun h' => ⟨killSlots kills sl, h'⟩ := by
  simp only [dropAt, hb, ha, Bool.false_eq_true, if_false, refsOfSt, dropHp]
  exact ite_map _ rfl
theorem dropAt_slots2 {base rm : List Nat} {S1 : St} {kills : List Nat} {sl : List IV} (hsl : IV.refs.refsL sl = IV.refs.refsL (killSlots kills S1.slots)) (hb : rm.any base.contains = false)
    (ha : (S1.hp.own.all fun p => !rm.contains p.1) = false) {S : St} (h : dropAt base [] rm ⟨sl, S1.hp⟩ = some S) : dropAt base kills rm S1 = some ⟨killSlots kills S1.slots, S.hp⟩ := by
  obtain ⟨s1, h1⟩ := S1
  rw [dropAt_form hb ha] at h
  rw [dropAt_form hb ha]
  simp only [killSlots] at h
  rw [hsl] at h
  cases hd : dropHp rm (IV.refs.refsL (killSlots kills s1)) h1 with
  | none => rw [hd] at h; cases h
  | some h' =>
    rw [hd] at h
    simp only [Option.map_some, Option.some.injEq] at h
    subst h
    rfl
theorem memN_eq (s : Nat) (l : List Nat) : memN s l = l.contains s := by
  induction l with
  | nil => rfl
  | cons x l ih =>
    rw [show memN s (x :: l) = cond (Nat.beq s x) true (memN s l) from rfl, beq_ite, ih, List.contains_cons]
    by_cases e : s = x
    · subst e; simp
    · rw [if_neg e]; simp [e]
theorem freeR_ok {rm : List Nat} : ∀ {l : List Ref}, freeR rm l = true → ∀ k ∈ rm, Ref.own k ∉ l
  | [], _, k, _, h => by cases h
  | .ext j :: l, h, k, hk, hm => by
    rcases List.mem_cons.1 hm with e | hm
    · cases e
    · exact freeR_ok (l := l) h k hk hm
  | .own s :: l, h, k, hk, hm => by
    have h : cond (memN s rm) false (freeR rm l) = true := h
    cases hs : memN s rm with
    | true => rw [hs] at h; cases h
    | false =>
      rw [hs] at h
      rcases List.mem_cons.1 hm with e | hm
      · simp only [Ref.own.injEq] at e
        subst e
        rw [memN_eq] at hs
        rw [List.contains_iff_mem.2 hk] at hs
        cases hs
      · exact freeR_ok (l := l) h k hk hm
theorem freeO_ok {rm : List Nat} : ∀ {own : List (Nat × Blk)}, freeO rm own = true → ∀ k ∈ rm, Ref.own k ∉ (own.filter fun p => !rm.contains p.1).flatMap fun p => p.2.refs
  | [], _, k, _, h => by cases h
  | (s, b) :: own, h, k, hk, hm => by
    have h : cond (memN s rm) (freeO rm own) (cond (freeR rm (refsB b)) (freeO rm own) false) = true := h
    rw [memN_eq, refsB_eq] at h
    cases hs : rm.contains s with
    | true =>
      rw [hs] at h
      rw [List.filter_cons_of_neg (by rw [hs]; simp)] at hm
      exact freeO_ok (own := own) h k hk hm
    | false =>
      rw [hs] at h
      rw [List.filter_cons_of_pos (by rw [hs]; rfl)] at hm
      cases hf : freeR rm b.refs with
      | false => rw [hf] at h; cases h
      | true =>
        rw [hf] at h
        simp only [List.flatMap_cons, List.mem_append] at hm
        rcases hm with hm | hm
        · exact freeR_ok hf k hk hm
        · exact freeO_ok (own := own) h k hk hm
theorem freeE_ok {rm : List Nat} : ∀ {ext : List Blk}, freeE rm ext = true → ∀ k ∈ rm, Ref.own k ∉ ext.flatMap Blk.refs
  | [], _, k, _, h => by cases h
  | b :: ext, h, k, hk, hm => by
    have h : cond (freeR rm (refsB b)) (freeE rm ext) false = true := h
    rw [refsB_eq] at h
    cases hf : freeR rm b.refs with
    | false => rw [hf] at h; cases h
    | true =>
      rw [hf] at h
      simp only [List.flatMap_cons, List.mem_append] at hm
      rcases hm with hm | hm
      · exact freeR_ok hf k hk hm
      · exact freeE_ok (ext := ext) h k hk hm
theorem anyO_eq {rm : List Nat} : ∀ (own : List (Nat × Blk)), anyO rm own = !(own.all fun p => !rm.contains p.1)
  | [] => rfl
  | (s, b) :: own => by
    rw [show anyO rm ((s, b) :: own) = cond (memN s rm) true (anyO rm own) from rfl, memN_eq, anyO_eq own, List.all_cons]
    cases rm.contains s <;> rfl
theorem filtK_eq {rm : List Nat} : ∀ (own : List (Nat × Blk)) (k : List (Nat × Blk) → Option β), filtK rm own k = k (own.filter fun p => !rm.contains p.1)
  | [], _ => rfl
  | (s, b) :: own, k => by
    rw [show filtK rm ((s, b) :: own) k = cond (memN s rm) (filtK rm own k) (filtK rm own fun l => k ((s, b) :: l)) from rfl, memN_eq]
    cases hs : rm.contains s with
    | true => rw [List.filter_cons_of_neg (by rw [hs]; simp)]; exact filtK_eq own k
    | false => rw [List.filter_cons_of_pos (by rw [hs]; rfl)]; exact filtK_eq own _
theorem anyIn_none {ks : List Nat} : ∀ {l : List Ref}, (∀ k ∈ ks, Ref.own k ∉ l) → anyIn ks l = false
  | [], _ => rfl
  | .ext j :: l, h => anyIn_none (l := l) fun k hk hm => h k hk (List.mem_cons_of_mem _ hm)
  | .own s :: l, h => by
    simp only [anyIn, Bool.or_eq_false_iff]
    refine ⟨?_, anyIn_none (l := l) fun k hk hm => h k hk (List.mem_cons_of_mem _ hm)⟩
    cases hc : ks.contains s with
    | false => rfl
    | true => exact absurd List.mem_cons_self (h s (List.contains_iff_mem.1 hc))
theorem dropHp_free {rm : List Nat} {rs : List Ref} {own : List (Nat × Blk)} {ext : List Blk} (h1 : ∀ k ∈ rm, Ref.own k ∉ rs) (h2 : freeO rm own = true) (h3 : freeE rm ext = true) :
    dropHp rm rs ⟨own, ext⟩ = some ⟨own.filter fun p => !rm.contains p.1, ext⟩ := by
  have h2 := freeO_ok h2
  have h3 := freeE_ok h3
  have hh : ∀ k ∈ rm, Ref.own k ∉ rs ++ (own.filter fun p => !rm.contains p.1).flatMap (fun p => p.2.refs) ++ ext.flatMap Blk.refs := fun k hk hm => by
    rcases List.mem_append.1 hm with hm | hm
    · rcases List.mem_append.1 hm with hm | hm
      · exact h1 k hk hm
      · exact h2 k hk hm
    · exact h3 k hk hm
  have hg : (rm.filter fun k => !anyIn [k] (rs ++ (own.filter fun p => !rm.contains p.1).flatMap (fun p => p.2.refs) ++ ext.flatMap Blk.refs)) = rm := by
    apply List.filter_eq_self.2
    intro k hk
    rw [anyIn_none fun j hj hm => hh j (by simp only [List.mem_singleton] at hj; rw [hj]; exact hk) hm]
    rfl
  simp only [dropHp, hg]
  rw [anyIn_none hh]
  rfl
theorem headS_ok {base kills rm : List Nat} {T : FS} {S : St} (hr : Rep T S) {k : List IV → Hp → Option β} (h : headS base kills rm T k = some r) :
    ∃ S' vals hp, dropAt base kills rm S = some S' ∧ AtHead T.n kills vals hp S' ∧ k vals hp = some r := by
  unfold headS at h
  split at h
  · refine ⟨⟨killSlots kills S.slots, T.hp⟩, _, _, ?_, head_vals hr kills T.hp, h⟩
    simp [dropAt, hr.hp]
  · rename_i q rm
    generalize hrm : q :: rm = rm' at h ⊢
    have hv := head_vals hr kills S.hp
    unfold dropS at h
    rw [← hr.hp] at h
    cases hb : rm'.any base.contains with
    | true => rw [hb] at h; cases h
    | false =>
      rw [hb] at h
      obtain ⟨sl, hp0⟩ := S
      obtain ⟨own, ext⟩ := hp0
      simp only [cond] at h
      have hsl : IV.refs.refsL ((keptOf T.n kills).map T.get) = IV.refs.refsL (killSlots kills sl) := by
        rw [hv.vals]
        exact refsL_filter _ _ (by simpa using hv.len) (fun i hi hg => hv.dead i hi (by simpa using hg))
      rw [anyO_eq] at h
      cases ha : (own.all fun p => !rm'.contains p.1) with
      | true =>
        rw [ha] at h
        refine ⟨⟨killSlots kills sl, ⟨own, ext⟩⟩, _, _, ?_, hv, h⟩
        simp only [dropAt, hb, Bool.false_eq_true, if_false, ha, if_true]
      | false =>
        rw [ha] at h
        simp only [Bool.not_false] at h
        cases hf : (and (freeR rm' (refsDL ((keptOf T.n kills).map T.get) [])) (and (freeO rm' own) (freeE rm' ext))) with
        | true =>
          rw [hf] at h
          simp only at h
          have hf : (freeR rm' (refsDL ((keptOf T.n kills).map T.get) []) && (freeO rm' own && freeE rm' ext)) = true := hf
          simp only [Bool.and_eq_true] at hf
          rw [filtK_eq] at h
          have h1 := freeR_ok hf.1
          rw [refsDL_eq, List.append_nil, hsl] at h1
          refine ⟨⟨killSlots kills sl, ⟨own.filter fun p => !rm'.contains p.1, ext⟩⟩, _, _, ?_, head_vals hr kills _, h⟩
          rw [dropAt_form hb ha, dropHp_free h1 hf.2.1 hf.2.2]
          rfl
        | false =>
          rw [hf] at h
          simp only at h
          split at h
          · cases h
          · rename_i S2 hd
            rw [fH_eq] at h
            exact ⟨⟨killSlots kills sl, S2.hp⟩, _, _, dropAt_slots2 (S1 := ⟨sl, ⟨own, ext⟩⟩) (sl := (keptOf T.n kills).map T.get) hsl hb ha hd, head_vals hr kills S2.hp, h⟩
theorem unpK_ok : ∀ (cs : List Nat) (vals : List IV) (T : FS) {K : FS → Option β}, (∀ i ∈ cs, i < T.n) → (∀ i, i < T.n → T.t.has i = true) → unpK cs vals T K = some r →
    ∃ T', T'.n = T.n ∧ T'.hp = T.hp ∧ (∀ i, i < T.n → T'.t.has i = true) ∧ K T' = some r ∧ ∀ g : Nat → IV, vals = cs.map g → ∀ i, i < T.n → T'.t.get i = if i ∈ cs then g i else T.t.get i
  | [], vals, T, K, _, hh, h => ⟨T, rfl, rfl, hh, h, fun g _ i _ => by simp⟩
  | c :: cs, vals, T, K, hc, hh, h => by
    have h : uncS vals (fun v vals => setTK (some c) v T.hp T fun T => unpK cs vals T K) = some r := h
    have eK : (fun (v : IV) vals => setTK (some c) v T.hp T fun T => unpK cs vals T K) = fun v vals => unpK cs vals (putT (some c) v T) K := by
      funext v vals
      rw [setTK_eq, setT_eq]
    rw [eK] at h
    cases vals with
    | nil => cases h
    | cons v vals =>
      have h : unpK cs vals (putT (some c) v T) K = some r := h
      have hcn : c < T.n := hc c List.mem_cons_self
      have hput : putT (some c) v T = ⟨T.n, T.t.set c v, T.hp⟩ := by
        simp only [putT]
        cases hb : Nat.ble T.n c with
        | true => have := ble_true hb; omega
        | false => rfl
      rw [hput] at h
      obtain ⟨T', h1, h2, h3, h4, h5⟩ := unpK_ok cs vals ⟨T.n, T.t.set c v, T.hp⟩ (fun i hi => hc i (List.mem_cons_of_mem _ hi)) (fun i hi => by rw [has_set]; exact hh i hi) h
      refine ⟨T', h1, h2, h3, h4, fun g hg i hi => ?_⟩
      simp only [List.map_cons, List.cons.injEq] at hg
      rw [h5 g hg.2 i hi]
      by_cases hm : i ∈ cs
      · rw [if_pos hm, if_pos (List.mem_cons_of_mem _ hm)]
      · rw [if_neg hm]
        simp only
        rw [get_set _ _ _ (hh c hcn)]
        by_cases e : i = c
        · subst e; rw [if_pos rfl, if_pos List.mem_cons_self, hg.1]
        · rw [if_neg e, if_neg (by simp [e, hm])]
theorem unp_rep {n : Nat} (hn : n ≤ 1024) {kills : List Nat} {vals : List IV} {h : Hp} {S : St} (ha : AtHead n kills vals h S) {K : FS → Option β} (e : unpK (keptOf n kills) vals ⟨n, dT 10 0 n, h⟩ K = some r) :
    ∃ T', T'.n = n ∧ Rep T' S ∧ K T' = some r := by
  obtain ⟨T', h1, h2, h3, h4, h5⟩ := unpK_ok (keptOf n kills) vals ⟨n, dT 10 0 n, h⟩ (fun i hi => (kept_mem.1 hi).1) (fun i hi => (dT_ok 10 0 n i (by simpa using hn) (Nat.zero_le _) (by simpa using hi)).1) e
  refine ⟨T', h1, ⟨by rw [ha.hp, h2], by rw [ha.len, h1], fun i hi => h3 i (by rw [h1] at hi; exact hi), fun i hi => ?_⟩, h4⟩
  rw [h1] at hi
  rw [h5 _ ha.vals i hi]
  by_cases hm : i ∈ keptOf n kills
  · rw [if_pos hm]
  · rw [if_neg hm]
    have hk : i ∈ kills := Classical.byContradiction fun hk => hm (kept_mem.2 ⟨hi, hk⟩)
    rw [ha.dead i hi hk]
    exact (dT_ok 10 0 n i (by simpa using hn) (Nat.zero_le _) (by simpa using hi)).2

theorem execS_ok (hi : ∀ f args h x, ih' f args h = some x → ih f args h = some x) {n : Nat} {base : List Nat} : ∀ (c : Code) {T : FS} {S : St}, Rep T S → T.n ≤ 1024 → ∀ {K : Ex → FS → Option β}, execS E ih' f n base c T K = some r →
    ∃ ex S' T', exec E ih f n base c S = some (ex, S') ∧ Rep T' S' ∧ T'.n = T.n ∧ K ex T' = some r := by
  intro c
  induction c with
  | skip => intro T S hr _ K h; exact ⟨_, S, T, rfl, hr, rfl, h⟩
  | region rid ops d =>
    intro T S hr _ K h
    simp only [execS, cnd_eq] at h
    simp only [exec]
    rw [List.range_eq_range']
    cases d with
    | true =>
      obtain ⟨S', T', h1, h2, h3, h4⟩ := drawS_ok hi ops.toList 0 rfl [] [] (fun x hx => by cases hx) hr h
      simp only [Array.length_toList] at h1
      exact ⟨_, S', T', by simp only [if_true, h1, Option.map_some], h2, h3, h4⟩
    | false =>
      obtain ⟨S', T', h1, h2, h3, h4⟩ := opsS_ok hi ops.toList 0 rfl hr h
      simp only [Array.length_toList] at h1
      exact ⟨_, S', T', by simp only [Bool.false_eq_true, if_false, h1, Option.map_some], h2, h3, h4⟩
  | seq x y ihx ihy =>
    intro T S hr hl K h
    simp only [execS, cnd_eq] at h
    obtain ⟨ex, S1, T1, h1, h2, hn, h3⟩ := ihx hr hl h
    simp only [exec, h1]
    cases ex with
    | normal =>
      obtain ⟨ex, S2, T2, h4, h5, hn2, h6⟩ := ihy h2 (by rw [hn]; exact hl) h3
      exact ⟨ex, S2, T2, h4, h5, hn2.trans hn, h6⟩
    | exit j => exact ⟨_, _, _, rfl, h2, hn, h3⟩
    | ret => exact ⟨_, _, _, rfl, h2, hn, h3⟩
  | cond c x y ihx ihy =>
    intro T S hr hl K h
    simp only [execS, cnd_eq, operandT_eq hr] at h
    obtain ⟨t, ht, h⟩ := condS_ok h
    cases t with
    | true => simp only [exec, ht]; exact ihx hr hl h
    | false => simp only [exec, ht]; exact ihy hr hl h
  | block id x ihx =>
    intro T S hr hl K h
    simp only [execS, cnd_eq] at h
    obtain ⟨ex, S1, T1, h1, h2, hn, h3⟩ := ihx hr hl h
    simp only [exec, h1]
    cases ex with
    | normal => exact ⟨_, _, _, rfl, h2, hn, h3⟩
    | exit j =>
      simp only [beq_ite] at h3 ⊢
      by_cases e : j = id
      · rw [if_pos e] at h3; rw [if_pos e]; exact ⟨_, _, _, rfl, h2, hn, h3⟩
      · rw [if_neg e] at h3; rw [if_neg e]; exact ⟨_, _, _, rfl, h2, hn, h3⟩
    | ret => exact ⟨_, _, _, rfl, h2, hn, h3⟩
  | loop x ihx =>
    intro T S hr hl K h
    simp only [execS, cnd_eq] at h
    simp only [exec]
    generalize (E.pol.head f (firstRid x)).1 = kills at h ⊢
    generalize (E.pol.head f (firstRid x)).2 = rm at h ⊢
    generalize hF : (fun (rec : List IV → Hp → Option β) vals h => unpK (keptOf T.n kills) vals ⟨T.n, dT 10 0 T.n, h⟩ fun T => execS E ih' f n base x T fun ex T => match ex with
      | .normal => headS base kills rm T rec
      | .exit j => K (.exit j) T
      | .ret => K .ret T) = F at h
    have key : ∀ (k : Nat) (S1 : St) (T1 : FS), Rep T1 S1 → T1.n = T.n → headS base kills rm T1 (loopS k F) = some r →
        ∃ ex S' T', iterate (dropAt base kills rm) (exec E ih f n base x) k S1 = some (ex, S') ∧ Rep T' S' ∧ T'.n = T.n ∧ K ex T' = some r := by
      intro k
      induction k with
      | zero =>
        intro S1 T1 hr1 hn1 h
        obtain ⟨S2, vals, hp, _, _, h⟩ := headS_ok hr1 h
        cases h
      | succ k ihk =>
        intro S1 T1 hr1 hn1 h
        obtain ⟨S2, vals, hp, h1, h2, h⟩ := headS_ok hr1 h
        have h : F (loopS k F) vals hp = some r := h
        rw [← hF] at h
        rw [hn1] at h2
        simp only at h
        obtain ⟨T2, hn2, hr2, h⟩ := unp_rep hl h2 h
        obtain ⟨ex, S3, T3, h3, hr3, hn3, h⟩ := ihx hr2 (by rw [hn2]; exact hl) h
        simp only [iterate, h1, Option.bind_some, h3]
        cases ex with
        | normal =>
          simp only at h
          rw [hF] at h
          exact ihk S3 T3 hr3 (hn3.trans hn2) h
        | exit j => exact ⟨_, _, _, rfl, hr3, hn3.trans hn2, h⟩
        | ret => exact ⟨_, _, _, rfl, hr3, hn3.trans hn2, h⟩
    exact key n S T hr rfl h
  | exit id => intro T S hr _ K h; exact ⟨_, S, T, rfl, hr, rfl, h⟩
  | ret => intro T S hr _ K h; exact ⟨_, S, T, rfl, hr, rfl, h⟩
  | _ => intro T S hr _ K h; simp only [execS, cnd_eq] at h; cases h

theorem cellS_ok {agg : Bool} {size : Nat} {a : IV} {hp : Hp} {k : IV → Option β} (h : cellS agg size a hp k = some r) :
    ∃ v, (match a with
      | .ptr q off => match hp.get q with
        | some (.row cells _) => takeVar agg size off cells
        | _ => none
      | .fv (.fp cells off) => (takeVarF agg size off cells).map .fv
      | _ => none) = some v ∧ k v = some r := by
  cases agg with
  | true =>
    have h : loadA size a hp (fun v _ => k v) = some r := h
    unfold loadA at h
    rcases asPtr_ok h with ⟨q, o, rfl, g'⟩ | ⟨cs, o, rfl, g'⟩ <;> replace h := g' <;> clear g'
    · rw [getK_eq] at h
      obtain ⟨b, hb, h⟩ := bind_ok h
      obtain ⟨cells, ro, rfl, g'⟩ := asRow_ok h
      replace h := g'; clear g'
      obtain ⟨h1, h2⟩ := take_some h
      exact ⟨_, by simp only [hb, h1], h2⟩
    · obtain ⟨h1, h2⟩ := takeF_some h
      exact ⟨_, by simp only [h1, Option.map_some], h2⟩
  | false =>
    have h : load1 a hp (fun v _ => k v) = some r := h
    unfold load1 at h
    rcases asPtr_ok h with ⟨q, o, rfl, g'⟩ | ⟨cs, o, rfl, g'⟩ <;> replace h := g' <;> clear g'
    · rw [getK_eq] at h
      obtain ⟨b, hb, h⟩ := bind_ok h
      obtain ⟨cells, ro, rfl, g'⟩ := asRow_ok h
      replace h := g'; clear g'
      rw [nthK_eq] at h
      obtain ⟨v, hv, h⟩ := bind_ok h
      exact ⟨_, by simp only [hb, takeVar, Bool.false_eq_true, if_false, hv], h⟩
    · rw [nthK_eq] at h
      obtain ⟨v, hv, h⟩ := bind_ok h
      exact ⟨_, by simp only [takeVarF, Bool.false_eq_true, if_false, hv, Option.map_some], h⟩
theorem resS_ok {T : FS} {S : St} (hr : Rep T S) : ∀ (rs : List ResultVar) (acc : List IV) {k : List IV → Option β}, resS E T rs acc k = some r → ∃ vs, resVars E S rs = some vs ∧ k (acc ++ vs) = some r
  | [], acc, k, h => ⟨[], rfl, by rw [List.append_nil]; exact h⟩
  | .tmp t :: rs, acc, k, h => by
    have h : resS E T rs (acc ++ [T.get t]) k = some r := h
    obtain ⟨vs, h1, h2⟩ := resS_ok hr rs _ h
    refine ⟨T.get t :: vs, ?_, by simpa using h2⟩
    simp only [resVars, resVar, Option.bind_some, h1, Option.map_some, hr.at_]
  | .cell a t :: rs, acc, k, h => by
    have h : (match E.T t with
      | none => none
      | some ti => cellS ti.kind.isAgg ti.size (T.get a) T.hp fun v => resS E T rs (acc ++ [v]) k) = some r := h
    cases ht : E.T t with
    | none => rw [ht] at h; cases h
    | some ti =>
      rw [ht] at h
      obtain ⟨v, h1, h⟩ := cellS_ok h
      obtain ⟨vs, h2, h3⟩ := resS_ok hr rs _ h
      refine ⟨v :: vs, ?_, by simpa using h3⟩
      have : resVar E S (.cell a t) = some v := by
        simp only [resVar, ht, ← hr.at_, hr.hp]
        rw [← h1]
        cases T.get a with
        | fv w => cases w <;> rfl
        | _ => rfl
      simp only [resVars, this, Option.bind_some, h2, Option.map_some]

/-- What a function's shallow call answers is what its ideal run answers. -/
theorem funS_ok {FT : Nat → Option Func} (hFT : ∀ f fn, FT f = some fn → E.P.funcs[f]? = some fn) {n : Nat} {sh : Handler} (hi : ∀ f args h x, sh f args h = some x → run E n f args h = some x) {args : List IV} {h : Hp} {x : IV × Hp}
    (e : funS E sh FT n f args h = some x) : run E (n + 1) f args h = some x := by
  unfold funS at e
  simp only [cnd_eq] at e
  simp only [run]
  cases hf : FT f with
  | none => rw [hf] at e; cases e
  | some fn =>
    rw [hf] at e
    rw [hFT f fn hf]
    simp only at e ⊢
    cases hc : fn.body with
    | none => rw [hc] at e; cases e
    | some c =>
      rw [hc] at e
      simp only at e ⊢
      obtain ⟨hl, e⟩ := cond_ok e
      rw [argsKK_eq] at e
      simp only [Bool.and_eq_true] at hl
      have hl1 := ble_true hl.1
      have hl2 := ble_true hl.2
      have hrep0 : Rep ⟨fn.ntmps, dT 10 0 fn.ntmps, h⟩ ⟨List.replicate fn.ntmps .dead, h⟩ := by
        refine ⟨rfl, by simp, fun i hi => (dT_ok 10 0 fn.ntmps i (by simpa using hl2) (Nat.zero_le _) (by simpa using hi)).1, fun i hi => ?_⟩
        rw [(dT_ok 10 0 fn.ntmps i (by simpa using hl2) (Nat.zero_le _) (by simpa using hi)).2, List.getD_eq_getElem?_getD, List.getElem?_replicate]
        simp [hi]
      obtain ⟨T0, h1, h2⟩ := argsK_ok args 0 (K := _) hrep0
      rw [h1] at e
      have hs : setArgs args 0 (List.replicate fn.ntmps .dead) = args ++ List.replicate (fn.ntmps - args.length) .dead := by
        apply List.ext_getElem?
        intro j
        rw [setArgs_get _ _ _ _ (by simpa using hl1)]
        by_cases hj : j < args.length
        · rw [if_pos (by omega), List.getElem?_append_left hj]; simp
        · rw [if_neg (by omega), List.getElem?_append_right (by omega), List.getElem?_replicate, List.getElem?_replicate]
          by_cases hj2 : j < fn.ntmps
          · rw [if_pos hj2, if_pos (by omega)]
          · rw [if_neg hj2, if_neg (by omega)]
      simp only [hs] at h2
      have hT0 : T0.n ≤ 1024 := by
        have := h2.len
        simp at this
        omega
      obtain ⟨ex, S', T', h3, h4, _, h5⟩ := execS_ok hi c h2 hT0 e
      rw [h3]
      have hres : (resS E T' fn.results.toList [] fun vs => outS1 vs T'.hp) = some x → (resultOf E S' fn.results.toList).map (fun v => (v, S'.hp)) = some x := by
        intro h
        obtain ⟨vs, h1, h⟩ := resS_ok h4 _ _ h
        rw [List.nil_append] at h
        simp only [resultOf, h1, Option.map_some, h4.hp]
        match vs, h with
        | [], h => simp only [outS1, tupK_eq] at h; exact h
        | [v], h => exact h
        | v :: w :: l, h => simp only [outS1, tupK_eq] at h; exact h
      cases ex with
      | exit j => cases h5
      | normal => exact hres h5
      | ret => exact hres h5
end
end Idl
end Go.Proofs.Ytbkdidonegggdaa

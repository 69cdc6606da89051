/-
  A FASTER WAY TO RECKON AN IDEAL RUN: regions, bodies, functions: it answers only what the ideal run answers.
-/
import Derived.Test.YtbkdidonegggdaaIdl21
namespace Go.Proofs.Ytbkdidonegggdaa
namespace Idl

section
variable {E : Env} {β : Type} {R : KR β} {ih : Handler}

theorem opsK_ok {G : Option β → Prop} (hG : ¬ G none) (hR : Snd G R ih) {f : FuncId} {rid : Nat} {ops : Array Oper} : ∀ (l : List Oper) (i : Nat), ops.toList.drop i = l → ∀ {T : FS} {S : St}, Rep T S → ∀ {K : FS → Option β}, G (opsK E R f rid ops l i T K) →
    ∃ S' T', runOps E ih f rid ops (List.range' i l.length) S = some S' ∧ Rep T' S' ∧ G (K T') := by
  intro l
  induction l with
  | nil => intro i _ T S hr K h; exact ⟨S, T, rfl, hr, h⟩
  | cons o l ihl =>
    intro i hd T S hr K h
    have ho : ops[i]? = some o := by
      have : ops.toList[i]? = some o := by rw [← List.head?_drop, hd]; rfl
      simpa using this
    have hd' : ops.toList.drop (i + 1) = l := by rw [← List.tail_drop, hd]; rfl
    have h : G (stepK E R f rid ops i o false T (fun T _ _ => opsK E R f rid ops l (Nat.succ i) T K)) := h
    obtain ⟨S1, T1, rd, wr, h1, _, h2, h3⟩ := stepK_ok hG hR ho hr h
    obtain ⟨S', T', h4, h5, h6⟩ := ihl (i + 1) hd' h2 h3
    refine ⟨S', T', ?_, h5, h6⟩
    rw [List.length_cons, List.range'_succ]
    simp only [runOps, h1, Option.bind_some]
    exact h4

theorem clash_nil (q : List Ref × List Ref) : clash q ([], []) = true := by
  have : ∀ l : List Ref, disj l [] = true := fun l => by induction l with | nil => rfl | cons x l ih => simp [disj]
  simp only [clash, this, Bool.true_and]
  rfl
theorem nil_clash (p : List Ref × List Ref) : clash ([], []) p = true := by
  have : ∀ l : List Ref, disj l [] = true := fun l => by induction l with | nil => rfl | cons x l ih => simp [disj]
  have h2 : ∀ l : List Ref, disj [] l = true := fun l => rfl
  simp only [clash, this, h2, Bool.true_and]

theorem drawK_ok {G : Option β → Prop} (hG : ¬ G none) (hR : Snd G R ih) {f : FuncId} {rid : Nat} {ops : Array Oper} {before : Array Nat} : ∀ (l : List Oper) (i : Nat), ops.toList.drop i = l → ∀ {T : FS} {S : St} (done full : List (Nat × List Ref × List Ref)),
    (∀ x ∈ full, x.2 = ([], []) ∨ x ∈ done) → Rep T S → ∀ {K : FS → Option β}, G (drawK E R f rid ops before l i done T K) →
    ∃ S' T', runDraw E ih f rid ops before (List.range' i l.length) full S = some S' ∧ Rep T' S' ∧ G (K T') := by
  intro l
  induction l with
  | nil => intro i _ T S done full _ hr K h; exact ⟨S, T, rfl, hr, h⟩
  | cons o l ihl =>
    intro i hd T S done full hf hr K h
    have ho : ops[i]? = some o := by
      have : ops.toList[i]? = some o := by rw [← List.head?_drop, hd]; rfl
      simpa using this
    have hd' : ops.toList.drop (i + 1) = l := by rw [← List.tail_drop, hd]; rfl
    have h : G (stepK E R f rid ops i o true T (fun T rd wr => match rd, wr with
      | [], [] => drawK E R f rid ops before l (Nat.succ i) done T K
      | _, _ => cond (done.all fun (j, q) => (before.getD i 0).testBit j || clash q (rd, wr)) (drawK E R f rid ops before l (Nat.succ i) ((i, rd, wr) :: done) T K) none)) := h
    obtain ⟨S1, T1, rd, wr, _, h1, h2, h3⟩ := stepK_ok hG hR ho hr h
    have h1 := h1 rfl
    rw [List.length_cons, List.range'_succ]
    simp only [runDraw, h1]
    split at h3
    · obtain ⟨S', T', h4, h5, h6⟩ := ihl (i + 1) hd' done ((i, [], []) :: full) (fun x hx => by
        rcases List.mem_cons.1 hx with rfl | hx
        · exact .inl rfl
        · exact hf x hx) h2 h3
      refine ⟨S', T', ?_, h5, h6⟩
      have : (full.all fun x => (before.getD i 0).testBit x.1 || clash x.2 ([], [])) = true := List.all_eq_true.2 fun x _ => by rw [clash_nil]; simp
      rw [if_pos this]
      exact h4
    · cases hc : (done.all fun (j, q) => (before.getD i 0).testBit j || clash q (rd, wr)) with
      | false => rw [hc] at h3; exact absurd h3 hG
      | true =>
        rw [hc] at h3
        simp only [cond] at h3
        obtain ⟨S', T', h4, h5, h6⟩ := ihl (i + 1) hd' _ ((i, rd, wr) :: full) (fun x hx => by
          rcases List.mem_cons.1 hx with rfl | hx
          · exact .inr List.mem_cons_self
          · exact (hf x hx).imp id (List.mem_cons_of_mem _)) h2 h3
        refine ⟨S', T', ?_, h5, h6⟩
        have : (full.all fun x => (before.getD i 0).testBit x.1 || clash x.2 (rd, wr)) = true := List.all_eq_true.2 fun x hx => by
          rcases hf x hx with e | e
          · rw [e, nil_clash]; simp
          · exact List.all_eq_true.1 hc x e
        rw [if_pos this]
        exact h4

theorem kill_ok : ∀ (ks : List Nat) {α : Type} {T : FS} {S : St} {K : FS → α}, Rep T S → ∃ T', killK ks T K = K T' ∧ Rep T' { S with slots := killSlots ks S.slots } := by
  intro ks
  induction ks with
  | nil => intro α T S K hr; exact ⟨T, rfl, hr⟩
  | cons i ks ih =>
    intro α T S K hr
    obtain ⟨T', h1, h2⟩ := ih (K := K) (put_rep hr (some i) .dead)
    refine ⟨T', ?_, h2⟩
    show putK (some i) .dead T (fun T => killK ks T K) = K T'
    rw [putK_eq]
    exact h1
theorem list_eq {T : FS} {S : St} (hr : Rep T S) : T.list = S.slots := by
  apply List.ext_getElem?
  intro i
  unfold FS.list
  by_cases hi : i < T.n
  · rw [List.getElem?_map, List.getElem?_range hi, Option.map_some, hr.get i hi, List.getD_eq_getElem?_getD, List.getElem?_eq_getElem (by rw [hr.len]; exact hi)]; rfl
  · rw [List.getElem?_eq_none (by simp; omega), List.getElem?_eq_none (by rw [hr.len]; omega)]
theorem dropAt_slots {base kills rm : List Nat} {S S' : St} (h : dropAt base kills rm S = some S') : S'.slots = killSlots kills S.slots := by
  unfold dropAt at h
  split at h
  · cases h
  dsimp only at h
  split at h
  · simp only [Option.some.injEq] at h; rw [← h]
  · split at h
    · cases h
    · simp only [Option.some.injEq] at h; rw [← h]
theorem dropK_ok {base kills rm : List Nat} {T : FS} {S : St} (hr : Rep T S) {G : Option β → Prop} (hG : ¬ G none) {K : FS → Option β} (h : G (dropK base kills rm T K)) :
    ∃ S' T', dropAt base kills rm S = some S' ∧ Rep T' S' ∧ G (K T') := by
  unfold dropK at h
  split at h
  · obtain ⟨T', h1, h2⟩ := kill_ok kills (K := K) hr
    rw [h1] at h
    refine ⟨_, T', ?_, h2, h⟩
    simp [dropAt]
  · rw [list_eq hr, ← hr.hp] at h
    split at h
    · exact absurd h hG
    · rename_i S' hd
      rw [fHp_eq] at h
      obtain ⟨T', h1, h2⟩ := kill_ok kills (K := K) (T := ⟨T.n, T.t, S'.hp⟩) (S := ⟨S.slots, S'.hp⟩) ⟨rfl, hr.len, hr.has, hr.get⟩
      rw [h1] at h
      refine ⟨S', T', hd, ?_, h⟩
      have := dropAt_slots hd
      simp only at this
      cases S' with
      | mk sl hp => simp only at this; subst this; exact h2

theorem iterK_ok {G : Option β → Prop} (hG : ¬ G none) {head : FS → (FS → Option β) → Option β} {body : FS → (Ex → FS → Option β) → Option β} {head' : St → Option St} {body' : St → Option (Ex × St)}
    (hh : ∀ {T S K}, Rep T S → G (head T K) → ∃ S' T', head' S = some S' ∧ Rep T' S' ∧ G (K T'))
    (hb : ∀ {T S K}, Rep T S → G (body T K) → ∃ ex S' T', body' S = some (ex, S') ∧ Rep T' S' ∧ G (K ex T')) : ∀ (k : Nat) {T : FS} {S : St}, Rep T S → ∀ {K : Ex → FS → Option β},
    G (iterK head body k T K) → ∃ ex S' T', iterate head' body' k S = some (ex, S') ∧ Rep T' S' ∧ G (K ex T') := by
  intro k
  induction k with
  | zero => intro T S hr K h; exact absurd h hG
  | succ k ih =>
    intro T S hr K h
    have h : G (head T (fun T => body T fun ex T => match ex with
      | .normal => iterK head body k T K
      | .exit j => K (.exit j) T
      | .ret => K .ret T)) := h
    obtain ⟨S1, T1, h1, h2, h3⟩ := hh hr h
    obtain ⟨ex, S2, T2, h4, h5, h6⟩ := hb h2 h3
    simp only [iterate, h1, Option.bind_some, h4]
    cases ex with
    | normal => exact ih h5 h6
    | exit j => exact ⟨_, _, _, rfl, h5, h6⟩
    | ret => exact ⟨_, _, _, rfl, h5, h6⟩

theorem execK_ok {G : Option β → Prop} (hG : ¬ G none) (hR : Snd G R ih) {f : FuncId} {k : Nat} {base : List Nat} : ∀ (c : Code) {T : FS} {S : St}, Rep T S → ∀ {K : Ex → FS → Option β}, G (execK E R f k base c T K) →
    ∃ ex S' T', exec E ih f k base c S = some (ex, S') ∧ Rep T' S' ∧ G (K ex T') := by
  intro c
  induction c with
  | skip => intro T S hr K h; exact ⟨_, S, T, rfl, hr, h⟩
  | region rid ops d =>
    intro T S hr K h
    simp only [execK] at h
    simp only [exec]
    rw [List.range_eq_range']
    cases d with
    | true =>
      obtain ⟨S', T', h1, h2, h3⟩ := drawK_ok hG hR ops.toList 0 rfl [] [] (fun x hx => by cases hx) hr h
      simp only [Array.length_toList] at h1
      exact ⟨_, S', T', by simp only [if_true, h1, Option.map_some], h2, h3⟩
    | false =>
      obtain ⟨S', T', h1, h2, h3⟩ := opsK_ok hG hR ops.toList 0 rfl hr h
      simp only [Array.length_toList] at h1
      exact ⟨_, S', T', by simp only [Bool.false_eq_true, if_false, h1, Option.map_some], h2, h3⟩
  | seq x y ihx ihy =>
    intro T S hr K h
    simp only [execK] at h
    obtain ⟨ex, S1, T1, h1, h2, h3⟩ := ihx hr h
    simp only [exec, h1]
    cases ex with
    | normal => exact ihy h2 h3
    | exit j => exact ⟨_, _, _, rfl, h2, h3⟩
    | ret => exact ⟨_, _, _, rfl, h2, h3⟩
  | cond c x y ihx ihy =>
    intro T S hr K h
    simp only [execK, operandT_eq hr] at h
    simp only [exec]
    split at h
    · rename_i he; rw [he]; exact ihx hr h
    · rename_i he; rw [he]; exact ihy hr h
    · exact absurd h hG
  | block id x ihx =>
    intro T S hr K h
    simp only [execK] at h
    obtain ⟨ex, S1, T1, h1, h2, h3⟩ := ihx hr h
    simp only [exec, h1]
    cases ex with
    | normal => exact ⟨_, _, _, rfl, h2, h3⟩
    | exit j =>
      simp only at h3 ⊢
      cases hj : Nat.beq j id with
      | true =>
        rw [hj] at h3
        rw [if_pos (Nat.eq_of_beq_eq_true hj)]
        exact ⟨_, _, _, rfl, h2, h3⟩
      | false =>
        rw [hj] at h3
        rw [if_neg (fun e => by rw [e, show Nat.beq id id = true from Nat.beq_refl id] at hj; cases hj)]
        exact ⟨_, _, _, rfl, h2, h3⟩
    | ret => exact ⟨_, _, _, rfl, h2, h3⟩
  | loop x ihx =>
    intro T S hr K h
    simp only [execK] at h
    simp only [exec]
    exact iterK_ok hG (fun hr h => dropK_ok hr hG h) (fun hr h => ihx hr h) k hr h
  | exit id => intro T S hr K h; exact ⟨_, S, T, rfl, hr, h⟩
  | ret => intro T S hr K h; exact ⟨_, S, T, rfl, hr, h⟩
  | _ => intro T S hr K h; simp only [execK] at h; exact absurd h hG

theorem resVarsT_eq {T : FS} {S : St} (hr : Rep T S) : ∀ rs : List ResultVar, resVarsT E T rs = resVars E S rs
  | [] => rfl
  | r :: l => by
    have : resVarT E T r = resVar E S r := by
      cases r with
      | tmp t => simp only [resVarT, resVar, hr.at_]
      | cell a t => simp only [resVarT, resVar, hr.at_, hr.hp]; rfl
    simp only [resVarsT, resVars, this, resVarsT_eq hr l]

def setArgs : List IV → Nat → List IV → List IV
  | [], _, s => s
  | v :: l, i, s => setArgs l (i + 1) (s.set i v)
theorem setArgs_len : ∀ (l : List IV) (i : Nat) (s : List IV), (setArgs l i s).length = s.length
  | [], _, _ => rfl
  | v :: l, i, s => by simp [setArgs, setArgs_len l]
theorem setArgs_get : ∀ (l : List IV) (i : Nat) (s : List IV) (j : Nat), i + l.length ≤ s.length → (setArgs l i s)[j]? = if i ≤ j ∧ j < i + l.length then l[j - i]? else s[j]?
  | [], i, s, j, _ => by rw [if_neg (by simp)]; rfl
  | v :: l, i, s, j, h => by
    simp only [List.length_cons] at h
    rw [setArgs, setArgs_get l (i + 1) (s.set i v) j (by simp; omega)]
    by_cases h1 : i = j
    · subst h1
      rw [if_neg (by omega), if_pos (by simp), List.getElem?_set_self (by omega)]
      simp
    · by_cases h2 : i + 1 ≤ j ∧ j < i + 1 + l.length
      · rw [if_pos h2, if_pos (by simp; omega), show j - i = (j - (i + 1)) + 1 by omega]; simp
      · rw [if_neg h2, if_neg (by simp; omega), List.getElem?_set_ne h1]
theorem argsK_ok : ∀ (l : List IV) {α : Type} (i : Nat) {T : FS} {S : St} {K : FS → α}, Rep T S → ∃ T', argsK l i T K = K T' ∧ Rep T' { S with slots := setArgs l i S.slots } := by
  intro l
  induction l with
  | nil => intro α i T S K hr; exact ⟨T, rfl, hr⟩
  | cons v l ih =>
    intro α i T S K hr
    obtain ⟨T', h1, h2⟩ := ih (i + 1) (K := K) (put_rep hr (some i) v)
    refine ⟨T', ?_, h2⟩
    show putK (some i) v T (fun T => argsK l (Nat.succ i) T K) = K T'
    rw [putK_eq]
    exact h1

theorem callK_ok {G : Option β → Prop} (hG : ¬ G none) {FT : Nat → Option Func} (hFT : ∀ f fn, FT f = some fn → E.P.funcs[f]? = some fn) {n : Nat} (ihn : Snd G R (run E n)) : Snd G (callK E R FT n) (run E (n + 1)) := by
    intro f args hp K h
    unfold callK at h
    simp only [run]
    cases hf : FT f with
    | none => rw [hf] at h; exact absurd h hG
    | some fn =>
      rw [hf] at h
      rw [hFT f fn hf]
      simp only at h ⊢
      cases hc : fn.body with
      | none => rw [hc] at h; exact absurd h hG
      | some c =>
        rw [hc] at h
        simp only at h ⊢
        cases hl : (Nat.ble args.length fn.ntmps && Nat.ble fn.ntmps 1024) with
        | false => rw [hl] at h; exact absurd h hG
        | true =>
          rw [hl] at h
          simp only [Bool.and_eq_true] at hl
          have hl1 := Nat.le_of_ble_eq_true hl.1
          have hl2 := Nat.le_of_ble_eq_true hl.2
          simp only [cond] at h
          have hrep0 : Rep ⟨fn.ntmps, dT 10 0 fn.ntmps, hp⟩ ⟨List.replicate fn.ntmps .dead, hp⟩ := by
            refine ⟨rfl, by simp, fun i hi => (dT_ok 10 0 fn.ntmps i (by simpa using hl2) (Nat.zero_le _) (by simpa using hi)).1, fun i hi => ?_⟩
            rw [(dT_ok 10 0 fn.ntmps i (by simpa using hl2) (Nat.zero_le _) (by simpa using hi)).2, List.getD_eq_getElem?_getD, List.getElem?_replicate]
            simp [hi]
          obtain ⟨T0, h1, h2⟩ := argsK_ok args 0 (K := _) hrep0
          rw [h1] at h
          have hs : setArgs args 0 (List.replicate fn.ntmps .dead) = args ++ List.replicate (fn.ntmps - args.length) .dead := by
            apply List.ext_getElem?
            intro j
            rw [setArgs_get _ _ _ _ (by simpa using hl1)]
            by_cases hj : j < args.length
            · rw [if_pos (by omega), List.getElem?_append_left hj]; simp
            · rw [if_neg (by omega), List.getElem?_append_right (by omega), List.getElem?_replicate, List.getElem?_replicate]
              by_cases hj2 : j < fn.ntmps
              · rw [if_pos hj2, if_pos (by omega)]
              · rw [if_neg hj2, if_neg (by omega)]
          simp only [hs] at h2
          obtain ⟨ex, S', T', h3, h4, h5⟩ := execK_ok hG ihn c h2 h
          rw [h3]
          have hres : ∀ {vs : Option (List IV)}, vs = resVars E S' fn.results.toList → G (match vs with
              | none => none
              | some [v] => fIV 3 v fun v => K v T'.hp
              | some vs => fIV 3 (mkTuple vs) fun v => K v T'.hp) → ∃ v, resultOf E S' fn.results.toList = some v ∧ G (K v T'.hp) := by
            intro vs e hk
            unfold resultOf
            rw [← e]
            cases vs with
            | none => exact absurd hk hG
            | some vs =>
              match vs, hk with
              | [], hk => simp only [fIV_eq] at hk; exact ⟨_, rfl, hk⟩
              | [v], hk => simp only [fIV_eq] at hk; exact ⟨_, rfl, hk⟩
              | v :: w :: l, hk => simp only [fIV_eq] at hk; exact ⟨_, rfl, hk⟩
          cases ex with
          | exit j => exact absurd h5 hG
          | normal =>
            simp only at h5 ⊢
            obtain ⟨v, e1, e2⟩ := hres (resVarsT_eq h4 _) h5
            exact ⟨v, T'.hp, by rw [e1, h4.hp]; rfl, e2⟩
          | ret =>
            simp only at h5 ⊢
            obtain ⟨v, e1, e2⟩ := hres (resVarsT_eq h4 _) h5
            exact ⟨v, T'.hp, by rw [e1, h4.hp]; rfl, e2⟩
theorem runK_ok {G : Option β → Prop} (hG : ¬ G none) {FT : Nat → Option Func} (hFT : ∀ f fn, FT f = some fn → E.P.funcs[f]? = some fn) : ∀ n, Snd G (runK E (β := β) FT n) (run E n) := by
  intro n
  induction n with
  | zero => intro f args hp K h; exact absurd h hG
  | succ n ihn => exact callK_ok hG hFT ihn
end
end Idl
end Go.Proofs.Ytbkdidonegggdaa

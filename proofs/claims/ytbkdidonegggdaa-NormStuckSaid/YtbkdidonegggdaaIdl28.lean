/-
  A SHALLOW FORM OF THE IDEAL RUN: what an operation's function hands on is what the operation does (the rest; calls). No statement of the seat is proved here.
-/
import Derived.Test.YtbkdidonegggdaaIdl27
set_option linter.unusedSimpArgs false
namespace Go.Proofs.Ytbkdidonegggdaa
namespace Idl

section
variable {β : Type} {E : Env} {ih ih' : Handler} {f rid i : Nat} {dr : Bool} {ρ : Operand → IV} {hp : Hp} {k : IV → Hp → List Ref → List Ref → Option β} {r : β}

theorem take_some {size o : Nat} {cs : List IV} {k : IV → Option β} (h : (drpK cs o fun cs => takK cs size fun cs => aggK cs k) = some r) :
    takeVar true size o cs = some (mkAgg ((cs.drop o).take size)) ∧ k (mkAgg ((cs.drop o).take size)) = some r := by
  rw [drpK_eq] at h
  obtain ⟨h1, h⟩ := ite_ok h
  rw [takK_eq] at h
  obtain ⟨h2, h⟩ := ite_ok h
  rw [aggK_eq] at h
  refine ⟨?_, h⟩
  simp only [takeVar, if_true]
  rw [if_pos (by simp at h2; omega)]
theorem takeF_some {size o : Nat} {cs : List FV} {k : IV → Option β} (h : (drpK cs o fun cs => takK cs size fun cs => k (.fv (.agg cs))) = some r) :
    takeVarF true size o cs = some (.agg ((cs.drop o).take size)) ∧ k (.fv (.agg ((cs.drop o).take size))) = some r := by
  rw [drpK_eq] at h
  obtain ⟨h1, h⟩ := ite_ok h
  rw [takK_eq] at h
  obtain ⟨h2, h⟩ := ite_ok h
  refine ⟨?_, h⟩
  simp only [takeVarF, if_true]
  rw [if_pos (by simp at h2; omega)]

theorem s_field {s : TypeId} {x : Operand} {fd : Nat} (h : opS E ih' f rid i dr ρ (.field s x fd) hp k = some r) : Done E ih f rid i ρ (.field s x fd) hp k r := by
  simp only [opS, cnd_eq] at h
  cases hf : fieldR E s fd with
  | none => rw [hf] at h; cases h
  | some p =>
    obtain ⟨o, ti⟩ := p
    rw [hf] at h
    simp only at h
    cases hag : ti.kind.isAgg with
    | true =>
      rw [hag] at h
      simp only [cond, fldA] at h
      rcases asAgg_ok h with ⟨cs, hx, h⟩ | ⟨cs, hx, h⟩
      · obtain ⟨h1, h2⟩ := take_some (k := fun v => k v hp [] []) h
        exact done_val (by simp only [opG, hf, hx, hag, h1]; rfl) h2
      · obtain ⟨h1, h2⟩ := takeF_some (k := fun v => k v hp [] []) h
        exact done_val (by simp only [opG, hf, hx, hag, h1]; rfl) h2
    | false =>
      rw [hag] at h
      simp only [cond, fld1] at h
      rcases asAgg_ok h with ⟨cs, hx, h⟩ | ⟨cs, hx, h⟩
      · rw [nthK_eq] at h
        obtain ⟨v, hv, h⟩ := bind_ok h
        exact done_val (by simp only [opG, hf, hx, hag, takeVar, Bool.false_eq_true, if_false, hv]; rfl) h
      · rw [nthK_eq] at h
        obtain ⟨v, hv, h⟩ := bind_ok h
        exact done_val (by simp only [opG, hf, hx, hag, takeVarF, Bool.false_eq_true, if_false, hv]; rfl) h
theorem s_fieldAddr {s : TypeId} {x : Operand} {fd : Nat} (h : opS E ih' f rid i dr ρ (.fieldAddr s x fd) hp k = some r) : Done E ih f rid i ρ (.fieldAddr s x fd) hp k r := by
  simp only [opS, cnd_eq] at h
  cases hf : fieldR E s fd with
  | none => rw [hf] at h; cases h
  | some p =>
    obtain ⟨o, ti⟩ := p
    rw [hf] at h
    simp only [beq_ite] at h
    by_cases hs : ti.size = 0
    · rw [if_pos hs] at h; cases h
    · rw [if_neg hs] at h
      unfold faddrS at h
      rcases asPtr_ok h with ⟨q, off, hx, h⟩ | ⟨cs, off, hx, h⟩
      · rw [fNat_eq] at h
        exact done_val (by simp only [opG, hf, hx, if_neg hs]) h
      · rw [fNat_eq] at h
        exact done_val (by simp only [opG, hf, hx, if_neg hs]) h
theorem s_nil {x : Operand} (h : opS E ih' f rid i dr ρ (.nilCheck x) hp k = some r) : Done E ih f rid i ρ (.nilCheck x) hp k r := by
  simp only [opS, cnd_eq] at h
  unfold nilS at h
  split at h
  · rename_i hx; exact done_val (by simp only [opG, hx]) h
  · rename_i hx
    unfold nilF at h
    split at h
    · exact done_val (by simp only [opG, hx]) h
    · unfold funK at h
      split at h
      · exact done_val (by simp only [opG, hx]) h
      · cases h
    · cases h
  · rename_i hx
    unfold funK at h
    split at h
    · exact done_val (by simp only [opG, hx]) h
    · cases h
  · cases h
theorem s_extract {x : Operand} {ix : Nat} (h : opS E ih' f rid i dr ρ (.extract x ix) hp k = some r) : Done E ih f rid i ρ (.extract x ix) hp k r := by
  simp only [opS, cnd_eq] at h
  unfold extS at h
  split at h
  · rename_i hx
    rw [nthK_eq] at h
    obtain ⟨v, hv, h⟩ := bind_ok h
    exact done_val (by simp only [opG, hx, hv]; rfl) h
  · rename_i hx
    simp only [tupF] at h
    split at h
    · rw [nthK_eq] at h
      obtain ⟨v, hv, h⟩ := bind_ok h
      exact done_val (by simp only [opG, hx, hv]; rfl) h
    · cases h
  · cases h
theorem s_pick {c a b : Operand} (h : opS E ih' f rid i dr ρ (.pick c a b) hp k = some r) : Done E ih f rid i ρ (.pick c a b) hp k r := by
  simp only [opS, pickS] at h
  obtain ⟨t, hc, h⟩ := condS_ok h
  cases t with
  | true => exact done_val (by simp only [opG, hc]; rfl) h
  | false => exact done_val (by simp only [opG, hc]; rfl) h
theorem s_indexAddr {t : TypeId} {x ix : Operand} (h : opS E ih' f rid i dr ρ (.indexAddr t x ix) hp k = some r) : Done E ih f rid i ρ (.indexAddr t x ix) hp k r := by
  simp only [opS, cnd_eq] at h
  split at h
  · rename_i e z ht
    split at h
    · rename_i ei he
      unfold ixS at h
      obtain ⟨kd, n, hi, h⟩ := asIx_ok h
      rcases asSlc_ok h with ⟨q, sz, len, hx, h⟩ | ⟨hx, h⟩
      · obtain ⟨hc, h⟩ := cond_ok h
        have hc : (Nat.ble (Nat.succ n) len && Nat.beq sz ei.size) = true := hc
        simp only [Bool.and_eq_true] at hc
        have h1 := ble_true hc.1
        have h2 := beq_true hc.2
        rw [fNat_eq] at h
        refine done_val ?_ h
        simp only [opG, indexR, ht, he, hi, hx]
        rw [if_pos ⟨by omega, by omega, h2⟩]
        rfl
      · rw [elsK_eq] at h
        obtain ⟨es, he2, h⟩ := bind_ok h
        rw [nthK_eq] at h
        obtain ⟨el, hel, h⟩ := bind_ok h
        rw [elK_eq] at h
        obtain ⟨hl, h⟩ := ite_ok h
        refine done_val ?_ h
        simp only [opG, indexR, ht, he, hi]
        cases hxx : ρ x with
        | slc q sz len => exact absurd hxx (hx q sz len)
        | _ =>
          rw [hxx] at he2
          simp only [he2]
          rw [if_neg (by omega)]
          simp only [Int.toNat_natCast, hel]
          rw [if_pos hl]
    · cases h
  · rename_i m e z ht
    split at h
    · rename_i ei he
      unfold ixA at h
      obtain ⟨kd, n, hi, h⟩ := asIx_ok h
      obtain ⟨hc, h⟩ := cond_ok h
      have hc := ble_true hc
      have hlt : (0 : Int) ≤ (n : Int) ∧ (n : Int) < (m : Int) := ⟨by omega, by omega⟩
      rcases asPtr_ok h with ⟨q, o, hx, h⟩ | ⟨cs, o, hx, h⟩
      · rw [fNat_eq] at h
        refine done_val ?_ h
        simp only [opG, indexR, ht, he, hi, hx]
        rw [if_pos hlt]
        rfl
      · rw [fNat_eq] at h
        refine done_val ?_ h
        simp only [opG, indexR, ht, he, hi, hx]
        rw [if_pos hlt]
        rfl
    · cases h
  · cases h
theorem s_index {t : TypeId} {x ix : Operand} (h : opS E ih' f rid i dr ρ (.index t x ix) hp k = some r) : Done E ih f rid i ρ (.index t x ix) hp k r := by
  simp only [opS, cnd_eq] at h
  split at h
  · rename_i m e z ht
    split at h
    · rename_i ei he
      cases hag : ei.kind.isAgg with
      | true => rw [hag] at h; exact done_gen (by simp only [quiet, ht, he, hag]; rfl) rfl h
      | false =>
        rw [hag] at h
        simp only [cond, idx1] at h
        obtain ⟨kd, n, hi, h⟩ := asIx_ok h
        obtain ⟨hc, h⟩ := cond_ok h
        have hc := ble_true hc
        rcases asF_ok h with ⟨v, hx, h⟩ | h
        · simp only [asAggF] at h
          split at h
          · rw [nthK_eq] at h
            obtain ⟨w, hw, h⟩ := bind_ok h
            refine done_val ?_ h
            simp only [opG, ht, hi, hx, he]
            rw [if_pos ⟨by omega, by omega⟩]
            simp only [hag, takeVarF, Bool.false_eq_true, if_false, Int.toNat_natCast, hw]
            rfl
          · cases h
        · cases h
    · cases h
  · rename_i hn
    refine done_gen ?_ rfl h
    simp only [quiet]

theorem fillP_ok {z : List IV} {o sz : Nat} {v : IV} {k : List IV → Option β} (h : fillP z o sz v k = some r) : (v.alive = true ∧ v.cells.length = sz ∧ o + sz ≤ z.length) ∧ k (setCells z o v.cells) = some r := by
  have one : v.one = true → (cond (Nat.beq sz 1) (offK z o v k) none) = some r → (v.alive = true ∧ v.cells.length = sz ∧ o + sz ≤ z.length) ∧ k (setCells z o v.cells) = some r := by
    intro ho h
    obtain ⟨hs, h⟩ := cond_ok h
    have hs := beq_true hs
    rw [offK_eq] at h
    obtain ⟨hlt, h⟩ := ite_ok h
    obtain ⟨c1, c2⟩ := one_cells ho
    refine ⟨⟨c2, by rw [c1, hs]; rfl, by omega⟩, ?_⟩
    rw [c1, set_one]
    exact h
  unfold fillP at h
  rcases asF_ok h with ⟨w, rfl, g'⟩ | h
  · replace h := g'; clear g'
    cases ho : oneF w with
    | true =>
      rw [ho] at h
      exact one (by cases w <;> first | rfl | cases ho) h
    | false =>
      rw [ho] at h
      simp only [cond, asAggF] at h
      split at h
      · rename_i cs
        cases hc : Nat.beq cs.length sz with
        | false => rw [hc] at h; cases h
        | true =>
          rw [hc] at h
          have hc := beq_true hc
          obtain ⟨h1, h⟩ := setFK_ok z o cs h
          exact ⟨⟨rfl, by simp [IV.cells, hc], by omega⟩, h⟩
      · cases h
  · unfold fillG at h
    cases ho : v.one with
    | true => rw [ho] at h; exact one ho h
    | false =>
      rw [ho] at h
      simp only [cond] at h
      obtain ⟨hc, h⟩ := ite_ok h
      rw [spK_eq] at h
      exact ⟨hc, h⟩
theorem fillK_ok : ∀ (pl : List (Nat × Operand)) (place : Nat → Option (Nat × Nat)) (l : List (Nat × Nat × Operand)) (z : List IV) {k : List IV → Option β}, placed place pl = some l → fillK z (withV ρ l) k = some r →
    ∃ cells, fillIn place z (pl.map fun (j, x) => (j, ρ x)) = some cells ∧ k cells = some r
  | [], place, l, z, k, hp, h => by
    simp only [placed, Option.some.injEq] at hp
    subst hp
    exact ⟨z, rfl, h⟩
  | (j, x) :: pl, place, l, z, k, hp, h => by
    simp only [placed] at hp
    cases hj : place j with
    | none => rw [hj] at hp; cases hp
    | some os =>
      obtain ⟨o, s⟩ := os
      rw [hj] at hp
      simp only at hp
      cases hpl : placed place pl with
      | none => rw [hpl] at hp; cases hp
      | some l' =>
        rw [hpl] at hp
        simp only [Option.some.injEq] at hp
        subst hp
        have h : (fillP z o s (ρ x) fun z => fillK z (withV ρ l') k) = some r := h
        simp only [List.map_cons, fillIn, hj]
        obtain ⟨hc, h⟩ := fillP_ok h
        rw [if_pos hc]
        exact fillK_ok pl place l' _ hpl h
theorem s_build {t : TypeId} {parts : Array (Nat × Operand)} (h : opS E ih' f rid i dr ρ (.build t parts) hp k = some r) : Done E ih f rid i ρ (.build t parts) hp k r := by
  simp only [opS, cnd_eq] at h
  split at h
  · rename_i fs z ht
    split at h
    · rename_i l hl
      unfold bldS at h
      obtain ⟨cells, h1, h2⟩ := fillK_ok _ _ _ _ hl h
      rw [aggK_eq] at h2
      refine done_val ?_ h2
      simp only [opG, ht, h1]
      rfl
    · cases h
  · rename_i hn
    refine done_gen ?_ rfl h
    simp only [quiet]
theorem s_box {t : TypeId} {x : Operand} (h : opS E ih' f rid i dr ρ (.box t x) hp k = some r) : Done E ih f rid i ρ (.box t x) hp k r := by
  simp only [opS, cnd_eq] at h
  have hg : E.pol.fzBox f rid i = true → opG E ih f rid i ρ (.box t x) = pcBox true (site f rid i) (ρ x) := fun e => by rw [pcBox_eq, e]
  cases hz : E.pol.fzBox f rid i with
  | true =>
    rw [hz] at h
    simp only [cond, fzS] at h
    rcases asF_ok h with ⟨v, hx, h⟩ | h
    · simp only [aggS] at h
      split at h
      · rename_i cs
        cases hc : Nat.ble cs.length 2000 with
        | false => rw [hc] at h; exact done_gen rfl (hg hz) h
        | true =>
          rw [hc] at h
          have hc := ble_true hc
          have key : ∀ (n : Nat) (cs : List FV), cs.length < n → frzL n (cs.map .fv) = .ret (cs, []) := by
            intro n
            induction n with
            | zero => intro cs h; omega
            | succ n ih =>
              intro cs h
              cases cs with
              | nil => rfl
              | cons c cs =>
                cases n with
                | zero => simp at h
                | succ n =>
                  simp only [List.map_cons, frzL, frz, Rd.bind]
                  rw [ih cs (by simp at h ⊢; omega)]
                  rfl
          refine ⟨_, hp, [], [], ⟨{ eff := { val := .fv (.fp cs 0), upd := [] } }, ?_, rfl, rfl, rfl⟩, h, fun q => by cases q⟩
          simp only [opG, hx, IV.alive, Bool.true_eq_false, if_false, hz, if_true, IV.cells, key 4096 cs (by omega)]
          rfl
      · exact done_gen rfl (hg hz) h
    · exact done_gen rfl (hg hz) h
  | false =>
    rw [hz] at h
    simp only [cond, boxS] at h
    have key : ∀ cs, (ρ x).cells = cs → (ρ x).alive = true → newS (site f rid i) (.row cs false) (.ptr (.own (site f rid i)) 0) hp k = some r → Done E ih f rid i ρ (.box t x) hp k r := by
      intro cs hcs ha h
      refine done_new rfl ?_ h
      simp only [opG, ha, Bool.true_eq_false, if_false, hz, Bool.false_eq_true, hcs]
    cases ho : (ρ x).one with
    | true =>
      rw [ho] at h
      obtain ⟨c1, c2⟩ := one_cells ho
      exact key _ c1 c2 h
    | false =>
      rw [ho] at h
      simp only at h
      obtain ⟨ha, h⟩ := cond_ok h
      rw [spK_eq] at h
      exact key _ rfl ha h
theorem s_convert {s d : TypeId} {x : Operand} (h : opS E ih' f rid i dr ρ (.convert s d x) hp k = some r) : Done E ih f rid i ρ (.convert s d x) hp k r := by
  simp only [opS, cnd_eq] at h
  split at h
  · rename_i hs hd
    obtain ⟨v, h1, h2⟩ := conv64_ok hs hd h
    exact done_val (by simp only [opG, h1]; rfl) h2
  · rw [optS_eq] at h
    exact done_valO rfl h

/-! ## Calls -/
def Iso (E : Env) (ih : Handler) (g : FuncId) (args : List IV) (hp : Hp) (k : IV → Hp → List Ref → List Ref → Option β) (r : β) : Prop :=
  ∃ e rd hp', (isoCall E ih g args).runLog hp [] = some (e, rd) ∧ laid hp e.upd = some hp' ∧ k e.val hp' rd (keys e.upd) = some r
theorem isoD_ok (hi : ∀ f args h x, ih' f args h = some x → ih f args h = some x) {g : FuncId} {args : List IV} (h : isoD (E.pol.keep g) (E.pol.split g) (E.pol.raw g) ih' g args hp k = some r) : Iso E ih g args hp k r := by
  have hasked : ∀ args ext x, askedD (E.pol.split g) ih' g args ext = some x → asked E ih g args ext = some x := by
    intro args ext x e
    unfold askedD at e
    unfold asked
    split at e
    · rename_i hs
      rw [if_pos hs]
      split at e
      · split at e
        · rename_i hc
          simp only [Bool.and_eq_true] at hc
          have mono : ∀ {o o' : Option (IV × Hp)}, (∀ x, o = some x → o' = some x) → isEmptySl o = true → isEmptySl o' = true := by
            intro o o' hm h
            cases o with
            | none => cases h
            | some x => rw [hm x rfl]; exact h
          rw [if_pos (by rw [mono (hi _ _ _) hc.1, mono (hi _ _ _) hc.2]; rfl)]
          exact e
        · cases e
      · rename_i hne
        have := hi _ _ _ _ e
        split
        · exact absurd rfl (fun e => hne rfl e)
        · exact this
    · rename_i hs
      rw [if_neg hs]
      exact hi _ _ _ _ e
  unfold isoD at h
  split at h
  · cases h
  rename_i vs rs u l1 h1
  split at h
  · cases h
  rename_i l l2 h2
  split at h
  · cases h
  rename_i vs' h3
  split at h
  · cases h
  rename_i ext h4
  simp only [fL_eq (fV_eq 3), fL_eq fBk_eq] at h
  split at h
  · cases h
  rename_i res hp' h5
  split at h
  · cases h
  rename_i res1 h6
  split at h
  · cases h
  rename_i res2 h7
  split at h
  · cases h
  rename_i ext' h8
  obtain ⟨hc, h⟩ := ite_ok h
  split at h
  · cases h
  rename_i hp2 h9
  simp only [fH_eq, fV_eq] at h
  refine ⟨{ val := res2, upd := u ++ (keys l).zip ext' }, l2, hp2, ?_, h9, h⟩
  simp only [isoCall, runLog_bind, h1, h2, Option.bind_some, h3, h4, hasked _ _ _ h5]
  rw [show handBack E g res hp' = some res1 from h6]
  simp only [Option.bind_some, h7, h8]
  rw [if_pos hc]
  rfl
/-! Freezing -/
/-- What a freezing function hands on is what is frozen, of enough steps. -/
def FzOk (M : Nat) (g : FzK β) : Prop := ∀ v h lg e k r, g v h lg e k = some r → e = some r ∨ ∃ x u lg', (∀ N, M ≤ N → (frz N v).runLog h lg = some ((x, u), lg')) ∧ (∀ p ∈ u, ∃ s, p.1 = Ref.own s) ∧ k x u lg' = some r
theorem fzLK_ok {M : Nat} {g : FzK β} (hg : FzOk M g) : ∀ (l : List IV) h lg e k r, fzLK g l h lg e k = some r →
    e = some r ∨ ∃ xs us lg', (∀ N, M + l.length + 1 ≤ N → (frzL N l).runLog h lg = some ((xs, us), lg')) ∧ (∀ p ∈ us, ∃ s, p.1 = Ref.own s) ∧ k xs us lg' = some r
  | [], h, lg, e, k, r, hh => .inr ⟨[], [], lg, fun N hN => (by cases N with | zero => simp at hN | succ N => rfl), fun p hp => (by cases hp), hh⟩
  | v :: l, h, lg, e, k, r, hh => by
    have hh : (g v h lg e fun y u lg => fzLK g l h lg e fun ys us lg => apK u us fun w => k (y :: ys) w lg) = some r := hh
    rcases hg _ _ _ _ _ _ hh with h1 | ⟨x, u, lg1, h1, hu, hh⟩
    · exact .inl h1
    · rcases fzLK_ok hg l _ _ _ _ _ hh with h2 | ⟨xs, us, lg2, h2, hus, hh⟩
      · exact .inl h2
      · rw [apK_eq] at hh
        refine .inr ⟨x :: xs, u ++ us, lg2, fun N hN => ?_, fun p hp => ?_, hh⟩
        · cases N with
          | zero => simp at hN
          | succ N =>
            simp only [List.length_cons] at hN
            simp only [frzL, runLog_bind, h1 N (by omega), Option.bind_some, h2 N (by omega)]
            rfl
        · rcases List.mem_append.1 hp with hp | hp
          · exact hu p hp
          · exact hus p hp
theorem fzU_ok : ∀ d, FzOk (β := β) (310 * d) (fzU d)
  | 0 => fun v h lg e k r hh => .inl hh
  | d + 1 => by
    intro v h lg e k r hh
    have ihd : FzOk (β := β) (310 * d) (fzU d) := fzU_ok d
    have one : ∀ {w : FV}, (∀ N, frz (N + 1) v = .ret (w, [])) → k w [] lg = some r → e = some r ∨ ∃ x u lg', (∀ N, 310 * (d + 1) ≤ N → (frz N v).runLog h lg = some ((x, u), lg')) ∧ (∀ p ∈ u, ∃ s, p.1 = Ref.own s) ∧ k x u lg' = some r := by
      intro w hw hk
      refine .inr ⟨w, [], lg, fun N hN => ?_, fun p hp => (by cases hp), hk⟩
      cases N with
      | zero => omega
      | succ N => rw [hw]; rfl
    have own : ∀ {q : Ref} {e : Option β} {k : Nat → Option β}, ownR q e k = some r → e = some r ∨ ∃ s, q = .own s ∧ k s = some r := by
      intro q e k h
      cases q with
      | own s => exact .inr ⟨s, rfl, h⟩
      | ext j => exact .inl h
    have cnd2 : ∀ {c : Bool} {a e : Option β}, cond c a e = some r → e = some r ∨ (c = true ∧ a = some r) := by
      intro c a e h
      cases c with
      | true => exact .inr ⟨rfl, h⟩
      | false => exact .inl h
    cases v with
    | fv w => exact one (fun _ => rfl) hh
    | nils => exact one (fun _ => rfl) hh
    | emp => exact one (fun _ => rfl) hh
    | clip es => exact one (fun _ => rfl) hh
    | app q es => exact one (fun _ => rfl) hh
    | dead => exact .inl hh
    | tuple vs => exact .inl hh
    | mapr q => exact .inl hh
    | ptr q off =>
      have hh : (ownR q e fun s => getK (.own s) h fun b => asRow b fun cells => cond (Nat.ble cells.length 300) (fzLK (fzU d) cells h (.own s :: lg) e fun cs u lg => k (.fp cs off) ((.own s, .row cells true) :: u) lg) e) = some r := hh
      rcases own hh with h1 | ⟨s, rfl, g'⟩
      · exact .inl h1
      · replace hh := g'; clear g'
        rw [getK_eq] at hh
        obtain ⟨b, hb, hh⟩ := bind_ok hh
        obtain ⟨cells, ro, hbb, hh⟩ := asRow_ok hh
        rcases cnd2 hh with h1 | ⟨hl, hh⟩
        · exact .inl h1
        · have hl := ble_true hl
          rcases fzLK_ok ihd cells _ _ _ _ _ hh with h1 | ⟨xs, us, lg2, h2, hus, hh⟩
          · exact .inl h1
          · refine .inr ⟨_, _, _, fun N hN => ?_, fun p hp => ?_, hh⟩
            · cases N with
              | zero => omega
              | succ N =>
                simp only [frz, Rd.runLog, hb, hbb, runLog_bind, h2 N (by omega), Option.bind_some]
            · rcases List.mem_cons.1 hp with rfl | hp
              · exact ⟨s, rfl⟩
              · exact hus p hp
    | slc q sz len =>
      have hh : (ownR q e fun s => getK (.own s) h fun b => asRow b fun cells => cond (Nat.ble cells.length 300) (cond (or (Nat.beq sz 0) (not (Nat.ble (len * sz) cells.length))) none
        (fzLK (fzU d) cells h (.own s :: lg) e fun cs u lg => chK sz len cs fun els => k (.sl els) ((.own s, .row cells true) :: u) lg)) e) = some r := hh
      rcases own hh with h1 | ⟨s, rfl, g'⟩
      · exact .inl h1
      · replace hh := g'; clear g'
        rw [getK_eq] at hh
        obtain ⟨b, hb, hh⟩ := bind_ok hh
        obtain ⟨cells, ro, hbb, hh⟩ := asRow_ok hh
        rcases cnd2 hh with h1 | ⟨hl, hh⟩
        · exact .inl h1
        · have hl := ble_true hl
          cases hc : (or (Nat.beq sz 0) (not (Nat.ble (len * sz) cells.length))) with
          | true => rw [hc] at hh; cases hh
          | false =>
            rw [hc] at hh
            simp only [cond] at hh
            have hc : (Nat.beq sz 0 || !Nat.ble (len * sz) cells.length) = false := hc
            simp only [Bool.or_eq_false_iff, Bool.not_eq_false'] at hc
            have c1 : sz ≠ 0 := fun e => by rw [e] at hc; exact absurd hc.1 (by decide)
            have c2 := ble_true hc.2
            rcases fzLK_ok ihd cells _ _ _ _ _ hh with h1 | ⟨xs, us, lg2, h2, hus, hh⟩
            · exact .inl h1
            · have hh := chK_ok sz len _ hh
              refine .inr ⟨_, _, _, fun N hN => ?_, fun p hp => ?_, hh⟩
              · cases N with
                | zero => omega
                | succ N =>
                  simp only [frz, Rd.runLog, hb, hbb]
                  rw [if_neg (by omega)]
                  simp only [runLog_bind, h2 N (by omega), Option.bind_some, Rd.runLog]
              · rcases List.mem_cons.1 hp with rfl | hp
                · exact ⟨s, rfl⟩
                · exact hus p hp
    | agg cs =>
      have hh : cond (Nat.ble cs.length 300) (fzLK (fzU d) cs h lg e fun cs u lg => k (.agg cs) u lg) e = some r := hh
      rcases cnd2 hh with h1 | ⟨hl, hh⟩
      · exact .inl h1
      · have hl := ble_true hl
        rcases fzLK_ok ihd cs _ _ _ _ _ hh with h1 | ⟨xs, us, lg2, h2, hus, hh⟩
        · exact .inl h1
        · refine .inr ⟨_, _, _, fun N hN => ?_, hus, hh⟩
          cases N with
          | zero => omega
          | succ N => simp only [frz, runLog_bind, h2 N (by omega), Option.bind_some, Rd.runLog]
    | func fn a b =>
      have hh : cond (and (Nat.ble a.length 300) (Nat.ble b.length 300)) (fzLK (fzU d) a h lg e fun x u lg => fzLK (fzU d) b h lg e fun y v lg => apK u v fun w => k (.func fn x y) w lg) e = some r := hh
      rcases cnd2 hh with h1 | ⟨hl, hh⟩
      · exact .inl h1
      · have hl : (Nat.ble a.length 300 && Nat.ble b.length 300) = true := hl
        simp only [Bool.and_eq_true] at hl
        have l1 := ble_true hl.1
        have l2 := ble_true hl.2
        rcases fzLK_ok ihd a _ _ _ _ _ hh with h1 | ⟨xs, us, lg2, h2, hus, hh⟩
        · exact .inl h1
        · rcases fzLK_ok ihd b _ _ _ _ _ hh with h1 | ⟨ys, vs, lg3, h3, hvs, hh⟩
          · exact .inl h1
          · rw [apK_eq] at hh
            refine .inr ⟨_, _, _, fun N hN => ?_, fun p hp => ?_, hh⟩
            · cases N with
              | zero => omega
              | succ N => simp only [frz, runLog_bind, h2 N (by omega), h3 N (by omega), Option.bind_some, Rd.runLog]
            · rcases List.mem_append.1 hp with hp | hp
              · exact hus p hp
              · exact hvs p hp

/-- Values that name no blocks but such. -/
def Within (m : Nat) (l : List Ref) : Prop := ∀ r ∈ l, ∃ j, r = .ext j ∧ j < m
theorem fzA_ok : ∀ (args : List IV) (keep : List Bool) h lg e k r, fzA (β := β) args keep h lg e k = some r →
    e = some r ∨ ∃ vs rs us lg', (frzArgs keep args).runLog h lg = some ((vs, rs, us), lg') ∧ (∀ p ∈ us, ∃ s, p.1 = Ref.own s) ∧ (IV.refs.refsL vs = rs) ∧ k vs rs us lg' = some r
  | [], keep, h, lg, e, k, r, hh => .inr ⟨[], [], [], lg, by cases keep <;> rfl, fun p hp => (by cases hp), rfl, hh⟩
  | x :: l, keep, h, lg, e, k, r, hh => by
    have fz : ∀ ks, (fzU 12 x h lg e fun y u lg => fzA l ks h lg e fun vs rs us lg => apK u us fun w => k (.fv y :: vs) rs w lg) = some r →
        e = some r ∨ ∃ vs rs us lg', ((frz 4096 x).bind fun (x, u) => (frzArgs ks l).bind fun (vs, rs, u') => Rd.ret (IV.fv x :: vs, rs, u ++ u')).runLog h lg = some ((vs, rs, us), lg') ∧ (∀ p ∈ us, ∃ s, p.1 = Ref.own s) ∧ (IV.refs.refsL vs = rs) ∧ k vs rs us lg' = some r := by
      intro ks hh
      rcases fzU_ok 12 _ _ _ _ _ _ hh with h1 | ⟨y, u, lg1, h1, hu, hh⟩
      · exact .inl h1
      · rcases fzA_ok l ks _ _ _ _ _ hh with h2 | ⟨vs, rs, us, lg2, h2, hus, hrs, hh⟩
        · exact .inl h2
        · rw [apK_eq] at hh
          refine .inr ⟨_, _, _, _, ?_, fun p hp => ?_, ?_, hh⟩
          · simp only [runLog_bind, h1 4096 (by decide), Option.bind_some, h2, Rd.runLog]
          · rcases List.mem_append.1 hp with hp | hp
            · exact hu p hp
            · exact hus p hp
          · simp only [IV.refs.refsL, IV.refs, List.nil_append, hrs]
    cases keep with
    | nil => exact fz [] hh
    | cons b ks =>
      cases b with
      | false => exact fz ks hh
      | true =>
        have hh : (asPtr x (fun q o => fzA l ks h lg e fun vs rs us lg => k (.ptr q o :: vs) (q :: rs) us lg) fun _ _ => e) = some r := hh
        rcases asPtr_ok hh with ⟨q, o, hx, hh⟩ | ⟨cs, o, _, hh⟩
        · rcases fzA_ok l ks _ _ _ _ _ hh with h2 | ⟨vs, rs, us, lg2, h2, hus, hrs, hh⟩
          · exact .inl h2
          · refine .inr ⟨_, _, _, _, ?_, hus, ?_, hh⟩
            · simp only [frzArgs, runLog_bind, h2, Option.bind_some, Rd.runLog, hx, IV.refs]; rfl
            · simp only [IV.refs.refsL, IV.refs, hrs]; rfl
        · exact .inl hh
mutual
theorem refsD_eq : ∀ (v : IV) (acc : List Ref), refsD v acc = v.refs ++ acc
  | .dead, _ => rfl
  | .fv _, _ => rfl
  | .ptr _ _, _ => rfl
  | .slc _ _ _, _ => rfl
  | .nils, _ => rfl
  | .emp, _ => rfl
  | .clip _, _ => rfl
  | .app _ _, _ => rfl
  | .mapr _, _ => rfl
  | .func _ a b, acc => by
    show refsDL a (refsDL b acc) = (IV.refs.refsL a ++ IV.refs.refsL b) ++ acc
    rw [refsDL_eq, refsDL_eq, List.append_assoc]
  | .agg cs, acc => refsDL_eq cs acc
  | .tuple cs, acc => refsDL_eq cs acc
theorem refsDL_eq : ∀ (l : List IV) (acc : List Ref), refsDL l acc = IV.refs.refsL l ++ acc
  | [], _ => rfl
  | v :: l, acc => by
    show refsD v (refsDL l acc) = (v.refs ++ IV.refs.refsL l) ++ acc
    rw [refsD_eq, refsDL_eq, List.append_assoc]
end
theorem refsB_eq (b : Blk) : refsB b = b.refs := by
  cases b with
  | row cells ro =>
    show refsDL cells [] = _
    rw [refsDL_eq, List.append_nil]; rfl
  | tok _ _ => rfl
  | map es =>
    show _ = IV.refs.refsL (es.map (·.2))
    induction es with
    | nil => rfl
    | cons p es ih =>
      obtain ⟨n, v⟩ := p
      show refsD v (refsB (.map es)) = v.refs ++ _
      rw [refsD_eq]
      congr 1
mutual
theorem ren_id {g : Ref → Option Ref} : ∀ (v : IV), (∀ r ∈ v.refs, g r = some r) → v.ren g = some v
  | .dead, _ => rfl
  | .fv _, _ => rfl
  | .nils, _ => rfl
  | .emp, _ => rfl
  | .clip _, _ => rfl
  | .ptr r o, h => by simp only [IV.ren, h r (by simp [IV.refs]), Option.map_some]
  | .slc r sz n, h => by simp only [IV.ren, h r (by simp [IV.refs]), Option.map_some]
  | .app r es, h => by simp only [IV.ren, h r (by simp [IV.refs]), Option.map_some]
  | .mapr r, h => by simp only [IV.ren, h r (by simp [IV.refs]), Option.map_some]
  | .func fn a b, h => by
    have h1 := renL_id (g := g) a (fun r hr => h r (by simp only [IV.refs, List.mem_append]; exact .inl hr))
    have h2 := renL_id (g := g) b (fun r hr => h r (by simp only [IV.refs, List.mem_append]; exact .inr hr))
    simp only [IV.ren, h1, h2, Option.bind_some, Option.map_some]
  | .agg cs, h => by
    have h1 := renL_id (g := g) cs h
    simp only [IV.ren, h1, Option.map_some]
  | .tuple cs, h => by
    have h1 := renL_id (g := g) cs h
    simp only [IV.ren, h1, Option.map_some]
theorem renL_id {g : Ref → Option Ref} : ∀ (l : List IV), (∀ r ∈ IV.refs.refsL l, g r = some r) → IV.ren.renL g l = some l
  | [], _ => rfl
  | v :: l, h => by
    have h1 := ren_id (g := g) v (fun r hr => h r (by simp only [IV.refs.refsL, List.mem_append]; exact .inl hr))
    have h2 := renL_id (g := g) l (fun r hr => h r (by simp only [IV.refs.refsL, List.mem_append]; exact .inr hr))
    simp only [IV.ren.renL, h1, h2, Option.bind_some, Option.map_some]
end
theorem zip_id {α γ : Type} : ∀ (l : List (α × γ)), (l.map (·.1)).zip (l.map (·.2)) = l
  | [] => rfl
  | p :: l => by simp only [List.map_cons, List.zip_cons_cons, zip_id l]
theorem blk_id {g : Ref → Option Ref} (b : Blk) (h : ∀ r ∈ b.refs, g r = some r) : b.ren g = some b := by
  cases b with
  | row cells ro => simp only [Blk.ren, renL_id cells h, Option.map_some]
  | tok _ _ => rfl
  | map es =>
    have e := renL_id (g := g) (es.map (fun p : Int × IV => p.2)) h
    simp only [Blk.ren, e, Option.map_some, zip_id]
theorem blks_id {g : Ref → Option Ref} : ∀ (l : List Blk), (∀ b ∈ l, ∀ r ∈ b.refs, g r = some r) → renBlks g l = some l
  | [], _ => rfl
  | b :: l, h => by
    simp only [renBlks, blk_id b (h b List.mem_cons_self), Option.bind_some, blks_id l (fun c hc => h c (List.mem_cons_of_mem _ hc)), Option.map_some]
/-- Blocks from a number on, by name. -/
def named : Nat → List Blk → List (Ref × Blk)
  | _, [] => []
  | s, b :: l => (.ext s, b) :: named (s + 1) l
theorem named_app : ∀ (s : Nat) (l : List Blk) (b : Blk), named s (l ++ [b]) = named s l ++ [(.ext (s + l.length), b)]
  | s, [], b => rfl
  | s, c :: l, b => by
    simp only [List.cons_append, named, named_app (s + 1) l b, List.length_cons]
    rw [show s + 1 + l.length = s + (l.length + 1) by omega]
theorem named_snd : ∀ (s : Nat) (l : List Blk), (named s l).map (·.2) = l
  | _, [] => rfl
  | s, b :: l => by simp only [named, List.map_cons, named_snd (s + 1) l]
theorem named_len : ∀ (s : Nat) (l : List Blk), (named s l).length = l.length
  | _, [] => rfl
  | s, b :: l => by simp only [named, List.length_cons, named_len (s + 1) l]
theorem has_named : ∀ (s j : Nat) (l : List Blk), s ≤ j → hasRef (.ext j) (named s l) = decide (j < s + l.length)
  | s, j, [], h => by simp only [named, hasRef, List.length_nil]; rw [decide_eq_false (by omega)]
  | s, j, b :: l, h => by
    simp only [named, hasRef, List.length_cons]
    by_cases e : j = s
    · subst e; simp
    · rw [has_named (s + 1) j l (by omega), decide_eq_false (by simp [e]), Bool.false_or]
      congr 1
      exact propext ⟨fun h => by omega, fun h => by omega⟩
theorem own_named : ∀ (s k : Nat) (l : List Blk), hasRef (.own k) (named s l) = false
  | _, _, [] => rfl
  | s, k, b :: l => by simp only [named, hasRef, own_named (s + 1) k l, Bool.or_false]; exact decide_eq_false (by simp)
theorem place_named : ∀ (s j i : Nat) (l : List Blk), s ≤ j → j < s + l.length → placeOf (.ext j) (named s l) i = some (i + (j - s))
  | s, j, i, [], h1, h2 => by simp at h2; omega
  | s, j, i, b :: l, h1, h2 => by
    simp only [List.length_cons] at h2
    simp only [named, placeOf]
    by_cases e : j = s
    · subst e; simp
    · rw [if_neg (by simp [e]), place_named (s + 1) j (i + 1) l (by omega) (by omega)]
      congr 1
      omega
theorem named_get : ∀ (s j : Nat) (l : List Blk), j < l.length → ((named s l)[j]?).map (·.1) = some (.ext (s + j))
  | s, j, [], h => by simp at h
  | s, 0, b :: l, h => rfl
  | s, j + 1, b :: l, h => by
    simp only [List.length_cons] at h
    simp only [named, List.getElem?_cons_succ]
    rw [named_get (s + 1) j l (by omega)]
    congr 2
    omega
theorem named_keys (s : Nat) : ∀ (l : List Blk), keys (named s l) = (List.range' s l.length).map .ext := by
  intro l
  induction l generalizing s with
  | nil => rfl
  | cons b l ih => simp only [named, keys, List.map_cons, List.length_cons, List.range'_succ]; exact congrArg _ (ih (s + 1))
theorem goB_ok {own : List (Nat × Blk)} {ext : List Blk} : ∀ (n : Nat) (todo : List Ref) (s : Nat) (rest : List Blk), s ≤ ext.length → ext.drop s = rest → goB n todo s rest = true →
    (∀ N, n ≤ N → ∀ lg, (gather N todo (named 0 (ext.take s))).runLog ⟨own, ext⟩ lg = some (named 0 ext, ((List.range' s (ext.length - s)).map Ref.ext).reverse ++ lg)) ∧
    Within ext.length todo ∧ (∀ b ∈ rest, Within ext.length b.refs) := by
  intro n
  induction n with
  | zero => intro todo s rest _ _ h; cases h
  | succ n ih =>
    intro todo s rest hs hd h
    cases todo with
    | nil =>
      cases rest with
      | cons _ _ => cases h
      | nil =>
        have he : s = ext.length := by
          have := congrArg List.length hd
          simp at this
          omega
        refine ⟨fun N hN lg => ?_, fun r hr => (by cases hr), fun b hb => (by cases hb)⟩
        cases N with
        | zero => omega
        | succ N =>
          subst he
          simp only [gather, Rd.runLog, List.take_length, Nat.sub_self, List.range'_zero, List.map_nil, List.reverse_nil, List.nil_append]
    | cons r t =>
      cases r with
      | own k => cases h
      | ext j =>
        have h : cond (Nat.ble (Nat.succ j) s) (goB n t s rest) (cond (Nat.beq j s) (goR (goB n) t s rest) false) = true := h
        have hl : (ext.take s).length = s := by simp; omega
        cases hj : Nat.ble (Nat.succ j) s with
        | true =>
          rw [hj] at h
          have hj := ble_true hj
          obtain ⟨h1, h2, h3⟩ := ih t s rest hs hd h
          refine ⟨fun N hN lg => ?_, fun r hr => ?_, h3⟩
          · cases N with
            | zero => omega
            | succ N =>
              simp only [gather]
              rw [has_named 0 j _ (Nat.zero_le _), hl, decide_eq_true (by omega), if_pos rfl]
              exact h1 N (by omega) lg
          · rcases List.mem_cons.1 hr with rfl | hr
            · exact ⟨j, rfl, by omega⟩
            · exact h2 r hr
        | false =>
          rw [hj] at h
          simp only [cond] at h
          have hj' : ¬ j < s := fun e => by rw [Nat.ble_eq_true_of_le (Nat.succ_le_of_lt e)] at hj; cases hj
          cases hb : Nat.beq j s with
          | false => rw [hb] at h; cases h
          | true =>
            rw [hb] at h
            have hb := beq_true hb
            subst hb
            simp only at h
            cases rest with
            | nil => cases h
            | cons b rest =>
              have h : goB n (t ++ refsB b) (Nat.succ j) rest = true := h
              have hjl : j < ext.length := by
                have := congrArg List.length hd
                simp at this
                omega
              have hgb : ext[j]? = some b := by
                rw [← List.head?_drop, hd]; rfl
              have hd' : ext.drop (j + 1) = rest := by rw [← List.tail_drop, hd]; rfl
              obtain ⟨h1, h2, h3⟩ := ih (t ++ refsB b) (j + 1) rest (by omega) hd' h
              rw [refsB_eq] at h1 h2
              refine ⟨fun N hN lg => ?_, fun r hr => ?_, fun c hc => ?_⟩
              · cases N with
                | zero => omega
                | succ N =>
                  simp only [gather]
                  rw [has_named 0 j _ (Nat.zero_le _), hl, decide_eq_false (by omega)]
                  simp only [Bool.false_eq_true, if_false, Rd.runLog, Hp.get, hgb]
                  have ht : named 0 (ext.take j) ++ [(.ext j, b)] = named 0 (ext.take (j + 1)) := by
                    have : ext.take (j + 1) = ext.take j ++ [b] := by
                      rw [List.take_add_one, hgb]; rfl
                    rw [this, named_app, hl, Nat.zero_add]
                  rw [ht, h1 N (by omega) (.ext j :: lg)]
                  rw [show ext.length - j = (ext.length - (j + 1)) + 1 by omega, List.range'_succ]
                  simp
              · rcases List.mem_cons.1 hr with rfl | hr
                · exact ⟨j, rfl, hjl⟩
                · exact h2 r (List.mem_append_left _ hr)
              · rcases List.mem_cons.1 hc with rfl | hc
                · exact fun r hr => h2 r (List.mem_append_right _ hr)
                · exact h3 c hc
theorem okR_ok {m : Nat} : ∀ (l : List Ref), okR m l = true → Within m l
  | [], _ => fun r hr => by cases hr
  | .own k :: l, h => by cases h
  | .ext j :: l, h => by
    have h : cond (Nat.ble (Nat.succ j) m) (okR m l) false = true := h
    cases hj : Nat.ble (Nat.succ j) m with
    | false => rw [hj] at h; cases h
    | true =>
      rw [hj] at h
      have hj := ble_true hj
      intro r hr
      rcases List.mem_cons.1 hr with rfl | hr
      · exact ⟨j, rfl, by omega⟩
      · exact okR_ok l h r hr
theorem okB_ok {m : Nat} : ∀ (l : List Blk), okB m l = true → ∀ b ∈ l, Within m b.refs
  | [], _ => fun b hb => by cases hb
  | b :: l, h => by
    have h : cond (okR m (refsB b)) (okB m l) false = true := h
    cases hb : okR m (refsB b) with
    | false => rw [hb] at h; cases h
    | true =>
      rw [hb] at h
      rw [refsB_eq] at hb
      intro c hc
      rcases List.mem_cons.1 hc with rfl | hc
      · exact okR_ok _ hb
      · exact okB_ok l h c hc
theorem layU_ok : ∀ (u : List (Ref × Blk)) (own : List (Nat × Blk)) (ext ext' : List Blk) {k : Hp → Option β} {r : β}, layU u ⟨own, ext'⟩ k = some r →
    ∃ own2, laid ⟨own, ext⟩ u = some ⟨own2, ext⟩ ∧ laid ⟨own, ext'⟩ u = some ⟨own2, ext'⟩ ∧ k ⟨own2, ext'⟩ = some r
  | [], own, ext, ext', k, r, h => ⟨own, rfl, rfl, h⟩
  | (q, b) :: u, own, ext, ext', k, r, h => by
    have h : (ownR q none fun s => getK (.own s) ⟨own, ext'⟩ fun _ => layK (.own s) b ⟨own, ext'⟩ fun h => layU u h k) = some r := h
    cases q with
    | ext j => cases h
    | own s =>
      have h : (getK (.own s) ⟨own, ext'⟩ fun _ => layK (.own s) b ⟨own, ext'⟩ fun h => layU u h k) = some r := h
      rw [getK_eq] at h
      obtain ⟨c, hc, h⟩ := bind_ok h
      rw [layK_eq] at h
      obtain ⟨own2, h1, h2, h3⟩ := layU_ok u (putOwn s b own) ext ext' h
      refine ⟨own2, ?_, ?_, h3⟩
      · simp only [laid]
        rw [show (Hp.mk own ext).get (.own s) = some c from hc]
        exact h1
      · simp only [laid]
        rw [hc]
        exact h2
theorem laid_named : ∀ (ext' pre ext : List Blk) (own : List (Nat × Blk)), ext.length = ext'.length → laid ⟨own, pre ++ ext⟩ (((List.range' pre.length ext'.length).map Ref.ext).zip ext') = some ⟨own, pre ++ ext'⟩
  | [], pre, ext, own, h => by
    cases ext with
    | nil => rfl
    | cons _ _ => cases h
  | b :: ext', pre, ext, own, h => by
    cases ext with
    | nil => cases h
    | cons c ext =>
      simp only [List.length_cons, Nat.add_right_cancel_iff] at h
      simp only [List.length_cons, List.range'_succ, List.map_cons, List.zip_cons_cons, laid, Hp.get]
      rw [List.getElem?_append_right (Nat.le_refl _), Nat.sub_self]
      simp only [List.getElem?_cons_zero, Hp.set]
      have e : (pre ++ c :: ext).set pre.length b = (pre ++ [b]) ++ ext := by
        rw [List.set_append_right _ _ (Nat.le_refl _), Nat.sub_self]
        simp
      rw [e]
      have := laid_named ext' (pre ++ [b]) ext own h
      simp only [List.length_append, List.length_singleton] at this
      rw [this]
      simp
theorem laid_app : ∀ (a b : List (Ref × Blk)) (h : Hp), laid h (a ++ b) = (laid h a).bind fun h => laid h b
  | [], _, _ => rfl
  | (q, c) :: a, b, h => by
    simp only [List.cons_append, laid]
    cases h.get q with
    | none => rfl
    | some _ => exact laid_app a b _
theorem isoS_ok (hi : ∀ f args h x, ih' f args h = some x → ih f args h = some x) {g : FuncId} {args : List IV} (h : isoS (E.pol.keep g) (E.pol.split g) (E.pol.raw g) ih' g args hp k = some r) : Iso E ih g args hp k r := by
  unfold isoS at h
  cases hc : (cond (E.pol.split g) true (E.pol.raw g)) with
  | true => rw [hc] at h; exact isoD_ok hi h
  | false =>
    rw [hc] at h
    simp only [cond] at h
    have hs : E.pol.split g = false := by cases e : E.pol.split g with | false => rfl | true => rw [e] at hc; cases hc
    rw [hs] at hc
    have hr : E.pol.raw g = false := hc
    rcases fzA_ok _ _ _ _ _ _ _ h with h1 | ⟨vs, rs, us, lg, hz, hus, hrs, h⟩
    · exact isoD_ok hi h1
    · cases rs with
      | nil =>
        simp only at h
        cases he : ih' g vs ⟨[], []⟩ with
        | none => rw [he] at h; cases h
        | some p =>
          obtain ⟨v, ⟨own, ext⟩⟩ := p
          rw [he] at h
          cases ext with
          | cons b ext => exact absurd (show (none : Option β) = some r from h) (by simp)
          | nil =>
            have h : (fzU 12 v ⟨own, []⟩ [] (isoD (E.pol.keep g) (E.pol.split g) (E.pol.raw g) ih' g args hp k) fun w _ _ => layU us hp fun h2 => k (.fv w) h2 lg (keys us)) = some r := h
            rcases fzU_ok 12 _ _ _ _ _ _ h with h1 | ⟨w, u2, lg2, h2, _, h⟩
            · exact isoD_ok hi h1
            · obtain ⟨own0, ext0⟩ := hp
              obtain ⟨own2, l1, l2, h⟩ := layU_ok us own0 ext0 ext0 h
              refine ⟨{ val := .fv w, upd := us }, lg, ⟨own2, ext0⟩, ?_, l1, h⟩
              have hw := runLog_run _ _ _ _ _ (h2 4096 (by decide))
              have hren : ∀ q, IV.ren.renL q vs = some vs := fun q => renL_id vs (fun r hr => by rw [hrs] at hr; cases hr)
              simp only [isoCall, runLog_bind, hz, Option.bind_some, gather, Rd.runLog, hren, List.map_nil, renBlks, asked, hs, Bool.false_eq_true, if_false, hi _ _ _ _ he, handBack, hr, hw, Option.map_some, IV.ren, Rd.of]
              have hk : (keys us).all (fun r => !hasRef r []) = true := List.all_eq_true.2 fun r _ => rfl
              rw [if_pos ⟨rfl, hk⟩]
              simp only [Rd.runLog, keys, List.map_nil, List.zip_nil_left, List.append_nil]
      | cons q rs =>
        obtain ⟨own0, ext0⟩ := hp
        simp only at h
        cases hg : goB 400 (q :: rs) 0 ext0 with
        | false => rw [hg] at h; exact isoD_ok hi h
        | true =>
          rw [hg] at h
          simp only at h
          obtain ⟨g1, g2, g3⟩ := goB_ok (own := own0) 400 (q :: rs) 0 ext0 (Nat.zero_le _) rfl hg
          cases he : ih' g vs ⟨[], ext0⟩ with
          | none => rw [he] at h; cases h
          | some p =>
            obtain ⟨v, ⟨own, ext⟩⟩ := p
            rw [he] at h
            simp only at h
            obtain ⟨ho, h⟩ := cond_ok h
            have ho : (Nat.beq ext.length ext0.length && okB ext0.length ext) = true := ho
            simp only [Bool.and_eq_true] at ho
            have hlen := beq_true ho.1
            have hok := okB_ok _ ho.2
            rcases fzU_ok 12 _ _ _ _ _ _ h with h1 | ⟨w, u2, lg2, h2, _, h⟩
            · exact isoD_ok hi h1
            · obtain ⟨own2, l1, l2, h⟩ := layU_ok us own0 ext0 ext h
              have hw := runLog_run _ _ _ _ _ (h2 4096 (by decide))
              have hin : ∀ l, Within ext0.length l → ∀ r ∈ l, into (named 0 ext0) r = some r := by
                intro l hl r hr
                obtain ⟨j, rfl, hj⟩ := hl r hr
                simp only [into]
                rw [place_named 0 j 0 ext0 (Nat.zero_le _) (by omega)]
                simp
              have hbk : ∀ l, Within ext0.length l → ∀ r ∈ l, back (named 0 ext0) r = some r := by
                intro l hl r hr
                obtain ⟨j, rfl, hj⟩ := hl r hr
                simp only [back]
                rw [named_get 0 j ext0 hj, Nat.zero_add]
              have hv : IV.ren.renL (into (named 0 ext0)) vs = some vs := renL_id vs (fun r hr => hin _ g2 r (by rw [hrs] at hr; exact hr))
              have hb1 : renBlks (into (named 0 ext0)) ext0 = some ext0 := blks_id ext0 (fun b hb r hr => hin _ (g3 b hb) r hr)
              have hb2 : renBlks (back (named 0 ext0)) ext = some ext := blks_id ext (fun b hb r hr => hbk _ (hok b hb) r hr)
              have hkeys : keys (named 0 ext0) = extsUp ext0.length := by rw [named_keys, extsUp, List.range_eq_range']
              refine ⟨{ val := .fv w, upd := us ++ (keys (named 0 ext0)).zip ext }, (extsUp ext0.length).reverse ++ lg, ⟨own2, ext⟩, ?_, ?_, ?_⟩
              · have hga := g1 4096 (by decide) lg
                simp only [List.take_zero, named, Nat.sub_zero] at hga
                simp only [isoCall, runLog_bind, hz, Option.bind_some, hga, named_snd, hv, hb1, asked, hs, Bool.false_eq_true, if_false, hi _ _ _ _ he, handBack, hr, hw, Option.map_some, IV.ren, hb2]
                have hk : (keys us).all (fun r => !hasRef r (named 0 ext0)) = true := List.all_eq_true.2 fun r hr => by
                  obtain ⟨p, hp, rfl⟩ := List.mem_map.1 hr
                  obtain ⟨s, e⟩ := hus p hp
                  rw [e, own_named]; rfl
                rw [if_pos ⟨by rw [named_len, hlen], hk⟩]
                simp only [Rd.of, Rd.runLog, extsUp, List.range_eq_range']
              · simp only
                rw [laid_app, l1, Option.bind_some, hkeys, extsUp, List.range_eq_range', ← hlen]
                exact laid_named ext [] ext0 own2 hlen.symm
              · have hz2 : keys (us ++ (keys (named 0 ext0)).zip ext) = keys us ++ extsUp ext0.length := by
                  simp only [keys, List.map_append]
                  congr 1
                  rw [← hkeys]
                  exact List.map_fst_zip (by simp only [keys, List.length_map, named_len]; omega)
                simp only [hz2]
                exact h
def Done2 (E : Env) (ih : Handler) (f rid i : Nat) (dr : Bool) (slots : List IV) (op : Op) (hp : Hp) (k : IV → Hp → List Ref → List Ref → Option β) (r : β) : Prop :=
  (inlCall E slots op = none ∧ Done E ih f rid i (operand slots) op hp k r) ∨
  (dr = false ∧ quiet E op = false ∧ ∃ g args v hp', inlCall E slots op = some (g, args) ∧ ih g args hp = some (v, hp') ∧ k v hp' [] [] = some r)
theorem done_iso {g : Operand} {args : Array Operand} {ts : Array TypeId} {h' : FuncId} {first cap : List IV} {slots : List IV} (hc : callee (operand slots g) = some (h', first, cap)) (hin : E.pol.inl h' = false)
    (h : Iso E ih h' (first ++ args.toList.map (operand slots) ++ cap) hp k r) : Done2 E ih f rid i dr slots (.call ⟨.value g, args, ts⟩) hp k r := by
  obtain ⟨e, rd, hp', h1, h2, h3⟩ := h
  refine .inl ⟨?_, e.val, hp', rd, keys e.upd, ⟨{ eff := e }, ?_, ?_, rfl, ?_⟩, h3, fun q => by cases q⟩
  · simp only [inlCall, hc, hin, Bool.false_eq_true, if_false]
  · simp only [opG, hc, hin, Bool.false_eq_true, if_false, Rd.eff, runLog_bind, h1, Option.bind_some, Rd.runLog]
  · simp only [heapOf, h2, Option.bind_some, newOf]
  · simp only [newRefs, List.append_nil]
theorem s_call (hi : ∀ f args h x, ih' f args h = some x → ih f args h = some x) {slots : List IV} {c : Call} (h : opS E ih' f rid i dr (operand slots) (.call c) hp k = some r) : Done2 E ih f rid i dr slots (.call c) hp k r := by
  obtain ⟨cl, args, ts⟩ := c
  simp only [opS, cnd_eq] at h
  cases cl with
  | invoke _ _ => cases h
  | builtin b =>
    refine .inl ⟨rfl, ?_⟩
    simp only [callSS, cnd_eq] at h
    split at h
    · rename_i t x hts has
      split at h
      · rename_i e z ht
        unfold lenS at h
        have hop : opG E ih f rid i (operand slots) (.call ⟨.builtin .len, args, ts⟩) = builtinR E (site f rid i) (E.pol.rowApp f rid i) .len [t] [operand slots x] := by
          simp only [opG, hts, has]; rfl
        rcases asSlc_ok h with ⟨q, sz, n, hx, h⟩ | ⟨hx, h⟩
        · rw [intK_eq] at h
          exact done_val (by rw [hop]; simp only [builtinR, ht, hx]) h
        · rw [elsK_eq] at h
          obtain ⟨es, he, h⟩ := bind_ok h
          rw [intK_eq] at h
          refine done_val (v := .fv (.int .i64 es.length)) ?_ h
          rw [hop]
          simp only [builtinR, ht]
          cases hxx : operand slots x with
          | slc q sz n => exact absurd hxx (hx q sz n)
          | _ => rw [hxx] at he; simp only [he]; rfl
      · rename_i hn
        refine done_gen ?_ rfl h
        simp only [quiet, hts, has]
    · rename_i b0 b1 ts1 args1 hn
      refine done_gen ?_ rfl h
      cases b0 with
      | len =>
        simp only [quiet]
        split
        · rename_i hts has; exact absurd has (hn _ _ rfl hts)
        · rfl
      | _ => rfl
  | value g =>
    simp only [callSS, cnd_eq] at h
    split at h
    · rename_i g
      have hc : callee (operand slots (.func g)) = some (g, [], []) := rfl
      cases hin : E.pol.inl g with
      | true =>
        rw [hin] at h
        cases dr with
        | true => cases h
        | false =>
          simp only [cond, inlS] at h
          cases he : ih' g (args.toList.map (operand slots)) hp with
          | none => rw [he] at h; cases h
          | some p =>
            obtain ⟨v, hp'⟩ := p
            rw [he] at h
            refine .inr ⟨rfl, rfl, g, args.toList.map (operand slots), v, hp', ?_, hi _ _ _ _ he, h⟩
            simp only [inlCall, hc, hin, if_true, List.nil_append, List.append_nil]
      | false =>
        rw [hin] at h
        refine done_iso hc hin ?_
        simp only [List.nil_append, List.append_nil]
        exact isoS_ok hi h
    · unfold dynS at h
      split at h
      · cases h
      · rename_i h' first cap hc
        cases hin : E.pol.inl h' with
        | true => rw [hin] at h; cases h
        | false =>
          rw [hin] at h
          simp only [cond, spK_eq] at h
          exact done_iso hc hin (isoS_ok hi h)
/-- What an operation's function hands on is what the operation does. -/
theorem opS_ok (hi : ∀ f args h x, ih' f args h = some x → ih f args h = some x) {slots : List IV} {op : Op} (h : opS E ih' f rid i dr (operand slots) op hp k = some r) : Done2 E ih f rid i dr slots op hp k r := by
  cases op with
  | call c => exact s_call hi h
  | move x => exact .inl ⟨rfl, done_val rfl h⟩
  | assign x => exact .inl ⟨rfl, done_val rfl h⟩
  | pick c a b => exact .inl ⟨rfl, s_pick h⟩
  | alloc t =>
    refine .inl ⟨rfl, ?_⟩
    simp only [opS, cnd_eq] at h
    cases ht : E.T t with
    | none => rw [ht] at h; cases h
    | some ti => rw [ht] at h; exact done_new rfl (by simp only [opG, ht]) h
  | box t x => exact .inl ⟨rfl, s_box h⟩
  | build t ps => exact .inl ⟨rfl, s_build h⟩
  | load t a => exact .inl ⟨rfl, s_load h⟩
  | store t a x => exact .inl ⟨rfl, s_store h⟩
  | nilCheck x => exact .inl ⟨rfl, s_nil h⟩
  | binOp o t x y yt =>
    refine .inl ⟨rfl, ?_⟩
    simp only [opS, cnd_eq] at h
    obtain ⟨v, h1, h2⟩ := binOpS_ok h
    exact done_val (by simp only [opG, h1]; rfl) h2
  | unOp o t x =>
    refine .inl ⟨rfl, ?_⟩
    simp only [opS, optS_eq] at h
    exact done_valO rfl h
  | convert s d x => exact .inl ⟨rfl, s_convert h⟩
  | fieldAddr s x fd => exact .inl ⟨rfl, s_fieldAddr h⟩
  | field s x fd => exact .inl ⟨rfl, s_field h⟩
  | indexAddr t x ix => exact .inl ⟨rfl, s_indexAddr h⟩
  | index t x ix => exact .inl ⟨rfl, s_index h⟩
  | extract x ix => exact .inl ⟨rfl, s_extract h⟩
  | makeMap t n => cases n with
    | none => exact .inl ⟨rfl, done_gen rfl rfl h⟩
    | some _ => cases h
  | buildSlice t n ps => exact .inl ⟨rfl, done_gen rfl rfl h⟩
  | makeFunc fn a b => exact .inl ⟨rfl, done_gen rfl rfl h⟩
  | insert t m j x => exact .inl ⟨rfl, done_gen rfl rfl h⟩
  | mapUpdate t m j x => exact .inl ⟨rfl, done_gen rfl rfl h⟩
  | lookup t m j ok => exact .inl ⟨rfl, done_gen rfl rfl h⟩
  | makeSlice t l c => exact .inl ⟨rfl, done_gen rfl rfl h⟩
  | slice t x lo hi mx => exact .inl ⟨rfl, done_gen rfl rfl h⟩
  | _ => cases h
end
end Idl
end Go.Proofs.Ytbkdidonegggdaa

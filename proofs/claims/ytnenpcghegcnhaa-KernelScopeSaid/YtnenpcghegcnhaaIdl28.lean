/-
  A SHALLOW FORM OF THE IDEAL RUN: what an operation's function hands on is what the operation does (the rest; calls). No statement of the seat is proved here.
-/
import Derived.Test.YtnenpcghegcnhaaIdl27
set_option linter.unusedSimpArgs false
namespace Go.Proofs.Ytnenpcghegcnhaa
namespace Idl

section
variable {β : Type} {E : Env} {ih ih' : Handler} {f rid i : Nat} {dr : Bool} {ρ : Operand → IV} {hp : Hp} {k : IV → Hp → List Ref → List Ref → Option β} {r : β}

theorem take_some {size o : Nat} {cs : List IV} {k : IV → Option β} (h : (drpK cs o fun cs => takK cs size fun cs => aggK cs k) = some r) :
    takeVar true size o cs = some (mkAgg ((cs.drop o).take size)) ∧ k (mkAgg ((cs.drop o).take size)) = some r := by
  rw [drpK_eq] at h
  obtain ⟨h1, h⟩ := ite_ok h
  rw [takK_eq] at h
  obtain ⟨h2, h⟩ := ite_ok h
  rw [aggK_eq] at h
  refine ⟨?_, h⟩
  simp only [takeVar, if_true]
  rw [if_pos (by simp at h2; omega)]
theorem takeF_some {size o : Nat} {cs : List FV} {k : IV → Option β} (h : (drpK cs o fun cs => takK cs size fun cs => k (.fv (.agg cs))) = some r) :
    takeVarF true size o cs = some (.agg ((cs.drop o).take size)) ∧ k (.fv (.agg ((cs.drop o).take size))) = some r := by
  rw [drpK_eq] at h
  obtain ⟨h1, h⟩ := ite_ok h
  rw [takK_eq] at h
  obtain ⟨h2, h⟩ := ite_ok h
  refine ⟨?_, h⟩
  simp only [takeVarF, if_true]
  rw [if_pos (by simp at h2; omega)]

theorem s_field {s : TypeId} {x : Operand} {fd : Nat} (h : opS E ih' f rid i dr ρ (.field s x fd) hp k = some r) : Done E ih f rid i ρ (.field s x fd) hp k r := by
  simp only [opS, cnd_eq] at h
  cases hf : fieldR E s fd with
  | none => rw [hf] at h; cases h
  | some p =>
    obtain ⟨o, ti⟩ := p
    rw [hf] at h
    simp only at h
    cases hag : ti.kind.isAgg with
    | true =>
      rw [hag] at h
      simp only [cond, fldA] at h
      rcases asAgg_ok h with ⟨cs, hx, h⟩ | ⟨cs, hx, h⟩
      · obtain ⟨h1, h2⟩ := take_some (k := fun v => k v hp [] []) h
        exact done_val (by simp only [opG, hf, hx, hag, h1]; rfl) h2
      · obtain ⟨h1, h2⟩ := takeF_some (k := fun v => k v hp [] []) h
        exact done_val (by simp only [opG, hf, hx, hag, h1]; rfl) h2
    | false =>
      rw [hag] at h
      simp only [cond, fld1] at h
      rcases asAgg_ok h with ⟨cs, hx, h⟩ | ⟨cs, hx, h⟩
      · rw [nthK_eq] at h
        obtain ⟨v, hv, h⟩ := bind_ok h
        exact done_val (by simp only [opG, hf, hx, hag, takeVar, Bool.false_eq_true, if_false, hv]; rfl) h
      · rw [nthK_eq] at h
        obtain ⟨v, hv, h⟩ := bind_ok h
        exact done_val (by simp only [opG, hf, hx, hag, takeVarF, Bool.false_eq_true, if_false, hv]; rfl) h
theorem s_fieldAddr {s : TypeId} {x : Operand} {fd : Nat} (h : opS E ih' f rid i dr ρ (.fieldAddr s x fd) hp k = some r) : Done E ih f rid i ρ (.fieldAddr s x fd) hp k r := by
  simp only [opS, cnd_eq] at h
  cases hf : fieldR E s fd with
  | none => rw [hf] at h; cases h
  | some p =>
    obtain ⟨o, ti⟩ := p
    rw [hf] at h
    simp only [beq_ite] at h
    by_cases hs : ti.size = 0
    · rw [if_pos hs] at h; cases h
    · rw [if_neg hs] at h
      unfold faddrS at h
      rcases asPtr_ok h with ⟨q, off, hx, h⟩ | ⟨cs, off, hx, h⟩
      · rw [fNat_eq] at h
        exact done_val (by simp only [opG, hf, hx, if_neg hs]) h
      · rw [fNat_eq] at h
        exact done_val (by simp only [opG, hf, hx, if_neg hs]) h
theorem s_nil {x : Operand} (h : opS E ih' f rid i dr ρ (.nilCheck x) hp k = some r) : Done E ih f rid i ρ (.nilCheck x) hp k r := by
  simp only [opS, cnd_eq] at h
  unfold nilS at h
  split at h
  · rename_i hx; exact done_val (by simp only [opG, hx]) h
  · rename_i hx
    unfold nilF at h
    split at h
    · exact done_val (by simp only [opG, hx]) h
    · unfold funK at h
      split at h
      · exact done_val (by simp only [opG, hx]) h
      · cases h
    · cases h
  · rename_i hx
    unfold funK at h
    split at h
    · exact done_val (by simp only [opG, hx]) h
    · cases h
  · cases h
theorem s_extract {x : Operand} {ix : Nat} (h : opS E ih' f rid i dr ρ (.extract x ix) hp k = some r) : Done E ih f rid i ρ (.extract x ix) hp k r := by
  simp only [opS, cnd_eq] at h
  unfold extS at h
  split at h
  · rename_i hx
    rw [nthK_eq] at h
    obtain ⟨v, hv, h⟩ := bind_ok h
    exact done_val (by simp only [opG, hx, hv]; rfl) h
  · rename_i hx
    simp only [tupF] at h
    split at h
    · rw [nthK_eq] at h
      obtain ⟨v, hv, h⟩ := bind_ok h
      exact done_val (by simp only [opG, hx, hv]; rfl) h
    · cases h
  · cases h
theorem s_pick {c a b : Operand} (h : opS E ih' f rid i dr ρ (.pick c a b) hp k = some r) : Done E ih f rid i ρ (.pick c a b) hp k r := by
  simp only [opS, pickS] at h
  obtain ⟨t, hc, h⟩ := condS_ok h
  cases t with
  | true => exact done_val (by simp only [opG, hc]; rfl) h
  | false => exact done_val (by simp only [opG, hc]; rfl) h
theorem s_indexAddr {t : TypeId} {x ix : Operand} (h : opS E ih' f rid i dr ρ (.indexAddr t x ix) hp k = some r) : Done E ih f rid i ρ (.indexAddr t x ix) hp k r := by
  simp only [opS, cnd_eq] at h
  split at h
  · rename_i e z ht
    split at h
    · rename_i ei he
      unfold ixS at h
      obtain ⟨kd, n, hi, h⟩ := asIx_ok h
      rcases asSlc_ok h with ⟨q, sz, len, hx, h⟩ | ⟨hx, h⟩
      · obtain ⟨hc, h⟩ := cond_ok h
        have hc : (Nat.ble (Nat.succ n) len && Nat.beq sz ei.size) = true := hc
        simp only [Bool.and_eq_true] at hc
        have h1 := ble_true hc.1
        have h2 := beq_true hc.2
        rw [fNat_eq] at h
        refine done_val ?_ h
        simp only [opG, indexR, ht, he, hi, hx]
        rw [if_pos ⟨by omega, by omega, h2⟩]
        rfl
      · rw [elsK_eq] at h
        obtain ⟨es, he2, h⟩ := bind_ok h
        rw [nthK_eq] at h
        obtain ⟨el, hel, h⟩ := bind_ok h
        rw [elK_eq] at h
        obtain ⟨hl, h⟩ := ite_ok h
        refine done_val ?_ h
        simp only [opG, indexR, ht, he, hi]
        cases hxx : ρ x with
        | slc q sz len => exact absurd hxx (hx q sz len)
        | _ =>
          rw [hxx] at he2
          simp only [he2]
          rw [if_neg (by omega)]
          simp only [Int.toNat_natCast, hel]
          rw [if_pos hl]
    · cases h
  · rename_i m e z ht
    split at h
    · rename_i ei he
      unfold ixA at h
      obtain ⟨kd, n, hi, h⟩ := asIx_ok h
      obtain ⟨hc, h⟩ := cond_ok h
      have hc := ble_true hc
      have hlt : (0 : Int) ≤ (n : Int) ∧ (n : Int) < (m : Int) := ⟨by omega, by omega⟩
      rcases asPtr_ok h with ⟨q, o, hx, h⟩ | ⟨cs, o, hx, h⟩
      · rw [fNat_eq] at h
        refine done_val ?_ h
        simp only [opG, indexR, ht, he, hi, hx]
        rw [if_pos hlt]
        rfl
      · rw [fNat_eq] at h
        refine done_val ?_ h
        simp only [opG, indexR, ht, he, hi, hx]
        rw [if_pos hlt]
        rfl
    · cases h
  · cases h
theorem s_index {t : TypeId} {x ix : Operand} (h : opS E ih' f rid i dr ρ (.index t x ix) hp k = some r) : Done E ih f rid i ρ (.index t x ix) hp k r := by
  simp only [opS, cnd_eq] at h
  split at h
  · rename_i m e z ht
    split at h
    · rename_i ei he
      cases hag : ei.kind.isAgg with
      | true => rw [hag] at h; exact done_gen (by simp only [quiet, ht, he, hag]; rfl) rfl h
      | false =>
        rw [hag] at h
        simp only [cond, idx1] at h
        obtain ⟨kd, n, hi, h⟩ := asIx_ok h
        obtain ⟨hc, h⟩ := cond_ok h
        have hc := ble_true hc
        rcases asF_ok h with ⟨v, hx, h⟩ | h
        · simp only [asAggF] at h
          split at h
          · rw [nthK_eq] at h
            obtain ⟨w, hw, h⟩ := bind_ok h
            refine done_val ?_ h
            simp only [opG, ht, hi, hx, he]
            rw [if_pos ⟨by omega, by omega⟩]
            simp only [hag, takeVarF, Bool.false_eq_true, if_false, Int.toNat_natCast, hw]
            rfl
          · cases h
        · cases h
    · cases h
  · rename_i hn
    refine done_gen ?_ rfl h
    simp only [quiet]

theorem fillK_ok : ∀ (pl : List (Nat × Operand)) (place : Nat → Option (Nat × Nat)) (l : List (Nat × Nat × Operand)) (z : List IV) {k : List IV → Option β}, placed place pl = some l → fillK z (withV ρ l) k = some r →
    ∃ cells, fillIn place z (pl.map fun (j, x) => (j, ρ x)) = some cells ∧ k cells = some r
  | [], place, l, z, k, hp, h => by
    simp only [placed, Option.some.injEq] at hp
    subst hp
    exact ⟨z, rfl, h⟩
  | (j, x) :: pl, place, l, z, k, hp, h => by
    simp only [placed] at hp
    cases hj : place j with
    | none => rw [hj] at hp; cases hp
    | some os =>
      obtain ⟨o, s⟩ := os
      rw [hj] at hp
      simp only at hp
      cases hpl : placed place pl with
      | none => rw [hpl] at hp; cases hp
      | some l' =>
        rw [hpl] at hp
        simp only [Option.some.injEq] at hp
        subst hp
        have h : cond (ρ x).one (cond (Nat.beq s 1) (offK z o (ρ x) fun z => fillK z (withV ρ l') k) none)
          (if (ρ x).alive ∧ (ρ x).cells.length = s ∧ o + s ≤ z.length then spK (setCells z o (ρ x).cells) fun z => fillK z (withV ρ l') k else none) = some r := h
        simp only [List.map_cons, fillIn, hj]
        cases ho : (ρ x).one with
        | true =>
          rw [ho] at h
          simp only [cond] at h
          obtain ⟨hs, h⟩ := cond_ok h
          have hs := beq_true hs
          rw [offK_eq] at h
          obtain ⟨hlt, h⟩ := ite_ok h
          obtain ⟨c1, c2⟩ := one_cells ho
          rw [if_pos ⟨c2, by rw [c1, hs]; rfl, by omega⟩, c1, set_one]
          exact fillK_ok pl place l' _ hpl h
        | false =>
          rw [ho] at h
          simp only [cond] at h
          obtain ⟨hc, h⟩ := ite_ok h
          rw [spK_eq] at h
          rw [if_pos hc]
          exact fillK_ok pl place l' _ hpl h
theorem s_build {t : TypeId} {parts : Array (Nat × Operand)} (h : opS E ih' f rid i dr ρ (.build t parts) hp k = some r) : Done E ih f rid i ρ (.build t parts) hp k r := by
  simp only [opS, cnd_eq] at h
  split at h
  · rename_i fs z ht
    split at h
    · rename_i l hl
      unfold bldS at h
      obtain ⟨cells, h1, h2⟩ := fillK_ok _ _ _ _ hl h
      rw [aggK_eq] at h2
      refine done_val ?_ h2
      simp only [opG, ht, h1]
      rfl
    · cases h
  · rename_i hn
    refine done_gen ?_ rfl h
    simp only [quiet]
theorem s_box {t : TypeId} {x : Operand} (h : opS E ih' f rid i dr ρ (.box t x) hp k = some r) : Done E ih f rid i ρ (.box t x) hp k r := by
  simp only [opS, cnd_eq] at h
  have hg : E.pol.fzBox f rid i = true → opG E ih f rid i ρ (.box t x) = pcBox true (site f rid i) (ρ x) := fun e => by rw [pcBox_eq, e]
  cases hz : E.pol.fzBox f rid i with
  | true =>
    rw [hz] at h
    simp only [cond, fzS] at h
    rcases asF_ok h with ⟨v, hx, h⟩ | h
    · simp only [aggS] at h
      split at h
      · rename_i cs
        cases hc : Nat.ble cs.length 2000 with
        | false => rw [hc] at h; exact done_gen rfl (hg hz) h
        | true =>
          rw [hc] at h
          have hc := ble_true hc
          have key : ∀ (n : Nat) (cs : List FV), cs.length < n → frzL n (cs.map .fv) = .ret (cs, []) := by
            intro n
            induction n with
            | zero => intro cs h; omega
            | succ n ih =>
              intro cs h
              cases cs with
              | nil => rfl
              | cons c cs =>
                cases n with
                | zero => simp at h
                | succ n =>
                  simp only [List.map_cons, frzL, frz, Rd.bind]
                  rw [ih cs (by simp at h ⊢; omega)]
                  rfl
          refine ⟨_, hp, [], [], ⟨{ eff := { val := .fv (.fp cs 0), upd := [] } }, ?_, rfl, rfl, rfl⟩, h, fun q => by cases q⟩
          simp only [opG, hx, IV.alive, Bool.true_eq_false, if_false, hz, if_true, IV.cells, key 4096 cs (by omega)]
          rfl
      · exact done_gen rfl (hg hz) h
    · exact done_gen rfl (hg hz) h
  | false =>
    rw [hz] at h
    simp only [cond, boxS] at h
    have key : ∀ cs, (ρ x).cells = cs → (ρ x).alive = true → newS (site f rid i) (.row cs false) (.ptr (.own (site f rid i)) 0) hp k = some r → Done E ih f rid i ρ (.box t x) hp k r := by
      intro cs hcs ha h
      refine done_new rfl ?_ h
      simp only [opG, ha, Bool.true_eq_false, if_false, hz, Bool.false_eq_true, hcs]
    cases ho : (ρ x).one with
    | true =>
      rw [ho] at h
      obtain ⟨c1, c2⟩ := one_cells ho
      exact key _ c1 c2 h
    | false =>
      rw [ho] at h
      simp only at h
      obtain ⟨ha, h⟩ := cond_ok h
      rw [spK_eq] at h
      exact key _ rfl ha h
theorem s_convert {s d : TypeId} {x : Operand} (h : opS E ih' f rid i dr ρ (.convert s d x) hp k = some r) : Done E ih f rid i ρ (.convert s d x) hp k r := by
  simp only [opS, cnd_eq] at h
  split at h
  · rename_i hs hd
    obtain ⟨v, h1, h2⟩ := conv64_ok hs hd h
    exact done_val (by simp only [opG, h1]; rfl) h2
  · rw [optS_eq] at h
    exact done_valO rfl h

/-! ## Calls -/
def Iso (E : Env) (ih : Handler) (g : FuncId) (args : List IV) (hp : Hp) (k : IV → Hp → List Ref → List Ref → Option β) (r : β) : Prop :=
  ∃ e rd hp', (isoCall E ih g args).runLog hp [] = some (e, rd) ∧ laid hp e.upd = some hp' ∧ k e.val hp' rd (keys e.upd) = some r
theorem plainA_ok : ∀ (args : List IV) (keep : List Bool), plainA keep args = true → frzArgs keep args = .ret (args, [], []) ∧ (∀ g, IV.ren.renL g args = some args)
  | [], keep, _ => ⟨by cases keep <;> rfl, fun _ => rfl⟩
  | x :: l, keep, h => by
    have hx : ∀ {b : Bool}, cond (isFv x) b false = true → (∃ v, x = .fv v) ∧ b = true := by
      intro b h
      cases x <;> first | exact ⟨⟨_, rfl⟩, h⟩ | cases h
    cases keep with
    | nil =>
      have h : cond (isFv x) (plainA [] l) false = true := h
      obtain ⟨⟨v, rfl⟩, h⟩ := hx h
      obtain ⟨h1, h2⟩ := plainA_ok l [] h
      refine ⟨?_, fun g => ?_⟩
      · simp only [frzArgs, frz, Rd.bind, h1]; rfl
      · simp only [IV.ren.renL, IV.ren, Option.bind_some, h2 g]; rfl
    | cons b ks =>
      cases b with
      | true => cases h
      | false =>
        have h : cond (isFv x) (plainA ks l) false = true := h
        obtain ⟨⟨v, rfl⟩, h⟩ := hx h
        obtain ⟨h1, h2⟩ := plainA_ok l ks h
        refine ⟨?_, fun g => ?_⟩
        · simp only [frzArgs, frz, Rd.bind, h1]; rfl
        · simp only [IV.ren.renL, IV.ren, Option.bind_some, h2 g]; rfl
theorem isoD_ok (hi : ∀ f args h x, ih' f args h = some x → ih f args h = some x) {g : FuncId} {args : List IV} (h : isoD (E.pol.keep g) (E.pol.split g) (E.pol.raw g) ih' g args hp k = some r) : Iso E ih g args hp k r := by
  have hasked : ∀ args ext x, askedD (E.pol.split g) ih' g args ext = some x → asked E ih g args ext = some x := by
    intro args ext x e
    unfold askedD at e
    unfold asked
    split at e
    · rename_i hs
      rw [if_pos hs]
      split at e
      · split at e
        · rename_i hc
          simp only [Bool.and_eq_true] at hc
          have mono : ∀ {o o' : Option (IV × Hp)}, (∀ x, o = some x → o' = some x) → isEmptySl o = true → isEmptySl o' = true := by
            intro o o' hm h
            cases o with
            | none => cases h
            | some x => rw [hm x rfl]; exact h
          rw [if_pos (by rw [mono (hi _ _ _) hc.1, mono (hi _ _ _) hc.2]; rfl)]
          exact e
        · cases e
      · rename_i hne
        have := hi _ _ _ _ e
        split
        · exact absurd rfl (fun e => hne rfl e)
        · exact this
    · rename_i hs
      rw [if_neg hs]
      exact hi _ _ _ _ e
  unfold isoD at h
  split at h
  · cases h
  rename_i vs rs u l1 h1
  split at h
  · cases h
  rename_i l l2 h2
  split at h
  · cases h
  rename_i vs' h3
  split at h
  · cases h
  rename_i ext h4
  simp only [fL_eq (fV_eq 3), fL_eq fBk_eq] at h
  split at h
  · cases h
  rename_i res hp' h5
  split at h
  · cases h
  rename_i res1 h6
  split at h
  · cases h
  rename_i res2 h7
  split at h
  · cases h
  rename_i ext' h8
  obtain ⟨hc, h⟩ := ite_ok h
  split at h
  · cases h
  rename_i hp2 h9
  simp only [fH_eq, fV_eq] at h
  refine ⟨{ val := res2, upd := u ++ (keys l).zip ext' }, l2, hp2, ?_, h9, h⟩
  simp only [isoCall, runLog_bind, h1, h2, Option.bind_some, h3, h4, hasked _ _ _ h5]
  rw [show handBack E g res hp' = some res1 from h6]
  simp only [Option.bind_some, h7, h8]
  rw [if_pos hc]
  rfl
theorem isoS_ok (hi : ∀ f args h x, ih' f args h = some x → ih f args h = some x) {g : FuncId} {args : List IV} (h : isoS (E.pol.keep g) (E.pol.split g) (E.pol.raw g) ih' g args hp k = some r) : Iso E ih g args hp k r := by
  unfold isoS at h
  cases hc : (cond (E.pol.split g) false (cond (E.pol.raw g) false (plainA (E.pol.keep g) args))) with
  | false => rw [hc] at h; exact isoD_ok hi h
  | true =>
    rw [hc] at h
    simp only [cond] at h
    have hs : E.pol.split g = false := by cases e : E.pol.split g with | false => rfl | true => rw [e] at hc; cases hc
    rw [hs] at hc
    have hr : E.pol.raw g = false := by cases e : E.pol.raw g with | false => rfl | true => rw [e] at hc; cases hc
    rw [hr] at hc
    obtain ⟨p1, p2⟩ := plainA_ok args _ hc
    cases he : ih' g args ⟨[], []⟩ with
    | none => rw [he] at h; cases h
    | some p =>
      obtain ⟨v, ⟨own, ext⟩⟩ := p
      rw [he] at h
      cases ext with
      | cons b ext => exact absurd (show (none : Option β) = some r from h) (by simp)
      | nil =>
        have h : backK v ⟨own, []⟩ (fun v => k v hp [] []) = some r := h
        have hb : ∃ w u, (frz 4096 v).run ⟨own, []⟩ = some (w, u) ∧ k (.fv w) hp [] [] = some r := by
          unfold backK at h
          split at h
          · exact ⟨_, _, rfl, h⟩
          · split at h
            · cases h
            · rename_i e
              rw [fFV_eq] at h
              exact ⟨_, _, e, h⟩
        obtain ⟨w, u, hw, h⟩ := hb
        refine ⟨{ val := .fv w, upd := [] }, [], hp, ?_, rfl, h⟩
        simp only [isoCall, p1, Rd.bind]
        simp only [gather, Rd.bind]
        simp only [p2, List.map_nil, renBlks, Option.bind_some, asked, hs, Bool.false_eq_true, if_false, hi _ _ _ _ he, handBack, hr, hw, Option.map_some, IV.ren]
        rfl
def Done2 (E : Env) (ih : Handler) (f rid i : Nat) (dr : Bool) (slots : List IV) (op : Op) (hp : Hp) (k : IV → Hp → List Ref → List Ref → Option β) (r : β) : Prop :=
  (inlCall E slots op = none ∧ Done E ih f rid i (operand slots) op hp k r) ∨
  (dr = false ∧ quiet E op = false ∧ ∃ g args v hp', inlCall E slots op = some (g, args) ∧ ih g args hp = some (v, hp') ∧ k v hp' [] [] = some r)
theorem done_iso {g : Operand} {args : Array Operand} {ts : Array TypeId} {h' : FuncId} {first cap : List IV} {slots : List IV} (hc : callee (operand slots g) = some (h', first, cap)) (hin : E.pol.inl h' = false)
    (h : Iso E ih h' (first ++ args.toList.map (operand slots) ++ cap) hp k r) : Done2 E ih f rid i dr slots (.call ⟨.value g, args, ts⟩) hp k r := by
  obtain ⟨e, rd, hp', h1, h2, h3⟩ := h
  refine .inl ⟨?_, e.val, hp', rd, keys e.upd, ⟨{ eff := e }, ?_, ?_, rfl, ?_⟩, h3, fun q => by cases q⟩
  · simp only [inlCall, hc, hin, Bool.false_eq_true, if_false]
  · simp only [opG, hc, hin, Bool.false_eq_true, if_false, Rd.eff, runLog_bind, h1, Option.bind_some, Rd.runLog]
  · simp only [heapOf, h2, Option.bind_some, newOf]
  · simp only [newRefs, List.append_nil]
theorem s_call (hi : ∀ f args h x, ih' f args h = some x → ih f args h = some x) {slots : List IV} {c : Call} (h : opS E ih' f rid i dr (operand slots) (.call c) hp k = some r) : Done2 E ih f rid i dr slots (.call c) hp k r := by
  obtain ⟨cl, args, ts⟩ := c
  simp only [opS, cnd_eq] at h
  cases cl with
  | invoke _ _ => cases h
  | builtin b =>
    refine .inl ⟨rfl, ?_⟩
    simp only [callSS, cnd_eq] at h
    split at h
    · rename_i t x hts has
      split at h
      · rename_i e z ht
        unfold lenS at h
        have hop : opG E ih f rid i (operand slots) (.call ⟨.builtin .len, args, ts⟩) = builtinR E (site f rid i) (E.pol.rowApp f rid i) .len [t] [operand slots x] := by
          simp only [opG, hts, has]; rfl
        rcases asSlc_ok h with ⟨q, sz, n, hx, h⟩ | ⟨hx, h⟩
        · rw [intK_eq] at h
          exact done_val (by rw [hop]; simp only [builtinR, ht, hx]) h
        · rw [elsK_eq] at h
          obtain ⟨es, he, h⟩ := bind_ok h
          rw [intK_eq] at h
          refine done_val (v := .fv (.int .i64 es.length)) ?_ h
          rw [hop]
          simp only [builtinR, ht]
          cases hxx : operand slots x with
          | slc q sz n => exact absurd hxx (hx q sz n)
          | _ => rw [hxx] at he; simp only [he]; rfl
      · rename_i hn
        refine done_gen ?_ rfl h
        simp only [quiet, hts, has]
    · rename_i b0 b1 ts1 args1 hn
      refine done_gen ?_ rfl h
      cases b0 with
      | len =>
        simp only [quiet]
        split
        · rename_i hts has; exact absurd has (hn _ _ rfl hts)
        · rfl
      | _ => rfl
  | value g =>
    simp only [callSS, cnd_eq] at h
    split at h
    · rename_i g
      have hc : callee (operand slots (.func g)) = some (g, [], []) := rfl
      cases hin : E.pol.inl g with
      | true =>
        rw [hin] at h
        cases dr with
        | true => cases h
        | false =>
          simp only [cond, inlS] at h
          cases he : ih' g (args.toList.map (operand slots)) hp with
          | none => rw [he] at h; cases h
          | some p =>
            obtain ⟨v, hp'⟩ := p
            rw [he] at h
            refine .inr ⟨rfl, rfl, g, args.toList.map (operand slots), v, hp', ?_, hi _ _ _ _ he, h⟩
            simp only [inlCall, hc, hin, if_true, List.nil_append, List.append_nil]
      | false =>
        rw [hin] at h
        refine done_iso hc hin ?_
        simp only [List.nil_append, List.append_nil]
        exact isoS_ok hi h
    · unfold dynS at h
      split at h
      · cases h
      · rename_i h' first cap hc
        cases hin : E.pol.inl h' with
        | true => rw [hin] at h; cases h
        | false =>
          rw [hin] at h
          simp only [cond, spK_eq] at h
          exact done_iso hc hin (isoS_ok hi h)
/-- What an operation's function hands on is what the operation does. -/
theorem opS_ok (hi : ∀ f args h x, ih' f args h = some x → ih f args h = some x) {slots : List IV} {op : Op} (h : opS E ih' f rid i dr (operand slots) op hp k = some r) : Done2 E ih f rid i dr slots op hp k r := by
  cases op with
  | call c => exact s_call hi h
  | move x => exact .inl ⟨rfl, done_val rfl h⟩
  | assign x => exact .inl ⟨rfl, done_val rfl h⟩
  | pick c a b => exact .inl ⟨rfl, s_pick h⟩
  | alloc t =>
    refine .inl ⟨rfl, ?_⟩
    simp only [opS, cnd_eq] at h
    cases ht : E.T t with
    | none => rw [ht] at h; cases h
    | some ti => rw [ht] at h; exact done_new rfl (by simp only [opG, ht]) h
  | box t x => exact .inl ⟨rfl, s_box h⟩
  | build t ps => exact .inl ⟨rfl, s_build h⟩
  | load t a => exact .inl ⟨rfl, s_load h⟩
  | store t a x => exact .inl ⟨rfl, s_store h⟩
  | nilCheck x => exact .inl ⟨rfl, s_nil h⟩
  | binOp o t x y yt =>
    refine .inl ⟨rfl, ?_⟩
    simp only [opS, cnd_eq] at h
    obtain ⟨v, h1, h2⟩ := binOpS_ok h
    exact done_val (by simp only [opG, h1]; rfl) h2
  | unOp o t x =>
    refine .inl ⟨rfl, ?_⟩
    simp only [opS, optS_eq] at h
    exact done_valO rfl h
  | convert s d x => exact .inl ⟨rfl, s_convert h⟩
  | fieldAddr s x fd => exact .inl ⟨rfl, s_fieldAddr h⟩
  | field s x fd => exact .inl ⟨rfl, s_field h⟩
  | indexAddr t x ix => exact .inl ⟨rfl, s_indexAddr h⟩
  | index t x ix => exact .inl ⟨rfl, s_index h⟩
  | extract x ix => exact .inl ⟨rfl, s_extract h⟩
  | makeMap t n => cases n with
    | none => exact .inl ⟨rfl, done_gen rfl rfl h⟩
    | some _ => cases h
  | buildSlice t n ps => exact .inl ⟨rfl, done_gen rfl rfl h⟩
  | makeFunc fn a b => exact .inl ⟨rfl, done_gen rfl rfl h⟩
  | insert t m j x => exact .inl ⟨rfl, done_gen rfl rfl h⟩
  | mapUpdate t m j x => exact .inl ⟨rfl, done_gen rfl rfl h⟩
  | lookup t m j ok => exact .inl ⟨rfl, done_gen rfl rfl h⟩
  | makeSlice t l c => exact .inl ⟨rfl, done_gen rfl rfl h⟩
  | slice t x lo hi mx => exact .inl ⟨rfl, done_gen rfl rfl h⟩
  | _ => cases h
end
end Idl
end Go.Proofs.Ytnenpcghegcnhaa

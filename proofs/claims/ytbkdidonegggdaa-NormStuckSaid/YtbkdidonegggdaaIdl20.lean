/-
  A FASTER WAY TO RECKON AN IDEAL RUN: handed on in steps, each value reckoned before it is handed on. Definitions.
-/
import Derived.Test.YtbkdidonegggdaaIdl19
namespace Go.Proofs.Ytbkdidonegggdaa
namespace Idl

section force
variable {α : Type}
noncomputable def fNat (m : Nat) (k : Nat → α) : α := Nat.rec (k 0) (fun p _ => k (Nat.succ p)) m
noncomputable def fInt (n : Int) (k : Int → α) : α := match n with
  | .ofNat m => fNat m fun m => k (.ofNat m)
  | .negSucc m => fNat m fun m => k (.negSucc m)
noncomputable def fL {β : Type} (g : β → (β → α) → α) (l : List β) (k : List β → α) : α :=
  List.rec (motive := fun _ => (List β → α) → α) (fun k => k []) (fun x _ ih k => g x fun x => ih fun xs => k (x :: xs)) l k
noncomputable def fFV : Nat → FV → (FV → α) → α
  | 0, v, k => k v
  | d + 1, v, k => match v with
    | .bool b => k (.bool b)
    | .int t n => k (.int t n)
    | .str s => k (.str s)
    | .nilp => k .nilp
    | .nilf => k .nilf
    | .fp cs o => fL (fFV d) cs fun cs => k (.fp cs o)
    | .sl cs => fL (fFV d) cs fun cs => k (.sl cs)
    | .func fn a b => fL (fFV d) a fun a => fL (fFV d) b fun b => k (.func fn a b)
    | .agg cs => fL (fFV d) cs fun cs => k (.agg cs)
    | .tuple cs => fL (fFV d) cs fun cs => k (.tuple cs)
noncomputable def fIV : Nat → IV → (IV → α) → α
  | 0, v, k => k v
  | d + 1, v, k => match v with
    | .dead => k .dead
    | .fv v => fFV d v fun v => k (.fv v)
    | .ptr r o => fNat o fun o => k (.ptr r o)
    | .slc r sz n => fNat n fun n => k (.slc r sz n)
    | .nils => k .nils
    | .emp => k .emp
    | .clip es => fL (fFV d) es fun es => k (.clip es)
    | .app r es => fL (fFV d) es fun es => k (.app r es)
    | .func fn a b => fL (fIV d) a fun a => fL (fIV d) b fun b => k (.func fn a b)
    | .agg cs => fL (fIV d) cs fun cs => k (.agg cs)
    | .tuple cs => fL (fIV d) cs fun cs => k (.tuple cs)
    | .mapr r => k (.mapr r)
/-- Numbers, truths. -/
noncomputable def fS (v : IV) (k : IV → α) : α := match v with
  | .fv (.int t n) => fInt n fun n => k (.fv (.int t n))
  | .fv (.bool true) => k (.fv (.bool true))
  | .fv (.bool false) => k (.fv (.bool false))
  | v => fIV 3 v k
noncomputable def fBlk (b : Blk) (k : Blk → α) : α := match b with
  | .row cs ro => fL (fIV 2) cs fun cs => k (.row cs ro)
  | .tok n sz => fNat n fun n => k (.tok n sz)
  | .map es => fL (fun (p : Int × IV) k => match p with | (n, v) => fInt n fun n => fIV 2 v fun v => k (n, v)) es fun es => k (.map es)
noncomputable def fOwn (p : Nat × Blk) (k : Nat × Blk → α) : α := match p with | (n, b) => fNat n fun n => fBlk b fun b => k (n, b)
noncomputable def fHp (h : Hp) (k : Hp → α) : α := match h with | ⟨own, ext⟩ => fL fOwn own fun own => fL fBlk ext fun ext => k ⟨own, ext⟩

theorem fNat_eq (m : Nat) (k : Nat → α) : fNat m k = k m := by cases m <;> rfl
theorem fInt_eq (n : Int) (k : Int → α) : fInt n k = k n := by cases n <;> simp [fInt, fNat_eq]
theorem fL_eq {β : Type} {g : β → (β → α) → α} (hg : ∀ x k, g x k = k x) (l : List β) (k : List β → α) : fL g l k = k l := by
  induction l generalizing k with
  | nil => rfl
  | cons x l ih =>
    show g x (fun x => fL g l fun xs => k (x :: xs)) = _
    rw [hg, ih]
theorem fFV_eq : ∀ (d : Nat) (v : FV) (k : FV → α), fFV d v k = k v
  | 0, _, _ => rfl
  | d + 1, v, k => by cases v <;> simp [fFV, fL_eq (fFV_eq d)]
theorem fIV_eq : ∀ (d : Nat) (v : IV) (k : IV → α), fIV d v k = k v
  | 0, _, _ => rfl
  | d + 1, v, k => by cases v <;> simp [fIV, fL_eq (fIV_eq d), fL_eq (fFV_eq d), fFV_eq, fNat_eq]
theorem fS_eq (v : IV) (k : IV → α) : fS v k = k v := by
  unfold fS
  split
  · rw [fInt_eq]
  · rfl
  · rfl
  · rw [fIV_eq]
theorem fBlk_eq (b : Blk) (k : Blk → α) : fBlk b k = k b := by
  cases b with
  | row cs ro => simp only [fBlk]; rw [fL_eq (fIV_eq 2)]
  | tok n sz => simp only [fBlk]; rw [fNat_eq]
  | map es =>
    simp only [fBlk]
    rw [fL_eq]
    rintro ⟨n, v⟩ k
    simp only
    rw [fInt_eq, fIV_eq]
theorem fOwn_eq (p : Nat × Blk) (k : Nat × Blk → α) : fOwn p k = k p := by
  obtain ⟨n, b⟩ := p
  simp only [fOwn]
  rw [fNat_eq, fBlk_eq]
theorem fHp_eq (h : Hp) (k : Hp → α) : fHp h k = k h := by
  obtain ⟨a, b⟩ := h
  simp only [fHp]
  rw [fL_eq fOwn_eq, fL_eq fBlk_eq]
end force

/-! ## Slots -/
inductive SlT where
  | leaf (j : Nat) (v : IV)
  | node (m : Nat) (l r : SlT)
noncomputable def SlT.get (t : SlT) : Nat → IV := SlT.rec (motive := fun _ => Nat → IV) (fun j v i => cond (Nat.beq i j) v .dead) (fun m _ _ gl gr i => cond (Nat.ble m i) (gr i) (gl i)) t
noncomputable def SlT.has (t : SlT) : Nat → Bool := SlT.rec (motive := fun _ => Nat → Bool) (fun j _ i => Nat.beq i j) (fun m _ _ gl gr i => cond (Nat.ble m i) (gr i) (gl i)) t
noncomputable def SlT.set (t : SlT) : Nat → IV → SlT :=
  SlT.rec (motive := fun _ => Nat → IV → SlT) (fun j v i x => cond (Nat.beq i j) (.leaf j x) (.leaf j v)) (fun m l r gl gr i x => cond (Nat.ble m i) (.node m l (gr i x)) (.node m (gl i x) r)) t
noncomputable def SlT.setK {α : Type} (t : SlT) : Nat → IV → (SlT → α) → α :=
  SlT.rec (motive := fun _ => Nat → IV → (SlT → α) → α) (fun j v i x k => cond (Nat.beq i j) (k (.leaf j x)) (k (.leaf j v)))
    (fun m l r gl gr i x k => cond (Nat.ble m i) (gr i x fun r' => k (.node m l r')) (gl i x fun l' => k (.node m l' r))) t
/-- All dead. -/
noncomputable def dT : Nat → Nat → Nat → SlT
  | 0, lo, _ => .leaf lo .dead
  | d + 1, lo, n => cond (Nat.ble n 1) (.leaf lo .dead) (fNat (n / 2) fun h => fNat (lo + h) fun m => fNat (n - h) fun q => .node m (dT d lo h) (dT d m q))

theorem setK_eq {α : Type} (t : SlT) (i : Nat) (x : IV) (k : SlT → α) : t.setK i x k = k (t.set i x) := by
  induction t generalizing k with
  | leaf j v => show cond _ _ _ = k (cond _ _ _); cases Nat.beq i j <;> rfl
  | node m l r ihl ihr =>
    show cond _ (r.setK i x _) (l.setK i x _) = k (cond _ (.node m l (r.set i x)) (.node m (l.set i x) r))
    cases Nat.ble m i
    · simp only [cond]; rw [ihl]
    · simp only [cond]; rw [ihr]
theorem has_set (t : SlT) (i : Nat) (x : IV) (j : Nat) : (t.set i x).has j = t.has j := by
  induction t with
  | leaf k v => show SlT.has (cond _ _ _) j = _; cases Nat.beq i k <;> rfl
  | node m l r ihl ihr =>
    show SlT.has (cond (Nat.ble m i) (.node m l (r.set i x)) (.node m (l.set i x) r)) j = cond (Nat.ble m j) (r.has j) (l.has j)
    cases Nat.ble m i
    · show cond (Nat.ble m j) (r.has j) ((l.set i x).has j) = _; rw [ihl]
    · show cond (Nat.ble m j) ((r.set i x).has j) (l.has j) = _; rw [ihr]
theorem get_set (t : SlT) (i : Nat) (x : IV) (h : t.has i = true) (j : Nat) : (t.set i x).get j = if j = i then x else t.get j := by
  induction t with
  | leaf k v =>
    have hik : Nat.beq i k = true := h
    have e := Nat.eq_of_beq_eq_true hik
    show SlT.get (cond (Nat.beq i k) _ _) j = _
    rw [hik]
    show cond (Nat.beq j k) x .dead = if j = i then x else cond (Nat.beq j k) v .dead
    subst e
    by_cases hj : j = i
    · subst hj; rw [if_pos rfl, show Nat.beq j j = true from Nat.beq_refl j]; rfl
    · have : Nat.beq j i = false := by cases hb : Nat.beq j i; rfl; exact absurd (Nat.eq_of_beq_eq_true hb) hj
      rw [if_neg hj, this]; rfl
  | node m l r ihl ihr =>
    have h' : cond (Nat.ble m i) (r.has i) (l.has i) = true := h
    show SlT.get (cond (Nat.ble m i) (.node m l (r.set i x)) (.node m (l.set i x) r)) j = if j = i then x else cond (Nat.ble m j) (r.get j) (l.get j)
    cases hm : Nat.ble m i with
    | true =>
      rw [hm] at h'
      show cond (Nat.ble m j) ((r.set i x).get j) (l.get j) = _
      rw [ihr h']
      by_cases hj : j = i
      · subst hj; rw [hm]; simp
      · simp only [if_neg hj]
    | false =>
      rw [hm] at h'
      show cond (Nat.ble m j) (r.get j) ((l.set i x).get j) = _
      rw [ihl h']
      by_cases hj : j = i
      · subst hj; rw [hm]; simp
      · simp only [if_neg hj]
theorem dT_ok : ∀ (d lo n i : Nat), n ≤ 2 ^ d → lo ≤ i → i < lo + n → (dT d lo n).has i = true ∧ (dT d lo n).get i = .dead := by
  intro d
  induction d with
  | zero =>
    intro lo n i h1 h2 h3
    have : i = lo := by simp at h1; omega
    subst this
    refine ⟨Nat.beq_refl i, ?_⟩
    show cond (Nat.beq i i) IV.dead .dead = .dead
    cases Nat.beq i i <;> rfl
  | succ d ih =>
    intro lo n i h1 h2 h3
    simp only [dT, fNat_eq]
    cases hn : Nat.ble n 1 with
    | true =>
      have := Nat.le_of_ble_eq_true hn
      have : i = lo := by omega
      subst this
      refine ⟨Nat.beq_refl i, ?_⟩
      show cond (Nat.beq i i) IV.dead .dead = .dead
      cases Nat.beq i i <;> rfl
    | false =>
      have hp : 2 ^ (d + 1) = 2 * 2 ^ d := by rw [Nat.pow_succ]; omega
      show cond (Nat.ble (lo + n / 2) i) ((dT d (lo + n / 2) (n - n / 2)).has i) ((dT d lo (n / 2)).has i) = true ∧ cond (Nat.ble (lo + n / 2) i) ((dT d (lo + n / 2) (n - n / 2)).get i) ((dT d lo (n / 2)).get i) = .dead
      cases hm : Nat.ble (lo + n / 2) i with
      | true =>
        have := Nat.le_of_ble_eq_true hm
        exact ih _ _ i (by omega) this (by omega)
      | false =>
        have : ¬ (lo + n / 2 ≤ i) := fun h => by rw [Nat.ble_eq_true_of_le h] at hm; cases hm
        exact ih _ _ i (by omega) h2 (by omega)

structure FS where
  n : Nat
  t : SlT
  hp : Hp
noncomputable def FS.get (T : FS) (i : Nat) : IV := cond (Nat.ble T.n i) .dead (T.t.get i)
structure Rep (T : FS) (S : St) : Prop where
  hp : S.hp = T.hp
  len : S.slots.length = T.n
  has : ∀ i, i < T.n → T.t.has i = true
  get : ∀ i, i < T.n → T.t.get i = S.slots.getD i .dead
theorem Rep.at_ {T : FS} {S : St} (h : Rep T S) (i : Nat) : T.get i = S.slots.getD i .dead := by
  unfold FS.get
  cases hb : Nat.ble T.n i with
  | true =>
    have := Nat.le_of_ble_eq_true hb
    rw [List.getD_eq_getElem?_getD, List.getElem?_eq_none (by rw [h.len]; exact this)]
    rfl
  | false =>
    have : ¬ T.n ≤ i := fun h => by rw [Nat.ble_eq_true_of_le h] at hb; cases hb
    exact h.get i (by omega)
noncomputable def operandT (T : FS) : Operand → IV
  | .tmp t => T.get t
  | .const v => ofConst v
  | .global _ => .dead
  | .func f => .fv (.func (.func f) [] [])
theorem operandT_eq {T : FS} {S : St} (h : Rep T S) : operandT T = operand S.slots := by
  funext x
  cases x with
  | tmp t => exact h.at_ t
  | _ => rfl
noncomputable def putK {α : Type} (d : Option Nat) (v : IV) (T : FS) (K : FS → α) : α :=
  match d with
  | none => K T
  | some d => cond (Nat.ble T.n d) (K T) (T.t.setK d v fun t => K ⟨T.n, t, T.hp⟩)
noncomputable def putT (d : Option Nat) (v : IV) (T : FS) : FS :=
  match d with
  | none => T
  | some d => cond (Nat.ble T.n d) T ⟨T.n, T.t.set d v, T.hp⟩
theorem putK_eq {α : Type} (d : Option Nat) (v : IV) (T : FS) (K : FS → α) : putK d v T K = K (putT d v T) := by
  cases d with
  | none => rfl
  | some d =>
    simp only [putK, putT]
    cases Nat.ble T.n d
    · simp only [cond]; rw [setK_eq]
    · rfl
theorem put_rep {T : FS} {S : St} (h : Rep T S) (d : Option Nat) (v : IV) : Rep (putT d v T) { S with slots := putSlot d v S.slots } := by
  cases d with
  | none => exact h
  | some d =>
    simp only [putT, putSlot]
    cases hb : Nat.ble T.n d with
    | true =>
      have := Nat.le_of_ble_eq_true hb
      simp only [cond]
      rw [List.set_eq_of_length_le (by rw [h.len]; exact this)]
      exact h
    | false =>
      have hd : d < T.n := by
        have : ¬ T.n ≤ d := fun h => by rw [Nat.ble_eq_true_of_le h] at hb; cases hb
        omega
      refine ⟨h.hp, by simp [h.len], fun i hi => by show (T.t.set d v).has i = true; rw [has_set]; exact h.has i hi, fun i hi => ?_⟩
      show (T.t.set d v).get i = _
      rw [get_set _ _ _ (h.has d hd), List.getD_eq_getElem?_getD]
      by_cases e : i = d
      · subst e; rw [if_pos rfl, List.getElem?_set_self (by rw [h.len]; exact hi)]; rfl
      · rw [if_neg e, List.getElem?_set_ne (Ne.symm e), ← List.getD_eq_getElem?_getD]; exact h.get i hi
end Idl
end Go.Proofs.Ytbkdidonegggdaa

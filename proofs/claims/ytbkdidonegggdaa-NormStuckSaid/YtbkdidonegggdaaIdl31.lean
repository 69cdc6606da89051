/-
  A SHALLOW FORM OF THE IDEAL RUN: all functions together. No statement of the seat is proved here.
-/
import Derived.Test.YtbkdidonegggdaaIdl30
namespace Go.Proofs.Ytbkdidonegggdaa
namespace Idl

section
variable {β : Type}
noncomputable def endS {α : Type} (l : List α) (a : Option β) : Option β := List.casesOn (motive := fun _ => Option β) l a fun _ _ => none
noncomputable def ar0 (g : Hp → Option β) (args : List IV) (h : Hp) : Option β := endS args (g h)
noncomputable def ar1 (g : IV → Hp → Option β) (args : List IV) (h : Hp) : Option β := uncS args fun a l => endS l (g a h)
noncomputable def ar2 (g : IV → IV → Hp → Option β) (args : List IV) (h : Hp) : Option β := uncS args fun a l => uncS l fun b l => endS l (g a b h)
noncomputable def ar3 (g : IV → IV → IV → Hp → Option β) (args : List IV) (h : Hp) : Option β := uncS args fun a l => uncS l fun b l => uncS l fun c l => endS l (g a b c h)
noncomputable def ar4 (g : IV → IV → IV → IV → Hp → Option β) (args : List IV) (h : Hp) : Option β := uncS args fun a l => uncS l fun b l => uncS l fun c l => uncS l fun d l => endS l (g a b c d h)
noncomputable def ar5 (g : IV → IV → IV → IV → IV → Hp → Option β) (args : List IV) (h : Hp) : Option β := uncS args fun a l => uncS l fun b l => uncS l fun c l => uncS l fun d l => uncS l fun e l => endS l (g a b c d e h)
noncomputable def ar6 (g : IV → IV → IV → IV → IV → IV → Hp → Option β) (args : List IV) (h : Hp) : Option β := uncS args fun a l => uncS l fun b l => uncS l fun c l => uncS l fun d l => uncS l fun e l => uncS l fun f l => endS l (g a b c d e f h)
theorem unc_ok {α : Type} {l : List α} {k : α → List α → Option β} {r : β} (h : uncS l k = some r) : ∃ a t, l = a :: t ∧ k a t = some r := by
  cases l with
  | nil => cases h
  | cons a t => exact ⟨a, t, rfl, h⟩
theorem end_ok {α : Type} {l : List α} {a : Option β} {r : β} (h : endS l a = some r) : l = [] ∧ a = some r := by
  cases l with
  | nil => exact ⟨rfl, h⟩
  | cons _ _ => cases h
variable {F : List IV → Hp → Option β} {args : List IV} {h : Hp} {r : β}
theorem ar0_ok {g : Hp → Option β} (hg : ∀ h, F [] h = g h) (e : ar0 g args h = some r) : F args h = some r := by
  obtain ⟨rfl, e9⟩ := end_ok e
  rw [hg]; exact e9
theorem ar1_ok {g : IV → Hp → Option β} (hg : ∀ a h, F [a] h = g a h) (e : ar1 g args h = some r) : F args h = some r := by
  obtain ⟨a, l1, rfl, e1⟩ := unc_ok e
  obtain ⟨rfl, e9⟩ := end_ok e1
  rw [hg]; exact e9
theorem ar2_ok {g : IV → IV → Hp → Option β} (hg : ∀ a b h, F [a, b] h = g a b h) (e : ar2 g args h = some r) : F args h = some r := by
  obtain ⟨a, l1, rfl, e1⟩ := unc_ok e
  obtain ⟨b, l2, rfl, e2⟩ := unc_ok e1
  obtain ⟨rfl, e9⟩ := end_ok e2
  rw [hg]; exact e9
theorem ar3_ok {g : IV → IV → IV → Hp → Option β} (hg : ∀ a b c h, F [a, b, c] h = g a b c h) (e : ar3 g args h = some r) : F args h = some r := by
  obtain ⟨a, l1, rfl, e1⟩ := unc_ok e
  obtain ⟨b, l2, rfl, e2⟩ := unc_ok e1
  obtain ⟨c, l3, rfl, e3⟩ := unc_ok e2
  obtain ⟨rfl, e9⟩ := end_ok e3
  rw [hg]; exact e9
theorem ar4_ok {g : IV → IV → IV → IV → Hp → Option β} (hg : ∀ a b c d h, F [a, b, c, d] h = g a b c d h) (e : ar4 g args h = some r) : F args h = some r := by
  obtain ⟨a, l1, rfl, e1⟩ := unc_ok e
  obtain ⟨b, l2, rfl, e2⟩ := unc_ok e1
  obtain ⟨c, l3, rfl, e3⟩ := unc_ok e2
  obtain ⟨d, l4, rfl, e4⟩ := unc_ok e3
  obtain ⟨rfl, e9⟩ := end_ok e4
  rw [hg]; exact e9
theorem ar5_ok {g : IV → IV → IV → IV → IV → Hp → Option β} (hg : ∀ a b c d x h, F [a, b, c, d, x] h = g a b c d x h) (e : ar5 g args h = some r) : F args h = some r := by
  obtain ⟨a, l1, rfl, e1⟩ := unc_ok e
  obtain ⟨b, l2, rfl, e2⟩ := unc_ok e1
  obtain ⟨c, l3, rfl, e3⟩ := unc_ok e2
  obtain ⟨d, l4, rfl, e4⟩ := unc_ok e3
  obtain ⟨x, l5, rfl, e5⟩ := unc_ok e4
  obtain ⟨rfl, e9⟩ := end_ok e5
  rw [hg]; exact e9
theorem ar6_ok {g : IV → IV → IV → IV → IV → IV → Hp → Option β} (hg : ∀ a b c d x y h, F [a, b, c, d, x, y] h = g a b c d x y h) (e : ar6 g args h = some r) : F args h = some r := by
  obtain ⟨a, l1, rfl, e1⟩ := unc_ok e
  obtain ⟨b, l2, rfl, e2⟩ := unc_ok e1
  obtain ⟨c, l3, rfl, e3⟩ := unc_ok e2
  obtain ⟨d, l4, rfl, e4⟩ := unc_ok e3
  obtain ⟨x, l5, rfl, e5⟩ := unc_ok e4
  obtain ⟨y, l6, rfl, e6⟩ := unc_ok e5
  obtain ⟨rfl, e9⟩ := end_ok e6
  rw [hg]; exact e9
end

/-- A function's shallow form. -/
abbrev Sh := Handler → Nat → List IV → Hp → Option (IV × Hp)
inductive DT where
  | nil
  | leaf (f : Nat) (g : Sh)
  | node (m : Nat) (l r : DT)
noncomputable def DT.call (t : DT) : Nat → Sh :=
  DT.rec (motive := fun _ => Nat → Sh) (fun _ _ _ _ _ => none) (fun f g i => cond (Nat.beq i f) g fun _ _ _ _ => none) (fun m _ _ gl gr i => cond (Nat.ble m i) (gr i) (gl i)) t
/-- All functions, so deep. -/
noncomputable def SS (t : DT) (n : Nat) : Handler := Nat.rec (motive := fun _ => Handler) (fun _ _ _ => none) (fun n ih f args h => t.call f ih n args h) n
def ShOk (E : Env) (FT : Nat → Option Func) (f : Nat) (g : Sh) : Prop := ∀ ih n args h x, g ih n args h = some x → funS E ih FT n f args h = some x
def DT.Ok (E : Env) (FT : Nat → Option Func) : DT → Prop
  | .nil => True
  | .leaf f g => ShOk E FT f g
  | .node _ l r => l.Ok E FT ∧ r.Ok E FT
theorem DT.call_ok {E : Env} {FT : Nat → Option Func} {t : DT} (ht : t.Ok E FT) : ∀ f, ShOk E FT f (t.call f) := by
  induction t with
  | nil => intro f ih n args h x e; cases e
  | leaf j g =>
    intro f ih n args h x e
    have e : (cond (Nat.beq f j) g fun _ _ _ _ => none) ih n args h = some x := e
    cases hb : Nat.beq f j with
    | false => rw [hb] at e; cases e
    | true => rw [hb] at e; rw [beq_true hb]; exact ht ih n args h x e
  | node m l r ihl ihr =>
    intro f ih n args h x e
    have e : (cond (Nat.ble m f) (r.call f) (l.call f)) ih n args h = some x := e
    cases hb : Nat.ble m f with
    | true => rw [hb] at e; exact ihr ht.2 f ih n args h x e
    | false => rw [hb] at e; exact ihl ht.1 f ih n args h x e
theorem SS_ok {E : Env} {FT : Nat → Option Func} (hFT : ∀ f fn, FT f = some fn → E.P.funcs[f]? = some fn) {t : DT} (ht : t.Ok E FT) : ∀ n f args h x, SS t n f args h = some x → run E n f args h = some x := by
  intro n
  induction n with
  | zero => intro f args h x e; cases e
  | succ n ihn => intro f args h x e; exact funS_ok hFT ihn (DT.call_ok ht f _ _ _ _ _ e)
/-- Does it answer true? -/
noncomputable def isTrue (o : Option (IV × Hp)) : Bool := match o with
  | some (.fv (.bool b), _) => b
  | _ => false
theorem isTrue_ok {o : Option (IV × Hp)} (h : isTrue o = true) : ∃ hp, o = some (.fv (.bool true), hp) := by
  unfold isTrue at h
  split at h
  · subst h; exact ⟨_, rfl⟩
  · cases h
end Idl
end Go.Proofs.Ytbkdidonegggdaa

/-
  Texts of a proof, part 11: an ideal semantics of the program, its functions in shallow form, contracts of them. No statement of the seat is proved here.
-/
import Derived.KernelRfl
import Derived.Test.YtdibmackcbpniaaObjValuesK10
set_option linter.all false
namespace Go.Proofs.Ytdibmackcbpniaa
namespace Idl
theorem call_0 {f : Nat} {G : Handler → Nat → Hp → Option (IV × Hp)} (e : dt.call f = fun ih n => ar0 (G ih n)) (n : Nat) (h : Hp) : SS dt (n + 1) f [] h = G (SS dt n) n  h := by
  show dt.call f (SS dt n) n _ h = _
  rw [e]
  rfl
theorem call_1 {f : Nat} {G : Handler → Nat → IV → Hp → Option (IV × Hp)} (e : dt.call f = fun ih n => ar1 (G ih n)) (n : Nat) (a0 : IV) (h : Hp) : SS dt (n + 1) f [a0] h = G (SS dt n) n a0 h := by
  show dt.call f (SS dt n) n _ h = _
  rw [e]
  rfl
theorem call_2 {f : Nat} {G : Handler → Nat → IV → IV → Hp → Option (IV × Hp)} (e : dt.call f = fun ih n => ar2 (G ih n)) (n : Nat) (a0 a1 : IV) (h : Hp) : SS dt (n + 1) f [a0, a1] h = G (SS dt n) n a0 a1 h := by
  show dt.call f (SS dt n) n _ h = _
  rw [e]
  rfl
theorem call_3 {f : Nat} {G : Handler → Nat → IV → IV → IV → Hp → Option (IV × Hp)} (e : dt.call f = fun ih n => ar3 (G ih n)) (n : Nat) (a0 a1 a2 : IV) (h : Hp) : SS dt (n + 1) f [a0, a1, a2] h = G (SS dt n) n a0 a1 a2 h := by
  show dt.call f (SS dt n) n _ h = _
  rw [e]
  rfl
theorem call_4 {f : Nat} {G : Handler → Nat → IV → IV → IV → IV → Hp → Option (IV × Hp)} (e : dt.call f = fun ih n => ar4 (G ih n)) (n : Nat) (a0 a1 a2 a3 : IV) (h : Hp) : SS dt (n + 1) f [a0, a1, a2, a3] h = G (SS dt n) n a0 a1 a2 a3 h := by
  show dt.call f (SS dt n) n _ h = _
  rw [e]
  rfl
theorem c2 (n : Nat) (h : Hp) : SS dt (n + 1) 2 [] h = S2 (SS dt n) n  h := call_0 (show dt.call 2 = fun ih n => ar0 (S2 ih n) by kernel_rfl) ..
theorem c3 (n : Nat) (a0 a1 a2 a3 : IV) (h : Hp) : SS dt (n + 1) 3 [a0, a1, a2, a3] h = S3 (SS dt n) n a0 a1 a2 a3 h := call_4 (show dt.call 3 = fun ih n => ar4 (S3 ih n) by kernel_rfl) ..
theorem c9 (n : Nat) (a0 a1 a2 : IV) (h : Hp) : SS dt (n + 1) 9 [a0, a1, a2] h = S9 (SS dt n) n a0 a1 a2 h := call_3 (show dt.call 9 = fun ih n => ar3 (S9 ih n) by kernel_rfl) ..
theorem c12 (n : Nat) (a0 : IV) (h : Hp) : SS dt (n + 1) 12 [a0] h = S12 (SS dt n) n a0 h := call_1 (show dt.call 12 = fun ih n => ar1 (S12 ih n) by kernel_rfl) ..
theorem c14 (n : Nat) (a0 a1 : IV) (h : Hp) : SS dt (n + 1) 14 [a0, a1] h = S14 (SS dt n) n a0 a1 h := call_2 (show dt.call 14 = fun ih n => ar2 (S14 ih n) by kernel_rfl) ..
theorem c17 (n : Nat) (a0 a1 : IV) (h : Hp) : SS dt (n + 1) 17 [a0, a1] h = S17 (SS dt n) n a0 a1 h := call_2 (show dt.call 17 = fun ih n => ar2 (S17 ih n) by kernel_rfl) ..
theorem c18 (n : Nat) (a0 a1 : IV) (h : Hp) : SS dt (n + 1) 18 [a0, a1] h = S18 (SS dt n) n a0 a1 h := call_2 (show dt.call 18 = fun ih n => ar2 (S18 ih n) by kernel_rfl) ..
theorem c23 (n : Nat) (a0 a1 : IV) (h : Hp) : SS dt (n + 1) 23 [a0, a1] h = S23 (SS dt n) n a0 a1 h := call_2 (show dt.call 23 = fun ih n => ar2 (S23 ih n) by kernel_rfl) ..
theorem c30 (n : Nat) (a0 a1 : IV) (h : Hp) : SS dt (n + 1) 30 [a0, a1] h = S30 (SS dt n) n a0 a1 h := call_2 (show dt.call 30 = fun ih n => ar2 (S30 ih n) by kernel_rfl) ..
theorem c31 (n : Nat) (a0 : IV) (h : Hp) : SS dt (n + 1) 31 [a0] h = S31 (SS dt n) n a0 h := call_1 (show dt.call 31 = fun ih n => ar1 (S31 ih n) by kernel_rfl) ..
theorem c32 (n : Nat) (a0 a1 : IV) (h : Hp) : SS dt (n + 1) 32 [a0, a1] h = S32 (SS dt n) n a0 a1 h := call_2 (show dt.call 32 = fun ih n => ar2 (S32 ih n) by kernel_rfl) ..
theorem c33 (n : Nat) (a0 a1 a2 : IV) (h : Hp) : SS dt (n + 1) 33 [a0, a1, a2] h = S33 (SS dt n) n a0 a1 a2 h := call_3 (show dt.call 33 = fun ih n => ar3 (S33 ih n) by kernel_rfl) ..
theorem c35 (n : Nat) (a0 a1 : IV) (h : Hp) : SS dt (n + 1) 35 [a0, a1] h = S35 (SS dt n) n a0 a1 h := call_2 (show dt.call 35 = fun ih n => ar2 (S35 ih n) by kernel_rfl) ..
theorem c36 (n : Nat) (a0 a1 : IV) (h : Hp) : SS dt (n + 1) 36 [a0, a1] h = S36 (SS dt n) n a0 a1 h := call_2 (show dt.call 36 = fun ih n => ar2 (S36 ih n) by kernel_rfl) ..
theorem c37 (n : Nat) (a0 : IV) (h : Hp) : SS dt (n + 1) 37 [a0] h = S37 (SS dt n) n a0 h := call_1 (show dt.call 37 = fun ih n => ar1 (S37 ih n) by kernel_rfl) ..
theorem c38 (n : Nat) (a0 : IV) (h : Hp) : SS dt (n + 1) 38 [a0] h = S38 (SS dt n) n a0 h := call_1 (show dt.call 38 = fun ih n => ar1 (S38 ih n) by kernel_rfl) ..
theorem c40 (n : Nat) (a0 a1 : IV) (h : Hp) : SS dt (n + 1) 40 [a0, a1] h = S40 (SS dt n) n a0 a1 h := call_2 (show dt.call 40 = fun ih n => ar2 (S40 ih n) by kernel_rfl) ..
theorem c41 (n : Nat) (a0 a1 : IV) (h : Hp) : SS dt (n + 1) 41 [a0, a1] h = S41 (SS dt n) n a0 a1 h := call_2 (show dt.call 41 = fun ih n => ar2 (S41 ih n) by kernel_rfl) ..
theorem c42 (n : Nat) (a0 a1 : IV) (h : Hp) : SS dt (n + 1) 42 [a0, a1] h = S42 (SS dt n) n a0 a1 h := call_2 (show dt.call 42 = fun ih n => ar2 (S42 ih n) by kernel_rfl) ..
theorem c49 (n : Nat) (a0 : IV) (h : Hp) : SS dt (n + 1) 49 [a0] h = S49 (SS dt n) n a0 h := call_1 (show dt.call 49 = fun ih n => ar1 (S49 ih n) by kernel_rfl) ..
theorem c50 (n : Nat) (a0 a1 : IV) (h : Hp) : SS dt (n + 1) 50 [a0, a1] h = S50 (SS dt n) n a0 a1 h := call_2 (show dt.call 50 = fun ih n => ar2 (S50 ih n) by kernel_rfl) ..
theorem c51 (n : Nat) (a0 : IV) (h : Hp) : SS dt (n + 1) 51 [a0] h = S51 (SS dt n) n a0 h := call_1 (show dt.call 51 = fun ih n => ar1 (S51 ih n) by kernel_rfl) ..
theorem c52 (n : Nat) (a0 : IV) (h : Hp) : SS dt (n + 1) 52 [a0] h = S52 (SS dt n) n a0 h := call_1 (show dt.call 52 = fun ih n => ar1 (S52 ih n) by kernel_rfl) ..
theorem c53 (n : Nat) (a0 a1 : IV) (h : Hp) : SS dt (n + 1) 53 [a0, a1] h = S53 (SS dt n) n a0 a1 h := call_2 (show dt.call 53 = fun ih n => ar2 (S53 ih n) by kernel_rfl) ..
theorem c54 (n : Nat) (a0 : IV) (h : Hp) : SS dt (n + 1) 54 [a0] h = S54 (SS dt n) n a0 h := call_1 (show dt.call 54 = fun ih n => ar1 (S54 ih n) by kernel_rfl) ..
theorem c64 (n : Nat) (a0 a1 : IV) (h : Hp) : SS dt (n + 1) 64 [a0, a1] h = S64 (SS dt n) n a0 a1 h := call_2 (show dt.call 64 = fun ih n => ar2 (S64 ih n) by kernel_rfl) ..
theorem c71 (n : Nat) (a0 a1 a2 : IV) (h : Hp) : SS dt (n + 1) 71 [a0, a1, a2] h = S71 (SS dt n) n a0 a1 a2 h := call_3 (show dt.call 71 = fun ih n => ar3 (S71 ih n) by kernel_rfl) ..
theorem c72 (n : Nat) (a0 a1 : IV) (h : Hp) : SS dt (n + 1) 72 [a0, a1] h = S72 (SS dt n) n a0 a1 h := call_2 (show dt.call 72 = fun ih n => ar2 (S72 ih n) by kernel_rfl) ..
theorem c73 (n : Nat) (a0 a1 a2 : IV) (h : Hp) : SS dt (n + 1) 73 [a0, a1, a2] h = S73 (SS dt n) n a0 a1 a2 h := call_3 (show dt.call 73 = fun ih n => ar3 (S73 ih n) by kernel_rfl) ..
theorem c74 (n : Nat) (a0 a1 : IV) (h : Hp) : SS dt (n + 1) 74 [a0, a1] h = S74 (SS dt n) n a0 a1 h := call_2 (show dt.call 74 = fun ih n => ar2 (S74 ih n) by kernel_rfl) ..
theorem c75 (n : Nat) (a0 a1 : IV) (h : Hp) : SS dt (n + 1) 75 [a0, a1] h = S75 (SS dt n) n a0 a1 h := call_2 (show dt.call 75 = fun ih n => ar2 (S75 ih n) by kernel_rfl) ..
theorem c76 (n : Nat) (a0 a1 : IV) (h : Hp) : SS dt (n + 1) 76 [a0, a1] h = S76 (SS dt n) n a0 a1 h := call_2 (show dt.call 76 = fun ih n => ar2 (S76 ih n) by kernel_rfl) ..
theorem c102 (n : Nat) (a0 : IV) (h : Hp) : SS dt (n + 1) 102 [a0] h = S102 (SS dt n) n a0 h := call_1 (show dt.call 102 = fun ih n => ar1 (S102 ih n) by kernel_rfl) ..
theorem c103 (n : Nat) (a0 a1 : IV) (h : Hp) : SS dt (n + 1) 103 [a0, a1] h = S103 (SS dt n) n a0 a1 h := call_2 (show dt.call 103 = fun ih n => ar2 (S103 ih n) by kernel_rfl) ..
theorem c104 (n : Nat) (a0 a1 : IV) (h : Hp) : SS dt (n + 1) 104 [a0, a1] h = S104 (SS dt n) n a0 a1 h := call_2 (show dt.call 104 = fun ih n => ar2 (S104 ih n) by kernel_rfl) ..
theorem c105 (n : Nat) (a0 a1 : IV) (h : Hp) : SS dt (n + 1) 105 [a0, a1] h = S105 (SS dt n) n a0 a1 h := call_2 (show dt.call 105 = fun ih n => ar2 (S105 ih n) by kernel_rfl) ..
theorem c106 (n : Nat) (a0 : IV) (h : Hp) : SS dt (n + 1) 106 [a0] h = S106 (SS dt n) n a0 h := call_1 (show dt.call 106 = fun ih n => ar1 (S106 ih n) by kernel_rfl) ..
theorem c107 (n : Nat) (a0 : IV) (h : Hp) : SS dt (n + 1) 107 [a0] h = S107 (SS dt n) n a0 h := call_1 (show dt.call 107 = fun ih n => ar1 (S107 ih n) by kernel_rfl) ..
theorem c108 (n : Nat) (a0 a1 a2 : IV) (h : Hp) : SS dt (n + 1) 108 [a0, a1, a2] h = S108 (SS dt n) n a0 a1 a2 h := call_3 (show dt.call 108 = fun ih n => ar3 (S108 ih n) by kernel_rfl) ..
theorem c116 (n : Nat) (a0 a1 a2 : IV) (h : Hp) : SS dt (n + 1) 116 [a0, a1, a2] h = S116 (SS dt n) n a0 a1 a2 h := call_3 (show dt.call 116 = fun ih n => ar3 (S116 ih n) by kernel_rfl) ..
end Idl
end Go.Proofs.Ytdibmackcbpniaa

namespace Go.Proofs.Ytdibmackcbpniaa
namespace Idl
end Idl
end Go.Proofs.Ytdibmackcbpniaa

namespace Go.Proofs.Ytdibmackcbpniaa
namespace Idl

section
variable {β : Type} {E : Env} {t : TypeId}
abbrev iv (n : Int) : IV := .fv (.int .i64 n)
theorem x_cond (c : Prop) [Decidable c] (a b : Option β) : condS (.fv (.bool (decide c))) a b = if c then a else b := by
  by_cases h : c
  · rw [decide_eq_true h, if_pos h]; rfl
  · rw [decide_eq_false h, if_neg h]; rfl
theorem x_faddr (o : Nat) (r : Ref) (off : Nat) (k : IV → Option β) : faddrS o (.ptr r off) k = k (.ptr r (off + o)) := by
  show (fNat (off + o) fun o => k (.ptr r o)) = _
  rw [fNat_eq]
theorem x_faddr_f (o : Nat) (cs : List FV) (off : Nat) (k : IV → Option β) : faddrS o (.fv (.fp cs off)) k = k (.fv (.fp cs (off + o))) := by
  show (fNat (off + o) fun o => k (.fv (.fp cs o))) = _
  rw [fNat_eq]
theorem x_ix {size : Nat} {es : List FV} {n : Nat} {el : FV} (he : es[n]? = some el) (hl : el.cells.length = size) (k : IV → Option β) : ixS size (.fv (.sl es)) (iv n) k = k (.fv (.fp el.cells 0)) := by
  show (nthK es n fun el => elK size el k) = _
  rw [nthK_eq, he]
  show elK size el k = _
  rw [elK_eq, if_pos hl]
theorem x_cmpI {op : BinOp} {g : Nat → Nat → Bool} (hg : ∀ a b : Nat, binR E op t (iv a) (iv b) = some (.fv (.bool (g a b)))) (a b : Int) (k : IV → Option β) :
    cmpS E t op g (iv a) (iv b) k = (binR E op t (iv a) (iv b)).bind k := by
  cases a with
  | ofNat a =>
    cases b with
    | ofNat b =>
      show boolK (g a b) k = _
      rw [boolK_eq, show binR E op t (iv (Int.ofNat a)) (iv (Int.ofNat b)) = some (.fv (.bool (g a b))) from hg a b]
      rfl
    | negSucc b =>
      show binS E t op _ _ k = _
      rw [binS, optS_eq]
  | negSucc a =>
    show binS E t op _ _ k = _
    rw [binS, optS_eq]
theorem x_eqI (a b : Int) (k : IV → Option β) : eqS E t (iv a) (iv b) k = k (.fv (.bool (decide (a = b)))) := by
  rw [eqS, x_cmpI (fun a b => by
    show some (IV.fv (.bool ((a : Int) == (b : Int)))) = _
    rw [beq_dec]
    congr 3
    exact decide_eq_decide.2 Int.ofNat_inj)]
  rfl
theorem x_neI (a b : Int) (k : IV → Option β) : neS E t (iv a) (iv b) k = k (.fv (.bool (!decide (a = b)))) := by
  rw [neS, x_cmpI (fun a b => by
    show some (IV.fv (.bool ((a : Int) != (b : Int)))) = _
    rw [beq_dec]
    congr 3
    show (!decide ((a : Int) = (b : Int))) = !decide (a = b)
    congr 1
    exact decide_eq_decide.2 Int.ofNat_inj)]
  rfl
theorem x_ltI (a b : Int) (k : IV → Option β) : ltS E t (iv a) (iv b) k = k (.fv (.bool (decide (a < b)))) := by
  rw [ltS, x_cmpI (fun a b => by
    show some (IV.fv (.bool (decide ((a : Int) < (b : Int))))) = _
    rw [ble_dec]
    congr 3
    exact decide_eq_decide.2 (by omega))]
  rfl
theorem x_leI (a b : Int) (k : IV → Option β) : leS E t (iv a) (iv b) k = k (.fv (.bool (decide (a ≤ b)))) := by
  rw [leS, x_cmpI (fun a b => by
    show some (IV.fv (.bool (decide ((a : Int) ≤ (b : Int))))) = _
    rw [ble_dec]
    congr 3
    exact decide_eq_decide.2 (by omega))]
  rfl
theorem x_not (b : Bool) (k : IV → Option β) : optS (unR .not (.fv (.bool b))) k = k (.fv (.bool !b)) := by
  rw [optS_eq]
  rfl
end
end Idl
end Go.Proofs.Ytdibmackcbpniaa

namespace Go.Proofs.Ytdibmackcbpniaa
namespace Idl

section
variable {β : Type} {α : Type}
theorem n0 (a : α) (l : List α) (k : α → Option β) : nthK (a :: l) 0 k = k a := rfl
theorem n1 (a b : α) (l : List α) (k : α → Option β) : nthK (a :: b :: l) 1 k = k b := rfl
theorem n2 (a b c : α) (l : List α) (k : α → Option β) : nthK (a :: b :: c :: l) 2 k = k c := rfl
theorem n3 (a b c d : α) (l : List α) (k : α → Option β) : nthK (a :: b :: c :: d :: l) 3 k = k d := rfl
theorem n4 (a b c d e : α) (l : List α) (k : α → Option β) : nthK (a :: b :: c :: d :: e :: l) 4 k = k e := rfl
theorem n5 (a b c d e f : α) (l : List α) (k : α → Option β) : nthK (a :: b :: c :: d :: e :: f :: l) 5 k = k f := rfl
theorem n6 (a b c d e f g : α) (l : List α) (k : α → Option β) : nthK (a :: b :: c :: d :: e :: f :: g :: l) 6 k = k g := rfl
theorem d0 (l : List α) (k : List α → Option β) : drpK l 0 k = k l := by cases l <;> rfl
theorem d1 (a : α) (l : List α) (k : List α → Option β) : drpK (a :: l) 1 k = k l := by cases l <;> rfl
theorem d2 (a b : α) (l : List α) (k : List α → Option β) : drpK (a :: b :: l) 2 k = k l := by cases l <;> rfl
theorem d3 (a b c : α) (l : List α) (k : List α → Option β) : drpK (a :: b :: c :: l) 3 k = k l := by cases l <;> rfl
theorem d4 (a b c d : α) (l : List α) (k : List α → Option β) : drpK (a :: b :: c :: d :: l) 4 k = k l := by cases l <;> rfl
theorem t1 (a : α) (l : List α) (k : List α → Option β) : takK (a :: l) 1 k = k [a] := by cases l <;> rfl
theorem t2 (a b : α) (l : List α) (k : List α → Option β) : takK (a :: b :: l) 2 k = k [a, b] := by cases l <;> rfl
theorem t3 (a b c : α) (l : List α) (k : List α → Option β) : takK (a :: b :: c :: l) 3 k = k [a, b, c] := by cases l <;> rfl
theorem t4 (a b c d : α) (l : List α) (k : List α → Option β) : takK (a :: b :: c :: d :: l) 4 k = k [a, b, c, d] := by cases l <;> rfl
theorem t7 (a b c d e f g : α) (l : List α) (k : List α → Option β) : takK (a :: b :: c :: d :: e :: f :: g :: l) 7 k = k [a, b, c, d, e, f, g] := by cases l <;> rfl
theorem sp_e (l : List α) (k : List α → Option β) : spK l k = k l := spK_eq l k
theorem ap0 (us : List α) (k : List α → Option β) : apK [] us k = k us := rfl
theorem ap1 (u : α) (l us : List α) (k : List α → Option β) : apK (u :: l) us k = apK l us fun w => k (u :: w) := rfl
theorem unc_c (a : α) (l : List α) (k : α → List α → Option β) : uncS (a :: l) k = k a l := rfl
theorem c_t {γ : Type} (a b : γ) : cond true a b = a := rfl
theorem c_f {γ : Type} (a b : γ) : cond false a b = b := rfl
end

section
variable {β : Type}
theorem N_bf {s j : Nat} (h : (s == j) = false) : Nat.beq s j = false := by
  rw [beq_dec]
  simpa using h
theorem g_own (s : Nat) (own : List (Nat × Blk)) (ext : List Blk) (k : Blk → Option β) : getK (.own s) ⟨own, ext⟩ k = ownK own s k := rfl
theorem g_ext (j : Nat) (own : List (Nat × Blk)) (ext : List Blk) (k : Blk → Option β) : getK (.ext j) ⟨own, ext⟩ k = nthK ext j k := rfl
theorem o_hit (s : Nat) (b : Blk) (l : List (Nat × Blk)) (k : Blk → Option β) : ownK ((s, b) :: l) s k = k b := by
  show cond (Nat.beq s s) (k b) _ = _
  rw [show Nat.beq s s = true from Nat.beq_refl s]
  rfl
theorem o_miss {s j : Nat} (hne : (s == j) = false) (b : Blk) (l : List (Nat × Blk)) (k : Blk → Option β) : ownK ((j, b) :: l) s k = ownK l s k := by
  show cond (Nat.beq s j) (k b) _ = _
  rw [show Nat.beq s j = false from N_bf hne]
  rfl
theorem p_nil (s : Nat) (b : Blk) (k : List (Nat × Blk) → Option β) : putOwnK [] s b k = k [(s, b)] := rfl
theorem p_hit (s : Nat) (b c : Blk) (l : List (Nat × Blk)) (k : List (Nat × Blk) → Option β) : putOwnK ((s, c) :: l) s b k = k ((s, b) :: l) := by
  show cond (Nat.beq s s) _ _ = _
  rw [show Nat.beq s s = true from Nat.beq_refl s]
  rfl
theorem p_miss {s j : Nat} (hne : (s == j) = false) (b c : Blk) (l : List (Nat × Blk)) (k : List (Nat × Blk) → Option β) : putOwnK ((j, c) :: l) s b k = putOwnK l s b fun l => k ((j, c) :: l) := by
  show cond (Nat.beq s j) _ _ = _
  rw [show Nat.beq s j = false from N_bf hne]
  rfl
theorem f_nil (s : Nat) (a : Option β) : freshK [] s a = a := rfl
theorem f_cons {s j : Nat} (hne : (s == j) = false) (b : Blk) (l : List (Nat × Blk)) (a : Option β) : freshK ((j, b) :: l) s a = freshK l s a := by
  show cond (Nat.beq s j) none _ = _
  rw [show Nat.beq s j = false from N_bf hne]
  rfl
theorem lay_own (s : Nat) (b : Blk) (own : List (Nat × Blk)) (ext : List Blk) (k : Hp → Option β) : layK (.own s) b ⟨own, ext⟩ k = putOwnK own s b fun own => k ⟨own, ext⟩ := rfl
theorem lay_ext (j : Nat) (b : Blk) (own : List (Nat × Blk)) (ext : List Blk) (k : Hp → Option β) : layK (.ext j) b ⟨own, ext⟩ k = setNK ext j b fun ext => k ⟨own, ext⟩ := rfl
theorem sn0 {α : Type} (a b : α) (l : List α) (k : List α → Option β) : setNK (a :: l) 0 b k = k (b :: l) := rfl
theorem new_e (s : Nat) (b : Blk) (v : IV) (own : List (Nat × Blk)) (ext : List Blk) (k : IV → Hp → List Ref → List Ref → Option β) :
    newS s b v ⟨own, ext⟩ k = freshK own s (putOwnK own s b fun own => k v ⟨own, ext⟩ [] [.own s]) := rfl
theorem box_agg (s : Nat) (cs : List FV) (h : Hp) (k : IV → Hp → List Ref → List Ref → Option β) : boxS s (.fv (.agg cs)) h k = newS s (.row (cs.map .fv) false) (.ptr (.own s) 0) h k := by
  show spK (cs.map IV.fv) _ = _
  rw [spK_eq]
theorem box_agg' (s : Nat) (cs : List IV) (h : Hp) (k : IV → Hp → List Ref → List Ref → Option β) : boxS s (.agg cs) h k = newS s (.row cs false) (.ptr (.own s) 0) h k := by
  show spK cs _ = _
  rw [spK_eq]
theorem box_one {x : IV} (hx : x.one = true) (s : Nat) (h : Hp) (k : IV → Hp → List Ref → List Ref → Option β) : boxS s x h k = newS s (.row [x] false) (.ptr (.own s) 0) h k := by
  unfold boxS; rw [hx]; rfl
theorem on_int (k : IntKind) (n : Int) : IV.one (.fv (.int k n)) = true := rfl
theorem on_bool (b : Bool) : IV.one (.fv (.bool b)) = true := rfl
theorem on_sl (l : List FV) : IV.one (.fv (.sl l)) = true := rfl
theorem on_fp (l : List FV) (o : Nat) : IV.one (.fv (.fp l o)) = true := rfl
theorem on_func (fn : Fn) (a b : List FV) : IV.one (.fv (.func fn a b)) = true := rfl
theorem on_nilp : IV.one (.fv .nilp) = true := rfl
theorem on_nils : IV.one .nils = true := rfl
theorem on_ptr (r : Ref) (o : Nat) : IV.one (.ptr r o) = true := rfl
theorem on_slc (r : Ref) (a b : Nat) : IV.one (.slc r a b) = true := rfl
theorem on_app (r : Ref) (l : List FV) : IV.one (.app r l) = true := rfl
theorem on_clip (l : List FV) : IV.one (.clip l) = true := rfl
theorem on_emp : IV.one .emp = true := rfl
theorem on_agg (l : List IV) : IV.one (.agg l) = false := rfl
theorem on_fagg (l : List FV) : IV.one (.fv (.agg l)) = false := rfl
theorem of_int (k : IntKind) (n : Int) : oneF (.int k n) = true := rfl
theorem of_bool (b : Bool) : oneF (.bool b) = true := rfl
theorem of_sl (l : List FV) : oneF (.sl l) = true := rfl
theorem of_fp (l : List FV) (o : Nat) : oneF (.fp l o) = true := rfl
theorem of_nilp : oneF .nilp = true := rfl
theorem of_agg (l : List FV) : oneF (.agg l) = false := rfl
theorem aof_nil : allOneF [] = true := rfl
theorem aof_cons {v : FV} (h : oneF v = true) (l : List FV) : allOneF (v :: l) = allOneF l := by
  show cond (oneF v) (allOneF l) false = _
  rw [h]; rfl
theorem as_p (r : Ref) (o : Nat) (k : Ref → Nat → Option β) (kf : List FV → Nat → Option β) : asPtr (.ptr r o) k kf = k r o := rfl
theorem as_f (cs : List FV) (o : Nat) (k : Ref → Nat → Option β) (kf : List FV → Nat → Option β) : asPtr (.fv (.fp cs o)) k kf = kf cs o := rfl
theorem as_row (cs : List IV) (ro : Bool) (k : List IV → Option β) : asRow (.row cs ro) k = k cs := rfl
theorem as_free (cs : List IV) (k : List IV → Option β) : asFree (.row cs false) k = k cs := rfl
theorem as_fv (v : FV) (e : Option β) (k : FV → Option β) : asF (.fv v) e k = k v := rfl
theorem as_nf1 (l : List IV) (e : Option β) (k : FV → Option β) : asF (.agg l) e k = e := rfl
theorem as_nf2 (e : Option β) (k : FV → Option β) : asF .nils e k = e := rfl
theorem as_nf3 (r : Ref) (o : Nat) (e : Option β) (k : FV → Option β) : asF (.ptr r o) e k = e := rfl
theorem as_nf4 (r : Ref) (o : List FV) (e : Option β) (k : FV → Option β) : asF (.app r o) e k = e := rfl
theorem as_nf5 (o : List FV) (e : Option β) (k : FV → Option β) : asF (.clip o) e k = e := rfl
theorem as_nf6 (r : Ref) (a b : Nat) (e : Option β) (k : FV → Option β) : asF (.slc r a b) e k = e := rfl
theorem as_nf7 (e : Option β) (k : FV → Option β) : asF .emp e k = e := rfl
theorem as_agF (cs : List FV) (k : List FV → Option β) : asAggF (.agg cs) k = k cs := rfl
theorem as_ag (cs : List IV) (k : List IV → Option β) (kf : List FV → Option β) : asAgg (.agg cs) k kf = k cs := rfl
theorem as_ag' (cs : List FV) (k : List IV → Option β) (kf : List FV → Option β) : asAgg (.fv (.agg cs)) k kf = kf cs := rfl
theorem alv_nil (e : Option β) (k : List FV → Option β) : allFvK [] e k = k [] := rfl
theorem alv_fv (v : FV) (l : List IV) (e : Option β) (k : List FV → Option β) : allFvK (.fv v :: l) e k = allFvK l e fun vs => k (v :: vs) := rfl
theorem alv_nils (l : List IV) (e : Option β) (k : List FV → Option β) : allFvK (.nils :: l) e k = e := rfl
theorem alv_app (r : Ref) (es : List FV) (l : List IV) (e : Option β) (k : List FV → Option β) : allFvK (.app r es :: l) e k = e := rfl
theorem alv_clip (es : List FV) (l : List IV) (e : Option β) (k : List FV → Option β) : allFvK (.clip es :: l) e k = e := rfl
theorem alv_ptr (r : Ref) (o : Nat) (l : List IV) (e : Option β) (k : List FV → Option β) : allFvK (.ptr r o :: l) e k = e := rfl
theorem alv_slc (r : Ref) (a b : Nat) (l : List IV) (e : Option β) (k : List FV → Option β) : allFvK (.slc r a b :: l) e k = e := rfl
theorem alv_agg (es l : List IV) (e : Option β) (k : List FV → Option β) : allFvK (.agg es :: l) e k = e := rfl
theorem alv_mapr (r : Ref) (l : List IV) (e : Option β) (k : List FV → Option β) : allFvK (.mapr r :: l) e k = e := rfl
theorem agg_e (l : List IV) (k : IV → Option β) : aggK l k = allFvK l (k (.agg l)) fun vs => k (.fv (.agg vs)) := rfl
theorem tup_e (l : List IV) (k : IV → Option β) : tupK l k = allFvK l (k (.tuple l)) fun vs => k (.fv (.tuple vs)) := rfl
theorem l1_e (a : IV) (h : Hp) (k : IV → List Ref → Option β) : load1 a h k = asPtr a (fun r o => getK r h fun b => asRow b fun cells => nthK cells o fun v => k v [r]) fun cells o => nthK cells o fun v => k (.fv v) [] := rfl
theorem lA_e (size : Nat) (a : IV) (h : Hp) (k : IV → List Ref → Option β) : loadA size a h k =
    asPtr a (fun r o => getK r h fun b => asRow b fun cells => drpK cells o fun cs => takK cs size fun cs => aggK cs fun v => k v [r]) fun cells o => drpK cells o fun cs => takK cs size fun cs => k (.fv (.agg cs)) [] := rfl
theorem cell_t (size : Nat) (a : IV) (h : Hp) (k : IV → Option β) : cellS true size a h k = loadA size a h fun v _ => k v := rfl
theorem cell_f (size : Nat) (a : IV) (h : Hp) (k : IV → Option β) : cellS false size a h k = load1 a h fun v _ => k v := rfl
theorem wr0 (l : List IV) (k : List IV → Option β) : wrK [] l k = k l := rfl
theorem wr1 (c : FV) (cs : List FV) (x : IV) (l : List IV) (k : List IV → Option β) : wrK (c :: cs) (x :: l) k = wrK cs l fun t => k (.fv c :: t) := rfl
theorem sf0 (x : IV) (l : List IV) (cs : List FV) (k : List IV → Option β) : setFK (x :: l) 0 cs k = wrK cs (x :: l) k := rfl
theorem sf1 (x : IV) (l : List IV) (cs : List FV) (k : List IV → Option β) : setFK (x :: l) 1 cs k = setFK l 0 cs fun t => k (x :: t) := rfl
theorem sf2 (x y : IV) (l : List IV) (cs : List FV) (k : List IV → Option β) : setFK (x :: y :: l) 2 cs k = setFK l 0 cs fun t => k (x :: y :: t) := rfl
theorem sf3 (x y z : IV) (l : List IV) (cs : List FV) (k : List IV → Option β) : setFK (x :: y :: z :: l) 3 cs k = setFK l 0 cs fun t => k (x :: y :: z :: t) := rfl
theorem sf4 (x y z u : IV) (l : List IV) (cs : List FV) (k : List IV → Option β) : setFK (x :: y :: z :: u :: l) 4 cs k = setFK l 0 cs fun t => k (x :: y :: z :: u :: t) := rfl
theorem of0 (x b : IV) (l : List IV) (k : List IV → Option β) : offK (x :: l) 0 b k = k (b :: l) := rfl
theorem of1 (x y b : IV) (l : List IV) (k : List IV → Option β) : offK (x :: y :: l) 1 b k = k (x :: b :: l) := rfl
theorem of2 (x y z b : IV) (l : List IV) (k : List IV → Option β) : offK (x :: y :: z :: l) 2 b k = k (x :: y :: b :: l) := rfl
theorem of3 (x y z u b : IV) (l : List IV) (k : List IV → Option β) : offK (x :: y :: z :: u :: l) 3 b k = k (x :: y :: z :: b :: l) := rfl
theorem of6 (x y z u v w s b : IV) (l : List IV) (k : List IV → Option β) : offK (x :: y :: z :: u :: v :: w :: s :: l) 6 b k = k (x :: y :: z :: u :: v :: w :: b :: l) := rfl
theorem sA_f (size : Nat) (a : IV) (cs : List FV) (h : Hp) (k : Hp → List Ref → List Ref → Option β) : storeA size a (.fv (.agg cs)) h k =
    asPtr a (fun r o => getK r h fun b => asFree b fun cells => cond (and (Nat.beq cs.length size) (allOneF cs)) (setFK cells o cs fun cells => layK r (.row cells false) h fun h => k h [r] [r]) none) fun _ _ => none := rfl
theorem ml_own (s : Nat) (x : IV) : mayLie (.own s) x = true := rfl
theorem sA_3 (s : Nat) (a b c : IV) (ha : a.one = true) (hb : b.one = true) (hc : c.one = true) (own : List (Nat × Blk)) (ext : List Blk) (k : Hp → List Ref → List Ref → Option β) :
    storeA 3 (.ptr (.own s) 0) (.agg [a, b, c]) ⟨own, ext⟩ k = ownK own s fun bl => asFree bl fun cells => cond (Nat.ble 3 cells.length) (layK (.own s) (.row (setCells cells 0 [a, b, c]) false) ⟨own, ext⟩ fun h => k h [.own s] [.own s]) none := by
  show ownK own s (fun bl => asFree bl fun cells => if IV.alive (.agg [a, b, c]) = true ∧ (IV.cells (.agg [a, b, c])).length = 3 ∧ 0 + 3 ≤ cells.length ∧ (IV.cells (.agg [a, b, c])).all IV.one = true ∧ mayLie (.own s) (.agg [a, b, c]) = true then
    spK (setCells cells 0 (IV.cells (.agg [a, b, c]))) fun cells => layK (.own s) (.row cells false) ⟨own, ext⟩ fun h => k h [.own s] [.own s] else none) = _
  congr 1
  funext bl
  congr 1
  funext cells
  by_cases h3 : 3 ≤ cells.length
  · rw [if_pos ⟨rfl, rfl, by omega, by simp [IV.cells, ha, hb, hc], rfl⟩, spK_eq, ble_dec, decide_eq_true h3]
    rfl
  · rw [if_neg (fun h => h3 (by omega)), ble_dec, decide_eq_false h3]
    rfl
theorem sc3 (a b c x y z : IV) : setCells [x, y, z] 0 [a, b, c] = [a, b, c] := rfl
theorem s1_e (a x : IV) (h : Hp) (k : Hp → List Ref → List Ref → Option β) : store1 a x h k =
    cond x.one (asPtr a (fun r o => getK r h fun b => asFree b fun cells => cond (mayLie r x) (offK cells o x fun cells => layK r (.row cells false) h fun h => k h [r] [r]) none) fun _ _ => none) (storeA 1 a x h k) := rfl
theorem fa_p (o : Nat) (r : Ref) (k : IV → Option β) : faddrS o (.ptr r 0) k = k (.ptr r o) := by rw [x_faddr, Nat.zero_add]
theorem fa_f (o : Nat) (cs : List FV) (k : IV → Option β) : faddrS o (.fv (.fp cs 0)) k = k (.fv (.fp cs o)) := by rw [x_faddr_f, Nat.zero_add]
theorem nil_p (r : Ref) (o : Nat) (k : IV → Option β) : nilS (.ptr r o) k = k (.ptr r o) := rfl
theorem nil_f (cs : List FV) (o : Nat) (k : IV → Option β) : nilS (.fv (.fp cs o)) k = k (.fv (.fp cs o)) := rfl
theorem nil_func (g : FuncId) (a b : List FV) (k : IV → Option β) : nilS (.fv (.func (.func g) a b)) k = k (.fv (.func (.func g) a b)) := rfl
theorem ex_t (ix : Nat) (vs : List IV) (k : IV → Option β) : extS ix (.tuple vs) k = nthK vs ix k := rfl
theorem ex_f (ix : Nat) (vs : List FV) (k : IV → Option β) : extS ix (.fv (.tuple vs)) k = nthK vs ix fun v => k (.fv v) := rfl
theorem f1_e (o : Nat) (x : IV) (k : IV → Option β) : fld1 o x k = asAgg x (fun cs => nthK cs o k) fun cs => nthK cs o fun v => k (.fv v) := rfl
theorem fA_e (size o : Nat) (x : IV) (k : IV → Option β) : fldA size o x k = asAgg x (fun cs => drpK cs o fun cs => takK cs size fun cs => aggK cs k) fun cs => drpK cs o fun cs => takK cs size fun cs => k (.fv (.agg cs)) := rfl
theorem bld_e (z : List IV) (pl : List (Nat × Nat × IV)) (k : IV → Option β) : bldS z pl k = fillK z pl fun cells => aggK cells k := rfl
theorem fk0 (z : List IV) (k : List IV → Option β) : fillK z [] k = k z := rfl
theorem fk1 (z : List IV) (o sz : Nat) (v : IV) (pl : List (Nat × Nat × IV)) (k : List IV → Option β) : fillK z ((o, sz, v) :: pl) k = fillP z o sz v fun z => fillK z pl k := rfl
theorem fp_one {v : IV} (hv : v.one = true) (z : List IV) (o : Nat) (k : List IV → Option β) : fillP z o 1 v k = offK z o v k := by
  unfold fillP
  cases v with
  | fv w =>
    show cond (oneF w) _ _ = _
    have : oneF w = true := by cases w <;> first | rfl | cases hv
    rw [this]; rfl
  | _ => show fillG _ _ _ _ _ = _; unfold fillG; rw [hv]; rfl
theorem fp_agg (z : List IV) (o sz : Nat) (cs : List FV) (k : List IV → Option β) : fillP z o sz (.fv (.agg cs)) k = cond (Nat.beq cs.length sz) (setFK z o cs k) none := rfl
theorem nb3 (a b c : FV) : Nat.beq [a, b, c].length 3 = true := rfl
theorem nb4 (a b c d : FV) : Nat.beq [a, b, c, d].length 4 = true := rfl
theorem nb7 (a b c d e f g : FV) : Nat.beq [a, b, c, d, e, f, g].length 7 = true := rfl
theorem nl3 (a b c : IV) : Nat.ble 3 [a, b, c].length = true := rfl
theorem and_tt : (and true true) = true := rfl
end
end Idl
end Go.Proofs.Ytdibmackcbpniaa

namespace Go.Proofs.Ytdibmackcbpniaa
namespace Idl

section
variable {β : Type} {E : Env} {t : TypeId}
theorem iv_e (n : Int) : IV.fv (.int .i64 n) = iv n := rfl
def w64 (n : Int) : Int := IntKind.i64.wrap n
theorem w64_id {n : Int} (h1 : -9223372036854775808 ≤ n) (h2 : n ≤ 9223372036854775807) : w64 n = n := by
  show (if (true && decide ((n % (18446744073709551616 : Int)) ≥ (9223372036854775808 : Int))) = true then (n % (18446744073709551616 : Int)) - (18446744073709551616 : Int) else (n % (18446744073709551616 : Int))) = n
  by_cases h : 0 ≤ n
  · have e : n % (18446744073709551616 : Int) = n := by omega
    have e2 : ¬ n ≥ (9223372036854775808 : Int) := by omega
    rw [e, decide_eq_false e2]
    rfl
  · have e : n % (18446744073709551616 : Int) = n + 18446744073709551616 := by omega
    have e2 : n + 18446744073709551616 ≥ (9223372036854775808 : Int) := by omega
    rw [e, decide_eq_true e2]
    simp
theorem add_s (a b : Int) (k : IV → Option β) : addS E t (iv a) (iv b) k = k (iv (w64 (a + b))) := by
  have hg : binS E t .add (iv a) (iv b) k = k (iv (w64 (a + b))) := by
    rw [binS, optS_eq]; rfl
  cases a with
  | negSucc a => exact hg
  | ofNat a => cases b with
    | negSucc b => exact hg
    | ofNat b =>
      show cond (Nat.ble (a + b) 9223372036854775807) (intK (a + b) k) _ = _
      rw [ble_dec]
      by_cases h : a + b ≤ 9223372036854775807
      · rw [decide_eq_true h]
        show intK (a + b) k = _
        rw [intK_eq]
        have : w64 (Int.ofNat a + Int.ofNat b) = ((a + b : Nat) : Int) := by
          rw [w64_id (by simp only [Int.ofNat_eq_natCast]; omega) (by simp only [Int.ofNat_eq_natCast]; omega)]
          simp only [Int.ofNat_eq_natCast]; omega
        rw [this]
      · rw [decide_eq_false h]
        exact hg
theorem sub_s (a b : Int) (k : IV → Option β) : subS E t (iv a) (iv b) k = k (iv (w64 (a - b))) := by
  have hg : binS E t .sub (iv a) (iv b) k = k (iv (w64 (a - b))) := by
    rw [binS, optS_eq]; rfl
  cases a with
  | negSucc a => exact hg
  | ofNat a => cases b with
    | negSucc b => exact hg
    | ofNat b =>
      show cond (and (Nat.ble b a) (Nat.ble a 9223372036854775807)) (intK (a - b) k) _ = _
      rw [ble_dec, ble_dec]
      by_cases h : b ≤ a ∧ a ≤ 9223372036854775807
      · rw [decide_eq_true h.1, decide_eq_true h.2]
        show intK (a - b) k = _
        rw [intK_eq]
        have : w64 (Int.ofNat a - Int.ofNat b) = ((a - b : Nat) : Int) := by
          rw [w64_id (by simp only [Int.ofNat_eq_natCast]; omega) (by simp only [Int.ofNat_eq_natCast]; omega)]
          simp only [Int.ofNat_eq_natCast]; omega
        rw [this]
      · have : (decide (b ≤ a) && decide (a ≤ 9223372036854775807)) = false := by
          rw [← Bool.decide_and]; exact decide_eq_false h
        rw [show and (decide (b ≤ a)) (decide (a ≤ 9223372036854775807)) = false from this]
        exact hg
theorem mul_s (a b : Int) (k : IV → Option β) : binS E t .mul (iv a) (iv b) k = k (iv (w64 (a * b))) := by
  rw [binS, optS_eq]; rfl
theorem quo_s {b : Int} (hb : b ≠ 0) (a : Int) (k : IV → Option β) : binS E t .quo (iv a) (iv b) k = k (iv (w64 (a.tdiv b))) := by
  rw [binS, optS_eq]
  have : binR E .quo t (iv a) (iv b) = some (iv (w64 (a.tdiv b))) := by
    show (pureVal (Op.intDiv .quo .i64 a b)).bind ofScal = _
    simp only [Op.intDiv, hb, if_false]
    rfl
  rw [this]; rfl
theorem rem_s {b : Int} (hb : b ≠ 0) (a : Int) (k : IV → Option β) : binS E t .rem (iv a) (iv b) k = k (iv (a.tmod b)) := by
  rw [binS, optS_eq]
  have : binR E .rem t (iv a) (iv b) = some (iv (a.tmod b)) := by
    show (pureVal (Op.intDiv .rem .i64 a b)).bind ofScal = _
    simp only [Op.intDiv, hb, if_false]
    rfl
  rw [this]; rfl
theorem eq_s (a b : Int) (k : IV → Option β) : eqS E t (iv a) (iv b) k = k (.fv (.bool (decide (a = b)))) := x_eqI a b k
theorem ne_s (a b : Int) (k : IV → Option β) : neS E t (iv a) (iv b) k = k (.fv (.bool (!decide (a = b)))) := x_neI a b k
theorem lt_s (a b : Int) (k : IV → Option β) : ltS E t (iv a) (iv b) k = k (.fv (.bool (decide (a < b)))) := x_ltI a b k
theorem le_s (a b : Int) (k : IV → Option β) : leS E t (iv a) (iv b) k = k (.fv (.bool (decide (a ≤ b)))) := x_leI a b k
theorem gt_s (a b : Int) (k : IV → Option β) : gtS E t (iv a) (iv b) k = k (.fv (.bool (decide (b < a)))) := by
  rw [gtS, x_cmpI (fun a b => by
    show some (IV.fv (.bool (decide ((a : Int) > (b : Int))))) = _
    rw [ble_dec]
    congr 3
    exact decide_eq_decide.2 (by omega))]
  rfl
theorem ge_s (a b : Int) (k : IV → Option β) : geS E t (iv a) (iv b) k = k (.fv (.bool (decide (b ≤ a)))) := by
  rw [geS, x_cmpI (fun a b => by
    show some (IV.fv (.bool (decide ((a : Int) ≥ (b : Int))))) = _
    rw [ble_dec]
    congr 3
    exact decide_eq_decide.2 (by omega))]
  rfl
theorem eq_sb (a b : Bool) (hT : E.T t = some ⟨1, 1, .bool, [.fv (.bool false)]⟩) (k : IV → Option β) : eqS E t (.fv (.bool a)) (.fv (.bool b)) k = k (.fv (.bool (a == b))) := by
  show binS E t .eql _ _ k = _
  rw [binS, optS_eq]
  have : binR E .eql t (.fv (.bool a)) (.fv (.bool b)) = some (.fv (.bool (a == b))) := by
    simp only [binR, hT, eqOp]
  rw [this]; rfl
theorem not_s (b : Bool) (k : IV → Option β) : optS (unR .not (.fv (.bool b))) k = k (.fv (.bool !b)) := x_not b k
theorem cd_t (a b : Option β) : condS (.fv (.bool true)) a b = a := rfl
theorem cd_f (a b : Option β) : condS (.fv (.bool false)) a b = b := rfl
theorem cd_d (c : Prop) [Decidable c] (a b : Option β) : condS (.fv (.bool (decide c))) a b = if c then a else b := x_cond c a b
theorem cd_n (c : Prop) [Decidable c] (a b : Option β) : condS (.fv (.bool (!decide c))) a b = if c then b else a := by
  by_cases h : c
  · rw [decide_eq_true h, if_pos h]; rfl
  · rw [decide_eq_false h, if_neg h]; rfl
theorem cd_b (c : Bool) (a b : Option β) : condS (.fv (.bool c)) a b = if c = true then a else b := by
  cases c <;> rfl
theorem pk_e (c a b : IV) (k : IV → Option β) : pickS c a b k = condS c (k a) (k b) := rfl
theorem gd_mt {b : Bool} (hb : b = true) (h : Hp) (m : (IV → Hp → List Ref → List Ref → Option β) → Option β) (k : IV → Hp → List Ref → List Ref → Option β) : guardS (.fv (.bool b)) true h m k = m k := by rw [hb]; rfl
theorem gd_mf {b : Bool} (hb : b = false) (h : Hp) (m : (IV → Hp → List Ref → List Ref → Option β) → Option β) (k : IV → Hp → List Ref → List Ref → Option β) : guardS (.fv (.bool b)) false h m k = m k := by rw [hb]; rfl
theorem gd_sf {b : Bool} (hb : b = true) (h : Hp) (m : (IV → Hp → List Ref → List Ref → Option β) → Option β) (k : IV → Hp → List Ref → List Ref → Option β) : guardS (.fv (.bool b)) false h m k = k undefV h [] [] := by rw [hb]; rfl
theorem gd_st {b : Bool} (hb : b = false) (h : Hp) (m : (IV → Hp → List Ref → List Ref → Option β) → Option β) (k : IV → Hp → List Ref → List Ref → Option β) : guardS (.fv (.bool b)) true h m k = k undefV h [] [] := by rw [hb]; rfl
theorem gd_u (w : Bool) (h : Hp) (m : (IV → Hp → List Ref → List Ref → Option β) → Option β) (k : IV → Hp → List Ref → List Ref → Option β) : guardS undefV w h m k = k undefV h [] [] := rfl
theorem ch0 (rd wr : List Ref) (a : Option β) : chkS [] rd wr a = a := rfl
theorem ch1 (q1 q2 : List Ref) (l : List (List Ref × List Ref)) (rd wr : List Ref) (a : Option β) : chkS ((q1, q2) :: l) rd wr a = cond (djB q2 rd) (cond (djB q2 wr) (cond (djB wr q1) (chkS l rd wr a) none) none) none := rfl
theorem dj0 (b : List Ref) : djB [] b = true := rfl
theorem djn : ∀ (a : List Ref), djB a [] = true
  | [] => rfl
  | _ :: a => djn a
theorem dj1 (r : Ref) (a b : List Ref) : djB (r :: a) b = cond (allNe r b) (djB a b) false := rfl
theorem an0 (r : Ref) : allNe r [] = true := rfl
theorem an1 (r s : Ref) (l : List Ref) : allNe r (s :: l) = cond (refNe r s) (allNe r l) false := rfl
theorem rn_o {i j : Nat} (h : (i == j) = false) : refNe (.own i) (.own j) = true := by
  show not (Nat.beq i j) = true
  rw [show Nat.beq i j = false from N_bf h]; rfl
theorem rn_oe (i j : Nat) : refNe (.own i) (.ext j) = true := rfl
theorem rn_eo (i j : Nat) : refNe (.ext i) (.own j) = true := rfl
theorem out1 (v : IV) (h : Hp) : outS1 [v] h = some (v, h) := rfl
theorem out0 (h : Hp) : outS1 [] h = some (.fv (.tuple []), h) := rfl
theorem out2 (a b : IV) (h : Hp) : outS1 [a, b] h = tupK [a, b] fun v => some (v, h) := rfl
theorem out3 (a b c : IV) (h : Hp) : outS1 [a, b, c] h = tupK [a, b, c] fun v => some (v, h) := rfl
theorem out4 (a b c d : IV) (h : Hp) : outS1 [a, b, c, d] h = tupK [a, b, c, d] fun v => some (v, h) := rfl
theorem len_f (es : List FV) (k : IV → Option β) : lenS (.fv (.sl es)) k = k (iv es.length) := intK_eq ..
theorem len_0 (k : IV → Option β) : lenS .nils k = k (iv 0) := rfl
theorem len_c (es : List FV) (k : IV → Option β) : lenS (.clip es) k = k (iv es.length) := intK_eq ..
theorem len_a (r : Ref) (es : List FV) (k : IV → Option β) : lenS (.app r es) k = k (iv es.length) := intK_eq ..
theorem len_s (r : Ref) (sz n : Nat) (k : IV → Option β) : lenS (.slc r sz n) k = k (iv n) := intK_eq ..
theorem ix_f {size : Nat} {es : List FV} {n : Nat} {el : FV} (he : es[n]? = some el) (hl : el.cells.length = size) (k : IV → Option β) : ixS size (.fv (.sl es)) (iv n) k = k (.fv (.fp el.cells 0)) := x_ix he hl k
theorem ix_a {size : Nat} {r : Ref} {es : List FV} {n : Nat} {el : FV} (he : es[n]? = some el) (hl : el.cells.length = size) (k : IV → Option β) : ixS size (.app r es) (iv n) k = k (.fv (.fp el.cells 0)) := x_ix he hl k
theorem ix_c {size : Nat} {es : List FV} {n : Nat} {el : FV} (he : es[n]? = some el) (hl : el.cells.length = size) (k : IV → Option β) : ixS size (.clip es) (iv n) k = k (.fv (.fp el.cells 0)) := x_ix he hl k
theorem ix_s {size sz len : Nat} {r : Ref} {n : Nat} (hn : n < len) (hs : sz = size) (k : IV → Option β) : ixS size (.slc r sz len) (iv n) k = k (.ptr r (n * sz)) := by
  show cond (and (Nat.ble (Nat.succ n) len) (Nat.beq sz size)) (fNat (n * sz) fun o => k (.ptr r o)) none = _
  rw [ble_dec, decide_eq_true (show Nat.succ n ≤ len from hn), hs, show Nat.beq size size = true from Nat.beq_refl size]
  simp only [Bool.and_self, cond_true]
  rw [fNat_eq]
theorem ix0_agg (size : Nat) (cs : List FV) (es : List FV) (hl : cs.length = size) (k : IV → Option β) : ixS size (.fv (.sl (.agg cs :: es))) (iv 0) k = k (.fv (.fp cs 0)) := ix_f (el := .agg cs) (n := 0) rfl hl k
theorem ix1_agg (size : Nat) (cs : List FV) (e : FV) (es : List FV) (hl : cs.length = size) (k : IV → Option β) : ixS size (.fv (.sl (e :: .agg cs :: es))) (iv 1) k = k (.fv (.fp cs 0)) := ix_f (el := .agg cs) (n := 1) rfl hl k
theorem ix2_agg (size : Nat) (cs : List FV) (e e' : FV) (es : List FV) (hl : cs.length = size) (k : IV → Option β) : ixS size (.fv (.sl (e :: e' :: .agg cs :: es))) (iv 2) k = k (.fv (.fp cs 0)) := ix_f (el := .agg cs) (n := 2) rfl hl k
theorem ix3_agg (size : Nat) (cs : List FV) (e e' e'' : FV) (es : List FV) (hl : cs.length = size) (k : IV → Option β) : ixS size (.fv (.sl (e :: e' :: e'' :: .agg cs :: es))) (iv 3) k = k (.fv (.fp cs 0)) := ix_f (el := .agg cs) (n := 3) rfl hl k

def Fz (v : IV) (own : List (Nat × Blk)) (w : FV) : Prop := ∃ u lg, ∀ (e : Option (IV × Hp)) (K : FV → List (Ref × Blk) → List Ref → Option (IV × Hp)), fzU 12 v ⟨own, []⟩ [] e K = K w u lg
def Ans (r : Option (IV × Hp)) (w : FV) : Prop := ∃ v own, r = some (v, ⟨own, []⟩) ∧
  (Fz v own w ∨ ((∀ (e : Option (IV × Hp)) (K : FV → List (Ref × Blk) → List Ref → Option (IV × Hp)), fzU 12 v ⟨own, []⟩ [] e K = e) ∧ ∃ u, (frz 4096 v).run ⟨own, []⟩ = some (w, u)))
def AnsF (r : Option (IV × Hp)) (w : FV) : Prop := ∃ v own, r = some (v, ⟨own, []⟩) ∧ Fz v own w
theorem fz_fv (w : FV) (own : List (Nat × Blk)) : Fz (.fv w) own w := ⟨[], [], fun _ _ => rfl⟩
theorem ans_fv (w : FV) (own : List (Nat × Blk)) : Ans (some (.fv w, ⟨own, []⟩)) w := ⟨_, own, rfl, .inl (fz_fv w own)⟩
def frz1 : IV → Option FV
  | .fv v => some v
  | .nils => some (.sl [])
  | .emp => some (.sl [])
  | .clip es => some (.sl es)
  | .app _ es => some (.sl es)
  | _ => none
def frz1L : List IV → Option (List FV)
  | [] => some []
  | v :: l => (frz1 v).bind fun x => (frz1L l).map fun xs => x :: xs
def frzP (v : IV) : Option FV := match v with
  | .agg cs => if cs.length ≤ 8 then (frz1L cs).map .agg else none
  | v => frz1 v
def frzPL : List IV → Option (List FV)
  | [] => some []
  | v :: l => (frzP v).bind fun x => (frzPL l).map fun xs => x :: xs
theorem zp_fv (v : FV) : frzP (.fv v) = some v := rfl
theorem zp_nils : frzP .nils = some (.sl []) := rfl
theorem zp_emp : frzP .emp = some (.sl []) := rfl
theorem zp_clip (es : List FV) : frzP (.clip es) = some (.sl es) := rfl
theorem zp_app (r : Ref) (es : List FV) : frzP (.app r es) = some (.sl es) := rfl
theorem zq_fv (v : FV) : frz1 (.fv v) = some v := rfl
theorem zq_nils : frz1 .nils = some (.sl []) := rfl
theorem zq_emp : frz1 .emp = some (.sl []) := rfl
theorem zq_clip (es : List FV) : frz1 (.clip es) = some (.sl es) := rfl
theorem zq_app (r : Ref) (es : List FV) : frz1 (.app r es) = some (.sl es) := rfl
theorem zp_3 {a b c : IV} {x y z : FV} (ha : frz1 a = some x) (hb : frz1 b = some y) (hc : frz1 c = some z) : frzP (.agg [a, b, c]) = some (.agg [x, y, z]) := by
  show (if 3 ≤ 8 then (frz1L [a, b, c]).map FV.agg else none) = _
  simp [frz1L, ha, hb, hc]
theorem zp_4 {a b c d : IV} {x y z u : FV} (ha : frz1 a = some x) (hb : frz1 b = some y) (hc : frz1 c = some z) (hd : frz1 d = some u) : frzP (.agg [a, b, c, d]) = some (.agg [x, y, z, u]) := by
  show (if 4 ≤ 8 then (frz1L [a, b, c, d]).map FV.agg else none) = _
  simp [frz1L, ha, hb, hc, hd]
theorem fz1_u {v : IV} {x : FV} (d : Nat) (h : Hp) (lg : List Ref) (e : Option β) (k : FV → List (Ref × Blk) → List Ref → Option β) (hz : frz1 v = some x) : fzU (d + 1) v h lg e k = k x [] lg := by
  cases v <;> first | (cases hz; rfl) | (cases hz)
theorem fz1_l (d : Nat) (h : Hp) (lg : List Ref) (e : Option β) : ∀ (cs : List IV) (k : List FV → List (Ref × Blk) → List Ref → Option β) {xs : List FV}, frz1L cs = some xs → fzLK (fzU (d + 1)) cs h lg e k = k xs [] lg
  | [], k, xs, hz => by cases hz; rfl
  | v :: cs, k, xs, hz => by
    simp only [frz1L] at hz
    cases h1 : frz1 v with
    | none => rw [h1] at hz; cases hz
    | some x =>
      rw [h1] at hz
      cases h2 : frz1L cs with
      | none => rw [h2] at hz; cases hz
      | some ys =>
        rw [h2] at hz
        cases hz
        show fzU (d + 1) v h lg e (fun y u lg => fzLK (fzU (d + 1)) cs h lg e fun ys us lg => apK u us fun w => k (y :: ys) w lg) = _
        rw [fz1_u d h lg e _ h1, fz1_l d h lg e cs _ h2]
        rfl
theorem fzp_u {v : IV} {x : FV} (h : Hp) (lg : List Ref) (e : Option β) (k : FV → List (Ref × Blk) → List Ref → Option β) (hz : frzP v = some x) : fzU 12 v h lg e k = k x [] lg := by
  cases v with
  | agg cs =>
    simp only [frzP] at hz
    split at hz
    · rename_i hl
      cases h2 : frz1L cs with
      | none => rw [h2] at hz; cases hz
      | some ys =>
        rw [h2] at hz
        cases hz
        show cond (Nat.ble cs.length 300) (fzLK (fzU 11) cs h lg e fun cs u lg => k (.agg cs) u lg) e = _
        rw [ble_dec, decide_eq_true (show cs.length ≤ 300 by omega)]
        exact fz1_l 10 h lg e cs _ h2
    · cases hz
  | _ => exact fz1_u 11 h lg e k hz
theorem fz_p {v : IV} {x : FV} (hz : frzP v = some x) (own : List (Nat × Blk)) : Fz v own x := ⟨[], [], fun e K => fzp_u _ _ e K hz⟩
theorem ans_p {v : IV} {x : FV} (hz : frzP v = some x) (own : List (Nat × Blk)) : Ans (some (v, ⟨own, []⟩)) x := ⟨v, own, rfl, .inl (fz_p hz own)⟩
theorem fr1 {v : IV} {x : FV} (n : Nat) (hz : frz1 v = some x) : frz (n + 1) v = .ret (x, []) := by
  cases v <;> first | (cases hz; rfl) | (cases hz)
theorem fr1_l : ∀ (cs : List IV) (n : Nat) {xs : List FV}, cs.length + 1 < n → frz1L cs = some xs → frzL n cs = .ret (xs, [])
  | [], n + 1, xs, _, hz => by cases hz; rfl
  | v :: cs, n + 2, xs, hn, hz => by
    simp only [frz1L] at hz
    cases h1 : frz1 v with
    | none => rw [h1] at hz; cases hz
    | some x =>
      rw [h1] at hz
      cases h2 : frz1L cs with
      | none => rw [h2] at hz; cases hz
      | some ys =>
        rw [h2] at hz
        cases hz
        simp only [List.length_cons] at hn
        simp only [frzL, fr1 n h1, Rd.bind, fr1_l cs (n + 1) (by omega) h2]
        rfl
theorem frp {v : IV} {x : FV} (n : Nat) (hn : 20 < n) (hz : frzP v = some x) : frz n v = .ret (x, []) := by
  cases n with
  | zero => omega
  | succ n =>
    cases v with
    | agg cs =>
      simp only [frzP] at hz
      split at hz
      · rename_i hl
        cases h2 : frz1L cs with
        | none => rw [h2] at hz; cases hz
        | some ys =>
          rw [h2] at hz
          cases hz
          simp only [frz, fr1_l cs n (by omega) h2, Rd.bind]
      · cases hz
    | _ => exact fr1 n hz
theorem frp_l : ∀ (cs : List IV) (n : Nat) {xs : List FV}, cs.length + 30 < n → frzPL cs = some xs → frzL n cs = .ret (xs, [])
  | [], n + 1, xs, _, hz => by cases hz; rfl
  | v :: cs, n + 1, xs, hn, hz => by
    simp only [frzPL] at hz
    cases h1 : frzP v with
    | none => rw [h1] at hz; cases hz
    | some x =>
      rw [h1] at hz
      cases h2 : frzPL cs with
      | none => rw [h2] at hz; cases hz
      | some ys =>
        rw [h2] at hz
        cases hz
        simp only [List.length_cons] at hn
        simp only [frzL, frp n (by omega) h1, Rd.bind, frp_l cs n (by omega) h2]
        rfl
theorem ans_t {vs : List IV} {xs : List FV} (hz : frzPL vs = some xs) (hl : vs.length ≤ 100) (own : List (Nat × Blk)) : Ans (some (.tuple vs, ⟨own, []⟩)) (.tuple xs) :=
  ⟨_, own, rfl, .inr ⟨fun _ _ => rfl, [], by
    show (frz (4095 + 1) (.tuple vs)).run _ = _
    simp only [frz, frp_l vs 4095 (by omega) hz, Rd.bind]
    rfl⟩⟩
theorem zl_nil : frzPL [] = some [] := rfl
theorem zl_2 {a b : IV} {x y : FV} (ha : frzP a = some x) (hb : frzP b = some y) : frzPL [a, b] = some [x, y] := by simp [frzPL, ha, hb]
theorem zl_3 {a b c : IV} {x y z : FV} (ha : frzP a = some x) (hb : frzP b = some y) (hc : frzP c = some z) : frzPL [a, b, c] = some [x, y, z] := by simp [frzPL, ha, hb, hc]
theorem zl_4 {a b c d : IV} {x y z u : FV} (ha : frzP a = some x) (hb : frzP b = some y) (hc : frzP c = some z) (hd : frzP d = some u) : frzPL [a, b, c, d] = some [x, y, z, u] := by simp [frzPL, ha, hb, hc, hd]
theorem zl_1 {a : IV} {x : FV} (ha : frzP a = some x) : frzPL [a] = some [x] := by simp [frzPL, ha]
theorem frz_args : ∀ (args : List IV) {vs : List FV}, frzPL args = some vs → frzArgs [] args = .ret (vs.map .fv, [], [])
  | [], vs, hz => by cases hz; rfl
  | v :: l, vs, hz => by
    simp only [frzPL] at hz
    cases h1 : frzP v with
    | none => rw [h1] at hz; cases hz
    | some x =>
      rw [h1] at hz
      cases h2 : frzPL l with
      | none => rw [h2] at hz; cases hz
      | some ys =>
        rw [h2] at hz
        cases hz
        simp only [frzArgs, frp 4096 (by omega) h1, Rd.bind, frz_args l h2]
        rfl
theorem fz1k (x : IV) (l : List IV) (ks : List Bool) (h : Hp) (lg : List Ref) (e : Option β) (k : List IV → List Ref → List (Ref × Blk) → List Ref → Option β) :
    fzA (x :: l) (true :: ks) h lg e k = asPtr x (fun r o => fzA l ks h lg e fun vs rs us lg => k (.ptr r o :: vs) (r :: rs) us lg) fun _ _ => e := rfl
theorem fz1f (x : IV) (l : List IV) (ks : List Bool) (h : Hp) (lg : List Ref) (e : Option β) (k : List IV → List Ref → List (Ref × Blk) → List Ref → Option β) :
    fzA (x :: l) (false :: ks) h lg e k = fzU 12 x h lg e fun y u lg => fzA l ks h lg e fun vs rs us lg => apK u us fun w => k (.fv y :: vs) rs w lg := rfl
section
variable (d : Nat) (h : Hp) (lg : List Ref) (e : Option β) (k : FV → List (Ref × Blk) → List Ref → Option β)
theorem fu_agg (cs : List IV) : fzU 12 (.agg cs) h lg e k = cond (Nat.ble cs.length 300) (fzLK (fzU 11) cs h lg e fun cs u lg => k (.agg cs) u lg) e := rfl
theorem fv_fv (v : FV) : fzU 11 (.fv v) h lg e k = k v [] lg := rfl
theorem fl0 (g : FzK β) (k : List FV → List (Ref × Blk) → List Ref → Option β) : fzLK g [] h lg e k = k [] [] lg := rfl
theorem fl1 (g : FzK β) (x : IV) (l : List IV) (k : List FV → List (Ref × Blk) → List Ref → Option β) : fzLK g (x :: l) h lg e k = g x h lg e fun y u lg => fzLK g l h lg e fun ys us lg => apK u us fun w => k (y :: ys) w lg := rfl
end
noncomputable def isoC (rs : List Ref) (r : Option (IV × Hp)) (h : Hp) (u : List (Ref × Blk)) (lg : List Ref) (e : Option (IV × Hp)) (g : List Ref → Option (IV × Hp)) (k : IV → Hp → List Ref → List Ref → Option (IV × Hp)) : Option (IV × Hp) := match rs with
  | [] => (match r with
    | none => none
    | some p => match p with
      | (v, h') => match h' with
        | ⟨own, ext⟩ => List.casesOn (motive := fun _ => Option (IV × Hp)) ext (fzU 12 v ⟨own, []⟩ [] e fun w _ _ => layU u h fun h2 => k (.fv w) h2 lg (keys u)) fun _ _ => none)
  | r :: rs => g (r :: rs)
theorem iso_e (keep : List Bool) (ih : Handler) (f : FuncId) (args : List IV) (h : Hp) (k : IV → Hp → List Ref → List Ref → Option (IV × Hp)) : isoS keep false false ih f args h k =
    fzA args keep h [] (isoD keep false false ih f args h k) fun vs rs u lg => isoC rs (ih f vs ⟨[], []⟩) h u lg (isoD keep false false ih f args h k) (fun rs => match rs with
      | [] => none
      | r :: rs => (match h with
        | ⟨own, ext⟩ => cond (goB 400 (r :: rs) 0 ext) (match ih f vs ⟨[], ext⟩ with
          | none => none
          | some p => match p with
            | (v, h') => match h' with
              | ⟨own', ext'⟩ => cond (and (Nat.beq ext'.length ext.length) (okB ext.length ext'))
                (fzU 12 v ⟨own', ext'⟩ [] (isoD keep false false ih f args h k) fun w _ _ => layU u ⟨own, ext'⟩ fun h2 => k (.fv w) h2 ((extsUp ext.length).reverse ++ lg) (keys u ++ extsUp ext.length)) none)
          (isoD keep false false ih f args h k))) k := by
  unfold isoS
  simp only [cond_false]
  congr 1
theorem fza_p : ∀ (args : List IV) {vs : List FV} (h : Hp) (lg : List Ref) (e : Option β) (k : List IV → List Ref → List (Ref × Blk) → List Ref → Option β), frzPL args = some vs → fzA args [] h lg e k = k (vs.map .fv) [] [] lg
  | [], vs, h, lg, e, k, hz => by cases hz; rfl
  | v :: l, vs, h, lg, e, k, hz => by
    simp only [frzPL] at hz
    cases h1 : frzP v with
    | none => rw [h1] at hz; cases hz
    | some x =>
      rw [h1] at hz
      cases h2 : frzPL l with
      | none => rw [h2] at hz; cases hz
      | some ys =>
        rw [h2] at hz
        cases hz
        show fzU 12 v h lg e (fun y u lg => fzA l [] h lg e fun vs rs us lg => apK u us fun w => k (.fv y :: vs) rs w lg) = _
        rw [fzp_u h lg e _ h1, fza_p l h lg e _ h2]
        rfl
theorem renL_fv (f : Ref → Option Ref) : ∀ l : List FV, IV.ren.renL f (l.map .fv) = some (l.map .fv)
  | [] => rfl
  | v :: l => by
    simp only [List.map_cons, IV.ren.renL, IV.ren, renL_fv f l]
    rfl
theorem iso_p {ih : Handler} {f : FuncId} {args : List IV} {vs : List FV} {w : FV} (hz : frzPL args = some vs) (hr : Ans (ih f (vs.map .fv) ⟨[], []⟩) w) (h : Hp) (k : IV → Hp → List Ref → List Ref → Option (IV × Hp)) :
    isoS [] false false ih f args h k = k (.fv w) h [] [] := by
  obtain ⟨v, own, e, hv⟩ := hr
  have hD : (∃ u, (frz 4096 v).run ⟨own, []⟩ = some (w, u)) → isoD [] false false ih f args h k = k (.fv w) h [] [] := by
    rintro ⟨u, hu⟩
    unfold isoD
    simp only [frz_args args hz, Rd.runLog, gather, renL_fv, List.map_nil, renBlks, fL_eq (fV_eq 3), fL_eq fBk_eq, askedD, Bool.false_eq_true, if_false, e, hu, Option.map_some, IV.ren]
    show (match laid h ([] ++ (keys []).zip []) with | none => none | some h' => fH h' fun h' => fV 3 (.fv w) fun res => k res h' [] _) = _
    simp only [keys, List.map_nil, List.zip_nil_left, List.append_nil, laid, fH_eq, fV_eq]
  rw [iso_e, fza_p args h [] _ _ hz, e]
  simp only [isoC]
  rcases hv with ⟨u', lg', hf⟩ | ⟨hf, hu⟩
  · rw [hf]; rfl
  · rw [hf]; exact hD hu
theorem iso_0 {ih : Handler} {f : FuncId} {w : FV} (hr : Ans (ih f [] ⟨[], []⟩) w) (h : Hp) (k : IV → Hp → List Ref → List Ref → Option (IV × Hp)) :
    isoS [] false false ih f [] h k = k (.fv w) h [] [] := iso_p (vs := []) rfl hr h k
theorem iso_1 {ih : Handler} {f : FuncId} {a : IV} {x w : FV} (hr : Ans (ih f [.fv x] ⟨[], []⟩) w) (ha : frzP a = some x) (h : Hp) (k : IV → Hp → List Ref → List Ref → Option (IV × Hp)) :
    isoS [] false false ih f [a] h k = k (.fv w) h [] [] := iso_p (zl_1 ha) hr h k
theorem iso_2 {ih : Handler} {f : FuncId} {a b : IV} {x y w : FV} (hr : Ans (ih f [.fv x, .fv y] ⟨[], []⟩) w) (ha : frzP a = some x) (hb : frzP b = some y) (h : Hp) (k : IV → Hp → List Ref → List Ref → Option (IV × Hp)) :
    isoS [] false false ih f [a, b] h k = k (.fv w) h [] [] := iso_p (zl_2 ha hb) hr h k
theorem iso_3 {ih : Handler} {f : FuncId} {a b c : IV} {x y z w : FV} (hr : Ans (ih f [.fv x, .fv y, .fv z] ⟨[], []⟩) w) (ha : frzP a = some x) (hb : frzP b = some y) (hc : frzP c = some z) (h : Hp) (k : IV → Hp → List Ref → List Ref → Option (IV × Hp)) :
    isoS [] false false ih f [a, b, c] h k = k (.fv w) h [] [] := iso_p (zl_3 ha hb hc) hr h k
theorem gen_val (v : IV) (s : Nat) (h : Hp) (k : IV → Hp → List Ref → List Ref → Option β) : genS (.ret { eff := { val := v } }) s h k = k v h [] [] := by
  unfold genS
  simp only [Rd.runLog, newRefs, fV_eq]
  rfl
theorem gen_val' (v : IV) (s : Nat) (h : Hp) (k : IV → Hp → List Ref → List Ref → Option β) : genS (Idl.val v) s h k = k v h [] [] := gen_val v s h k
theorem bs_tm {e : TypeId} {a b : Nat} {ei : TI} {z : List IV} (hT : E.T t = some ⟨a, b, .slice e, z⟩) (he : E.T e = some ei) {len : Nat} (hs : ¬ (ei.size = 0 ∨ len * ei.size > 65536)) {parts : List (Nat × IV)} {cells : List FV}
    (hf : fillIn (fun j => some (j * ei.size, ei.size)) (rep len ei.zero) parts = some (cells.map .fv)) {s : Nat} {h : Hp} (k : IV → Hp → List Ref → List Ref → Option β) (hc : cells.length < 65000 := by simp) :
    genS (pcBuildSlice E t len parts) s h k = k (.clip (chunks ei.size len cells)) h [] [] := by
  have key : ∀ (l : List FV) (n : Nat), l.length < n → frzL n (l.map .fv) = .ret (l, []) := by
    intro l
    induction l with
    | nil => intro n hn; cases n with
      | zero => simp at hn
      | succ n => rfl
    | cons x l ih => intro n hn; cases n with
      | zero => simp at hn
      | succ n =>
        simp only [List.length_cons] at hn
        cases n with
        | zero => omega
        | succ n =>
          simp only [List.map_cons, frzL, frz, Rd.bind]
          rw [ih (n + 1) (by omega)]
          rfl
  have : pcBuildSlice E t len parts = .ret { eff := { val := .clip (chunks ei.size len cells), upd := [] } } := by
    simp only [pcBuildSlice, hT, he, if_neg hs, hf]
    rw [key _ _ (by omega)]
    rfl
  rw [this, gen_val]
end
end Idl
end Go.Proofs.Ytdibmackcbpniaa

namespace Go.Proofs.Ytdibmackcbpniaa
namespace Idl
def XX := And.intro @n0 <| And.intro @n1 <| And.intro @n2 <| And.intro @n3 <| And.intro @n4 <| And.intro @n5 <| And.intro @n6 <| And.intro @d0 <| And.intro @d1 <| And.intro @d2 <| And.intro @d3 <| And.intro @d4 <| And.intro @t1 <| And.intro @t2 <| And.intro @t3 <| And.intro @t4 <| And.intro @t7 <| And.intro @ap0 <| And.intro @ap1 <| And.intro @unc_c <| And.intro @c_t <| And.intro @c_f <| And.intro @g_own <| And.intro @g_ext <| And.intro @o_hit <| And.intro @o_miss <| And.intro @p_nil <| And.intro @p_hit <| And.intro @p_miss <| And.intro @f_nil <| And.intro @f_cons <| And.intro @lay_own <| And.intro @lay_ext <| And.intro @sn0 <| And.intro @new_e <| And.intro @box_agg <| And.intro @box_agg' <| And.intro @box_one <| And.intro @on_int <| And.intro @on_bool <| And.intro @on_sl <| And.intro @on_fp <| And.intro @on_func <| And.intro @on_nilp <| And.intro @on_nils <| And.intro @on_ptr <| And.intro @on_slc <| And.intro @on_app <| And.intro @on_clip <| And.intro @on_emp <| And.intro @on_agg <| And.intro @on_fagg <| And.intro @of_int <| And.intro @of_bool <| And.intro @of_sl <| And.intro @of_fp <| And.intro @of_nilp <| And.intro @of_agg <| And.intro @aof_nil <| And.intro @aof_cons <| And.intro @as_p <| And.intro @as_f <| And.intro @as_row <| And.intro @as_free <| And.intro @as_fv <| And.intro @as_nf1 <| And.intro @as_nf2 <| And.intro @as_nf3 <| And.intro @as_nf4 <| And.intro @as_nf5 <| And.intro @as_nf6 <| And.intro @as_nf7 <| And.intro @as_agF <| And.intro @as_ag <| And.intro @as_ag' <| And.intro @alv_nil <| And.intro @alv_fv <| And.intro @alv_nils <| And.intro @alv_app <| And.intro @alv_clip <| And.intro @alv_ptr <| And.intro @alv_slc <| And.intro @alv_agg <| And.intro @alv_mapr <| And.intro @agg_e <| And.intro @tup_e <| And.intro @l1_e <| And.intro @lA_e <| And.intro @cell_t <| And.intro @cell_f <| And.intro @wr0 <| And.intro @wr1 <| And.intro @sf0 <| And.intro @sf1 <| And.intro @sf2 <| And.intro @sf3 <| And.intro @sf4 <| And.intro @of0 <| And.intro @of1 <| And.intro @of2 <| And.intro @of3 <| And.intro @of6 <| And.intro @sA_f <| And.intro @ml_own <| And.intro @sA_3 <| And.intro @sc3 <| And.intro @s1_e <| And.intro @fa_p <| And.intro @fa_f <| And.intro @nil_p <| And.intro @nil_f <| And.intro @nil_func <| And.intro @ex_t <| And.intro @ex_f <| And.intro @f1_e <| And.intro @fA_e <| And.intro @bld_e <| And.intro @fk0 <| And.intro @fk1 <| And.intro @fp_one <| And.intro @fp_agg <| And.intro @nb3 <| And.intro @nb4 <| And.intro @nb7 <| And.intro @nl3 <| And.intro @and_tt <| And.intro @add_s <| And.intro @sub_s <| And.intro @mul_s <| And.intro @quo_s <| And.intro @rem_s <| And.intro @eq_s <| And.intro @ne_s <| And.intro @lt_s <| And.intro @le_s <| And.intro @gt_s <| And.intro @ge_s <| And.intro @eq_sb <| And.intro @not_s <| And.intro @cd_t <| And.intro @cd_f <| And.intro @cd_d <| And.intro @cd_n <| And.intro @cd_b <| And.intro @pk_e <| And.intro @gd_mt <| And.intro @gd_mf <| And.intro @gd_sf <| And.intro @gd_st <| And.intro @gd_u <| And.intro @ch0 <| And.intro @ch1 <| And.intro @dj0 <| And.intro @djn <| And.intro @dj1 <| And.intro @an0 <| And.intro @an1 <| And.intro @rn_o <| And.intro @rn_oe <| And.intro @rn_eo <| And.intro @out1 <| And.intro @out0 <| And.intro @out2 <| And.intro @out3 <| And.intro @out4 <| And.intro @len_f <| And.intro @len_0 <| And.intro @len_c <| And.intro @len_a <| And.intro @len_s <| And.intro @ix_f <| And.intro @ix_a <| And.intro @ix_c <| And.intro @ix_s <| And.intro @ix0_agg <| And.intro @ix1_agg <| And.intro @ix2_agg <| And.intro @ix3_agg <| And.intro @zp_fv <| And.intro @zp_nils <| And.intro @zp_emp <| And.intro @zp_clip <| And.intro @zp_app <| And.intro @zq_fv <| And.intro @zq_nils <| And.intro @zq_emp <| And.intro @zq_clip <| And.intro @zq_app <| And.intro @zp_3 <| And.intro @zp_4 <| And.intro @zl_nil <| And.intro @zl_2 <| And.intro @zl_3 <| And.intro @zl_4 <| And.intro @zl_1 <| And.intro @gen_val <| @gen_val'
end Idl
end Go.Proofs.Ytdibmackcbpniaa

namespace Go.Proofs.Ytdibmackcbpniaa
namespace Idl
theorem loop_run {F : (List IV → Hp → Option (IV × Hp)) → List IV → Hp → Option (IV × Hp)} {Q : Option (IV × Hp) → Prop} (P : Nat → List IV → Hp → Prop)
    (step : ∀ k V H rec, P k V H → (∀ k' V' H', k' < k → P k' V' H' → Q (rec V' H')) → Q (F rec V H)) : ∀ m k V H, k < m → P k V H → Q (loopS m F V H) := by
  intro m
  induction m with
  | zero => intro k V H h; omega
  | succ m ih => intro k V H hk hP; exact step k V H (loopS m F) hP fun k' V' H' h1 h2 => ih k' V' H' (by omega) h2
mutual
def Tm.wt : Tm → Nat
  | .mk _ _ l => 1 + Tm.wtL l
def Tm.wtL : List Tm → Nat
  | [] => 0
  | t :: l => t.wt + Tm.wtL l
end
theorem wt_mem {t : Tm} : ∀ {l : List Tm}, t ∈ l → t.wt ≤ Tm.wtL l
  | a :: l, h => by
    rcases List.mem_cons.1 h with rfl | h
    · simp only [Tm.wtL]; omega
    · have := wt_mem h; simp only [Tm.wtL]; omega
theorem wt_len : ∀ (l : List Tm), l.length ≤ Tm.wtL l
  | [] => Nat.zero_le _
  | (.mk _ _ k) :: l => by have := wt_len l; simp only [Tm.wtL, Tm.wt, List.length_cons]; omega
theorem wt_pos (t : Tm) : 0 < t.wt := by cases t; simp only [Tm.wt]; omega
theorem enc_mk (op n : Int) (l : List Tm) : (Tm.mk op n l).enc = .agg [.int .i64 op, .int .i64 n, .sl (l.map Tm.enc)] := by simp only [Tm.enc, encL_eq]
theorem map_get {l : List Tm} {i : Nat} {op n : Int} {k : List Tm} (h : l[i]? = some (.mk op n k)) : (l.map Tm.enc)[i]? = some (.agg [.int .i64 op, .int .i64 n, .sl (k.map Tm.enc)]) := by
  rw [List.getElem?_map, h, Option.map_some, enc_mk]
theorem at_pre {α : Type} {l pre rest : List α} {a : α} (h : l = pre ++ a :: rest) : l[pre.length]? = some a := by
  rw [h, List.getElem?_append_right (Nat.le_refl _), Nat.sub_self]; rfl
theorem agg3 (a b c : FV) : (FV.agg [a, b, c]).cells = [a, b, c] := rfl
theorem agg3l (a b c : FV) : (FV.agg [a, b, c]).cells.length = 3 := rfl
end Idl
end Go.Proofs.Ytdibmackcbpniaa

namespace Go.Proofs.Ytdibmackcbpniaa
namespace Idl
section
variable {β : Type} {E : Env}
inductive Plain2 : IV → List FV → Prop
  | clip (es : List FV) : Plain2 (.clip es) es
  | sl (es : List FV) : Plain2 (.fv (.sl es)) es
  | app (r : Ref) (es : List FV) : Plain2 (.app r es) es
theorem p2_frz {x : IV} {es : List FV} (h : Plain2 x es) : frz 4096 x = .ret (.sl es, []) := by cases h <;> rfl
structure SliceT (E : Env) (t : TypeId) (size : Nat) : Prop where
  h : ∃ a b e z ei, E.T t = some ⟨a, b, .slice e, z⟩ ∧ E.T e = some ei ∧ ei.size = size ∧ size ≠ 0 ∧ ei.bytes ≤ 100000
theorem app_0 {t : TypeId} {size : Nat} (T : SliceT E t size) {x : IV} {es2 : List FV} (hx : Plain2 x es2) (h1 : headOk size es2 = true) (hne : es2.isEmpty = false) (hb : es2.length ≤ 1000000) {s0 : IV} (hs : s0 = .nils ∨ s0 = .clip []) (s : Nat) (own : List (Nat × Blk)) (ext : List Blk)
    (k : IV → Hp → List Ref → List Ref → Option β) : genS (builtinR E s false .append [t, t] [s0, x]) s ⟨own, ext⟩ k = freshK own s (putOwnK own s (.tok es2.length size) fun own => k (.app (.own s) es2) ⟨own, ext⟩ [] [.own s]) := by
  obtain ⟨a, b, e, z, ei, hT, he, rfl, h0, hby⟩ := T.h
  have hlen : ¬ (headOk ei.size [] = false ∨ (([] : List FV).length + es2.length) * ei.bytes > 140737488355328 ∨ ([] : List FV).length + es2.length > 1073741824) := by
    have : es2.length * ei.bytes ≤ 1000000 * 100000 := Nat.mul_le_mul hb hby
    rintro (h | h | h)
    · cases h
    · simp only [List.length_nil, Nat.zero_add] at h; omega
    · simp only [List.length_nil, Nat.zero_add] at h; omega
  have key : builtinR E s false .append [t, t] [s0, x] = .ret { eff := { val := .app (.own s) es2, upd := [] }, new := some (.tok es2.length ei.size) } := by
    show appendR E s t (some t) false s0 x = _
    simp only [appendR, hT, Option.bind_some, he, p2_frz hx, Rd.bind, h0, h1, false_or, Bool.true_eq_false, if_false]
    rcases hs with rfl | rfl <;> simp only [elemsOf, if_neg hlen, hne, List.nil_append, Bool.false_eq_true, if_false]
  rw [key]
  unfold genS
  simp only [Rd.runLog]
  show (newK (some (.tok es2.length ei.size)) s ⟨own, ext⟩ fun h => fV 3 (.app (.own s) es2) fun v => k v h [] ([] ++ [.own s])) = _
  simp only [newK, fBk_eq, fV_eq]
  rfl
end
end Idl
end Go.Proofs.Ytdibmackcbpniaa

namespace Go.Proofs.Ytdibmackcbpniaa
namespace Idl
theorem tTms : EE.T 28 = some ⟨1, 24, .slice 30, [.nils]⟩ := by kernel_rfl
theorem tTm : EE.T 30 = some ⟨3, 40, .struct [(0, 3), (1, 3), (2, 28)], [.fv (.int .i64 0), .fv (.int .i64 0), .nils]⟩ := by kernel_rfl
theorem bs2_tm (a b : Tm) (s : Nat) (h : Hp) (k : IV → Hp → List Ref → List Ref → Option (IV × Hp)) : genS (pcBuildSlice EE 28 2 [(0, .fv a.enc), (1, .fv b.enc)]) s h k = k (.clip [a.enc, b.enc]) h [] [] := by
  obtain ⟨o1, n1, k1⟩ := a
  obtain ⟨o2, n2, k2⟩ := b
  exact bs_tm tTms tTm (by decide) (cells := [.int .i64 o1, .int .i64 n1, .sl (Tm.enc.encL k1), .int .i64 o2, .int .i64 n2, .sl (Tm.enc.encL k2)]) rfl k
theorem enc_len (a : Tm) : a.enc.cells.length = 3 := by cases a; rfl
theorem head_tm (l : List Tm) : headOk 3 (l.map Tm.enc) = true := by
  cases l with
  | nil => rfl
  | cons a l => simp only [List.map_cons, headOk, enc_len, beq_self_eq_true]
theorem emod_w {x m : Int} (h1 : 0 < m) (h2 : m ≤ 4611686018427387904) : (if x.tmod m < 0 then w64 (x.tmod m + m) else x.tmod m) = x % m := by
  have a1 := Int.emod_nonneg x (show m ≠ 0 by omega)
  have a2 := Int.emod_lt_of_pos x h1
  have e1 : x.tmod m = x - m * x.tdiv m := by have := Int.mul_tdiv_add_tmod x m; omega
  have e2 : x % m = x - m * (x / m) := by have := Int.mul_ediv_add_emod x m; omega
  have b1 : -m < x.tmod m := Int.lt_tmod_of_pos x h1
  have b2 : x.tmod m < m := Int.tmod_lt_of_pos x h1
  have key : ∃ q, x.tmod m = x % m + m * q := ⟨x / m - x.tdiv m, by rw [e1, e2, Int.mul_sub]; omega⟩
  obtain ⟨q, hq⟩ := key
  have hq2 : q = 0 ∨ q = -1 := by
    rcases Int.lt_trichotomy q 0 with h | h | h
    · right
      rcases Int.lt_trichotomy q (-1) with h' | h' | h'
      · have : m * q ≤ m * (-2) := Int.mul_le_mul_of_nonneg_left (by omega) (by omega)
        omega
      · exact h'
      · omega
    · exact .inl h
    · have : m * 1 ≤ m * q := Int.mul_le_mul_of_nonneg_left (by omega) (by omega)
      omega
  rcases hq2 with rfl | rfl
  · rw [if_neg (by omega)]; omega
  · rw [if_pos (by omega), w64_id (by omega) (by omega)]; omega
theorem within4_ok {n : Nat} (hn : 0 < n) (x : Int) {m : Int} (h1 : 0 < m) (h2 : m ≤ 4611686018427387904) : Ans (SS dt n 41 [iv x, iv m] ⟨[], []⟩) (.int .i64 (x % m)) := by
  obtain ⟨n, rfl⟩ := Nat.exists_eq_add_of_lt hn
  rw [Nat.zero_add, c41]
  simp only [S41, ↓XX, ↓reduceIte, Nat.reduceBEq, decide_true, decide_false, Bool.not_true, Bool.not_false, List.map_cons, List.map_nil, List.length_map, List.length_cons, List.length_nil, Nat.reduceAdd, Int.cast_ofNat_Int, Int.natCast_zero, Int.natCast_one, Bool.false_eq_true, Bool.true_eq_false, decide_eq_true_eq, eq_self, Int.reduceEq, Int.reduceLT, Int.reduceLE, Bool.and_true, Bool.true_and, Bool.and_false, Bool.false_and, Nat.zero_add, ↓rem_s (show m ≠ 0 by omega)]
  rw [← emod_w h1 h2]
  by_cases hc : x.tmod m < 0 <;> simp only [hc, if_true, if_false] <;> exact ans_fv _ _
theorem t0_ok {n : Nat} (hn : 0 < n) (op : Int) : Ans (SS dt n 30 [iv op, .fv (.sl [])] ⟨[], []⟩) (Tm.mk op 0 []).enc := by
  obtain ⟨n, rfl⟩ := Nat.exists_eq_add_of_lt hn
  rw [Nat.zero_add, c30]
  simp only [S30, ↓XX, ↓reduceIte, Nat.reduceBEq, decide_true, decide_false, Bool.not_true, Bool.not_false, List.map_cons, List.map_nil, List.length_map, List.length_cons, List.length_nil, Nat.reduceAdd, Int.cast_ofNat_Int, Int.natCast_zero, Int.natCast_one, Bool.false_eq_true, Bool.true_eq_false, decide_eq_true_eq, eq_self, Int.reduceEq, Int.reduceLT, Int.reduceLE, Bool.and_true, Bool.true_and, Bool.and_false, Bool.false_and, Nat.zero_add]
  exact ans_fv _ _
theorem t_ok {n : Nat} (hn : 0 < n) (op : Int) (l : List Tm) : Ans (SS dt n 30 [iv op, .fv (.sl (l.map Tm.enc))] ⟨[], []⟩) (Tm.mk op 0 l).enc := by
  obtain ⟨n, rfl⟩ := Nat.exists_eq_add_of_lt hn
  rw [Nat.zero_add, c30]
  simp only [S30, ↓XX, ↓reduceIte, Nat.reduceBEq, decide_true, decide_false, Bool.not_true, Bool.not_false, List.map_cons, List.map_nil, List.length_map, List.length_cons, List.length_nil, Nat.reduceAdd, Int.cast_ofNat_Int, Int.natCast_zero, Int.natCast_one, Bool.false_eq_true, Bool.true_eq_false, decide_eq_true_eq, eq_self, Int.reduceEq, Int.reduceLT, Int.reduceLE, Bool.and_true, Bool.true_and, Bool.and_false, Bool.false_and, Nat.zero_add, enc_mk]
  exact ans_fv _ _
def Tm.kids : Tm → List Tm
  | .mk _ _ l => l
def Tm.op : Tm → Int
  | .mk o _ _ => o
def Tm.n : Tm → Int
  | .mk _ n _ => n
def Tm.pick (r : Tm) (i : Nat) : Tm := match r.kids[i]? with
  | some k => k
  | none => .mk (w64 (w64 (r.op.tdiv 3) + i)) (w64 (w64 (r.n.tdiv 5) + w64 (7 * i))) []
theorem pick_ok {n : Nat} (hn : 0 < n) (r : Tm) (i : Nat) : Ans (SS dt n 42 [.fv r.enc, iv i] ⟨[], []⟩) (r.pick i).enc := by
  obtain ⟨n, rfl⟩ := Nat.exists_eq_add_of_lt hn
  rw [Nat.zero_add, c42]
  obtain ⟨op, m, ks⟩ := r
  rw [enc_mk]
  simp only [Tm.pick, Tm.kids, Tm.op, Tm.n]
  cases hk : ks[i]? with
  | some k =>
    have hi : (i : Int) < ks.length := by have := (List.getElem?_eq_some_iff.1 hk).1; omega
    obtain ⟨o, p, l⟩ := k
    simp only [S42_42, S42_43, S42_44, S42_45, S42, ↓XX, ↓reduceIte, Nat.reduceBEq, decide_true, decide_false, Bool.not_true, Bool.not_false, List.map_cons, List.map_nil, List.length_map, List.length_cons, List.length_nil, Nat.reduceAdd, Int.cast_ofNat_Int, Int.natCast_zero, Int.natCast_one, Bool.false_eq_true, Bool.true_eq_false, decide_eq_true_eq, eq_self, Int.reduceEq, Int.reduceLT, Int.reduceLE, Bool.and_true, Bool.true_and, Bool.and_false, Bool.false_and, Nat.zero_add, hi, ↓ix_f (map_get hk) (agg3l _ _ _), ↓agg3, enc_mk]
    exact ans_fv _ _
  | none =>
    have hi : ¬ (i : Int) < ks.length := by have := List.getElem?_eq_none_iff.1 hk; omega
    simp only [S42_42, S42_43, S42_44, S42_45, S42, ↓XX, ↓reduceIte, Nat.reduceBEq, decide_true, decide_false, Bool.not_true, Bool.not_false, List.map_cons, List.map_nil, List.length_map, List.length_cons, List.length_nil, Nat.reduceAdd, Int.cast_ofNat_Int, Int.natCast_zero, Int.natCast_one, Bool.false_eq_true, Bool.true_eq_false, decide_eq_true_eq, eq_self, Int.reduceEq, Int.reduceLT, Int.reduceLE, Bool.and_true, Bool.true_and, Bool.and_false, Bool.false_and, Nat.zero_add, hi, ↓quo_s (show (3 : Int) ≠ 0 by decide), ↓quo_s (show (5 : Int) ≠ 0 by decide)]
    exact ans_p rfl _
end Idl
end Go.Proofs.Ytdibmackcbpniaa

namespace Go.Proofs.Ytdibmackcbpniaa
namespace Idl
section
variable {β : Type}
def namesV (s : Nat) : IV → Bool
  | .ptr (.own j) _ => s == j
  | .slc (.own j) _ _ => s == j
  | .app (.own j) _ => s == j
  | .mapr (.own j) => s == j
  | _ => false
def flatV : IV → Bool
  | .agg _ | .tuple _ | .func .. => false
  | _ => true
def namesB (s : Nat) : Blk → Bool
  | .row cells _ => cells.any (namesV s)
  | _ => false
def flatB : Blk → Bool
  | .row cells _ => cells.all flatV
  | .tok .. => true
  | .map _ => false
theorem flat_refs {v : IV} (h : flatV v = true) (s : Nat) : (Ref.own s ∈ v.refs) ↔ namesV s v = true := by
  cases v with
  | ptr r o => cases r <;> simp [IV.refs, namesV]
  | slc r a b => cases r <;> simp [IV.refs, namesV]
  | app r es => cases r <;> simp [IV.refs, namesV]
  | mapr r => cases r <;> simp [IV.refs, namesV]
  | agg _ => cases h
  | tuple _ => cases h
  | func _ _ _ => cases h
  | _ => simp [IV.refs, namesV]
theorem flat_refsL : ∀ {l : List IV}, l.all flatV = true → ∀ s, (Ref.own s ∈ IV.refs.refsL l) ↔ l.any (namesV s) = true
  | [], _, s => by simp [IV.refs.refsL]
  | v :: l, h, s => by
    rw [List.all_cons, Bool.and_eq_true] at h
    rw [IV.refs.refsL, List.mem_append, List.any_cons, Bool.or_eq_true, flat_refs h.1, flat_refsL h.2]
theorem flat_refsB {b : Blk} (h : flatB b = true) (s : Nat) : (Ref.own s ∈ b.refs) ↔ namesB s b = true := by
  cases b with
  | row cells ro => exact flat_refsL h s
  | tok n sz => simp [Blk.refs, namesB]
  | map es => cases h
theorem anyIn_one (s : Nat) : ∀ l : List Ref, anyIn [s] l = true ↔ Ref.own s ∈ l
  | [] => by simp [anyIn]
  | .own k :: l => by
    rw [anyIn, Bool.or_eq_true, anyIn_one s l, List.mem_cons]
    simp [eq_comm]
  | .ext k :: l => by
    rw [anyIn, anyIn_one s l, List.mem_cons]
    simp
def heldB (rm : List Nat) (vals : List IV) (own : List (Nat × Blk)) (ext : List Blk) (s : Nat) : Bool :=
  vals.any (namesV s) || (own.any (fun p => !rm.contains p.1 && namesB s p.2) || ext.any (namesB s))
def stays (rm : List Nat) (vals : List IV) (own : List (Nat × Blk)) (ext : List Blk) : List (Nat × Blk) := own.filter fun p => !rm.contains p.1 || heldB rm vals own ext p.1
def flatD (rm : List Nat) (vals : List IV) (own : List (Nat × Blk)) (ext : List Blk) : Bool :=
  vals.all flatV && (own.all (fun p => flatB p.2) && (ext.all flatB && own.all fun p => !rm.contains p.1 || rm.all fun s => !namesB s p.2))
theorem held_mem {rm : List Nat} {vals : List IV} {own : List (Nat × Blk)} {ext : List Blk} (hf : flatD rm vals own ext = true) (s : Nat) :
    Ref.own s ∈ IV.refs.refsL vals ++ (own.filter fun p => !rm.contains p.1).flatMap (fun p => p.2.refs) ++ ext.flatMap Blk.refs ↔ heldB rm vals own ext s = true := by
  simp only [flatD, Bool.and_eq_true] at hf
  obtain ⟨h1, h2, h3, _⟩ := hf
  have e1 : Ref.own s ∈ (own.filter fun p => !rm.contains p.1).flatMap (fun p => p.2.refs) ↔ (own.any fun p => !rm.contains p.1 && namesB s p.2) = true := by
    rw [List.mem_flatMap, List.any_eq_true]
    constructor
    · rintro ⟨p, hp, hr⟩
      obtain ⟨hp1, hp2⟩ := List.mem_filter.1 hp
      exact ⟨p, hp1, by rw [hp2, (flat_refsB (List.all_eq_true.1 h2 p hp1) s).1 hr]; rfl⟩
    · rintro ⟨p, hp, hr⟩
      rw [Bool.and_eq_true] at hr
      exact ⟨p, List.mem_filter.2 ⟨hp, hr.1⟩, (flat_refsB (List.all_eq_true.1 h2 p hp) s).2 hr.2⟩
  have e2 : Ref.own s ∈ ext.flatMap Blk.refs ↔ ext.any (namesB s) = true := by
    rw [List.mem_flatMap, List.any_eq_true]
    constructor
    · rintro ⟨p, hp, hr⟩
      exact ⟨p, hp, (flat_refsB (List.all_eq_true.1 h3 p hp) s).1 hr⟩
    · rintro ⟨p, hp, hr⟩
      exact ⟨p, hp, (flat_refsB (List.all_eq_true.1 h3 p hp) s).2 hr⟩
  rw [List.mem_append, List.mem_append, flat_refsL h1, e1, e2, heldB, Bool.or_eq_true, Bool.or_eq_true, or_assoc]
theorem drop_e {base rm : List Nat} {vals : List IV} {own : List (Nat × Blk)} {ext : List Blk} (hb : rm.any base.contains = false) (hf : flatD rm vals own ext = true) (k : Hp → Option β) :
    dropS base rm vals ⟨own, ext⟩ k = k ⟨stays rm vals own ext, ext⟩ := by
  have hm := held_mem hf
  have hf0 := hf
  simp only [flatD, Bool.and_eq_true] at hf0
  obtain ⟨g1, g2, g3, g4⟩ := hf0
  unfold dropS
  rw [hb]
  simp only [cond_false]
  rw [anyO_eq]
  cases ha : (own.all fun p => !rm.contains p.1) with
  | true =>
    simp only [Bool.not_true, cond_false]
    congr 2
    symm
    apply List.filter_eq_self.2
    intro p hp
    rw [List.all_eq_true.1 ha p hp]; rfl
  | false =>
    simp only [Bool.not_false, cond_true]
    have slow : (match dropAt base [] rm ⟨vals, ⟨own, ext⟩⟩ with | none => none | some S => fH S.hp k) = k ⟨stays rm vals own ext, ext⟩ := by
      have hgone : (rm.filter fun k => !anyIn [k] (IV.refs.refsL vals ++ (own.filter fun p => !rm.contains p.1).flatMap (fun p => p.2.refs) ++ ext.flatMap Blk.refs)) = rm.filter fun s => !heldB rm vals own ext s := by
        apply List.filter_congr
        intro s _
        congr 1
        exact Bool.eq_iff_iff.2 ((anyIn_one s _).trans (hm s))
      have hown : (own.filter fun p => !(rm.filter fun s => !heldB rm vals own ext s).contains p.1) = stays rm vals own ext := by
        apply List.filter_congr
        intro p _
        rw [Bool.eq_iff_iff]
        simp only [Bool.not_eq_true', Bool.or_eq_true, List.contains_eq_mem, decide_eq_false_iff_not, List.mem_filter]
        constructor
        · intro h
          by_cases h1 : p.1 ∈ rm
          · right
            cases hh : heldB rm vals own ext p.1 with
            | true => rfl
            | false => exact absurd ⟨h1, hh⟩ h
          · exact .inl h1
        · rintro (h | h) ⟨h1, h2⟩
          · exact h h1
          · rw [h] at h2; exact absurd h2 (by simp)
      simp only [dropAt, hb, Bool.false_eq_true, if_false, killSlots, ha, hgone, hown]
      have hnone : anyIn (rm.filter fun s => !heldB rm vals own ext s) (refsOfSt ⟨vals, ⟨stays rm vals own ext, ext⟩⟩) = false := by
        apply anyIn_none
        intro s hs hmem
        obtain ⟨hs1, hs2⟩ := List.mem_filter.1 hs
        have hs2 : heldB rm vals own ext s = false := by simpa using hs2
        simp only [refsOfSt, List.mem_append] at hmem
        rcases hmem with (hmem | hmem) | hmem
        · have := (hm s).1 (List.mem_append_left _ (List.mem_append_left _ hmem))
          rw [this] at hs2; cases hs2
        · obtain ⟨p, hp, hr⟩ := List.mem_flatMap.1 hmem
          have hp1 := (List.mem_filter.1 hp).1
          have hn := (flat_refsB (List.all_eq_true.1 g2 p hp1) s).1 hr
          have h4 := List.all_eq_true.1 g4 p hp1
          cases hc : rm.contains p.1 with
          | true =>
            rw [hc] at h4
            have h4 : (rm.all fun s => !namesB s p.2) = true := h4
            have h5 := List.all_eq_true.1 h4 s hs1
            rw [hn] at h5; cases h5
          | false =>
            have := (hm s).1 (List.mem_append_left _ (List.mem_append_right _ (List.mem_flatMap.2 ⟨p, List.mem_filter.2 ⟨hp1, by rw [hc]; rfl⟩, hr⟩)))
            rw [this] at hs2; cases hs2
        · have := (hm s).1 (List.mem_append_right _ hmem)
          rw [this] at hs2; cases hs2
      simp only [hnone, Bool.false_eq_true, if_false, fH_eq]
    cases hff : (and (freeR rm (refsDL vals [])) (and (freeO rm own) (freeE rm ext))) with
    | false => exact slow
    | true =>
      have hff : (freeR rm (refsDL vals []) && (freeO rm own && freeE rm ext)) = true := hff
      simp only [Bool.and_eq_true] at hff
      simp only [filtK_eq, cond_true]
      congr 2
      apply List.filter_congr
      intro p hp
      cases hc : rm.contains p.1 with
      | false => rfl
      | true =>
        have h1 := freeR_ok hff.1
        rw [refsDL_eq, List.append_nil] at h1
        have h2 := freeO_ok hff.2.1
        have h3 := freeE_ok hff.2.2
        have : heldB rm vals own ext p.1 = false := by
          cases hh : heldB rm vals own ext p.1 with
          | false => rfl
          | true =>
            have := (hm p.1).2 hh
            have hpm : p.1 ∈ rm := List.contains_iff_mem.1 hc
            rcases List.mem_append.1 this with h | h
            · rcases List.mem_append.1 h with h | h
              · exact absurd h (h1 _ hpm)
              · exact absurd h (h2 _ hpm)
            · exact absurd h (h3 _ hpm)
        rw [this]; rfl
end
section
variable (s j : Nat)
theorem st_e (rm : List Nat) (vals : List IV) (own : List (Nat × Blk)) (ext : List Blk) : stays rm vals own ext = own.filter fun p => !rm.contains p.1 || heldB rm vals own ext p.1 := rfl
theorem nv1 (o : Nat) : namesV s (.ptr (.own j) o) = (s == j) := rfl
theorem nv2 (a b : Nat) : namesV s (.slc (.own j) a b) = (s == j) := rfl
theorem nv3 (es : List FV) : namesV s (.app (.own j) es) = (s == j) := rfl
theorem nv4 (v : FV) : namesV s (.fv v) = false := rfl
theorem nv5 : namesV s .nils = false := rfl
theorem nv6 (es : List FV) : namesV s (.clip es) = false := rfl
theorem nv7 (o : Nat) : namesV s (.ptr (.ext j) o) = false := rfl
theorem nv8 : namesV s .dead = false := rfl
theorem nb1 (cs : List IV) (ro : Bool) : namesB s (.row cs ro) = cs.any (namesV s) := rfl
theorem nb2 (a b : Nat) : namesB s (.tok a b) = false := rfl
theorem fl_1 (r : Ref) (o : Nat) : flatV (.ptr r o) = true := rfl
theorem fl_2 (r : Ref) (a b : Nat) : flatV (.slc r a b) = true := rfl
theorem fl_3 (r : Ref) (es : List FV) : flatV (.app r es) = true := rfl
theorem fl_4 (v : FV) : flatV (.fv v) = true := rfl
theorem fl_5 : flatV .nils = true := rfl
theorem fl_6 (es : List FV) : flatV (.clip es) = true := rfl
theorem fl_7 : flatV .dead = true := rfl
theorem fb_1 (cs : List IV) (ro : Bool) : flatB (.row cs ro) = cs.all flatV := rfl
theorem fb_2 (a b : Nat) : flatB (.tok a b) = true := rfl
end
def XD := And.intro @st_e <| And.intro @nv1 <| And.intro @nv2 <| And.intro @nv3 <| And.intro @nv4 <| And.intro @nv5 <| And.intro @nv6 <| And.intro @nv7 <| And.intro @nv8 <| And.intro @nb1 <| And.intro @nb2 <| And.intro @fl_1 <| And.intro @fl_2 <| And.intro @fl_3 <| And.intro @fl_4 <| And.intro @fl_5 <| And.intro @fl_6 <| And.intro @fl_7 <| And.intro @fb_1 <| @fb_2
end Idl
end Go.Proofs.Ytdibmackcbpniaa

namespace Go.Proofs.Ytdibmackcbpniaa
namespace Idl
def bindN (op : Int) (i : Nat) : Nat :=
  if op = 3 ∨ op = 4 ∨ op = 6 ∨ op = 20 ∨ op = 28 ∨ op = 29 then (if i = 1 then 1 else 0) else if op = 13 then (if i = 0 then 1 else if i = 2 then 2 else 0) else 0
theorem int_ok {n : Nat} (hn : 0 < n) (x : Int) : Ans (SS dt n 31 [iv x] ⟨[], []⟩) (Tm.mk 25 x []).enc := by
  obtain ⟨n, rfl⟩ : ∃ k, n = k + 1 := ⟨n - 1, by omega⟩
  rw [c31]
  simp only [S31, ↓XX, ↓reduceIte, Nat.reduceBEq, decide_true, decide_false, Bool.not_true, Bool.not_false, List.map_cons, List.map_nil, List.length_map, List.length_cons, List.length_nil, Nat.reduceAdd, Int.cast_ofNat_Int, Int.natCast_zero, Int.natCast_one, Bool.false_eq_true, Bool.true_eq_false, decide_eq_true_eq, eq_self, Int.reduceEq, Int.reduceLT, Int.reduceLE, Bool.and_true, Bool.true_and, Bool.and_false, Bool.false_and, Nat.zero_add]
  exact ans_p rfl _
mutual
def Tm.shift : Tm → Int → Int → Tm
  | .mk op n ks, d, c => .mk op (if op = 1 ∧ c ≤ n then w64 (n + d) else n) (Tm.shiftL op 0 ks d c)
def Tm.shiftL : Int → Nat → List Tm → Int → Int → List Tm
  | _, _, [], _, _ => []
  | op, i, t :: l, d, c => t.shift d (c + bindN op i) :: Tm.shiftL op (i + 1) l d c
end
end Idl
end Go.Proofs.Ytdibmackcbpniaa

namespace Go.Proofs.Ytdibmackcbpniaa
namespace Idl
mutual
def Tm.subst : Tm → Int → Int → Tm → Tm
  | .mk op m ks, n, d, u => if op = 1 then (if m = n then u.shift d 0 else if n < m then .mk 1 (w64 (m - 1)) [] else .mk op m ks) else .mk op m (Tm.substL op 0 ks n d u)
def Tm.substL : Int → Nat → List Tm → Int → Int → Tm → List Tm
  | _, _, [], _, _, _ => []
  | op, i, t :: l, n, d, u => t.subst (n + bindN op i) (d + bindN op i) u :: Tm.substL op (i + 1) l n d u
end
mutual
def Tm.same : Tm → Tm → Bool
  | .mk o n l, .mk o' n' l' => decide (o = o') && (decide (n = n') && (decide (l.length = l'.length) && Tm.sameL l l'))
def Tm.sameL : List Tm → List Tm → Bool
  | a :: l, b :: l' => a.same b && Tm.sameL l l'
  | _, _ => true
end
mutual
theorem same_eq : ∀ a b : Tm, a.same b = true ↔ a = b
  | .mk o n l, .mk o' n' l' => by
    simp only [Tm.same, Bool.and_eq_true, decide_eq_true_eq, Tm.mk.injEq]
    constructor
    · rintro ⟨rfl, rfl, h1, h2⟩
      exact ⟨rfl, rfl, (sameL_eq l l' h1).1 h2⟩
    · rintro ⟨rfl, rfl, rfl⟩
      exact ⟨rfl, rfl, rfl, (sameL_eq l l rfl).2 rfl⟩
theorem sameL_eq : ∀ l l' : List Tm, l.length = l'.length → (Tm.sameL l l' = true ↔ l = l')
  | [], [], _ => by simp [Tm.sameL]
  | a :: l, b :: l', h => by
    simp only [Tm.sameL, Bool.and_eq_true, List.cons.injEq, same_eq a b, sameL_eq l l' (by simpa using h)]
end
theorem same_ok : ∀ (n : Nat) (a b : Tm), a.wt + 1 < n → a.wt ≤ 1152921504606846976 → Ans (SS dt n 18 [.fv a.enc, .fv b.enc] ⟨[], []⟩) (.bool (a.same b)) := by
  intro n
  induction n with
  | zero => intro a b h; omega
  | succ n ih =>
    intro a b h hw
    obtain ⟨op, m, ks⟩ := a
    obtain ⟨op', m', ks'⟩ := b
    simp only [Tm.wt] at h hw
    rw [c18, enc_mk, enc_mk]
    have hlen := wt_len ks
    rw [Tm.same]
    by_cases h1 : op = op'
    · by_cases h2 : m = m'
      · by_cases h3 : ks.length = ks'.length
        · have h3' : (ks.length : Int) = ks'.length := by omega
          subst h1 h2
          simp only [S18_128, S18_129, S18_130, S18_131, S18_132, S18_134, S18_135, S18_136, S18_137, S18, ↓XX, ↓reduceIte, Nat.reduceBEq, decide_true, decide_false, Bool.not_true, Bool.not_false, List.map_cons, List.map_nil, List.length_map, List.length_cons, List.length_nil, Nat.reduceAdd, Int.cast_ofNat_Int, Int.natCast_zero, Int.natCast_one, Bool.false_eq_true, Bool.true_eq_false, decide_eq_true_eq, eq_self, Int.reduceEq, Int.reduceLT, Int.reduceLE, Bool.and_true, Bool.true_and, Bool.and_false, Bool.false_and, Nat.zero_add, h3, h3', Tm.same]
          refine loop_run (Q := fun r => Ans r _) (fun k V H => ∃ pre rest pre' rest', ks = pre ++ rest ∧ ks' = pre' ++ rest' ∧ pre.length = pre'.length ∧ rest.length = k ∧ V = [.ptr (.own 18874368) 0, .ptr (.own 18874369) 0, iv pre.length] ∧
            H = ⟨[(18874368, .row [iv op, iv m, .fv (.sl (ks.map Tm.enc))] false), (18874369, .row [iv op, iv m, .fv (.sl (ks'.map Tm.enc))] false)], []⟩ ∧ Tm.sameL rest rest' = Tm.sameL ks ks')
            ?_ n ks.length _ _ (by omega) ⟨[], ks, [], ks', rfl, rfl, rfl, rfl, rfl, rfl, rfl⟩
          rintro k V H rec ⟨pre, rest, pre', rest', hk, hk', hpl, hl, rfl, rfl, ht⟩ hrec
          have hkl : ks.length = pre.length + rest.length := by rw [hk]; simp
          have hkl' : ks'.length = pre'.length + rest'.length := by rw [hk']; simp
          cases rest with
          | nil =>
            have hno : ¬ ((pre.length : Int) < ks.length) := by rw [hkl]; simp
            rw [← ht]
            simp only [S18_128, S18_129, S18_130, S18_131, S18_132, S18_133, S18_134, S18_135, S18_136, S18_137, S18, ↓XX, ↓reduceIte, Nat.reduceBEq, decide_true, decide_false, Bool.not_true, Bool.not_false, List.map_cons, List.map_nil, List.length_map, List.length_cons, List.length_nil, Nat.reduceAdd, Int.cast_ofNat_Int, Int.natCast_zero, Int.natCast_one, Bool.false_eq_true, Bool.true_eq_false, decide_eq_true_eq, eq_self, Int.reduceEq, Int.reduceLT, Int.reduceLE, Bool.and_true, Bool.true_and, Bool.and_false, Bool.false_and, Nat.zero_add, hno, Tm.sameL]
            exact ans_fv _ _
          | cons t rest =>
            cases rest' with
            | nil => simp at hkl hkl'; omega
            | cons t' rest' =>
              have hi : (pre.length : Int) < ks.length := by rw [hkl]; simp; omega
              have hg := at_pre hk
              have hg' := at_pre hk'
              rw [← hpl] at hg'
              have htw := wt_mem (t := t) (l := ks) (by rw [hk]; simp)
              have hs := ih t t' (by omega) (by omega)
              have hwi : w64 ((pre.length : Int) + 1) = ((pre ++ [t]).length : Int) := (w64_id (by omega) (by omega)).trans (by simp)
              simp only [Tm.sameL] at ht
              generalize t.same t' = v at hs ht
              obtain ⟨o, p, l⟩ := t
              obtain ⟨o', p', l'⟩ := t'
              simp only [List.length_cons] at hl
              rw [enc_mk, enc_mk] at hs
              cases v
              · rw [← ht]
                simp only [S18_128, S18_129, S18_130, S18_131, S18_132, S18_133, S18_134, S18_135, S18_136, S18_137, S18, ↓XX, ↓reduceIte, Nat.reduceBEq, decide_true, decide_false, Bool.not_true, Bool.not_false, List.map_cons, List.map_nil, List.length_map, List.length_cons, List.length_nil, Nat.reduceAdd, Int.cast_ofNat_Int, Int.natCast_zero, Int.natCast_one, Bool.false_eq_true, Bool.true_eq_false, decide_eq_true_eq, eq_self, Int.reduceEq, Int.reduceLT, Int.reduceLE, Bool.and_true, Bool.true_and, Bool.and_false, Bool.false_and, Nat.zero_add, hi, ↓ix_f (map_get hg) (agg3l _ _ _), ↓ix_f (map_get hg') (agg3l _ _ _), ↓agg3, ↓iso_2 hs, Bool.false_and]
                exact ans_fv _ _
              · simp only [S18_128, S18_129, S18_130, S18_131, S18_132, S18_133, S18_134, S18_135, S18_136, S18_137, S18, ↓XX, ↓reduceIte, Nat.reduceBEq, decide_true, decide_false, Bool.not_true, Bool.not_false, List.map_cons, List.map_nil, List.length_map, List.length_cons, List.length_nil, Nat.reduceAdd, Int.cast_ofNat_Int, Int.natCast_zero, Int.natCast_one, Bool.false_eq_true, Bool.true_eq_false, decide_eq_true_eq, eq_self, Int.reduceEq, Int.reduceLT, Int.reduceLE, Bool.and_true, Bool.true_and, Bool.and_false, Bool.false_and, Nat.zero_add, hi, ↓ix_f (map_get hg) (agg3l _ _ _), ↓ix_f (map_get hg') (agg3l _ _ _), ↓agg3, hwi, ↓iso_2 hs]
                refine hrec rest.length _ _ (by omega) ?_
                exact ⟨pre ++ [.mk o p l], rest, pre' ++ [.mk o' p' l'], rest', by rw [hk]; simp, by rw [hk']; simp, by simp [hpl], rfl, rfl, rfl, by simpa using ht⟩
        · have h3' : ¬ (ks.length : Int) = ks'.length := by omega
          simp only [S18_128, S18_129, S18_130, S18_131, S18_132, S18_134, S18_135, S18_136, S18_137, S18, ↓XX, ↓reduceIte, Nat.reduceBEq, decide_true, decide_false, Bool.not_true, Bool.not_false, List.map_cons, List.map_nil, List.length_map, List.length_cons, List.length_nil, Nat.reduceAdd, Int.cast_ofNat_Int, Int.natCast_zero, Int.natCast_one, Bool.false_eq_true, Bool.true_eq_false, decide_eq_true_eq, eq_self, Int.reduceEq, Int.reduceLT, Int.reduceLE, Bool.and_true, Bool.true_and, Bool.and_false, Bool.false_and, Nat.zero_add, h1, h2, h3, h3']
          exact ans_fv _ _
      · simp only [S18_128, S18_129, S18_130, S18_131, S18_132, S18_134, S18_135, S18_136, S18_137, S18, ↓XX, ↓reduceIte, Nat.reduceBEq, decide_true, decide_false, Bool.not_true, Bool.not_false, List.map_cons, List.map_nil, List.length_map, List.length_cons, List.length_nil, Nat.reduceAdd, Int.cast_ofNat_Int, Int.natCast_zero, Int.natCast_one, Bool.false_eq_true, Bool.true_eq_false, decide_eq_true_eq, eq_self, Int.reduceEq, Int.reduceLT, Int.reduceLE, Bool.and_true, Bool.true_and, Bool.and_false, Bool.false_and, Nat.zero_add, h1, h2]
        exact ans_fv _ _
    · simp only [S18_128, S18_129, S18_130, S18_131, S18_132, S18_134, S18_135, S18_136, S18_137, S18, ↓XX, ↓reduceIte, Nat.reduceBEq, decide_true, decide_false, Bool.not_true, Bool.not_false, List.map_cons, List.map_nil, List.length_map, List.length_cons, List.length_nil, Nat.reduceAdd, Int.cast_ofNat_Int, Int.natCast_zero, Int.natCast_one, Bool.false_eq_true, Bool.true_eq_false, decide_eq_true_eq, eq_self, Int.reduceEq, Int.reduceLT, Int.reduceLE, Bool.and_true, Bool.true_and, Bool.and_false, Bool.false_and, Nat.zero_add, h1]
      exact ans_fv _ _
end Idl
end Go.Proofs.Ytdibmackcbpniaa

namespace Go.Proofs.Ytdibmackcbpniaa
namespace Idl
theorem bs2_g (o1 n1 o2 n2 : Int) (k1 k2 : List FV) (s : Nat) (h : Hp) (k : IV → Hp → List Ref → List Ref → Option (IV × Hp)) : genS (pcBuildSlice EE 28 2 [(0, .fv (.agg [.int .i64 o1, .int .i64 n1, .sl k1])), (1, .fv (.agg [.int .i64 o2, .int .i64 n2, .sl k2]))]) s h k =
    k (.clip [.agg [.int .i64 o1, .int .i64 n1, .sl k1], .agg [.int .i64 o2, .int .i64 n2, .sl k2]]) h [] [] := bs_tm tTms tTm (by decide) (cells := [.int .i64 o1, .int .i64 n1, .sl k1, .int .i64 o2, .int .i64 n2, .sl k2]) rfl k
theorem opt_some {β : Type} {x : Option IV} {v : IV} (h : x = some v) (k : IV → Option β) : optS x k = k v := by rw [optS_eq, h]; rfl
def AnsV (r : Option (IV × Hp)) (v : FV) : Prop := ∃ own, r = some (.fv v, ⟨own, []⟩)
theorem ansv {v : FV} {own : List (Nat × Blk)} : AnsV (some (.fv v, ⟨own, []⟩)) v := ⟨own, rfl⟩
theorem keep0 {g : FuncId} (h : EE.pol.inl g = false) (h1 : EE.pol.keep g = []) (h2 : EE.pol.split g = false) (h3 : EE.pol.raw g = false) (ih : Handler) (xs : List IV) (h0 : Hp) (k : IV → Hp → List Ref → List Ref → Option (IV × Hp)) :
    dynS EE ih (.fv (.func (.func g) [] [])) xs h0 k = isoS [] false false ih g xs h0 k := by
  unfold dynS
  simp only [callee, h, cond_false, sp_e, h1, h2, h3, List.map_nil, List.nil_append, List.append_nil]
end Idl
end Go.Proofs.Ytdibmackcbpniaa

namespace Go.Proofs.Ytdibmackcbpniaa
namespace Idl
section
variable {β : Type} {E : Env}
def AnsX (r : Option (IV × Hp)) (w : FV) (ext : List Blk) : Prop := ∃ v own, r = some (v, ⟨own, ext⟩) ∧
  ∃ u lg, ∀ (e : Option (IV × Hp)) (K : FV → List (Ref × Blk) → List Ref → Option (IV × Hp)), fzU 12 v ⟨own, ext⟩ [] e K = K w u lg
theorem ansx_fv (w : FV) (own : List (Nat × Blk)) (ext : List Blk) : AnsX (some (.fv w, ⟨own, ext⟩)) w ext := ⟨_, own, rfl, [], [], fun _ _ => rfl⟩
theorem refsDL_fv : ∀ l : List FV, refsDL (l.map .fv) [] = []
  | [] => rfl
  | v :: l => by
    show refsD (.fv v) (refsDL (l.map .fv) []) = []
    rw [refsDL_fv l]
    rfl
theorem goB_s (n j : Nat) (t : List Ref) (s : Nat) (rest : List Blk) : goB (n + 1) (.ext j :: t) s rest = cond (Nat.ble (Nat.succ j) s) (goB n t s rest) (cond (Nat.beq j s) (goR (goB n) t s rest) false) := rfl
theorem goB_n (n s : Nat) : goB (n + 1) [] s [] = true := rfl
set_option maxRecDepth 20000 in
theorem goB_one (st : List FV) : goB 400 [.ext 0] 0 [.row (st.map .fv) false] = true := by
  rw [show (400 : Nat) = 398 + 1 + 1 from rfl, goB_s]
  show goR (goB (398 + 1)) [] 0 [.row (st.map .fv) false] = true
  show goB (398 + 1) ([] ++ refsB (.row (st.map .fv) false)) 1 [] = true
  rw [show refsB (.row (st.map .fv) false) = refsDL (st.map .fv) [] from rfl, refsDL_fv]
  exact goB_n 398 1
theorem okB_one (st : List FV) : okB 1 [.row (st.map .fv) false] = true := by
  show cond (okR 1 (refsB (.row (st.map .fv) false))) true false = true
  rw [show refsB (.row (st.map .fv) false) = refsDL (st.map .fv) [] from rfl, refsDL_fv]
  rfl
theorem iso_cx {r1 : Ref} {rs1 : List Ref} {ih : Handler} {f : FuncId} {vs : List IV} {w : FV} {ext ext' : List Blk} (hr : AnsX (ih f vs ⟨[], ext⟩) w ext') (hg : goB 400 (r1 :: rs1) 0 ext = true) (hl : ext'.length = ext.length) (ho : okB ext.length ext' = true)
    (own : List (Nat × Blk)) (r0 : Option (IV × Hp)) (u : List (Ref × Blk)) (lg : List Ref) (e : Option (IV × Hp)) (k : IV → Hp → List Ref → List Ref → Option (IV × Hp)) :
    isoC (r1 :: rs1) r0 ⟨own, ext⟩ u lg e (fun rs => match rs with
      | [] => none
      | r :: rs => (match (⟨own, ext⟩ : Hp) with
        | ⟨own, ext⟩ => cond (goB 400 (r :: rs) 0 ext) (match ih f vs ⟨[], ext⟩ with
          | none => none
          | some p => match p with
            | (v, h') => match h' with
              | ⟨own', ext'⟩ => cond (and (Nat.beq ext'.length ext.length) (okB ext.length ext'))
                (fzU 12 v ⟨own', ext'⟩ [] e fun w _ _ => layU u ⟨own, ext'⟩ fun h2 => k (.fv w) h2 ((extsUp ext.length).reverse ++ lg) (keys u ++ extsUp ext.length)) none)
          e)) k = layU u ⟨own, ext'⟩ fun h2 => k (.fv w) h2 ((extsUp ext.length).reverse ++ lg) (keys u ++ extsUp ext.length) := by
  obtain ⟨v, own', e1, u', lg', hz⟩ := hr
  simp only [isoC, hg, e1, hl, ho]
  rw [show (Nat.beq ext.length ext.length && true) = true by rw [Bool.and_true]; exact Nat.beq_refl _, cond_true, hz]
  rfl
structure OneX (ext ext' : List Blk) : Prop where
  g : goB 400 [.ext 0] 0 ext = true
  l : ext.length = 1
  l' : ext'.length = 1
  o : okB 1 ext' = true
theorem fza_k (x : Nat) : ∀ (args : List IV) {vs : List FV} (h : Hp) (lg : List Ref) (e : Option β) (k : List IV → List Ref → List (Ref × Blk) → List Ref → Option β) (ks : List Bool), (∀ b ∈ ks, b = false) → frzPL args = some vs →
    fzA args ks h lg e k = k (vs.map .fv) [] [] lg
  | [], vs, h, lg, e, k, ks, _, hz => by cases hz; rfl
  | v :: l, vs, h, lg, e, k, [], _, hz => fza_p (v :: l) h lg e k hz
  | v :: l, vs, h, lg, e, k, b :: ks, hk, hz => by
    have hb := hk b List.mem_cons_self
    subst hb
    simp only [frzPL] at hz
    cases h1 : frzP v with
    | none => rw [h1] at hz; cases hz
    | some x' =>
      rw [h1] at hz
      cases h2 : frzPL l with
      | none => rw [h2] at hz; cases hz
      | some ys =>
        rw [h2] at hz
        cases hz
        rw [fz1f, fzp_u h lg e _ h1, fza_k x l h lg e _ ks (fun c hc => hk c (List.mem_cons_of_mem _ hc)) h2]
        rfl
end
end Idl
end Go.Proofs.Ytdibmackcbpniaa

namespace Go.Proofs.Ytdibmackcbpniaa
namespace Idl
theorem log_run {α : Type} : ∀ (r : Rd α) (h : Hp) (l : List Ref) {x : α} {l' : List Ref}, r.runLog h l = some (x, l') → r.run h = some x
  | .ret a, h, l, x, l', e => by simp only [Rd.runLog, Option.some.injEq, Prod.mk.injEq] at e; rw [e.1]; rfl
  | .fail, _, _, _, _, e => by cases e
  | .get r k, h, l, x, l', e => by
    simp only [Rd.runLog] at e
    simp only [Rd.run]
    cases hg : h.get r with
    | none => rw [hg] at e; cases e
    | some b => rw [hg] at e; exact log_run (k b) h _ e
theorem ansx_frz {v : IV} {own : List (Nat × Blk)} {ext : List Blk} {w : FV} (h : ∃ u lg, ∀ (e : Option (IV × Hp)) (K : FV → List (Ref × Blk) → List Ref → Option (IV × Hp)), fzU 12 v ⟨own, ext⟩ [] e K = K w u lg) : ∃ u, (frz 4096 v).run ⟨own, ext⟩ = some (w, u) := by
  obtain ⟨u, lg, hz⟩ := h
  rcases fzU_ok 12 v ⟨own, ext⟩ [] none (fun w _ _ => some (IV.fv w, (⟨[], []⟩ : Hp))) (.fv w, ⟨[], []⟩) (hz ..) with h | ⟨x, u', lg', h1, _, h2⟩
  · cases h
  · simp only [Option.some.injEq, Prod.mk.injEq, IV.fv.injEq, and_true] at h2
    subst h2
    exact ⟨u', log_run _ _ _ (h1 4096 (by decide))⟩
theorem refsL_fv : ∀ l : List FV, IV.refs.refsL (l.map .fv) = []
  | [] => rfl
  | v :: l => by
    simp only [List.map_cons, IV.refs.refsL, IV.refs, refsL_fv l, List.append_nil]
theorem frz_argsk : ∀ (args : List IV) (ks : List Bool) {vs : List FV}, (∀ b ∈ ks, b = false) → frzPL args = some vs → frzArgs ks args = .ret (vs.map .fv, [], [])
  | [], ks, vs, _, hz => by cases hz; cases ks <;> rfl
  | v :: l, [], vs, _, hz => frz_args (v :: l) hz
  | v :: l, b :: ks, vs, hk, hz => by
    have hb := hk b List.mem_cons_self
    subst hb
    simp only [frzPL] at hz
    cases h1 : frzP v with
    | none => rw [h1] at hz; cases hz
    | some x =>
      rw [h1] at hz
      cases h2 : frzPL l with
      | none => rw [h2] at hz; cases hz
      | some ys =>
        rw [h2] at hz
        cases hz
        simp only [frzArgs, frp 4096 (by omega) h1, Rd.bind, frz_argsk l ks (fun c hc => hk c (List.mem_cons_of_mem _ hc)) h2]
        rfl
theorem goB_own (s : Nat) (ext : List Blk) : goB 400 [.own s] 0 ext = false := rfl
end Idl
end Go.Proofs.Ytdibmackcbpniaa

namespace Go.Proofs.Ytdibmackcbpniaa
namespace Idl
section
variable {β : Type}
theorem held_mem' {rm : List Nat} {vals : List IV} {own : List (Nat × Blk)} {ext : List Blk} (hf : flatD rm vals own [] = true) (hx : ∀ s, Ref.own s ∉ ext.flatMap Blk.refs) (s : Nat) :
    Ref.own s ∈ IV.refs.refsL vals ++ (own.filter fun p => !rm.contains p.1).flatMap (fun p => p.2.refs) ++ ext.flatMap Blk.refs ↔ heldB rm vals own [] s = true := by
  rw [← held_mem hf s, List.mem_append]
  constructor
  · rintro (h | h)
    · exact List.mem_append_left _ h
    · exact absurd h (hx s)
  · intro h
    rcases List.mem_append.1 h with h | h
    · exact .inl h
    · cases h
theorem drop_x {base rm : List Nat} {vals : List IV} {own : List (Nat × Blk)} {ext : List Blk} (hx : ∀ s, Ref.own s ∉ ext.flatMap Blk.refs) (hb : rm.any base.contains = false) (hf : flatD rm vals own [] = true) (k : Hp → Option β) :
    dropS base rm vals ⟨own, ext⟩ k = k ⟨stays rm vals own [], ext⟩ := by
  have hm := held_mem' hf hx
  have hf0 := hf
  simp only [flatD, Bool.and_eq_true] at hf0
  obtain ⟨g1, g2, g3, g4⟩ := hf0
  unfold dropS
  rw [hb]
  simp only [cond_false]
  rw [anyO_eq]
  cases ha : (own.all fun p => !rm.contains p.1) with
  | true =>
    simp only [Bool.not_true, cond_false]
    congr 2
    symm
    apply List.filter_eq_self.2
    intro p hp
    rw [List.all_eq_true.1 ha p hp]; rfl
  | false =>
    simp only [Bool.not_false, cond_true]
    have slow : (match dropAt base [] rm ⟨vals, ⟨own, ext⟩⟩ with | none => none | some S => fH S.hp k) = k ⟨stays rm vals own [], ext⟩ := by
      have hgone : (rm.filter fun k => !anyIn [k] (IV.refs.refsL vals ++ (own.filter fun p => !rm.contains p.1).flatMap (fun p => p.2.refs) ++ ext.flatMap Blk.refs)) = rm.filter fun s => !heldB rm vals own [] s := by
        apply List.filter_congr
        intro s _
        congr 1
        exact Bool.eq_iff_iff.2 ((anyIn_one s _).trans (hm s))
      have hown : (own.filter fun p => !(rm.filter fun s => !heldB rm vals own [] s).contains p.1) = stays rm vals own [] := by
        apply List.filter_congr
        intro p _
        rw [Bool.eq_iff_iff]
        simp only [Bool.not_eq_true', Bool.or_eq_true, List.contains_eq_mem, decide_eq_false_iff_not, List.mem_filter]
        constructor
        · intro h
          by_cases h1 : p.1 ∈ rm
          · right
            cases hh : heldB rm vals own [] p.1 with
            | true => rfl
            | false => exact absurd ⟨h1, hh⟩ h
          · exact .inl h1
        · rintro (h | h) ⟨h1, h2⟩
          · exact h h1
          · rw [h] at h2; exact absurd h2 (by simp)
      simp only [dropAt, hb, Bool.false_eq_true, if_false, killSlots, ha, hgone, hown]
      have hnone : anyIn (rm.filter fun s => !heldB rm vals own [] s) (refsOfSt ⟨vals, ⟨stays rm vals own [], ext⟩⟩) = false := by
        apply anyIn_none
        intro s hs hmem
        obtain ⟨hs1, hs2⟩ := List.mem_filter.1 hs
        have hs2 : heldB rm vals own [] s = false := by simpa using hs2
        simp only [refsOfSt, List.mem_append] at hmem
        rcases hmem with (hmem | hmem) | hmem
        · have := (hm s).1 (List.mem_append_left _ (List.mem_append_left _ hmem))
          rw [this] at hs2; cases hs2
        · obtain ⟨p, hp, hr⟩ := List.mem_flatMap.1 hmem
          have hp1 := (List.mem_filter.1 hp).1
          have hn := (flat_refsB (List.all_eq_true.1 g2 p hp1) s).1 hr
          have h4 := List.all_eq_true.1 g4 p hp1
          cases hc : rm.contains p.1 with
          | true =>
            rw [hc] at h4
            have h4 : (rm.all fun s => !namesB s p.2) = true := h4
            have h5 := List.all_eq_true.1 h4 s hs1
            rw [hn] at h5; cases h5
          | false =>
            have := (hm s).1 (List.mem_append_left _ (List.mem_append_right _ (List.mem_flatMap.2 ⟨p, List.mem_filter.2 ⟨hp1, by rw [hc]; rfl⟩, hr⟩)))
            rw [this] at hs2; cases hs2
        · exact hx s hmem
      simp only [hnone, Bool.false_eq_true, if_false, fH_eq]
    cases hff : (and (freeR rm (refsDL vals [])) (and (freeO rm own) (freeE rm ext))) with
    | false => exact slow
    | true =>
      have hff : (freeR rm (refsDL vals []) && (freeO rm own && freeE rm ext)) = true := hff
      simp only [Bool.and_eq_true] at hff
      simp only [filtK_eq, cond_true]
      congr 2
      apply List.filter_congr
      intro p hp
      cases hc : rm.contains p.1 with
      | false => rfl
      | true =>
        have h1 := freeR_ok hff.1
        rw [refsDL_eq, List.append_nil] at h1
        have h2 := freeO_ok hff.2.1
        have : heldB rm vals own [] p.1 = false := by
          cases hh : heldB rm vals own [] p.1 with
          | false => rfl
          | true =>
            have := (hm p.1).2 hh
            have hpm : p.1 ∈ rm := List.contains_iff_mem.1 hc
            rcases List.mem_append.1 this with h | h
            · rcases List.mem_append.1 h with h | h
              · exact absurd h (h1 _ hpm)
              · exact absurd h (h2 _ hpm)
            · exact absurd h (hx _)
        rw [this]; rfl
structure ExtX (ext ext' : List Blk) : Prop where
  g : goB 400 [.ext 0] 0 ext = true
  l : ext'.length = ext.length
  o : okB ext.length ext' = true
theorem fzl_fv (d : Nat) (h : Hp) (lg : List Ref) (e : Option β) : ∀ (l : List FV) (k : List FV → List (Ref × Blk) → List Ref → Option β), fzLK (fzU (d + 1)) (l.map .fv) h lg e k = k l [] lg
  | [], k => rfl
  | v :: l, k => by
    show (fzU (d + 1) (.fv v) h lg e fun y u lg => fzLK (fzU (d + 1)) (l.map .fv) h lg e fun ys us lg => apK u us fun w => k (y :: ys) w lg) = _
    show (fzLK (fzU (d + 1)) (l.map .fv) h lg e fun ys us lg => apK [] us fun w => k (v :: ys) w lg) = _
    rw [fzl_fv d h lg e l]
    rfl
end
end Idl
end Go.Proofs.Ytdibmackcbpniaa

namespace Go.Proofs.Ytdibmackcbpniaa
namespace Idl
theorem gb1 (a : FV) : goB 400 [.ext 0] 0 [.row [.fv a] false] = true := goB_one [a]
theorem ob1 (a : FV) : okB 1 [.row [.fv a] false] = true := okB_one [a]
theorem onex1 (a a' : FV) : OneX [.row [.fv a] false] [.row [.fv a'] false] := ⟨gb1 .., rfl, rfl, ob1 ..⟩
theorem iso_mm {ks : List Bool} (hks : ∀ b ∈ ks, b = false) {ih : Handler} {f : FuncId} {a0 : IV} {x0 : FV} {args : List IV} {vs : List FV} {w : FV} {ext ext' : List Blk} (h0 : frzP a0 = some x0) (hz : frzPL args = some vs) (X : OneX ext ext') (hr : AnsX (ih f (.fv x0 :: .ptr (.ext 0) 0 :: vs.map .fv) ⟨[], ext⟩) w ext')
    (own : List (Nat × Blk)) (k : IV → Hp → List Ref → List Ref → Option (IV × Hp)) : isoS (false :: true :: ks) false false ih f (a0 :: .ptr (.ext 0) 0 :: args) ⟨own, ext⟩ k = k (.fv w) ⟨own, ext'⟩ [.ext 0] [.ext 0] := by
  rw [iso_e, fz1f, fzp_u _ _ _ _ h0, fz1k, as_p, fza_k 0 args _ _ _ _ ks hks hz]
  have := iso_cx (r1 := .ext 0) (rs1 := []) hr X.g (by rw [X.l, X.l']) (by rw [X.l]; exact X.o) own (ih f (.fv x0 :: .ptr (.ext 0) 0 :: vs.map .fv) ⟨[], []⟩) [] [] (isoD (false :: true :: ks) false false ih f (a0 :: .ptr (.ext 0) 0 :: args) ⟨own, ext⟩ k) k
  refine this.trans ?_
  rw [X.l]
  rfl
theorem iso_mm3 {ih : Handler} {f : FuncId} {a b : IV} {x y w : FV} {ext ext' : List Blk} (hr : AnsX (ih f [.fv x, .ptr (.ext 0) 0, .fv y] ⟨[], ext⟩) w ext') (X : OneX ext ext') (ha : frzP a = some x) (hb : frzP b = some y) (own : List (Nat × Blk))
    (k : IV → Hp → List Ref → List Ref → Option (IV × Hp)) : isoS [false, true, false] false false ih f [a, .ptr (.ext 0) 0, b] ⟨own, ext⟩ k = k (.fv w) ⟨own, ext'⟩ [.ext 0] [.ext 0] := iso_mm (ks := [false]) (by simp) ha (zl_1 hb) X hr own k
theorem iso_oo {ks : List Bool} (hks : ∀ b ∈ ks, b = false) {ih : Handler} {f : FuncId} {a0 : IV} {x0 : FV} {args : List IV} {vs : List FV} {w : FV} {s : Nat} {st st' : List FV} {own : List (Nat × Blk)} (h0 : frzP a0 = some x0) (hz : frzPL args = some vs) (hl : lookupOwn s own = some (.row (st.map .fv) false))
    (hr : AnsX (ih f (.fv x0 :: .ptr (.ext 0) 0 :: vs.map .fv) ⟨[], [.row (st.map .fv) false]⟩) w [.row (st'.map .fv) false]) (k : IV → Hp → List Ref → List Ref → Option (IV × Hp)) :
    isoS (false :: true :: ks) false false ih f (a0 :: .ptr (.own s) 0 :: args) ⟨own, []⟩ k = k (.fv w) ⟨putOwn s (.row (st'.map .fv) false) own, []⟩ [.own s] [.own s] := by
  obtain ⟨v, own', e1, hfz⟩ := hr
  obtain ⟨u, hu⟩ := ansx_frz hfz
  have hD : isoD (false :: true :: ks) false false ih f (a0 :: .ptr (.own s) 0 :: args) ⟨own, []⟩ k = k (.fv w) ⟨putOwn s (.row (st'.map .fv) false) own, []⟩ [.own s] [.own s] := by
    have h1 : frzArgs (false :: true :: ks) (a0 :: .ptr (.own s) 0 :: args) = .ret (.fv x0 :: .ptr (.own s) 0 :: vs.map .fv, [.own s], []) := by
      simp only [frzArgs, frp 4096 (by omega) h0, frz_argsk args ks hks hz, Rd.bind, IV.refs]
      rfl
    have h2 : (gather 4096 [.own s] []).runLog ⟨own, []⟩ [] = some ([(.own s, .row (st.map .fv) false)], [.own s]) := by
      show (gather (4094 + 1 + 1) [.own s] []).runLog ⟨own, []⟩ [] = _
      simp only [gather, hasRef, Bool.false_eq_true, if_false, Rd.runLog, Hp.get, hl, Blk.refs, refsL_fv, List.append_nil, List.nil_append]
    have h3 : IV.ren.renL (into [(.own s, .row (st.map .fv) false)]) (.fv x0 :: .ptr (.own s) 0 :: vs.map .fv) = some (.fv x0 :: .ptr (.ext 0) 0 :: vs.map .fv) := by
      simp only [IV.ren.renL, IV.ren, into, placeOf, if_true, Option.map_some, Option.bind_some, renL_fv]
    have h4 : renBlks (into [(.own s, .row (st.map .fv) false)]) [.row (st.map .fv) false] = some [.row (st.map .fv) false] := by
      simp only [renBlks, Blk.ren, renL_fv, Option.map_some, Option.bind_some]
    have h5 : renBlks (back [(.own s, .row (st.map .fv) false)]) [.row (st'.map .fv) false] = some [.row (st'.map .fv) false] := by
      simp only [renBlks, Blk.ren, renL_fv, Option.map_some, Option.bind_some]
    unfold isoD
    simp only [h1, Rd.runLog, h2, h3, List.map_cons, List.map_nil, h4, fL_eq (fV_eq 3), fL_eq fBk_eq, askedD, Bool.false_eq_true, if_false, e1, hu, Option.map_some, IV.ren, h5, List.length_cons, List.length_nil, keys, List.all_nil, and_self, if_true, List.nil_append, List.zip_cons_cons, List.zip_nil_left]
    have h6 : laid ⟨own, []⟩ [(.own s, .row (st'.map .fv) false)] = some ⟨putOwn s (.row (st'.map .fv) false) own, []⟩ := by
      simp only [laid, Hp.get, hl, Hp.set]
    simp only [h6, fH_eq, fV_eq]
  rw [iso_e, fz1f, fzp_u _ _ _ _ h0, fz1k, as_p, fza_k 0 args _ _ _ _ ks hks hz]
  simp only [isoC, goB_own, cond_false]
  exact hD
theorem iso_oo3 {ih : Handler} {f : FuncId} {x y : IV} {vx vy w : FV} {s : Nat} {a a' : FV} {own own' : List (Nat × Blk)} (hr : AnsX (ih f [.fv vx, .ptr (.ext 0) 0, .fv vy] ⟨[], [.row [.fv a] false]⟩) w [.row [.fv a'] false])
    (hx : frzP x = some vx) (hy : frzP y = some vy) (hl : lookupOwn s own = some (.row [.fv a] false)) (ho : putOwn s (.row [.fv a'] false) own = own') (k : IV → Hp → List Ref → List Ref → Option (IV × Hp)) :
    isoS [false, true, false] false false ih f [x, .ptr (.own s) 0, y] ⟨own, []⟩ k = k (.fv w) ⟨own', []⟩ [.own s] [.own s] := by
  subst ho
  exact iso_oo (ks := [false]) (by simp) (st := [a]) (st' := [a']) hx (zl_1 hy) hl hr k
end Idl
end Go.Proofs.Ytdibmackcbpniaa

namespace Go.Proofs.Ytdibmackcbpniaa
namespace Idl
def kidsN (op : Int) : Int := if op < 0 then -1 else ([-1, 0, 0, 2, 2, 2, 2, 3, 1, 1, 0, 0, 1, 4, 0, 0, 2, 2, 1, 1, 2, 2, 2, 1, 1, 0, 2, 3, 2, 2, 1] : List Int).getD op.toNat (-1)
theorem op_cases (op : Int) : (0 ≤ op ∧ op ≤ 30) ∨ op < 0 ∨ 30 < op := by omega
theorem kidsN_out {op : Int} (h : op < 0 ∨ 30 < op) : kidsN op = -1 := by
  unfold kidsN
  split
  · rfl
  · rw [List.getD_eq_getElem?_getD, List.getElem?_eq_none (by simp; omega)]; rfl
theorem op_in {P : Int → Prop} (h : ∀ k : Nat, k < 31 → P k) {op : Int} (h1 : 0 ≤ op ∧ op ≤ 30) : P op := by
  have := h op.toNat (by omega)
  rwa [Int.toNat_of_nonneg h1.1] at this
def numb (op n : Int) : Bool := if op = 1 then decide (0 ≤ n) && decide (n ≤ 3000) else if op = 2 then decide (0 ≤ n) && decide (n ≤ 2) else if op = 26 then decide (0 ≤ n) && decide (n ≤ 4) else if op = 25 then true else decide (n = 0)
theorem pnumber_ok {n : Nat} (hn : 0 < n) (op m : Int) : Ans (SS dt n 103 [iv op, iv m] ⟨[], []⟩) (.bool (numb op m)) := by
  obtain ⟨n, rfl⟩ : ∃ k, n = k + 1 := ⟨n - 1, by omega⟩
  rw [c103]
  unfold numb
  by_cases h1 : op = 1
  · by_cases h0 : 0 ≤ m <;> simp only [S103_47, S103_48, S103_49, S103_50, S103_51, S103, ↓XX, ↓reduceIte, Nat.reduceBEq, decide_true, decide_false, Bool.not_true, Bool.not_false, List.map_cons, List.map_nil, List.length_map, List.length_cons, List.length_nil, Nat.reduceAdd, Int.cast_ofNat_Int, Int.natCast_zero, Int.natCast_one, Bool.false_eq_true, Bool.true_eq_false, decide_eq_true_eq, eq_self, Int.reduceEq, Int.reduceLT, Int.reduceLE, Bool.and_true, Bool.true_and, Bool.and_false, Bool.false_and, Nat.zero_add, h0, h1] <;> exact ans_fv _ _
  by_cases h2 : op = 2
  · by_cases h0 : 0 ≤ m <;> simp only [S103_47, S103_48, S103_49, S103_50, S103_51, S103, ↓XX, ↓reduceIte, Nat.reduceBEq, decide_true, decide_false, Bool.not_true, Bool.not_false, List.map_cons, List.map_nil, List.length_map, List.length_cons, List.length_nil, Nat.reduceAdd, Int.cast_ofNat_Int, Int.natCast_zero, Int.natCast_one, Bool.false_eq_true, Bool.true_eq_false, decide_eq_true_eq, eq_self, Int.reduceEq, Int.reduceLT, Int.reduceLE, Bool.and_true, Bool.true_and, Bool.and_false, Bool.false_and, Nat.zero_add, h0, h2] <;> exact ans_fv _ _
  by_cases h3 : op = 26
  · by_cases h0 : 0 ≤ m <;> simp only [S103_47, S103_48, S103_49, S103_50, S103_51, S103, ↓XX, ↓reduceIte, Nat.reduceBEq, decide_true, decide_false, Bool.not_true, Bool.not_false, List.map_cons, List.map_nil, List.length_map, List.length_cons, List.length_nil, Nat.reduceAdd, Int.cast_ofNat_Int, Int.natCast_zero, Int.natCast_one, Bool.false_eq_true, Bool.true_eq_false, decide_eq_true_eq, eq_self, Int.reduceEq, Int.reduceLT, Int.reduceLE, Bool.and_true, Bool.true_and, Bool.and_false, Bool.false_and, Nat.zero_add, h0, h3] <;> exact ans_fv _ _
  by_cases h4 : op = 25
  · simp only [S103_47, S103_48, S103_49, S103_50, S103_51, S103, ↓XX, ↓reduceIte, Nat.reduceBEq, decide_true, decide_false, Bool.not_true, Bool.not_false, List.map_cons, List.map_nil, List.length_map, List.length_cons, List.length_nil, Nat.reduceAdd, Int.cast_ofNat_Int, Int.natCast_zero, Int.natCast_one, Bool.false_eq_true, Bool.true_eq_false, decide_eq_true_eq, eq_self, Int.reduceEq, Int.reduceLT, Int.reduceLE, Bool.and_true, Bool.true_and, Bool.and_false, Bool.false_and, Nat.zero_add, h4]; exact ans_fv _ _
  simp only [S103_47, S103_48, S103_49, S103_50, S103_51, S103, ↓XX, ↓reduceIte, Nat.reduceBEq, decide_true, decide_false, Bool.not_true, Bool.not_false, List.map_cons, List.map_nil, List.length_map, List.length_cons, List.length_nil, Nat.reduceAdd, Int.cast_ofNat_Int, Int.natCast_zero, Int.natCast_one, Bool.false_eq_true, Bool.true_eq_false, decide_eq_true_eq, eq_self, Int.reduceEq, Int.reduceLT, Int.reduceLE, Bool.and_true, Bool.true_and, Bool.and_false, Bool.false_and, Nat.zero_add, h1, h2, h3, h4]; exact ans_fv _ _
end Idl
end Go.Proofs.Ytdibmackcbpniaa

namespace Go.Proofs.Ytdibmackcbpniaa
namespace Idl
theorem flat_fv (l : List FV) : (l.map IV.fv).all flatV = true := by induction l with
  | nil => rfl
  | cons a l ih => rw [List.map_cons, List.all_cons, ih]; rfl
theorem names_fv (s : Nat) (l : List FV) : (l.map IV.fv).any (namesV s) = false := by induction l with
  | nil => rfl
  | cons a l ih => rw [List.map_cons, List.any_cons, ih]; rfl
def cellsF : List Tm → List FV
  | [] => []
  | .mk o n k :: l => .int .i64 o :: .int .i64 n :: .sl (k.map Tm.enc) :: cellsF l
def zeroT : Nat → List IV
  | 0 => []
  | n + 1 => iv 0 :: iv 0 :: .nils :: zeroT n
def cellsT (ts : List Tm) (r : Nat) : List IV := (cellsF ts).map .fv ++ zeroT r
theorem cellsF_len (ts : List Tm) : (cellsF ts).length = 3 * ts.length := by
  induction ts with
  | nil => rfl
  | cons t l ih => obtain ⟨o, n, k⟩ := t; simp only [cellsF, List.length_cons, ih]; omega
theorem cellsF_app (ts : List Tm) (t : Tm) : cellsF (ts ++ [t]) = cellsF ts ++ [.int .i64 t.op, .int .i64 t.n, .sl (t.kids.map Tm.enc)] := by
  induction ts with
  | nil => obtain ⟨o, n, k⟩ := t; rfl
  | cons a l ih => obtain ⟨o, n, k⟩ := a; simp only [List.cons_append, cellsF, ih]
theorem setFK_app {β : Type} : ∀ (A : List IV) (x y z : IV) (B : List IV) (a b c : FV) (k : List IV → Option β), setFK (A ++ x :: y :: z :: B) A.length [a, b, c] k = k (A ++ .fv a :: .fv b :: .fv c :: B)
  | [], x, y, z, B, a, b, c, k => rfl
  | w :: A, x, y, z, B, a, b, c, k => by
    show setFK (A ++ x :: y :: z :: B) A.length [a, b, c] (fun t => k (w :: t)) = _
    rw [setFK_app A]
    rfl
theorem set_t {β : Type} (done : List Tm) (r : Nat) (o n : Int) (ks : List Tm) (k : List IV → Option β) : setFK (cellsT done (r + 1)) (done.length * 3) [.int .i64 o, .int .i64 n, .sl (ks.map Tm.enc)] k = k (cellsT (done ++ [.mk o n ks]) r) := by
  have h := setFK_app (β := β) ((cellsF done).map .fv) (iv 0) (iv 0) .nils (zeroT r) (.int .i64 o) (.int .i64 n) (.sl (ks.map Tm.enc)) k
  rw [List.length_map, cellsF_len, Nat.mul_comm] at h
  refine h.trans ?_
  congr 1
  unfold cellsT
  rw [cellsF_app]
  simp [Tm.op, Tm.n, Tm.kids, iv]
theorem chk3 {β : Type} : ∀ (ts : List Tm) (k : List FV → Option β), chK 3 ts.length (cellsF ts) k = k (ts.map Tm.enc)
  | [], k => rfl
  | .mk o n ks :: l, k => by
    show (takK (cellsF (.mk o n ks :: l)) 3 fun a => drpK (cellsF (.mk o n ks :: l)) 3 fun b => elK2 a fun x => chK 3 l.length b fun xs => k (x :: xs)) = _
    rw [cellsF, t3, d3]
    show (chK 3 l.length (cellsF l) fun xs => k (.agg [.int .i64 o, .int .i64 n, .sl (ks.map Tm.enc)] :: xs)) = _
    rw [chk3 l, List.map_cons, enc_mk]
theorem rep_t (n : Nat) : rep n [iv 0, iv 0, .nils] = cellsT [] n := by
  induction n with
  | zero => rfl
  | succ n ih => rw [rep, ih]; rfl
theorem mk_t {n : Nat} (hn : n ≤ 1000) (s : Nat) (own : List (Nat × Blk)) (ext : List Blk) (k : IV → Hp → List Ref → List Ref → Option (IV × Hp)) :
    genS (pcMakeSlice EE s 28 (iv n) (iv n)) s ⟨own, ext⟩ k = freshK own s (putOwnK own s (.row (cellsT [] n) false) fun own => k (.slc (.own s) 3 n) ⟨own, ext⟩ [] [.own s]) := by
  have : pcMakeSlice EE s 28 (iv n) (iv n) = .ret { eff := { val := .slc (.own s) 3 n }, new := some (.row (cellsT [] n) false) } := by
    simp only [pcMakeSlice, tTms, tTm, iv_e]
    rw [if_pos ⟨by omega, by omega, by omega, by decide, by decide⟩, Int.toNat_natCast, rep_t]
  rw [this]
  unfold genS
  simp only [Rd.runLog, newK, fBk_eq, fV_eq]
  rfl
theorem ix_sl3 {β : Type} {n i : Nat} (h : i < n) (r : Ref) (k : IV → Option β) : ixS 3 (.slc r 3 n) (iv i) k = k (.ptr r (i * 3)) := by
  have e1 : Nat.ble (Nat.succ i) n = true := by rw [ble_dec]; exact decide_eq_true h
  show (cond (and (Nat.ble (Nat.succ i) n) (Nat.beq 3 3)) (fNat (i * 3) fun o => k (.ptr r o)) none) = _
  rw [e1]
  simp only [fNat_eq]
  rfl
theorem flat_t (ts : List Tm) (r : Nat) : (cellsT ts r).all flatV = true := by
  unfold cellsT
  rw [List.all_append, flat_fv, Bool.true_and]
  induction r with
  | zero => rfl
  | succ r ih => rw [zeroT, List.all_cons, List.all_cons, List.all_cons, ih]; rfl
theorem names_t (s : Nat) (ts : List Tm) (r : Nat) : (cellsT ts r).any (namesV s) = false := by
  unfold cellsT
  rw [List.any_append, names_fv, Bool.false_or]
  induction r with
  | zero => rfl
  | succ r ih => rw [zeroT, List.any_cons, List.any_cons, List.any_cons, ih]; rfl
theorem fz_slc3 {s d : Nat} {ts : List Tm} {ro : Bool} {own : List (Nat × Blk)} {ext : List Blk} (hl : lookupOwn s own = some (.row (cellsT ts 0) ro)) (hn : ts.length ≤ 100) (lg : List Ref) (e : Option (IV × Hp))
    (k : FV → List (Ref × Blk) → List Ref → Option (IV × Hp)) : fzU (d + 2) (.slc (.own s) 3 ts.length) ⟨own, ext⟩ lg e k = k (.sl (ts.map Tm.enc)) [(.own s, .row (cellsT ts 0) true)] (.own s :: lg) := by
  have hlen : (cellsT ts 0).length = 3 * ts.length := by simp [cellsT, zeroT, cellsF_len]
  show (getK (.own s) ⟨own, ext⟩ fun b => asRow b fun cells => cond (Nat.ble cells.length 300) (cond (or (Nat.beq 3 0) (not (Nat.ble (ts.length * 3) cells.length))) none
    (fzLK (fzU (d + 1)) cells ⟨own, ext⟩ (.own s :: lg) e fun cs u lg => chK 3 ts.length cs fun els => k (.sl els) ((.own s, .row cells true) :: u) lg)) e) = _
  rw [g_own, ownK_eq, hl]
  simp only [Option.bind_some, as_row]
  rw [hlen, ble_dec, decide_eq_true (by omega), c_t, ble_dec, decide_eq_true (by omega)]
  simp only [Bool.not_true]
  show (fzLK (fzU (d + 1)) (cellsT ts 0) ⟨own, ext⟩ (.own s :: lg) e fun cs u lg => chK 3 ts.length cs fun els => k (.sl els) ((.own s, .row (cellsT ts 0) true) :: u) lg) = _
  rw [show cellsT ts 0 = (cellsF ts).map .fv by simp [cellsT, zeroT], fzl_fv, chk3]
theorem fz_tm {s : Nat} {ts : List Tm} {ro : Bool} {a b : FV} {own : List (Nat × Blk)} {ext : List Blk} (hl : lookupOwn s own = some (.row (cellsT ts 0) ro)) (hn : ts.length ≤ 100) (lg : List Ref) (e : Option (IV × Hp))
    (k : FV → List (Ref × Blk) → List Ref → Option (IV × Hp)) : fzU 12 (.agg [.fv a, .fv b, .slc (.own s) 3 ts.length]) ⟨own, ext⟩ lg e k = k (.agg [a, b, .sl (ts.map Tm.enc)]) [(.own s, .row (cellsT ts 0) true)] (.own s :: lg) := by
  rw [fu_agg, show Nat.ble [IV.fv a, .fv b, .slc (.own s) 3 ts.length].length 300 = true from rfl, c_t, fl1, fv_fv, fl1, fv_fv, fl1, fz_slc3 (d := 9) hl hn, fl0]
  rfl
theorem ixt0 {β : Type} (o p : Int) (l : List FV) (r : List FV) (k : IV → Option β) : ixS 3 (.fv (.sl (.agg [.int .i64 o, .int .i64 p, .sl l] :: r))) (iv 0) k = k (.fv (.fp [.int .i64 o, .int .i64 p, .sl l] 0)) := by
  have h : (.agg [.int .i64 o, .int .i64 p, .sl l] :: r : List FV)[0]? = some (.agg [.int .i64 o, .int .i64 p, .sl l]) := rfl
  have := ix_f (β := β) h (agg3l _ _ _) k
  rw [agg3] at this
  exact this
theorem ixt1 {β : Type} (a : FV) (o p : Int) (l : List FV) (r : List FV) (k : IV → Option β) : ixS 3 (.fv (.sl (a :: .agg [.int .i64 o, .int .i64 p, .sl l] :: r))) (iv 1) k = k (.fv (.fp [.int .i64 o, .int .i64 p, .sl l] 0)) := by
  have h : (a :: .agg [.int .i64 o, .int .i64 p, .sl l] :: r : List FV)[1]? = some (.agg [.int .i64 o, .int .i64 p, .sl l]) := rfl
  have := ix_f (β := β) h (agg3l _ _ _) k
  rw [agg3] at this
  exact this
theorem ixt2 {β : Type} (a b : FV) (o p : Int) (l : List FV) (r : List FV) (k : IV → Option β) : ixS 3 (.fv (.sl (a :: b :: .agg [.int .i64 o, .int .i64 p, .sl l] :: r))) (iv 2) k = k (.fv (.fp [.int .i64 o, .int .i64 p, .sl l] 0)) := by
  have h : (a :: b :: .agg [.int .i64 o, .int .i64 p, .sl l] :: r : List FV)[2]? = some (.agg [.int .i64 o, .int .i64 p, .sl l]) := rfl
  have := ix_f (β := β) h (agg3l _ _ _) k
  rw [agg3] at this
  exact this
theorem ansf {r : Option (IV × Hp)} {w : FV} (h : AnsF r w) : Ans r w := by
  obtain ⟨v, own, e, hz⟩ := h
  exact ⟨v, own, e, .inl hz⟩
end Idl
end Go.Proofs.Ytdibmackcbpniaa

namespace Go.Proofs.Ytdibmackcbpniaa
namespace Idl
mutual
def Tm.chk : Tm → Int → Int → Int × Int
  | .mk op m l, n, d => if 3000 < n + 1 ∨ 120 < d then (n + 1, 5) else if kidsN op ≠ (l.length : Int) ∨ numb op m = false then (n + 1, 1) else Tm.chkL l (n + 1) (d + 1)
def Tm.chkL : List Tm → Int → Int → Int × Int
  | [], n, _ => (n, 0)
  | t :: l, n, d => if (t.chk n d).2 = 0 then Tm.chkL l (t.chk n d).1 d else t.chk n d
end
mutual
theorem chk_b : ∀ (t : Tm) (n d : Int), n ≤ 3000 → n ≤ (t.chk n d).1 ∧ (t.chk n d).1 ≤ 3001 ∧ ((t.chk n d).2 = 0 → (t.chk n d).1 = n + t.wt ∧ (t.chk n d).1 ≤ 3000 ∧ d ≤ 120)
  | .mk op m l, n, d, hn => by
    rw [Tm.chk]
    split
    · simp; omega
    · split
      · simp; omega
      · have := chkL_b l (n + 1) (d + 1) (by omega)
        simp only [Tm.wt]
        omega
theorem chkL_b : ∀ (l : List Tm) (n d : Int), n ≤ 3000 → n ≤ (Tm.chkL l n d).1 ∧ (Tm.chkL l n d).1 ≤ 3001 ∧ ((Tm.chkL l n d).2 = 0 → (Tm.chkL l n d).1 = n + Tm.wtL l ∧ (Tm.chkL l n d).1 ≤ 3000)
  | [], n, d, hn => by simp [Tm.chkL, Tm.wtL]; omega
  | t :: l, n, d, hn => by
    have h1 := chk_b t n d hn
    rw [Tm.chkL]
    split
    · rename_i h0
      have h2 := chkL_b l (t.chk n d).1 d (by omega)
      simp only [Tm.wtL]
      omega
    · rename_i h0
      simp only [Tm.wtL]
      omega
end
theorem kidsN_le (op : Int) : kidsN op ≤ 4 := by
  rcases op_cases op with h | h
  · exact op_in (P := fun op => kidsN op ≤ 4) (by intro k hk; have : ∀ k : Fin 31, kidsN (k.val : Int) ≤ 4 := by decide
                                                  exact this ⟨k, hk⟩) h
  · rw [kidsN_out h]; omega
theorem kids_bld (s : Nat) (h : Hp) (k : IV → Hp → List Ref → List Ref → Option (IV × Hp)) : genS (pcBuild EE 136 [(0, .fv (.int .i64 (-1))), (1, .fv (.int .i64 0)), (2, .fv (.int .i64 0)), (3, .fv (.int .i64 2)), (4, .fv (.int .i64 2)), (5, .fv (.int .i64 2)), (6, .fv (.int .i64 2)), (7, .fv (.int .i64 3)), (8, .fv (.int .i64 1)), (9, .fv (.int .i64 1)), (10, .fv (.int .i64 0)), (11, .fv (.int .i64 0)), (12, .fv (.int .i64 1)), (13, .fv (.int .i64 4)), (14, .fv (.int .i64 0)), (15, .fv (.int .i64 0)), (16, .fv (.int .i64 2)), (17, .fv (.int .i64 2)), (18, .fv (.int .i64 1)), (19, .fv (.int .i64 1)), (20, .fv (.int .i64 2)), (21, .fv (.int .i64 2)), (22, .fv (.int .i64 2)), (23, .fv (.int .i64 1)), (24, .fv (.int .i64 1)), (25, .fv (.int .i64 0)), (26, .fv (.int .i64 2)), (27, .fv (.int .i64 3)), (28, .fv (.int .i64 2)), (29, .fv (.int .i64 2)), (30, .fv (.int .i64 1))]) s h k = k (.fv (.agg [.int .i64 (-1), .int .i64 0, .int .i64 0, .int .i64 2, .int .i64 2, .int .i64 2, .int .i64 2, .int .i64 3, .int .i64 1, .int .i64 1, .int .i64 0, .int .i64 0, .int .i64 1, .int .i64 4, .int .i64 0, .int .i64 0, .int .i64 2, .int .i64 2, .int .i64 1, .int .i64 1, .int .i64 2, .int .i64 2, .int .i64 2, .int .i64 1, .int .i64 1, .int .i64 0, .int .i64 2, .int .i64 3, .int .i64 2, .int .i64 2, .int .i64 1])) h [] [] := by
  have : pcBuild EE 136 [(0, .fv (.int .i64 (-1))), (1, .fv (.int .i64 0)), (2, .fv (.int .i64 0)), (3, .fv (.int .i64 2)), (4, .fv (.int .i64 2)), (5, .fv (.int .i64 2)), (6, .fv (.int .i64 2)), (7, .fv (.int .i64 3)), (8, .fv (.int .i64 1)), (9, .fv (.int .i64 1)), (10, .fv (.int .i64 0)), (11, .fv (.int .i64 0)), (12, .fv (.int .i64 1)), (13, .fv (.int .i64 4)), (14, .fv (.int .i64 0)), (15, .fv (.int .i64 0)), (16, .fv (.int .i64 2)), (17, .fv (.int .i64 2)), (18, .fv (.int .i64 1)), (19, .fv (.int .i64 1)), (20, .fv (.int .i64 2)), (21, .fv (.int .i64 2)), (22, .fv (.int .i64 2)), (23, .fv (.int .i64 1)), (24, .fv (.int .i64 1)), (25, .fv (.int .i64 0)), (26, .fv (.int .i64 2)), (27, .fv (.int .i64 3)), (28, .fv (.int .i64 2)), (29, .fv (.int .i64 2)), (30, .fv (.int .i64 1))] = Idl.val (.fv (.agg [.int .i64 (-1), .int .i64 0, .int .i64 0, .int .i64 2, .int .i64 2, .int .i64 2, .int .i64 2, .int .i64 3, .int .i64 1, .int .i64 1, .int .i64 0, .int .i64 0, .int .i64 1, .int .i64 4, .int .i64 0, .int .i64 0, .int .i64 2, .int .i64 2, .int .i64 1, .int .i64 1, .int .i64 2, .int .i64 2, .int .i64 2, .int .i64 1, .int .i64 1, .int .i64 0, .int .i64 2, .int .i64 3, .int .i64 2, .int .i64 2, .int .i64 1])) := by kernel_rfl
  rw [this]
  exact gen_val' _ _ _ _
theorem kids_out {n : Nat} {op : Int} (h : op < 0 ∨ 30 < op) : Ans (SS dt (n + 1) 102 [iv op] ⟨[], []⟩) (.int .i64 (-1)) := by
  rw [c102]
  by_cases h1 : op < 0
  · simp only [S102_29, S102, ↓XX, ↓reduceIte, Nat.reduceBEq, decide_true, decide_false, Bool.not_true, Bool.not_false, List.map_cons, List.map_nil, List.length_map, List.length_cons, List.length_nil, Nat.reduceAdd, Int.cast_ofNat_Int, Int.natCast_zero, Int.natCast_one, Bool.false_eq_true, Bool.true_eq_false, decide_eq_true_eq, eq_self, Int.reduceEq, Int.reduceLT, Int.reduceLE, Bool.and_true, Bool.true_and, Bool.and_false, Bool.false_and, Nat.zero_add, ↓kids_bld, h1]; exact ans_fv _ _
  · have h2 : 31 ≤ op := by omega
    simp only [S102_29, S102, ↓XX, ↓reduceIte, Nat.reduceBEq, decide_true, decide_false, Bool.not_true, Bool.not_false, List.map_cons, List.map_nil, List.length_map, List.length_cons, List.length_nil, Nat.reduceAdd, Int.cast_ofNat_Int, Int.natCast_zero, Int.natCast_one, Bool.false_eq_true, Bool.true_eq_false, decide_eq_true_eq, eq_self, Int.reduceEq, Int.reduceLT, Int.reduceLE, Bool.and_true, Bool.true_and, Bool.and_false, Bool.false_and, Nat.zero_add, ↓kids_bld, h1, h2]; exact ans_fv _ _
def isKids (k : Int) (o : Option (IV × Hp)) : Bool := match o with
  | some (.fv (.int .i64 m), ⟨_, []⟩) => decide (m = k)
  | _ => false
theorem ans_kids {k : Int} {o : Option (IV × Hp)} (h : isKids k o = true) : Ans o (.int .i64 k) := by
  unfold isKids at h
  split at h
  · have := of_decide_eq_true h
    subst this
    exact ans_fv _ _
  · cases h
theorem pkids_ok {n : Nat} (hn : 0 < n) (op : Int) : Ans (SS dt n 102 [iv op] ⟨[], []⟩) (.int .i64 (kidsN op)) := by
  obtain ⟨n, rfl⟩ : ∃ k, n = k + 1 := ⟨n - 1, by omega⟩
  rcases op_cases op with h | h
  · revert op
    refine fun op h => op_in (P := fun op => Ans (SS dt (n + 1) 102 [iv op] ⟨[], []⟩) (.int .i64 (kidsN op))) ?_ h
    intro k hk
    iterate 31 (rcases k with _ | k; · exact ans_kids (by kernel_rfl))
    omega
  · rw [kidsN_out h]
    exact kids_out h
noncomputable abbrev HC (op m : Int) (ks : List Tm) (N : Int) : Hp := ⟨[(74448896, .row [iv op, iv m, .fv (.sl (ks.map Tm.enc))] false)], [.row [iv N] false]⟩
theorem drop_r1 {base rm : List Nat} {vals : List IV} {own : List (Nat × Blk)} {a : FV} (hb : rm.any base.contains = false) (hf : flatD rm vals own [] = true) (k : Hp → Option (IV × Hp)) :
    dropS base rm vals ⟨own, [.row [.fv a] false]⟩ k = k ⟨stays rm vals own [], [.row [.fv a] false]⟩ := drop_x (by intro s; simp [Blk.refs, IV.refs.refsL, IV.refs]) hb hf k
theorem pcheck_ok : ∀ (n : Nat) (t : Tm) (N d : Int), 2 * t.wt + 2 < n → 0 ≤ N → N ≤ 3000 → 0 ≤ d → d ≤ 121 →
    AnsX (SS dt n 71 [.fv t.enc, .ptr (.ext 0) 0, iv d] ⟨[], [.row [iv N] false]⟩) (.int .i64 (t.chk N d).2) [.row [iv (t.chk N d).1] false] := by
  intro n
  induction n using Nat.strongRecOn with
  | ind n ih =>
    intro t N d hn h0 hN hd0 hd
    obtain ⟨op, m, ks⟩ := t
    simp only [Tm.wt] at hn
    obtain ⟨n, rfl⟩ : ∃ k, n = k + 1 := ⟨n - 1, by omega⟩
    rw [c71, enc_mk]
    have hlen := wt_len ks
    have hw : w64 (N + 1) = N + 1 := by rw [w64_id] <;> omega
    have hwd : w64 (d + 1) = d + 1 := by rw [w64_id] <;> omega
    have ha := pkids_ok (n := n) (by omega) op
    have hb := pnumber_ok (n := n) (by omega) op m
    rw [Tm.chk]
    by_cases c1 : 3000 < N + 1
    · rw [if_pos (.inl c1)]
      simp only [S71_121, S71_122, S71_123, S71_124, S71_125, S71_126, S71_127, S71_128, S71_129, S71_130, S71_131, S71, ↓XX, ↓reduceIte, Nat.reduceBEq, decide_true, decide_false, Bool.not_true, Bool.not_false, List.map_cons, List.map_nil, List.length_map, List.length_cons, List.length_nil, Nat.reduceAdd, Int.cast_ofNat_Int, Int.natCast_zero, Int.natCast_one, Bool.false_eq_true, Bool.true_eq_false, decide_eq_true_eq, eq_self, Int.reduceEq, Int.reduceLT, Int.reduceLE, Bool.and_true, Bool.true_and, Bool.and_false, Bool.false_and, Nat.zero_add, hw, c1]
      exact ansx_fv _ _ _
    by_cases c2 : 120 < d
    · rw [if_pos (.inr c2)]
      simp only [S71_121, S71_122, S71_123, S71_124, S71_125, S71_126, S71_127, S71_128, S71_129, S71_130, S71_131, S71, ↓XX, ↓reduceIte, Nat.reduceBEq, decide_true, decide_false, Bool.not_true, Bool.not_false, List.map_cons, List.map_nil, List.length_map, List.length_cons, List.length_nil, Nat.reduceAdd, Int.cast_ofNat_Int, Int.natCast_zero, Int.natCast_one, Bool.false_eq_true, Bool.true_eq_false, decide_eq_true_eq, eq_self, Int.reduceEq, Int.reduceLT, Int.reduceLE, Bool.and_true, Bool.true_and, Bool.and_false, Bool.false_and, Nat.zero_add, hw, c1, c2]
      exact ansx_fv _ _ _
    rw [if_neg (by omega)]
    by_cases c3 : kidsN op = (ks.length : Int)
    · cases hnb : numb op m
      · rw [hnb] at hb
        rw [if_pos (.inr rfl)]
        simp only [S71_121, S71_122, S71_123, S71_124, S71_125, S71_126, S71_127, S71_128, S71_129, S71_130, S71_131, S71, ↓XX, ↓reduceIte, Nat.reduceBEq, decide_true, decide_false, Bool.not_true, Bool.not_false, List.map_cons, List.map_nil, List.length_map, List.length_cons, List.length_nil, Nat.reduceAdd, Int.cast_ofNat_Int, Int.natCast_zero, Int.natCast_one, Bool.false_eq_true, Bool.true_eq_false, decide_eq_true_eq, eq_self, Int.reduceEq, Int.reduceLT, Int.reduceLE, Bool.and_true, Bool.true_and, Bool.and_false, Bool.false_and, Nat.zero_add, hw, c1, c2, ↓iso_1 ha, c3, ↓iso_2 hb]
        exact ansx_fv _ _ _
      · rw [hnb] at hb
        have hk4 := kidsN_le op
        rw [if_neg (by simp [c3])]
        simp only [S71_121, S71_122, S71_123, S71_125, S71_126, S71_127, S71_128, S71_129, S71_130, S71_131, S71, ↓XX, ↓reduceIte, Nat.reduceBEq, decide_true, decide_false, Bool.not_true, Bool.not_false, List.map_cons, List.map_nil, List.length_map, List.length_cons, List.length_nil, Nat.reduceAdd, Int.cast_ofNat_Int, Int.natCast_zero, Int.natCast_one, Bool.false_eq_true, Bool.true_eq_false, decide_eq_true_eq, eq_self, Int.reduceEq, Int.reduceLT, Int.reduceLE, Bool.and_true, Bool.true_and, Bool.and_false, Bool.false_and, Nat.zero_add, hw, c1, c2, ↓iso_1 ha, c3, ↓iso_2 hb, ↓drop_r1, ↓drop_e, XD, heldB, flatD, List.any_cons, List.any_nil, List.all_cons, List.all_nil, List.filter_cons, List.filter_nil, List.contains_cons, List.contains_nil, Bool.or_false, Bool.or_true, Bool.false_or, Bool.true_or, Bool.and_self, Bool.not_eq_true, BEq.rfl, beq_self_eq_true]
        refine loop_run (Q := fun r' => AnsX r' _ _) (fun k V H => ∃ pre rest N2, ks = pre ++ rest ∧ rest.length = k ∧ V = [.ptr (.ext 0) 0, iv d, .fv (.sl (ks.map Tm.enc)), iv ks.length, iv pre.length] ∧ H = HC op m ks N2 ∧
          0 ≤ N2 ∧ N2 ≤ 3000 ∧ Tm.chkL rest N2 (d + 1) = Tm.chkL ks (N + 1) (d + 1)) ?_ n ks.length _ _ (by omega) ⟨[], ks, N + 1, rfl, rfl, rfl, rfl, by omega, by omega, rfl⟩
        rintro k V H rec ⟨pre, rest, N2, hk, hkl, rfl, rfl, hN2, hN3, hr⟩ hrec
        have hkk : ks.length = pre.length + rest.length := by rw [hk]; simp
        cases rest with
        | nil =>
          have hno : ¬ ((pre.length : Int) < ks.length) := by rw [hkk]; simp
          rw [← hr]
          simp only [S71_121, S71_122, S71_123, S71_124, S71_125, S71_126, S71_127, S71_128, S71_129, S71_130, S71_131, S71, ↓XX, ↓reduceIte, Nat.reduceBEq, decide_true, decide_false, Bool.not_true, Bool.not_false, List.map_cons, List.map_nil, List.length_map, List.length_cons, List.length_nil, Nat.reduceAdd, Int.cast_ofNat_Int, Int.natCast_zero, Int.natCast_one, Bool.false_eq_true, Bool.true_eq_false, decide_eq_true_eq, eq_self, Int.reduceEq, Int.reduceLT, Int.reduceLE, Bool.and_true, Bool.true_and, Bool.and_false, Bool.false_and, Nat.zero_add, hno, Tm.chkL]
          exact ansx_fv _ _ _
        | cons t rest =>
          have hi : (pre.length : Int) < ks.length := by rw [hkk]; simp; omega
          have hg := at_pre hk
          have htw := wt_mem (t := t) (l := ks) (by rw [hk]; simp)
          have hc := ih n (by omega) t N2 (d + 1) (by omega) hN2 hN3 (by omega) (by omega)
          have hcb := chk_b t N2 (d + 1) hN3
          have hwi : w64 ((pre.length : Int) + 1) = ((pre ++ [t]).length : Int) := (w64_id (by omega) (by omega)).trans (by simp)
          rw [Tm.chkL] at hr
          rw [← hr]
          have h9 := fun e => hrec rest.length [.ptr (.ext 0) 0, iv d, .fv (.sl (ks.map Tm.enc)), iv ks.length, iv (pre ++ [t]).length] (HC op m ks (t.chk N2 (d + 1)).1) (by simp only [List.length_cons] at hkl; omega)
            ⟨pre ++ [t], rest, _, by rw [hk]; simp, rfl, rfl, rfl, by omega, (hcb.2.2 e).2.1, by rw [← hr, if_pos e]⟩
          rw [← hr] at h9
          generalize t.chk N2 (d + 1) = q at hc h9 ⊢
          obtain ⟨q1, q2⟩ := q
          simp only at hc h9 ⊢
          obtain ⟨o, p, l⟩ := t
          rw [enc_mk] at hc
          by_cases he : q2 = 0
          · subst he
            simp only [if_true] at h9 ⊢
            simp only [S71_121, S71_122, S71_123, S71_124, S71_125, S71_126, S71_127, S71_128, S71_129, S71_130, S71_131, S71, ↓XX, ↓reduceIte, Nat.reduceBEq, decide_true, decide_false, Bool.not_true, Bool.not_false, List.map_cons, List.map_nil, List.length_map, List.length_cons, List.length_nil, Nat.reduceAdd, Int.cast_ofNat_Int, Int.natCast_zero, Int.natCast_one, Bool.false_eq_true, Bool.true_eq_false, decide_eq_true_eq, eq_self, Int.reduceEq, Int.reduceLT, Int.reduceLE, Bool.and_true, Bool.true_and, Bool.and_false, Bool.false_and, Nat.zero_add, hi, ↓ix_f (map_get hg) (agg3l _ _ _), ↓agg3, hwd, ↓iso_mm3 hc (onex1 _ _), hwi, ↓drop_r1, ↓drop_e, XD, heldB, flatD, List.any_cons, List.any_nil, List.all_cons, List.all_nil, List.filter_cons, List.filter_nil, List.contains_cons, List.contains_nil, Bool.or_false, Bool.or_true, Bool.false_or, Bool.true_or, Bool.and_self, Bool.not_eq_true, BEq.rfl, beq_self_eq_true]
            exact h9 trivial
          · rw [if_neg he]
            simp only [S71_121, S71_122, S71_123, S71_124, S71_125, S71_126, S71_127, S71_128, S71_129, S71_130, S71_131, S71, ↓XX, ↓reduceIte, Nat.reduceBEq, decide_true, decide_false, Bool.not_true, Bool.not_false, List.map_cons, List.map_nil, List.length_map, List.length_cons, List.length_nil, Nat.reduceAdd, Int.cast_ofNat_Int, Int.natCast_zero, Int.natCast_one, Bool.false_eq_true, Bool.true_eq_false, decide_eq_true_eq, eq_self, Int.reduceEq, Int.reduceLT, Int.reduceLE, Bool.and_true, Bool.true_and, Bool.and_false, Bool.false_and, Nat.zero_add, hi, ↓ix_f (map_get hg) (agg3l _ _ _), ↓agg3, hwd, ↓iso_mm3 hc (onex1 _ _), he]
            exact ansx_fv _ _ _
    · rw [if_pos (.inl c3)]
      simp only [S71_121, S71_122, S71_123, S71_124, S71_125, S71_126, S71_127, S71_128, S71_129, S71_130, S71_131, S71, ↓XX, ↓reduceIte, Nat.reduceBEq, decide_true, decide_false, Bool.not_true, Bool.not_false, List.map_cons, List.map_nil, List.length_map, List.length_cons, List.length_nil, Nat.reduceAdd, Int.cast_ofNat_Int, Int.natCast_zero, Int.natCast_one, Bool.false_eq_true, Bool.true_eq_false, decide_eq_true_eq, eq_self, Int.reduceEq, Int.reduceLT, Int.reduceLE, Bool.and_true, Bool.true_and, Bool.and_false, Bool.false_and, Nat.zero_add, hw, c1, c2, ↓iso_1 ha, c3]
      exact ansx_fv _ _ _
theorem pCheck_ok {n : Nat} (t : Tm) (hn : 2 * t.wt + 3 < n) : Ans (SS dt n 49 [.fv t.enc] ⟨[], []⟩) (.int .i64 (t.chk 0 1).2) := by
  obtain ⟨n, rfl⟩ : ∃ k, n = k + 1 := ⟨n - 1, by omega⟩
  rw [c49]
  have h := pcheck_ok n t 0 1 (by omega) (by omega) (by omega) (by omega) (by omega)
  generalize t.chk 0 1 = q at h
  obtain ⟨op, m, ks⟩ := t
  rw [enc_mk] at h ⊢
  have c2 := fun k => iso_oo3 (k := k) h (x := .fv (.agg [.int .i64 op, .int .i64 m, .sl (ks.map Tm.enc)])) (y := iv 1) (s := 51381249) rfl rfl
    (own := [(51380224, .row [iv op, iv m, .fv (.sl (ks.map Tm.enc))] false), (51381249, .row [iv 0] false)])
    (own' := [(51380224, .row [iv op, iv m, .fv (.sl (ks.map Tm.enc))] false), (51381249, .row [iv q.1] false)]) (by simp [lookupOwn]) (by simp [putOwn])
  simp only [S49, ↓XX, ↓reduceIte, Nat.reduceBEq, decide_true, decide_false, Bool.not_true, Bool.not_false, List.map_cons, List.map_nil, List.length_map, List.length_cons, List.length_nil, Nat.reduceAdd, Int.cast_ofNat_Int, Int.natCast_zero, Int.natCast_one, Bool.false_eq_true, Bool.true_eq_false, decide_eq_true_eq, eq_self, Int.reduceEq, Int.reduceLT, Int.reduceLE, Bool.and_true, Bool.true_and, Bool.and_false, Bool.false_and, Nat.zero_add, ↓c2]
  exact ans_fv _ _
end Idl
end Go.Proofs.Ytdibmackcbpniaa

namespace Go.Proofs.Ytdibmackcbpniaa
namespace Idl
def Tm.typed : Tm → Bool
  | .mk op _ [] => decide (op = 15)
  | .mk op _ [a, b] => (decide (op = 16) || decide (op = 17)) && (a.typed && b.typed)
  | _ => false
theorem typed1 (op m : Int) (a : Tm) : (Tm.mk op m [a]).typed = false := by rw [Tm.typed] <;> simp
theorem typed3 (op m : Int) (a b c : Tm) (l : List Tm) : (Tm.mk op m (a :: b :: c :: l)).typed = false := by rw [Tm.typed] <;> simp
end Idl
end Go.Proofs.Ytdibmackcbpniaa

namespace Go.Proofs.Ytdibmackcbpniaa
namespace Idl
inductive RV where
  | mk (op n : Int) (k env : List RV) (b : Tm)
def Tm.z : Tm := .mk 0 0 []
def RV.enc : RV → FV
  | .mk op n k env (.mk bo bn bk) => .fp [.int .i64 op, .int .i64 n, .sl (encL k), .sl (encL env), .int .i64 bo, .int .i64 bn, .sl (bk.map Tm.enc)] 0
where
  encL : List RV → List FV
    | [] => []
    | v :: l => v.enc :: encL l
def RV.op : RV → Int
  | .mk op _ _ _ _ => op
def RV.n : RV → Int
  | .mk _ n _ _ _ => n
def RV.k : RV → List RV
  | .mk _ _ k _ _ => k
def RV.b : RV → Tm
  | .mk _ _ _ _ b => b
def RV.zero : RV := .mk 11 0 [] [] .z
end Idl
end Go.Proofs.Ytdibmackcbpniaa

namespace Go.Proofs.Ytdibmackcbpniaa
namespace Idl
def tI : Tm := .mk 15 0 []
def chkT (r : Int × Tm) (a : Tm) : Int := if r.1 = 0 then (if a.same r.2 then 0 else 11) else r.1
def madeM (op : Int) (a : Tm) (r : Int × Tm) : Int × Tm := if r.1 = 0 then (((Tm.mk op 0 [a, r.2]).chk 0 1).2, .mk op 0 [a, r.2]) else (r.1, .z)
def Tm.kid (t : Tm) (i : Nat) : Tm := t.kids.getD i .z
def Tm.inf : Tm → List Tm → Int × Tm
  | .mk op n [], g => if op = 1 then (if (g.length : Int) ≤ n then (8, .z) else (0, g.getD (g.length - 1 - n.toNat) .z)) else if op = 25 then (0, tI) else (10, .z)
  | .mk op _ [a], g => if op = 23 then (if (a.inf g).1 = 0 then (if (a.inf g).2.op = 17 then (0, (a.inf g).2.kid 0) else (12, .z)) else ((a.inf g).1, .z))
    else if op = 24 then (if (a.inf g).1 = 0 then (if (a.inf g).2.op = 17 then (0, (a.inf g).2.kid 1) else (12, .z)) else ((a.inf g).1, .z)) else (10, .z)
  | .mk op _ [a, b], g =>
    if op = 26 then (if chkT (a.inf g) tI = 0 then (chkT (b.inf g) tI, tI) else (chkT (a.inf g) tI, .z))
    else if op = 20 then (if a.typed then madeM 16 a (b.inf (g ++ [a])) else (10, .z))
    else if op = 29 then (if a.typed then (chkT (b.inf (g ++ [a])) a, a) else (10, .z))
    else if op = 28 then (if (a.inf g).1 = 0 then b.inf (g ++ [(a.inf g).2]) else ((a.inf g).1, .z))
    else if op = 22 then (if (a.inf g).1 = 0 then madeM 17 (a.inf g).2 (b.inf g) else ((a.inf g).1, .z))
    else if op = 21 then (if (a.inf g).1 = 0 then (if (a.inf g).2.op = 16 then (chkT (b.inf g) ((a.inf g).2.kid 0), (a.inf g).2.kid 1) else (12, .z)) else ((a.inf g).1, .z))
    else (10, .z)
  | .mk op _ [a, b, c], g => if op = 27 then (if chkT (a.inf g) tI = 0 then (if (b.inf g).1 = 0 then (chkT (c.inf g) (b.inf g).2, (b.inf g).2) else ((b.inf g).1, .z)) else (chkT (a.inf g) tI, .z)) else (10, .z)
  | _, _ => (10, .z)
mutual
def Tm.shp : Tm → Prop
  | .mk op n l => (l.length : Int) = kidsN op ∧ (op = 1 → 0 ≤ n) ∧ Tm.shpL l
def Tm.shpL : List Tm → Prop
  | [] => True
  | t :: l => t.shp ∧ Tm.shpL l
end
mutual
theorem chk_shp : ∀ (t : Tm) (n d : Int), (t.chk n d).2 = 0 → t.shp
  | .mk op m l, n, d, h => by
    rw [Tm.chk] at h
    split at h
    · cases h
    · split at h
      · cases h
      · rename_i h1 h2
        rw [Tm.shp]
        have h3 : kidsN op = (l.length : Int) := Classical.byContradiction fun e => h2 (.inl e)
        have h4 : numb op m = true := by cases hb : numb op m with
          | true => rfl
          | false => exact absurd (.inr hb) h2
        refine ⟨h3.symm, ?_, chkL_shp l _ _ h⟩
        rintro rfl
        simp [numb] at h4
        exact h4.1
theorem chkL_shp : ∀ (l : List Tm) (n d : Int), (Tm.chkL l n d).2 = 0 → Tm.shpL l
  | [], _, _, _ => trivial
  | t :: l, n, d, h => by
    rw [Tm.chkL] at h
    split at h
    · rename_i h1
      exact ⟨chk_shp t _ _ h1, chkL_shp l _ _ h⟩
    · rename_i h1
      exact absurd h h1
end
theorem chk_wt {t : Tm} (h : (t.chk 0 1).2 = 0) : t.wt ≤ 3000 := by
  have := (chk_b t 0 1 (by omega)).2.2 h
  omega
theorem typed_op {t : Tm} (h : t.typed = true) : (t.op = 15 ∧ t.kids = []) ∨ ((t.op = 16 ∨ t.op = 17) ∧ ∃ a b, t.kids = [a, b] ∧ a.typed = true ∧ b.typed = true) := by
  obtain ⟨op, m, l⟩ := t
  match l, h with
  | [], h => exact .inl ⟨by simpa [Tm.typed, Tm.op] using h, rfl⟩
  | [_], h => rw [typed1] at h; cases h
  | x :: y :: z :: l, h => rw [typed3] at h; cases h
  | [a, b], h =>
    simp only [Tm.typed, Bool.and_eq_true, Bool.or_eq_true, decide_eq_true_eq] at h
    exact .inr ⟨h.1, a, b, rfl, h.2.1, h.2.2⟩
theorem tI_typed : tI.typed = true := by simp [tI, Tm.typed]
theorem inf_typed (M : Nat) (hM : 3000 ≤ M) : ∀ (n : Nat) (t : Tm) (g : List Tm), t.wt < n → t.wt ≤ M → (∀ x ∈ g, x.typed = true ∧ x.wt ≤ M) → t.shp → (t.inf g).1 = 0 → (t.inf g).2.typed = true ∧ (t.inf g).2.wt ≤ M := by
  intro n
  induction n with
  | zero => intro t g h; omega
  | succ n ih =>
    intro t g hn hw hg hs h
    obtain ⟨op, m, l⟩ := t
    simp only [Tm.wt] at hn hw
    have hp : ∀ {x a : Tm}, x ∈ g ++ [a] → a.typed = true ∧ a.wt ≤ M → x.typed = true ∧ x.wt ≤ M := by
      intro x a hx ha
      rcases List.mem_append.1 hx with h | h
      · exact hg x h
      · rw [List.mem_singleton.1 h]; exact ha
    rw [Tm.shp] at hs
    obtain ⟨_, hv, hs⟩ := hs
    match l, hs with
    | [], _ =>
      unfold Tm.inf at h ⊢
      by_cases h1 : op = 1
      · rw [if_pos h1] at h ⊢
        by_cases h2 : (g.length : Int) ≤ m
        · rw [if_pos h2] at h; cases h
        · rw [if_neg h2]
          have := hv h1
          have hlt : g.length - 1 - m.toNat < g.length := by omega
          rw [List.getD_eq_getElem?_getD, List.getElem?_eq_getElem hlt]
          exact hg _ (List.getElem_mem hlt)
      · rw [if_neg h1] at h ⊢
        by_cases h2 : op = 25
        · rw [if_pos h2]
          exact ⟨tI_typed, by simp [tI, Tm.wt, Tm.wtL]; omega⟩
        · rw [if_neg h2] at h; cases h
    | [a], hs =>
      simp only [Tm.wtL] at hn hw
      have key : (a.inf g).1 = 0 → (a.inf g).2.op = 17 → ∀ i, i < 2 → ((a.inf g).2.kid i).typed = true ∧ ((a.inf g).2.kid i).wt ≤ M := by
        intro h1 h2 i hi
        obtain ⟨h3, h4⟩ := ih a g (by omega) (by omega) hg hs.1 h1
        rcases typed_op h3 with ⟨h5, _⟩ | ⟨_, x, y, h6, h7, h8⟩
        · omega
        · generalize (a.inf g).2 = r at *
          obtain ⟨o, p, k⟩ := r
          simp only [Tm.kids] at h6
          subst h6
          simp only [Tm.wt, Tm.wtL] at h4
          match i, hi with
          | 0, _ => exact ⟨h7, by show x.wt ≤ M; omega⟩
          | 1, _ => exact ⟨h8, by show y.wt ≤ M; omega⟩
      unfold Tm.inf at h ⊢
      by_cases h1 : op = 23
      · rw [if_pos h1] at h ⊢
        by_cases h2 : (a.inf g).1 = 0
        · rw [if_pos h2] at h ⊢
          by_cases h3 : (a.inf g).2.op = 17
          · rw [if_pos h3]; exact key h2 h3 0 (by decide)
          · rw [if_neg h3] at h; cases h
        · rw [if_neg h2] at h; exact absurd h h2
      · rw [if_neg h1] at h ⊢
        by_cases h1 : op = 24
        · rw [if_pos h1] at h ⊢
          by_cases h2 : (a.inf g).1 = 0
          · rw [if_pos h2] at h ⊢
            by_cases h3 : (a.inf g).2.op = 17
            · rw [if_pos h3]; exact key h2 h3 1 (by decide)
            · rw [if_neg h3] at h; cases h
          · rw [if_neg h2] at h; exact absurd h h2
        · rw [if_neg h1] at h; cases h
    | [a, b], hs =>
      simp only [Tm.wtL] at hn hw
      have hmade : ∀ (o : Int) (x : Tm) (r : Int × Tm), (o = 16 ∨ o = 17) → x.typed = true → (r.1 = 0 → r.2.typed = true) → (madeM o x r).1 = 0 → (madeM o x r).2.typed = true ∧ (madeM o x r).2.wt ≤ M := by
        intro o x r ho hx hr hz
        unfold madeM at hz ⊢
        by_cases h1 : r.1 = 0
        · rw [if_pos h1] at hz ⊢
          refine ⟨?_, Nat.le_trans (chk_wt hz) hM⟩
          simp only [Tm.typed, hx, hr h1, Bool.and_true, Bool.or_eq_true, decide_eq_true_eq]
          exact ho
        · rw [if_neg h1] at hz; exact absurd hz h1
      unfold Tm.inf at h ⊢
      by_cases h1 : op = 26
      · rw [if_pos h1] at h ⊢
        by_cases h2 : chkT (a.inf g) tI = 0
        · rw [if_pos h2]; exact ⟨tI_typed, by simp [tI, Tm.wt, Tm.wtL]; omega⟩
        · rw [if_neg h2] at h; exact absurd h h2
      rw [if_neg h1] at h ⊢
      by_cases h1 : op = 20
      · rw [if_pos h1] at h ⊢
        by_cases h2 : a.typed = true
        · rw [if_pos h2] at h ⊢
          exact hmade 16 a _ (.inl rfl) h2 (fun e => (ih b (g ++ [a]) (by omega) (by omega) (fun x hx => hp hx ⟨h2, by omega⟩) hs.2.1 e).1) h
        · rw [if_neg h2] at h; cases h
      rw [if_neg h1] at h ⊢
      by_cases h1 : op = 29
      · rw [if_pos h1] at h ⊢
        by_cases h2 : a.typed = true
        · rw [if_pos h2]; exact ⟨h2, by show a.wt ≤ M; omega⟩
        · rw [if_neg h2] at h; cases h
      rw [if_neg h1] at h ⊢
      by_cases h1 : op = 28
      · rw [if_pos h1] at h ⊢
        by_cases h2 : (a.inf g).1 = 0
        · rw [if_pos h2] at h ⊢
          have ha := ih a g (by omega) (by omega) hg hs.1 h2
          exact ih b _ (by omega) (by omega) (fun x hx => hp hx ha) hs.2.1 h
        · rw [if_neg h2] at h; exact absurd h h2
      rw [if_neg h1] at h ⊢
      by_cases h1 : op = 22
      · rw [if_pos h1] at h ⊢
        by_cases h2 : (a.inf g).1 = 0
        · rw [if_pos h2] at h ⊢
          exact hmade 17 _ _ (.inr rfl) (ih a g (by omega) (by omega) hg hs.1 h2).1 (fun e => (ih b g (by omega) (by omega) hg hs.2.1 e).1) h
        · rw [if_neg h2] at h; exact absurd h h2
      rw [if_neg h1] at h ⊢
      by_cases h1 : op = 21
      · rw [if_pos h1] at h ⊢
        by_cases h2 : (a.inf g).1 = 0
        · rw [if_pos h2] at h ⊢
          by_cases h3 : (a.inf g).2.op = 16
          · rw [if_pos h3]
            obtain ⟨h5, h4⟩ := ih a g (by omega) (by omega) hg hs.1 h2
            rcases typed_op h5 with ⟨h5, _⟩ | ⟨_, x, y, h6, h7, h8⟩
            · omega
            · generalize (a.inf g).2 = r at *
              obtain ⟨o, p, k⟩ := r
              simp only [Tm.kids] at h6
              subst h6
              simp only [Tm.wt, Tm.wtL] at h4
              exact ⟨h8, by show y.wt ≤ M; omega⟩
          · rw [if_neg h3] at h; cases h
        · rw [if_neg h2] at h; exact absurd h h2
      · rw [if_neg h1] at h; cases h
    | [a, b, c], hs =>
      simp only [Tm.wtL] at hn hw
      unfold Tm.inf at h ⊢
      by_cases h1 : op = 27
      · rw [if_pos h1] at h ⊢
        by_cases h2 : chkT (a.inf g) tI = 0
        · rw [if_pos h2] at h ⊢
          by_cases h3 : (b.inf g).1 = 0
          · rw [if_pos h3]
            exact ih b g (by omega) (by omega) hg hs.2.1 h3
          · rw [if_neg h3] at h; exact absurd h h3
        · rw [if_neg h2] at h; exact absurd h h2
      · rw [if_neg h1] at h; cases h
    | a :: b :: c :: d :: l, _ =>
      rw [Tm.inf] at h
      · cases h
      all_goals simp
def AnsT (r : Option (IV × Hp)) (q : Int × Tm) : Prop := ∃ u, Ans r (.tuple [Tm.enc u, .int .i64 q.1]) ∧ (q.1 = 0 → u = q.2)
theorem ansT {r : Option (IV × Hp)} {e : Int} {u : Tm} (h : Ans r (.tuple [u.enc, .int .i64 e])) : AnsT r (e, u) := ⟨u, h, fun _ => rfl⟩
theorem ansTe {r : Option (IV × Hp)} {e : Int} {u v : Tm} (h : Ans r (.tuple [u.enc, .int .i64 e])) (he : e ≠ 0) : AnsT r (e, v) := ⟨u, h, fun h => absurd h he⟩
theorem inf_other {op m : Int} {l : List Tm} {g : List Tm} (h : op ≠ 1 ∧ op ≠ 25 ∧ op ≠ 23 ∧ op ≠ 24 ∧ op ≠ 26 ∧ op ≠ 20 ∧ op ≠ 29 ∧ op ≠ 28 ∧ op ≠ 22 ∧ op ≠ 21 ∧ op ≠ 27) : (Tm.mk op m l).inf g = (10, .z) := by
  obtain ⟨h1, h2, h3, h4, h5, h6, h7, h8, h9, h10, h11⟩ := h
  match l with
  | [] => rw [Tm.inf, if_neg h1, if_neg h2]
  | [_] => rw [Tm.inf, if_neg h3, if_neg h4]
  | [_, _] => rw [Tm.inf, if_neg h5, if_neg h6, if_neg h7, if_neg h8, if_neg h9, if_neg h10]
  | [_, _, _] => rw [Tm.inf, if_neg h11]
  | a :: b :: c :: d :: l =>
    rw [Tm.inf]
    all_goals simp
theorem len0 {l : List Tm} (h : (l.length : Int) = 0) : l = [] := List.eq_nil_of_length_eq_zero (by omega)
theorem len1 {l : List Tm} (h : (l.length : Int) = 1) : ∃ a, l = [a] := by
  match l, h with
  | [a], _ => exact ⟨a, rfl⟩
  | [], h => simp at h
  | a :: b :: l, h => simp only [List.length_cons] at h; omega
theorem len2 {l : List Tm} (h : (l.length : Int) = 2) : ∃ a b, l = [a, b] := by
  match l, h with
  | [a, b], _ => exact ⟨a, b, rfl⟩
  | [], h => simp at h
  | [_], h => simp at h
  | a :: b :: c :: l, h => simp only [List.length_cons] at h; omega
theorem len3 {l : List Tm} (h : (l.length : Int) = 3) : ∃ a b c, l = [a, b, c] := by
  match l, h with
  | [a, b, c], _ => exact ⟨a, b, c, rfl⟩
  | [], h => simp at h
  | [_], h => simp at h
  | [_, _], h => simp at h
  | a :: b :: c :: d :: l, h => simp only [List.length_cons] at h; omega
theorem fun_parts {op : Int} (ho : op = 16 ∨ op = 17) {t : Tm} (h : t.typed = true) (h1 : t.op = op) : ∃ x y, t.kids = [x, y] := by
  rcases typed_op h with ⟨h2, _⟩ | ⟨_, a, b, h2, _⟩
  · omega
  · exact ⟨a, b, h2⟩
theorem part_wt {t x y : Tm} (h : t.kids = [x, y]) : (t.kid 0).wt < t.wt := by
  obtain ⟨o, p, k⟩ := t
  simp only [Tm.kids] at h
  subst h
  show x.wt < _
  simp only [Tm.wt, Tm.wtL]
  omega
mutual
theorem typed_shp : ∀ (t : Tm), t.typed = true → t.shp
  | .mk op m [], h => by
    have h1 : op = 15 := by simpa [Tm.typed] using h
    subst h1
    rw [Tm.shp]
    exact ⟨rfl, (fun h => by cases h), trivial⟩
  | .mk op m [_], h => by rw [typed1] at h; cases h
  | .mk op m (_ :: _ :: _ :: _), h => by rw [typed3] at h; cases h
  | .mk op m [a, b], h => by
    simp only [Tm.typed, Bool.and_eq_true, Bool.or_eq_true, decide_eq_true_eq] at h
    rw [Tm.shp]
    exact ⟨(by rcases h.1 with rfl | rfl <;> rfl), (fun h1 => by omega), typed_shp a h.2.1, typed_shp b h.2.2, trivial⟩
end
end Idl
end Go.Proofs.Ytdibmackcbpniaa

namespace Go.Proofs.Ytdibmackcbpniaa
namespace Idl
mutual
def Tm.count : Tm → Int → Int
  | .mk _ _ l, most => Tm.countL l 1 most
def Tm.countL : List Tm → Int → Int → Int
  | [], n, _ => n
  | t :: l, n, most => if n < most then Tm.countL l (n + t.count (most - n)) most else n
end
mutual
theorem count_le : ∀ (t : Tm) (m : Int), 1 ≤ t.count m ∧ (1 ≤ m → t.count m ≤ m)
  | .mk _ _ l, m => by
    have := countL_le l 1 m
    simp only [Tm.count]
    omega
theorem countL_le : ∀ (l : List Tm) (n m : Int), n ≤ Tm.countL l n m ∧ (n ≤ m → Tm.countL l n m ≤ m)
  | [], n, m => by simp only [Tm.countL]; omega
  | t :: l, n, m => by
    simp only [Tm.countL]
    split
    · have h1 := count_le t (m - n)
      have h2 := countL_le l (n + t.count (m - n)) m
      omega
    · omega
end
theorem count_ok : ∀ (n : Nat) (t : Tm) (most : Int), t.wt < n → most ≤ 4611686018427387904 → -4611686018427387904 ≤ most → Ans (SS dt n 40 [.fv t.enc, iv most] ⟨[], []⟩) (.int .i64 (t.count most)) := by
  intro n
  induction n with
  | zero => intro t most h; omega
  | succ n ih =>
    intro t most h hm hm'
    obtain ⟨op, m, ks⟩ := t
    simp only [Tm.wt] at h
    rw [c40, enc_mk]
    simp only [S40_53, S40_54, S40_55, S40_56, S40, ↓XX, ↓reduceIte, Nat.reduceBEq, decide_true, decide_false, Bool.not_true, Bool.not_false, List.map_cons, List.map_nil, List.length_map, List.length_cons, List.length_nil, Nat.reduceAdd, Int.cast_ofNat_Int, Int.natCast_zero, Int.natCast_one, Bool.false_eq_true, Bool.true_eq_false, decide_eq_true_eq, eq_self, Int.reduceEq, Int.reduceLT, Int.reduceLE, Bool.and_true, Bool.true_and, Bool.and_false, Bool.false_and, Nat.zero_add, Tm.count]
    refine loop_run (Q := fun r => Ans r _) (fun k V H => ∃ rest pre acc, ks = pre ++ rest ∧ rest.length = k ∧ (pre.length : Int) < acc ∧ (acc ≤ 1 ∨ acc ≤ most) ∧ V = [iv most, .ptr (.own 41943040) 0, iv acc, iv pre.length] ∧
      H = ⟨[(41943040, .row [iv op, iv m, .fv (.sl (ks.map Tm.enc))] false)], []⟩ ∧ Tm.countL rest acc most = Tm.countL ks 1 most) ?_ n ks.length _ _ (by have := wt_len ks; omega) ⟨ks, [], 1, rfl, rfl, by simp, .inl (by omega), rfl, rfl, rfl⟩
    rintro k V H rec ⟨rest, pre, acc, hk, hl, hpre, hacc, rfl, rfl, ht⟩ hrec
    have hlen : ks.length = pre.length + rest.length := by rw [hk]; simp
    cases rest with
    | nil =>
      rw [← ht]
      simp only [S40_53, S40_54, S40_55, S40_56, S40_57, S40, ↓XX, ↓reduceIte, Nat.reduceBEq, decide_true, decide_false, Bool.not_true, Bool.not_false, List.map_cons, List.map_nil, List.length_map, List.length_cons, List.length_nil, Nat.reduceAdd, Int.cast_ofNat_Int, Int.natCast_zero, Int.natCast_one, Bool.false_eq_true, Bool.true_eq_false, decide_eq_true_eq, eq_self, Int.reduceEq, Int.reduceLT, Int.reduceLE, Bool.and_true, Bool.true_and, Bool.and_false, Bool.false_and, Nat.zero_add, List.length_map, show ¬ ((pre.length : Int) < ks.length) by simp [hlen], Tm.countL]
      exact ans_fv _ _
    | cons t rest =>
      have hi : (pre.length : Int) < ks.length := by rw [hlen]; simp; omega
      by_cases ha : acc < most
      · have hg := at_pre hk
        obtain ⟨o, p, l⟩ := t
        have hb := count_le (.mk o p l) (most - acc)
        have hc := ih (.mk o p l) (most - acc) (by have := wt_mem (t := .mk o p l) (l := ks) (by rw [hk]; simp); omega) (by omega) (by omega)
        rw [enc_mk] at hc
        simp only [S40_53, S40_54, S40_55, S40_56, S40_57, S40, ↓XX, ↓reduceIte, Nat.reduceBEq, decide_true, decide_false, Bool.not_true, Bool.not_false, List.map_cons, List.map_nil, List.length_map, List.length_cons, List.length_nil, Nat.reduceAdd, Int.cast_ofNat_Int, Int.natCast_zero, Int.natCast_one, Bool.false_eq_true, Bool.true_eq_false, decide_eq_true_eq, eq_self, Int.reduceEq, Int.reduceLT, Int.reduceLE, Bool.and_true, Bool.true_and, Bool.and_false, Bool.false_and, Nat.zero_add, List.length_map, hi, ha, ↓ix_f (map_get hg) (agg3l _ _ _), ↓agg3, w64_id (show -9223372036854775808 ≤ most - acc by omega) (show most - acc ≤ 9223372036854775807 by omega), ↓iso_2 hc,
          w64_id (show -9223372036854775808 ≤ acc + (Tm.mk o p l).count (most - acc) by omega) (show acc + (Tm.mk o p l).count (most - acc) ≤ 9223372036854775807 by omega), w64_id (show -9223372036854775808 ≤ (pre.length : Int) + 1 by omega) (show (pre.length : Int) + 1 ≤ 9223372036854775807 by omega)]
        simp only [List.length_cons] at hl
        refine hrec rest.length _ _ (by omega) ?_
        refine ⟨rest, pre ++ [.mk o p l], acc + (Tm.mk o p l).count (most - acc), by rw [hk]; simp, rfl, by simp; omega, .inr (by omega), by simp, rfl, ?_⟩
        rw [← ht]
        simp only [Tm.countL, if_pos ha]
      · rw [← ht]
        simp only [S40_53, S40_54, S40_55, S40_56, S40_57, S40, ↓XX, ↓reduceIte, Nat.reduceBEq, decide_true, decide_false, Bool.not_true, Bool.not_false, List.map_cons, List.map_nil, List.length_map, List.length_cons, List.length_nil, Nat.reduceAdd, Int.cast_ofNat_Int, Int.natCast_zero, Int.natCast_one, Bool.false_eq_true, Bool.true_eq_false, decide_eq_true_eq, eq_self, Int.reduceEq, Int.reduceLT, Int.reduceLE, Bool.and_true, Bool.true_and, Bool.and_false, Bool.false_and, Nat.zero_add, List.length_map, hi, ha, Tm.countL]
        exact ans_fv _ _
end Idl
end Go.Proofs.Ytdibmackcbpniaa

namespace Go.Proofs.Ytdibmackcbpniaa
namespace Idl
theorem few_ok {n : Nat} (t : Tm) (h : t.wt < n) : Ans (SS dt (n + 1) 12 [.fv t.enc] ⟨[], []⟩) (.bool (decide (t.count 300 < 300))) := by
  rw [c12]
  have hc := count_ok n t 300 h (by omega) (by omega)
  obtain ⟨op, m, ks⟩ := t
  rw [enc_mk] at hc ⊢
  simp only [S12, ↓XX, ↓reduceIte, Nat.reduceBEq, decide_true, decide_false, Bool.not_true, Bool.not_false, List.map_cons, List.map_nil, List.length_map, List.length_cons, List.length_nil, Nat.reduceAdd, Int.cast_ofNat_Int, Int.natCast_zero, Int.natCast_one, Bool.false_eq_true, Bool.true_eq_false, decide_eq_true_eq, eq_self, Int.reduceEq, Int.reduceLT, Int.reduceLE, Bool.and_true, Bool.true_and, Bool.and_false, Bool.false_and, Nat.zero_add, ↓iso_2 hc]
  exact ans_fv _ _
def Tm.plainT : Nat → Tm → Tm
  | 0, _ => .mk 15 0 []
  | d + 1, r => if r.n % 4 < 2 then .mk 15 0 [] else .mk (16 + r.n % 4 - 2) 0 [plainT d (r.pick 0), plainT d (r.pick 1)]
theorem plainT_ok : ∀ (d n : Nat) (r : Tm), d + 1 < n → d ≤ 1000 → Ans (SS dt n 14 [.fv r.enc, iv d] ⟨[], []⟩) (r.plainT d).enc := by
  intro d
  induction d with
  | zero =>
    intro n r hn _
    obtain ⟨n, rfl⟩ : ∃ k, n = k + 1 := ⟨n - 1, by omega⟩
    rw [c14]
    have hw := within4_ok (n := n) (by omega) r.n (m := 4) (by omega) (by omega)
    obtain ⟨op, m, ks⟩ := r
    rw [enc_mk]
    simp only [Tm.n] at hw
    simp only [S14_75, S14_76, S14_77, S14_78, S14_79, S14_80, S14_81, S14, ↓XX, ↓reduceIte, Nat.reduceBEq, decide_true, decide_false, Bool.not_true, Bool.not_false, List.map_cons, List.map_nil, List.length_map, List.length_cons, List.length_nil, Nat.reduceAdd, Int.cast_ofNat_Int, Int.natCast_zero, Int.natCast_one, Bool.false_eq_true, Bool.true_eq_false, decide_eq_true_eq, eq_self, Int.reduceEq, Int.reduceLT, Int.reduceLE, Bool.and_true, Bool.true_and, Bool.and_false, Bool.false_and, Nat.zero_add, ↓iso_2 hw, ↓iso_2 (t0_ok (n := n) (by omega) 15), Tm.plainT, enc_mk]
    exact ans_p rfl _
  | succ d ih =>
    intro n r hn hd
    obtain ⟨n, rfl⟩ : ∃ k, n = k + 1 := ⟨n - 1, by omega⟩
    rw [c14]
    have hw := within4_ok (n := n) (by omega) r.n (m := 4) (by omega) (by omega)
    have h0 := ih n (r.pick 0) (by omega) (by omega)
    have h1 := ih n (r.pick 1) (by omega) (by omega)
    have p0 := pick_ok (n := n) (by omega) r 0
    have p1 := pick_ok (n := n) (by omega) r 1
    have ht := t_ok (n := n) (by omega) (16 + r.n % 4 - 2) [(r.pick 0).plainT d, (r.pick 1).plainT d]
    have hb0 : ¬ ((d + 1 : Nat) : Int) ≤ 0 := by omega
    have hm : w64 (((d + 1 : Nat) : Int) - 1) = d := by rw [w64_id] <;> omega
    have hr := Int.emod_nonneg r.n (show (4 : Int) ≠ 0 by decide)
    have hr2 := Int.emod_lt_of_pos r.n (show (0 : Int) < 4 by decide)
    have e1 : w64 (16 + r.n % 4) = 16 + r.n % 4 := by rw [w64_id] <;> omega
    have e2 : w64 (16 + r.n % 4 - 2) = 16 + r.n % 4 - 2 := by rw [w64_id] <;> omega
    simp only [List.map_cons, List.map_nil] at ht
    rw [Tm.plainT]
    obtain ⟨op, m, ks⟩ := r
    rw [enc_mk] at p0 p1 ⊢
    simp only [Tm.n] at *
    by_cases hk : m % 4 < 2
    · simp only [S14_75, S14_76, S14_77, S14_78, S14_79, S14_80, S14_81, S14, ↓XX, ↓reduceIte, Nat.reduceBEq, decide_true, decide_false, Bool.not_true, Bool.not_false, List.map_cons, List.map_nil, List.length_map, List.length_cons, List.length_nil, Nat.reduceAdd, Int.cast_ofNat_Int, Int.natCast_zero, Int.natCast_one, Bool.false_eq_true, Bool.true_eq_false, decide_eq_true_eq, eq_self, Int.reduceEq, Int.reduceLT, Int.reduceLE, Bool.and_true, Bool.true_and, Bool.and_false, Bool.false_and, Nat.zero_add, ↓iso_2 hw, Tm.n, ↓iso_2 (t0_ok (n := n) (by omega) 15), hb0, hk, enc_mk]
      exact ans_p rfl _
    · simp only [S14_75, S14_76, S14_77, S14_78, S14_79, S14_80, S14_81, S14, ↓XX, ↓reduceIte, Nat.reduceBEq, decide_true, decide_false, Bool.not_true, Bool.not_false, List.map_cons, List.map_nil, List.length_map, List.length_cons, List.length_nil, Nat.reduceAdd, Int.cast_ofNat_Int, Int.natCast_zero, Int.natCast_one, Bool.false_eq_true, Bool.true_eq_false, decide_eq_true_eq, eq_self, Int.reduceEq, Int.reduceLT, Int.reduceLE, Bool.and_true, Bool.true_and, Bool.and_false, Bool.false_and, Nat.zero_add, ↓iso_2 hw, hb0, hk, e1, e2, hm, ↓iso_2 p0, ↓iso_2 p1, ↓iso_2 h0, ↓iso_2 h1, ↓bs2_tm, ↓iso_2 ht]
      simp only [↓XX, ↓reduceIte, Nat.reduceBEq, decide_true, decide_false, Bool.not_true, Bool.not_false, List.map_cons, List.map_nil, List.length_map, List.length_cons, List.length_nil, Nat.reduceAdd, Int.cast_ofNat_Int, Int.natCast_zero, Int.natCast_one, Bool.false_eq_true, Bool.true_eq_false, decide_eq_true_eq, eq_self, Int.reduceEq, Int.reduceLT, Int.reduceLE, Bool.and_true, Bool.true_and, Bool.and_false, Bool.false_and, Nat.zero_add, enc_mk]
      exact ans_p rfl _
end Idl
end Go.Proofs.Ytdibmackcbpniaa

namespace Go.Proofs.Ytdibmackcbpniaa
namespace Idl
def isTrueE (o : Option (IV × Hp)) : Bool := match o with
  | some (.fv (.bool b), ⟨_, []⟩) => b
  | _ => false
theorem ans_true {o : Option (IV × Hp)} (h : isTrueE o = true) : Ans o (.bool true) := by
  unfold isTrueE at h
  split at h
  · subst h; exact ans_fv _ _
  · cases h
theorem typed_ok : ∀ (n : Nat) (t : Tm), t.wt < n → Ans (SS dt n 52 [.fv t.enc] ⟨[], []⟩) (.bool t.typed) := by
  intro n
  induction n with
  | zero => intro t h; omega
  | succ n ih =>
    intro t h
    rw [c52]
    obtain ⟨op, m, ks⟩ := t
    simp only [Tm.wt] at h
    rw [enc_mk]
    by_cases h1 : op = 15
    · subst h1
      match ks with
      | [] => simp only [S52_89, S52_90, S52_91, S52_92, S52_93, S52_94, S52, ↓XX, ↓reduceIte, Nat.reduceBEq, decide_true, decide_false, Bool.not_true, Bool.not_false, List.map_cons, List.map_nil, List.length_map, List.length_cons, List.length_nil, Nat.reduceAdd, Int.cast_ofNat_Int, Int.natCast_zero, Int.natCast_one, Bool.false_eq_true, Bool.true_eq_false, decide_eq_true_eq, eq_self, Int.reduceEq, Int.reduceLT, Int.reduceLE, Bool.and_true, Bool.true_and, Bool.and_false, Bool.false_and, Nat.zero_add, Tm.typed]; exact ans_fv _ _
      | [_] => simp only [S52_89, S52_90, S52_91, S52_92, S52_93, S52_94, S52, ↓XX, ↓reduceIte, Nat.reduceBEq, decide_true, decide_false, Bool.not_true, Bool.not_false, List.map_cons, List.map_nil, List.length_map, List.length_cons, List.length_nil, Nat.reduceAdd, Int.cast_ofNat_Int, Int.natCast_zero, Int.natCast_one, Bool.false_eq_true, Bool.true_eq_false, decide_eq_true_eq, eq_self, Int.reduceEq, Int.reduceLT, Int.reduceLE, Bool.and_true, Bool.true_and, Bool.and_false, Bool.false_and, Nat.zero_add, typed1]; exact ans_fv _ _
      | [a, b] => simp only [S52_89, S52_90, S52_91, S52_92, S52_93, S52_94, S52, ↓XX, ↓reduceIte, Nat.reduceBEq, decide_true, decide_false, Bool.not_true, Bool.not_false, List.map_cons, List.map_nil, List.length_map, List.length_cons, List.length_nil, Nat.reduceAdd, Int.cast_ofNat_Int, Int.natCast_zero, Int.natCast_one, Bool.false_eq_true, Bool.true_eq_false, decide_eq_true_eq, eq_self, Int.reduceEq, Int.reduceLT, Int.reduceLE, Bool.and_true, Bool.true_and, Bool.and_false, Bool.false_and, Nat.zero_add, Tm.typed]; exact ans_fv _ _
      | a :: b :: c :: l =>
        have : ¬ ((l.length : Int) + 1 + 1 + 1 = 0) := by omega
        simp only [S52_89, S52_90, S52_91, S52_92, S52_93, S52_94, S52, ↓XX, ↓reduceIte, Nat.reduceBEq, decide_true, decide_false, Bool.not_true, Bool.not_false, List.map_cons, List.map_nil, List.length_map, List.length_cons, List.length_nil, Nat.reduceAdd, Int.cast_ofNat_Int, Int.natCast_zero, Int.natCast_one, Bool.false_eq_true, Bool.true_eq_false, decide_eq_true_eq, eq_self, Int.reduceEq, Int.reduceLT, Int.reduceLE, Bool.and_true, Bool.true_and, Bool.and_false, Bool.false_and, Nat.zero_add, Int.natCast_add, typed3, this]; exact ans_fv _ _
    · by_cases h2 : op = 16 ∨ op = 17
      · match ks with
        | [] => rcases h2 with rfl | rfl <;> (simp only [S52_89, S52_90, S52_91, S52_92, S52_93, S52_94, S52, ↓XX, ↓reduceIte, Nat.reduceBEq, decide_true, decide_false, Bool.not_true, Bool.not_false, List.map_cons, List.map_nil, List.length_map, List.length_cons, List.length_nil, Nat.reduceAdd, Int.cast_ofNat_Int, Int.natCast_zero, Int.natCast_one, Bool.false_eq_true, Bool.true_eq_false, decide_eq_true_eq, eq_self, Int.reduceEq, Int.reduceLT, Int.reduceLE, Bool.and_true, Bool.true_and, Bool.and_false, Bool.false_and, Nat.zero_add, Tm.typed]; exact ans_fv _ _)
        | [_] => rcases h2 with rfl | rfl <;> (simp only [S52_89, S52_90, S52_91, S52_92, S52_93, S52_94, S52, ↓XX, ↓reduceIte, Nat.reduceBEq, decide_true, decide_false, Bool.not_true, Bool.not_false, List.map_cons, List.map_nil, List.length_map, List.length_cons, List.length_nil, Nat.reduceAdd, Int.cast_ofNat_Int, Int.natCast_zero, Int.natCast_one, Bool.false_eq_true, Bool.true_eq_false, decide_eq_true_eq, eq_self, Int.reduceEq, Int.reduceLT, Int.reduceLE, Bool.and_true, Bool.true_and, Bool.and_false, Bool.false_and, Nat.zero_add, typed1]; exact ans_fv _ _)
        | [a, b] =>
          simp only [Tm.wtL] at h
          have ha := ih a (by omega)
          have hb := ih b (by omega)
          rw [Tm.typed]
          generalize a.typed = x at ha ⊢
          generalize b.typed = y at hb ⊢
          obtain ⟨o1, n1, k1⟩ := a
          obtain ⟨o2, n2, k2⟩ := b
          simp only [enc_mk] at ha hb
          cases x
          · rcases h2 with rfl | rfl <;> (simp only [S52_89, S52_90, S52_91, S52_92, S52_93, S52_94, S52, ↓XX, ↓reduceIte, Nat.reduceBEq, decide_true, decide_false, Bool.not_true, Bool.not_false, List.map_cons, List.map_nil, List.length_map, List.length_cons, List.length_nil, Nat.reduceAdd, Int.cast_ofNat_Int, Int.natCast_zero, Int.natCast_one, Bool.false_eq_true, Bool.true_eq_false, decide_eq_true_eq, eq_self, Int.reduceEq, Int.reduceLT, Int.reduceLE, Bool.and_true, Bool.true_and, Bool.and_false, Bool.false_and, Nat.zero_add, enc_mk, ↓iso_1 ha]; exact ans_fv _ _)
          · rcases h2 with rfl | rfl <;> (simp only [S52_89, S52_90, S52_91, S52_92, S52_93, S52_94, S52, ↓XX, ↓reduceIte, Nat.reduceBEq, decide_true, decide_false, Bool.not_true, Bool.not_false, List.map_cons, List.map_nil, List.length_map, List.length_cons, List.length_nil, Nat.reduceAdd, Int.cast_ofNat_Int, Int.natCast_zero, Int.natCast_one, Bool.false_eq_true, Bool.true_eq_false, decide_eq_true_eq, eq_self, Int.reduceEq, Int.reduceLT, Int.reduceLE, Bool.and_true, Bool.true_and, Bool.and_false, Bool.false_and, Nat.zero_add, enc_mk, ↓iso_1 ha, ↓iso_1 hb]; exact ans_fv _ _)
        | a :: b :: c :: l =>
          have : ¬ ((l.length : Int) + 1 + 1 + 1 = 2) := by omega
          rcases h2 with rfl | rfl <;> (simp only [S52_89, S52_90, S52_91, S52_92, S52_93, S52_94, S52, ↓XX, ↓reduceIte, Nat.reduceBEq, decide_true, decide_false, Bool.not_true, Bool.not_false, List.map_cons, List.map_nil, List.length_map, List.length_cons, List.length_nil, Nat.reduceAdd, Int.cast_ofNat_Int, Int.natCast_zero, Int.natCast_one, Bool.false_eq_true, Bool.true_eq_false, decide_eq_true_eq, eq_self, Int.reduceEq, Int.reduceLT, Int.reduceLE, Bool.and_true, Bool.true_and, Bool.and_false, Bool.false_and, Nat.zero_add, Int.natCast_add, typed3, this]; exact ans_fv _ _)
      · have h3 : op ≠ 16 := fun e => h2 (.inl e)
        have h4 : op ≠ 17 := fun e => h2 (.inr e)
        have : (Tm.mk op m ks).typed = false := by
          match ks with
          | [] => simp [Tm.typed, h1]
          | [_] => exact typed1 ..
          | [a, b] => simp [Tm.typed, h3, h4]
          | a :: b :: c :: l => exact typed3 ..
        rw [this]
        simp only [S52_89, S52_90, S52_91, S52_92, S52_93, S52_94, S52, ↓XX, ↓reduceIte, Nat.reduceBEq, decide_true, decide_false, Bool.not_true, Bool.not_false, List.map_cons, List.map_nil, List.length_map, List.length_cons, List.length_nil, Nat.reduceAdd, Int.cast_ofNat_Int, Int.natCast_zero, Int.natCast_one, Bool.false_eq_true, Bool.true_eq_false, decide_eq_true_eq, eq_self, Int.reduceEq, Int.reduceLT, Int.reduceLE, Bool.and_true, Bool.true_and, Bool.and_false, Bool.false_and, Nat.zero_add, h1, h3, h4]
        exact ans_fv _ _
def Tm.fits : Tm → Tm → Bool
  | .mk k n [], a => (decide (k = 1) && decide (a.op = 15)) || (decide (k = 3) && (decide (a.op = 16) && decide (n = 0)))
  | .mk k n [x, y], a => (decide (k = 2) && (decide (n = 0) && decide (a.op = 17))) && (match a.kids with
    | [p, q] => x.fits p && y.fits q
    | _ => false)
  | _, _ => false
theorem fits1 (k n : Int) (x a : Tm) : (Tm.mk k n [x]).fits a = false := by rw [Tm.fits] <;> simp
theorem fits3 (k n : Int) (x y z : Tm) (l : List Tm) (a : Tm) : (Tm.mk k n (x :: y :: z :: l)).fits a = false := by rw [Tm.fits] <;> simp
theorem fits_ok : ∀ (n : Nat) (v a : Tm), v.wt + a.wt < n → a.typed = true → Ans (SS dt n 32 [.fv v.enc, .fv a.enc] ⟨[], []⟩) (.bool (v.fits a)) := by
  intro n
  induction n with
  | zero => intro v a h; omega
  | succ n ih =>
    intro v a h ht
    rw [c32]
    have hty := typed_ok n a (by have := wt_pos v; omega)
    rw [ht] at hty
    obtain ⟨k, m, l⟩ := v
    obtain ⟨op, p, ks⟩ := a
    simp only [Tm.wt] at h
    rw [enc_mk] at hty ⊢
    rw [enc_mk]
    by_cases h1 : k = 1
    · subst h1
      have : ∀ (b : Bool), (Tm.mk 1 m l).fits (.mk op p ks) = b → b = (decide (op = 15) && decide ((l.length : Int) = 0)) := by
        intro b hb
        subst hb
        match l with
        | [] => simp [Tm.fits, Tm.op]; rfl
        | [_] => rw [fits1]; simp
        | [_, _] => simp [Tm.fits]
        | x :: y :: z :: l => rw [fits3]; have : ¬ ((l.length : Int) + 1 + 1 + 1 = 0) := by omega
                              simp [this]
      rw [this _ rfl]
      by_cases h2 : op = 15
      · simp only [S32_250, S32_251, S32_252, S32_253, S32_254, S32_255, S32_256, S32_257, S32_258, S32_259, S32_260, S32_261, S32_262, S32_263, S32_264, S32_265, S32_266, S32, ↓XX, ↓reduceIte, Nat.reduceBEq, decide_true, decide_false, Bool.not_true, Bool.not_false, List.map_cons, List.map_nil, List.length_map, List.length_cons, List.length_nil, Nat.reduceAdd, Int.cast_ofNat_Int, Int.natCast_zero, Int.natCast_one, Bool.false_eq_true, Bool.true_eq_false, decide_eq_true_eq, eq_self, Int.reduceEq, Int.reduceLT, Int.reduceLE, Bool.and_true, Bool.true_and, Bool.and_false, Bool.false_and, Nat.zero_add, ↓iso_1 hty, h2]; exact ans_fv _ _
      · simp only [S32_250, S32_251, S32_252, S32_253, S32_254, S32_255, S32_256, S32_257, S32_258, S32_259, S32_260, S32_261, S32_262, S32_263, S32_264, S32_265, S32_266, S32, ↓XX, ↓reduceIte, Nat.reduceBEq, decide_true, decide_false, Bool.not_true, Bool.not_false, List.map_cons, List.map_nil, List.length_map, List.length_cons, List.length_nil, Nat.reduceAdd, Int.cast_ofNat_Int, Int.natCast_zero, Int.natCast_one, Bool.false_eq_true, Bool.true_eq_false, decide_eq_true_eq, eq_self, Int.reduceEq, Int.reduceLT, Int.reduceLE, Bool.and_true, Bool.true_and, Bool.and_false, Bool.false_and, Nat.zero_add, ↓iso_1 hty, h2]; exact ans_fv _ _
    · by_cases h3 : k = 3
      · subst h3
        have : ∀ (b : Bool), (Tm.mk 3 m l).fits (.mk op p ks) = b → b = (decide (op = 16) && (decide (m = 0) && decide ((l.length : Int) = 0))) := by
          intro b hb
          subst hb
          match l with
          | [] => simp [Tm.fits, Tm.op]; rfl
          | [_] => rw [fits1]; simp
          | [_, _] => simp [Tm.fits]
          | x :: y :: z :: l => rw [fits3]; have : ¬ ((l.length : Int) + 1 + 1 + 1 = 0) := by omega
                                simp [this]
        rw [this _ rfl]
        by_cases h2 : op = 16
        · by_cases h4 : m = 0
          · simp only [S32_250, S32_251, S32_252, S32_253, S32_254, S32_255, S32_256, S32_257, S32_258, S32_259, S32_260, S32_261, S32_262, S32_263, S32_264, S32_265, S32_266, S32, ↓XX, ↓reduceIte, Nat.reduceBEq, decide_true, decide_false, Bool.not_true, Bool.not_false, List.map_cons, List.map_nil, List.length_map, List.length_cons, List.length_nil, Nat.reduceAdd, Int.cast_ofNat_Int, Int.natCast_zero, Int.natCast_one, Bool.false_eq_true, Bool.true_eq_false, decide_eq_true_eq, eq_self, Int.reduceEq, Int.reduceLT, Int.reduceLE, Bool.and_true, Bool.true_and, Bool.and_false, Bool.false_and, Nat.zero_add, ↓iso_1 hty, h2, h4]; exact ans_fv _ _
          · simp only [S32_250, S32_251, S32_252, S32_253, S32_254, S32_255, S32_256, S32_257, S32_258, S32_259, S32_260, S32_261, S32_262, S32_263, S32_264, S32_265, S32_266, S32, ↓XX, ↓reduceIte, Nat.reduceBEq, decide_true, decide_false, Bool.not_true, Bool.not_false, List.map_cons, List.map_nil, List.length_map, List.length_cons, List.length_nil, Nat.reduceAdd, Int.cast_ofNat_Int, Int.natCast_zero, Int.natCast_one, Bool.false_eq_true, Bool.true_eq_false, decide_eq_true_eq, eq_self, Int.reduceEq, Int.reduceLT, Int.reduceLE, Bool.and_true, Bool.true_and, Bool.and_false, Bool.false_and, Nat.zero_add, ↓iso_1 hty, h2, h4]; exact ans_fv _ _
        · simp only [S32_250, S32_251, S32_252, S32_253, S32_254, S32_255, S32_256, S32_257, S32_258, S32_259, S32_260, S32_261, S32_262, S32_263, S32_264, S32_265, S32_266, S32, ↓XX, ↓reduceIte, Nat.reduceBEq, decide_true, decide_false, Bool.not_true, Bool.not_false, List.map_cons, List.map_nil, List.length_map, List.length_cons, List.length_nil, Nat.reduceAdd, Int.cast_ofNat_Int, Int.natCast_zero, Int.natCast_one, Bool.false_eq_true, Bool.true_eq_false, decide_eq_true_eq, eq_self, Int.reduceEq, Int.reduceLT, Int.reduceLE, Bool.and_true, Bool.true_and, Bool.and_false, Bool.false_and, Nat.zero_add, ↓iso_1 hty, h2]; exact ans_fv _ _
      · have hno : (Tm.mk k m l).fits (.mk op p ks) = false → Ans (S32 (SS dt n) n (IV.fv (FV.agg [FV.int IntKind.i64 k, FV.int IntKind.i64 m, FV.sl (List.map Tm.enc l)])) (IV.fv (FV.agg [FV.int IntKind.i64 op, FV.int IntKind.i64 p, FV.sl (List.map Tm.enc ks)])) ⟨[], []⟩) (.bool false) →
            Ans (S32 (SS dt n) n (IV.fv (FV.agg [FV.int IntKind.i64 k, FV.int IntKind.i64 m, FV.sl (List.map Tm.enc l)])) (IV.fv (FV.agg [FV.int IntKind.i64 op, FV.int IntKind.i64 p, FV.sl (List.map Tm.enc ks)])) ⟨[], []⟩) (.bool ((Tm.mk k m l).fits (.mk op p ks))) := fun h1 h2 => by rw [h1]; exact h2
        by_cases h2 : k = 2
        · by_cases h4 : m = 0
          · match l with
            | [] => exact hno (by simp [Tm.fits, h1, h3]) (by simp only [S32_250, S32_251, S32_252, S32_253, S32_254, S32_255, S32_256, S32_257, S32_258, S32_259, S32_260, S32_261, S32_262, S32_263, S32_264, S32_265, S32_266, S32, ↓XX, ↓reduceIte, Nat.reduceBEq, decide_true, decide_false, Bool.not_true, Bool.not_false, List.map_cons, List.map_nil, List.length_map, List.length_cons, List.length_nil, Nat.reduceAdd, Int.cast_ofNat_Int, Int.natCast_zero, Int.natCast_one, Bool.false_eq_true, Bool.true_eq_false, decide_eq_true_eq, eq_self, Int.reduceEq, Int.reduceLT, Int.reduceLE, Bool.and_true, Bool.true_and, Bool.and_false, Bool.false_and, Nat.zero_add, ↓iso_1 hty, h1, h2, h3, h4]; exact ans_fv _ _)
            | [_] => exact hno (fits1 ..) (by simp only [S32_250, S32_251, S32_252, S32_253, S32_254, S32_255, S32_256, S32_257, S32_258, S32_259, S32_260, S32_261, S32_262, S32_263, S32_264, S32_265, S32_266, S32, ↓XX, ↓reduceIte, Nat.reduceBEq, decide_true, decide_false, Bool.not_true, Bool.not_false, List.map_cons, List.map_nil, List.length_map, List.length_cons, List.length_nil, Nat.reduceAdd, Int.cast_ofNat_Int, Int.natCast_zero, Int.natCast_one, Bool.false_eq_true, Bool.true_eq_false, decide_eq_true_eq, eq_self, Int.reduceEq, Int.reduceLT, Int.reduceLE, Bool.and_true, Bool.true_and, Bool.and_false, Bool.false_and, Nat.zero_add, ↓iso_1 hty, h1, h2, h3, h4]; exact ans_fv _ _)
            | x :: y :: z :: l =>
              have : ¬ ((l.length : Int) + 1 + 1 + 1 = 2) := by omega
              exact hno (fits3 ..) (by simp only [S32_250, S32_251, S32_252, S32_253, S32_254, S32_255, S32_256, S32_257, S32_258, S32_259, S32_260, S32_261, S32_262, S32_263, S32_264, S32_265, S32_266, S32, ↓XX, ↓reduceIte, Nat.reduceBEq, decide_true, decide_false, Bool.not_true, Bool.not_false, List.map_cons, List.map_nil, List.length_map, List.length_cons, List.length_nil, Nat.reduceAdd, Int.cast_ofNat_Int, Int.natCast_zero, Int.natCast_one, Bool.false_eq_true, Bool.true_eq_false, decide_eq_true_eq, eq_self, Int.reduceEq, Int.reduceLT, Int.reduceLE, Bool.and_true, Bool.true_and, Bool.and_false, Bool.false_and, Nat.zero_add, ↓iso_1 hty, h1, h2, h3, h4, Int.natCast_add, this]; exact ans_fv _ _)
            | [x, y] =>
              by_cases h5 : op = 17
              · subst h5
                match ks, ht with
                | [], ht => simp [Tm.typed] at ht
                | [_], ht => rw [typed1] at ht; cases ht
                | x :: y :: z :: l, ht => rw [typed3] at ht; cases ht
                | [q, r], ht =>
                  simp only [Tm.typed, Bool.and_eq_true] at ht
                  simp only [Tm.wtL] at h
                  have ha := ih x q (by omega) ht.2.1
                  have hb := ih y r (by omega) ht.2.2
                  rw [Tm.fits]
                  simp only [Tm.kids, Tm.op]
                  generalize x.fits q = u at ha ⊢
                  generalize y.fits r = w at hb ⊢
                  obtain ⟨o1, n1, k1⟩ := x
                  obtain ⟨o2, n2, k2⟩ := y
                  obtain ⟨o3, n3, k3⟩ := q
                  obtain ⟨o4, n4, k4⟩ := r
                  subst h2 h4
                  simp only [List.map_cons, List.map_nil, enc_mk] at ha hb hty
                  cases u
                  · simp only [S32_250, S32_251, S32_252, S32_253, S32_254, S32_255, S32_256, S32_257, S32_258, S32_259, S32_260, S32_261, S32_262, S32_263, S32_264, S32_265, S32_266, S32, ↓XX, ↓reduceIte, Nat.reduceBEq, decide_true, decide_false, Bool.not_true, Bool.not_false, List.map_cons, List.map_nil, List.length_map, List.length_cons, List.length_nil, Nat.reduceAdd, Int.cast_ofNat_Int, Int.natCast_zero, Int.natCast_one, Bool.false_eq_true, Bool.true_eq_false, decide_eq_true_eq, eq_self, Int.reduceEq, Int.reduceLT, Int.reduceLE, Bool.and_true, Bool.true_and, Bool.and_false, Bool.false_and, Nat.zero_add, enc_mk, ↓iso_1 hty, ↓iso_2 ha]; exact ans_fv _ _
                  · simp only [S32_250, S32_251, S32_252, S32_253, S32_254, S32_255, S32_256, S32_257, S32_258, S32_259, S32_260, S32_261, S32_262, S32_263, S32_264, S32_265, S32_266, S32, ↓XX, ↓reduceIte, Nat.reduceBEq, decide_true, decide_false, Bool.not_true, Bool.not_false, List.map_cons, List.map_nil, List.length_map, List.length_cons, List.length_nil, Nat.reduceAdd, Int.cast_ofNat_Int, Int.natCast_zero, Int.natCast_one, Bool.false_eq_true, Bool.true_eq_false, decide_eq_true_eq, eq_self, Int.reduceEq, Int.reduceLT, Int.reduceLE, Bool.and_true, Bool.true_and, Bool.and_false, Bool.false_and, Nat.zero_add, enc_mk, ↓iso_1 hty, ↓iso_2 ha, ↓iso_2 hb]; exact ans_fv _ _
              · exact hno (by simp [Tm.fits, Tm.op, h5]) (by simp only [S32_250, S32_251, S32_252, S32_253, S32_254, S32_255, S32_256, S32_257, S32_258, S32_259, S32_260, S32_261, S32_262, S32_263, S32_264, S32_265, S32_266, S32, ↓XX, ↓reduceIte, Nat.reduceBEq, decide_true, decide_false, Bool.not_true, Bool.not_false, List.map_cons, List.map_nil, List.length_map, List.length_cons, List.length_nil, Nat.reduceAdd, Int.cast_ofNat_Int, Int.natCast_zero, Int.natCast_one, Bool.false_eq_true, Bool.true_eq_false, decide_eq_true_eq, eq_self, Int.reduceEq, Int.reduceLT, Int.reduceLE, Bool.and_true, Bool.true_and, Bool.and_false, Bool.false_and, Nat.zero_add, ↓iso_1 hty, h1, h2, h3, h4, h5]; exact ans_fv _ _)
          · have : (Tm.mk k m l).fits (.mk op p ks) = false := by
              match l with
              | [] => simp [Tm.fits, h1, h3]
              | [_] => exact fits1 ..
              | [_, _] => simp [Tm.fits, h4]
              | x :: y :: z :: l => exact fits3 ..
            exact hno this (by simp only [S32_250, S32_251, S32_252, S32_253, S32_254, S32_255, S32_256, S32_257, S32_258, S32_259, S32_260, S32_261, S32_262, S32_263, S32_264, S32_265, S32_266, S32, ↓XX, ↓reduceIte, Nat.reduceBEq, decide_true, decide_false, Bool.not_true, Bool.not_false, List.map_cons, List.map_nil, List.length_map, List.length_cons, List.length_nil, Nat.reduceAdd, Int.cast_ofNat_Int, Int.natCast_zero, Int.natCast_one, Bool.false_eq_true, Bool.true_eq_false, decide_eq_true_eq, eq_self, Int.reduceEq, Int.reduceLT, Int.reduceLE, Bool.and_true, Bool.true_and, Bool.and_false, Bool.false_and, Nat.zero_add, ↓iso_1 hty, h1, h2, h3, h4]; exact ans_fv _ _)
        · have : (Tm.mk k m l).fits (.mk op p ks) = false := by
            match l with
            | [] => simp [Tm.fits, h1, h3]
            | [_] => exact fits1 ..
            | [_, _] => simp [Tm.fits, h2]
            | x :: y :: z :: l => exact fits3 ..
          exact hno this (by simp only [S32_250, S32_251, S32_252, S32_253, S32_254, S32_255, S32_256, S32_257, S32_258, S32_259, S32_260, S32_261, S32_262, S32_263, S32_264, S32_265, S32_266, S32, ↓XX, ↓reduceIte, Nat.reduceBEq, decide_true, decide_false, Bool.not_true, Bool.not_false, List.map_cons, List.map_nil, List.length_map, List.length_cons, List.length_nil, Nat.reduceAdd, Int.cast_ofNat_Int, Int.natCast_zero, Int.natCast_one, Bool.false_eq_true, Bool.true_eq_false, decide_eq_true_eq, eq_self, Int.reduceEq, Int.reduceLT, Int.reduceLE, Bool.and_true, Bool.true_and, Bool.and_false, Bool.false_and, Nat.zero_add, ↓iso_1 hty, h1, h2, h3]; exact ans_fv _ _)
end Idl
end Go.Proofs.Ytdibmackcbpniaa

namespace Go.Proofs.Ytdibmackcbpniaa
namespace Idl
section
variable {β : Type} {E : Env}
theorem app_c {t : TypeId} {size : Nat} (T : SliceT E t size) {x : IV} {es es2 : List FV} (hx : Plain2 x es2) (h1 : headOk size es2 = true) (h2 : headOk size es = true) (hne : es2.isEmpty = false) (hb : es.length + es2.length ≤ 1000000) (s : Nat) (own : List (Nat × Blk)) (ext : List Blk)
    (k : IV → Hp → List Ref → List Ref → Option β) : genS (builtinR E s false .append [t, t] [.clip es, x]) s ⟨own, ext⟩ k = freshK own s (putOwnK own s (.tok (es.length + es2.length) size) fun own => k (.app (.own s) (es ++ es2)) ⟨own, ext⟩ [] [.own s]) := by
  obtain ⟨a, b, e, z, ei, hT, he, rfl, h0, hby⟩ := T.h
  have hlen : ¬ (headOk ei.size es = false ∨ (es.length + es2.length) * ei.bytes > 140737488355328 ∨ es.length + es2.length > 1073741824) := by
    have : (es.length + es2.length) * ei.bytes ≤ 1000000 * 100000 := Nat.mul_le_mul hb hby
    rw [h2]
    rintro (h | h | h)
    · cases h
    · omega
    · omega
  have key : builtinR E s false .append [t, t] [.clip es, x] = .ret { eff := { val := .app (.own s) (es ++ es2), upd := [] }, new := some (.tok (es ++ es2).length ei.size) } := by
    show appendR E s t (some t) false (.clip es) x = _
    simp only [appendR, hT, Option.bind_some, he, p2_frz hx, Rd.bind, h0, h1, false_or, Bool.true_eq_false, if_false]
    simp only [elemsOf, if_neg hlen, hne, Bool.false_eq_true, if_false]
  rw [key, List.length_append]
  unfold genS
  simp only [Rd.runLog]
  show (newK (some (.tok (es.length + es2.length) ei.size)) s ⟨own, ext⟩ fun h => fV 3 (.app (.own s) (es ++ es2)) fun v => k v h [] ([] ++ [.own s])) = _
  simp only [newK, fBk_eq, fV_eq]
  rfl
theorem eq_nl {t a b e : TypeId} {z : List IV} (hT : E.T t = some ⟨a, b, .slice e, z⟩) (x : FV) (l : List FV) (k : IV → Option β) : eqS E t (.fv (.sl (x :: l))) .nils k = k (.fv (.bool false)) := by
  show binS E t .eql _ _ k = _
  rw [binS, optS_eq]
  have : binR E .eql t (.fv (.sl (x :: l))) .nils = some (.fv (.bool false)) := by
    simp only [binR, hT, isNilS, eqOp, Option.bind_some]
  rw [this]; rfl
theorem slice_c {t : TypeId} {size : Nat} (T : SliceT E t size) {es : List FV} (h1 : headOk size es = true) (s : Nat) (h : Hp) (k : IV → Hp → List Ref → List Ref → Option β) :
    genS (sliceR E t (.fv (.sl es)) none (some (iv es.length)) (some (iv es.length))) s h k = k (.clip es) h [] [] := by
  obtain ⟨a, b, e, z, ei, hT, he, rfl, h0, hby⟩ := T.h
  have key : sliceR E t (.fv (.sl es)) none (some (iv es.length)) (some (iv es.length)) = .ret { eff := { val := .clip es, upd := [] } } := by
    have hn : natIn (iv es.length) es.length = some es.length := by
      simp [natIn, iv]
    simp only [sliceR, hT, he]
    rw [show frz 4096 (.fv (.sl es)) = .ret (.sl es, []) from rfl]
    simp [Rd.bind, h1, hn, optIn]
  rw [key]
  exact gen_val _ s h k
end
theorem iso_sp {ih : Handler} {f : FuncId} {a : IV} {x w : FV} (hr : Ans (askedD true ih f [.fv x] []) w) (ha : frzP a = some x) (h : Hp) (k : IV → Hp → List Ref → List Ref → Option (IV × Hp)) : isoS [] true false ih f [a] h k = k (.fv w) h [] [] := by
  obtain ⟨v, own, e, hv⟩ := hr
  have hu : ∃ u, (frz 4096 v).run ⟨own, []⟩ = some (w, u) := by
    rcases hv with ⟨u', lg', hf⟩ | ⟨hf, hu⟩
    · exact ansx_frz ⟨u', lg', hf⟩
    · exact hu
  obtain ⟨u, hu⟩ := hu
  show isoD [] true false ih f [a] h k = _
  unfold isoD
  have hz := frz_args [a] (zl_1 ha)
  simp only [hz, Rd.runLog, gather, renL_fv, List.map_nil, renBlks, fL_eq (fV_eq 3), fL_eq fBk_eq, List.map_cons, e, hu, Option.map_some, IV.ren, IV.ren.renL, Bool.false_eq_true, if_false, Option.bind_some]
  show (match laid h ([] ++ (keys []).zip []) with | none => none | some h' => fH h' fun h' => fV 3 (.fv w) fun res => k res h' [] _) = _
  simp only [keys, List.map_nil, List.zip_nil_left, List.append_nil, laid, fH_eq, fV_eq]
theorem iso_rw {ih : Handler} {f : FuncId} {a : IV} {x : FV} {es : List FV} {own : List (Nat × Blk)} (hr : ih f [.fv x] ⟨[], []⟩ = some (.clip es, ⟨own, []⟩)) (ha : frzP a = some x) (h : Hp) (k : IV → Hp → List Ref → List Ref → Option (IV × Hp)) : isoS [] false true ih f [a] h k = k (.clip es) h [] [] := by
  show isoD [] false true ih f [a] h k = _
  unfold isoD
  have hz := frz_args [a] (zl_1 ha)
  simp only [hz, Rd.runLog, gather, renL_fv, List.map_nil, renBlks, fL_eq (fV_eq 3), fL_eq fBk_eq, List.map_cons, askedD, hr, Option.map_some, IV.ren, IV.ren.renL, Bool.false_eq_true, if_false, if_true, Option.bind_some]
  show (match laid h ([] ++ (keys []).zip []) with | none => none | some h' => fH h' fun h' => fV 3 (.clip es) fun res => k res h' [] _) = _
  simp only [keys, List.map_nil, List.zip_nil_left, List.append_nil, laid, fH_eq, fV_eq]
end Idl
end Go.Proofs.Ytdibmackcbpniaa

namespace Go.Proofs.Ytdibmackcbpniaa
namespace Idl
theorem kp_same (ih : Handler) (xs : List IV) (h0 : Hp) (k : IV → Hp → List Ref → List Ref → Option (IV × Hp)) : dynS EE ih (.fv (.func (.func 104) [] [])) xs h0 k = isoS [] false false ih 104 xs h0 k :=
  keep0 (by kernel_rfl) (by kernel_rfl) (by kernel_rfl) (by kernel_rfl) ..
theorem eqf_ok {n : Nat} (ka kb : List Tm) (hn : ka.length < n) (hl : ka.length ≤ 1000000000) (ih : ∀ a ∈ ka, ∀ b ∈ kb, Ans (SS dt n 104 [.fv a.enc, .fv b.enc] ⟨[], []⟩) (.bool (a.same b))) :
    Ans (SS dt (n + 1) 116 [.fv (.sl (ka.map Tm.enc)), .fv (.sl (kb.map Tm.enc)), .fv (.func (.func 104) [] [])] ⟨[], []⟩) (.bool (decide (ka.length = kb.length) && Tm.sameL ka kb)) := by
  rw [c116]
  by_cases h : ka.length = kb.length
  · have h' : (ka.length : Int) = kb.length := by omega
    rw [decide_eq_true h, Bool.true_and]
    simp only [S116_54, S116_55, S116_56, S116_57, S116_59, S116, ↓XX, ↓reduceIte, Nat.reduceBEq, decide_true, decide_false, Bool.not_true, Bool.not_false, List.map_cons, List.map_nil, List.length_map, List.length_cons, List.length_nil, Nat.reduceAdd, Int.cast_ofNat_Int, Int.natCast_zero, Int.natCast_one, Bool.false_eq_true, Bool.true_eq_false, decide_eq_true_eq, eq_self, Int.reduceEq, Int.reduceLT, Int.reduceLE, Bool.and_true, Bool.true_and, Bool.and_false, Bool.false_and, Nat.zero_add, h', ↓drop_e, XD, heldB, flatD, List.any_cons, List.any_nil, List.all_cons, List.all_nil, List.filter_cons, List.filter_nil, List.contains_cons, List.contains_nil, Bool.or_false, Bool.or_true, Bool.false_or, Bool.true_or, Bool.and_self, Bool.not_eq_true, BEq.rfl, beq_self_eq_true]
    refine loop_run (Q := fun r => Ans r _) (fun k V H => ∃ pa ra pb rb, ka = pa ++ ra ∧ kb = pb ++ rb ∧ pa.length = pb.length ∧ ra.length = k ∧ V = [.fv (.sl (kb.map Tm.enc)), .fv (.func (.func 104) [] []), .fv (.sl (ka.map Tm.enc)), iv ka.length, iv pa.length] ∧ H = ⟨[], []⟩ ∧ Tm.sameL ra rb = Tm.sameL ka kb)
      ?_ n ka.length _ _ hn ⟨[], ka, [], kb, rfl, rfl, rfl, rfl, by rw [h]; rfl, rfl, rfl⟩
    rintro k V H rec ⟨pa, ra, pb, rb, hka, hkb, hpl, hk, rfl, rfl, hs⟩ hrec
    have hal : ka.length = pa.length + ra.length := by rw [hka]; simp
    have hbl : kb.length = pb.length + rb.length := by rw [hkb]; simp
    cases ra with
    | nil =>
      have hno : ¬ ((pa.length : Int) < ka.length) := by rw [hal]; simp
      rw [← hs]
      simp only [S116_54, S116_55, S116_56, S116_57, S116_58, S116_59, S116, ↓XX, ↓reduceIte, Nat.reduceBEq, decide_true, decide_false, Bool.not_true, Bool.not_false, List.map_cons, List.map_nil, List.length_map, List.length_cons, List.length_nil, Nat.reduceAdd, Int.cast_ofNat_Int, Int.natCast_zero, Int.natCast_one, Bool.false_eq_true, Bool.true_eq_false, decide_eq_true_eq, eq_self, Int.reduceEq, Int.reduceLT, Int.reduceLE, Bool.and_true, Bool.true_and, Bool.and_false, Bool.false_and, Nat.zero_add, hno, Tm.sameL]
      exact ans_fv _ _
    | cons a ra =>
      simp only [List.length_cons] at hal hk
      cases rb with
      | nil => simp only [List.length_nil] at hbl; omega
      | cons b rb =>
        have hi : (pa.length : Int) < ka.length := by omega
        have hga := at_pre hka
        have hgb := at_pre hkb
        rw [← hpl] at hgb
        have hc := ih a (by rw [hka]; simp) b (by rw [hkb]; simp)
        have hwi : w64 ((pa.length : Int) + 1) = ((pa ++ [a]).length : Int) := (w64_id (by omega) (by omega)).trans (by simp)
        simp only [Tm.sameL] at hs
        generalize a.same b = v at hc hs
        obtain ⟨o, p, l⟩ := a
        obtain ⟨o2, p2, l2⟩ := b
        simp only [enc_mk] at hc
        cases v
        · rw [← hs]
          simp only [S116_54, S116_55, S116_56, S116_57, S116_58, S116_59, S116, ↓XX, ↓reduceIte, Nat.reduceBEq, decide_true, decide_false, Bool.not_true, Bool.not_false, List.map_cons, List.map_nil, List.length_map, List.length_cons, List.length_nil, Nat.reduceAdd, Int.cast_ofNat_Int, Int.natCast_zero, Int.natCast_one, Bool.false_eq_true, Bool.true_eq_false, decide_eq_true_eq, eq_self, Int.reduceEq, Int.reduceLT, Int.reduceLE, Bool.and_true, Bool.true_and, Bool.and_false, Bool.false_and, Nat.zero_add, hi, ↓ix_f (map_get hga) (agg3l _ _ _), ↓ix_f (map_get hgb) (agg3l _ _ _), ↓agg3, ↓kp_same, ↓iso_2 hc]
          exact ans_fv _ _
        · simp only [S116_54, S116_55, S116_56, S116_57, S116_58, S116_59, S116, ↓XX, ↓reduceIte, Nat.reduceBEq, decide_true, decide_false, Bool.not_true, Bool.not_false, List.map_cons, List.map_nil, List.length_map, List.length_cons, List.length_nil, Nat.reduceAdd, Int.cast_ofNat_Int, Int.natCast_zero, Int.natCast_one, Bool.false_eq_true, Bool.true_eq_false, decide_eq_true_eq, eq_self, Int.reduceEq, Int.reduceLT, Int.reduceLE, Bool.and_true, Bool.true_and, Bool.and_false, Bool.false_and, Nat.zero_add, hi, ↓ix_f (map_get hga) (agg3l _ _ _), ↓ix_f (map_get hgb) (agg3l _ _ _), ↓agg3, ↓kp_same, ↓iso_2 hc, hwi, ↓drop_e, XD, heldB, flatD, List.any_cons, List.any_nil, List.all_cons, List.all_nil, List.filter_cons, List.filter_nil, List.contains_cons, List.contains_nil, Bool.or_false, Bool.or_true, Bool.false_or, Bool.true_or, Bool.and_self, Bool.not_eq_true, BEq.rfl, beq_self_eq_true]
          exact hrec ra.length _ _ (by omega) ⟨pa ++ [.mk o p l], ra, pb ++ [.mk o2 p2 l2], rb, by rw [hka]; simp, by rw [hkb]; simp, by simp [hpl], rfl, rfl, rfl, by simpa using hs⟩
  · have h' : ¬ (ka.length : Int) = kb.length := by omega
    rw [decide_eq_false h, Bool.false_and]
    simp only [S116_54, S116_55, S116_56, S116_57, S116_58, S116_59, S116, ↓XX, ↓reduceIte, Nat.reduceBEq, decide_true, decide_false, Bool.not_true, Bool.not_false, List.map_cons, List.map_nil, List.length_map, List.length_cons, List.length_nil, Nat.reduceAdd, Int.cast_ofNat_Int, Int.natCast_zero, Int.natCast_one, Bool.false_eq_true, Bool.true_eq_false, decide_eq_true_eq, eq_self, Int.reduceEq, Int.reduceLT, Int.reduceLE, Bool.and_true, Bool.true_and, Bool.and_false, Bool.false_and, Nat.zero_add, h']
    exact ans_fv _ _
theorem psame_ok : ∀ (n : Nat) (a b : Tm), 2 * a.wt + 2 < n → a.wt ≤ 100000000 → Ans (SS dt n 104 [.fv a.enc, .fv b.enc] ⟨[], []⟩) (.bool (a.same b)) := by
  intro n
  induction n using Nat.strongRecOn with
  | ind n ih =>
    intro a b hn hw
    obtain ⟨o, m, ka⟩ := a
    obtain ⟨o', m', kb⟩ := b
    simp only [Tm.wt] at hn hw
    obtain ⟨n, rfl⟩ : ∃ k, n = k + 1 + 1 := ⟨n - 2, by omega⟩
    have hlen := wt_len ka
    have hq := eqf_ok (n := n) ka kb (by omega) (by omega) (fun a ha b _ => ih n (by omega) a b (by have := wt_mem ha; omega) (by have := wt_mem ha; omega))
    rw [c104, enc_mk, enc_mk, Tm.same]
    generalize (decide (ka.length = kb.length) && Tm.sameL ka kb) = v at hq
    by_cases h1 : o = o'
    · by_cases h2 : m = m'
      · subst h1 h2
        simp only [S104_83, S104_84, S104_85, S104, ↓XX, ↓reduceIte, Nat.reduceBEq, decide_true, decide_false, Bool.not_true, Bool.not_false, List.map_cons, List.map_nil, List.length_map, List.length_cons, List.length_nil, Nat.reduceAdd, Int.cast_ofNat_Int, Int.natCast_zero, Int.natCast_one, Bool.false_eq_true, Bool.true_eq_false, decide_eq_true_eq, eq_self, Int.reduceEq, Int.reduceLT, Int.reduceLE, Bool.and_true, Bool.true_and, Bool.and_false, Bool.false_and, Nat.zero_add, ↓iso_3 hq]
        exact ans_fv _ _
      · have h2' := decide_eq_false h2
        subst h1
        simp only [S104_83, S104_84, S104_85, S104, ↓XX, ↓reduceIte, Nat.reduceBEq, decide_true, decide_false, Bool.not_true, Bool.not_false, List.map_cons, List.map_nil, List.length_map, List.length_cons, List.length_nil, Nat.reduceAdd, Int.cast_ofNat_Int, Int.natCast_zero, Int.natCast_one, Bool.false_eq_true, Bool.true_eq_false, decide_eq_true_eq, eq_self, Int.reduceEq, Int.reduceLT, Int.reduceLE, Bool.and_true, Bool.true_and, Bool.and_false, Bool.false_and, Nat.zero_add, h2]
        exact ans_fv _ _
    · simp only [S104_83, S104_84, S104_85, S104, ↓XX, ↓reduceIte, Nat.reduceBEq, decide_true, decide_false, Bool.not_true, Bool.not_false, List.map_cons, List.map_nil, List.length_map, List.length_cons, List.length_nil, Nat.reduceAdd, Int.cast_ofNat_Int, Int.natCast_zero, Int.natCast_one, Bool.false_eq_true, Bool.true_eq_false, decide_eq_true_eq, eq_self, Int.reduceEq, Int.reduceLT, Int.reduceLE, Bool.and_true, Bool.true_and, Bool.and_false, Bool.false_and, Nat.zero_add, h1]
      exact ans_fv _ _
end Idl
end Go.Proofs.Ytdibmackcbpniaa

namespace Go.Proofs.Ytdibmackcbpniaa
namespace Idl
theorem tSc : EE.T 78 = some ⟨1, 24, .slice 30, [.nils]⟩ := by kernel_rfl
theorem sSc : SliceT EE 78 3 := ⟨_, _, _, _, _, tSc, tTm, rfl, by decide, by decide⟩
theorem bs0_sc (s : Nat) (h : Hp) (k : IV → Hp → List Ref → List Ref → Option (IV × Hp)) : genS (pcBuildSlice EE 78 0 []) s h k = k (.clip []) h [] [] := bs_tm tSc tTm (by decide) (cells := []) rfl k
theorem bs1_sc (o1 n1 : Int) (k1 : List FV) (s : Nat) (h : Hp) (k : IV → Hp → List Ref → List Ref → Option (IV × Hp)) : genS (pcBuildSlice EE 78 1 [(0, .fv (.agg [.int .i64 o1, .int .i64 n1, .sl k1]))]) s h k = k (.clip [.agg [.int .i64 o1, .int .i64 n1, .sl k1]]) h [] [] :=
  bs_tm tSc tTm (by decide) (cells := [.int .i64 o1, .int .i64 n1, .sl k1]) rfl k
theorem clone_ok {n : Nat} (g : List Tm) (hg : g.length ≤ 900000) : Ans (askedD true (SS dt (n + 1)) 107 [.fv (.sl (g.map Tm.enc))] []) (.sl (g.map Tm.enc)) := by
  cases g with
  | nil =>
    have h1 : isEmptySl (SS dt (n + 1) 107 [.nils] ⟨[], []⟩) = true := by kernel_rfl
    have h2 : isEmptySl (SS dt (n + 1) 107 [.emp] ⟨[], []⟩) = true := by kernel_rfl
    simp only [askedD, List.map_nil, h1, h2, Bool.and_self, if_true]
    exact ans_fv _ _
  | cons t g =>
    have e : askedD true (SS dt (n + 1)) 107 [.fv (.sl ((t :: g).map Tm.enc))] [] = SS dt (n + 1) 107 [.fv (.sl ((t :: g).map Tm.enc))] ⟨[], []⟩ := by
      simp [askedD]
    rw [e, c107]
    have happ := fun {β : Type} => app_0 (β := β) sSc (.sl ((t :: g).map Tm.enc)) (head_tm (t :: g)) rfl (by simp at hg ⊢; omega) (s0 := .clip []) (.inr rfl)
    simp only [List.map_cons] at happ ⊢
    simp only [S107, ↓XX, ↓reduceIte, Nat.reduceBEq, decide_true, decide_false, Bool.not_true, Bool.not_false, List.map_cons, List.map_nil, List.length_map, List.length_cons, List.length_nil, Nat.reduceAdd, Int.cast_ofNat_Int, Int.natCast_zero, Int.natCast_one, Bool.false_eq_true, Bool.true_eq_false, decide_eq_true_eq, eq_self, Int.reduceEq, Int.reduceLT, Int.reduceLE, Bool.and_true, Bool.true_and, Bool.and_false, Bool.false_and, Nat.zero_add, ↓eq_nl tSc, ↓bs0_sc, ↓happ]
    exact ans_p rfl _
theorem clip_ok {n : Nat} (g : List Tm) : ∃ own, SS dt (n + 1) 106 [.fv (.sl (g.map Tm.enc))] ⟨[], []⟩ = some (.clip (g.map Tm.enc), ⟨own, []⟩) := by
  rw [c106]
  have hs := fun {β : Type} => slice_c (β := β) (E := EE) sSc (es := g.map Tm.enc) (head_tm g)
  simp only [List.length_map] at hs
  simp only [S106, ↓XX, ↓reduceIte, Nat.reduceBEq, decide_true, decide_false, Bool.not_true, Bool.not_false, List.map_cons, List.map_nil, List.length_map, List.length_cons, List.length_nil, Nat.reduceAdd, Int.cast_ofNat_Int, Int.natCast_zero, Int.natCast_one, Bool.false_eq_true, Bool.true_eq_false, decide_eq_true_eq, eq_self, Int.reduceEq, Int.reduceLT, Int.reduceLE, Bool.and_true, Bool.true_and, Bool.and_false, Bool.false_and, Nat.zero_add, ↓hs]
  exact ⟨_, rfl⟩
theorem with_ok {n : Nat} (g : List Tm) (a : Tm) (hg : g.length ≤ 900000) (hn : 1 < n) : Ans (SS dt n 75 [.fv (.sl (g.map Tm.enc)), .fv a.enc] ⟨[], []⟩) (.sl ((g ++ [a]).map Tm.enc)) := by
  obtain ⟨n, rfl⟩ : ∃ k, n = k + 1 + 1 := ⟨n - 2, by omega⟩
  rw [c75]
  have h1 := clone_ok (n := n) g hg
  obtain ⟨o2, h2⟩ := clip_ok (n := n) g
  have happ := fun {β : Type} => app_c (β := β) sSc (.clip [a.enc]) (head_tm [a]) (head_tm g) rfl (by simp; omega)
  rw [List.map_append, List.map_cons, List.map_nil]
  obtain ⟨o, p, k⟩ := a
  rw [enc_mk] at happ ⊢
  simp only [S75_25, S75, ↓XX, ↓reduceIte, Nat.reduceBEq, decide_true, decide_false, Bool.not_true, Bool.not_false, List.map_cons, List.map_nil, List.length_map, List.length_cons, List.length_nil, Nat.reduceAdd, Int.cast_ofNat_Int, Int.natCast_zero, Int.natCast_one, Bool.false_eq_true, Bool.true_eq_false, decide_eq_true_eq, eq_self, Int.reduceEq, Int.reduceLT, Int.reduceLE, Bool.and_true, Bool.true_and, Bool.and_false, Bool.false_and, Nat.zero_add, ↓iso_sp h1, ↓iso_rw h2, ↓bs1_sc, ↓happ]
  exact ans_p rfl _
theorem of_ok {n : Nat} (hn : 0 < n) (op : Int) (l : List Tm) : Ans (SS dt n 64 [iv op, .fv (.sl (l.map Tm.enc))] ⟨[], []⟩) (Tm.mk op 0 l).enc := by
  obtain ⟨n, rfl⟩ : ∃ k, n = k + 1 := ⟨n - 1, by omega⟩
  rw [c64]
  simp only [S64, ↓XX, ↓reduceIte, Nat.reduceBEq, decide_true, decide_false, Bool.not_true, Bool.not_false, List.map_cons, List.map_nil, List.length_map, List.length_cons, List.length_nil, Nat.reduceAdd, Int.cast_ofNat_Int, Int.natCast_zero, Int.natCast_one, Bool.false_eq_true, Bool.true_eq_false, decide_eq_true_eq, eq_self, Int.reduceEq, Int.reduceLT, Int.reduceLE, Bool.and_true, Bool.true_and, Bool.and_false, Bool.false_and, Nat.zero_add, enc_mk]
  exact ans_fv _ _
theorem of0_ok {n : Nat} (hn : 0 < n) (op : Int) : Ans (SS dt n 64 [iv op, .fv (.sl [])] ⟨[], []⟩) (.agg [.int .i64 op, .int .i64 0, .sl []]) := of_ok hn op []
theorem made_ok {n : Nat} (a : Tm) (e : Int) (hn : 0 < n) (hn : e = 0 → 2 * a.wt + 4 < n) : Ans (SS dt n 105 [.fv a.enc, iv e] ⟨[], []⟩) (.tuple [a.enc, .int .i64 (if e = 0 then (a.chk 0 1).2 else e)]) := by
  obtain ⟨n, rfl⟩ : ∃ k, n = k + 1 := ⟨n - 1, by omega⟩
  rw [c105]
  by_cases he : e = 0
  · have h := pCheck_ok (n := n) a (by have := hn he; omega)
    generalize (a.chk 0 1).2 = c at h ⊢
    obtain ⟨o, p, k⟩ := a
    rw [enc_mk] at h ⊢
    simp only [S105_27, S105_28, S105, ↓XX, ↓reduceIte, Nat.reduceBEq, decide_true, decide_false, Bool.not_true, Bool.not_false, List.map_cons, List.map_nil, List.length_map, List.length_cons, List.length_nil, Nat.reduceAdd, Int.cast_ofNat_Int, Int.natCast_zero, Int.natCast_one, Bool.false_eq_true, Bool.true_eq_false, decide_eq_true_eq, eq_self, Int.reduceEq, Int.reduceLT, Int.reduceLE, Bool.and_true, Bool.true_and, Bool.and_false, Bool.false_and, Nat.zero_add, he, ↓iso_1 h]; first | exact ans_fv _ _ | exact ans_t rfl (by simp) _
  · obtain ⟨o, p, k⟩ := a
    rw [enc_mk]
    simp only [S105_27, S105_28, S105, ↓XX, ↓reduceIte, Nat.reduceBEq, decide_true, decide_false, Bool.not_true, Bool.not_false, List.map_cons, List.map_nil, List.length_map, List.length_cons, List.length_nil, Nat.reduceAdd, Int.cast_ofNat_Int, Int.natCast_zero, Int.natCast_one, Bool.false_eq_true, Bool.true_eq_false, decide_eq_true_eq, eq_self, Int.reduceEq, Int.reduceLT, Int.reduceLE, Bool.and_true, Bool.true_and, Bool.and_false, Bool.false_and, Nat.zero_add, he]; first | exact ans_fv _ _ | exact ans_t rfl (by simp) _
theorem pchk_ok {n : Nat} {g : List Tm} {t a : Tm} {q : Int × Tm} (h : AnsT (SS dt n 53 [.fv (.sl (g.map Tm.enc)), .fv t.enc] ⟨[], []⟩) q) (hw : 2 * a.wt + 2 < n) (ha : a.wt ≤ 100000000) :
    Ans (SS dt (n + 1) 73 [.fv (.sl (g.map Tm.enc)), .fv t.enc, .fv a.enc] ⟨[], []⟩) (.int .i64 (chkT q a)) := by
  obtain ⟨u, hu, he⟩ := h
  obtain ⟨e, r⟩ := q
  simp only at hu he
  rw [c73]
  have hs := psame_ok n a u hw ha
  unfold chkT
  simp only
  by_cases h0 : e = 0
  · have hur := he h0
    subst hur h0
    rw [if_pos rfl]
    generalize a.same u = b at hs ⊢
    obtain ⟨o1, n1, k1⟩ := t
    obtain ⟨o2, n2, k2⟩ := a
    obtain ⟨o3, n3, k3⟩ := u
    simp only [enc_mk] at hu hs ⊢
    cases b
    · simp only [S73_57, S73_58, S73, ↓XX, ↓reduceIte, Nat.reduceBEq, decide_true, decide_false, Bool.not_true, Bool.not_false, List.map_cons, List.map_nil, List.length_map, List.length_cons, List.length_nil, Nat.reduceAdd, Int.cast_ofNat_Int, Int.natCast_zero, Int.natCast_one, Bool.false_eq_true, Bool.true_eq_false, decide_eq_true_eq, eq_self, Int.reduceEq, Int.reduceLT, Int.reduceLE, Bool.and_true, Bool.true_and, Bool.and_false, Bool.false_and, Nat.zero_add, ↓iso_2 hu, ↓iso_2 hs]; exact ans_fv _ _
    · simp only [S73_57, S73_58, S73, ↓XX, ↓reduceIte, Nat.reduceBEq, decide_true, decide_false, Bool.not_true, Bool.not_false, List.map_cons, List.map_nil, List.length_map, List.length_cons, List.length_nil, Nat.reduceAdd, Int.cast_ofNat_Int, Int.natCast_zero, Int.natCast_one, Bool.false_eq_true, Bool.true_eq_false, decide_eq_true_eq, eq_self, Int.reduceEq, Int.reduceLT, Int.reduceLE, Bool.and_true, Bool.true_and, Bool.and_false, Bool.false_and, Nat.zero_add, ↓iso_2 hu, ↓iso_2 hs]; exact ans_fv _ _
  · rw [if_neg h0]
    obtain ⟨o1, n1, k1⟩ := t
    obtain ⟨o2, n2, k2⟩ := a
    obtain ⟨o3, n3, k3⟩ := u
    simp only [enc_mk] at hu hs ⊢
    simp only [S73_57, S73_58, S73, ↓XX, ↓reduceIte, Nat.reduceBEq, decide_true, decide_false, Bool.not_true, Bool.not_false, List.map_cons, List.map_nil, List.length_map, List.length_cons, List.length_nil, Nat.reduceAdd, Int.cast_ofNat_Int, Int.natCast_zero, Int.natCast_one, Bool.false_eq_true, Bool.true_eq_false, decide_eq_true_eq, eq_self, Int.reduceEq, Int.reduceLT, Int.reduceLE, Bool.and_true, Bool.true_and, Bool.and_false, Bool.false_and, Nat.zero_add, ↓iso_2 hu, h0]; exact ans_fv _ _
def AnsS (r : Option (IV × Hp)) (q : Int × Tm) (op : Int) : Prop := ∃ u v e, Ans r (.tuple [Tm.enc u, Tm.enc v, .int .i64 e]) ∧ (q.1 ≠ 0 → e = q.1) ∧ (q.1 = 0 → q.2.op ≠ op → e = 12) ∧ (q.1 = 0 → q.2.op = op → e = 0 ∧ u = q.2.kid 0 ∧ v = q.2.kid 1)
theorem shape_ok {n : Nat} {g : List Tm} {t : Tm} {op : Int} {q : Int × Tm} (h : AnsT (SS dt n 53 [.fv (.sl (g.map Tm.enc)), .fv t.enc] ⟨[], []⟩) q) (ht : q.1 = 0 → q.2.op = op → ∃ x y, q.2.kids = [x, y]) :
    AnsS (SS dt (n + 1) 108 [.fv (.sl (g.map Tm.enc)), .fv t.enc, iv op] ⟨[], []⟩) q op := by
  obtain ⟨u, hu, he⟩ := h
  obtain ⟨e, r⟩ := q
  simp only at hu he ht
  rw [c108]
  by_cases h0 : e = 0
  · have hur := he h0
    subst hur h0
    obtain ⟨o1, n1, k1⟩ := t
    obtain ⟨o3, n3, k3⟩ := u
    simp only [enc_mk, Tm.op, Tm.kids] at hu ht ⊢
    by_cases h1 : o3 = op
    · obtain ⟨x, y, rfl⟩ := ht trivial h1
      refine ⟨x, y, 0, ?_, fun h => absurd rfl h, fun _ h => absurd h1 h, fun _ _ => ⟨rfl, rfl, rfl⟩⟩
      subst h1
      obtain ⟨o4, n4, k4⟩ := x
      obtain ⟨o5, n5, k5⟩ := y
      simp only [List.map_cons, List.map_nil, enc_mk] at hu ⊢
      simp only [S108_76, S108_77, S108_78, S108_79, S108_80, S108_81, S108_82, S108_83, S108_84, S108, ↓XX, ↓reduceIte, Nat.reduceBEq, decide_true, decide_false, Bool.not_true, Bool.not_false, List.map_cons, List.map_nil, List.length_map, List.length_cons, List.length_nil, Nat.reduceAdd, Int.cast_ofNat_Int, Int.natCast_zero, Int.natCast_one, Bool.false_eq_true, Bool.true_eq_false, decide_eq_true_eq, eq_self, Int.reduceEq, Int.reduceLT, Int.reduceLE, Bool.and_true, Bool.true_and, Bool.and_false, Bool.false_and, Nat.zero_add, ↓iso_2 hu, ↓ixt0, ↓ixt1]; first | exact ans_fv _ _ | exact ans_t rfl (by simp) _
    · refine ⟨.z, .z, 12, ?_, fun h => absurd rfl h, fun _ _ => rfl, fun _ h => absurd h h1⟩
      simp only [S108_76, S108_77, S108_78, S108_79, S108_80, S108_81, S108_82, S108_83, S108_84, S108, ↓XX, ↓reduceIte, Nat.reduceBEq, decide_true, decide_false, Bool.not_true, Bool.not_false, List.map_cons, List.map_nil, List.length_map, List.length_cons, List.length_nil, Nat.reduceAdd, Int.cast_ofNat_Int, Int.natCast_zero, Int.natCast_one, Bool.false_eq_true, Bool.true_eq_false, decide_eq_true_eq, eq_self, Int.reduceEq, Int.reduceLT, Int.reduceLE, Bool.and_true, Bool.true_and, Bool.and_false, Bool.false_and, Nat.zero_add, ↓iso_2 hu, h1, Tm.z, enc_mk]; first | exact ans_fv _ _ | exact ans_t rfl (by simp) _
  · obtain ⟨o1, n1, k1⟩ := t
    obtain ⟨o3, n3, k3⟩ := u
    simp only [enc_mk] at hu ⊢
    refine ⟨.z, .z, e, ?_, fun h => rfl, fun h => absurd h h0, fun h => absurd h h0⟩
    simp only [S108_76, S108_77, S108_78, S108_79, S108_80, S108_81, S108_82, S108_83, S108_84, S108, ↓XX, ↓reduceIte, Nat.reduceBEq, decide_true, decide_false, Bool.not_true, Bool.not_false, List.map_cons, List.map_nil, List.length_map, List.length_cons, List.length_nil, Nat.reduceAdd, Int.cast_ofNat_Int, Int.natCast_zero, Int.natCast_one, Bool.false_eq_true, Bool.true_eq_false, decide_eq_true_eq, eq_self, Int.reduceEq, Int.reduceLT, Int.reduceLE, Bool.and_true, Bool.true_and, Bool.and_false, Bool.false_and, Nat.zero_add, ↓iso_2 hu, h0, Tm.z, enc_mk]; first | exact ans_fv _ _ | exact ans_t rfl (by simp) _
end Idl
end Go.Proofs.Ytdibmackcbpniaa

namespace Go.Proofs.Ytdibmackcbpniaa
namespace Idl
theorem kp_parts (ih : Handler) (xs : List IV) (h0 : Hp) (k : IV → Hp → List Ref → List Ref → Option (IV × Hp)) : dynS EE ih (.fv (.func (.func 76) [] [])) xs h0 k = isoS [] false false ih 76 xs h0 k :=
  keep0 (by kernel_rfl) (by kernel_rfl) (by kernel_rfl) (by kernel_rfl) ..
abbrev InfAt (n : Nat) (g : List Tm) (t : Tm) : Prop := AnsT (SS dt n 53 [.fv (.sl (g.map Tm.enc)), .fv t.enc] ⟨[], []⟩) (t.inf g)
set_option maxRecDepth 20000 in
theorem binder_ok {n : Nat} {g : List Tm} {op m : Int} {a b : Tm} (ho : op = 20 ∨ op = 29) (hg : g.length ≤ 900000) (hn : a.wt + 3 < n) (ih : a.typed = true → InfAt n (g ++ [a]) b)
    (ihc : a.typed = true → Ans (SS dt n 73 [.fv (.sl ((g ++ [a]).map Tm.enc)), .fv b.enc, .fv a.enc] ⟨[], []⟩) (.int .i64 (chkT (b.inf (g ++ [a])) a)))
    (hb : a.typed = true → (b.inf (g ++ [a])).1 = 0 → 2 * (2 + a.wt + (b.inf (g ++ [a])).2.wt) + 4 < n) :
    AnsT (SS dt (n + 1) 74 [.fv (.sl (g.map Tm.enc)), .fv (Tm.mk op m [a, b]).enc] ⟨[], []⟩) ((Tm.mk op m [a, b]).inf g) := by
  rw [c74, Tm.inf]
  have hty := typed_ok n a (by omega)
  have hw := with_ok (n := n) g a hg (by omega)
  cases hta : a.typed
  · rw [hta] at hty
    have : (Tm.mk op m [a, b]).inf g = (10, .z) := by rcases ho with rfl | rfl <;> simp [Tm.inf, hta]
    rw [Tm.inf] at this
    simp only [hta] at this
    simp only [this]
    refine ansTe (u := .z) ?_ (by decide)
    obtain ⟨o1, n1, k1⟩ := a
    obtain ⟨o2, n2, k2⟩ := b
    simp only [enc_mk, Tm.z, List.map_cons, List.map_nil] at hty ⊢
    simp only [S74_116, S74_117, S74_118, S74_119, S74_120, S74_121, S74_122, S74_123, S74_124, S74_125, S74_126, S74_127, S74_128, S74_129, S74, ↓XX, ↓reduceIte, Nat.reduceBEq, decide_true, decide_false, Bool.not_true, Bool.not_false, List.map_cons, List.map_nil, List.length_map, List.length_cons, List.length_nil, Nat.reduceAdd, Int.cast_ofNat_Int, Int.natCast_zero, Int.natCast_one, Bool.false_eq_true, Bool.true_eq_false, decide_eq_true_eq, eq_self, Int.reduceEq, Int.reduceLT, Int.reduceLE, Bool.and_true, Bool.true_and, Bool.and_false, Bool.false_and, Nat.zero_add, ↓ixt0, ↓ixt1, ↓iso_1 hty]; first | exact ans_fv _ _ | exact ans_t rfl (by simp) _
  · rw [hta] at hty
    rcases ho with rfl | rfl
    · obtain ⟨u, hu, he⟩ := ih hta
      have hbb := hb hta
      simp only [if_true, Int.reduceEq, if_false, madeM]
      generalize b.inf (g ++ [a]) = q at hu he hbb ⊢
      obtain ⟨e, r⟩ := q
      simp only at hu he hbb ⊢
      have hof := of_ok (n := n) (by omega) 16 [a, u]
      have hm := made_ok (n := n) (.mk 16 0 [a, u]) e (by omega) (fun h => by have := he h; subst this; have := hbb h; simp only [Tm.wt, Tm.wtL]; omega)
      refine ⟨.mk 16 0 [a, u], ?_, fun h0 => ?_⟩
      · have e1 : (if e = 0 then (((Tm.mk 16 0 [a, r]).chk 0 1).2, Tm.mk 16 0 [a, r]) else (e, .z)).1 = (if e = 0 then ((Tm.mk 16 0 [a, u]).chk 0 1).2 else e) := by
          by_cases h : e = 0
          · rw [if_pos h, if_pos h, he h]
          · rw [if_neg h, if_neg h]
        rw [e1]
        generalize (if e = 0 then ((Tm.mk 16 0 [a, u]).chk 0 1).2 else e) = w at hm ⊢
        obtain ⟨o1, n1, k1⟩ := a
        obtain ⟨o2, n2, k2⟩ := b
        obtain ⟨o3, n3, k3⟩ := u
        simp only [enc_mk, List.map_cons, List.map_nil, List.map_append] at hty hw hu hof hm ⊢
        simp only [S74_116, S74_117, S74_118, S74_119, S74_120, S74_121, S74_122, S74_123, S74_124, S74_125, S74_126, S74_127, S74_128, S74_129, S74, ↓XX, ↓reduceIte, Nat.reduceBEq, decide_true, decide_false, Bool.not_true, Bool.not_false, List.map_cons, List.map_nil, List.length_map, List.length_cons, List.length_nil, Nat.reduceAdd, Int.cast_ofNat_Int, Int.natCast_zero, Int.natCast_one, Bool.false_eq_true, Bool.true_eq_false, decide_eq_true_eq, eq_self, Int.reduceEq, Int.reduceLT, Int.reduceLE, Bool.and_true, Bool.true_and, Bool.and_false, Bool.false_and, Nat.zero_add, ↓ixt0, ↓ixt1, ↓iso_1 hty, ↓iso_2 hw, ↓iso_2 hu, ↓bs2_g, ↓iso_2 hof, ↓iso_2 hm]; first | exact ans_fv _ _ | exact ans_t rfl (by simp) _
      · by_cases h : e = 0
        · rw [if_pos h, he h]
        · rw [if_neg h] at h0; exact absurd h0 h
    · have hc := ihc hta
      simp only [if_true, Int.reduceEq, if_false]
      refine ansT ?_
      generalize chkT (b.inf (g ++ [a])) a = w at hc ⊢
      obtain ⟨o1, n1, k1⟩ := a
      obtain ⟨o2, n2, k2⟩ := b
      simp only [enc_mk, List.map_cons, List.map_nil, List.map_append] at hty hw hc ⊢
      simp only [S74_116, S74_117, S74_118, S74_119, S74_120, S74_121, S74_122, S74_123, S74_124, S74_125, S74_126, S74_127, S74_128, S74_129, S74, ↓XX, ↓reduceIte, Nat.reduceBEq, decide_true, decide_false, Bool.not_true, Bool.not_false, List.map_cons, List.map_nil, List.length_map, List.length_cons, List.length_nil, Nat.reduceAdd, Int.cast_ofNat_Int, Int.natCast_zero, Int.natCast_one, Bool.false_eq_true, Bool.true_eq_false, decide_eq_true_eq, eq_self, Int.reduceEq, Int.reduceLT, Int.reduceLE, Bool.and_true, Bool.true_and, Bool.and_false, Bool.false_and, Nat.zero_add, ↓ixt0, ↓ixt1, ↓iso_1 hty, ↓iso_2 hw, ↓iso_3 hc]; first | exact ans_fv _ _ | exact ans_t rfl (by simp) _
theorem parts_o {n : Nat} {g : List Tm} {op m : Int} {l : List Tm} (h1 : op ≠ 22) (h2 : op ≠ 21) (h3 : op ≠ 23) (h4 : op ≠ 24) : Ans (SS dt (n + 1) 76 [.fv (.sl (g.map Tm.enc)), .fv (Tm.mk op m l).enc] ⟨[], []⟩) (.tuple [Tm.z.enc, .int .i64 10]) := by
  rw [c76, enc_mk]
  simp only [S76_191, S76_192, S76_193, S76_194, S76_195, S76_196, S76_197, S76_198, S76_199, S76_200, S76_201, S76_202, S76_203, S76_204, S76_205, S76_206, S76_207, S76_208, S76_209, S76_210, S76_211, S76, ↓XX, ↓reduceIte, Nat.reduceBEq, decide_true, decide_false, Bool.not_true, Bool.not_false, List.map_cons, List.map_nil, List.length_map, List.length_cons, List.length_nil, Nat.reduceAdd, Int.cast_ofNat_Int, Int.natCast_zero, Int.natCast_one, Bool.false_eq_true, Bool.true_eq_false, decide_eq_true_eq, eq_self, Int.reduceEq, Int.reduceLT, Int.reduceLE, Bool.and_true, Bool.true_and, Bool.and_false, Bool.false_and, Nat.zero_add, h1, h2, h3, h4, Tm.z, enc_mk]; first | exact ans_fv _ _ | exact ans_t rfl (by simp) _
theorem parts_f {n : Nat} {g : List Tm} {op m : Int} {a : Tm} (ho : op = 23 ∨ op = 24) (hs : AnsS (SS dt n 108 [.fv (.sl (g.map Tm.enc)), .fv a.enc, iv 17] ⟨[], []⟩) (a.inf g) 17) :
    AnsT (SS dt (n + 1) 76 [.fv (.sl (g.map Tm.enc)), .fv (Tm.mk op m [a]).enc] ⟨[], []⟩) ((Tm.mk op m [a]).inf g) := by
  rw [c76, Tm.inf]
  obtain ⟨u, v, e, hu, he1, he2, he3⟩ := hs
  generalize a.inf g = q at he1 he2 he3 ⊢
  obtain ⟨e', r⟩ := q
  simp only at he1 he2 he3 ⊢
  rcases ho with rfl | rfl
  · simp only [if_true]
    refine ⟨u, ?_, ?_⟩
    · have : (if e' = 0 then if r.op = 17 then ((0 : Int), r.kid 0) else (12, .z) else (e', .z)).1 = e := by
        by_cases h : e' = 0
        · rw [if_pos h]
          by_cases h2 : r.op = 17
          · rw [if_pos h2, (he3 h h2).1]
          · rw [if_neg h2, he2 h h2]
        · rw [if_neg h, he1 h]
      rw [this]
      obtain ⟨o1, n1, k1⟩ := a
      obtain ⟨o2, n2, k2⟩ := u
      obtain ⟨o3, n3, k3⟩ := v
      simp only [enc_mk, List.map_cons, List.map_nil] at hu ⊢
      simp only [S76_191, S76_192, S76_193, S76_194, S76_195, S76_196, S76_197, S76_198, S76_199, S76_200, S76_201, S76_202, S76_203, S76_204, S76_205, S76_206, S76_207, S76_208, S76_209, S76_210, S76_211, S76, ↓XX, ↓reduceIte, Nat.reduceBEq, decide_true, decide_false, Bool.not_true, Bool.not_false, List.map_cons, List.map_nil, List.length_map, List.length_cons, List.length_nil, Nat.reduceAdd, Int.cast_ofNat_Int, Int.natCast_zero, Int.natCast_one, Bool.false_eq_true, Bool.true_eq_false, decide_eq_true_eq, eq_self, Int.reduceEq, Int.reduceLT, Int.reduceLE, Bool.and_true, Bool.true_and, Bool.and_false, Bool.false_and, Nat.zero_add, ↓ixt0, ↓iso_3 hu]; first | exact ans_fv _ _ | exact ans_t rfl (by simp) _
    · intro h0
      by_cases h : e' = 0
      · rw [if_pos h] at h0 ⊢
        by_cases h2 : r.op = 17
        · rw [if_pos h2, (he3 h h2).2.1]
        · rw [if_neg h2] at h0; cases h0
      · rw [if_neg h] at h0; exact absurd h0 h
  · simp only [Int.reduceEq, if_false, if_true]
    refine ⟨v, ?_, ?_⟩
    · have : (if e' = 0 then if r.op = 17 then ((0 : Int), r.kid 1) else (12, .z) else (e', .z)).1 = e := by
        by_cases h : e' = 0
        · rw [if_pos h]
          by_cases h2 : r.op = 17
          · rw [if_pos h2, (he3 h h2).1]
          · rw [if_neg h2, he2 h h2]
        · rw [if_neg h, he1 h]
      rw [this]
      obtain ⟨o1, n1, k1⟩ := a
      obtain ⟨o2, n2, k2⟩ := u
      obtain ⟨o3, n3, k3⟩ := v
      simp only [enc_mk, List.map_cons, List.map_nil] at hu ⊢
      simp only [S76_191, S76_192, S76_193, S76_194, S76_195, S76_196, S76_197, S76_198, S76_199, S76_200, S76_201, S76_202, S76_203, S76_204, S76_205, S76_206, S76_207, S76_208, S76_209, S76_210, S76_211, S76, ↓XX, ↓reduceIte, Nat.reduceBEq, decide_true, decide_false, Bool.not_true, Bool.not_false, List.map_cons, List.map_nil, List.length_map, List.length_cons, List.length_nil, Nat.reduceAdd, Int.cast_ofNat_Int, Int.natCast_zero, Int.natCast_one, Bool.false_eq_true, Bool.true_eq_false, decide_eq_true_eq, eq_self, Int.reduceEq, Int.reduceLT, Int.reduceLE, Bool.and_true, Bool.true_and, Bool.and_false, Bool.false_and, Nat.zero_add, ↓ixt0, ↓iso_3 hu]; first | exact ans_fv _ _ | exact ans_t rfl (by simp) _
    · intro h0
      by_cases h : e' = 0
      · rw [if_pos h] at h0 ⊢
        by_cases h2 : r.op = 17
        · rw [if_pos h2, (he3 h h2).2.2]
        · rw [if_neg h2] at h0; cases h0
      · rw [if_neg h] at h0; exact absurd h0 h
set_option maxRecDepth 20000 in
theorem parts_a {n : Nat} {g : List Tm} {m : Int} {a b : Tm} (hs : AnsS (SS dt n 108 [.fv (.sl (g.map Tm.enc)), .fv a.enc, iv 16] ⟨[], []⟩) (a.inf g) 16)
    (hc : (a.inf g).1 = 0 → (a.inf g).2.op = 16 → Ans (SS dt n 73 [.fv (.sl (g.map Tm.enc)), .fv b.enc, .fv ((a.inf g).2.kid 0).enc] ⟨[], []⟩) (.int .i64 (chkT (b.inf g) ((a.inf g).2.kid 0)))) :
    AnsT (SS dt (n + 1) 76 [.fv (.sl (g.map Tm.enc)), .fv (Tm.mk 21 m [a, b]).enc] ⟨[], []⟩) ((Tm.mk 21 m [a, b]).inf g) := by
  rw [c76, Tm.inf]
  obtain ⟨u, v, e, hu, he1, he2, he3⟩ := hs
  simp only [Int.reduceEq, if_false, if_true]
  generalize a.inf g = q at he1 he2 he3 hc ⊢
  obtain ⟨e', r⟩ := q
  simp only at he1 he2 he3 hc ⊢
  have hfail : e ≠ 0 → AnsT (S76 (SS dt n) n (.fv (.sl (g.map Tm.enc))) (.fv (Tm.mk 21 m [a, b]).enc) ⟨[], []⟩) (e, .z) := by
    intro h0
    refine ansTe (u := .z) ?_ h0
    obtain ⟨o1, n1, k1⟩ := a
    obtain ⟨o2, n2, k2⟩ := u
    obtain ⟨o3, n3, k3⟩ := v
    simp only [enc_mk, List.map_cons, List.map_nil] at hu ⊢
    simp only [S76_191, S76_192, S76_193, S76_194, S76_195, S76_196, S76_197, S76_198, S76_199, S76_200, S76_201, S76_202, S76_203, S76_204, S76_205, S76_206, S76_207, S76_208, S76_209, S76_210, S76_211, S76, ↓XX, ↓reduceIte, Nat.reduceBEq, decide_true, decide_false, Bool.not_true, Bool.not_false, List.map_cons, List.map_nil, List.length_map, List.length_cons, List.length_nil, Nat.reduceAdd, Int.cast_ofNat_Int, Int.natCast_zero, Int.natCast_one, Bool.false_eq_true, Bool.true_eq_false, decide_eq_true_eq, eq_self, Int.reduceEq, Int.reduceLT, Int.reduceLE, Bool.and_true, Bool.true_and, Bool.and_false, Bool.false_and, Nat.zero_add, ↓ixt0, ↓iso_3 hu, h0, Tm.z, enc_mk]; first | exact ans_fv _ _ | exact ans_t rfl (by simp) _
  by_cases h : e' = 0
  · rw [if_pos h]
    by_cases h2 : r.op = 16
    · rw [if_pos h2]
      have hcc := hc h h2
      obtain ⟨h3, h4, h5⟩ := he3 h h2
      rw [← h4] at hcc ⊢
      rw [← h5]
      subst h3
      refine ansT ?_
      generalize chkT (b.inf g) u = w at hcc ⊢
      obtain ⟨o1, n1, k1⟩ := a
      obtain ⟨o2, n2, k2⟩ := u
      obtain ⟨o3, n3, k3⟩ := v
      obtain ⟨o4, n4, k4⟩ := b
      simp only [enc_mk, List.map_cons, List.map_nil] at hu hcc ⊢
      simp only [S76_191, S76_192, S76_193, S76_194, S76_195, S76_196, S76_197, S76_198, S76_199, S76_200, S76_201, S76_202, S76_203, S76_204, S76_205, S76_206, S76_207, S76_208, S76_209, S76_210, S76_211, S76, ↓XX, ↓reduceIte, Nat.reduceBEq, decide_true, decide_false, Bool.not_true, Bool.not_false, List.map_cons, List.map_nil, List.length_map, List.length_cons, List.length_nil, Nat.reduceAdd, Int.cast_ofNat_Int, Int.natCast_zero, Int.natCast_one, Bool.false_eq_true, Bool.true_eq_false, decide_eq_true_eq, eq_self, Int.reduceEq, Int.reduceLT, Int.reduceLE, Bool.and_true, Bool.true_and, Bool.and_false, Bool.false_and, Nat.zero_add, ↓ixt0, ↓ixt1, ↓iso_3 hu, ↓iso_3 hcc]; first | exact ans_fv _ _ | exact ans_t rfl (by simp) _
    · rw [if_neg h2]
      have := he2 h h2
      subst this
      exact hfail (by decide)
  · rw [if_neg h]
    have := he1 h
    subst this
    exact hfail h
set_option maxRecDepth 20000 in
theorem parts_p {n : Nat} {g : List Tm} {m : Int} {a b : Tm} (hn : 3 < n) (ha : InfAt n g a) (hb : (a.inf g).1 = 0 → InfAt n g b) (hw : (a.inf g).1 = 0 → (b.inf g).1 = 0 → 2 * (2 + (a.inf g).2.wt + (b.inf g).2.wt) + 4 < n) :
    AnsT (SS dt (n + 1) 76 [.fv (.sl (g.map Tm.enc)), .fv (Tm.mk 22 m [a, b]).enc] ⟨[], []⟩) ((Tm.mk 22 m [a, b]).inf g) := by
  rw [c76, Tm.inf]
  obtain ⟨u, hu, he⟩ := ha
  simp only [Int.reduceEq, if_false, if_true]
  generalize a.inf g = q at hu he hw hb ⊢
  obtain ⟨e, r⟩ := q
  simp only at hu he hw hb ⊢
  by_cases h : e = 0
  · rw [if_pos h]
    have := he h
    subst this
    subst h
    obtain ⟨v, hv, hve⟩ := hb rfl
    have hw := hw rfl
    unfold madeM
    generalize b.inf g = q at hv hve hw ⊢
    obtain ⟨e, r⟩ := q
    simp only at hv hve hw ⊢
    have hof := of_ok (n := n) (by omega) 17 [u, v]
    have hm := made_ok (n := n) (.mk 17 0 [u, v]) e (by omega) (fun h => by have := hve h; subst this; have := hw h; simp only [Tm.wt, Tm.wtL]; omega)
    refine ⟨.mk 17 0 [u, v], ?_, fun h0 => ?_⟩
    · have e1 : (if e = 0 then (((Tm.mk 17 0 [u, r]).chk 0 1).2, Tm.mk 17 0 [u, r]) else (e, .z)).1 = (if e = 0 then ((Tm.mk 17 0 [u, v]).chk 0 1).2 else e) := by
        by_cases h : e = 0
        · rw [if_pos h, if_pos h, hve h]
        · rw [if_neg h, if_neg h]
      rw [e1]
      generalize (if e = 0 then ((Tm.mk 17 0 [u, v]).chk 0 1).2 else e) = w at hm ⊢
      obtain ⟨o1, n1, k1⟩ := a
      obtain ⟨o2, n2, k2⟩ := b
      obtain ⟨o3, n3, k3⟩ := u
      obtain ⟨o4, n4, k4⟩ := v
      simp only [enc_mk, List.map_cons, List.map_nil] at hu hv hof hm ⊢
      simp only [S76_191, S76_192, S76_193, S76_194, S76_195, S76_196, S76_197, S76_198, S76_199, S76_200, S76_201, S76_202, S76_203, S76_204, S76_205, S76_206, S76_207, S76_208, S76_209, S76_210, S76_211, S76, ↓XX, ↓reduceIte, Nat.reduceBEq, decide_true, decide_false, Bool.not_true, Bool.not_false, List.map_cons, List.map_nil, List.length_map, List.length_cons, List.length_nil, Nat.reduceAdd, Int.cast_ofNat_Int, Int.natCast_zero, Int.natCast_one, Bool.false_eq_true, Bool.true_eq_false, decide_eq_true_eq, eq_self, Int.reduceEq, Int.reduceLT, Int.reduceLE, Bool.and_true, Bool.true_and, Bool.and_false, Bool.false_and, Nat.zero_add, ↓ixt0, ↓ixt1, ↓iso_2 hu, ↓iso_2 hv, ↓bs2_g, ↓iso_2 hof, ↓iso_2 hm]; first | exact ans_fv _ _ | exact ans_t rfl (by simp) _
    · by_cases h : e = 0
      · rw [if_pos h, hve h]
      · rw [if_neg h] at h0; exact absurd h0 h
  · rw [if_neg h]
    refine ansTe (u := .z) ?_ h
    obtain ⟨o1, n1, k1⟩ := a
    obtain ⟨o2, n2, k2⟩ := b
    obtain ⟨o3, n3, k3⟩ := u
    simp only [enc_mk, List.map_cons, List.map_nil] at hu ⊢
    simp only [S76_191, S76_192, S76_193, S76_194, S76_195, S76_196, S76_197, S76_198, S76_199, S76_200, S76_201, S76_202, S76_203, S76_204, S76_205, S76_206, S76_207, S76_208, S76_209, S76_210, S76_211, S76, ↓XX, ↓reduceIte, Nat.reduceBEq, decide_true, decide_false, Bool.not_true, Bool.not_false, List.map_cons, List.map_nil, List.length_map, List.length_cons, List.length_nil, Nat.reduceAdd, Int.cast_ofNat_Int, Int.natCast_zero, Int.natCast_one, Bool.false_eq_true, Bool.true_eq_false, decide_eq_true_eq, eq_self, Int.reduceEq, Int.reduceLT, Int.reduceLE, Bool.and_true, Bool.true_and, Bool.and_false, Bool.false_and, Nat.zero_add, ↓ixt0, ↓ixt1, ↓iso_2 hu, h, Tm.z, enc_mk]; first | exact ans_fv _ _ | exact ans_t rfl (by simp) _
end Idl
end Go.Proofs.Ytdibmackcbpniaa


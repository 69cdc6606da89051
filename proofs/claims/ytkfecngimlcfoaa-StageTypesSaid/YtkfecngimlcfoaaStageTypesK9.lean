/-
  Texts of a proof, part 9: an ideal semantics of the program, its functions in shallow form, contracts of them. No statement of the seat is proved here.
-/
import Derived.KernelRfl
import Derived.Test.YtkfecngimlcfoaaStageTypesK8
set_option linter.all false
namespace Go.Proofs.Ytkfecngimlcfoaa
namespace Idl
theorem call_0 {f : Nat} {G : Handler → Nat → Hp → Option (IV × Hp)} (e : dt.call f = fun ih n => ar0 (G ih n)) (n : Nat) (h : Hp) : SS dt (n + 1) f [] h = G (SS dt n) n  h := by
  show dt.call f (SS dt n) n _ h = _
  rw [e]
  rfl
theorem call_1 {f : Nat} {G : Handler → Nat → IV → Hp → Option (IV × Hp)} (e : dt.call f = fun ih n => ar1 (G ih n)) (n : Nat) (a0 : IV) (h : Hp) : SS dt (n + 1) f [a0] h = G (SS dt n) n a0 h := by
  show dt.call f (SS dt n) n _ h = _
  rw [e]
  rfl
theorem call_2 {f : Nat} {G : Handler → Nat → IV → IV → Hp → Option (IV × Hp)} (e : dt.call f = fun ih n => ar2 (G ih n)) (n : Nat) (a0 a1 : IV) (h : Hp) : SS dt (n + 1) f [a0, a1] h = G (SS dt n) n a0 a1 h := by
  show dt.call f (SS dt n) n _ h = _
  rw [e]
  rfl
theorem call_3 {f : Nat} {G : Handler → Nat → IV → IV → IV → Hp → Option (IV × Hp)} (e : dt.call f = fun ih n => ar3 (G ih n)) (n : Nat) (a0 a1 a2 : IV) (h : Hp) : SS dt (n + 1) f [a0, a1, a2] h = G (SS dt n) n a0 a1 a2 h := by
  show dt.call f (SS dt n) n _ h = _
  rw [e]
  rfl
theorem call_4 {f : Nat} {G : Handler → Nat → IV → IV → IV → IV → Hp → Option (IV × Hp)} (e : dt.call f = fun ih n => ar4 (G ih n)) (n : Nat) (a0 a1 a2 a3 : IV) (h : Hp) : SS dt (n + 1) f [a0, a1, a2, a3] h = G (SS dt n) n a0 a1 a2 a3 h := by
  show dt.call f (SS dt n) n _ h = _
  rw [e]
  rfl
theorem c6 (n : Nat) (a0 a1 : IV) (h : Hp) : SS dt (n + 1) 6 [a0, a1] h = S6 (SS dt n) n a0 a1 h := call_2 (show dt.call 6 = fun ih n => ar2 (S6 ih n) by kernel_rfl) ..
theorem c12 (n : Nat) (a0 : IV) (h : Hp) : SS dt (n + 1) 12 [a0] h = S12 (SS dt n) n a0 h := call_1 (show dt.call 12 = fun ih n => ar1 (S12 ih n) by kernel_rfl) ..
theorem c16 (n : Nat) (a0 : IV) (h : Hp) : SS dt (n + 1) 16 [a0] h = S16 (SS dt n) n a0 h := call_1 (show dt.call 16 = fun ih n => ar1 (S16 ih n) by kernel_rfl) ..
theorem c17 (n : Nat) (a0 a1 : IV) (h : Hp) : SS dt (n + 1) 17 [a0, a1] h = S17 (SS dt n) n a0 a1 h := call_2 (show dt.call 17 = fun ih n => ar2 (S17 ih n) by kernel_rfl) ..
theorem c18 (n : Nat) (a0 : IV) (h : Hp) : SS dt (n + 1) 18 [a0] h = S18 (SS dt n) n a0 h := call_1 (show dt.call 18 = fun ih n => ar1 (S18 ih n) by kernel_rfl) ..
theorem c19 (n : Nat) (a0 a1 : IV) (h : Hp) : SS dt (n + 1) 19 [a0, a1] h = S19 (SS dt n) n a0 a1 h := call_2 (show dt.call 19 = fun ih n => ar2 (S19 ih n) by kernel_rfl) ..
theorem c23 (n : Nat) (a0 a1 : IV) (h : Hp) : SS dt (n + 1) 23 [a0, a1] h = S23 (SS dt n) n a0 a1 h := call_2 (show dt.call 23 = fun ih n => ar2 (S23 ih n) by kernel_rfl) ..
theorem c24 (n : Nat) (a0 a1 : IV) (h : Hp) : SS dt (n + 1) 24 [a0, a1] h = S24 (SS dt n) n a0 a1 h := call_2 (show dt.call 24 = fun ih n => ar2 (S24 ih n) by kernel_rfl) ..
theorem c25 (n : Nat) (a0 : IV) (h : Hp) : SS dt (n + 1) 25 [a0] h = S25 (SS dt n) n a0 h := call_1 (show dt.call 25 = fun ih n => ar1 (S25 ih n) by kernel_rfl) ..
theorem c27 (n : Nat) (a0 : IV) (h : Hp) : SS dt (n + 1) 27 [a0] h = S27 (SS dt n) n a0 h := call_1 (show dt.call 27 = fun ih n => ar1 (S27 ih n) by kernel_rfl) ..
theorem c28 (n : Nat) (a0 a1 : IV) (h : Hp) : SS dt (n + 1) 28 [a0, a1] h = S28 (SS dt n) n a0 a1 h := call_2 (show dt.call 28 = fun ih n => ar2 (S28 ih n) by kernel_rfl) ..
theorem c29 (n : Nat) (a0 : IV) (h : Hp) : SS dt (n + 1) 29 [a0] h = S29 (SS dt n) n a0 h := call_1 (show dt.call 29 = fun ih n => ar1 (S29 ih n) by kernel_rfl) ..
theorem c35 (n : Nat) (a0 : IV) (h : Hp) : SS dt (n + 1) 35 [a0] h = S35 (SS dt n) n a0 h := call_1 (show dt.call 35 = fun ih n => ar1 (S35 ih n) by kernel_rfl) ..
theorem c36 (n : Nat) (a0 a1 : IV) (h : Hp) : SS dt (n + 1) 36 [a0, a1] h = S36 (SS dt n) n a0 a1 h := call_2 (show dt.call 36 = fun ih n => ar2 (S36 ih n) by kernel_rfl) ..
theorem c40 (n : Nat) (a0 : IV) (h : Hp) : SS dt (n + 1) 40 [a0] h = S40 (SS dt n) n a0 h := call_1 (show dt.call 40 = fun ih n => ar1 (S40 ih n) by kernel_rfl) ..
theorem c41 (n : Nat) (a0 : IV) (h : Hp) : SS dt (n + 1) 41 [a0] h = S41 (SS dt n) n a0 h := call_1 (show dt.call 41 = fun ih n => ar1 (S41 ih n) by kernel_rfl) ..
theorem c42 (n : Nat) (a0 a1 : IV) (h : Hp) : SS dt (n + 1) 42 [a0, a1] h = S42 (SS dt n) n a0 a1 h := call_2 (show dt.call 42 = fun ih n => ar2 (S42 ih n) by kernel_rfl) ..
theorem c43 (n : Nat) (a0 a1 : IV) (h : Hp) : SS dt (n + 1) 43 [a0, a1] h = S43 (SS dt n) n a0 a1 h := call_2 (show dt.call 43 = fun ih n => ar2 (S43 ih n) by kernel_rfl) ..
theorem c52 (n : Nat) (a0 : IV) (h : Hp) : SS dt (n + 1) 52 [a0] h = S52 (SS dt n) n a0 h := call_1 (show dt.call 52 = fun ih n => ar1 (S52 ih n) by kernel_rfl) ..
theorem c55 (n : Nat) (a0 a1 : IV) (h : Hp) : SS dt (n + 1) 55 [a0, a1] h = S55 (SS dt n) n a0 a1 h := call_2 (show dt.call 55 = fun ih n => ar2 (S55 ih n) by kernel_rfl) ..
theorem c56 (n : Nat) (a0 a1 : IV) (h : Hp) : SS dt (n + 1) 56 [a0, a1] h = S56 (SS dt n) n a0 a1 h := call_2 (show dt.call 56 = fun ih n => ar2 (S56 ih n) by kernel_rfl) ..
theorem c63 (n : Nat) (a0 a1 a2 : IV) (h : Hp) : SS dt (n + 1) 63 [a0, a1, a2] h = S63 (SS dt n) n a0 a1 a2 h := call_3 (show dt.call 63 = fun ih n => ar3 (S63 ih n) by kernel_rfl) ..
theorem c68 (n : Nat) (a0 a1 a2 : IV) (h : Hp) : SS dt (n + 1) 68 [a0, a1, a2] h = S68 (SS dt n) n a0 a1 a2 h := call_3 (show dt.call 68 = fun ih n => ar3 (S68 ih n) by kernel_rfl) ..
theorem c69 (n : Nat) (a0 : IV) (h : Hp) : SS dt (n + 1) 69 [a0] h = S69 (SS dt n) n a0 h := call_1 (show dt.call 69 = fun ih n => ar1 (S69 ih n) by kernel_rfl) ..
theorem c70 (n : Nat) (h : Hp) : SS dt (n + 1) 70 [] h = S70 (SS dt n) n  h := call_0 (show dt.call 70 = fun ih n => ar0 (S70 ih n) by kernel_rfl) ..
theorem c71 (n : Nat) (a0 a1 a2 : IV) (h : Hp) : SS dt (n + 1) 71 [a0, a1, a2] h = S71 (SS dt n) n a0 a1 a2 h := call_3 (show dt.call 71 = fun ih n => ar3 (S71 ih n) by kernel_rfl) ..
theorem c72 (n : Nat) (a0 a1 a2 a3 : IV) (h : Hp) : SS dt (n + 1) 72 [a0, a1, a2, a3] h = S72 (SS dt n) n a0 a1 a2 a3 h := call_4 (show dt.call 72 = fun ih n => ar4 (S72 ih n) by kernel_rfl) ..
theorem c73 (n : Nat) (a0 a1 : IV) (h : Hp) : SS dt (n + 1) 73 [a0, a1] h = S73 (SS dt n) n a0 a1 h := call_2 (show dt.call 73 = fun ih n => ar2 (S73 ih n) by kernel_rfl) ..
theorem c74 (n : Nat) (a0 a1 : IV) (h : Hp) : SS dt (n + 1) 74 [a0, a1] h = S74 (SS dt n) n a0 a1 h := call_2 (show dt.call 74 = fun ih n => ar2 (S74 ih n) by kernel_rfl) ..
theorem c75 (n : Nat) (a0 a1 a2 : IV) (h : Hp) : SS dt (n + 1) 75 [a0, a1, a2] h = S75 (SS dt n) n a0 a1 a2 h := call_3 (show dt.call 75 = fun ih n => ar3 (S75 ih n) by kernel_rfl) ..
theorem c76 (n : Nat) (a0 a1 : IV) (h : Hp) : SS dt (n + 1) 76 [a0, a1] h = S76 (SS dt n) n a0 a1 h := call_2 (show dt.call 76 = fun ih n => ar2 (S76 ih n) by kernel_rfl) ..
theorem c77 (n : Nat) (a0 a1 : IV) (h : Hp) : SS dt (n + 1) 77 [a0, a1] h = S77 (SS dt n) n a0 a1 h := call_2 (show dt.call 77 = fun ih n => ar2 (S77 ih n) by kernel_rfl) ..
theorem c89 (n : Nat) (a0 a1 : IV) (h : Hp) : SS dt (n + 1) 89 [a0, a1] h = S89 (SS dt n) n a0 a1 h := call_2 (show dt.call 89 = fun ih n => ar2 (S89 ih n) by kernel_rfl) ..
theorem c91 (n : Nat) (a0 : IV) (h : Hp) : SS dt (n + 1) 91 [a0] h = S91 (SS dt n) n a0 h := call_1 (show dt.call 91 = fun ih n => ar1 (S91 ih n) by kernel_rfl) ..
theorem c92 (n : Nat) (a0 a1 : IV) (h : Hp) : SS dt (n + 1) 92 [a0, a1] h = S92 (SS dt n) n a0 a1 h := call_2 (show dt.call 92 = fun ih n => ar2 (S92 ih n) by kernel_rfl) ..
theorem c93 (n : Nat) (a0 : IV) (h : Hp) : SS dt (n + 1) 93 [a0] h = S93 (SS dt n) n a0 h := call_1 (show dt.call 93 = fun ih n => ar1 (S93 ih n) by kernel_rfl) ..
theorem c94 (n : Nat) (a0 a1 : IV) (h : Hp) : SS dt (n + 1) 94 [a0, a1] h = S94 (SS dt n) n a0 a1 h := call_2 (show dt.call 94 = fun ih n => ar2 (S94 ih n) by kernel_rfl) ..
theorem c95 (n : Nat) (a0 a1 : IV) (h : Hp) : SS dt (n + 1) 95 [a0, a1] h = S95 (SS dt n) n a0 a1 h := call_2 (show dt.call 95 = fun ih n => ar2 (S95 ih n) by kernel_rfl) ..
theorem c96 (n : Nat) (a0 a1 : IV) (h : Hp) : SS dt (n + 1) 96 [a0, a1] h = S96 (SS dt n) n a0 a1 h := call_2 (show dt.call 96 = fun ih n => ar2 (S96 ih n) by kernel_rfl) ..
theorem c97 (n : Nat) (a0 a1 : IV) (h : Hp) : SS dt (n + 1) 97 [a0, a1] h = S97 (SS dt n) n a0 a1 h := call_2 (show dt.call 97 = fun ih n => ar2 (S97 ih n) by kernel_rfl) ..
theorem c98 (n : Nat) (a0 a1 : IV) (h : Hp) : SS dt (n + 1) 98 [a0, a1] h = S98 (SS dt n) n a0 a1 h := call_2 (show dt.call 98 = fun ih n => ar2 (S98 ih n) by kernel_rfl) ..
theorem c99 (n : Nat) (a0 : IV) (h : Hp) : SS dt (n + 1) 99 [a0] h = S99 (SS dt n) n a0 h := call_1 (show dt.call 99 = fun ih n => ar1 (S99 ih n) by kernel_rfl) ..
theorem c100 (n : Nat) (a0 a1 : IV) (h : Hp) : SS dt (n + 1) 100 [a0, a1] h = S100 (SS dt n) n a0 a1 h := call_2 (show dt.call 100 = fun ih n => ar2 (S100 ih n) by kernel_rfl) ..
theorem c101 (n : Nat) (a0 a1 : IV) (h : Hp) : SS dt (n + 1) 101 [a0, a1] h = S101 (SS dt n) n a0 a1 h := call_2 (show dt.call 101 = fun ih n => ar2 (S101 ih n) by kernel_rfl) ..
theorem c102 (n : Nat) (a0 a1 : IV) (h : Hp) : SS dt (n + 1) 102 [a0, a1] h = S102 (SS dt n) n a0 a1 h := call_2 (show dt.call 102 = fun ih n => ar2 (S102 ih n) by kernel_rfl) ..
theorem c103 (n : Nat) (a0 a1 a2 a3 : IV) (h : Hp) : SS dt (n + 1) 103 [a0, a1, a2, a3] h = S103 (SS dt n) n a0 a1 a2 a3 h := call_4 (show dt.call 103 = fun ih n => ar4 (S103 ih n) by kernel_rfl) ..
theorem c104 (n : Nat) (a0 a1 : IV) (h : Hp) : SS dt (n + 1) 104 [a0, a1] h = S104 (SS dt n) n a0 a1 h := call_2 (show dt.call 104 = fun ih n => ar2 (S104 ih n) by kernel_rfl) ..
theorem c109 (n : Nat) (a0 a1 : IV) (h : Hp) : SS dt (n + 1) 109 [a0, a1] h = S109 (SS dt n) n a0 a1 h := call_2 (show dt.call 109 = fun ih n => ar2 (S109 ih n) by kernel_rfl) ..
theorem c110 (n : Nat) (a0 a1 : IV) (h : Hp) : SS dt (n + 1) 110 [a0, a1] h = S110 (SS dt n) n a0 a1 h := call_2 (show dt.call 110 = fun ih n => ar2 (S110 ih n) by kernel_rfl) ..
theorem c111 (n : Nat) (a0 a1 : IV) (h : Hp) : SS dt (n + 1) 111 [a0, a1] h = S111 (SS dt n) n a0 a1 h := call_2 (show dt.call 111 = fun ih n => ar2 (S111 ih n) by kernel_rfl) ..

end Idl
end Go.Proofs.Ytkfecngimlcfoaa

namespace Go.Proofs.Ytkfecngimlcfoaa
namespace Idl
end Idl
end Go.Proofs.Ytkfecngimlcfoaa

namespace Go.Proofs.Ytkfecngimlcfoaa
namespace Idl

section
variable {β : Type} {E : Env} {t : TypeId}
abbrev iv (n : Int) : IV := .fv (.int .i64 n)
theorem x_cond (c : Prop) [Decidable c] (a b : Option β) : condS (.fv (.bool (decide c))) a b = if c then a else b := by
  by_cases h : c
  · rw [decide_eq_true h, if_pos h]; rfl
  · rw [decide_eq_false h, if_neg h]; rfl
theorem x_faddr (o : Nat) (r : Ref) (off : Nat) (k : IV → Option β) : faddrS o (.ptr r off) k = k (.ptr r (off + o)) := by
  show (fNat (off + o) fun o => k (.ptr r o)) = _
  rw [fNat_eq]
theorem x_faddr_f (o : Nat) (cs : List FV) (off : Nat) (k : IV → Option β) : faddrS o (.fv (.fp cs off)) k = k (.fv (.fp cs (off + o))) := by
  show (fNat (off + o) fun o => k (.fv (.fp cs o))) = _
  rw [fNat_eq]
theorem x_ix {size : Nat} {es : List FV} {n : Nat} {el : FV} (he : es[n]? = some el) (hl : el.cells.length = size) (k : IV → Option β) : ixS size (.fv (.sl es)) (iv n) k = k (.fv (.fp el.cells 0)) := by
  show (nthK es n fun el => elK size el k) = _
  rw [nthK_eq, he]
  show elK size el k = _
  rw [elK_eq, if_pos hl]
theorem x_cmpI {op : BinOp} {g : Nat → Nat → Bool} (hg : ∀ a b : Nat, binR E op t (iv a) (iv b) = some (.fv (.bool (g a b)))) (a b : Int) (k : IV → Option β) :
    cmpS E t op g (iv a) (iv b) k = (binR E op t (iv a) (iv b)).bind k := by
  cases a with
  | ofNat a =>
    cases b with
    | ofNat b =>
      show boolK (g a b) k = _
      rw [boolK_eq, show binR E op t (iv (Int.ofNat a)) (iv (Int.ofNat b)) = some (.fv (.bool (g a b))) from hg a b]
      rfl
    | negSucc b =>
      show binS E t op _ _ k = _
      rw [binS, optS_eq]
  | negSucc a =>
    show binS E t op _ _ k = _
    rw [binS, optS_eq]
theorem x_eqI (a b : Int) (k : IV → Option β) : eqS E t (iv a) (iv b) k = k (.fv (.bool (decide (a = b)))) := by
  rw [eqS, x_cmpI (fun a b => by
    show some (IV.fv (.bool ((a : Int) == (b : Int)))) = _
    rw [beq_dec]
    congr 3
    exact decide_eq_decide.2 Int.ofNat_inj)]
  rfl
theorem x_neI (a b : Int) (k : IV → Option β) : neS E t (iv a) (iv b) k = k (.fv (.bool (!decide (a = b)))) := by
  rw [neS, x_cmpI (fun a b => by
    show some (IV.fv (.bool ((a : Int) != (b : Int)))) = _
    rw [beq_dec]
    congr 3
    show (!decide ((a : Int) = (b : Int))) = !decide (a = b)
    congr 1
    exact decide_eq_decide.2 Int.ofNat_inj)]
  rfl
theorem x_ltI (a b : Int) (k : IV → Option β) : ltS E t (iv a) (iv b) k = k (.fv (.bool (decide (a < b)))) := by
  rw [ltS, x_cmpI (fun a b => by
    show some (IV.fv (.bool (decide ((a : Int) < (b : Int))))) = _
    rw [ble_dec]
    congr 3
    exact decide_eq_decide.2 (by omega))]
  rfl
theorem x_leI (a b : Int) (k : IV → Option β) : leS E t (iv a) (iv b) k = k (.fv (.bool (decide (a ≤ b)))) := by
  rw [leS, x_cmpI (fun a b => by
    show some (IV.fv (.bool (decide ((a : Int) ≤ (b : Int))))) = _
    rw [ble_dec]
    congr 3
    exact decide_eq_decide.2 (by omega))]
  rfl
theorem x_not (b : Bool) (k : IV → Option β) : optS (unR .not (.fv (.bool b))) k = k (.fv (.bool !b)) := by
  rw [optS_eq]
  rfl
end
end Idl
end Go.Proofs.Ytkfecngimlcfoaa

namespace Go.Proofs.Ytkfecngimlcfoaa
namespace Idl

section
variable {β : Type} {α : Type}
theorem n0 (a : α) (l : List α) (k : α → Option β) : nthK (a :: l) 0 k = k a := rfl
theorem n1 (a b : α) (l : List α) (k : α → Option β) : nthK (a :: b :: l) 1 k = k b := rfl
theorem n2 (a b c : α) (l : List α) (k : α → Option β) : nthK (a :: b :: c :: l) 2 k = k c := rfl
theorem n3 (a b c d : α) (l : List α) (k : α → Option β) : nthK (a :: b :: c :: d :: l) 3 k = k d := rfl
theorem n4 (a b c d e : α) (l : List α) (k : α → Option β) : nthK (a :: b :: c :: d :: e :: l) 4 k = k e := rfl
theorem n5 (a b c d e f : α) (l : List α) (k : α → Option β) : nthK (a :: b :: c :: d :: e :: f :: l) 5 k = k f := rfl
theorem n6 (a b c d e f g : α) (l : List α) (k : α → Option β) : nthK (a :: b :: c :: d :: e :: f :: g :: l) 6 k = k g := rfl
theorem d0 (l : List α) (k : List α → Option β) : drpK l 0 k = k l := by cases l <;> rfl
theorem d1 (a : α) (l : List α) (k : List α → Option β) : drpK (a :: l) 1 k = k l := by cases l <;> rfl
theorem d2 (a b : α) (l : List α) (k : List α → Option β) : drpK (a :: b :: l) 2 k = k l := by cases l <;> rfl
theorem d3 (a b c : α) (l : List α) (k : List α → Option β) : drpK (a :: b :: c :: l) 3 k = k l := by cases l <;> rfl
theorem d4 (a b c d : α) (l : List α) (k : List α → Option β) : drpK (a :: b :: c :: d :: l) 4 k = k l := by cases l <;> rfl
theorem t1 (a : α) (l : List α) (k : List α → Option β) : takK (a :: l) 1 k = k [a] := by cases l <;> rfl
theorem t2 (a b : α) (l : List α) (k : List α → Option β) : takK (a :: b :: l) 2 k = k [a, b] := by cases l <;> rfl
theorem t3 (a b c : α) (l : List α) (k : List α → Option β) : takK (a :: b :: c :: l) 3 k = k [a, b, c] := by cases l <;> rfl
theorem t4 (a b c d : α) (l : List α) (k : List α → Option β) : takK (a :: b :: c :: d :: l) 4 k = k [a, b, c, d] := by cases l <;> rfl
theorem t7 (a b c d e f g : α) (l : List α) (k : List α → Option β) : takK (a :: b :: c :: d :: e :: f :: g :: l) 7 k = k [a, b, c, d, e, f, g] := by cases l <;> rfl
theorem sp_e (l : List α) (k : List α → Option β) : spK l k = k l := spK_eq l k
theorem ap0 (us : List α) (k : List α → Option β) : apK [] us k = k us := rfl
theorem ap1 (u : α) (l us : List α) (k : List α → Option β) : apK (u :: l) us k = apK l us fun w => k (u :: w) := rfl
theorem unc_c (a : α) (l : List α) (k : α → List α → Option β) : uncS (a :: l) k = k a l := rfl
theorem c_t {γ : Type} (a b : γ) : cond true a b = a := rfl
theorem c_f {γ : Type} (a b : γ) : cond false a b = b := rfl
end

section
variable {β : Type}
theorem N_bf {s j : Nat} (h : (s == j) = false) : Nat.beq s j = false := by
  rw [beq_dec]
  simpa using h
theorem g_own (s : Nat) (own : List (Nat × Blk)) (ext : List Blk) (k : Blk → Option β) : getK (.own s) ⟨own, ext⟩ k = ownK own s k := rfl
theorem g_ext (j : Nat) (own : List (Nat × Blk)) (ext : List Blk) (k : Blk → Option β) : getK (.ext j) ⟨own, ext⟩ k = nthK ext j k := rfl
theorem o_hit (s : Nat) (b : Blk) (l : List (Nat × Blk)) (k : Blk → Option β) : ownK ((s, b) :: l) s k = k b := by
  show cond (Nat.beq s s) (k b) _ = _
  rw [show Nat.beq s s = true from Nat.beq_refl s]
  rfl
theorem o_miss {s j : Nat} (hne : (s == j) = false) (b : Blk) (l : List (Nat × Blk)) (k : Blk → Option β) : ownK ((j, b) :: l) s k = ownK l s k := by
  show cond (Nat.beq s j) (k b) _ = _
  rw [show Nat.beq s j = false from N_bf hne]
  rfl
theorem p_nil (s : Nat) (b : Blk) (k : List (Nat × Blk) → Option β) : putOwnK [] s b k = k [(s, b)] := rfl
theorem p_hit (s : Nat) (b c : Blk) (l : List (Nat × Blk)) (k : List (Nat × Blk) → Option β) : putOwnK ((s, c) :: l) s b k = k ((s, b) :: l) := by
  show cond (Nat.beq s s) _ _ = _
  rw [show Nat.beq s s = true from Nat.beq_refl s]
  rfl
theorem p_miss {s j : Nat} (hne : (s == j) = false) (b c : Blk) (l : List (Nat × Blk)) (k : List (Nat × Blk) → Option β) : putOwnK ((j, c) :: l) s b k = putOwnK l s b fun l => k ((j, c) :: l) := by
  show cond (Nat.beq s j) _ _ = _
  rw [show Nat.beq s j = false from N_bf hne]
  rfl
theorem f_nil (s : Nat) (a : Option β) : freshK [] s a = a := rfl
theorem f_cons {s j : Nat} (hne : (s == j) = false) (b : Blk) (l : List (Nat × Blk)) (a : Option β) : freshK ((j, b) :: l) s a = freshK l s a := by
  show cond (Nat.beq s j) none _ = _
  rw [show Nat.beq s j = false from N_bf hne]
  rfl
theorem lay_own (s : Nat) (b : Blk) (own : List (Nat × Blk)) (ext : List Blk) (k : Hp → Option β) : layK (.own s) b ⟨own, ext⟩ k = putOwnK own s b fun own => k ⟨own, ext⟩ := rfl
theorem lay_ext (j : Nat) (b : Blk) (own : List (Nat × Blk)) (ext : List Blk) (k : Hp → Option β) : layK (.ext j) b ⟨own, ext⟩ k = setNK ext j b fun ext => k ⟨own, ext⟩ := rfl
theorem sn0 {α : Type} (a b : α) (l : List α) (k : List α → Option β) : setNK (a :: l) 0 b k = k (b :: l) := rfl
theorem new_e (s : Nat) (b : Blk) (v : IV) (own : List (Nat × Blk)) (ext : List Blk) (k : IV → Hp → List Ref → List Ref → Option β) :
    newS s b v ⟨own, ext⟩ k = freshK own s (putOwnK own s b fun own => k v ⟨own, ext⟩ [] [.own s]) := rfl
theorem box_agg (s : Nat) (cs : List FV) (h : Hp) (k : IV → Hp → List Ref → List Ref → Option β) : boxS s (.fv (.agg cs)) h k = newS s (.row (cs.map .fv) false) (.ptr (.own s) 0) h k := by
  show spK (cs.map IV.fv) _ = _
  rw [spK_eq]
theorem box_agg' (s : Nat) (cs : List IV) (h : Hp) (k : IV → Hp → List Ref → List Ref → Option β) : boxS s (.agg cs) h k = newS s (.row cs false) (.ptr (.own s) 0) h k := by
  show spK cs _ = _
  rw [spK_eq]
theorem box_one {x : IV} (hx : x.one = true) (s : Nat) (h : Hp) (k : IV → Hp → List Ref → List Ref → Option β) : boxS s x h k = newS s (.row [x] false) (.ptr (.own s) 0) h k := by
  unfold boxS; rw [hx]; rfl
theorem on_int (k : IntKind) (n : Int) : IV.one (.fv (.int k n)) = true := rfl
theorem on_bool (b : Bool) : IV.one (.fv (.bool b)) = true := rfl
theorem on_sl (l : List FV) : IV.one (.fv (.sl l)) = true := rfl
theorem on_fp (l : List FV) (o : Nat) : IV.one (.fv (.fp l o)) = true := rfl
theorem on_func (fn : Fn) (a b : List FV) : IV.one (.fv (.func fn a b)) = true := rfl
theorem on_nilp : IV.one (.fv .nilp) = true := rfl
theorem on_nils : IV.one .nils = true := rfl
theorem on_ptr (r : Ref) (o : Nat) : IV.one (.ptr r o) = true := rfl
theorem on_slc (r : Ref) (a b : Nat) : IV.one (.slc r a b) = true := rfl
theorem on_app (r : Ref) (l : List FV) : IV.one (.app r l) = true := rfl
theorem on_clip (l : List FV) : IV.one (.clip l) = true := rfl
theorem on_emp : IV.one .emp = true := rfl
theorem on_agg (l : List IV) : IV.one (.agg l) = false := rfl
theorem on_fagg (l : List FV) : IV.one (.fv (.agg l)) = false := rfl
theorem of_int (k : IntKind) (n : Int) : oneF (.int k n) = true := rfl
theorem of_bool (b : Bool) : oneF (.bool b) = true := rfl
theorem of_sl (l : List FV) : oneF (.sl l) = true := rfl
theorem of_fp (l : List FV) (o : Nat) : oneF (.fp l o) = true := rfl
theorem of_nilp : oneF .nilp = true := rfl
theorem of_agg (l : List FV) : oneF (.agg l) = false := rfl
theorem aof_nil : allOneF [] = true := rfl
theorem aof_cons {v : FV} (h : oneF v = true) (l : List FV) : allOneF (v :: l) = allOneF l := by
  show cond (oneF v) (allOneF l) false = _
  rw [h]; rfl
theorem as_p (r : Ref) (o : Nat) (k : Ref → Nat → Option β) (kf : List FV → Nat → Option β) : asPtr (.ptr r o) k kf = k r o := rfl
theorem as_f (cs : List FV) (o : Nat) (k : Ref → Nat → Option β) (kf : List FV → Nat → Option β) : asPtr (.fv (.fp cs o)) k kf = kf cs o := rfl
theorem as_row (cs : List IV) (ro : Bool) (k : List IV → Option β) : asRow (.row cs ro) k = k cs := rfl
theorem as_free (cs : List IV) (k : List IV → Option β) : asFree (.row cs false) k = k cs := rfl
theorem as_fv (v : FV) (e : Option β) (k : FV → Option β) : asF (.fv v) e k = k v := rfl
theorem as_nf1 (l : List IV) (e : Option β) (k : FV → Option β) : asF (.agg l) e k = e := rfl
theorem as_nf2 (e : Option β) (k : FV → Option β) : asF .nils e k = e := rfl
theorem as_nf3 (r : Ref) (o : Nat) (e : Option β) (k : FV → Option β) : asF (.ptr r o) e k = e := rfl
theorem as_nf4 (r : Ref) (o : List FV) (e : Option β) (k : FV → Option β) : asF (.app r o) e k = e := rfl
theorem as_nf5 (o : List FV) (e : Option β) (k : FV → Option β) : asF (.clip o) e k = e := rfl
theorem as_nf6 (r : Ref) (a b : Nat) (e : Option β) (k : FV → Option β) : asF (.slc r a b) e k = e := rfl
theorem as_nf7 (e : Option β) (k : FV → Option β) : asF .emp e k = e := rfl
theorem as_agF (cs : List FV) (k : List FV → Option β) : asAggF (.agg cs) k = k cs := rfl
theorem as_ag (cs : List IV) (k : List IV → Option β) (kf : List FV → Option β) : asAgg (.agg cs) k kf = k cs := rfl
theorem as_ag' (cs : List FV) (k : List IV → Option β) (kf : List FV → Option β) : asAgg (.fv (.agg cs)) k kf = kf cs := rfl
theorem alv_nil (e : Option β) (k : List FV → Option β) : allFvK [] e k = k [] := rfl
theorem alv_fv (v : FV) (l : List IV) (e : Option β) (k : List FV → Option β) : allFvK (.fv v :: l) e k = allFvK l e fun vs => k (v :: vs) := rfl
theorem alv_nils (l : List IV) (e : Option β) (k : List FV → Option β) : allFvK (.nils :: l) e k = e := rfl
theorem alv_app (r : Ref) (es : List FV) (l : List IV) (e : Option β) (k : List FV → Option β) : allFvK (.app r es :: l) e k = e := rfl
theorem alv_clip (es : List FV) (l : List IV) (e : Option β) (k : List FV → Option β) : allFvK (.clip es :: l) e k = e := rfl
theorem alv_ptr (r : Ref) (o : Nat) (l : List IV) (e : Option β) (k : List FV → Option β) : allFvK (.ptr r o :: l) e k = e := rfl
theorem alv_slc (r : Ref) (a b : Nat) (l : List IV) (e : Option β) (k : List FV → Option β) : allFvK (.slc r a b :: l) e k = e := rfl
theorem alv_agg (es l : List IV) (e : Option β) (k : List FV → Option β) : allFvK (.agg es :: l) e k = e := rfl
theorem alv_mapr (r : Ref) (l : List IV) (e : Option β) (k : List FV → Option β) : allFvK (.mapr r :: l) e k = e := rfl
theorem agg_e (l : List IV) (k : IV → Option β) : aggK l k = allFvK l (k (.agg l)) fun vs => k (.fv (.agg vs)) := rfl
theorem tup_e (l : List IV) (k : IV → Option β) : tupK l k = allFvK l (k (.tuple l)) fun vs => k (.fv (.tuple vs)) := rfl
theorem l1_e (a : IV) (h : Hp) (k : IV → List Ref → Option β) : load1 a h k = asPtr a (fun r o => getK r h fun b => asRow b fun cells => nthK cells o fun v => k v [r]) fun cells o => nthK cells o fun v => k (.fv v) [] := rfl
theorem lA_e (size : Nat) (a : IV) (h : Hp) (k : IV → List Ref → Option β) : loadA size a h k =
    asPtr a (fun r o => getK r h fun b => asRow b fun cells => drpK cells o fun cs => takK cs size fun cs => aggK cs fun v => k v [r]) fun cells o => drpK cells o fun cs => takK cs size fun cs => k (.fv (.agg cs)) [] := rfl
theorem cell_t (size : Nat) (a : IV) (h : Hp) (k : IV → Option β) : cellS true size a h k = loadA size a h fun v _ => k v := rfl
theorem cell_f (size : Nat) (a : IV) (h : Hp) (k : IV → Option β) : cellS false size a h k = load1 a h fun v _ => k v := rfl
theorem wr0 (l : List IV) (k : List IV → Option β) : wrK [] l k = k l := rfl
theorem wr1 (c : FV) (cs : List FV) (x : IV) (l : List IV) (k : List IV → Option β) : wrK (c :: cs) (x :: l) k = wrK cs l fun t => k (.fv c :: t) := rfl
theorem sf0 (x : IV) (l : List IV) (cs : List FV) (k : List IV → Option β) : setFK (x :: l) 0 cs k = wrK cs (x :: l) k := rfl
theorem sf1 (x : IV) (l : List IV) (cs : List FV) (k : List IV → Option β) : setFK (x :: l) 1 cs k = setFK l 0 cs fun t => k (x :: t) := rfl
theorem sf2 (x y : IV) (l : List IV) (cs : List FV) (k : List IV → Option β) : setFK (x :: y :: l) 2 cs k = setFK l 0 cs fun t => k (x :: y :: t) := rfl
theorem sf3 (x y z : IV) (l : List IV) (cs : List FV) (k : List IV → Option β) : setFK (x :: y :: z :: l) 3 cs k = setFK l 0 cs fun t => k (x :: y :: z :: t) := rfl
theorem sf4 (x y z u : IV) (l : List IV) (cs : List FV) (k : List IV → Option β) : setFK (x :: y :: z :: u :: l) 4 cs k = setFK l 0 cs fun t => k (x :: y :: z :: u :: t) := rfl
theorem of0 (x b : IV) (l : List IV) (k : List IV → Option β) : offK (x :: l) 0 b k = k (b :: l) := rfl
theorem of1 (x y b : IV) (l : List IV) (k : List IV → Option β) : offK (x :: y :: l) 1 b k = k (x :: b :: l) := rfl
theorem of2 (x y z b : IV) (l : List IV) (k : List IV → Option β) : offK (x :: y :: z :: l) 2 b k = k (x :: y :: b :: l) := rfl
theorem of3 (x y z u b : IV) (l : List IV) (k : List IV → Option β) : offK (x :: y :: z :: u :: l) 3 b k = k (x :: y :: z :: b :: l) := rfl
theorem of6 (x y z u v w s b : IV) (l : List IV) (k : List IV → Option β) : offK (x :: y :: z :: u :: v :: w :: s :: l) 6 b k = k (x :: y :: z :: u :: v :: w :: b :: l) := rfl
theorem sA_f (size : Nat) (a : IV) (cs : List FV) (h : Hp) (k : Hp → List Ref → List Ref → Option β) : storeA size a (.fv (.agg cs)) h k =
    asPtr a (fun r o => getK r h fun b => asFree b fun cells => cond (and (Nat.beq cs.length size) (allOneF cs)) (setFK cells o cs fun cells => layK r (.row cells false) h fun h => k h [r] [r]) none) fun _ _ => none := rfl
theorem ml_own (s : Nat) (x : IV) : mayLie (.own s) x = true := rfl
theorem sA_3 (s : Nat) (a b c : IV) (ha : a.one = true) (hb : b.one = true) (hc : c.one = true) (own : List (Nat × Blk)) (ext : List Blk) (k : Hp → List Ref → List Ref → Option β) :
    storeA 3 (.ptr (.own s) 0) (.agg [a, b, c]) ⟨own, ext⟩ k = ownK own s fun bl => asFree bl fun cells => cond (Nat.ble 3 cells.length) (layK (.own s) (.row (setCells cells 0 [a, b, c]) false) ⟨own, ext⟩ fun h => k h [.own s] [.own s]) none := by
  show ownK own s (fun bl => asFree bl fun cells => if IV.alive (.agg [a, b, c]) = true ∧ (IV.cells (.agg [a, b, c])).length = 3 ∧ 0 + 3 ≤ cells.length ∧ (IV.cells (.agg [a, b, c])).all IV.one = true ∧ mayLie (.own s) (.agg [a, b, c]) = true then
    spK (setCells cells 0 (IV.cells (.agg [a, b, c]))) fun cells => layK (.own s) (.row cells false) ⟨own, ext⟩ fun h => k h [.own s] [.own s] else none) = _
  congr 1
  funext bl
  congr 1
  funext cells
  by_cases h3 : 3 ≤ cells.length
  · rw [if_pos ⟨rfl, rfl, by omega, by simp [IV.cells, ha, hb, hc], rfl⟩, spK_eq, ble_dec, decide_eq_true h3]
    rfl
  · rw [if_neg (fun h => h3 (by omega)), ble_dec, decide_eq_false h3]
    rfl
theorem sc3 (a b c x y z : IV) : setCells [x, y, z] 0 [a, b, c] = [a, b, c] := rfl
theorem s1_e (a x : IV) (h : Hp) (k : Hp → List Ref → List Ref → Option β) : store1 a x h k =
    cond x.one (asPtr a (fun r o => getK r h fun b => asFree b fun cells => cond (mayLie r x) (offK cells o x fun cells => layK r (.row cells false) h fun h => k h [r] [r]) none) fun _ _ => none) (storeA 1 a x h k) := rfl
theorem fa_p (o : Nat) (r : Ref) (k : IV → Option β) : faddrS o (.ptr r 0) k = k (.ptr r o) := by rw [x_faddr, Nat.zero_add]
theorem fa_f (o : Nat) (cs : List FV) (k : IV → Option β) : faddrS o (.fv (.fp cs 0)) k = k (.fv (.fp cs o)) := by rw [x_faddr_f, Nat.zero_add]
theorem nil_p (r : Ref) (o : Nat) (k : IV → Option β) : nilS (.ptr r o) k = k (.ptr r o) := rfl
theorem nil_f (cs : List FV) (o : Nat) (k : IV → Option β) : nilS (.fv (.fp cs o)) k = k (.fv (.fp cs o)) := rfl
theorem nil_func (g : FuncId) (a b : List FV) (k : IV → Option β) : nilS (.fv (.func (.func g) a b)) k = k (.fv (.func (.func g) a b)) := rfl
theorem ex_t (ix : Nat) (vs : List IV) (k : IV → Option β) : extS ix (.tuple vs) k = nthK vs ix k := rfl
theorem ex_f (ix : Nat) (vs : List FV) (k : IV → Option β) : extS ix (.fv (.tuple vs)) k = nthK vs ix fun v => k (.fv v) := rfl
theorem f1_e (o : Nat) (x : IV) (k : IV → Option β) : fld1 o x k = asAgg x (fun cs => nthK cs o k) fun cs => nthK cs o fun v => k (.fv v) := rfl
theorem fA_e (size o : Nat) (x : IV) (k : IV → Option β) : fldA size o x k = asAgg x (fun cs => drpK cs o fun cs => takK cs size fun cs => aggK cs k) fun cs => drpK cs o fun cs => takK cs size fun cs => k (.fv (.agg cs)) := rfl
theorem bld_e (z : List IV) (pl : List (Nat × Nat × IV)) (k : IV → Option β) : bldS z pl k = fillK z pl fun cells => aggK cells k := rfl
theorem fk0 (z : List IV) (k : List IV → Option β) : fillK z [] k = k z := rfl
theorem fk1 (z : List IV) (o sz : Nat) (v : IV) (pl : List (Nat × Nat × IV)) (k : List IV → Option β) : fillK z ((o, sz, v) :: pl) k = fillP z o sz v fun z => fillK z pl k := rfl
theorem fp_one {v : IV} (hv : v.one = true) (z : List IV) (o : Nat) (k : List IV → Option β) : fillP z o 1 v k = offK z o v k := by
  unfold fillP
  cases v with
  | fv w =>
    show cond (oneF w) _ _ = _
    have : oneF w = true := by cases w <;> first | rfl | cases hv
    rw [this]; rfl
  | _ => show fillG _ _ _ _ _ = _; unfold fillG; rw [hv]; rfl
theorem fp_agg (z : List IV) (o sz : Nat) (cs : List FV) (k : List IV → Option β) : fillP z o sz (.fv (.agg cs)) k = cond (Nat.beq cs.length sz) (setFK z o cs k) none := rfl
theorem nb3 (a b c : FV) : Nat.beq [a, b, c].length 3 = true := rfl
theorem nb4 (a b c d : FV) : Nat.beq [a, b, c, d].length 4 = true := rfl
theorem nb7 (a b c d e f g : FV) : Nat.beq [a, b, c, d, e, f, g].length 7 = true := rfl
theorem nl3 (a b c : IV) : Nat.ble 3 [a, b, c].length = true := rfl
theorem and_tt : (and true true) = true := rfl
end
end Idl
end Go.Proofs.Ytkfecngimlcfoaa

namespace Go.Proofs.Ytkfecngimlcfoaa
namespace Idl

section
variable {β : Type} {E : Env} {t : TypeId}
theorem iv_e (n : Int) : IV.fv (.int .i64 n) = iv n := rfl
def w64 (n : Int) : Int := IntKind.i64.wrap n
theorem w64_id {n : Int} (h1 : -9223372036854775808 ≤ n) (h2 : n ≤ 9223372036854775807) : w64 n = n := by
  show (if (true && decide ((n % (18446744073709551616 : Int)) ≥ (9223372036854775808 : Int))) = true then (n % (18446744073709551616 : Int)) - (18446744073709551616 : Int) else (n % (18446744073709551616 : Int))) = n
  by_cases h : 0 ≤ n
  · have e : n % (18446744073709551616 : Int) = n := by omega
    have e2 : ¬ n ≥ (9223372036854775808 : Int) := by omega
    rw [e, decide_eq_false e2]
    rfl
  · have e : n % (18446744073709551616 : Int) = n + 18446744073709551616 := by omega
    have e2 : n + 18446744073709551616 ≥ (9223372036854775808 : Int) := by omega
    rw [e, decide_eq_true e2]
    simp
theorem add_s (a b : Int) (k : IV → Option β) : addS E t (iv a) (iv b) k = k (iv (w64 (a + b))) := by
  have hg : binS E t .add (iv a) (iv b) k = k (iv (w64 (a + b))) := by
    rw [binS, optS_eq]; rfl
  cases a with
  | negSucc a => exact hg
  | ofNat a => cases b with
    | negSucc b => exact hg
    | ofNat b =>
      show cond (Nat.ble (a + b) 9223372036854775807) (intK (a + b) k) _ = _
      rw [ble_dec]
      by_cases h : a + b ≤ 9223372036854775807
      · rw [decide_eq_true h]
        show intK (a + b) k = _
        rw [intK_eq]
        have : w64 (Int.ofNat a + Int.ofNat b) = ((a + b : Nat) : Int) := by
          rw [w64_id (by simp only [Int.ofNat_eq_natCast]; omega) (by simp only [Int.ofNat_eq_natCast]; omega)]
          simp only [Int.ofNat_eq_natCast]; omega
        rw [this]
      · rw [decide_eq_false h]
        exact hg
theorem sub_s (a b : Int) (k : IV → Option β) : subS E t (iv a) (iv b) k = k (iv (w64 (a - b))) := by
  have hg : binS E t .sub (iv a) (iv b) k = k (iv (w64 (a - b))) := by
    rw [binS, optS_eq]; rfl
  cases a with
  | negSucc a => exact hg
  | ofNat a => cases b with
    | negSucc b => exact hg
    | ofNat b =>
      show cond (and (Nat.ble b a) (Nat.ble a 9223372036854775807)) (intK (a - b) k) _ = _
      rw [ble_dec, ble_dec]
      by_cases h : b ≤ a ∧ a ≤ 9223372036854775807
      · rw [decide_eq_true h.1, decide_eq_true h.2]
        show intK (a - b) k = _
        rw [intK_eq]
        have : w64 (Int.ofNat a - Int.ofNat b) = ((a - b : Nat) : Int) := by
          rw [w64_id (by simp only [Int.ofNat_eq_natCast]; omega) (by simp only [Int.ofNat_eq_natCast]; omega)]
          simp only [Int.ofNat_eq_natCast]; omega
        rw [this]
      · have : (decide (b ≤ a) && decide (a ≤ 9223372036854775807)) = false := by
          rw [← Bool.decide_and]; exact decide_eq_false h
        rw [show and (decide (b ≤ a)) (decide (a ≤ 9223372036854775807)) = false from this]
        exact hg
theorem mul_s (a b : Int) (k : IV → Option β) : binS E t .mul (iv a) (iv b) k = k (iv (w64 (a * b))) := by
  rw [binS, optS_eq]; rfl
theorem quo_s {b : Int} (hb : b ≠ 0) (a : Int) (k : IV → Option β) : binS E t .quo (iv a) (iv b) k = k (iv (w64 (a.tdiv b))) := by
  rw [binS, optS_eq]
  have : binR E .quo t (iv a) (iv b) = some (iv (w64 (a.tdiv b))) := by
    show (pureVal (Op.intDiv .quo .i64 a b)).bind ofScal = _
    simp only [Op.intDiv, hb, if_false]
    rfl
  rw [this]; rfl
theorem rem_s {b : Int} (hb : b ≠ 0) (a : Int) (k : IV → Option β) : binS E t .rem (iv a) (iv b) k = k (iv (a.tmod b)) := by
  rw [binS, optS_eq]
  have : binR E .rem t (iv a) (iv b) = some (iv (a.tmod b)) := by
    show (pureVal (Op.intDiv .rem .i64 a b)).bind ofScal = _
    simp only [Op.intDiv, hb, if_false]
    rfl
  rw [this]; rfl
theorem eq_s (a b : Int) (k : IV → Option β) : eqS E t (iv a) (iv b) k = k (.fv (.bool (decide (a = b)))) := x_eqI a b k
theorem ne_s (a b : Int) (k : IV → Option β) : neS E t (iv a) (iv b) k = k (.fv (.bool (!decide (a = b)))) := x_neI a b k
theorem lt_s (a b : Int) (k : IV → Option β) : ltS E t (iv a) (iv b) k = k (.fv (.bool (decide (a < b)))) := x_ltI a b k
theorem le_s (a b : Int) (k : IV → Option β) : leS E t (iv a) (iv b) k = k (.fv (.bool (decide (a ≤ b)))) := x_leI a b k
theorem gt_s (a b : Int) (k : IV → Option β) : gtS E t (iv a) (iv b) k = k (.fv (.bool (decide (b < a)))) := by
  rw [gtS, x_cmpI (fun a b => by
    show some (IV.fv (.bool (decide ((a : Int) > (b : Int))))) = _
    rw [ble_dec]
    congr 3
    exact decide_eq_decide.2 (by omega))]
  rfl
theorem ge_s (a b : Int) (k : IV → Option β) : geS E t (iv a) (iv b) k = k (.fv (.bool (decide (b ≤ a)))) := by
  rw [geS, x_cmpI (fun a b => by
    show some (IV.fv (.bool (decide ((a : Int) ≥ (b : Int))))) = _
    rw [ble_dec]
    congr 3
    exact decide_eq_decide.2 (by omega))]
  rfl
theorem eq_sb (a b : Bool) (hT : E.T t = some ⟨1, 1, .bool, [.fv (.bool false)]⟩) (k : IV → Option β) : eqS E t (.fv (.bool a)) (.fv (.bool b)) k = k (.fv (.bool (a == b))) := by
  show binS E t .eql _ _ k = _
  rw [binS, optS_eq]
  have : binR E .eql t (.fv (.bool a)) (.fv (.bool b)) = some (.fv (.bool (a == b))) := by
    simp only [binR, hT, eqOp]
  rw [this]; rfl
theorem not_s (b : Bool) (k : IV → Option β) : optS (unR .not (.fv (.bool b))) k = k (.fv (.bool !b)) := x_not b k
theorem cd_t (a b : Option β) : condS (.fv (.bool true)) a b = a := rfl
theorem cd_f (a b : Option β) : condS (.fv (.bool false)) a b = b := rfl
theorem cd_d (c : Prop) [Decidable c] (a b : Option β) : condS (.fv (.bool (decide c))) a b = if c then a else b := x_cond c a b
theorem cd_n (c : Prop) [Decidable c] (a b : Option β) : condS (.fv (.bool (!decide c))) a b = if c then b else a := by
  by_cases h : c
  · rw [decide_eq_true h, if_pos h]; rfl
  · rw [decide_eq_false h, if_neg h]; rfl
theorem cd_b (c : Bool) (a b : Option β) : condS (.fv (.bool c)) a b = if c = true then a else b := by
  cases c <;> rfl
theorem pk_e (c a b : IV) (k : IV → Option β) : pickS c a b k = condS c (k a) (k b) := rfl
theorem gd_mt {b : Bool} (hb : b = true) (h : Hp) (m : (IV → Hp → List Ref → List Ref → Option β) → Option β) (k : IV → Hp → List Ref → List Ref → Option β) : guardS (.fv (.bool b)) true h m k = m k := by rw [hb]; rfl
theorem gd_mf {b : Bool} (hb : b = false) (h : Hp) (m : (IV → Hp → List Ref → List Ref → Option β) → Option β) (k : IV → Hp → List Ref → List Ref → Option β) : guardS (.fv (.bool b)) false h m k = m k := by rw [hb]; rfl
theorem gd_sf {b : Bool} (hb : b = true) (h : Hp) (m : (IV → Hp → List Ref → List Ref → Option β) → Option β) (k : IV → Hp → List Ref → List Ref → Option β) : guardS (.fv (.bool b)) false h m k = k undefV h [] [] := by rw [hb]; rfl
theorem gd_st {b : Bool} (hb : b = false) (h : Hp) (m : (IV → Hp → List Ref → List Ref → Option β) → Option β) (k : IV → Hp → List Ref → List Ref → Option β) : guardS (.fv (.bool b)) true h m k = k undefV h [] [] := by rw [hb]; rfl
theorem gd_u (w : Bool) (h : Hp) (m : (IV → Hp → List Ref → List Ref → Option β) → Option β) (k : IV → Hp → List Ref → List Ref → Option β) : guardS undefV w h m k = k undefV h [] [] := rfl
theorem ch0 (rd wr : List Ref) (a : Option β) : chkS [] rd wr a = a := rfl
theorem ch1 (q1 q2 : List Ref) (l : List (List Ref × List Ref)) (rd wr : List Ref) (a : Option β) : chkS ((q1, q2) :: l) rd wr a = cond (djB q2 rd) (cond (djB q2 wr) (cond (djB wr q1) (chkS l rd wr a) none) none) none := rfl
theorem dj0 (b : List Ref) : djB [] b = true := rfl
theorem djn : ∀ (a : List Ref), djB a [] = true
  | [] => rfl
  | _ :: a => djn a
theorem dj1 (r : Ref) (a b : List Ref) : djB (r :: a) b = cond (allNe r b) (djB a b) false := rfl
theorem an0 (r : Ref) : allNe r [] = true := rfl
theorem an1 (r s : Ref) (l : List Ref) : allNe r (s :: l) = cond (refNe r s) (allNe r l) false := rfl
theorem rn_o {i j : Nat} (h : (i == j) = false) : refNe (.own i) (.own j) = true := by
  show not (Nat.beq i j) = true
  rw [show Nat.beq i j = false from N_bf h]; rfl
theorem rn_oe (i j : Nat) : refNe (.own i) (.ext j) = true := rfl
theorem rn_eo (i j : Nat) : refNe (.ext i) (.own j) = true := rfl
theorem out1 (v : IV) (h : Hp) : outS1 [v] h = some (v, h) := rfl
theorem out0 (h : Hp) : outS1 [] h = some (.fv (.tuple []), h) := rfl
theorem out2 (a b : IV) (h : Hp) : outS1 [a, b] h = tupK [a, b] fun v => some (v, h) := rfl
theorem out3 (a b c : IV) (h : Hp) : outS1 [a, b, c] h = tupK [a, b, c] fun v => some (v, h) := rfl
theorem out4 (a b c d : IV) (h : Hp) : outS1 [a, b, c, d] h = tupK [a, b, c, d] fun v => some (v, h) := rfl
theorem len_f (es : List FV) (k : IV → Option β) : lenS (.fv (.sl es)) k = k (iv es.length) := intK_eq ..
theorem len_0 (k : IV → Option β) : lenS .nils k = k (iv 0) := rfl
theorem len_c (es : List FV) (k : IV → Option β) : lenS (.clip es) k = k (iv es.length) := intK_eq ..
theorem len_a (r : Ref) (es : List FV) (k : IV → Option β) : lenS (.app r es) k = k (iv es.length) := intK_eq ..
theorem len_s (r : Ref) (sz n : Nat) (k : IV → Option β) : lenS (.slc r sz n) k = k (iv n) := intK_eq ..
theorem ix_f {size : Nat} {es : List FV} {n : Nat} {el : FV} (he : es[n]? = some el) (hl : el.cells.length = size) (k : IV → Option β) : ixS size (.fv (.sl es)) (iv n) k = k (.fv (.fp el.cells 0)) := x_ix he hl k
theorem ix_a {size : Nat} {r : Ref} {es : List FV} {n : Nat} {el : FV} (he : es[n]? = some el) (hl : el.cells.length = size) (k : IV → Option β) : ixS size (.app r es) (iv n) k = k (.fv (.fp el.cells 0)) := x_ix he hl k
theorem ix_c {size : Nat} {es : List FV} {n : Nat} {el : FV} (he : es[n]? = some el) (hl : el.cells.length = size) (k : IV → Option β) : ixS size (.clip es) (iv n) k = k (.fv (.fp el.cells 0)) := x_ix he hl k
theorem ix_s {size sz len : Nat} {r : Ref} {n : Nat} (hn : n < len) (hs : sz = size) (k : IV → Option β) : ixS size (.slc r sz len) (iv n) k = k (.ptr r (n * sz)) := by
  show cond (and (Nat.ble (Nat.succ n) len) (Nat.beq sz size)) (fNat (n * sz) fun o => k (.ptr r o)) none = _
  rw [ble_dec, decide_eq_true (show Nat.succ n ≤ len from hn), hs, show Nat.beq size size = true from Nat.beq_refl size]
  simp only [Bool.and_self, cond_true]
  rw [fNat_eq]
theorem ix0_agg (size : Nat) (cs : List FV) (es : List FV) (hl : cs.length = size) (k : IV → Option β) : ixS size (.fv (.sl (.agg cs :: es))) (iv 0) k = k (.fv (.fp cs 0)) := ix_f (el := .agg cs) (n := 0) rfl hl k
theorem ix1_agg (size : Nat) (cs : List FV) (e : FV) (es : List FV) (hl : cs.length = size) (k : IV → Option β) : ixS size (.fv (.sl (e :: .agg cs :: es))) (iv 1) k = k (.fv (.fp cs 0)) := ix_f (el := .agg cs) (n := 1) rfl hl k
theorem ix2_agg (size : Nat) (cs : List FV) (e e' : FV) (es : List FV) (hl : cs.length = size) (k : IV → Option β) : ixS size (.fv (.sl (e :: e' :: .agg cs :: es))) (iv 2) k = k (.fv (.fp cs 0)) := ix_f (el := .agg cs) (n := 2) rfl hl k
theorem ix3_agg (size : Nat) (cs : List FV) (e e' e'' : FV) (es : List FV) (hl : cs.length = size) (k : IV → Option β) : ixS size (.fv (.sl (e :: e' :: e'' :: .agg cs :: es))) (iv 3) k = k (.fv (.fp cs 0)) := ix_f (el := .agg cs) (n := 3) rfl hl k

def Fz (v : IV) (own : List (Nat × Blk)) (w : FV) : Prop := ∃ u lg, ∀ (e : Option (IV × Hp)) (K : FV → List (Ref × Blk) → List Ref → Option (IV × Hp)), fzU 12 v ⟨own, []⟩ [] e K = K w u lg
def Ans (r : Option (IV × Hp)) (w : FV) : Prop := ∃ v own, r = some (v, ⟨own, []⟩) ∧
  (Fz v own w ∨ ((∀ (e : Option (IV × Hp)) (K : FV → List (Ref × Blk) → List Ref → Option (IV × Hp)), fzU 12 v ⟨own, []⟩ [] e K = e) ∧ ∃ u, (frz 4096 v).run ⟨own, []⟩ = some (w, u)))
def AnsF (r : Option (IV × Hp)) (w : FV) : Prop := ∃ v own, r = some (v, ⟨own, []⟩) ∧ Fz v own w
theorem fz_fv (w : FV) (own : List (Nat × Blk)) : Fz (.fv w) own w := ⟨[], [], fun _ _ => rfl⟩
theorem ans_fv (w : FV) (own : List (Nat × Blk)) : Ans (some (.fv w, ⟨own, []⟩)) w := ⟨_, own, rfl, .inl (fz_fv w own)⟩
def frz1 : IV → Option FV
  | .fv v => some v
  | .nils => some (.sl [])
  | .emp => some (.sl [])
  | .clip es => some (.sl es)
  | .app _ es => some (.sl es)
  | _ => none
def frz1L : List IV → Option (List FV)
  | [] => some []
  | v :: l => (frz1 v).bind fun x => (frz1L l).map fun xs => x :: xs
def frzP (v : IV) : Option FV := match v with
  | .agg cs => if cs.length ≤ 8 then (frz1L cs).map .agg else none
  | v => frz1 v
def frzPL : List IV → Option (List FV)
  | [] => some []
  | v :: l => (frzP v).bind fun x => (frzPL l).map fun xs => x :: xs
theorem zp_fv (v : FV) : frzP (.fv v) = some v := rfl
theorem zp_nils : frzP .nils = some (.sl []) := rfl
theorem zp_emp : frzP .emp = some (.sl []) := rfl
theorem zp_clip (es : List FV) : frzP (.clip es) = some (.sl es) := rfl
theorem zp_app (r : Ref) (es : List FV) : frzP (.app r es) = some (.sl es) := rfl
theorem zq_fv (v : FV) : frz1 (.fv v) = some v := rfl
theorem zq_nils : frz1 .nils = some (.sl []) := rfl
theorem zq_emp : frz1 .emp = some (.sl []) := rfl
theorem zq_clip (es : List FV) : frz1 (.clip es) = some (.sl es) := rfl
theorem zq_app (r : Ref) (es : List FV) : frz1 (.app r es) = some (.sl es) := rfl
theorem zp_3 {a b c : IV} {x y z : FV} (ha : frz1 a = some x) (hb : frz1 b = some y) (hc : frz1 c = some z) : frzP (.agg [a, b, c]) = some (.agg [x, y, z]) := by
  show (if 3 ≤ 8 then (frz1L [a, b, c]).map FV.agg else none) = _
  simp [frz1L, ha, hb, hc]
theorem zp_4 {a b c d : IV} {x y z u : FV} (ha : frz1 a = some x) (hb : frz1 b = some y) (hc : frz1 c = some z) (hd : frz1 d = some u) : frzP (.agg [a, b, c, d]) = some (.agg [x, y, z, u]) := by
  show (if 4 ≤ 8 then (frz1L [a, b, c, d]).map FV.agg else none) = _
  simp [frz1L, ha, hb, hc, hd]
theorem fz1_u {v : IV} {x : FV} (d : Nat) (h : Hp) (lg : List Ref) (e : Option β) (k : FV → List (Ref × Blk) → List Ref → Option β) (hz : frz1 v = some x) : fzU (d + 1) v h lg e k = k x [] lg := by
  cases v <;> first | (cases hz; rfl) | (cases hz)
theorem fz1_l (d : Nat) (h : Hp) (lg : List Ref) (e : Option β) : ∀ (cs : List IV) (k : List FV → List (Ref × Blk) → List Ref → Option β) {xs : List FV}, frz1L cs = some xs → fzLK (fzU (d + 1)) cs h lg e k = k xs [] lg
  | [], k, xs, hz => by cases hz; rfl
  | v :: cs, k, xs, hz => by
    simp only [frz1L] at hz
    cases h1 : frz1 v with
    | none => rw [h1] at hz; cases hz
    | some x =>
      rw [h1] at hz
      cases h2 : frz1L cs with
      | none => rw [h2] at hz; cases hz
      | some ys =>
        rw [h2] at hz
        cases hz
        show fzU (d + 1) v h lg e (fun y u lg => fzLK (fzU (d + 1)) cs h lg e fun ys us lg => apK u us fun w => k (y :: ys) w lg) = _
        rw [fz1_u d h lg e _ h1, fz1_l d h lg e cs _ h2]
        rfl
theorem fzp_u {v : IV} {x : FV} (h : Hp) (lg : List Ref) (e : Option β) (k : FV → List (Ref × Blk) → List Ref → Option β) (hz : frzP v = some x) : fzU 12 v h lg e k = k x [] lg := by
  cases v with
  | agg cs =>
    simp only [frzP] at hz
    split at hz
    · rename_i hl
      cases h2 : frz1L cs with
      | none => rw [h2] at hz; cases hz
      | some ys =>
        rw [h2] at hz
        cases hz
        show cond (Nat.ble cs.length 300) (fzLK (fzU 11) cs h lg e fun cs u lg => k (.agg cs) u lg) e = _
        rw [ble_dec, decide_eq_true (show cs.length ≤ 300 by omega)]
        exact fz1_l 10 h lg e cs _ h2
    · cases hz
  | _ => exact fz1_u 11 h lg e k hz
theorem fz_p {v : IV} {x : FV} (hz : frzP v = some x) (own : List (Nat × Blk)) : Fz v own x := ⟨[], [], fun e K => fzp_u _ _ e K hz⟩
theorem ans_p {v : IV} {x : FV} (hz : frzP v = some x) (own : List (Nat × Blk)) : Ans (some (v, ⟨own, []⟩)) x := ⟨v, own, rfl, .inl (fz_p hz own)⟩
theorem fr1 {v : IV} {x : FV} (n : Nat) (hz : frz1 v = some x) : frz (n + 1) v = .ret (x, []) := by
  cases v <;> first | (cases hz; rfl) | (cases hz)
theorem fr1_l : ∀ (cs : List IV) (n : Nat) {xs : List FV}, cs.length + 1 < n → frz1L cs = some xs → frzL n cs = .ret (xs, [])
  | [], n + 1, xs, _, hz => by cases hz; rfl
  | v :: cs, n + 2, xs, hn, hz => by
    simp only [frz1L] at hz
    cases h1 : frz1 v with
    | none => rw [h1] at hz; cases hz
    | some x =>
      rw [h1] at hz
      cases h2 : frz1L cs with
      | none => rw [h2] at hz; cases hz
      | some ys =>
        rw [h2] at hz
        cases hz
        simp only [List.length_cons] at hn
        simp only [frzL, fr1 n h1, Rd.bind, fr1_l cs (n + 1) (by omega) h2]
        rfl
theorem frp {v : IV} {x : FV} (n : Nat) (hn : 20 < n) (hz : frzP v = some x) : frz n v = .ret (x, []) := by
  cases n with
  | zero => omega
  | succ n =>
    cases v with
    | agg cs =>
      simp only [frzP] at hz
      split at hz
      · rename_i hl
        cases h2 : frz1L cs with
        | none => rw [h2] at hz; cases hz
        | some ys =>
          rw [h2] at hz
          cases hz
          simp only [frz, fr1_l cs n (by omega) h2, Rd.bind]
      · cases hz
    | _ => exact fr1 n hz
theorem frp_l : ∀ (cs : List IV) (n : Nat) {xs : List FV}, cs.length + 30 < n → frzPL cs = some xs → frzL n cs = .ret (xs, [])
  | [], n + 1, xs, _, hz => by cases hz; rfl
  | v :: cs, n + 1, xs, hn, hz => by
    simp only [frzPL] at hz
    cases h1 : frzP v with
    | none => rw [h1] at hz; cases hz
    | some x =>
      rw [h1] at hz
      cases h2 : frzPL cs with
      | none => rw [h2] at hz; cases hz
      | some ys =>
        rw [h2] at hz
        cases hz
        simp only [List.length_cons] at hn
        simp only [frzL, frp n (by omega) h1, Rd.bind, frp_l cs n (by omega) h2]
        rfl
theorem ans_t {vs : List IV} {xs : List FV} (hz : frzPL vs = some xs) (hl : vs.length ≤ 100) (own : List (Nat × Blk)) : Ans (some (.tuple vs, ⟨own, []⟩)) (.tuple xs) :=
  ⟨_, own, rfl, .inr ⟨fun _ _ => rfl, [], by
    show (frz (4095 + 1) (.tuple vs)).run _ = _
    simp only [frz, frp_l vs 4095 (by omega) hz, Rd.bind]
    rfl⟩⟩
theorem zl_nil : frzPL [] = some [] := rfl
theorem zl_2 {a b : IV} {x y : FV} (ha : frzP a = some x) (hb : frzP b = some y) : frzPL [a, b] = some [x, y] := by simp [frzPL, ha, hb]
theorem zl_3 {a b c : IV} {x y z : FV} (ha : frzP a = some x) (hb : frzP b = some y) (hc : frzP c = some z) : frzPL [a, b, c] = some [x, y, z] := by simp [frzPL, ha, hb, hc]
theorem zl_4 {a b c d : IV} {x y z u : FV} (ha : frzP a = some x) (hb : frzP b = some y) (hc : frzP c = some z) (hd : frzP d = some u) : frzPL [a, b, c, d] = some [x, y, z, u] := by simp [frzPL, ha, hb, hc, hd]
theorem zl_1 {a : IV} {x : FV} (ha : frzP a = some x) : frzPL [a] = some [x] := by simp [frzPL, ha]
theorem frz_args : ∀ (args : List IV) {vs : List FV}, frzPL args = some vs → frzArgs [] args = .ret (vs.map .fv, [], [])
  | [], vs, hz => by cases hz; rfl
  | v :: l, vs, hz => by
    simp only [frzPL] at hz
    cases h1 : frzP v with
    | none => rw [h1] at hz; cases hz
    | some x =>
      rw [h1] at hz
      cases h2 : frzPL l with
      | none => rw [h2] at hz; cases hz
      | some ys =>
        rw [h2] at hz
        cases hz
        simp only [frzArgs, frp 4096 (by omega) h1, Rd.bind, frz_args l h2]
        rfl
theorem fz0 (keep : List Bool) (h : Hp) (lg : List Ref) (e : Option β) (k : List IV → List Ref → List (Ref × Blk) → List Ref → Option β) : fzA [] keep h lg e k = k [] [] [] lg := rfl
theorem fz1 (x : IV) (l : List IV) (h : Hp) (lg : List Ref) (e : Option β) (k : List IV → List Ref → List (Ref × Blk) → List Ref → Option β) :
    fzA (x :: l) [] h lg e k = fzU 12 x h lg e fun y u lg => fzA l [] h lg e fun vs rs us lg => apK u us fun w => k (.fv y :: vs) rs w lg := rfl
theorem fz1k (x : IV) (l : List IV) (ks : List Bool) (h : Hp) (lg : List Ref) (e : Option β) (k : List IV → List Ref → List (Ref × Blk) → List Ref → Option β) :
    fzA (x :: l) (true :: ks) h lg e k = asPtr x (fun r o => fzA l ks h lg e fun vs rs us lg => k (.ptr r o :: vs) (r :: rs) us lg) fun _ _ => e := rfl
theorem fz1f (x : IV) (l : List IV) (ks : List Bool) (h : Hp) (lg : List Ref) (e : Option β) (k : List IV → List Ref → List (Ref × Blk) → List Ref → Option β) :
    fzA (x :: l) (false :: ks) h lg e k = fzU 12 x h lg e fun y u lg => fzA l ks h lg e fun vs rs us lg => apK u us fun w => k (.fv y :: vs) rs w lg := rfl
section
variable (d : Nat) (h : Hp) (lg : List Ref) (e : Option β) (k : FV → List (Ref × Blk) → List Ref → Option β)
theorem fu_agg (cs : List IV) : fzU 12 (.agg cs) h lg e k = cond (Nat.ble cs.length 300) (fzLK (fzU 11) cs h lg e fun cs u lg => k (.agg cs) u lg) e := rfl
theorem fu_ptr (s : Nat) (off : Nat) : fzU 12 (.ptr (.own s) off) h lg e k = getK (.own s) h fun b => asRow b fun cells => cond (Nat.ble cells.length 300) (fzLK (fzU 11) cells h (.own s :: lg) e fun cs u lg => k (.fp cs off) ((.own s, .row cells true) :: u) lg) e := rfl
theorem fv_fv (v : FV) : fzU 11 (.fv v) h lg e k = k v [] lg := rfl
theorem fl0 (g : FzK β) (k : List FV → List (Ref × Blk) → List Ref → Option β) : fzLK g [] h lg e k = k [] [] lg := rfl
theorem fl1 (g : FzK β) (x : IV) (l : List IV) (k : List FV → List (Ref × Blk) → List Ref → Option β) : fzLK g (x :: l) h lg e k = g x h lg e fun y u lg => fzLK g l h lg e fun ys us lg => apK u us fun w => k (y :: ys) w lg := rfl
end
noncomputable def isoC (rs : List Ref) (r : Option (IV × Hp)) (h : Hp) (u : List (Ref × Blk)) (lg : List Ref) (e : Option (IV × Hp)) (g : List Ref → Option (IV × Hp)) (k : IV → Hp → List Ref → List Ref → Option (IV × Hp)) : Option (IV × Hp) := match rs with
  | [] => (match r with
    | none => none
    | some p => match p with
      | (v, h') => match h' with
        | ⟨own, ext⟩ => List.casesOn (motive := fun _ => Option (IV × Hp)) ext (fzU 12 v ⟨own, []⟩ [] e fun w _ _ => layU u h fun h2 => k (.fv w) h2 lg (keys u)) fun _ _ => none)
  | r :: rs => g (r :: rs)
theorem iso_e (keep : List Bool) (ih : Handler) (f : FuncId) (args : List IV) (h : Hp) (k : IV → Hp → List Ref → List Ref → Option (IV × Hp)) : isoS keep false false ih f args h k =
    fzA args keep h [] (isoD keep false false ih f args h k) fun vs rs u lg => isoC rs (ih f vs ⟨[], []⟩) h u lg (isoD keep false false ih f args h k) (fun rs => match rs with
      | [] => none
      | r :: rs => (match h with
        | ⟨own, ext⟩ => cond (goB 400 (r :: rs) 0 ext) (match ih f vs ⟨[], ext⟩ with
          | none => none
          | some p => match p with
            | (v, h') => match h' with
              | ⟨own', ext'⟩ => cond (and (Nat.beq ext'.length ext.length) (okB ext.length ext'))
                (fzU 12 v ⟨own', ext'⟩ [] (isoD keep false false ih f args h k) fun w _ _ => layU u ⟨own, ext'⟩ fun h2 => k (.fv w) h2 ((extsUp ext.length).reverse ++ lg) (keys u ++ extsUp ext.length)) none)
          (isoD keep false false ih f args h k))) k := by
  unfold isoS
  simp only [cond_false]
  congr 1
theorem iso_c {r : Option (IV × Hp)} {w : FV} (hr : AnsF r w) (h : Hp) (u : List (Ref × Blk)) (lg : List Ref) (e : Option (IV × Hp)) (g : List Ref → Option (IV × Hp)) (k : IV → Hp → List Ref → List Ref → Option (IV × Hp)) :
    isoC [] r h u lg e g k = layU u h fun h2 => k (.fv w) h2 lg (keys u) := by
  obtain ⟨v, own, rfl, u', lg', hz⟩ := hr
  simp only [isoC]
  rw [hz]
theorem fza_p : ∀ (args : List IV) {vs : List FV} (h : Hp) (lg : List Ref) (e : Option β) (k : List IV → List Ref → List (Ref × Blk) → List Ref → Option β), frzPL args = some vs → fzA args [] h lg e k = k (vs.map .fv) [] [] lg
  | [], vs, h, lg, e, k, hz => by cases hz; rfl
  | v :: l, vs, h, lg, e, k, hz => by
    simp only [frzPL] at hz
    cases h1 : frzP v with
    | none => rw [h1] at hz; cases hz
    | some x =>
      rw [h1] at hz
      cases h2 : frzPL l with
      | none => rw [h2] at hz; cases hz
      | some ys =>
        rw [h2] at hz
        cases hz
        show fzU 12 v h lg e (fun y u lg => fzA l [] h lg e fun vs rs us lg => apK u us fun w => k (.fv y :: vs) rs w lg) = _
        rw [fzp_u h lg e _ h1, fza_p l h lg e _ h2]
        rfl
theorem renL_fv (f : Ref → Option Ref) : ∀ l : List FV, IV.ren.renL f (l.map .fv) = some (l.map .fv)
  | [] => rfl
  | v :: l => by
    simp only [List.map_cons, IV.ren.renL, IV.ren, renL_fv f l]
    rfl
theorem iso_p {ih : Handler} {f : FuncId} {args : List IV} {vs : List FV} {w : FV} (hz : frzPL args = some vs) (hr : Ans (ih f (vs.map .fv) ⟨[], []⟩) w) (h : Hp) (k : IV → Hp → List Ref → List Ref → Option (IV × Hp)) :
    isoS [] false false ih f args h k = k (.fv w) h [] [] := by
  obtain ⟨v, own, e, hv⟩ := hr
  have hD : (∃ u, (frz 4096 v).run ⟨own, []⟩ = some (w, u)) → isoD [] false false ih f args h k = k (.fv w) h [] [] := by
    rintro ⟨u, hu⟩
    unfold isoD
    simp only [frz_args args hz, Rd.runLog, gather, renL_fv, List.map_nil, renBlks, fL_eq (fV_eq 3), fL_eq fBk_eq, askedD, Bool.false_eq_true, if_false, e, hu, Option.map_some, IV.ren]
    show (match laid h ([] ++ (keys []).zip []) with | none => none | some h' => fH h' fun h' => fV 3 (.fv w) fun res => k res h' [] _) = _
    simp only [keys, List.map_nil, List.zip_nil_left, List.append_nil, laid, fH_eq, fV_eq]
  rw [iso_e, fza_p args h [] _ _ hz, e]
  simp only [isoC]
  rcases hv with ⟨u', lg', hf⟩ | ⟨hf, hu⟩
  · rw [hf]; rfl
  · rw [hf]; exact hD hu
theorem iso_0 {ih : Handler} {f : FuncId} {w : FV} (hr : Ans (ih f [] ⟨[], []⟩) w) (h : Hp) (k : IV → Hp → List Ref → List Ref → Option (IV × Hp)) :
    isoS [] false false ih f [] h k = k (.fv w) h [] [] := iso_p (vs := []) rfl hr h k
theorem iso_1 {ih : Handler} {f : FuncId} {a : IV} {x w : FV} (hr : Ans (ih f [.fv x] ⟨[], []⟩) w) (ha : frzP a = some x) (h : Hp) (k : IV → Hp → List Ref → List Ref → Option (IV × Hp)) :
    isoS [] false false ih f [a] h k = k (.fv w) h [] [] := iso_p (zl_1 ha) hr h k
theorem iso_2 {ih : Handler} {f : FuncId} {a b : IV} {x y w : FV} (hr : Ans (ih f [.fv x, .fv y] ⟨[], []⟩) w) (ha : frzP a = some x) (hb : frzP b = some y) (h : Hp) (k : IV → Hp → List Ref → List Ref → Option (IV × Hp)) :
    isoS [] false false ih f [a, b] h k = k (.fv w) h [] [] := iso_p (zl_2 ha hb) hr h k
theorem iso_3 {ih : Handler} {f : FuncId} {a b c : IV} {x y z w : FV} (hr : Ans (ih f [.fv x, .fv y, .fv z] ⟨[], []⟩) w) (ha : frzP a = some x) (hb : frzP b = some y) (hc : frzP c = some z) (h : Hp) (k : IV → Hp → List Ref → List Ref → Option (IV × Hp)) :
    isoS [] false false ih f [a, b, c] h k = k (.fv w) h [] [] := iso_p (zl_3 ha hb hc) hr h k
theorem gen_val (v : IV) (s : Nat) (h : Hp) (k : IV → Hp → List Ref → List Ref → Option β) : genS (.ret { eff := { val := v } }) s h k = k v h [] [] := by
  unfold genS
  simp only [Rd.runLog, newRefs, fV_eq]
  rfl
theorem gen_val' (v : IV) (s : Nat) (h : Hp) (k : IV → Hp → List Ref → List Ref → Option β) : genS (Idl.val v) s h k = k v h [] [] := gen_val v s h k
theorem bs_tm {e : TypeId} {a b : Nat} {ei : TI} {z : List IV} (hT : E.T t = some ⟨a, b, .slice e, z⟩) (he : E.T e = some ei) {len : Nat} (hs : ¬ (ei.size = 0 ∨ len * ei.size > 65536)) {parts : List (Nat × IV)} {cells : List FV}
    (hf : fillIn (fun j => some (j * ei.size, ei.size)) (rep len ei.zero) parts = some (cells.map .fv)) {s : Nat} {h : Hp} (k : IV → Hp → List Ref → List Ref → Option β) (hc : cells.length < 65000 := by simp) :
    genS (pcBuildSlice E t len parts) s h k = k (.clip (chunks ei.size len cells)) h [] [] := by
  have key : ∀ (l : List FV) (n : Nat), l.length < n → frzL n (l.map .fv) = .ret (l, []) := by
    intro l
    induction l with
    | nil => intro n hn; cases n with
      | zero => simp at hn
      | succ n => rfl
    | cons x l ih => intro n hn; cases n with
      | zero => simp at hn
      | succ n =>
        simp only [List.length_cons] at hn
        cases n with
        | zero => omega
        | succ n =>
          simp only [List.map_cons, frzL, frz, Rd.bind]
          rw [ih (n + 1) (by omega)]
          rfl
  have : pcBuildSlice E t len parts = .ret { eff := { val := .clip (chunks ei.size len cells), upd := [] } } := by
    simp only [pcBuildSlice, hT, he, if_neg hs, hf]
    rw [key _ _ (by omega)]
    rfl
  rw [this, gen_val]
end
end Idl
end Go.Proofs.Ytkfecngimlcfoaa

namespace Go.Proofs.Ytkfecngimlcfoaa
namespace Idl
def XX := And.intro @n0 <| And.intro @n1 <| And.intro @n2 <| And.intro @n3 <| And.intro @n4 <| And.intro @n5 <| And.intro @n6 <| And.intro @d0 <| And.intro @d1 <| And.intro @d2 <| And.intro @d3 <| And.intro @d4 <| And.intro @t1 <| And.intro @t2 <| And.intro @t3 <| And.intro @t4 <| And.intro @t7 <| And.intro @ap0 <| And.intro @ap1 <| And.intro @unc_c <| And.intro @c_t <| And.intro @c_f <| And.intro @g_own <| And.intro @g_ext <| And.intro @o_hit <| And.intro @o_miss <| And.intro @p_nil <| And.intro @p_hit <| And.intro @p_miss <| And.intro @f_nil <| And.intro @f_cons <| And.intro @lay_own <| And.intro @lay_ext <| And.intro @sn0 <| And.intro @new_e <| And.intro @box_agg <| And.intro @box_agg' <| And.intro @box_one <| And.intro @on_int <| And.intro @on_bool <| And.intro @on_sl <| And.intro @on_fp <| And.intro @on_func <| And.intro @on_nilp <| And.intro @on_nils <| And.intro @on_ptr <| And.intro @on_slc <| And.intro @on_app <| And.intro @on_clip <| And.intro @on_emp <| And.intro @on_agg <| And.intro @on_fagg <| And.intro @of_int <| And.intro @of_bool <| And.intro @of_sl <| And.intro @of_fp <| And.intro @of_nilp <| And.intro @of_agg <| And.intro @aof_nil <| And.intro @aof_cons <| And.intro @as_p <| And.intro @as_f <| And.intro @as_row <| And.intro @as_free <| And.intro @as_fv <| And.intro @as_nf1 <| And.intro @as_nf2 <| And.intro @as_nf3 <| And.intro @as_nf4 <| And.intro @as_nf5 <| And.intro @as_nf6 <| And.intro @as_nf7 <| And.intro @as_agF <| And.intro @as_ag <| And.intro @as_ag' <| And.intro @alv_nil <| And.intro @alv_fv <| And.intro @alv_nils <| And.intro @alv_app <| And.intro @alv_clip <| And.intro @alv_ptr <| And.intro @alv_slc <| And.intro @alv_agg <| And.intro @alv_mapr <| And.intro @agg_e <| And.intro @tup_e <| And.intro @l1_e <| And.intro @lA_e <| And.intro @cell_t <| And.intro @cell_f <| And.intro @wr0 <| And.intro @wr1 <| And.intro @sf0 <| And.intro @sf1 <| And.intro @sf2 <| And.intro @sf3 <| And.intro @sf4 <| And.intro @of0 <| And.intro @of1 <| And.intro @of2 <| And.intro @of3 <| And.intro @of6 <| And.intro @sA_f <| And.intro @ml_own <| And.intro @sA_3 <| And.intro @sc3 <| And.intro @s1_e <| And.intro @fa_p <| And.intro @fa_f <| And.intro @nil_p <| And.intro @nil_f <| And.intro @nil_func <| And.intro @ex_t <| And.intro @ex_f <| And.intro @f1_e <| And.intro @fA_e <| And.intro @bld_e <| And.intro @fk0 <| And.intro @fk1 <| And.intro @fp_one <| And.intro @fp_agg <| And.intro @nb3 <| And.intro @nb4 <| And.intro @nb7 <| And.intro @nl3 <| And.intro @and_tt <| And.intro @add_s <| And.intro @sub_s <| And.intro @mul_s <| And.intro @quo_s <| And.intro @rem_s <| And.intro @eq_s <| And.intro @ne_s <| And.intro @lt_s <| And.intro @le_s <| And.intro @gt_s <| And.intro @ge_s <| And.intro @eq_sb <| And.intro @not_s <| And.intro @cd_t <| And.intro @cd_f <| And.intro @cd_d <| And.intro @cd_n <| And.intro @cd_b <| And.intro @pk_e <| And.intro @gd_mt <| And.intro @gd_mf <| And.intro @gd_sf <| And.intro @gd_st <| And.intro @gd_u <| And.intro @ch0 <| And.intro @ch1 <| And.intro @dj0 <| And.intro @djn <| And.intro @dj1 <| And.intro @an0 <| And.intro @an1 <| And.intro @rn_o <| And.intro @rn_oe <| And.intro @rn_eo <| And.intro @out1 <| And.intro @out0 <| And.intro @out2 <| And.intro @out3 <| And.intro @out4 <| And.intro @len_f <| And.intro @len_0 <| And.intro @len_c <| And.intro @len_a <| And.intro @len_s <| And.intro @ix_f <| And.intro @ix_a <| And.intro @ix_c <| And.intro @ix_s <| And.intro @ix0_agg <| And.intro @ix1_agg <| And.intro @ix2_agg <| And.intro @ix3_agg <| And.intro @zp_fv <| And.intro @zp_nils <| And.intro @zp_emp <| And.intro @zp_clip <| And.intro @zp_app <| And.intro @zq_fv <| And.intro @zq_nils <| And.intro @zq_emp <| And.intro @zq_clip <| And.intro @zq_app <| And.intro @zp_3 <| And.intro @zp_4 <| And.intro @zl_nil <| And.intro @zl_2 <| And.intro @zl_3 <| And.intro @zl_4 <| And.intro @zl_1 <| And.intro @gen_val <| @gen_val'
end Idl
end Go.Proofs.Ytkfecngimlcfoaa

namespace Go.Proofs.Ytkfecngimlcfoaa
namespace Idl
theorem loop_run {F : (List IV → Hp → Option (IV × Hp)) → List IV → Hp → Option (IV × Hp)} {Q : Option (IV × Hp) → Prop} (P : Nat → List IV → Hp → Prop)
    (step : ∀ k V H rec, P k V H → (∀ k' V' H', k' < k → P k' V' H' → Q (rec V' H')) → Q (F rec V H)) : ∀ m k V H, k < m → P k V H → Q (loopS m F V H) := by
  intro m
  induction m with
  | zero => intro k V H h; omega
  | succ m ih => intro k V H hk hP; exact step k V H (loopS m F) hP fun k' V' H' h1 h2 => ih k' V' H' (by omega) h2
mutual
def Tm.wt : Tm → Nat
  | .mk _ _ l => 1 + Tm.wtL l
def Tm.wtL : List Tm → Nat
  | [] => 0
  | t :: l => t.wt + Tm.wtL l
end
theorem wt_mem {t : Tm} : ∀ {l : List Tm}, t ∈ l → t.wt ≤ Tm.wtL l
  | a :: l, h => by
    rcases List.mem_cons.1 h with rfl | h
    · simp only [Tm.wtL]; omega
    · have := wt_mem h; simp only [Tm.wtL]; omega
theorem wt_len : ∀ (l : List Tm), l.length ≤ Tm.wtL l
  | [] => Nat.zero_le _
  | (.mk _ _ k) :: l => by have := wt_len l; simp only [Tm.wtL, Tm.wt, List.length_cons]; omega
theorem wt_pos (t : Tm) : 0 < t.wt := by cases t; simp only [Tm.wt]; omega
theorem enc_mk (op n : Int) (l : List Tm) : (Tm.mk op n l).enc = .agg [.int .i64 op, .int .i64 n, .sl (l.map Tm.enc)] := by simp only [Tm.enc, encL_eq]
theorem map_get {l : List Tm} {i : Nat} {op n : Int} {k : List Tm} (h : l[i]? = some (.mk op n k)) : (l.map Tm.enc)[i]? = some (.agg [.int .i64 op, .int .i64 n, .sl (k.map Tm.enc)]) := by
  rw [List.getElem?_map, h, Option.map_some, enc_mk]
theorem at_pre {α : Type} {l pre rest : List α} {a : α} (h : l = pre ++ a :: rest) : l[pre.length]? = some a := by
  rw [h, List.getElem?_append_right (Nat.le_refl _), Nat.sub_self]; rfl
theorem agg3 (a b c : FV) : (FV.agg [a, b, c]).cells = [a, b, c] := rfl
theorem agg3l (a b c : FV) : (FV.agg [a, b, c]).cells.length = 3 := rfl
end Idl
end Go.Proofs.Ytkfecngimlcfoaa

namespace Go.Proofs.Ytkfecngimlcfoaa
namespace Idl
section
variable {β : Type} {E : Env}
noncomputable def tokK (b : Blk) (n sz : Nat) (x : Option β) : Option β := match b with
  | .tok a s => if a = n ∧ s = sz then x else none
  | _ => none
theorem tok_k (n sz : Nat) (x : Option β) : tokK (.tok n sz) n sz x = x := by
  show (if n = n ∧ sz = sz then x else none) = x
  rw [if_pos ⟨rfl, rfl⟩]
inductive Plain2 : IV → List FV → Prop
  | clip (es : List FV) : Plain2 (.clip es) es
  | sl (es : List FV) : Plain2 (.fv (.sl es)) es
  | app (r : Ref) (es : List FV) : Plain2 (.app r es) es
theorem p2_frz {x : IV} {es : List FV} (h : Plain2 x es) : frz 4096 x = .ret (.sl es, []) := by cases h <;> rfl
structure SliceT (E : Env) (t : TypeId) (size : Nat) : Prop where
  h : ∃ a b e z ei, E.T t = some ⟨a, b, .slice e, z⟩ ∧ E.T e = some ei ∧ ei.size = size ∧ size ≠ 0 ∧ ei.bytes ≤ 100000
theorem app_0 {t : TypeId} {size : Nat} (T : SliceT E t size) {x : IV} {es2 : List FV} (hx : Plain2 x es2) (h1 : headOk size es2 = true) (hne : es2.isEmpty = false) (hb : es2.length ≤ 1000000) {s0 : IV} (hs : s0 = .nils ∨ s0 = .clip []) (s : Nat) (own : List (Nat × Blk)) (ext : List Blk)
    (k : IV → Hp → List Ref → List Ref → Option β) : genS (builtinR E s false .append [t, t] [s0, x]) s ⟨own, ext⟩ k = freshK own s (putOwnK own s (.tok es2.length size) fun own => k (.app (.own s) es2) ⟨own, ext⟩ [] [.own s]) := by
  obtain ⟨a, b, e, z, ei, hT, he, rfl, h0, hby⟩ := T.h
  have hlen : ¬ (headOk ei.size [] = false ∨ (([] : List FV).length + es2.length) * ei.bytes > 140737488355328 ∨ ([] : List FV).length + es2.length > 1073741824) := by
    have : es2.length * ei.bytes ≤ 1000000 * 100000 := Nat.mul_le_mul hb hby
    rintro (h | h | h)
    · cases h
    · simp only [List.length_nil, Nat.zero_add] at h; omega
    · simp only [List.length_nil, Nat.zero_add] at h; omega
  have key : builtinR E s false .append [t, t] [s0, x] = .ret { eff := { val := .app (.own s) es2, upd := [] }, new := some (.tok es2.length ei.size) } := by
    show appendR E s t (some t) false s0 x = _
    simp only [appendR, hT, Option.bind_some, he, p2_frz hx, Rd.bind, h0, h1, false_or, Bool.true_eq_false, if_false]
    rcases hs with rfl | rfl <;> simp only [elemsOf, if_neg hlen, hne, List.nil_append, Bool.false_eq_true, if_false]
  rw [key]
  unfold genS
  simp only [Rd.runLog]
  show (newK (some (.tok es2.length ei.size)) s ⟨own, ext⟩ fun h => fV 3 (.app (.own s) es2) fun v => k v h [] ([] ++ [.own s])) = _
  simp only [newK, fBk_eq, fV_eq]
  rfl
theorem app_e {t : TypeId} {size : Nat} (T : SliceT E t size) {x : IV} (hx : Plain2 x []) {s0 : IV} (hs : s0 = .nils ∨ s0 = .clip []) (s : Nat) (h : Hp) (k : IV → Hp → List Ref → List Ref → Option β) :
    genS (builtinR E s false .append [t, t] [s0, x]) s h k = k s0 h [] [] := by
  obtain ⟨a, b, e, z, ei, hT, he, rfl, h0, hby⟩ := T.h
  have hlen : ¬ (headOk ei.size [] = false ∨ (([] : List FV).length + ([] : List FV).length) * ei.bytes > 140737488355328 ∨ ([] : List FV).length + ([] : List FV).length > 1073741824) := by
    rintro (h | h | h)
    · cases h
    · simp at h
    · simp at h
  have key : builtinR E s false .append [t, t] [s0, x] = .ret { eff := { val := s0, upd := [] } } := by
    show appendR E s t (some t) false s0 x = _
    have h1 : headOk ei.size [] = true := rfl
    simp only [appendR, hT, Option.bind_some, he, p2_frz hx, Rd.bind, h0, h1, false_or, Bool.true_eq_false, if_false]
    rcases hs with rfl | rfl
    · simp only [elemsOf]
      rw [if_neg hlen]
      simp
    · simp only [elemsOf]
      rw [if_neg hlen]
      simp
  rw [key]
  exact gen_val s0 s h k
theorem app_1 {t : TypeId} {size : Nat} (T : SliceT E t size) {x : IV} {es es2 : List FV} (hx : Plain2 x es2) (h1 : headOk size es2 = true) (h2 : headOk size es = true) (ho : (es2.all fun e => e.cells.all FV.one) = true) (hb : es.length + es2.length ≤ 1000000) (r s : Nat)
    (own : List (Nat × Blk)) (ext : List Blk) (k : IV → Hp → List Ref → List Ref → Option β) : genS (builtinR E s false .append [t, t] [.app (.own r) es, x]) s ⟨own, ext⟩ k =
      ownK own r fun b => tokK b es.length size (putOwnK own r (.tok (es.length + es2.length) size) fun own => k (.app (.own r) (es ++ es2)) ⟨own, ext⟩ [.own r] [.own r]) := by
  obtain ⟨a, b, e, z, ei, hT, he, rfl, h0, hby⟩ := T.h
  have hlen : ¬ (headOk ei.size es = false ∨ (es.length + es2.length) * ei.bytes > 140737488355328 ∨ es.length + es2.length > 1073741824) := by
    have : (es.length + es2.length) * ei.bytes ≤ 1000000 * 100000 := Nat.mul_le_mul hb hby
    rintro (h | h | h)
    · rw [h2] at h; cases h
    · omega
    · omega
  have key : (builtinR E s false .append [t, t] [.app (.own r) es, x]).runLog ⟨own, ext⟩ [] = (lookupOwn r own).bind fun b => match b with
      | .tok n sz => if n = es.length ∧ sz = ei.size then some ({ eff := { val := .app (.own r) (es ++ es2), upd := [(.own r, .tok (n + es2.length) sz)] } }, [.own r]) else none
      | _ => none := by
    show (appendR E s t (some t) false (.app (.own r) es) x).runLog _ _ = _
    simp only [appendR, hT, Option.bind_some, he, p2_frz hx, Rd.bind, h0, h1, false_or, Bool.true_eq_false, if_false, elemsOf, if_neg hlen, Rd.runLog, ho, and_true]
    show (match lookupOwn r own with | some b => _ | none => none) = _
    cases lookupOwn r own with
    | none => rfl
    | some b =>
      cases b with
      | tok n sz =>
        simp only [Option.bind_some]
        by_cases hc : n = es.length ∧ sz = ei.size
        · rw [if_pos hc, if_pos hc]; rfl
        · rw [if_neg hc, if_neg hc]; rfl
      | _ => rfl
  unfold genS
  rw [key, ownK_eq]
  cases hl : lookupOwn r own with
  | none => simp
  | some b =>
    simp only [Option.bind_some]
    cases b with
    | tok n sz =>
      simp only [tokK]
      by_cases hc : n = es.length ∧ sz = ei.size
      · rw [if_pos hc, if_pos hc]
        obtain ⟨rfl, rfl⟩ := hc
        show (fRf (.own r) fun q => getK q ⟨own, ext⟩ fun _ => fBk (.tok (es.length + es2.length) ei.size) fun b => layK q b ⟨own, ext⟩ fun h => newK none s h fun h => fV 3 (.app (.own r) (es ++ es2)) fun v => k v h [.own r] ([.own r] ++ [])) = _
        simp only [fRf_eq, fBk_eq, fV_eq, newK, layK, getK]
        rw [ownK_eq, hl]
        rfl
      · rw [if_neg hc, if_neg hc]
    | row _ _ => rfl
    | map _ => rfl
end
end Idl
end Go.Proofs.Ytkfecngimlcfoaa

namespace Go.Proofs.Ytkfecngimlcfoaa
namespace Idl
theorem tTms : EE.T 28 = some ⟨1, 24, .slice 30, [.nils]⟩ := by kernel_rfl
theorem tTm : EE.T 30 = some ⟨3, 40, .struct [(0, 3), (1, 3), (2, 28)], [.fv (.int .i64 0), .fv (.int .i64 0), .nils]⟩ := by kernel_rfl
theorem sTm : SliceT EE 28 3 := ⟨_, _, _, _, _, tTms, tTm, rfl, by decide, by decide⟩
theorem bs1_tm (a : Tm) (s : Nat) (h : Hp) (k : IV → Hp → List Ref → List Ref → Option (IV × Hp)) : genS (pcBuildSlice EE 28 1 [(0, .fv a.enc)]) s h k = k (.clip [a.enc]) h [] [] := by
  obtain ⟨o1, n1, k1⟩ := a
  exact bs_tm tTms tTm (by decide) (cells := [.int .i64 o1, .int .i64 n1, .sl (Tm.enc.encL k1)]) rfl k
theorem bs2_tm (a b : Tm) (s : Nat) (h : Hp) (k : IV → Hp → List Ref → List Ref → Option (IV × Hp)) : genS (pcBuildSlice EE 28 2 [(0, .fv a.enc), (1, .fv b.enc)]) s h k = k (.clip [a.enc, b.enc]) h [] [] := by
  obtain ⟨o1, n1, k1⟩ := a
  obtain ⟨o2, n2, k2⟩ := b
  exact bs_tm tTms tTm (by decide) (cells := [.int .i64 o1, .int .i64 n1, .sl (Tm.enc.encL k1), .int .i64 o2, .int .i64 n2, .sl (Tm.enc.encL k2)]) rfl k
theorem enc_len (a : Tm) : a.enc.cells.length = 3 := by cases a; rfl
theorem enc_one (a : Tm) : a.enc.cells.all FV.one = true := by cases a; rfl
theorem head_tm (l : List Tm) : headOk 3 (l.map Tm.enc) = true := by
  cases l with
  | nil => rfl
  | cons a l => simp only [List.map_cons, headOk, enc_len, beq_self_eq_true]
theorem app1_tm {es : List Tm} (hb : es.length + 1 ≤ 1000000) (e : Tm) (r s : Nat) (own : List (Nat × Blk)) (ext : List Blk) (k : IV → Hp → List Ref → List Ref → Option (IV × Hp)) :
    genS (builtinR EE s false .append [28, 28] [.app (.own r) (es.map Tm.enc), .clip [e.enc]]) s ⟨own, ext⟩ k =
      ownK own r fun b => tokK b es.length 3 (putOwnK own r (.tok (es.length + 1) 3) fun own => k (.app (.own r) ((es ++ [e]).map Tm.enc)) ⟨own, ext⟩ [.own r] [.own r]) := by
  rw [app_1 sTm (.clip [e.enc]) (head_tm [e]) (head_tm es) (by simp [enc_one]) (by simpa using hb) r s own ext k]
  simp only [List.length_map, List.map_append, List.map_cons, List.map_nil, List.length_cons, List.length_nil, Nat.zero_add]
theorem emod_w {x m : Int} (h1 : 0 < m) (h2 : m ≤ 4611686018427387904) : (if x.tmod m < 0 then w64 (x.tmod m + m) else x.tmod m) = x % m := by
  have a1 := Int.emod_nonneg x (show m ≠ 0 by omega)
  have a2 := Int.emod_lt_of_pos x h1
  have e1 : x.tmod m = x - m * x.tdiv m := by have := Int.mul_tdiv_add_tmod x m; omega
  have e2 : x % m = x - m * (x / m) := by have := Int.mul_ediv_add_emod x m; omega
  have b1 : -m < x.tmod m := Int.lt_tmod_of_pos x h1
  have b2 : x.tmod m < m := Int.tmod_lt_of_pos x h1
  have key : ∃ q, x.tmod m = x % m + m * q := ⟨x / m - x.tdiv m, by rw [e1, e2, Int.mul_sub]; omega⟩
  obtain ⟨q, hq⟩ := key
  have hq2 : q = 0 ∨ q = -1 := by
    rcases Int.lt_trichotomy q 0 with h | h | h
    · right
      rcases Int.lt_trichotomy q (-1) with h' | h' | h'
      · have : m * q ≤ m * (-2) := Int.mul_le_mul_of_nonneg_left (by omega) (by omega)
        omega
      · exact h'
      · omega
    · exact .inl h
    · have : m * 1 ≤ m * q := Int.mul_le_mul_of_nonneg_left (by omega) (by omega)
      omega
  rcases hq2 with rfl | rfl
  · rw [if_neg (by omega)]; omega
  · rw [if_pos (by omega), w64_id (by omega) (by omega)]; omega
theorem within4_ok {n : Nat} (hn : 0 < n) (x : Int) {m : Int} (h1 : 0 < m) (h2 : m ≤ 4611686018427387904) : Ans (SS dt n 55 [iv x, iv m] ⟨[], []⟩) (.int .i64 (x % m)) := by
  obtain ⟨n, rfl⟩ := Nat.exists_eq_add_of_lt hn
  rw [Nat.zero_add, c55]
  simp only [S55, ↓XX, ↓reduceIte, Nat.reduceBEq, decide_true, decide_false, Bool.not_true, Bool.not_false, List.map_cons, List.map_nil, List.length_map, List.length_cons, List.length_nil, Nat.reduceAdd, Int.cast_ofNat_Int, Int.natCast_zero, Int.natCast_one, Bool.false_eq_true, Bool.true_eq_false, decide_eq_true_eq, eq_self, Int.reduceEq, Int.reduceLT, Int.reduceLE, Bool.and_true, Bool.true_and, Bool.and_false, Bool.false_and, Nat.zero_add, ↓rem_s (show m ≠ 0 by omega)]
  rw [← emod_w h1 h2]
  by_cases hc : x.tmod m < 0 <;> simp only [hc, if_true, if_false] <;> exact ans_fv _ _
theorem t0_ok {n : Nat} (hn : 0 < n) (op : Int) : Ans (SS dt n 24 [iv op, .fv (.sl [])] ⟨[], []⟩) (Tm.mk op 0 []).enc := by
  obtain ⟨n, rfl⟩ := Nat.exists_eq_add_of_lt hn
  rw [Nat.zero_add, c24]
  simp only [S24, ↓XX, ↓reduceIte, Nat.reduceBEq, decide_true, decide_false, Bool.not_true, Bool.not_false, List.map_cons, List.map_nil, List.length_map, List.length_cons, List.length_nil, Nat.reduceAdd, Int.cast_ofNat_Int, Int.natCast_zero, Int.natCast_one, Bool.false_eq_true, Bool.true_eq_false, decide_eq_true_eq, eq_self, Int.reduceEq, Int.reduceLT, Int.reduceLE, Bool.and_true, Bool.true_and, Bool.and_false, Bool.false_and, Nat.zero_add]
  exact ans_fv _ _
theorem t_ok {n : Nat} (hn : 0 < n) (op : Int) (l : List Tm) : Ans (SS dt n 24 [iv op, .fv (.sl (l.map Tm.enc))] ⟨[], []⟩) (Tm.mk op 0 l).enc := by
  obtain ⟨n, rfl⟩ := Nat.exists_eq_add_of_lt hn
  rw [Nat.zero_add, c24]
  simp only [S24, ↓XX, ↓reduceIte, Nat.reduceBEq, decide_true, decide_false, Bool.not_true, Bool.not_false, List.map_cons, List.map_nil, List.length_map, List.length_cons, List.length_nil, Nat.reduceAdd, Int.cast_ofNat_Int, Int.natCast_zero, Int.natCast_one, Bool.false_eq_true, Bool.true_eq_false, decide_eq_true_eq, eq_self, Int.reduceEq, Int.reduceLT, Int.reduceLE, Bool.and_true, Bool.true_and, Bool.and_false, Bool.false_and, Nat.zero_add, enc_mk]
  exact ans_fv _ _
def Tm.kids : Tm → List Tm
  | .mk _ _ l => l
def Tm.op : Tm → Int
  | .mk o _ _ => o
def Tm.n : Tm → Int
  | .mk _ n _ => n
def Tm.pick (r : Tm) (i : Nat) : Tm := match r.kids[i]? with
  | some k => k
  | none => .mk (w64 (w64 (r.op.tdiv 3) + i)) (w64 (w64 (r.n.tdiv 5) + w64 (7 * i))) []
theorem pick_ok {n : Nat} (hn : 0 < n) (r : Tm) (i : Nat) : Ans (SS dt n 56 [.fv r.enc, iv i] ⟨[], []⟩) (r.pick i).enc := by
  obtain ⟨n, rfl⟩ := Nat.exists_eq_add_of_lt hn
  rw [Nat.zero_add, c56]
  obtain ⟨op, m, ks⟩ := r
  rw [enc_mk]
  simp only [Tm.pick, Tm.kids, Tm.op, Tm.n]
  cases hk : ks[i]? with
  | some k =>
    have hi : (i : Int) < ks.length := by have := (List.getElem?_eq_some_iff.1 hk).1; omega
    obtain ⟨o, p, l⟩ := k
    simp only [S56_42, S56_43, S56_44, S56_45, S56, ↓XX, ↓reduceIte, Nat.reduceBEq, decide_true, decide_false, Bool.not_true, Bool.not_false, List.map_cons, List.map_nil, List.length_map, List.length_cons, List.length_nil, Nat.reduceAdd, Int.cast_ofNat_Int, Int.natCast_zero, Int.natCast_one, Bool.false_eq_true, Bool.true_eq_false, decide_eq_true_eq, eq_self, Int.reduceEq, Int.reduceLT, Int.reduceLE, Bool.and_true, Bool.true_and, Bool.and_false, Bool.false_and, Nat.zero_add, hi, ↓ix_f (map_get hk) (agg3l _ _ _), ↓agg3, enc_mk]
    exact ans_fv _ _
  | none =>
    have hi : ¬ (i : Int) < ks.length := by have := List.getElem?_eq_none_iff.1 hk; omega
    simp only [S56_42, S56_43, S56_44, S56_45, S56, ↓XX, ↓reduceIte, Nat.reduceBEq, decide_true, decide_false, Bool.not_true, Bool.not_false, List.map_cons, List.map_nil, List.length_map, List.length_cons, List.length_nil, Nat.reduceAdd, Int.cast_ofNat_Int, Int.natCast_zero, Int.natCast_one, Bool.false_eq_true, Bool.true_eq_false, decide_eq_true_eq, eq_self, Int.reduceEq, Int.reduceLT, Int.reduceLE, Bool.and_true, Bool.true_and, Bool.and_false, Bool.false_and, Nat.zero_add, hi, ↓quo_s (show (3 : Int) ≠ 0 by decide), ↓quo_s (show (5 : Int) ≠ 0 by decide)]
    exact ans_p rfl _
end Idl
end Go.Proofs.Ytkfecngimlcfoaa

namespace Go.Proofs.Ytkfecngimlcfoaa
namespace Idl
section
variable {β : Type}
def namesV (s : Nat) : IV → Bool
  | .ptr (.own j) _ => s == j
  | .slc (.own j) _ _ => s == j
  | .app (.own j) _ => s == j
  | .mapr (.own j) => s == j
  | _ => false
def flatV : IV → Bool
  | .agg _ | .tuple _ | .func .. => false
  | _ => true
def namesB (s : Nat) : Blk → Bool
  | .row cells _ => cells.any (namesV s)
  | _ => false
def flatB : Blk → Bool
  | .row cells _ => cells.all flatV
  | .tok .. => true
  | .map _ => false
theorem flat_refs {v : IV} (h : flatV v = true) (s : Nat) : (Ref.own s ∈ v.refs) ↔ namesV s v = true := by
  cases v with
  | ptr r o => cases r <;> simp [IV.refs, namesV]
  | slc r a b => cases r <;> simp [IV.refs, namesV]
  | app r es => cases r <;> simp [IV.refs, namesV]
  | mapr r => cases r <;> simp [IV.refs, namesV]
  | agg _ => cases h
  | tuple _ => cases h
  | func _ _ _ => cases h
  | _ => simp [IV.refs, namesV]
theorem flat_refsL : ∀ {l : List IV}, l.all flatV = true → ∀ s, (Ref.own s ∈ IV.refs.refsL l) ↔ l.any (namesV s) = true
  | [], _, s => by simp [IV.refs.refsL]
  | v :: l, h, s => by
    rw [List.all_cons, Bool.and_eq_true] at h
    rw [IV.refs.refsL, List.mem_append, List.any_cons, Bool.or_eq_true, flat_refs h.1, flat_refsL h.2]
theorem flat_refsB {b : Blk} (h : flatB b = true) (s : Nat) : (Ref.own s ∈ b.refs) ↔ namesB s b = true := by
  cases b with
  | row cells ro => exact flat_refsL h s
  | tok n sz => simp [Blk.refs, namesB]
  | map es => cases h
theorem anyIn_one (s : Nat) : ∀ l : List Ref, anyIn [s] l = true ↔ Ref.own s ∈ l
  | [] => by simp [anyIn]
  | .own k :: l => by
    rw [anyIn, Bool.or_eq_true, anyIn_one s l, List.mem_cons]
    simp [eq_comm]
  | .ext k :: l => by
    rw [anyIn, anyIn_one s l, List.mem_cons]
    simp
def heldB (rm : List Nat) (vals : List IV) (own : List (Nat × Blk)) (ext : List Blk) (s : Nat) : Bool :=
  vals.any (namesV s) || (own.any (fun p => !rm.contains p.1 && namesB s p.2) || ext.any (namesB s))
def stays (rm : List Nat) (vals : List IV) (own : List (Nat × Blk)) (ext : List Blk) : List (Nat × Blk) := own.filter fun p => !rm.contains p.1 || heldB rm vals own ext p.1
def flatD (rm : List Nat) (vals : List IV) (own : List (Nat × Blk)) (ext : List Blk) : Bool :=
  vals.all flatV && (own.all (fun p => flatB p.2) && (ext.all flatB && own.all fun p => !rm.contains p.1 || rm.all fun s => !namesB s p.2))
theorem held_mem {rm : List Nat} {vals : List IV} {own : List (Nat × Blk)} {ext : List Blk} (hf : flatD rm vals own ext = true) (s : Nat) :
    Ref.own s ∈ IV.refs.refsL vals ++ (own.filter fun p => !rm.contains p.1).flatMap (fun p => p.2.refs) ++ ext.flatMap Blk.refs ↔ heldB rm vals own ext s = true := by
  simp only [flatD, Bool.and_eq_true] at hf
  obtain ⟨h1, h2, h3, _⟩ := hf
  have e1 : Ref.own s ∈ (own.filter fun p => !rm.contains p.1).flatMap (fun p => p.2.refs) ↔ (own.any fun p => !rm.contains p.1 && namesB s p.2) = true := by
    rw [List.mem_flatMap, List.any_eq_true]
    constructor
    · rintro ⟨p, hp, hr⟩
      obtain ⟨hp1, hp2⟩ := List.mem_filter.1 hp
      exact ⟨p, hp1, by rw [hp2, (flat_refsB (List.all_eq_true.1 h2 p hp1) s).1 hr]; rfl⟩
    · rintro ⟨p, hp, hr⟩
      rw [Bool.and_eq_true] at hr
      exact ⟨p, List.mem_filter.2 ⟨hp, hr.1⟩, (flat_refsB (List.all_eq_true.1 h2 p hp) s).2 hr.2⟩
  have e2 : Ref.own s ∈ ext.flatMap Blk.refs ↔ ext.any (namesB s) = true := by
    rw [List.mem_flatMap, List.any_eq_true]
    constructor
    · rintro ⟨p, hp, hr⟩
      exact ⟨p, hp, (flat_refsB (List.all_eq_true.1 h3 p hp) s).1 hr⟩
    · rintro ⟨p, hp, hr⟩
      exact ⟨p, hp, (flat_refsB (List.all_eq_true.1 h3 p hp) s).2 hr⟩
  rw [List.mem_append, List.mem_append, flat_refsL h1, e1, e2, heldB, Bool.or_eq_true, Bool.or_eq_true, or_assoc]
theorem drop_e {base rm : List Nat} {vals : List IV} {own : List (Nat × Blk)} {ext : List Blk} (hb : rm.any base.contains = false) (hf : flatD rm vals own ext = true) (k : Hp → Option β) :
    dropS base rm vals ⟨own, ext⟩ k = k ⟨stays rm vals own ext, ext⟩ := by
  have hm := held_mem hf
  have hf0 := hf
  simp only [flatD, Bool.and_eq_true] at hf0
  obtain ⟨g1, g2, g3, g4⟩ := hf0
  unfold dropS
  rw [hb]
  simp only [cond_false]
  rw [anyO_eq]
  cases ha : (own.all fun p => !rm.contains p.1) with
  | true =>
    simp only [Bool.not_true, cond_false]
    congr 2
    symm
    apply List.filter_eq_self.2
    intro p hp
    rw [List.all_eq_true.1 ha p hp]; rfl
  | false =>
    simp only [Bool.not_false, cond_true]
    have slow : (match dropAt base [] rm ⟨vals, ⟨own, ext⟩⟩ with | none => none | some S => fH S.hp k) = k ⟨stays rm vals own ext, ext⟩ := by
      have hgone : (rm.filter fun k => !anyIn [k] (IV.refs.refsL vals ++ (own.filter fun p => !rm.contains p.1).flatMap (fun p => p.2.refs) ++ ext.flatMap Blk.refs)) = rm.filter fun s => !heldB rm vals own ext s := by
        apply List.filter_congr
        intro s _
        congr 1
        exact Bool.eq_iff_iff.2 ((anyIn_one s _).trans (hm s))
      have hown : (own.filter fun p => !(rm.filter fun s => !heldB rm vals own ext s).contains p.1) = stays rm vals own ext := by
        apply List.filter_congr
        intro p _
        rw [Bool.eq_iff_iff]
        simp only [Bool.not_eq_true', Bool.or_eq_true, List.contains_eq_mem, decide_eq_false_iff_not, List.mem_filter]
        constructor
        · intro h
          by_cases h1 : p.1 ∈ rm
          · right
            cases hh : heldB rm vals own ext p.1 with
            | true => rfl
            | false => exact absurd ⟨h1, hh⟩ h
          · exact .inl h1
        · rintro (h | h) ⟨h1, h2⟩
          · exact h h1
          · rw [h] at h2; exact absurd h2 (by simp)
      simp only [dropAt, hb, Bool.false_eq_true, if_false, killSlots, ha, hgone, hown]
      have hnone : anyIn (rm.filter fun s => !heldB rm vals own ext s) (refsOfSt ⟨vals, ⟨stays rm vals own ext, ext⟩⟩) = false := by
        apply anyIn_none
        intro s hs hmem
        obtain ⟨hs1, hs2⟩ := List.mem_filter.1 hs
        have hs2 : heldB rm vals own ext s = false := by simpa using hs2
        simp only [refsOfSt, List.mem_append] at hmem
        rcases hmem with (hmem | hmem) | hmem
        · have := (hm s).1 (List.mem_append_left _ (List.mem_append_left _ hmem))
          rw [this] at hs2; cases hs2
        · obtain ⟨p, hp, hr⟩ := List.mem_flatMap.1 hmem
          have hp1 := (List.mem_filter.1 hp).1
          have hn := (flat_refsB (List.all_eq_true.1 g2 p hp1) s).1 hr
          have h4 := List.all_eq_true.1 g4 p hp1
          cases hc : rm.contains p.1 with
          | true =>
            rw [hc] at h4
            have h4 : (rm.all fun s => !namesB s p.2) = true := h4
            have h5 := List.all_eq_true.1 h4 s hs1
            rw [hn] at h5; cases h5
          | false =>
            have := (hm s).1 (List.mem_append_left _ (List.mem_append_right _ (List.mem_flatMap.2 ⟨p, List.mem_filter.2 ⟨hp1, by rw [hc]; rfl⟩, hr⟩)))
            rw [this] at hs2; cases hs2
        · have := (hm s).1 (List.mem_append_right _ hmem)
          rw [this] at hs2; cases hs2
      simp only [hnone, Bool.false_eq_true, if_false, fH_eq]
    cases hff : (and (freeR rm (refsDL vals [])) (and (freeO rm own) (freeE rm ext))) with
    | false => exact slow
    | true =>
      have hff : (freeR rm (refsDL vals []) && (freeO rm own && freeE rm ext)) = true := hff
      simp only [Bool.and_eq_true] at hff
      simp only [filtK_eq, cond_true]
      congr 2
      apply List.filter_congr
      intro p hp
      cases hc : rm.contains p.1 with
      | false => rfl
      | true =>
        have h1 := freeR_ok hff.1
        rw [refsDL_eq, List.append_nil] at h1
        have h2 := freeO_ok hff.2.1
        have h3 := freeE_ok hff.2.2
        have : heldB rm vals own ext p.1 = false := by
          cases hh : heldB rm vals own ext p.1 with
          | false => rfl
          | true =>
            have := (hm p.1).2 hh
            have hpm : p.1 ∈ rm := List.contains_iff_mem.1 hc
            rcases List.mem_append.1 this with h | h
            · rcases List.mem_append.1 h with h | h
              · exact absurd h (h1 _ hpm)
              · exact absurd h (h2 _ hpm)
            · exact absurd h (h3 _ hpm)
        rw [this]; rfl
end
section
variable (s j : Nat)
theorem st_e (rm : List Nat) (vals : List IV) (own : List (Nat × Blk)) (ext : List Blk) : stays rm vals own ext = own.filter fun p => !rm.contains p.1 || heldB rm vals own ext p.1 := rfl
theorem nv1 (o : Nat) : namesV s (.ptr (.own j) o) = (s == j) := rfl
theorem nv2 (a b : Nat) : namesV s (.slc (.own j) a b) = (s == j) := rfl
theorem nv3 (es : List FV) : namesV s (.app (.own j) es) = (s == j) := rfl
theorem nv4 (v : FV) : namesV s (.fv v) = false := rfl
theorem nv5 : namesV s .nils = false := rfl
theorem nv6 (es : List FV) : namesV s (.clip es) = false := rfl
theorem nv7 (o : Nat) : namesV s (.ptr (.ext j) o) = false := rfl
theorem nv8 : namesV s .dead = false := rfl
theorem nb1 (cs : List IV) (ro : Bool) : namesB s (.row cs ro) = cs.any (namesV s) := rfl
theorem nb2 (a b : Nat) : namesB s (.tok a b) = false := rfl
theorem fl_1 (r : Ref) (o : Nat) : flatV (.ptr r o) = true := rfl
theorem fl_2 (r : Ref) (a b : Nat) : flatV (.slc r a b) = true := rfl
theorem fl_3 (r : Ref) (es : List FV) : flatV (.app r es) = true := rfl
theorem fl_4 (v : FV) : flatV (.fv v) = true := rfl
theorem fl_5 : flatV .nils = true := rfl
theorem fl_6 (es : List FV) : flatV (.clip es) = true := rfl
theorem fl_7 : flatV .dead = true := rfl
theorem fb_1 (cs : List IV) (ro : Bool) : flatB (.row cs ro) = cs.all flatV := rfl
theorem fb_2 (a b : Nat) : flatB (.tok a b) = true := rfl
end
def XD := And.intro @st_e <| And.intro @nv1 <| And.intro @nv2 <| And.intro @nv3 <| And.intro @nv4 <| And.intro @nv5 <| And.intro @nv6 <| And.intro @nv7 <| And.intro @nv8 <| And.intro @nb1 <| And.intro @nb2 <| And.intro @fl_1 <| And.intro @fl_2 <| And.intro @fl_3 <| And.intro @fl_4 <| And.intro @fl_5 <| And.intro @fl_6 <| And.intro @fl_7 <| And.intro @fb_1 <| @fb_2
end Idl
end Go.Proofs.Ytkfecngimlcfoaa

namespace Go.Proofs.Ytkfecngimlcfoaa
namespace Idl
def bindN (op : Int) (i : Nat) : Nat :=
  if op = 3 ∨ op = 4 ∨ op = 6 ∨ op = 20 ∨ op = 28 ∨ op = 29 then (if i = 1 then 1 else 0) else if op = 13 then (if i = 0 then 1 else if i = 2 then 2 else 0) else 0
theorem bindN_le (op : Int) (i : Nat) : bindN op i ≤ 2 := by
  unfold bindN
  repeat' split
  all_goals omega
theorem v_ok {n : Nat} (hn : 0 < n) (x : Int) : Ans (SS dt n 25 [iv x] ⟨[], []⟩) (Tm.mk 1 x []).enc := by
  obtain ⟨n, rfl⟩ : ∃ k, n = k + 1 := ⟨n - 1, by omega⟩
  rw [c25]
  simp only [S25, ↓XX, ↓reduceIte, Nat.reduceBEq, decide_true, decide_false, Bool.not_true, Bool.not_false, List.map_cons, List.map_nil, List.length_map, List.length_cons, List.length_nil, Nat.reduceAdd, Int.cast_ofNat_Int, Int.natCast_zero, Int.natCast_one, Bool.false_eq_true, Bool.true_eq_false, decide_eq_true_eq, eq_self, Int.reduceEq, Int.reduceLT, Int.reduceLE, Bool.and_true, Bool.true_and, Bool.and_false, Bool.false_and, Nat.zero_add]
  exact ans_p rfl _
mutual
/-- No more than four kids anywhere. -/
def Tm.wk : Tm → Prop
  | .mk _ _ ks => ks.length ≤ 4 ∧ Tm.wkL ks
def Tm.wkL : List Tm → Prop
  | [] => True
  | t :: l => t.wk ∧ Tm.wkL l
end
mutual
def Tm.shift : Tm → Int → Int → Tm
  | .mk op n ks, d, c => .mk op (if op = 1 ∧ c ≤ n then w64 (n + d) else n) (Tm.shiftL op 0 ks d c)
def Tm.shiftL : Int → Nat → List Tm → Int → Int → List Tm
  | _, _, [], _, _ => []
  | op, i, t :: l, d, c => t.shift d (c + bindN op i) :: Tm.shiftL op (i + 1) l d c
end
end Idl
end Go.Proofs.Ytkfecngimlcfoaa

namespace Go.Proofs.Ytkfecngimlcfoaa
namespace Idl
mutual
def Tm.subst : Tm → Int → Int → Tm → Tm
  | .mk op m ks, n, d, u => if op = 1 then (if m = n then u.shift d 0 else if n < m then .mk 1 (w64 (m - 1)) [] else .mk op m ks) else .mk op m (Tm.substL op 0 ks n d u)
def Tm.substL : Int → Nat → List Tm → Int → Int → Tm → List Tm
  | _, _, [], _, _, _ => []
  | op, i, t :: l, n, d, u => t.subst (n + bindN op i) (d + bindN op i) u :: Tm.substL op (i + 1) l n d u
end
mutual
def Tm.same : Tm → Tm → Bool
  | .mk o n l, .mk o' n' l' => decide (o = o') && (decide (n = n') && (decide (l.length = l'.length) && Tm.sameL l l'))
def Tm.sameL : List Tm → List Tm → Bool
  | a :: l, b :: l' => a.same b && Tm.sameL l l'
  | _, _ => true
end
mutual
theorem same_eq : ∀ a b : Tm, a.same b = true ↔ a = b
  | .mk o n l, .mk o' n' l' => by
    simp only [Tm.same, Bool.and_eq_true, decide_eq_true_eq, Tm.mk.injEq]
    constructor
    · rintro ⟨rfl, rfl, h1, h2⟩
      exact ⟨rfl, rfl, (sameL_eq l l' h1).1 h2⟩
    · rintro ⟨rfl, rfl, rfl⟩
      exact ⟨rfl, rfl, rfl, (sameL_eq l l rfl).2 rfl⟩
theorem sameL_eq : ∀ l l' : List Tm, l.length = l'.length → (Tm.sameL l l' = true ↔ l = l')
  | [], [], _ => by simp [Tm.sameL]
  | a :: l, b :: l', h => by
    simp only [Tm.sameL, Bool.and_eq_true, List.cons.injEq, same_eq a b, sameL_eq l l' (by simpa using h)]
end
theorem same_ok : ∀ (n : Nat) (a b : Tm), a.wt + 1 < n → a.wt ≤ 1152921504606846976 → Ans (SS dt n 17 [.fv a.enc, .fv b.enc] ⟨[], []⟩) (.bool (a.same b)) := by
  intro n
  induction n with
  | zero => intro a b h; omega
  | succ n ih =>
    intro a b h hw
    obtain ⟨op, m, ks⟩ := a
    obtain ⟨op', m', ks'⟩ := b
    simp only [Tm.wt] at h hw
    rw [c17, enc_mk, enc_mk]
    have hlen := wt_len ks
    rw [Tm.same]
    by_cases h1 : op = op'
    · by_cases h2 : m = m'
      · by_cases h3 : ks.length = ks'.length
        · have h3' : (ks.length : Int) = ks'.length := by omega
          subst h1 h2
          simp only [S17_128, S17_129, S17_130, S17_131, S17_132, S17_134, S17_135, S17_136, S17_137, S17, ↓XX, ↓reduceIte, Nat.reduceBEq, decide_true, decide_false, Bool.not_true, Bool.not_false, List.map_cons, List.map_nil, List.length_map, List.length_cons, List.length_nil, Nat.reduceAdd, Int.cast_ofNat_Int, Int.natCast_zero, Int.natCast_one, Bool.false_eq_true, Bool.true_eq_false, decide_eq_true_eq, eq_self, Int.reduceEq, Int.reduceLT, Int.reduceLE, Bool.and_true, Bool.true_and, Bool.and_false, Bool.false_and, Nat.zero_add, h3, h3', Tm.same]
          refine loop_run (Q := fun r => Ans r _) (fun k V H => ∃ pre rest pre' rest', ks = pre ++ rest ∧ ks' = pre' ++ rest' ∧ pre.length = pre'.length ∧ rest.length = k ∧ V = [.ptr (.own 17825792) 0, .ptr (.own 17825793) 0, iv pre.length] ∧
            H = ⟨[(17825792, .row [iv op, iv m, .fv (.sl (ks.map Tm.enc))] false), (17825793, .row [iv op, iv m, .fv (.sl (ks'.map Tm.enc))] false)], []⟩ ∧ Tm.sameL rest rest' = Tm.sameL ks ks')
            ?_ n ks.length _ _ (by omega) ⟨[], ks, [], ks', rfl, rfl, rfl, rfl, rfl, rfl, rfl⟩
          rintro k V H rec ⟨pre, rest, pre', rest', hk, hk', hpl, hl, rfl, rfl, ht⟩ hrec
          have hkl : ks.length = pre.length + rest.length := by rw [hk]; simp
          have hkl' : ks'.length = pre'.length + rest'.length := by rw [hk']; simp
          cases rest with
          | nil =>
            have hno : ¬ ((pre.length : Int) < ks.length) := by rw [hkl]; simp
            rw [← ht]
            simp only [S17_128, S17_129, S17_130, S17_131, S17_132, S17_133, S17_134, S17_135, S17_136, S17_137, S17, ↓XX, ↓reduceIte, Nat.reduceBEq, decide_true, decide_false, Bool.not_true, Bool.not_false, List.map_cons, List.map_nil, List.length_map, List.length_cons, List.length_nil, Nat.reduceAdd, Int.cast_ofNat_Int, Int.natCast_zero, Int.natCast_one, Bool.false_eq_true, Bool.true_eq_false, decide_eq_true_eq, eq_self, Int.reduceEq, Int.reduceLT, Int.reduceLE, Bool.and_true, Bool.true_and, Bool.and_false, Bool.false_and, Nat.zero_add, hno, Tm.sameL]
            exact ans_fv _ _
          | cons t rest =>
            cases rest' with
            | nil => simp at hkl hkl'; omega
            | cons t' rest' =>
              have hi : (pre.length : Int) < ks.length := by rw [hkl]; simp; omega
              have hg := at_pre hk
              have hg' := at_pre hk'
              rw [← hpl] at hg'
              have htw := wt_mem (t := t) (l := ks) (by rw [hk]; simp)
              have hs := ih t t' (by omega) (by omega)
              have hwi : w64 ((pre.length : Int) + 1) = ((pre ++ [t]).length : Int) := (w64_id (by omega) (by omega)).trans (by simp)
              simp only [Tm.sameL] at ht
              generalize t.same t' = v at hs ht
              obtain ⟨o, p, l⟩ := t
              obtain ⟨o', p', l'⟩ := t'
              simp only [List.length_cons] at hl
              rw [enc_mk, enc_mk] at hs
              cases v
              · rw [← ht]
                simp only [S17_128, S17_129, S17_130, S17_131, S17_132, S17_133, S17_134, S17_135, S17_136, S17_137, S17, ↓XX, ↓reduceIte, Nat.reduceBEq, decide_true, decide_false, Bool.not_true, Bool.not_false, List.map_cons, List.map_nil, List.length_map, List.length_cons, List.length_nil, Nat.reduceAdd, Int.cast_ofNat_Int, Int.natCast_zero, Int.natCast_one, Bool.false_eq_true, Bool.true_eq_false, decide_eq_true_eq, eq_self, Int.reduceEq, Int.reduceLT, Int.reduceLE, Bool.and_true, Bool.true_and, Bool.and_false, Bool.false_and, Nat.zero_add, hi, ↓ix_f (map_get hg) (agg3l _ _ _), ↓ix_f (map_get hg') (agg3l _ _ _), ↓agg3, ↓iso_2 hs, Bool.false_and]
                exact ans_fv _ _
              · simp only [S17_128, S17_129, S17_130, S17_131, S17_132, S17_133, S17_134, S17_135, S17_136, S17_137, S17, ↓XX, ↓reduceIte, Nat.reduceBEq, decide_true, decide_false, Bool.not_true, Bool.not_false, List.map_cons, List.map_nil, List.length_map, List.length_cons, List.length_nil, Nat.reduceAdd, Int.cast_ofNat_Int, Int.natCast_zero, Int.natCast_one, Bool.false_eq_true, Bool.true_eq_false, decide_eq_true_eq, eq_self, Int.reduceEq, Int.reduceLT, Int.reduceLE, Bool.and_true, Bool.true_and, Bool.and_false, Bool.false_and, Nat.zero_add, hi, ↓ix_f (map_get hg) (agg3l _ _ _), ↓ix_f (map_get hg') (agg3l _ _ _), ↓agg3, hwi, ↓iso_2 hs]
                refine hrec rest.length _ _ (by omega) ?_
                exact ⟨pre ++ [.mk o p l], rest, pre' ++ [.mk o' p' l'], rest', by rw [hk]; simp, by rw [hk']; simp, by simp [hpl], rfl, rfl, rfl, by simpa using ht⟩
        · have h3' : ¬ (ks.length : Int) = ks'.length := by omega
          simp only [S17_128, S17_129, S17_130, S17_131, S17_132, S17_134, S17_135, S17_136, S17_137, S17, ↓XX, ↓reduceIte, Nat.reduceBEq, decide_true, decide_false, Bool.not_true, Bool.not_false, List.map_cons, List.map_nil, List.length_map, List.length_cons, List.length_nil, Nat.reduceAdd, Int.cast_ofNat_Int, Int.natCast_zero, Int.natCast_one, Bool.false_eq_true, Bool.true_eq_false, decide_eq_true_eq, eq_self, Int.reduceEq, Int.reduceLT, Int.reduceLE, Bool.and_true, Bool.true_and, Bool.and_false, Bool.false_and, Nat.zero_add, h1, h2, h3, h3']
          exact ans_fv _ _
      · simp only [S17_128, S17_129, S17_130, S17_131, S17_132, S17_134, S17_135, S17_136, S17_137, S17, ↓XX, ↓reduceIte, Nat.reduceBEq, decide_true, decide_false, Bool.not_true, Bool.not_false, List.map_cons, List.map_nil, List.length_map, List.length_cons, List.length_nil, Nat.reduceAdd, Int.cast_ofNat_Int, Int.natCast_zero, Int.natCast_one, Bool.false_eq_true, Bool.true_eq_false, decide_eq_true_eq, eq_self, Int.reduceEq, Int.reduceLT, Int.reduceLE, Bool.and_true, Bool.true_and, Bool.and_false, Bool.false_and, Nat.zero_add, h1, h2]
        exact ans_fv _ _
    · simp only [S17_128, S17_129, S17_130, S17_131, S17_132, S17_134, S17_135, S17_136, S17_137, S17, ↓XX, ↓reduceIte, Nat.reduceBEq, decide_true, decide_false, Bool.not_true, Bool.not_false, List.map_cons, List.map_nil, List.length_map, List.length_cons, List.length_nil, Nat.reduceAdd, Int.cast_ofNat_Int, Int.natCast_zero, Int.natCast_one, Bool.false_eq_true, Bool.true_eq_false, decide_eq_true_eq, eq_self, Int.reduceEq, Int.reduceLT, Int.reduceLE, Bool.and_true, Bool.true_and, Bool.and_false, Bool.false_and, Nat.zero_add, h1]
      exact ans_fv _ _
end Idl
end Go.Proofs.Ytkfecngimlcfoaa

namespace Go.Proofs.Ytkfecngimlcfoaa
namespace Idl
theorem bs1_tm' (o p : Int) (l : List Tm) (s : Nat) (h : Hp) (k : IV → Hp → List Ref → List Ref → Option (IV × Hp)) : genS (pcBuildSlice EE 28 1 [(0, .fv (.agg [.int .i64 o, .int .i64 p, .sl (l.map Tm.enc)]))]) s h k = k (.clip [.agg [.int .i64 o, .int .i64 p, .sl (l.map Tm.enc)]]) h [] [] := by
  have := bs1_tm (.mk o p l) s h k
  rw [enc_mk] at this
  exact this
def isTrueN (o : Option (IV × Hp)) : Bool := match o with
  | some (.fv (.bool b), ⟨_, []⟩) => b
  | _ => false
theorem ans_trueN {o : Option (IV × Hp)} (h : isTrueN o = true) : Ans o (.bool true) := by
  unfold isTrueN at h
  split at h
  · subst h; exact ans_fv _ _
  · cases h
theorem bs2_g (o1 n1 o2 n2 : Int) (k1 k2 : List FV) (s : Nat) (h : Hp) (k : IV → Hp → List Ref → List Ref → Option (IV × Hp)) : genS (pcBuildSlice EE 28 2 [(0, .fv (.agg [.int .i64 o1, .int .i64 n1, .sl k1])), (1, .fv (.agg [.int .i64 o2, .int .i64 n2, .sl k2]))]) s h k =
    k (.clip [.agg [.int .i64 o1, .int .i64 n1, .sl k1], .agg [.int .i64 o2, .int .i64 n2, .sl k2]]) h [] [] := bs_tm tTms tTm (by decide) (cells := [.int .i64 o1, .int .i64 n1, .sl k1, .int .i64 o2, .int .i64 n2, .sl k2]) rfl k
theorem bs4_g (o1 n1 o2 n2 o3 n3 o4 n4 : Int) (k1 k2 k3 k4 : List FV) (s : Nat) (h : Hp) (k : IV → Hp → List Ref → List Ref → Option (IV × Hp)) : genS (pcBuildSlice EE 28 4 [(0, .fv (.agg [.int .i64 o1, .int .i64 n1, .sl k1])), (1, .fv (.agg [.int .i64 o2, .int .i64 n2, .sl k2])), (2, .fv (.agg [.int .i64 o3, .int .i64 n3, .sl k3])), (3, .fv (.agg [.int .i64 o4, .int .i64 n4, .sl k4]))]) s h k =
    k (.clip [.agg [.int .i64 o1, .int .i64 n1, .sl k1], .agg [.int .i64 o2, .int .i64 n2, .sl k2], .agg [.int .i64 o3, .int .i64 n3, .sl k3], .agg [.int .i64 o4, .int .i64 n4, .sl k4]]) h [] [] := bs_tm tTms tTm (by decide) (cells := [.int .i64 o1, .int .i64 n1, .sl k1, .int .i64 o2, .int .i64 n2, .sl k2, .int .i64 o3, .int .i64 n3, .sl k3, .int .i64 o4, .int .i64 n4, .sl k4]) rfl k
theorem bs1_g (o1 n1 : Int) (k1 : List FV) (s : Nat) (h : Hp) (k : IV → Hp → List Ref → List Ref → Option (IV × Hp)) : genS (pcBuildSlice EE 28 1 [(0, .fv (.agg [.int .i64 o1, .int .i64 n1, .sl k1]))]) s h k =
    k (.clip [.agg [.int .i64 o1, .int .i64 n1, .sl k1]]) h [] [] := bs_tm tTms tTm (by decide) (cells := [.int .i64 o1, .int .i64 n1, .sl k1]) rfl k
def AnsV (r : Option (IV × Hp)) (v : FV) : Prop := ∃ own, r = some (.fv v, ⟨own, []⟩)
theorem ansv {v : FV} {own : List (Nat × Blk)} : AnsV (some (.fv v, ⟨own, []⟩)) v := ⟨own, rfl⟩
def tnum : Nat → Tm
  | 0 => .mk 11 0 []
  | n + 1 => .mk 12 0 [tnum n]
theorem keep0 {g : FuncId} (h : EE.pol.inl g = false) (h1 : EE.pol.keep g = []) (h2 : EE.pol.split g = false) (h3 : EE.pol.raw g = false) (ih : Handler) (xs : List IV) (h0 : Hp) (k : IV → Hp → List Ref → List Ref → Option (IV × Hp)) :
    dynS EE ih (.fv (.func (.func g) [] [])) xs h0 k = isoS [] false false ih g xs h0 k := by
  unfold dynS
  simp only [callee, h, cond_false, sp_e, h1, h2, h3, List.map_nil, List.nil_append, List.append_nil]
theorem bs0_tm (s : Nat) (h : Hp) (k : IV → Hp → List Ref → List Ref → Option (IV × Hp)) : genS (pcBuildSlice EE 28 0 []) s h k = k (.clip []) h [] [] := bs_tm tTms tTm (by decide) (cells := []) rfl k
end Idl
end Go.Proofs.Ytkfecngimlcfoaa

namespace Go.Proofs.Ytkfecngimlcfoaa
namespace Idl
section
variable {β : Type} {E : Env}
def AnsX (r : Option (IV × Hp)) (w : FV) (ext : List Blk) : Prop := ∃ v own, r = some (v, ⟨own, ext⟩) ∧
  ∃ u lg, ∀ (e : Option (IV × Hp)) (K : FV → List (Ref × Blk) → List Ref → Option (IV × Hp)), fzU 12 v ⟨own, ext⟩ [] e K = K w u lg
theorem ansx_fv (w : FV) (own : List (Nat × Blk)) (ext : List Blk) : AnsX (some (.fv w, ⟨own, ext⟩)) w ext := ⟨_, own, rfl, [], [], fun _ _ => rfl⟩
theorem ansx_p {v : IV} {w : FV} (hz : frzP v = some w) (own : List (Nat × Blk)) (ext : List Blk) : AnsX (some (v, ⟨own, ext⟩)) w ext := ⟨_, own, rfl, [], [], fun e K => fzp_u _ _ e K hz⟩
theorem refsDL_fv : ∀ l : List FV, refsDL (l.map .fv) [] = []
  | [] => rfl
  | v :: l => by
    show refsD (.fv v) (refsDL (l.map .fv) []) = []
    rw [refsDL_fv l]
    rfl
theorem goB_s (n j : Nat) (t : List Ref) (s : Nat) (rest : List Blk) : goB (n + 1) (.ext j :: t) s rest = cond (Nat.ble (Nat.succ j) s) (goB n t s rest) (cond (Nat.beq j s) (goR (goB n) t s rest) false) := rfl
theorem goB_n (n s : Nat) : goB (n + 1) [] s [] = true := rfl
set_option maxRecDepth 20000 in
theorem goB_one (st : List FV) : goB 400 [.ext 0] 0 [.row (st.map .fv) false] = true := by
  rw [show (400 : Nat) = 398 + 1 + 1 from rfl, goB_s]
  show goR (goB (398 + 1)) [] 0 [.row (st.map .fv) false] = true
  show goB (398 + 1) ([] ++ refsB (.row (st.map .fv) false)) 1 [] = true
  rw [show refsB (.row (st.map .fv) false) = refsDL (st.map .fv) [] from rfl, refsDL_fv]
  exact goB_n 398 1
theorem okB_one (st : List FV) : okB 1 [.row (st.map .fv) false] = true := by
  show cond (okR 1 (refsB (.row (st.map .fv) false))) true false = true
  rw [show refsB (.row (st.map .fv) false) = refsDL (st.map .fv) [] from rfl, refsDL_fv]
  rfl
theorem gb2 (a b : FV) : goB 400 [.ext 0] 0 [.row [.fv a, .fv b] false] = true := goB_one [a, b]
theorem ob2 (a b : FV) : okB 1 [.row [.fv a, .fv b] false] = true := okB_one [a, b]
theorem iso_cx {r1 : Ref} {rs1 : List Ref} {ih : Handler} {f : FuncId} {vs : List IV} {w : FV} {ext ext' : List Blk} (hr : AnsX (ih f vs ⟨[], ext⟩) w ext') (hg : goB 400 (r1 :: rs1) 0 ext = true) (hl : ext'.length = ext.length) (ho : okB ext.length ext' = true)
    (own : List (Nat × Blk)) (r0 : Option (IV × Hp)) (u : List (Ref × Blk)) (lg : List Ref) (e : Option (IV × Hp)) (k : IV → Hp → List Ref → List Ref → Option (IV × Hp)) :
    isoC (r1 :: rs1) r0 ⟨own, ext⟩ u lg e (fun rs => match rs with
      | [] => none
      | r :: rs => (match (⟨own, ext⟩ : Hp) with
        | ⟨own, ext⟩ => cond (goB 400 (r :: rs) 0 ext) (match ih f vs ⟨[], ext⟩ with
          | none => none
          | some p => match p with
            | (v, h') => match h' with
              | ⟨own', ext'⟩ => cond (and (Nat.beq ext'.length ext.length) (okB ext.length ext'))
                (fzU 12 v ⟨own', ext'⟩ [] e fun w _ _ => layU u ⟨own, ext'⟩ fun h2 => k (.fv w) h2 ((extsUp ext.length).reverse ++ lg) (keys u ++ extsUp ext.length)) none)
          e)) k = layU u ⟨own, ext'⟩ fun h2 => k (.fv w) h2 ((extsUp ext.length).reverse ++ lg) (keys u ++ extsUp ext.length) := by
  obtain ⟨v, own', e1, u', lg', hz⟩ := hr
  simp only [isoC, hg, e1, hl, ho]
  rw [show (Nat.beq ext.length ext.length && true) = true by rw [Bool.and_true]; exact Nat.beq_refl _, cond_true, hz]
  rfl
structure OneX (ext ext' : List Blk) : Prop where
  g : goB 400 [.ext 0] 0 ext = true
  l : ext.length = 1
  l' : ext'.length = 1
  o : okB 1 ext' = true
theorem onex2 (a b a' b' : FV) : OneX [.row [.fv a, .fv b] false] [.row [.fv a', .fv b'] false] := ⟨gb2 .., rfl, rfl, ob2 ..⟩
theorem fza_k (x : Nat) : ∀ (args : List IV) {vs : List FV} (h : Hp) (lg : List Ref) (e : Option β) (k : List IV → List Ref → List (Ref × Blk) → List Ref → Option β) (ks : List Bool), (∀ b ∈ ks, b = false) → frzPL args = some vs →
    fzA args ks h lg e k = k (vs.map .fv) [] [] lg
  | [], vs, h, lg, e, k, ks, _, hz => by cases hz; rfl
  | v :: l, vs, h, lg, e, k, [], _, hz => fza_p (v :: l) h lg e k hz
  | v :: l, vs, h, lg, e, k, b :: ks, hk, hz => by
    have hb := hk b List.mem_cons_self
    subst hb
    simp only [frzPL] at hz
    cases h1 : frzP v with
    | none => rw [h1] at hz; cases hz
    | some x' =>
      rw [h1] at hz
      cases h2 : frzPL l with
      | none => rw [h2] at hz; cases hz
      | some ys =>
        rw [h2] at hz
        cases hz
        rw [fz1f, fzp_u h lg e _ h1, fza_k x l h lg e _ ks (fun c hc => hk c (List.mem_cons_of_mem _ hc)) h2]
        rfl
theorem iso_m {ks : List Bool} (hks : ∀ b ∈ ks, b = false) {ih : Handler} {f : FuncId} {args : List IV} {vs : List FV} {w : FV} {ext ext' : List Blk} (hz : frzPL args = some vs) (X : OneX ext ext') (hr : AnsX (ih f (.ptr (.ext 0) 0 :: vs.map .fv) ⟨[], ext⟩) w ext')
    (own : List (Nat × Blk)) (k : IV → Hp → List Ref → List Ref → Option (IV × Hp)) : isoS (true :: ks) false false ih f (.ptr (.ext 0) 0 :: args) ⟨own, ext⟩ k = k (.fv w) ⟨own, ext'⟩ [.ext 0] [.ext 0] := by
  rw [iso_e, fz1k, as_p, fza_k 0 args _ _ _ _ ks hks hz]
  have := iso_cx (r1 := .ext 0) (rs1 := []) hr X.g (by rw [X.l, X.l']) (by rw [X.l]; exact X.o) own (ih f (.ptr (.ext 0) 0 :: vs.map .fv) ⟨[], []⟩) [] [] (isoD (true :: ks) false false ih f (.ptr (.ext 0) 0 :: args) ⟨own, ext⟩ k) k
  refine this.trans ?_
  rw [X.l]
  rfl
theorem iso_m3 {ih : Handler} {f : FuncId} {a b : IV} {x y w : FV} {ext ext' : List Blk} (hr : AnsX (ih f [.ptr (.ext 0) 0, .fv x, .fv y] ⟨[], ext⟩) w ext') (X : OneX ext ext') (ha : frzP a = some x) (hb : frzP b = some y) (own : List (Nat × Blk))
    (k : IV → Hp → List Ref → List Ref → Option (IV × Hp)) : isoS [true, false, false] false false ih f [.ptr (.ext 0) 0, a, b] ⟨own, ext⟩ k = k (.fv w) ⟨own, ext'⟩ [.ext 0] [.ext 0] := iso_m (ks := [false, false]) (by simp) (zl_2 ha hb) X hr own k
end
end Idl
end Go.Proofs.Ytkfecngimlcfoaa

namespace Go.Proofs.Ytkfecngimlcfoaa
namespace Idl
theorem log_run {α : Type} : ∀ (r : Rd α) (h : Hp) (l : List Ref) {x : α} {l' : List Ref}, r.runLog h l = some (x, l') → r.run h = some x
  | .ret a, h, l, x, l', e => by simp only [Rd.runLog, Option.some.injEq, Prod.mk.injEq] at e; rw [e.1]; rfl
  | .fail, _, _, _, _, e => by cases e
  | .get r k, h, l, x, l', e => by
    simp only [Rd.runLog] at e
    simp only [Rd.run]
    cases hg : h.get r with
    | none => rw [hg] at e; cases e
    | some b => rw [hg] at e; exact log_run (k b) h _ e
theorem ansx_frz {v : IV} {own : List (Nat × Blk)} {ext : List Blk} {w : FV} (h : ∃ u lg, ∀ (e : Option (IV × Hp)) (K : FV → List (Ref × Blk) → List Ref → Option (IV × Hp)), fzU 12 v ⟨own, ext⟩ [] e K = K w u lg) : ∃ u, (frz 4096 v).run ⟨own, ext⟩ = some (w, u) := by
  obtain ⟨u, lg, hz⟩ := h
  rcases fzU_ok 12 v ⟨own, ext⟩ [] none (fun w _ _ => some (IV.fv w, (⟨[], []⟩ : Hp))) (.fv w, ⟨[], []⟩) (hz ..) with h | ⟨x, u', lg', h1, _, h2⟩
  · cases h
  · simp only [Option.some.injEq, Prod.mk.injEq, IV.fv.injEq, and_true] at h2
    subst h2
    exact ⟨u', log_run _ _ _ (h1 4096 (by decide))⟩
theorem refsL_fv : ∀ l : List FV, IV.refs.refsL (l.map .fv) = []
  | [] => rfl
  | v :: l => by
    simp only [List.map_cons, IV.refs.refsL, IV.refs, refsL_fv l, List.append_nil]
theorem frz_argsk : ∀ (args : List IV) (ks : List Bool) {vs : List FV}, (∀ b ∈ ks, b = false) → frzPL args = some vs → frzArgs ks args = .ret (vs.map .fv, [], [])
  | [], ks, vs, _, hz => by cases hz; cases ks <;> rfl
  | v :: l, [], vs, _, hz => frz_args (v :: l) hz
  | v :: l, b :: ks, vs, hk, hz => by
    have hb := hk b List.mem_cons_self
    subst hb
    simp only [frzPL] at hz
    cases h1 : frzP v with
    | none => rw [h1] at hz; cases hz
    | some x =>
      rw [h1] at hz
      cases h2 : frzPL l with
      | none => rw [h2] at hz; cases hz
      | some ys =>
        rw [h2] at hz
        cases hz
        simp only [frzArgs, frp 4096 (by omega) h1, Rd.bind, frz_argsk l ks (fun c hc => hk c (List.mem_cons_of_mem _ hc)) h2]
        rfl
theorem goB_own (s : Nat) (ext : List Blk) : goB 400 [.own s] 0 ext = false := rfl
theorem iso_o {ks : List Bool} (hks : ∀ b ∈ ks, b = false) {ih : Handler} {f : FuncId} {args : List IV} {vs : List FV} {w : FV} {s : Nat} {st st' : List FV} {own : List (Nat × Blk)} (hz : frzPL args = some vs) (hl : lookupOwn s own = some (.row (st.map .fv) false))
    (hr : AnsX (ih f (.ptr (.ext 0) 0 :: vs.map .fv) ⟨[], [.row (st.map .fv) false]⟩) w [.row (st'.map .fv) false]) (k : IV → Hp → List Ref → List Ref → Option (IV × Hp)) :
    isoS (true :: ks) false false ih f (.ptr (.own s) 0 :: args) ⟨own, []⟩ k = k (.fv w) ⟨putOwn s (.row (st'.map .fv) false) own, []⟩ [.own s] [.own s] := by
  obtain ⟨v, own', e1, hfz⟩ := hr
  obtain ⟨u, hu⟩ := ansx_frz hfz
  have hD : isoD (true :: ks) false false ih f (.ptr (.own s) 0 :: args) ⟨own, []⟩ k = k (.fv w) ⟨putOwn s (.row (st'.map .fv) false) own, []⟩ [.own s] [.own s] := by
    have h1 : frzArgs (true :: ks) (.ptr (.own s) 0 :: args) = .ret (.ptr (.own s) 0 :: vs.map .fv, [.own s], []) := by
      simp only [frzArgs, frz_argsk args ks hks hz, Rd.bind, IV.refs]
      rfl
    have h2 : (gather 4096 [.own s] []).runLog ⟨own, []⟩ [] = some ([(.own s, .row (st.map .fv) false)], [.own s]) := by
      show (gather (4094 + 1 + 1) [.own s] []).runLog ⟨own, []⟩ [] = _
      simp only [gather, hasRef, Bool.false_eq_true, if_false, Rd.runLog, Hp.get, hl, Blk.refs, refsL_fv, List.append_nil, List.nil_append]
    have h3 : IV.ren.renL (into [(.own s, .row (st.map .fv) false)]) (.ptr (.own s) 0 :: vs.map .fv) = some (.ptr (.ext 0) 0 :: vs.map .fv) := by
      simp only [IV.ren.renL, IV.ren, into, placeOf, if_true, Option.map_some, Option.bind_some, renL_fv]
    have h4 : renBlks (into [(.own s, .row (st.map .fv) false)]) [.row (st.map .fv) false] = some [.row (st.map .fv) false] := by
      simp only [renBlks, Blk.ren, renL_fv, Option.map_some, Option.bind_some]
    have h5 : renBlks (back [(.own s, .row (st.map .fv) false)]) [.row (st'.map .fv) false] = some [.row (st'.map .fv) false] := by
      simp only [renBlks, Blk.ren, renL_fv, Option.map_some, Option.bind_some]
    unfold isoD
    simp only [h1, Rd.runLog, h2, h3, List.map_cons, List.map_nil, h4, fL_eq (fV_eq 3), fL_eq fBk_eq, askedD, Bool.false_eq_true, if_false, e1, hu, Option.map_some, IV.ren, h5, List.length_cons, List.length_nil, keys, List.all_nil, and_self, if_true, List.nil_append, List.zip_cons_cons, List.zip_nil_left]
    have h6 : laid ⟨own, []⟩ [(.own s, .row (st'.map .fv) false)] = some ⟨putOwn s (.row (st'.map .fv) false) own, []⟩ := by
      simp only [laid, Hp.get, hl, Hp.set]
    simp only [h6, fH_eq, fV_eq]
  rw [iso_e, fz1k, as_p, fza_k 0 args _ _ _ _ ks hks hz]
  simp only [isoC, goB_own, cond_false]
  exact hD
theorem iso_o3b {ih : Handler} {f : FuncId} {x y : IV} {vx vy w : FV} {s : Nat} {a b a' b' : FV} {own own' : List (Nat × Blk)} (hr : AnsX (ih f [.ptr (.ext 0) 0, .fv vx, .fv vy] ⟨[], [.row [.fv a, .fv b] false]⟩) w [.row [.fv a', .fv b'] false])
    (hx : frzP x = some vx) (hy : frzP y = some vy) (hl : lookupOwn s own = some (.row [.fv a, .fv b] false)) (ho : putOwn s (.row [.fv a', .fv b'] false) own = own') (k : IV → Hp → List Ref → List Ref → Option (IV × Hp)) :
    isoS [true, false, false] false false ih f [.ptr (.own s) 0, x, y] ⟨own, []⟩ k = k (.fv w) ⟨own', []⟩ [.own s] [.own s] := by
  subst ho
  exact iso_o (ks := [false, false]) (by simp) (st := [a, b]) (st' := [a', b']) (zl_2 hx hy) hl hr k
end Idl
end Go.Proofs.Ytkfecngimlcfoaa

namespace Go.Proofs.Ytkfecngimlcfoaa
namespace Idl
section
variable {β : Type}
theorem held_mem' {rm : List Nat} {vals : List IV} {own : List (Nat × Blk)} {ext : List Blk} (hf : flatD rm vals own [] = true) (hx : ∀ s, Ref.own s ∉ ext.flatMap Blk.refs) (s : Nat) :
    Ref.own s ∈ IV.refs.refsL vals ++ (own.filter fun p => !rm.contains p.1).flatMap (fun p => p.2.refs) ++ ext.flatMap Blk.refs ↔ heldB rm vals own [] s = true := by
  rw [← held_mem hf s, List.mem_append]
  constructor
  · rintro (h | h)
    · exact List.mem_append_left _ h
    · exact absurd h (hx s)
  · intro h
    rcases List.mem_append.1 h with h | h
    · exact .inl h
    · cases h
theorem drop_x {base rm : List Nat} {vals : List IV} {own : List (Nat × Blk)} {ext : List Blk} (hx : ∀ s, Ref.own s ∉ ext.flatMap Blk.refs) (hb : rm.any base.contains = false) (hf : flatD rm vals own [] = true) (k : Hp → Option β) :
    dropS base rm vals ⟨own, ext⟩ k = k ⟨stays rm vals own [], ext⟩ := by
  have hm := held_mem' hf hx
  have hf0 := hf
  simp only [flatD, Bool.and_eq_true] at hf0
  obtain ⟨g1, g2, g3, g4⟩ := hf0
  unfold dropS
  rw [hb]
  simp only [cond_false]
  rw [anyO_eq]
  cases ha : (own.all fun p => !rm.contains p.1) with
  | true =>
    simp only [Bool.not_true, cond_false]
    congr 2
    symm
    apply List.filter_eq_self.2
    intro p hp
    rw [List.all_eq_true.1 ha p hp]; rfl
  | false =>
    simp only [Bool.not_false, cond_true]
    have slow : (match dropAt base [] rm ⟨vals, ⟨own, ext⟩⟩ with | none => none | some S => fH S.hp k) = k ⟨stays rm vals own [], ext⟩ := by
      have hgone : (rm.filter fun k => !anyIn [k] (IV.refs.refsL vals ++ (own.filter fun p => !rm.contains p.1).flatMap (fun p => p.2.refs) ++ ext.flatMap Blk.refs)) = rm.filter fun s => !heldB rm vals own [] s := by
        apply List.filter_congr
        intro s _
        congr 1
        exact Bool.eq_iff_iff.2 ((anyIn_one s _).trans (hm s))
      have hown : (own.filter fun p => !(rm.filter fun s => !heldB rm vals own [] s).contains p.1) = stays rm vals own [] := by
        apply List.filter_congr
        intro p _
        rw [Bool.eq_iff_iff]
        simp only [Bool.not_eq_true', Bool.or_eq_true, List.contains_eq_mem, decide_eq_false_iff_not, List.mem_filter]
        constructor
        · intro h
          by_cases h1 : p.1 ∈ rm
          · right
            cases hh : heldB rm vals own [] p.1 with
            | true => rfl
            | false => exact absurd ⟨h1, hh⟩ h
          · exact .inl h1
        · rintro (h | h) ⟨h1, h2⟩
          · exact h h1
          · rw [h] at h2; exact absurd h2 (by simp)
      simp only [dropAt, hb, Bool.false_eq_true, if_false, killSlots, ha, hgone, hown]
      have hnone : anyIn (rm.filter fun s => !heldB rm vals own [] s) (refsOfSt ⟨vals, ⟨stays rm vals own [], ext⟩⟩) = false := by
        apply anyIn_none
        intro s hs hmem
        obtain ⟨hs1, hs2⟩ := List.mem_filter.1 hs
        have hs2 : heldB rm vals own [] s = false := by simpa using hs2
        simp only [refsOfSt, List.mem_append] at hmem
        rcases hmem with (hmem | hmem) | hmem
        · have := (hm s).1 (List.mem_append_left _ (List.mem_append_left _ hmem))
          rw [this] at hs2; cases hs2
        · obtain ⟨p, hp, hr⟩ := List.mem_flatMap.1 hmem
          have hp1 := (List.mem_filter.1 hp).1
          have hn := (flat_refsB (List.all_eq_true.1 g2 p hp1) s).1 hr
          have h4 := List.all_eq_true.1 g4 p hp1
          cases hc : rm.contains p.1 with
          | true =>
            rw [hc] at h4
            have h4 : (rm.all fun s => !namesB s p.2) = true := h4
            have h5 := List.all_eq_true.1 h4 s hs1
            rw [hn] at h5; cases h5
          | false =>
            have := (hm s).1 (List.mem_append_left _ (List.mem_append_right _ (List.mem_flatMap.2 ⟨p, List.mem_filter.2 ⟨hp1, by rw [hc]; rfl⟩, hr⟩)))
            rw [this] at hs2; cases hs2
        · exact hx s hmem
      simp only [hnone, Bool.false_eq_true, if_false, fH_eq]
    cases hff : (and (freeR rm (refsDL vals [])) (and (freeO rm own) (freeE rm ext))) with
    | false => exact slow
    | true =>
      have hff : (freeR rm (refsDL vals []) && (freeO rm own && freeE rm ext)) = true := hff
      simp only [Bool.and_eq_true] at hff
      simp only [filtK_eq, cond_true]
      congr 2
      apply List.filter_congr
      intro p hp
      cases hc : rm.contains p.1 with
      | false => rfl
      | true =>
        have h1 := freeR_ok hff.1
        rw [refsDL_eq, List.append_nil] at h1
        have h2 := freeO_ok hff.2.1
        have : heldB rm vals own [] p.1 = false := by
          cases hh : heldB rm vals own [] p.1 with
          | false => rfl
          | true =>
            have := (hm p.1).2 hh
            have hpm : p.1 ∈ rm := List.contains_iff_mem.1 hc
            rcases List.mem_append.1 this with h | h
            · rcases List.mem_append.1 h with h | h
              · exact absurd h (h1 _ hpm)
              · exact absurd h (h2 _ hpm)
            · exact absurd h (hx _)
        rw [this]; rfl
structure ExtX (ext ext' : List Blk) : Prop where
  g : goB 400 [.ext 0] 0 ext = true
  l : ext'.length = ext.length
  o : okB ext.length ext' = true
theorem iso_g {ks : List Bool} {ih : Handler} {f : FuncId} {args : List IV} {vs : List FV} {w : FV} {u : List (Ref × Blk)} {lg : List Ref} {own own' : List (Nat × Blk)} {ext ext' : List Blk}
    (hz : ∀ (e : Option (IV × Hp)) (k : List IV → List Ref → List (Ref × Blk) → List Ref → Option (IV × Hp)), fzA args ks ⟨own, ext⟩ [] e k = k (vs.map .fv) [] u lg) (X : ExtX ext ext')
    (hr : AnsX (ih f (.ptr (.ext 0) 0 :: vs.map .fv) ⟨[], ext⟩) w ext') (hlay : ∀ k : Hp → Option (IV × Hp), layU u ⟨own, ext'⟩ k = k ⟨own', ext'⟩) (k : IV → Hp → List Ref → List Ref → Option (IV × Hp)) :
    isoS (true :: ks) false false ih f (.ptr (.ext 0) 0 :: args) ⟨own, ext⟩ k = k (.fv w) ⟨own', ext'⟩ ((extsUp ext.length).reverse ++ lg) (keys u ++ extsUp ext.length) := by
  rw [iso_e, fz1k, as_p, hz]
  have := iso_cx (r1 := .ext 0) (rs1 := []) hr X.g X.l X.o own (ih f (.ptr (.ext 0) 0 :: vs.map .fv) ⟨[], []⟩) u lg (isoD (true :: ks) false false ih f (.ptr (.ext 0) 0 :: args) ⟨own, ext⟩ k) k
  exact this.trans (hlay _)
theorem chk1 : ∀ (cs : List FV), (∀ x ∈ cs, ∀ l, x ≠ .agg l) → ∀ k : List FV → Option β, chK 1 cs.length cs k = k cs
  | [], _, k => rfl
  | c :: cs, h, k => by
    show (takK (c :: cs) 1 fun a => drpK (c :: cs) 1 fun b => elK2 a fun x => chK 1 cs.length b fun xs => k (x :: xs)) = _
    rw [t1, d1]
    have : ∀ k : FV → Option β, elK2 [c] k = k c := by
      intro k
      cases c with
      | agg l => exact absurd rfl (h _ List.mem_cons_self l)
      | _ => rfl
    rw [this, chk1 cs (fun x hx => h x (List.mem_cons_of_mem _ hx))]
theorem fzl_fv (d : Nat) (h : Hp) (lg : List Ref) (e : Option β) : ∀ (l : List FV) (k : List FV → List (Ref × Blk) → List Ref → Option β), fzLK (fzU (d + 1)) (l.map .fv) h lg e k = k l [] lg
  | [], k => rfl
  | v :: l, k => by
    show (fzU (d + 1) (.fv v) h lg e fun y u lg => fzLK (fzU (d + 1)) (l.map .fv) h lg e fun ys us lg => apK u us fun w => k (y :: ys) w lg) = _
    show (fzLK (fzU (d + 1)) (l.map .fv) h lg e fun ys us lg => apK [] us fun w => k (v :: ys) w lg) = _
    rw [fzl_fv d h lg e l]
    rfl
theorem fz_slc {d : Nat} {s : Nat} {es : List FV} {ro : Bool} {own : List (Nat × Blk)} {ext : List Blk} (hl : lookupOwn s own = some (.row (es.map .fv) ro)) (hn : es.length ≤ 300) (ha : ∀ x ∈ es, ∀ l, x ≠ .agg l) (lg : List Ref) (e : Option β)
    (k : FV → List (Ref × Blk) → List Ref → Option β) : fzU (d + 2) (.slc (.own s) 1 es.length) ⟨own, ext⟩ lg e k = k (.sl es) [(.own s, .row (es.map .fv) true)] (.own s :: lg) := by
  show (getK (.own s) ⟨own, ext⟩ fun b => asRow b fun cells => cond (Nat.ble cells.length 300) (cond (or (Nat.beq 1 0) (not (Nat.ble (es.length * 1) cells.length))) none
    (fzLK (fzU (d + 1)) cells ⟨own, ext⟩ (.own s :: lg) e fun cs u lg => chK 1 es.length cs fun els => k (.sl els) ((.own s, .row cells true) :: u) lg)) e) = _
  rw [g_own, ownK_eq, hl]
  simp only [Option.bind_some, as_row, List.length_map, Nat.mul_one]
  rw [ble_dec, decide_eq_true hn, c_t, show Nat.ble es.length es.length = true by rw [ble_dec]; exact decide_eq_true (Nat.le_refl _)]
  simp only [Bool.not_true]
  show (fzLK (fzU (d + 1)) (es.map .fv) ⟨own, ext⟩ (.own s :: lg) e fun cs u lg => chK 1 es.length cs fun els => k (.sl els) ((.own s, .row (es.map .fv) true) :: u) lg) = _
  rw [fzl_fv, chk1 es ha]
theorem fz_v {s s2 : Nat} {es : List FV} {ro ro2 : Bool} {a b c d t x : FV} {own : List (Nat × Blk)} {ext : List Blk} (hl : lookupOwn s own = some (.row [.fv a, .fv b, .slc (.own s2) 1 es.length, .fv c, .fv d, .fv t, .fv x] ro)) (hl2 : lookupOwn s2 own = some (.row (es.map .fv) ro2))
    (hn : es.length ≤ 300) (ha : ∀ x ∈ es, ∀ l, x ≠ .agg l) (lg : List Ref) (e : Option β) (k : FV → List (Ref × Blk) → List Ref → Option β) : fzU 12 (.ptr (.own s) 0) ⟨own, ext⟩ lg e k =
      k (.fp [a, b, .sl es, c, d, t, x] 0) [(.own s, .row [.fv a, .fv b, .slc (.own s2) 1 es.length, .fv c, .fv d, .fv t, .fv x] true), (.own s2, .row (es.map .fv) true)] (.own s2 :: .own s :: lg) := by
  rw [fu_ptr, g_own, ownK_eq, hl]
  simp only [Option.bind_some, as_row]
  rw [ble_dec, decide_eq_true (by simp), c_t]
  rw [fl1, fv_fv, fl1, fv_fv, fl1, fz_slc (d := 9) hl2 hn ha, fl1, fv_fv, fl1, fv_fv, fl1, fv_fv, fl1, fv_fv, fl0]
  rfl
end
end Idl
end Go.Proofs.Ytkfecngimlcfoaa

namespace Go.Proofs.Ytkfecngimlcfoaa
namespace Idl
theorem flat_fv (l : List FV) : (l.map IV.fv).all flatV = true := by induction l with
  | nil => rfl
  | cons a l ih => rw [List.map_cons, List.all_cons, ih]; rfl
theorem names_fv (s : Nat) (l : List FV) : (l.map IV.fv).any (namesV s) = false := by induction l with
  | nil => rfl
  | cons a l ih => rw [List.map_cons, List.any_cons, ih]; rfl
def cellsF : List Tm → List FV
  | [] => []
  | .mk o n k :: l => .int .i64 o :: .int .i64 n :: .sl (k.map Tm.enc) :: cellsF l
def zeroT : Nat → List IV
  | 0 => []
  | n + 1 => iv 0 :: iv 0 :: .nils :: zeroT n
def cellsT (ts : List Tm) (r : Nat) : List IV := (cellsF ts).map .fv ++ zeroT r
theorem cellsF_len (ts : List Tm) : (cellsF ts).length = 3 * ts.length := by
  induction ts with
  | nil => rfl
  | cons t l ih => obtain ⟨o, n, k⟩ := t; simp only [cellsF, List.length_cons, ih]; omega
theorem cellsF_app (ts : List Tm) (t : Tm) : cellsF (ts ++ [t]) = cellsF ts ++ [.int .i64 t.op, .int .i64 t.n, .sl (t.kids.map Tm.enc)] := by
  induction ts with
  | nil => obtain ⟨o, n, k⟩ := t; rfl
  | cons a l ih => obtain ⟨o, n, k⟩ := a; simp only [List.cons_append, cellsF, ih]
theorem setFK_app {β : Type} : ∀ (A : List IV) (x y z : IV) (B : List IV) (a b c : FV) (k : List IV → Option β), setFK (A ++ x :: y :: z :: B) A.length [a, b, c] k = k (A ++ .fv a :: .fv b :: .fv c :: B)
  | [], x, y, z, B, a, b, c, k => rfl
  | w :: A, x, y, z, B, a, b, c, k => by
    show setFK (A ++ x :: y :: z :: B) A.length [a, b, c] (fun t => k (w :: t)) = _
    rw [setFK_app A]
    rfl
theorem set_t {β : Type} (done : List Tm) (r : Nat) (o n : Int) (ks : List Tm) (k : List IV → Option β) : setFK (cellsT done (r + 1)) (done.length * 3) [.int .i64 o, .int .i64 n, .sl (ks.map Tm.enc)] k = k (cellsT (done ++ [.mk o n ks]) r) := by
  have h := setFK_app (β := β) ((cellsF done).map .fv) (iv 0) (iv 0) .nils (zeroT r) (.int .i64 o) (.int .i64 n) (.sl (ks.map Tm.enc)) k
  rw [List.length_map, cellsF_len, Nat.mul_comm] at h
  refine h.trans ?_
  congr 1
  unfold cellsT
  rw [cellsF_app]
  simp [Tm.op, Tm.n, Tm.kids, iv]
theorem chk3 {β : Type} : ∀ (ts : List Tm) (k : List FV → Option β), chK 3 ts.length (cellsF ts) k = k (ts.map Tm.enc)
  | [], k => rfl
  | .mk o n ks :: l, k => by
    show (takK (cellsF (.mk o n ks :: l)) 3 fun a => drpK (cellsF (.mk o n ks :: l)) 3 fun b => elK2 a fun x => chK 3 l.length b fun xs => k (x :: xs)) = _
    rw [cellsF, t3, d3]
    show (chK 3 l.length (cellsF l) fun xs => k (.agg [.int .i64 o, .int .i64 n, .sl (ks.map Tm.enc)] :: xs)) = _
    rw [chk3 l, List.map_cons, enc_mk]
theorem rep_t (n : Nat) : rep n [iv 0, iv 0, .nils] = cellsT [] n := by
  induction n with
  | zero => rfl
  | succ n ih => rw [rep, ih]; rfl
theorem mk_t {n : Nat} (hn : n ≤ 1000) (s : Nat) (own : List (Nat × Blk)) (ext : List Blk) (k : IV → Hp → List Ref → List Ref → Option (IV × Hp)) :
    genS (pcMakeSlice EE s 28 (iv n) (iv n)) s ⟨own, ext⟩ k = freshK own s (putOwnK own s (.row (cellsT [] n) false) fun own => k (.slc (.own s) 3 n) ⟨own, ext⟩ [] [.own s]) := by
  have : pcMakeSlice EE s 28 (iv n) (iv n) = .ret { eff := { val := .slc (.own s) 3 n }, new := some (.row (cellsT [] n) false) } := by
    simp only [pcMakeSlice, tTms, tTm, iv_e]
    rw [if_pos ⟨by omega, by omega, by omega, by decide, by decide⟩, Int.toNat_natCast, rep_t]
  rw [this]
  unfold genS
  simp only [Rd.runLog, newK, fBk_eq, fV_eq]
  rfl
theorem ix_sl3 {β : Type} {n i : Nat} (h : i < n) (r : Ref) (k : IV → Option β) : ixS 3 (.slc r 3 n) (iv i) k = k (.ptr r (i * 3)) := by
  have e1 : Nat.ble (Nat.succ i) n = true := by rw [ble_dec]; exact decide_eq_true h
  show (cond (and (Nat.ble (Nat.succ i) n) (Nat.beq 3 3)) (fNat (i * 3) fun o => k (.ptr r o)) none) = _
  rw [e1]
  simp only [fNat_eq]
  rfl
theorem flat_t (ts : List Tm) (r : Nat) : (cellsT ts r).all flatV = true := by
  unfold cellsT
  rw [List.all_append, flat_fv, Bool.true_and]
  induction r with
  | zero => rfl
  | succ r ih => rw [zeroT, List.all_cons, List.all_cons, List.all_cons, ih]; rfl
theorem names_t (s : Nat) (ts : List Tm) (r : Nat) : (cellsT ts r).any (namesV s) = false := by
  unfold cellsT
  rw [List.any_append, names_fv, Bool.false_or]
  induction r with
  | zero => rfl
  | succ r ih => rw [zeroT, List.any_cons, List.any_cons, List.any_cons, ih]; rfl
theorem fz_slc3 {s d : Nat} {ts : List Tm} {ro : Bool} {own : List (Nat × Blk)} {ext : List Blk} (hl : lookupOwn s own = some (.row (cellsT ts 0) ro)) (hn : ts.length ≤ 100) (lg : List Ref) (e : Option (IV × Hp))
    (k : FV → List (Ref × Blk) → List Ref → Option (IV × Hp)) : fzU (d + 2) (.slc (.own s) 3 ts.length) ⟨own, ext⟩ lg e k = k (.sl (ts.map Tm.enc)) [(.own s, .row (cellsT ts 0) true)] (.own s :: lg) := by
  have hlen : (cellsT ts 0).length = 3 * ts.length := by simp [cellsT, zeroT, cellsF_len]
  show (getK (.own s) ⟨own, ext⟩ fun b => asRow b fun cells => cond (Nat.ble cells.length 300) (cond (or (Nat.beq 3 0) (not (Nat.ble (ts.length * 3) cells.length))) none
    (fzLK (fzU (d + 1)) cells ⟨own, ext⟩ (.own s :: lg) e fun cs u lg => chK 3 ts.length cs fun els => k (.sl els) ((.own s, .row cells true) :: u) lg)) e) = _
  rw [g_own, ownK_eq, hl]
  simp only [Option.bind_some, as_row]
  rw [hlen, ble_dec, decide_eq_true (by omega), c_t, ble_dec, decide_eq_true (by omega)]
  simp only [Bool.not_true]
  show (fzLK (fzU (d + 1)) (cellsT ts 0) ⟨own, ext⟩ (.own s :: lg) e fun cs u lg => chK 3 ts.length cs fun els => k (.sl els) ((.own s, .row (cellsT ts 0) true) :: u) lg) = _
  rw [show cellsT ts 0 = (cellsF ts).map .fv by simp [cellsT, zeroT], fzl_fv, chk3]
theorem fz_tm {s : Nat} {ts : List Tm} {ro : Bool} {a b : FV} {own : List (Nat × Blk)} {ext : List Blk} (hl : lookupOwn s own = some (.row (cellsT ts 0) ro)) (hn : ts.length ≤ 100) (lg : List Ref) (e : Option (IV × Hp))
    (k : FV → List (Ref × Blk) → List Ref → Option (IV × Hp)) : fzU 12 (.agg [.fv a, .fv b, .slc (.own s) 3 ts.length]) ⟨own, ext⟩ lg e k = k (.agg [a, b, .sl (ts.map Tm.enc)]) [(.own s, .row (cellsT ts 0) true)] (.own s :: lg) := by
  rw [fu_agg, show Nat.ble [IV.fv a, .fv b, .slc (.own s) 3 ts.length].length 300 = true from rfl, c_t, fl1, fv_fv, fl1, fv_fv, fl1, fz_slc3 (d := 9) hl hn, fl0]
  rfl
theorem ixt0 {β : Type} (o p : Int) (l : List FV) (r : List FV) (k : IV → Option β) : ixS 3 (.fv (.sl (.agg [.int .i64 o, .int .i64 p, .sl l] :: r))) (iv 0) k = k (.fv (.fp [.int .i64 o, .int .i64 p, .sl l] 0)) := by
  have h : (.agg [.int .i64 o, .int .i64 p, .sl l] :: r : List FV)[0]? = some (.agg [.int .i64 o, .int .i64 p, .sl l]) := rfl
  have := ix_f (β := β) h (agg3l _ _ _) k
  rw [agg3] at this
  exact this
theorem ixt1 {β : Type} (a : FV) (o p : Int) (l : List FV) (r : List FV) (k : IV → Option β) : ixS 3 (.fv (.sl (a :: .agg [.int .i64 o, .int .i64 p, .sl l] :: r))) (iv 1) k = k (.fv (.fp [.int .i64 o, .int .i64 p, .sl l] 0)) := by
  have h : (a :: .agg [.int .i64 o, .int .i64 p, .sl l] :: r : List FV)[1]? = some (.agg [.int .i64 o, .int .i64 p, .sl l]) := rfl
  have := ix_f (β := β) h (agg3l _ _ _) k
  rw [agg3] at this
  exact this
theorem ixt2 {β : Type} (a b : FV) (o p : Int) (l : List FV) (r : List FV) (k : IV → Option β) : ixS 3 (.fv (.sl (a :: b :: .agg [.int .i64 o, .int .i64 p, .sl l] :: r))) (iv 2) k = k (.fv (.fp [.int .i64 o, .int .i64 p, .sl l] 0)) := by
  have h : (a :: b :: .agg [.int .i64 o, .int .i64 p, .sl l] :: r : List FV)[2]? = some (.agg [.int .i64 o, .int .i64 p, .sl l]) := rfl
  have := ix_f (β := β) h (agg3l _ _ _) k
  rw [agg3] at this
  exact this
theorem ansf_fv (w : FV) (own : List (Nat × Blk)) : AnsF (some (.fv w, ⟨own, []⟩)) w := ⟨_, own, rfl, fz_fv w own⟩
end Idl
end Go.Proofs.Ytkfecngimlcfoaa

namespace Go.Proofs.Ytkfecngimlcfoaa
namespace Idl
theorem iso_gf {ks : List Bool} {ih : Handler} {f : FuncId} {args : List IV} {vs : List FV} {w : FV} {u : List (Ref × Blk)} {lg : List Ref} {own own' : List (Nat × Blk)}
    (hz : ∀ (e : Option (IV × Hp)) (k : List IV → List Ref → List (Ref × Blk) → List Ref → Option (IV × Hp)), fzA args ks ⟨own, []⟩ [] e k = k (vs.map .fv) [] u lg)
    (hr : AnsF (ih f (vs.map .fv) ⟨[], []⟩) w) (hlay : ∀ k : Hp → Option (IV × Hp), layU u ⟨own, []⟩ k = k ⟨own', []⟩) (k : IV → Hp → List Ref → List Ref → Option (IV × Hp)) :
    isoS ks false false ih f args ⟨own, []⟩ k = k (.fv w) ⟨own', []⟩ lg (keys u) := by
  rw [iso_e, hz, iso_c hr, hlay]
theorem keepc {g : FuncId} (h : EE.pol.inl g = false) (h1 : EE.pol.keep g = []) (h2 : EE.pol.split g = false) (h3 : EE.pol.raw g = false) (caps : List FV) (ih : Handler) (xs : List IV) (h0 : Hp) (k : IV → Hp → List Ref → List Ref → Option (IV × Hp)) :
    dynS EE ih (.fv (.func (.func g) [] caps)) xs h0 k = isoS [] false false ih g (xs ++ caps.map .fv) h0 k := by
  unfold dynS
  simp only [callee, h, cond_false, sp_e, h1, h2, h3, List.map_nil, List.nil_append]
theorem mkf_c1 (fn : Fn) (r : Ref) (o : Nat) : mkFunc fn [] [.ptr r o] = .func fn [] [.ptr r o] := rfl
theorem fz_pt {d s : Nat} {cs : List FV} {ro : Bool} {own : List (Nat × Blk)} {ext : List Blk} (hl : lookupOwn s own = some (.row (cs.map .fv) ro)) (hn : cs.length ≤ 300) (lg : List Ref) (e : Option (IV × Hp)) (k : FV → List (Ref × Blk) → List Ref → Option (IV × Hp)) :
    fzU (d + 2) (.ptr (.own s) 0) ⟨own, ext⟩ lg e k = k (.fp cs 0) [(.own s, .row (cs.map .fv) true)] (.own s :: lg) := by
  show (getK (.own s) ⟨own, ext⟩ fun b => asRow b fun cells => cond (Nat.ble cells.length 300) (fzLK (fzU (d + 1)) cells ⟨own, ext⟩ (.own s :: lg) e fun cs u lg => k (.fp cs 0) ((.own s, .row cells true) :: u) lg) e) = _
  rw [g_own, ownK_eq, hl]
  simp only [Option.bind_some, as_row, List.length_map]
  rw [ble_dec, decide_eq_true hn, c_t, fzl_fv]
theorem fz_fn1 {s1 : Nat} {c1 : List FV} {r1 : Bool} {fn : Fn} {own : List (Nat × Blk)} {ext : List Blk} (h1 : lookupOwn s1 own = some (.row (c1.map .fv) r1)) (n1 : c1.length ≤ 300)
    (lg : List Ref) (e : Option (IV × Hp)) (k : FV → List (Ref × Blk) → List Ref → Option (IV × Hp)) :
    fzU 12 (.func fn [] [.ptr (.own s1) 0]) ⟨own, ext⟩ lg e k = k (.func fn [] [.fp c1 0]) [(.own s1, .row (c1.map .fv) true)] (.own s1 :: lg) := by
  show (fzLK (fzU 11) [] ⟨own, ext⟩ lg e fun x u lg => fzLK (fzU 11) [.ptr (.own s1) 0] ⟨own, ext⟩ lg e fun y v lg => apK u v fun w => k (.func fn x y) w lg) = _
  rw [fl0, fl1, fz_pt (d := 9) h1 n1, fl0]
  rfl
end Idl
end Go.Proofs.Ytkfecngimlcfoaa

namespace Go.Proofs.Ytkfecngimlcfoaa
namespace Idl
theorem iso_f1 {ih : Handler} {f : FuncId} {x w : FV} {a : IV} {fn : Fn} {s1 : Nat} {c1 : List FV} {r1 : Bool} {own own' : List (Nat × Blk)} (hr : AnsF (ih f [.fv x, .fv (.func fn [] [.fp c1 0])] ⟨[], []⟩) w) (ha : frzP a = some x)
    (h1 : lookupOwn s1 own = some (.row (c1.map .fv) r1)) (n1 : c1.length ≤ 300) (ho : putOwn s1 (.row (c1.map .fv) true) own = own') (k : IV → Hp → List Ref → List Ref → Option (IV × Hp)) :
    isoS [] false false ih f [a, .func fn [] [.ptr (.own s1) 0]] ⟨own, []⟩ k = k (.fv w) ⟨own', []⟩ [.own s1] [.own s1] := by
  subst ho
  refine iso_gf (vs := [x, .func fn [] [.fp c1 0]]) (u := [(.own s1, .row (c1.map .fv) true)]) (lg := [.own s1]) ?_ hr ?_ k
  · intro e k
    rw [fz1, fzp_u _ _ e _ ha, fz1, fz_fn1 h1 n1, fz0]
    rfl
  · intro k
    show (ownK own s1 fun _ => putOwnK own s1 (.row (c1.map .fv) true) fun own => k ⟨own, _⟩) = _
    rw [ownK_eq, h1, Option.bind_some, putOwnK_eq]
theorem keepb {g : FuncId} (h : EE.pol.inl g = false) (h1 : EE.pol.keep g = []) (h2 : EE.pol.split g = false) (h3 : EE.pol.raw g = false) (p : FV) (ih : Handler) (xs : List IV) (h0 : Hp) (k : IV → Hp → List Ref → List Ref → Option (IV × Hp)) :
    dynS EE ih (.fv (.func (.func g) [p] [])) xs h0 k = isoS [] false false ih g (.fv p :: xs) h0 k := by
  unfold dynS
  simp only [callee, h, cond_false, sp_e, h1, h2, h3, List.map_nil, List.map_cons, List.append_nil, List.cons_append, List.nil_append]
theorem mkf_b (fn : Fn) (p : FV) : mkFunc fn [.fv p] [] = .fv (.func fn [p] []) := rfl
def okP (op : Int) : Bool := (decide (op = 1) || (decide (op = 15) || (decide (op = 16) || decide (op = 17)))) || (decide (20 ≤ op) && decide (op ≤ 29))
mutual
def Tm.plainP : Tm → Bool
  | .mk op _ l => okP op && Tm.plainPL l
def Tm.plainPL : List Tm → Bool
  | [] => true
  | t :: l => t.plainP && Tm.plainPL l
end
abbrev pF : FV := .agg [.int .i64 20, .int .i64 29]
abbrev boundF : FV := .func (.func 42) [pF] []
abbrev closF : FV := .func (.func 74) [] [.fp [boundF] 0]
theorem kp_has (ih : Handler) (xs : List IV) (h0 : Hp) (k : IV → Hp → List Ref → List Ref → Option (IV × Hp)) : dynS EE ih (.fv (.func (.func 42) [.agg [.int .i64 20, .int .i64 29]] [])) xs h0 k = isoS [] false false ih 42 (.fv pF :: xs) h0 k :=
  keepb (by kernel_rfl) (by kernel_rfl) (by kernel_rfl) (by kernel_rfl) ..
theorem kp_clos (ih : Handler) (xs : List IV) (h0 : Hp) (k : IV → Hp → List Ref → List Ref → Option (IV × Hp)) : dynS EE ih (.fv closF) xs h0 k = isoS [] false false ih 74 (xs ++ [.fv (.fp [boundF] 0)]) h0 k :=
  keepc (by kernel_rfl) (by kernel_rfl) (by kernel_rfl) (by kernel_rfl) _ ..
theorem has1_ok {n : Nat} (t : Tm) (b : Bool) (h : Ans (SS dt n 42 [.fv pF, .fv t.enc] ⟨[], []⟩) (.bool b)) : Ans (SS dt (n + 1) 74 [.fv t.enc, .fv (.fp [boundF] 0)] ⟨[], []⟩) (.bool (!b)) := by
  rw [c74]
  obtain ⟨o, p, l⟩ := t
  rw [enc_mk] at h ⊢
  simp only [S74, ↓XX, ↓reduceIte, Nat.reduceBEq, decide_true, decide_false, Bool.not_true, Bool.not_false, List.map_cons, List.map_nil, List.length_map, List.length_cons, List.length_nil, Nat.reduceAdd, Int.cast_ofNat_Int, Int.natCast_zero, Int.natCast_one, Bool.false_eq_true, Bool.true_eq_false, decide_eq_true_eq, eq_self, Int.reduceEq, Int.reduceLT, Int.reduceLE, Bool.and_true, Bool.true_and, Bool.and_false, Bool.false_and, Nat.zero_add, ↓kp_has, ↓iso_2 h]; exact ans_fv _ _
theorem pindex_ok {n : Nat} (ks : List Tm) (hl : ks.length ≤ 900000) (hn : ks.length < n) (h : ∀ t ∈ ks, Ans (SS dt n 74 [.fv t.enc, .fv (.fp [boundF] 0)] ⟨[], []⟩) (.bool (!t.plainP))) :
    ∃ j : Int, Ans (SS dt (n + 1) 104 [.fv (.sl (ks.map Tm.enc)), .fv closF] ⟨[], []⟩) (.int .i64 j) ∧ (decide (0 ≤ j) = !Tm.plainPL ks) := by
  rw [c104]
  simp only [S104_24, S104_25, S104, ↓XX, ↓reduceIte, Nat.reduceBEq, decide_true, decide_false, Bool.not_true, Bool.not_false, List.map_cons, List.map_nil, List.length_map, List.length_cons, List.length_nil, Nat.reduceAdd, Int.cast_ofNat_Int, Int.natCast_zero, Int.natCast_one, Bool.false_eq_true, Bool.true_eq_false, decide_eq_true_eq, eq_self, Int.reduceEq, Int.reduceLT, Int.reduceLE, Bool.and_true, Bool.true_and, Bool.and_false, Bool.false_and, Nat.zero_add]
  refine loop_run (Q := fun r => ∃ j : Int, Ans r (.int .i64 j) ∧ (decide (0 ≤ j) = !Tm.plainPL ks)) (fun k V H => ∃ (pre rest : List Tm), ks = pre ++ rest ∧ rest.length = k ∧ Tm.plainPL rest = Tm.plainPL ks ∧
      V = [.fv (.sl (ks.map Tm.enc)), .fv closF, iv ks.length, iv pre.length] ∧ H = ⟨[], []⟩)
    ?_ n ks.length _ _ (by omega) ⟨[], ks, rfl, rfl, rfl, rfl, rfl⟩
  rintro k V H rec ⟨pre, rest, hks, hkl, hr, rfl, rfl⟩ hrec
  have hkk : ks.length = pre.length + rest.length := by rw [hks]; simp
  cases rest with
  | nil =>
    have hno : ¬ ((pre.length : Int) < ks.length) := by rw [hkk]; simp
    refine ⟨-1, ?_, by rw [← hr]; rfl⟩
    simp only [S104_24, S104_25, S104_26, S104, ↓XX, ↓reduceIte, Nat.reduceBEq, decide_true, decide_false, Bool.not_true, Bool.not_false, List.map_cons, List.map_nil, List.length_map, List.length_cons, List.length_nil, Nat.reduceAdd, Int.cast_ofNat_Int, Int.natCast_zero, Int.natCast_one, Bool.false_eq_true, Bool.true_eq_false, decide_eq_true_eq, eq_self, Int.reduceEq, Int.reduceLT, Int.reduceLE, Bool.and_true, Bool.true_and, Bool.and_false, Bool.false_and, Nat.zero_add, hno]; exact ans_fv _ _
  | cons x rest =>
    have hi : (pre.length : Int) < ks.length := by rw [hkk]; simp; omega
    have hg2 := at_pre hks
    have hs := h x (by rw [hks]; simp)
    have hwi : w64 ((pre.length : Int) + 1) = ((pre ++ [x]).length : Int) := (w64_id (by omega) (by omega)).trans (by simp)
    rw [Tm.plainPL] at hr
    have h9 := fun e => hrec rest.length [.fv (.sl (ks.map Tm.enc)), .fv closF, iv ks.length, iv (pre ++ [x]).length] _ (by simp only [List.length_cons] at hkl; omega) ⟨pre ++ [x], rest, by rw [hks]; simp, rfl, e, rfl, rfl⟩
    generalize x.plainP = b at hs hr
    cases b
    · rw [Bool.false_and] at hr
      refine ⟨pre.length, ?_, by rw [← hr]; simp⟩
      obtain ⟨o, p, l⟩ := x
      rw [enc_mk] at hs
      simp only [S104_24, S104_25, S104_26, S104, ↓XX, ↓reduceIte, Nat.reduceBEq, decide_true, decide_false, Bool.not_true, Bool.not_false, List.map_cons, List.map_nil, List.length_map, List.length_cons, List.length_nil, Nat.reduceAdd, Int.cast_ofNat_Int, Int.natCast_zero, Int.natCast_one, Bool.false_eq_true, Bool.true_eq_false, decide_eq_true_eq, eq_self, Int.reduceEq, Int.reduceLT, Int.reduceLE, Bool.and_true, Bool.true_and, Bool.and_false, Bool.false_and, Nat.zero_add, hi, ↓ix_f (map_get hg2) (agg3l _ _ _), ↓agg3, ↓kp_clos, List.cons_append, List.nil_append, ↓iso_2 hs]; exact ans_fv _ _
    · rw [Bool.true_and] at hr
      have h9 := h9 hr
      obtain ⟨o, p, l⟩ := x
      rw [enc_mk] at hs
      simp only [S104_24, S104_25, S104_26, S104, ↓XX, ↓reduceIte, Nat.reduceBEq, decide_true, decide_false, Bool.not_true, Bool.not_false, List.map_cons, List.map_nil, List.length_map, List.length_cons, List.length_nil, Nat.reduceAdd, Int.cast_ofNat_Int, Int.natCast_zero, Int.natCast_one, Bool.false_eq_true, Bool.true_eq_false, decide_eq_true_eq, eq_self, Int.reduceEq, Int.reduceLT, Int.reduceLE, Bool.and_true, Bool.true_and, Bool.and_false, Bool.false_and, Nat.zero_add, hi, ↓ix_f (map_get hg2) (agg3l _ _ _), ↓agg3, ↓kp_clos, List.cons_append, List.nil_append, ↓iso_2 hs, hwi]
      exact h9
theorem has_ok : ∀ (n : Nat) (t : Tm), 4 * t.wt + 4 < n → t.wt ≤ 900000 → Ans (SS dt n 42 [.fv pF, .fv t.enc] ⟨[], []⟩) (.bool t.plainP) := by
  intro n
  induction n using Nat.strongRecOn with
  | ind n ih =>
    intro t hn hw
    obtain ⟨op, m, ks⟩ := t
    simp only [Tm.wt] at hn hw
    obtain ⟨n, rfl⟩ : ∃ k, n = k + 1 + 1 + 1 + 1 := ⟨n - 4, by omega⟩
    have hlen := wt_len ks
    rw [c42, enc_mk, Tm.plainP]
    obtain ⟨j, hj, hjb⟩ := pindex_ok (n := n + 1) ks (by omega) (by omega) (fun t ht => has1_ok t _ (ih n (by omega) t (by have := wt_mem ht; omega) (by have := wt_mem ht; omega)))
    have hc : Ans (SS dt (n + 1 + 1 + 1) 73 [.fv (.sl (ks.map Tm.enc)), .fv closF] ⟨[], []⟩) (.bool (!Tm.plainPL ks)) := by
      rw [c73, ← hjb]
      simp only [S73, ↓XX, ↓reduceIte, Nat.reduceBEq, decide_true, decide_false, Bool.not_true, Bool.not_false, List.map_cons, List.map_nil, List.length_map, List.length_cons, List.length_nil, Nat.reduceAdd, Int.cast_ofNat_Int, Int.natCast_zero, Int.natCast_one, Bool.false_eq_true, Bool.true_eq_false, decide_eq_true_eq, eq_self, Int.reduceEq, Int.reduceLT, Int.reduceLE, Bool.and_true, Bool.true_and, Bool.and_false, Bool.false_and, Nat.zero_add, ↓iso_2 hj]; exact ans_fv _ _
    have hcf : AnsF (SS dt (n + 1 + 1 + 1) 73 [.fv (.sl (ks.map Tm.enc)), .fv closF] ⟨[], []⟩) (.bool (!Tm.plainPL ks)) := by
      rw [c73, ← hjb]
      simp only [S73, ↓XX, ↓reduceIte, Nat.reduceBEq, decide_true, decide_false, Bool.not_true, Bool.not_false, List.map_cons, List.map_nil, List.length_map, List.length_cons, List.length_nil, Nat.reduceAdd, Int.cast_ofNat_Int, Int.natCast_zero, Int.natCast_one, Bool.false_eq_true, Bool.true_eq_false, decide_eq_true_eq, eq_self, Int.reduceEq, Int.reduceLT, Int.reduceLE, Bool.and_true, Bool.true_and, Bool.and_false, Bool.false_and, Nat.zero_add, ↓iso_2 hj]; exact ansf_fv _ _
    cases ho : okP op
    · rw [Bool.false_and]
      simp only [okP, Bool.or_eq_false_iff, Bool.and_eq_false_iff, decide_eq_false_iff_not] at ho
      obtain ⟨⟨h1, h2, h3, h4⟩, h5⟩ := ho
      by_cases h6 : op < 20
      · simp only [S42_88, S42_89, S42_90, S42_91, S42_92, S42_93, S42_94, S42, ↓XX, ↓reduceIte, Nat.reduceBEq, decide_true, decide_false, Bool.not_true, Bool.not_false, List.map_cons, List.map_nil, List.length_map, List.length_cons, List.length_nil, Nat.reduceAdd, Int.cast_ofNat_Int, Int.natCast_zero, Int.natCast_one, Bool.false_eq_true, Bool.true_eq_false, decide_eq_true_eq, eq_self, Int.reduceEq, Int.reduceLT, Int.reduceLE, Bool.and_true, Bool.true_and, Bool.and_false, Bool.false_and, Nat.zero_add, h1, h2, h3, h4, h6]; exact ans_fv _ _
      · have h7 : 29 < op := by omega
        simp only [S42_88, S42_89, S42_90, S42_91, S42_92, S42_93, S42_94, S42, ↓XX, ↓reduceIte, Nat.reduceBEq, decide_true, decide_false, Bool.not_true, Bool.not_false, List.map_cons, List.map_nil, List.length_map, List.length_cons, List.length_nil, Nat.reduceAdd, Int.cast_ofNat_Int, Int.natCast_zero, Int.natCast_one, Bool.false_eq_true, Bool.true_eq_false, decide_eq_true_eq, eq_self, Int.reduceEq, Int.reduceLT, Int.reduceLE, Bool.and_true, Bool.true_and, Bool.and_false, Bool.false_and, Nat.zero_add, h1, h2, h3, h4, h6, h7]; exact ans_fv _ _
    · rw [Bool.true_and]
      simp only [okP, Bool.or_eq_true, Bool.and_eq_true, decide_eq_true_eq] at ho
      have hrest : Ans (S42_89 ⟨[(44040192, .row [iv 20, iv 29] false), (44040193, .row [iv op, iv m, .fv (.sl (ks.map Tm.enc))] false)], []⟩ (.ptr (.own 44040192) 0) (.ptr (.own 44040193) 0) (SS dt (n + 1 + 1 + 1))) (.bool (Tm.plainPL ks)) := by
        simp only [S42_88, S42_89, S42_90, S42_91, S42_92, S42_93, S42_94, S42, ↓XX, ↓reduceIte, Nat.reduceBEq, decide_true, decide_false, Bool.not_true, Bool.not_false, List.map_cons, List.map_nil, List.length_map, List.length_cons, List.length_nil, Nat.reduceAdd, Int.cast_ofNat_Int, Int.natCast_zero, Int.natCast_one, Bool.false_eq_true, Bool.true_eq_false, decide_eq_true_eq, eq_self, Int.reduceEq, Int.reduceLT, Int.reduceLE, Bool.and_true, Bool.true_and, Bool.and_false, Bool.false_and, Nat.zero_add, mkf_b, mkf_c1]
        rw [iso_f1 hcf rfl (by rfl) (by simp) rfl]
        simp only [↓XX, ↓reduceIte, Nat.reduceBEq, decide_true, decide_false, Bool.not_true, Bool.not_false, List.map_cons, List.map_nil, List.length_map, List.length_cons, List.length_nil, Nat.reduceAdd, Int.cast_ofNat_Int, Int.natCast_zero, Int.natCast_one, Bool.false_eq_true, Bool.true_eq_false, decide_eq_true_eq, eq_self, Int.reduceEq, Int.reduceLT, Int.reduceLE, Bool.and_true, Bool.true_and, Bool.and_false, Bool.false_and, Nat.zero_add, Bool.not_not]
        exact ans_fv _ _
      by_cases h1 : op = 1
      · simp only [S42_88, S42_90, S42_91, S42_92, S42_93, S42_94, S42, ↓XX, ↓reduceIte, Nat.reduceBEq, decide_true, decide_false, Bool.not_true, Bool.not_false, List.map_cons, List.map_nil, List.length_map, List.length_cons, List.length_nil, Nat.reduceAdd, Int.cast_ofNat_Int, Int.natCast_zero, Int.natCast_one, Bool.false_eq_true, Bool.true_eq_false, decide_eq_true_eq, eq_self, Int.reduceEq, Int.reduceLT, Int.reduceLE, Bool.and_true, Bool.true_and, Bool.and_false, Bool.false_and, Nat.zero_add, h1]; rw [h1] at hrest; exact hrest
      by_cases h2 : op = 15
      · simp only [S42_88, S42_90, S42_91, S42_92, S42_93, S42_94, S42, ↓XX, ↓reduceIte, Nat.reduceBEq, decide_true, decide_false, Bool.not_true, Bool.not_false, List.map_cons, List.map_nil, List.length_map, List.length_cons, List.length_nil, Nat.reduceAdd, Int.cast_ofNat_Int, Int.natCast_zero, Int.natCast_one, Bool.false_eq_true, Bool.true_eq_false, decide_eq_true_eq, eq_self, Int.reduceEq, Int.reduceLT, Int.reduceLE, Bool.and_true, Bool.true_and, Bool.and_false, Bool.false_and, Nat.zero_add, h2]; rw [h2] at hrest; exact hrest
      by_cases h3 : op = 16
      · simp only [S42_88, S42_90, S42_91, S42_92, S42_93, S42_94, S42, ↓XX, ↓reduceIte, Nat.reduceBEq, decide_true, decide_false, Bool.not_true, Bool.not_false, List.map_cons, List.map_nil, List.length_map, List.length_cons, List.length_nil, Nat.reduceAdd, Int.cast_ofNat_Int, Int.natCast_zero, Int.natCast_one, Bool.false_eq_true, Bool.true_eq_false, decide_eq_true_eq, eq_self, Int.reduceEq, Int.reduceLT, Int.reduceLE, Bool.and_true, Bool.true_and, Bool.and_false, Bool.false_and, Nat.zero_add, h3]; rw [h3] at hrest; exact hrest
      by_cases h4 : op = 17
      · simp only [S42_88, S42_90, S42_91, S42_92, S42_93, S42_94, S42, ↓XX, ↓reduceIte, Nat.reduceBEq, decide_true, decide_false, Bool.not_true, Bool.not_false, List.map_cons, List.map_nil, List.length_map, List.length_cons, List.length_nil, Nat.reduceAdd, Int.cast_ofNat_Int, Int.natCast_zero, Int.natCast_one, Bool.false_eq_true, Bool.true_eq_false, decide_eq_true_eq, eq_self, Int.reduceEq, Int.reduceLT, Int.reduceLE, Bool.and_true, Bool.true_and, Bool.and_false, Bool.false_and, Nat.zero_add, h4]; rw [h4] at hrest; exact hrest
      have h5 : ¬ op < 20 := by omega
      have h6 : ¬ 29 < op := by omega
      simp only [S42_88, S42_90, S42_91, S42_92, S42_93, S42_94, S42, ↓XX, ↓reduceIte, Nat.reduceBEq, decide_true, decide_false, Bool.not_true, Bool.not_false, List.map_cons, List.map_nil, List.length_map, List.length_cons, List.length_nil, Nat.reduceAdd, Int.cast_ofNat_Int, Int.natCast_zero, Int.natCast_one, Bool.false_eq_true, Bool.true_eq_false, decide_eq_true_eq, eq_self, Int.reduceEq, Int.reduceLT, Int.reduceLE, Bool.and_true, Bool.true_and, Bool.and_false, Bool.false_and, Nat.zero_add, h1, h2, h3, h4, h5, h6]; exact hrest
theorem pPlain_ok {n : Nat} (t : Tm) (hn : 4 * t.wt + 5 < n) (hw : t.wt ≤ 900000) : Ans (SS dt n 18 [.fv t.enc] ⟨[], []⟩) (.bool t.plainP) := by
  obtain ⟨n, rfl⟩ : ∃ k, n = k + 1 := ⟨n - 1, by omega⟩
  rw [c18]
  have h := has_ok n t (by omega) hw
  obtain ⟨o, p, l⟩ := t
  rw [enc_mk] at h ⊢
  simp only [S18, ↓XX, ↓reduceIte, Nat.reduceBEq, decide_true, decide_false, Bool.not_true, Bool.not_false, List.map_cons, List.map_nil, List.length_map, List.length_cons, List.length_nil, Nat.reduceAdd, Int.cast_ofNat_Int, Int.natCast_zero, Int.natCast_one, Bool.false_eq_true, Bool.true_eq_false, decide_eq_true_eq, eq_self, Int.reduceEq, Int.reduceLT, Int.reduceLE, Bool.and_true, Bool.true_and, Bool.and_false, Bool.false_and, Nat.zero_add, ↓iso_2 h]; exact ans_fv _ _
end Idl
end Go.Proofs.Ytkfecngimlcfoaa

namespace Go.Proofs.Ytkfecngimlcfoaa
namespace Idl
inductive RV where
  | mk (op n : Int) (k env : List RV) (b : Tm)
def Tm.z : Tm := .mk 0 0 []
def RV.enc : RV → FV
  | .mk op n k env (.mk bo bn bk) => .fp [.int .i64 op, .int .i64 n, .sl (encL k), .sl (encL env), .int .i64 bo, .int .i64 bn, .sl (bk.map Tm.enc)] 0
where
  encL : List RV → List FV
    | [] => []
    | v :: l => v.enc :: encL l
def RV.op : RV → Int
  | .mk op _ _ _ _ => op
def RV.n : RV → Int
  | .mk _ n _ _ _ => n
def RV.k : RV → List RV
  | .mk _ _ k _ _ => k
def RV.env : RV → List RV
  | .mk _ _ _ env _ => env
def RV.b : RV → Tm
  | .mk _ _ _ _ b => b
def RV.var (n : Int) : RV := .mk 1 n [] [] .z
def RV.zero : RV := .mk 11 0 [] [] .z
end Idl
end Go.Proofs.Ytkfecngimlcfoaa

namespace Go.Proofs.Ytkfecngimlcfoaa
namespace Idl
inductive PV where
  | nil
  | mk (op n : Int) (k : List PV) (t : Tm) (e : List PV)
def PV.enc : PV → FV
  | .nil => .nilp
  | .mk op n k (.mk to tn tk) e => .fp [.int .i64 op, .int .i64 n, .sl (encL k), .int .i64 to, .int .i64 tn, .sl (tk.map Tm.enc), encE e] 0
where
  encL : List PV → List FV
    | [] => []
    | v :: l => v.enc :: encL l
  encE : List PV → FV
    | [] => .nilp
    | v :: l => .fp [v.enc, encE l] 0
def PV.encEnv : List PV → FV
  | [] => .nilp
  | v :: l => .fp [v.enc, encEnv l] 0
theorem pencL_eq (l : List PV) : PV.enc.encL l = l.map PV.enc := by
  induction l with
  | nil => rfl
  | cons t l ih => simp [PV.enc.encL, ih]
theorem pencE_eq (l : List PV) : PV.enc.encE l = PV.encEnv l := by
  induction l with
  | nil => rfl
  | cons t l ih => simp [PV.enc.encE, PV.encEnv, ih]
theorem penc_nil : PV.nil.enc = .nilp := rfl
theorem penc_mk (op n : Int) (k : List PV) (bo bn : Int) (bk : List Tm) (e : List PV) : (PV.mk op n k (.mk bo bn bk) e).enc =
    .fp [.int .i64 op, .int .i64 n, .sl (k.map PV.enc), .int .i64 bo, .int .i64 bn, .sl (bk.map Tm.enc), PV.encEnv e] 0 := by simp only [PV.enc, pencL_eq, pencE_eq]
theorem penv_nil : PV.encEnv [] = .nilp := rfl
theorem penv_cons (v : PV) (l : List PV) : PV.encEnv (v :: l) = .fp [v.enc, PV.encEnv l] 0 := rfl
def PV.var (n : Int) : PV := .mk 1 n [] .z []
theorem pvar_enc (n : Int) : (PV.var n).enc = .fp [.int .i64 1, .int .i64 n, .sl [], .int .i64 0, .int .i64 0, .sl [], .nilp] 0 := by rw [PV.var, Tm.z, penc_mk]; rfl
theorem penc_agg (v : PV) : ∀ l, v.enc ≠ .agg l := by
  intro l h
  cases v with
  | nil => cases h
  | mk op n k t e => obtain ⟨bo, bn, bk⟩ := t; rw [penc_mk] at h; cases h
theorem penc_one (v : PV) : oneF v.enc = true := by
  cases v with
  | nil => rfl
  | mk op n k t e => obtain ⟨bo, bn, bk⟩ := t; rw [penc_mk]; rfl
theorem penc_cells (v : PV) : v.enc.cells = [v.enc] := by
  cases v with
  | nil => rfl
  | mk op n k t e => obtain ⟨bo, bn, bk⟩ := t; rw [penc_mk]; rfl
theorem ix_p {β : Type} {l : List PV} {i : Nat} {v : PV} (h : l[i]? = some v) (k : IV → Option β) : ixS 1 (.fv (.sl (l.map PV.enc))) (iv i) k = k (.fv (.fp [v.enc] 0)) := by
  have h1 : (l.map PV.enc)[i]? = some v.enc := by rw [List.getElem?_map, h]; rfl
  rw [ix_f h1 (by rw [penc_cells]; rfl), penc_cells]
theorem tPs : EE.T 127 = some ⟨1, 24, .slice 96, [.nils]⟩ := by kernel_rfl
theorem tPp : EE.T 96 = some ⟨1, 8, .ptr, [.fv .nilp]⟩ := by kernel_rfl
theorem bs_p1 (a : PV) (s : Nat) (h : Hp) (k : IV → Hp → List Ref → List Ref → Option (IV × Hp)) : genS (pcBuildSlice EE 127 1 [(0, .fv a.enc)]) s h k = k (.clip [a.enc]) h [] [] := by
  cases a with
  | nil => exact bs_tm tPs tPp (by decide) (cells := [.nilp]) rfl k
  | mk op n kk t e =>
    obtain ⟨bo, bn, bk⟩ := t
    rw [penc_mk]
    exact bs_tm tPs tPp (by decide) (cells := [.fp [.int .i64 op, .int .i64 n, .sl (kk.map PV.enc), .int .i64 bo, .int .i64 bn, .sl (bk.map Tm.enc), PV.encEnv e] 0]) rfl k
theorem penc_cs (a : PV) : a.enc = .nilp ∨ ∃ l, a.enc = .fp l 0 := by
  cases a with
  | nil => exact .inl rfl
  | mk op n kk t e => obtain ⟨bo, bn, bk⟩ := t; exact .inr ⟨_, penc_mk ..⟩
theorem bs_p2 (a b : PV) (s : Nat) (h : Hp) (k : IV → Hp → List Ref → List Ref → Option (IV × Hp)) : genS (pcBuildSlice EE 127 2 [(0, .fv a.enc), (1, .fv b.enc)]) s h k = k (.clip [a.enc, b.enc]) h [] [] := by
  have key : ∀ x y : FV, (x = .nilp ∨ ∃ l, x = .fp l 0) → (y = .nilp ∨ ∃ l, y = .fp l 0) → genS (pcBuildSlice EE 127 2 [(0, .fv x), (1, .fv y)]) s h k = k (.clip [x, y]) h [] [] := by
    rintro x y (rfl | ⟨la, rfl⟩) (rfl | ⟨lb, rfl⟩)
    · exact bs_tm (len := 2) tPs tPp (by decide) (cells := [.nilp, .nilp]) rfl k
    · exact bs_tm (len := 2) tPs tPp (by decide) (cells := [.nilp, .fp lb 0]) rfl k
    · exact bs_tm (len := 2) tPs tPp (by decide) (cells := [.fp la 0, .nilp]) rfl k
    · exact bs_tm (len := 2) tPs tPp (by decide) (cells := [.fp la 0, .fp lb 0]) rfl k
  exact key _ _ (penc_cs a) (penc_cs b)
theorem bs_p4 (b d : PV) (s : Nat) (h : Hp) (k : IV → Hp → List Ref → List Ref → Option (IV × Hp)) : genS (pcBuildSlice EE 127 4 [(0, .fv .nilp), (1, .fv b.enc), (2, .fv .nilp), (3, .fv d.enc)]) s h k = k (.clip [.nilp, b.enc, .nilp, d.enc]) h [] [] := by
  have key : ∀ x y : FV, (x = .nilp ∨ ∃ l, x = .fp l 0) → (y = .nilp ∨ ∃ l, y = .fp l 0) → genS (pcBuildSlice EE 127 4 [(0, .fv .nilp), (1, .fv x), (2, .fv .nilp), (3, .fv y)]) s h k = k (.clip [.nilp, x, .nilp, y]) h [] [] := by
    rintro x y (rfl | ⟨la, rfl⟩) (rfl | ⟨lb, rfl⟩)
    · exact bs_tm (len := 4) tPs tPp (by decide) (cells := [.nilp, .nilp, .nilp, .nilp]) rfl k
    · exact bs_tm (len := 4) tPs tPp (by decide) (cells := [.nilp, .nilp, .nilp, .fp lb 0]) rfl k
    · exact bs_tm (len := 4) tPs tPp (by decide) (cells := [.nilp, .fp la 0, .nilp, .nilp]) rfl k
    · exact bs_tm (len := 4) tPs tPp (by decide) (cells := [.nilp, .fp la 0, .nilp, .fp lb 0]) rfl k
  exact key _ _ (penc_cs b) (penc_cs d)
theorem fil_p {β : Type} (v : PV) (z : List IV) (o : Nat) (k : List IV → Option β) : fillP z o 1 (.fv v.enc) k = offK z o (.fv v.enc) k := by
  unfold fillP
  rw [as_fv, penc_one]
  rfl
theorem fil_e {β : Type} (l : List PV) (z : List IV) (o : Nat) (k : List IV → Option β) : fillP z o 1 (.fv (PV.encEnv l)) k = offK z o (.fv (PV.encEnv l)) k := by
  unfold fillP
  rw [as_fv, show oneF (PV.encEnv l) = true by cases l <;> rfl]
  rfl
noncomputable abbrev ruleB (f : FuncId) : IV := .agg [.func (.func f) [.ptr (.ext 0) 0] []]
noncomputable abbrev rulesB : Blk := .map [(5, ruleB 94), (8, ruleB 95), (9, ruleB 95), (13, ruleB 96), (30, ruleB 97), (19, ruleB 98)]
noncomputable abbrev MX (s w r e : Int) : List Blk := [.row [iv s, iv w, iv r, iv e, .mapr (.ext 1)] false, rulesB]
theorem mx_free (s w r e : Int) : ∀ j, Ref.own j ∉ (MX s w r e).flatMap Blk.refs := by
  intro j h
  simp only [MX, List.flatMap_cons, List.flatMap_nil, Blk.refs, IV.refs.refsL, IV.refs, List.map_cons, List.map_nil, List.append_nil, List.nil_append, List.cons_append, List.mem_cons, List.not_mem_nil, or_false, reduceCtorEq] at h
theorem extX (s w r e s' w' r' e' : Int) : ExtX (MX s w r e) (MX s' w' r' e') := ⟨rfl, rfl, rfl⟩
section
variable {ih : Handler} {f : FuncId} {w : FV} {s u r e s' u' r' e' : Int} (own : List (Nat × Blk)) (k : IV → Hp → List Ref → List Ref → Option (IV × Hp))
theorem iso_x (args : List IV) (ks : List Bool) (hks : ∀ b ∈ ks, b = false) {vs : List FV} (hz : frzPL args = some vs) (hr : AnsX (ih f (.ptr (.ext 0) 0 :: vs.map .fv) ⟨[], MX s u r e⟩) w (MX s' u' r' e')) :
    isoS (true :: ks) false false ih f (.ptr (.ext 0) 0 :: args) ⟨own, MX s u r e⟩ k = k (.fv w) ⟨own, MX s' u' r' e'⟩ [.ext 1, .ext 0] [.ext 0, .ext 1] :=
  iso_g (fun e k => fza_k 0 args _ _ e k ks hks hz) (extX ..) hr (fun _ => rfl) k
theorem iso_x1 (hr : AnsX (ih f [.ptr (.ext 0) 0] ⟨[], MX s u r e⟩) w (MX s' u' r' e')) : isoS [true] false false ih f [.ptr (.ext 0) 0] ⟨own, MX s u r e⟩ k = k (.fv w) ⟨own, MX s' u' r' e'⟩ [.ext 1, .ext 0] [.ext 0, .ext 1] := iso_x own k [] [] (by simp) rfl hr
theorem iso_x2 {a : IV} {x : FV} (hr : AnsX (ih f [.ptr (.ext 0) 0, .fv x] ⟨[], MX s u r e⟩) w (MX s' u' r' e')) (ha : frzP a = some x) : isoS [true, false] false false ih f [.ptr (.ext 0) 0, a] ⟨own, MX s u r e⟩ k = k (.fv w) ⟨own, MX s' u' r' e'⟩ [.ext 1, .ext 0] [.ext 0, .ext 1] :=
  iso_x own k [a] [false] (by simp) (zl_1 ha) hr
theorem iso_x3 {a b : IV} {x y : FV} (hr : AnsX (ih f [.ptr (.ext 0) 0, .fv x, .fv y] ⟨[], MX s u r e⟩) w (MX s' u' r' e')) (ha : frzP a = some x) (hb : frzP b = some y) : isoS [true, false, false] false false ih f [.ptr (.ext 0) 0, a, b] ⟨own, MX s u r e⟩ k = k (.fv w) ⟨own, MX s' u' r' e'⟩ [.ext 1, .ext 0] [.ext 0, .ext 1] :=
  iso_x own k [a, b] [false, false] (by simp) (zl_2 ha hb) hr
theorem iso_x4 {a b c : IV} {x y z : FV} (hr : AnsX (ih f [.ptr (.ext 0) 0, .fv x, .fv y, .fv z] ⟨[], MX s u r e⟩) w (MX s' u' r' e')) (ha : frzP a = some x) (hb : frzP b = some y) (hc : frzP c = some z) :
    isoS [true, false, false, false] false false ih f [.ptr (.ext 0) 0, a, b, c] ⟨own, MX s u r e⟩ k = k (.fv w) ⟨own, MX s' u' r' e'⟩ [.ext 1, .ext 0] [.ext 0, .ext 1] :=
  iso_x own k [a, b, c] [false, false, false] (by simp) (zl_3 ha hb hc) hr
end
theorem iso_x2p {ih : Handler} {f : FuncId} {w : FV} {s0 : Nat} {s u r e s' u' r' e' : Int} {own : List (Nat × Blk)} {cells : List IV} {ro : Bool} {fc : List FV} (hr : AnsX (ih f [.ptr (.ext 0) 0, .fv (.fp fc 0)] ⟨[], MX s u r e⟩) w (MX s' u' r' e'))
    (hl : lookupOwn s0 own = some (.row cells ro)) (hz : frz1L cells = some fc) (hn : cells.length ≤ 300) (k : IV → Hp → List Ref → List Ref → Option (IV × Hp)) :
    isoS [true, false] false false ih f [.ptr (.ext 0) 0, .ptr (.own s0) 0] ⟨own, MX s u r e⟩ k = k (.fv w) ⟨putOwn s0 (.row cells true) own, MX s' u' r' e'⟩ [.ext 1, .ext 0, .own s0] [.own s0, .ext 0, .ext 1] := by
  refine iso_g (ks := [false]) (vs := [.fp fc 0]) (u := [(.own s0, .row cells true)]) (lg := [.own s0]) ?_ (extX ..) hr ?_ k
  · intro e k
    rw [fz1f, fu_ptr, g_own, ownK_eq, hl]
    simp only [Option.bind_some, as_row]
    rw [ble_dec, decide_eq_true hn, c_t, fz1_l 10 _ _ _ cells _ hz, fz0]
    rfl
  · intro k
    show (ownK own s0 fun _ => putOwnK own s0 (.row cells true) fun own => k ⟨own, _⟩) = _
    rw [ownK_eq, hl, Option.bind_some, putOwnK_eq]
theorem iso_x2v {ih : Handler} {f : FuncId} {w : FV} {s0 s2 len : Nat} {s u r e s' u' r' e' : Int} {own own' : List (Nat × Blk)} {es : List FV} {ro ro2 : Bool} {a b c d t x : FV} (hr : AnsX (ih f [.ptr (.ext 0) 0, .fv (.fp [a, b, .sl es, c, d, t, x] 0)] ⟨[], MX s u r e⟩) w (MX s' u' r' e'))
    (hl : lookupOwn s0 own = some (.row [.fv a, .fv b, .slc (.own s2) 1 len, .fv c, .fv d, .fv t, .fv x] ro)) (hl2 : lookupOwn s2 own = some (.row (es.map .fv) ro2)) (hlen : es.length = len) (hne : s2 ≠ s0) (hn : es.length ≤ 300) (ha : ∀ x ∈ es, ∀ l, x ≠ .agg l)
    (ho : putOwn s2 (.row (es.map .fv) true) (putOwn s0 (.row [.fv a, .fv b, .slc (.own s2) 1 len, .fv c, .fv d, .fv t, .fv x] true) own) = own') (k : IV → Hp → List Ref → List Ref → Option (IV × Hp)) :
    isoS [true, false] false false ih f [.ptr (.ext 0) 0, .ptr (.own s0) 0] ⟨own, MX s u r e⟩ k = k (.fv w) ⟨own', MX s' u' r' e'⟩ [.ext 1, .ext 0, .own s2, .own s0] [.own s0, .own s2, .ext 0, .ext 1] := by
  subst ho hlen
  refine iso_g (ks := [false]) (vs := [.fp [a, b, .sl es, c, d, t, x] 0]) (u := [(.own s0, .row [.fv a, .fv b, .slc (.own s2) 1 es.length, .fv c, .fv d, .fv t, .fv x] true), (.own s2, .row (es.map .fv) true)]) (lg := [.own s2, .own s0]) ?_ (extX ..) hr ?_ k
  · intro e k
    rw [fz1f, fz_v hl hl2 hn ha, fz0]
    rfl
  · intro k
    have h2 : ∀ (own : List (Nat × Blk)) (b : Blk), lookupOwn s2 (putOwn s0 b own) = lookupOwn s2 own := by
      intro own b
      induction own with
      | nil => simp only [putOwn, lookupOwn, if_neg hne]
      | cons p l ih =>
        obtain ⟨j, c⟩ := p
        simp only [putOwn]
        split
        · rename_i h; subst h; simp only [lookupOwn, if_neg hne]
        · simp only [lookupOwn, ih]
    show (ownK own s0 fun _ => putOwnK own s0 _ fun own => ownK own s2 fun _ => putOwnK own s2 _ fun own => k ⟨own, _⟩) = _
    rw [ownK_eq, hl, Option.bind_some, putOwnK_eq, ownK_eq, h2, hl2, Option.bind_some, putOwnK_eq]
theorem aof_e (e : List PV) (l : List FV) : allOneF (PV.encEnv e :: l) = allOneF l := aof_cons (by cases e <;> rfl) l
structure M3 where
  s : Int
  w : Int
  e : Int
def tickP (m : M3) : Option M3 := if m.w < -1000000000 ∨ 1000000000 < m.w then none else some ⟨m.s, m.w - 1, if m.w - 1 < 0 ∧ m.e = 0 then 17 else m.e⟩
theorem tick_ok {m m' : M3} (h : tickP m = some m') (r : Int) {n : Nat} (hn : 0 < n) : AnsX (SS dt n 99 [.ptr (.ext 0) 0] ⟨[], MX m.s m.w r m.e⟩) (.tuple []) (MX m'.s m'.w r m'.e) := by
  obtain ⟨n, rfl⟩ : ∃ k, n = k + 1 := ⟨n - 1, by omega⟩
  rw [c99]
  unfold tickP at h
  split at h
  · cases h
  · cases h
    have hw : w64 (m.w - 1) = m.w - 1 := by rw [w64_id] <;> omega
    by_cases h1 : m.w - 1 < 0
    · by_cases h2 : m.e = 0
      · simp only [S99_53, S99_54, S99_55, S99_56, S99, ↓XX, ↓reduceIte, Nat.reduceBEq, decide_true, decide_false, Bool.not_true, Bool.not_false, List.map_cons, List.map_nil, List.length_map, List.length_cons, List.length_nil, Nat.reduceAdd, Int.cast_ofNat_Int, Int.natCast_zero, Int.natCast_one, Bool.false_eq_true, Bool.true_eq_false, decide_eq_true_eq, eq_self, Int.reduceEq, Int.reduceLT, Int.reduceLE, Bool.and_true, Bool.true_and, Bool.and_false, Bool.false_and, Nat.zero_add, hw, h1, h2, true_and, and_true, if_true]
        exact ansx_fv _ _ _
      · simp only [S99_53, S99_54, S99_55, S99_56, S99, ↓XX, ↓reduceIte, Nat.reduceBEq, decide_true, decide_false, Bool.not_true, Bool.not_false, List.map_cons, List.map_nil, List.length_map, List.length_cons, List.length_nil, Nat.reduceAdd, Int.cast_ofNat_Int, Int.natCast_zero, Int.natCast_one, Bool.false_eq_true, Bool.true_eq_false, decide_eq_true_eq, eq_self, Int.reduceEq, Int.reduceLT, Int.reduceLE, Bool.and_true, Bool.true_and, Bool.and_false, Bool.false_and, Nat.zero_add, hw, h1, h2, and_false, if_false]
        exact ansx_fv _ _ _
    · simp only [S99_53, S99_54, S99_55, S99_56, S99, ↓XX, ↓reduceIte, Nat.reduceBEq, decide_true, decide_false, Bool.not_true, Bool.not_false, List.map_cons, List.map_nil, List.length_map, List.length_cons, List.length_nil, Nat.reduceAdd, Int.cast_ofNat_Int, Int.natCast_zero, Int.natCast_one, Bool.false_eq_true, Bool.true_eq_false, decide_eq_true_eq, eq_self, Int.reduceEq, Int.reduceLT, Int.reduceLE, Bool.and_true, Bool.true_and, Bool.and_false, Bool.false_and, Nat.zero_add, hw, h1, false_and, if_false]
      exact ansx_fv _ _ _
def lookP (env : List PV) (m : Int) : PV := if m < env.length then env.getD m.toNat .nil else .var (env.length - 1 - m)
theorem variable_ok : ∀ (env : List PV) (m : Int), 0 ≤ m → m ≤ 2305843009213693952 → ∀ n, env.length < n → Ans (loopS n (fun q3 l4 h5 => S100_31 l4 h5 q3) [.fv (PV.encEnv env), iv m] ⟨[], []⟩) (lookP env m).enc := by
  intro env m h0 h1 n hn
  refine loop_run (Q := fun r => Ans r _) (fun k V H => ∃ (rest : List PV) (j : Int), rest.length = k ∧ 0 ≤ j + env.length ∧ j ≤ m ∧ V = [.fv (PV.encEnv rest), iv j] ∧ H = ⟨[], []⟩ ∧ lookP rest j = lookP env m ∧ 0 ≤ j) ?_ n env.length _ _ hn ⟨env, m, rfl, by omega, Int.le_refl _, rfl, rfl, rfl, h0⟩
  rintro k V H rec ⟨rest, j, hl, hj, hjm, rfl, rfl, hlk, hj0⟩ hrec
  have hw : w64 (-1 - j) = -1 - j := by rw [w64_id] <;> omega
  have hw2 : w64 (j - 1) = j - 1 := by rw [w64_id] <;> omega
  cases rest with
  | nil =>
    have : lookP ([] : List PV) j = .var (-1 - j) := by
      unfold lookP
      rw [if_neg (by simp <;> omega)]
      rfl
    rw [← hlk, this, pvar_enc]
    simp only [S100_27, S100_28, S100_29, S100_30, S100_31, S100, penv_nil, ↓XX, ↓reduceIte, Nat.reduceBEq, decide_true, decide_false, Bool.not_true, Bool.not_false, List.map_cons, List.map_nil, List.length_map, List.length_cons, List.length_nil, Nat.reduceAdd, Int.cast_ofNat_Int, Int.natCast_zero, Int.natCast_one, Bool.false_eq_true, Bool.true_eq_false, decide_eq_true_eq, eq_self, Int.reduceEq, Int.reduceLT, Int.reduceLE, Bool.and_true, Bool.true_and, Bool.and_false, Bool.false_and, Nat.zero_add, hw]
    exact ⟨_, _, rfl, .inl ⟨_, _, fun _ _ => rfl⟩⟩
  | cons v rest =>
    by_cases hz : j = 0
    · subst hz
      have : lookP (v :: rest) 0 = v := by
        unfold lookP
        rw [if_pos (by simp <;> omega)]
        rfl
      rw [← hlk, this]
      simp only [S100_27, S100_28, S100_29, S100_30, S100_31, S100, penv_cons, ↓XX, ↓reduceIte, Nat.reduceBEq, decide_true, decide_false, Bool.not_true, Bool.not_false, List.map_cons, List.map_nil, List.length_map, List.length_cons, List.length_nil, Nat.reduceAdd, Int.cast_ofNat_Int, Int.natCast_zero, Int.natCast_one, Bool.false_eq_true, Bool.true_eq_false, decide_eq_true_eq, eq_self, Int.reduceEq, Int.reduceLT, Int.reduceLE, Bool.and_true, Bool.true_and, Bool.and_false, Bool.false_and, Nat.zero_add]
      exact ans_fv _ _
    · simp only [S100_27, S100_28, S100_29, S100_30, S100_31, S100, penv_cons, ↓XX, ↓reduceIte, Nat.reduceBEq, decide_true, decide_false, Bool.not_true, Bool.not_false, List.map_cons, List.map_nil, List.length_map, List.length_cons, List.length_nil, Nat.reduceAdd, Int.cast_ofNat_Int, Int.natCast_zero, Int.natCast_one, Bool.false_eq_true, Bool.true_eq_false, decide_eq_true_eq, eq_self, Int.reduceEq, Int.reduceLT, Int.reduceLE, Bool.and_true, Bool.true_and, Bool.and_false, Bool.false_and, Nat.zero_add, hz, hw2]
      simp only [List.length_cons] at hl
      refine hrec rest.length _ _ (by omega) ⟨rest, j - 1, rfl, by omega, by omega, rfl, rfl, ?_, by omega⟩
      rw [← hlk]
      unfold lookP
      simp only [List.length_cons, Int.natCast_add, Int.natCast_one]
      by_cases h : j < rest.length + 1
      · rw [if_pos h, if_pos (by omega)]
        obtain ⟨i, rfl⟩ : ∃ i : Nat, j = i + 1 := ⟨(j - 1).toNat, by omega⟩
        rw [show ((i : Int) + 1 - 1).toNat = i by omega, show ((i : Int) + 1).toNat = i + 1 by omega]
        rfl
      · rw [if_neg h, if_neg (by omega)]
        congr 1
        omega
theorem variable_c {n : Nat} (env : List PV) (m : Int) (h0 : 0 ≤ m) (h1 : m ≤ 2305843009213693952) (hn : env.length + 1 < n) : Ans (SS dt n 100 [.fv (PV.encEnv env), iv m] ⟨[], []⟩) (lookP env m).enc := by
  obtain ⟨n, rfl⟩ : ∃ k, n = k + 1 := ⟨n - 1, by omega⟩
  rw [c100]
  exact variable_ok env m h0 h1 n (by omega)
theorem with_c {n : Nat} (env l : List PV) (hl : l.length ≤ 10) (hn : l.length + 1 < n) : Ans (SS dt n 111 [.fv (PV.encEnv env), .fv (.sl (l.map PV.enc))] ⟨[], []⟩) (PV.encEnv (l.reverse ++ env)) := by
  obtain ⟨n, rfl⟩ : ∃ k, n = k + 1 := ⟨n - 1, by omega⟩
  rw [c111]
  simp only [S111_27, S111_28, S111, ↓XX, ↓reduceIte, Nat.reduceBEq, decide_true, decide_false, Bool.not_true, Bool.not_false, List.map_cons, List.map_nil, List.length_map, List.length_cons, List.length_nil, Nat.reduceAdd, Int.cast_ofNat_Int, Int.natCast_zero, Int.natCast_one, Bool.false_eq_true, Bool.true_eq_false, decide_eq_true_eq, eq_self, Int.reduceEq, Int.reduceLT, Int.reduceLE, Bool.and_true, Bool.true_and, Bool.and_false, Bool.false_and, Nat.zero_add, ↓drop_e, XD, heldB, flatD, List.any_cons, List.any_nil, List.all_cons, List.all_nil, List.filter_cons, List.filter_nil, List.contains_cons, List.contains_nil, Bool.or_false, Bool.or_true, Bool.false_or, Bool.true_or, Bool.and_self, Bool.not_eq_true, BEq.rfl, beq_self_eq_true]
  refine loop_run (Q := fun r => Ans r _) (fun k V H => ∃ (pre rest : List PV), l = pre ++ rest ∧ rest.length = k ∧ V = [.fv (PV.encEnv (pre.reverse ++ env)), .fv (.sl (l.map PV.enc)), iv l.length, iv pre.length] ∧ H = ⟨[], []⟩) ?_ n l.length _ _ (by omega) ⟨[], l, rfl, rfl, rfl, rfl⟩
  rintro k V H rec ⟨pre, rest, hk, hl2, rfl, rfl⟩ hrec
  have hkl : l.length = pre.length + rest.length := by rw [hk]; simp
  cases rest with
  | nil =>
    have hno : ¬ ((pre.length : Int) < l.length) := by rw [hkl]; simp
    rw [List.append_nil] at hk
    subst hk
    simp only [S111_27, S111_28, S111_29, S111, ↓XX, ↓reduceIte, Nat.reduceBEq, decide_true, decide_false, Bool.not_true, Bool.not_false, List.map_cons, List.map_nil, List.length_map, List.length_cons, List.length_nil, Nat.reduceAdd, Int.cast_ofNat_Int, Int.natCast_zero, Int.natCast_one, Bool.false_eq_true, Bool.true_eq_false, decide_eq_true_eq, eq_self, Int.reduceEq, Int.reduceLT, Int.reduceLE, Bool.and_true, Bool.true_and, Bool.and_false, Bool.false_and, Nat.zero_add, hno]
    exact ans_fv _ _
  | cons x rest =>
    have hi : (pre.length : Int) < l.length := by rw [hkl]; simp; omega
    have hg := at_pre hk
    have hwi : w64 ((pre.length : Int) + 1) = ((pre ++ [x]).length : Int) := (w64_id (by omega) (by omega)).trans (by simp)
    simp only [List.length_cons] at hl2
    simp only [S111_27, S111_28, S111_29, S111, ↓XX, ↓reduceIte, Nat.reduceBEq, decide_true, decide_false, Bool.not_true, Bool.not_false, List.map_cons, List.map_nil, List.length_map, List.length_cons, List.length_nil, Nat.reduceAdd, Int.cast_ofNat_Int, Int.natCast_zero, Int.natCast_one, Bool.false_eq_true, Bool.true_eq_false, decide_eq_true_eq, eq_self, Int.reduceEq, Int.reduceLT, Int.reduceLE, Bool.and_true, Bool.true_and, Bool.and_false, Bool.false_and, Nat.zero_add, hi, ↓ix_p hg, ↓fil_p, ↓fil_e, hwi, ↓drop_e, XD, heldB, flatD, List.any_cons, List.any_nil, List.all_cons, List.all_nil, List.filter_cons, List.filter_nil, List.contains_cons, List.contains_nil, Bool.or_false, Bool.or_true, Bool.false_or, Bool.true_or, Bool.and_self, Bool.not_eq_true, BEq.rfl, beq_self_eq_true]
    refine hrec rest.length _ _ (by omega) ⟨pre ++ [x], rest, by rw [hk]; simp, rfl, ?_, rfl⟩
    simp [PV.encEnv]
end Idl
end Go.Proofs.Ytkfecngimlcfoaa

namespace Go.Proofs.Ytkfecngimlcfoaa
namespace Idl
def PV.op : PV → Int
  | .nil => 0
  | .mk op _ _ _ _ => op
def kdP (ev : Tm → M3 → Option (PV × M3)) (op : Int) : Nat → List Tm → M3 → Option (List PV × M3)
  | _, [], m => some ([], m)
  | i, t :: l, m => if 0 < bindN op i then (kdP ev op (i + 1) l m).map fun (vs, m) => (.nil :: vs, m) else
    match ev t m with
    | none => none
    | some (v, m) => (kdP ev op (i + 1) l m).map fun (vs, m) => (v :: vs, m)
def isRule (op : Int) : Bool := op == 5 || (op == 8 || (op == 9 || (op == 13 || (op == 30 || op == 19))))
mutual
def evP : Nat → List PV → Tm → M3 → Option (PV × M3)
  | 0, _, _, _ => none
  | f + 1, env, .mk op n ks, m => match tickP m with
    | none => none
    | some m => if op = 1 then (if 0 ≤ n ∧ n ≤ 2305843009213693952 ∧ env.length + 1 < f then some (lookP env n, m) else none)
      else if f ≤ ks.length ∨ 300 < ks.length ∨ f = 0 then none
      else if m.e ≠ 0 then some (.mk op n (List.replicate ks.length .nil) (.mk op n ks) env, m)
      else match kdP (fun t m => evP f env t m) op 0 ks m with
        | none => none
        | some (vs, m) => if m.e ≠ 0 then some (.mk op n vs (.mk op n ks) env, m) else ctP f (.mk op n vs (.mk op n ks) env) m
def ctP : Nat → PV → M3 → Option (PV × M3)
  | 0, _, _ => none
  | f + 1, v, m => match v with
    | .nil => none
    | .mk op n k t e => if isRule op then (if m.e ≠ 0 then some (.mk op n k t e, m) else if f = 0 then none else match tickP m with
        | none => none
        | some m => if m.e ≠ 0 then some (.mk op n k t e, m) else match stP f (.mk op n k t e) m with
          | none => none
          | some (.nil, m) => some (.mk op n k t e, m)
          | some (u, m) => if m.e ≠ 0 then some (.mk op n k t e, m) else if m.s < -1000000000 ∨ 1000000000 < m.s then none else
            some (u, ⟨m.s - 1, m.w, if m.s - 1 < 0 then 17 else 0⟩))
      else some (.mk op n k t e, m)
def stP : Nat → PV → M3 → Option (PV × M3)
  | 0, _, _ => none
  | f + 1, v, m => match v with
    | .nil => none
    | .mk op n k t e => if op = 5 then (match k with
        | [.mk o0 n0 k0 t0 e0, x] => if o0 = 4 then opP f (.mk o0 n0 k0 t0 e0) 1 [x] m else some (.nil, m)
        | _ => none)
      else if op = 8 ∨ op = 9 then (match k with
        | [.mk o0 n0 k0 t0 e0] => if o0 = 7 then (match k0 with
            | [_, x, y] => some (if op = 8 then x else y, m)
            | _ => none) else some (.nil, m)
        | _ => none)
      else if op = 13 then (match k with
        | [_, z, _, .mk o3 n3 k3 t3 e3] => if o3 = 11 then some (z, m) else if o3 = 12 then (match k3 with
            | [x] => (match ctP f (.mk op n [.nil, z, .nil, x] t e) m with
              | none => none
              | some (h, m) => opP f (.mk op n k t e) 2 [x, h] m)
            | _ => none) else some (.nil, m)
        | _ => none)
      else (match k with
        | [.mk o0 n0 k0 t0 e0] => if o0 = (if op = 30 then 19 else 30) then (match k0 with
            | [x] => some (x, m)
            | _ => none) else some (.nil, m)
        | _ => none)
def opP : Nat → PV → Nat → List PV → M3 → Option (PV × M3)
  | 0, _, _, _, _ => none
  | f + 1, v, i, l, m => match v with
    | .nil => none
    | .mk _ _ _ (.mk _ _ tk) e => if f ≤ l.length + 1 ∨ 10 < l.length then none else match tk[i]? with
      | none => none
      | some b => evP f (l.reverse ++ e) b m
end
theorem tMk : (EE.T 98).map (·.kind) = some (.map 3 124) := by kernel_rfl
theorem tIk : (EE.T 3).map (·.kind) = some (.int .i64) := by kernel_rfl
theorem tRz : (EE.T 124).bind zeroOf = some (.fv (.agg [.nilf])) := by kernel_rfl
noncomputable def ruleL : List (Int × IV) := [(5, ruleB 94), (8, ruleB 95), (9, ruleB 95), (13, ruleB 96), (30, ruleB 97), (19, ruleB 98)]
theorem lk_e (op : Int) (own : List (Nat × Blk)) (s w r e : Int) : (pcLookup EE 98 (.mapr (.ext 1)) (iv op) true).runLog ⟨own, MX s w r e⟩ [] =
    some ((match getMap op ruleL with
      | some v => ({ eff := { val := mkTuple [v, .fv (.bool true)] } } : Made)
      | none => { eff := { val := mkTuple [.fv (.agg [.nilf]), .fv (.bool false)] } }), [.ext 1]) := by
  have h1 := tMk
  have h2 := tIk
  have h3 := tRz
  cases hm : EE.T 98 with
  | none => rw [hm] at h1; cases h1
  | some ti =>
    cases hi : EE.T 3 with
    | none => rw [hi] at h2; cases h2
    | some ii =>
      cases hr : EE.T 124 with
      | none => rw [hr] at h3; cases h3
      | some ri =>
        rw [hm] at h1
        rw [hi] at h2
        rw [hr] at h3
        obtain ⟨a, b, kd, z⟩ := ti
        obtain ⟨a2, b2, kd2, z2⟩ := ii
        simp only [Option.map_some, Option.some.injEq] at h1 h2
        simp only [Option.bind_some] at h3
        subst h1 h2
        simp only [pcLookup, hm, hi, hr, iv_e, Rd.runLog, Hp.get, MX, List.getElem?_cons_succ, List.getElem?_cons_zero]
        show (match getMap op ruleL with | some v => val (mkTuple [v, .fv (.bool true)]) | none => _).runLog _ _ = _
        cases getMap op ruleL with
        | some v => rfl
        | none => simp only [h3]; rfl
theorem lk_hit {op : Int} {g : FuncId} (hg : getMap op ruleL = some (ruleB g)) (s0 : Nat) (own : List (Nat × Blk)) (s w r e : Int) (k : IV → Hp → List Ref → List Ref → Option (IV × Hp)) :
    genS (pcLookup EE 98 (.mapr (.ext 1)) (iv op) true) s0 ⟨own, MX s w r e⟩ k = k (.tuple [ruleB g, .fv (.bool true)]) ⟨own, MX s w r e⟩ [.ext 1] [] := by
  unfold genS
  rw [lk_e, hg]
  simp only [newK, fV_eq]
  rfl
theorem lk_miss {op : Int} (hg : getMap op ruleL = none) (s0 : Nat) (own : List (Nat × Blk)) (s w r e : Int) (k : IV → Hp → List Ref → List Ref → Option (IV × Hp)) :
    genS (pcLookup EE 98 (.mapr (.ext 1)) (iv op) true) s0 ⟨own, MX s w r e⟩ k = k (.fv (.tuple [.agg [.nilf], .bool false])) ⟨own, MX s w r e⟩ [.ext 1] [] := by
  unfold genS
  rw [lk_e, hg]
  simp only [newK, fV_eq]
  rfl
theorem lk_rule (op : Int) : getMap op ruleL = if op = 5 then some (ruleB 94) else if op = 8 ∨ op = 9 then some (ruleB 95) else if op = 13 then some (ruleB 96) else
    if op = 30 then some (ruleB 97) else if op = 19 then some (ruleB 98) else none := by
  simp only [ruleL, getMap]
  split
  · rfl
  · split
    · rename_i h; rw [if_pos (.inl h)]
    · split
      · rename_i h; rw [if_pos (.inr h)]
      · rename_i h1 h2; simp only [h1, h2, or_self, if_false]
theorem keep1 {g : FuncId} (h : EE.pol.inl g = false) (h1 : EE.pol.keep g = [true, false]) (h2 : EE.pol.split g = false) (h3 : EE.pol.raw g = false) (ih : Handler) (x : IV) (h0 : Hp) (k : IV → Hp → List Ref → List Ref → Option (IV × Hp)) :
    dynS EE ih (.func (.func g) [.ptr (.ext 0) 0] []) [x] h0 k = isoS [true, false] false false ih g [.ptr (.ext 0) 0, x] h0 k := by
  unfold dynS
  simp only [callee, h, cond_false, sp_e, h1, h2, h3]
  rfl
theorem kp_app (ih : Handler) (x : IV) (h0 : Hp) (k : IV → Hp → List Ref → List Ref → Option (IV × Hp)) : dynS EE ih (.func (.func 94) [.ptr (.ext 0) 0] []) [x] h0 k = isoS [true, false] false false ih 94 [.ptr (.ext 0) 0, x] h0 k :=
  keep1 (by kernel_rfl) (by kernel_rfl) (by kernel_rfl) (by kernel_rfl) ..
theorem kp_part (ih : Handler) (x : IV) (h0 : Hp) (k : IV → Hp → List Ref → List Ref → Option (IV × Hp)) : dynS EE ih (.func (.func 95) [.ptr (.ext 0) 0] []) [x] h0 k = isoS [true, false] false false ih 95 [.ptr (.ext 0) 0, x] h0 k :=
  keep1 (by kernel_rfl) (by kernel_rfl) (by kernel_rfl) (by kernel_rfl) ..
theorem kp_rec (ih : Handler) (x : IV) (h0 : Hp) (k : IV → Hp → List Ref → List Ref → Option (IV × Hp)) : dynS EE ih (.func (.func 96) [.ptr (.ext 0) 0] []) [x] h0 k = isoS [true, false] false false ih 96 [.ptr (.ext 0) 0, x] h0 k :=
  keep1 (by kernel_rfl) (by kernel_rfl) (by kernel_rfl) (by kernel_rfl) ..
theorem kp_spl (ih : Handler) (x : IV) (h0 : Hp) (k : IV → Hp → List Ref → List Ref → Option (IV × Hp)) : dynS EE ih (.func (.func 97) [.ptr (.ext 0) 0] []) [x] h0 k = isoS [true, false] false false ih 97 [.ptr (.ext 0) 0, x] h0 k :=
  keep1 (by kernel_rfl) (by kernel_rfl) (by kernel_rfl) (by kernel_rfl) ..
theorem kp_quo (ih : Handler) (x : IV) (h0 : Hp) (k : IV → Hp → List Ref → List Ref → Option (IV × Hp)) : dynS EE ih (.func (.func 98) [.ptr (.ext 0) 0] []) [x] h0 k = isoS [true, false] false false ih 98 [.ptr (.ext 0) 0, x] h0 k :=
  keep1 (by kernel_rfl) (by kernel_rfl) (by kernel_rfl) (by kernel_rfl) ..
theorem eq_fp (cs : List FV) (o : Nat) (k : IV → Option (IV × Hp)) : eqS EE 96 (.fv (.fp cs o)) (.fv .nilp) k = k (.fv (.bool false)) := by
  have : binR EE .eql 96 (.fv (.fp cs o)) (.fv .nilp) = some (.fv (.bool false)) := by
    simp only [binR, tPp]; rfl
  show optS (binR EE .eql 96 (.fv (.fp cs o)) (.fv .nilp)) k = _
  rw [this]; rfl
theorem eq_np (k : IV → Option (IV × Hp)) : eqS EE 96 (.fv .nilp) (.fv .nilp) k = k (.fv (.bool true)) := by
  have : binR EE .eql 96 (.fv .nilp) (.fv .nilp) = some (.fv (.bool true)) := by
    simp only [binR, tPp]; rfl
  show optS (binR EE .eql 96 (.fv .nilp) (.fv .nilp)) k = _
  rw [this]; rfl
theorem st_rule (g : FuncId) (s0 : Nat) (ext : List Blk) (k : Hp → List Ref → List Ref → Option (IV × Hp)) : storeA 1 (.ptr (.own s0) 0) (ruleB g) ⟨[(s0, .row [.fv .nilf] false)], ext⟩ k = k ⟨[(s0, .row [.func (.func g) [.ptr (.ext 0) 0] []] false)], ext⟩ [.own s0] [.own s0] := by
  simp only [storeA, as_nf1, as_p, g_own, o_hit, as_free]
  rw [if_pos ⟨rfl, rfl, by simp, rfl, rfl⟩, sp_e]
  show layK (.own s0) (.row [.func (.func g) [.ptr (.ext 0) 0] []] false) _ _ = _
  rw [lay_own, p_hit]
end Idl
end Go.Proofs.Ytkfecngimlcfoaa

namespace Go.Proofs.Ytkfecngimlcfoaa
namespace Idl
def EvOk (f : Nat) : Prop := ∀ (env : List PV) (t : Tm) (m m' : M3) (v : PV), evP f env t m = some (v, m') → ∀ (r : Int) (n : Nat), f + 1 ≤ n →
  AnsX (SS dt n 71 [.ptr (.ext 0) 0, .fv (PV.encEnv env), .fv t.enc] ⟨[], MX m.s m.w r m.e⟩) v.enc (MX m'.s m'.w r m'.e)
def CtOk (f : Nat) : Prop := ∀ (v u : PV) (m m' : M3), ctP f v m = some (u, m') → ∀ (r : Int) (n : Nat), f + 1 ≤ n →
  AnsX (SS dt n 102 [.ptr (.ext 0) 0, .fv v.enc] ⟨[], MX m.s m.w r m.e⟩) u.enc (MX m'.s m'.w r m'.e)
def ruleF (op : Int) : FuncId := if op = 5 then 94 else if op = 8 ∨ op = 9 then 95 else if op = 13 then 96 else if op = 30 then 97 else 98
def StOk (f : Nat) : Prop := ∀ (v u : PV) (m m' : M3), isRule v.op = true → stP f v m = some (u, m') → ∀ (r : Int) (n : Nat), f + 1 ≤ n →
  AnsX (SS dt n (ruleF v.op) [.ptr (.ext 0) 0, .fv v.enc] ⟨[], MX m.s m.w r m.e⟩) u.enc (MX m'.s m'.w r m'.e)
def OpnOk (f : Nat) : Prop := ∀ (v u : PV) (i : Nat) (l : List PV) (m m' : M3), opP f v i l m = some (u, m') → ∀ (r : Int) (n : Nat), f + 1 ≤ n →
  AnsX (SS dt n 103 [.ptr (.ext 0) 0, .fv v.enc, iv i, .fv (.sl (l.map PV.enc))] ⟨[], MX m.s m.w r m.e⟩) u.enc (MX m'.s m'.w r m'.e)
theorem rule_get {op : Int} (h : isRule op = true) : getMap op ruleL = some (ruleB (ruleF op)) := by
  rw [lk_rule]
  unfold ruleF
  simp only [isRule, Bool.or_eq_true, beq_iff_eq] at h
  rcases h with h | h | h | h | h | h <;> subst h <;> rfl
theorem rule_none {op : Int} (h : isRule op = false) : getMap op ruleL = none := by
  rw [lk_rule]
  simp only [isRule, Bool.or_eq_false_iff, beq_eq_false_iff_ne, ne_eq] at h
  obtain ⟨h1, h2, h3, h4, h5, h6⟩ := h
  simp only [h1, h2, h3, h4, h5, h6, or_self, if_false]
theorem kp_rule {op : Int} (h : isRule op = true) (ih : Handler) (x : IV) (h0 : Hp) (k : IV → Hp → List Ref → List Ref → Option (IV × Hp)) :
    dynS EE ih (.func (.func (ruleF op)) [.ptr (.ext 0) 0] []) [x] h0 k = isoS [true, false] false false ih (ruleF op) [.ptr (.ext 0) 0, x] h0 k := by
  simp only [isRule, Bool.or_eq_true, beq_iff_eq] at h
  rcases h with h | h | h | h | h | h <;> subst h
  · exact kp_app ..
  · exact kp_part ..
  · exact kp_part ..
  · exact kp_rec ..
  · exact kp_spl ..
  · exact kp_quo ..
set_option maxHeartbeats 1000000 in
theorem ct_step {f : Nat} (hs : StOk f) : CtOk (f + 1) := by
  intro v u m m' hev r n hn
  obtain ⟨n, rfl⟩ : ∃ k, n = k + 1 := ⟨n - 1, by omega⟩
  rw [c102]
  cases v with
  | nil => rw [ctP] at hev; cases hev
  | mk op nn k t e =>
  rw [ctP] at hev
  have hs := hs (.mk op nn k t e)
  obtain ⟨bo, bn, bk⟩ := t
  rw [penc_mk] at hs ⊢
  cases hr : isRule op with
  | false =>
    simp only [hr, Bool.false_eq_true, if_false, Option.some.injEq, Prod.mk.injEq] at hev
    obtain ⟨rfl, rfl⟩ := hev
    rw [penc_mk]
    simp only [S102_126, S102_127, S102_128, S102_129, S102_130, S102_131, S102_132, S102_133, S102_134, S102_135, S102_136, S102_137, S102, ↓XX, ↓reduceIte, Nat.reduceBEq, decide_true, decide_false, Bool.not_true, Bool.not_false, List.map_cons, List.map_nil, List.length_map, List.length_cons, List.length_nil, Nat.reduceAdd, Int.cast_ofNat_Int, Int.natCast_zero, Int.natCast_one, Bool.false_eq_true, Bool.true_eq_false, decide_eq_true_eq, eq_self, Int.reduceEq, Int.reduceLT, Int.reduceLE, Bool.and_true, Bool.true_and, Bool.and_false, Bool.false_and, Nat.zero_add, ↓lk_miss (rule_none hr)]
    exact ansx_fv _ _ _
  | true =>
    simp only [hr, if_true] at hev
    by_cases h0 : m.e ≠ 0
    · rw [if_pos h0] at hev
      simp only [Option.some.injEq, Prod.mk.injEq] at hev
      obtain ⟨rfl, rfl⟩ := hev
      rw [penc_mk]
      simp only [S102_126, S102_127, S102_128, S102_129, S102_130, S102_131, S102_132, S102_133, S102_134, S102_135, S102_136, S102_137, S102, ↓XX, ↓reduceIte, Nat.reduceBEq, decide_true, decide_false, Bool.not_true, Bool.not_false, List.map_cons, List.map_nil, List.length_map, List.length_cons, List.length_nil, Nat.reduceAdd, Int.cast_ofNat_Int, Int.natCast_zero, Int.natCast_one, Bool.false_eq_true, Bool.true_eq_false, decide_eq_true_eq, eq_self, Int.reduceEq, Int.reduceLT, Int.reduceLE, Bool.and_true, Bool.true_and, Bool.and_false, Bool.false_and, Nat.zero_add, ↓lk_hit (rule_get hr), ↓st_rule, h0]
      exact ansx_fv _ _ _
    · rw [if_neg h0] at hev
      have h0 : m.e = 0 := by simpa using h0
      split at hev
      · cases hev
      · rename_i hf0
        cases ht : tickP m with
        | none => rw [ht] at hev; cases hev
        | some m1 =>
          rw [ht] at hev
          simp only at hev
          have hc1 := tick_ok ht r (n := n) (by omega)
          by_cases h1 : m1.e ≠ 0
          · rw [if_pos h1] at hev
            simp only [Option.some.injEq, Prod.mk.injEq] at hev
            obtain ⟨rfl, rfl⟩ := hev
            rw [penc_mk]
            simp only [h0] at hc1
            simp only [S102_126, S102_127, S102_128, S102_129, S102_130, S102_131, S102_132, S102_133, S102_134, S102_135, S102_136, S102_137, S102, ↓XX, ↓reduceIte, Nat.reduceBEq, decide_true, decide_false, Bool.not_true, Bool.not_false, List.map_cons, List.map_nil, List.length_map, List.length_cons, List.length_nil, Nat.reduceAdd, Int.cast_ofNat_Int, Int.natCast_zero, Int.natCast_one, Bool.false_eq_true, Bool.true_eq_false, decide_eq_true_eq, eq_self, Int.reduceEq, Int.reduceLT, Int.reduceLE, Bool.and_true, Bool.true_and, Bool.and_false, Bool.false_and, Nat.zero_add, ↓lk_hit (rule_get hr), ↓st_rule, h0, ↓iso_x1 _ _ hc1, h1]
            exact ansx_fv _ _ _
          · rw [if_neg h1] at hev
            have h1 : m1.e = 0 := by simpa using h1
            cases hst : stP f (.mk op nn k (.mk bo bn bk) e) m1 with
            | none => rw [hst] at hev; cases hev
            | some q =>
              obtain ⟨x, m2⟩ := q
              rw [hst] at hev
              have hc2 := hs x m1 m2 hr hst r n (by omega)
              simp only [PV.op] at hc2
              simp only [h0] at hc1
              simp only [h1] at hc1 hc2
              cases x with
              | nil =>
                simp only [Option.some.injEq, Prod.mk.injEq] at hev
                obtain ⟨rfl, rfl⟩ := hev
                rw [penc_mk]
                rw [penc_nil] at hc2
                simp only [S102_126, S102_127, S102_128, S102_129, S102_130, S102_131, S102_132, S102_133, S102_134, S102_135, S102_136, S102_137, S102, ↓XX, ↓reduceIte, Nat.reduceBEq, decide_true, decide_false, Bool.not_true, Bool.not_false, List.map_cons, List.map_nil, List.length_map, List.length_cons, List.length_nil, Nat.reduceAdd, Int.cast_ofNat_Int, Int.natCast_zero, Int.natCast_one, Bool.false_eq_true, Bool.true_eq_false, decide_eq_true_eq, eq_self, Int.reduceEq, Int.reduceLT, Int.reduceLE, Bool.and_true, Bool.true_and, Bool.and_false, Bool.false_and, Nat.zero_add, ↓lk_hit (rule_get hr), ↓st_rule, h0, ↓iso_x1 _ _ hc1, h1, ↓kp_rule hr, ↓iso_x2 _ _ hc2, ↓eq_fp, ↓eq_np]
                exact ansx_fv _ _ _
              | mk op2 nn2 k2 t2 e2 =>
                simp only at hev
                obtain ⟨bo2, bn2, bk2⟩ := t2
                by_cases h2 : m2.e ≠ 0
                · rw [if_pos h2] at hev
                  simp only [Option.some.injEq, Prod.mk.injEq] at hev
                  obtain ⟨rfl, rfl⟩ := hev
                  rw [penc_mk] at hc2 ⊢
                  simp only [S102_126, S102_127, S102_128, S102_129, S102_130, S102_131, S102_132, S102_133, S102_134, S102_135, S102_136, S102_137, S102, ↓XX, ↓reduceIte, Nat.reduceBEq, decide_true, decide_false, Bool.not_true, Bool.not_false, List.map_cons, List.map_nil, List.length_map, List.length_cons, List.length_nil, Nat.reduceAdd, Int.cast_ofNat_Int, Int.natCast_zero, Int.natCast_one, Bool.false_eq_true, Bool.true_eq_false, decide_eq_true_eq, eq_self, Int.reduceEq, Int.reduceLT, Int.reduceLE, Bool.and_true, Bool.true_and, Bool.and_false, Bool.false_and, Nat.zero_add, ↓lk_hit (rule_get hr), ↓st_rule, h0, ↓iso_x1 _ _ hc1, h1, ↓kp_rule hr, ↓iso_x2 _ _ hc2, ↓eq_fp, ↓eq_np, h2]
                  exact ansx_fv _ _ _
                · rw [if_neg h2] at hev
                  have h2 : m2.e = 0 := by simpa using h2
                  split at hev
                  · cases hev
                  · simp only [Option.some.injEq, Prod.mk.injEq] at hev
                    obtain ⟨rfl, rfl⟩ := hev
                    have hw : w64 (m2.s - 1) = m2.s - 1 := by rw [w64_id] <;> omega
                    rw [penc_mk] at hc2 ⊢
                    simp only [h2] at hc2
                    by_cases h3 : m2.s - 1 < 0
                    · simp only [S102_126, S102_127, S102_128, S102_129, S102_130, S102_131, S102_132, S102_133, S102_134, S102_135, S102_136, S102_137, S102, ↓XX, ↓reduceIte, Nat.reduceBEq, decide_true, decide_false, Bool.not_true, Bool.not_false, List.map_cons, List.map_nil, List.length_map, List.length_cons, List.length_nil, Nat.reduceAdd, Int.cast_ofNat_Int, Int.natCast_zero, Int.natCast_one, Bool.false_eq_true, Bool.true_eq_false, decide_eq_true_eq, eq_self, Int.reduceEq, Int.reduceLT, Int.reduceLE, Bool.and_true, Bool.true_and, Bool.and_false, Bool.false_and, Nat.zero_add, ↓lk_hit (rule_get hr), ↓st_rule, h0, ↓iso_x1 _ _ hc1, h1, ↓kp_rule hr, ↓iso_x2 _ _ hc2, ↓eq_fp, ↓eq_np, h2, hw, h3]
                      exact ansx_fv _ _ _
                    · simp only [S102_126, S102_127, S102_128, S102_129, S102_130, S102_131, S102_132, S102_133, S102_134, S102_135, S102_136, S102_137, S102, ↓XX, ↓reduceIte, Nat.reduceBEq, decide_true, decide_false, Bool.not_true, Bool.not_false, List.map_cons, List.map_nil, List.length_map, List.length_cons, List.length_nil, Nat.reduceAdd, Int.cast_ofNat_Int, Int.natCast_zero, Int.natCast_one, Bool.false_eq_true, Bool.true_eq_false, decide_eq_true_eq, eq_self, Int.reduceEq, Int.reduceLT, Int.reduceLE, Bool.and_true, Bool.true_and, Bool.and_false, Bool.false_and, Nat.zero_add, ↓lk_hit (rule_get hr), ↓st_rule, h0, ↓iso_x1 _ _ hc1, h1, ↓kp_rule hr, ↓iso_x2 _ _ hc2, ↓eq_fp, ↓eq_np, h2, hw, h3]
                      exact ansx_fv _ _ _
end Idl
end Go.Proofs.Ytkfecngimlcfoaa

namespace Go.Proofs.Ytkfecngimlcfoaa
namespace Idl
theorem ixg {β : Type} {l : List FV} {i : Nat} {x : FV} (h : l[i]? = some x) (hx : x.cells = [x]) (k : IV → Option β) : ixS 1 (.fv (.sl l)) (iv i) k = k (.fv (.fp [x] 0)) := by
  rw [ix_f h (by rw [hx]; rfl), hx]
section
variable {β : Type} (a b c : FV) (l : List FV) (cs : List FV) (o : Nat) (v : PV) (k : IV → Option β)
theorem ixf0 : ixS 1 (.fv (.sl (.fp cs o :: l))) (iv 0) k = k (.fv (.fp [.fp cs o] 0)) := ixg (i := 0) rfl rfl k
theorem ixe0 : ixS 1 (.fv (.sl (v.enc :: l))) (iv 0) k = k (.fv (.fp [v.enc] 0)) := ixg (i := 0) rfl (penc_cells v) k
theorem ixf1 : ixS 1 (.fv (.sl (a :: .fp cs o :: l))) (iv 1) k = k (.fv (.fp [.fp cs o] 0)) := ixg (i := 1) rfl rfl k
theorem ixe1 : ixS 1 (.fv (.sl (a :: v.enc :: l))) (iv 1) k = k (.fv (.fp [v.enc] 0)) := ixg (i := 1) rfl (penc_cells v) k
theorem ixf2 : ixS 1 (.fv (.sl (a :: b :: .fp cs o :: l))) (iv 2) k = k (.fv (.fp [.fp cs o] 0)) := ixg (i := 2) rfl rfl k
theorem ixe2 : ixS 1 (.fv (.sl (a :: b :: v.enc :: l))) (iv 2) k = k (.fv (.fp [v.enc] 0)) := ixg (i := 2) rfl (penc_cells v) k
theorem ixf3 : ixS 1 (.fv (.sl (a :: b :: c :: .fp cs o :: l))) (iv 3) k = k (.fv (.fp [.fp cs o] 0)) := ixg (i := 3) rfl rfl k
theorem ixe3 : ixS 1 (.fv (.sl (a :: b :: c :: v.enc :: l))) (iv 3) k = k (.fv (.fp [v.enc] 0)) := ixg (i := 3) rfl (penc_cells v) k
end
def XI := And.intro @ixf0 <| And.intro @ixf1 <| And.intro @ixf2 <| And.intro @ixf3 <| And.intro @ixe0 <| And.intro @ixe1 <| And.intro @ixe2 @ixe3
theorem fa_fg {β : Type} (o p : Nat) (cs : List FV) (k : IV → Option β) : faddrS o (.fv (.fp cs p)) k = k (.fv (.fp cs (p + o))) := by rw [x_faddr_f]
theorem lo_hit (s : Nat) (b : Blk) (l : List (Nat × Blk)) : lookupOwn s ((s, b) :: l) = some b := by simp only [lookupOwn, if_true]
theorem op_step {f : Nat} (he : EvOk f) : OpnOk (f + 1) := by
  intro v u i l m m' hev r n hn
  obtain ⟨n, rfl⟩ : ∃ k, n = k + 1 := ⟨n - 1, by omega⟩
  rw [c103]
  cases v with
  | nil => rw [opP] at hev; cases hev
  | mk op nn k t e =>
  obtain ⟨bo, bn, bk⟩ := t
  rw [opP] at hev
  split at hev
  · cases hev
  · rename_i hf
    cases hb : bk[i]? with
    | none => rw [hb] at hev; cases hev
    | some b =>
      rw [hb] at hev
      simp only at hev
      have hw := with_c (n := n) e l (by omega) (by omega)
      have hc := he _ _ _ _ _ hev r n (by omega)
      rw [penc_mk]
      obtain ⟨b1, b2, b3⟩ := b
      have hg := map_get hb
      rw [enc_mk] at hc
      simp only [S103_25, S103_26, S103, ↓XX, ↓reduceIte, Nat.reduceBEq, decide_true, decide_false, Bool.not_true, Bool.not_false, List.map_cons, List.map_nil, List.length_map, List.length_cons, List.length_nil, Nat.reduceAdd, Int.cast_ofNat_Int, Int.natCast_zero, Int.natCast_one, Bool.false_eq_true, Bool.true_eq_false, decide_eq_true_eq, eq_self, Int.reduceEq, Int.reduceLT, Int.reduceLE, Bool.and_true, Bool.true_and, Bool.and_false, Bool.false_and, Nat.zero_add, ↓iso_2 hw, ↓ix_f hg (agg3l _ _ _), ↓agg3, ↓fa_fg, ↓iso_x3 _ _ hc]
      exact ansx_fv _ _ _
theorem within_c {n : Nat} (hn : 0 < n) (op nn : Int) (o0 n0 : Int) (k0 : List PV) (t0 : Tm) (e0 : List PV) (t : Tm) (e : List PV) (want : Int) (hk : o0 = want → ∃ x, k0 = [x]) :
    Ans (SS dt n 109 [.fv (PV.mk op nn [.mk o0 n0 k0 t0 e0] t e).enc, iv want] ⟨[], []⟩) (if o0 = want then k0.headD .nil else .nil).enc := by
  obtain ⟨n, rfl⟩ : ∃ k, n = k + 1 := ⟨n - 1, by omega⟩
  rw [c109]
  obtain ⟨bo, bn, bk⟩ := t
  obtain ⟨co, cn, ck⟩ := t0
  rw [penc_mk, List.map_cons, List.map_nil, penc_mk]
  by_cases h : o0 = want
  · obtain ⟨x, rfl⟩ := hk h
    rw [if_pos h]
    simp only [S109_29, S109_30, S109_31, S109, ↓XX, ↓reduceIte, Nat.reduceBEq, decide_true, decide_false, Bool.not_true, Bool.not_false, List.map_cons, List.map_nil, List.length_map, List.length_cons, List.length_nil, Nat.reduceAdd, Int.cast_ofNat_Int, Int.natCast_zero, Int.natCast_one, Bool.false_eq_true, Bool.true_eq_false, decide_eq_true_eq, eq_self, Int.reduceEq, Int.reduceLT, Int.reduceLE, Bool.and_true, Bool.true_and, Bool.and_false, Bool.false_and, Nat.zero_add, ↓XI, h, List.headD_cons]
    exact ans_fv _ _
  · rw [if_neg h, penc_nil]
    simp only [S109_29, S109_30, S109_31, S109, ↓XX, ↓reduceIte, Nat.reduceBEq, decide_true, decide_false, Bool.not_true, Bool.not_false, List.map_cons, List.map_nil, List.length_map, List.length_cons, List.length_nil, Nat.reduceAdd, Int.cast_ofNat_Int, Int.natCast_zero, Int.natCast_one, Bool.false_eq_true, Bool.true_eq_false, decide_eq_true_eq, eq_self, Int.reduceEq, Int.reduceLT, Int.reduceLE, Bool.and_true, Bool.true_and, Bool.and_false, Bool.false_and, Nat.zero_add, ↓XI, h]
    exact ans_fv _ _
theorem st_step {f : Nat} (hc : CtOk f) (ho : OpnOk f) : StOk (f + 1) := by
  intro v u m m' hr hev r n hn
  obtain ⟨n, rfl⟩ : ∃ k, n = k + 1 := ⟨n - 1, by omega⟩
  cases v with
  | nil => rw [stP] at hev; cases hev
  | mk op nn k t e =>
  obtain ⟨bo, bn, bk⟩ := t
  rw [stP.eq_def] at hev
  simp only at hev
  simp only [PV.op] at hr ⊢
  by_cases h5 : op = 5
  · subst h5
    rw [if_pos rfl] at hev
    rw [show ruleF 5 = 94 from rfl, c94]
    match k, hev with
    | [.mk o0 n0 k0 t0 e0, x], hev =>
      simp only at hev
      obtain ⟨co, cn, ck⟩ := t0
      by_cases h4 : o0 = 4
      · subst h4
        rw [if_pos rfl] at hev
        have hq := ho _ _ _ _ _ _ hev r n (by omega)
        rw [penc_mk] at hq ⊢
        simp only [List.map_cons, List.map_nil, penc_mk] at hq ⊢
        simp only [S94_30, S94_31, S94_32, S94, ↓XX, ↓reduceIte, Nat.reduceBEq, decide_true, decide_false, Bool.not_true, Bool.not_false, List.map_cons, List.map_nil, List.length_map, List.length_cons, List.length_nil, Nat.reduceAdd, Int.cast_ofNat_Int, Int.natCast_zero, Int.natCast_one, Bool.false_eq_true, Bool.true_eq_false, decide_eq_true_eq, eq_self, Int.reduceEq, Int.reduceLT, Int.reduceLE, Bool.and_true, Bool.true_and, Bool.and_false, Bool.false_and, Nat.zero_add, ↓XI, ↓bs_p1, ↓iso_x4 _ _ hq]
        exact ansx_fv _ _ _
      · rw [if_neg h4] at hev
        simp only [Option.some.injEq, Prod.mk.injEq] at hev
        obtain ⟨rfl, rfl⟩ := hev
        rw [penc_mk]
        simp only [List.map_cons, List.map_nil, penc_mk, penc_nil]
        simp only [S94_30, S94_31, S94_32, S94, ↓XX, ↓reduceIte, Nat.reduceBEq, decide_true, decide_false, Bool.not_true, Bool.not_false, List.map_cons, List.map_nil, List.length_map, List.length_cons, List.length_nil, Nat.reduceAdd, Int.cast_ofNat_Int, Int.natCast_zero, Int.natCast_one, Bool.false_eq_true, Bool.true_eq_false, decide_eq_true_eq, eq_self, Int.reduceEq, Int.reduceLT, Int.reduceLE, Bool.and_true, Bool.true_and, Bool.and_false, Bool.false_and, Nat.zero_add, ↓XI, h4]
        exact ansx_fv _ _ _
  · rw [if_neg h5] at hev
    by_cases h8 : op = 8 ∨ op = 9
    · rw [if_pos h8] at hev
      rw [show ruleF op = 95 by rcases h8 with rfl | rfl <;> rfl, c95]
      match k, hev with
      | [.mk o0 n0 k0 t0 e0], hev =>
        simp only at hev
        obtain ⟨co, cn, ck⟩ := t0
        by_cases h7 : o0 = 7
        · subst h7
          rw [if_pos rfl] at hev
          match k0, hev with
          | [w, x, y], hev =>
            simp only [Option.some.injEq, Prod.mk.injEq] at hev
            obtain ⟨rfl, rfl⟩ := hev
            rw [penc_mk]
            simp only [List.map_cons, List.map_nil, penc_mk]
            rcases h8 with rfl | rfl
            · simp only [S95_34, S95_35, S95_36, S95_37, S95, ↓XX, ↓reduceIte, Nat.reduceBEq, decide_true, decide_false, Bool.not_true, Bool.not_false, List.map_cons, List.map_nil, List.length_map, List.length_cons, List.length_nil, Nat.reduceAdd, Int.cast_ofNat_Int, Int.natCast_zero, Int.natCast_one, Bool.false_eq_true, Bool.true_eq_false, decide_eq_true_eq, eq_self, Int.reduceEq, Int.reduceLT, Int.reduceLE, Bool.and_true, Bool.true_and, Bool.and_false, Bool.false_and, Nat.zero_add, ↓XI]
              exact ansx_fv _ _ _
            · simp only [S95_34, S95_35, S95_36, S95_37, S95, ↓XX, ↓reduceIte, Nat.reduceBEq, decide_true, decide_false, Bool.not_true, Bool.not_false, List.map_cons, List.map_nil, List.length_map, List.length_cons, List.length_nil, Nat.reduceAdd, Int.cast_ofNat_Int, Int.natCast_zero, Int.natCast_one, Bool.false_eq_true, Bool.true_eq_false, decide_eq_true_eq, eq_self, Int.reduceEq, Int.reduceLT, Int.reduceLE, Bool.and_true, Bool.true_and, Bool.and_false, Bool.false_and, Nat.zero_add, ↓XI]
              exact ansx_fv _ _ _
        · rw [if_neg h7] at hev
          simp only [Option.some.injEq, Prod.mk.injEq] at hev
          obtain ⟨rfl, rfl⟩ := hev
          rw [penc_mk]
          simp only [List.map_cons, List.map_nil, penc_mk, penc_nil]
          simp only [S95_34, S95_35, S95_36, S95_37, S95, ↓XX, ↓reduceIte, Nat.reduceBEq, decide_true, decide_false, Bool.not_true, Bool.not_false, List.map_cons, List.map_nil, List.length_map, List.length_cons, List.length_nil, Nat.reduceAdd, Int.cast_ofNat_Int, Int.natCast_zero, Int.natCast_one, Bool.false_eq_true, Bool.true_eq_false, decide_eq_true_eq, eq_self, Int.reduceEq, Int.reduceLT, Int.reduceLE, Bool.and_true, Bool.true_and, Bool.and_false, Bool.false_and, Nat.zero_add, ↓XI, h7]
          exact ansx_fv _ _ _
    · rw [if_neg h8] at hev
      by_cases h13 : op = 13
      · subst h13
        rw [if_pos rfl] at hev
        rw [show ruleF 13 = 96 from rfl, c96]
        match k, hev with
        | [p0, z, p2, .mk o3 n3 k3 t3 e3], hev =>
          simp only at hev
          obtain ⟨co, cn, ck⟩ := t3
          by_cases h11 : o3 = 11
          · subst h11
            rw [if_pos rfl] at hev
            simp only [Option.some.injEq, Prod.mk.injEq] at hev
            obtain ⟨rfl, rfl⟩ := hev
            rw [penc_mk]
            simp only [List.map_cons, List.map_nil, penc_mk]
            simp only [S96_74, S96_75, S96_76, S96_77, S96_78, S96_79, S96_80, S96_81, S96_82, S96_83, S96, ↓XX, ↓reduceIte, Nat.reduceBEq, decide_true, decide_false, Bool.not_true, Bool.not_false, List.map_cons, List.map_nil, List.length_map, List.length_cons, List.length_nil, Nat.reduceAdd, Int.cast_ofNat_Int, Int.natCast_zero, Int.natCast_one, Bool.false_eq_true, Bool.true_eq_false, decide_eq_true_eq, eq_self, Int.reduceEq, Int.reduceLT, Int.reduceLE, Bool.and_true, Bool.true_and, Bool.and_false, Bool.false_and, Nat.zero_add, ↓XI]
            exact ansx_fv _ _ _
          · rw [if_neg h11] at hev
            by_cases h12 : o3 = 12
            · subst h12
              rw [if_pos rfl] at hev
              match k3, hev with
              | [x], hev =>
                simp only at hev
                cases hcc : ctP f (.mk 13 nn [.nil, z, .nil, x] (.mk bo bn bk) e) m with
                | none => rw [hcc] at hev; cases hev
                | some q =>
                  obtain ⟨h, m1⟩ := q
                  rw [hcc] at hev
                  have hq1 := hc _ _ _ _ hcc r n (by omega)
                  have hq2 := ho _ _ _ _ _ _ hev r n (by omega)
                  rw [penc_mk] at hq1 hq2 ⊢
                  simp only [List.map_cons, List.map_nil, penc_mk, penc_nil] at hq1 hq2 ⊢
                  simp only [S96_74, S96_75, S96_76, S96_77, S96_78, S96_79, S96_80, S96_81, S96_82, S96_83, S96, ↓XX, ↓reduceIte, Nat.reduceBEq, decide_true, decide_false, Bool.not_true, Bool.not_false, List.map_cons, List.map_nil, List.length_map, List.length_cons, List.length_nil, Nat.reduceAdd, Int.cast_ofNat_Int, Int.natCast_zero, Int.natCast_one, Bool.false_eq_true, Bool.true_eq_false, decide_eq_true_eq, eq_self, Int.reduceEq, Int.reduceLT, Int.reduceLE, Bool.and_true, Bool.true_and, Bool.and_false, Bool.false_and, Nat.zero_add, ↓XI, ↓bs_p4, ↓aof_e]
                  rw [iso_x2p hq1 (s0 := 100669443) (lo_hit ..) rfl (by simp)]
                  simp only [↓XX, ↓reduceIte, Nat.reduceBEq, decide_true, decide_false, Bool.not_true, Bool.not_false, List.map_cons, List.map_nil, List.length_map, List.length_cons, List.length_nil, Nat.reduceAdd, Int.cast_ofNat_Int, Int.natCast_zero, Int.natCast_one, Bool.false_eq_true, Bool.true_eq_false, decide_eq_true_eq, eq_self, Int.reduceEq, Int.reduceLT, Int.reduceLE, Bool.and_true, Bool.true_and, Bool.and_false, Bool.false_and, Nat.zero_add, ↓bs_p2, ↓iso_x4 _ _ hq2]
                  exact ansx_fv _ _ _
            · rw [if_neg h12] at hev
              simp only [Option.some.injEq, Prod.mk.injEq] at hev
              obtain ⟨rfl, rfl⟩ := hev
              rw [penc_mk]
              simp only [List.map_cons, List.map_nil, penc_mk, penc_nil]
              simp only [S96_74, S96_75, S96_76, S96_77, S96_78, S96_79, S96_80, S96_81, S96_82, S96_83, S96, ↓XX, ↓reduceIte, Nat.reduceBEq, decide_true, decide_false, Bool.not_true, Bool.not_false, List.map_cons, List.map_nil, List.length_map, List.length_cons, List.length_nil, Nat.reduceAdd, Int.cast_ofNat_Int, Int.natCast_zero, Int.natCast_one, Bool.false_eq_true, Bool.true_eq_false, decide_eq_true_eq, eq_self, Int.reduceEq, Int.reduceLT, Int.reduceLE, Bool.and_true, Bool.true_and, Bool.and_false, Bool.false_and, Nat.zero_add, ↓XI, h11, h12]
              exact ansx_fv _ _ _
      · rw [if_neg h13] at hev
        match k, hev with
        | [.mk o0 n0 k0 t0 e0], hev =>
          simp only at hev
          have h30 : op = 30 ∨ op = 19 := by
            simp only [isRule, Bool.or_eq_true, beq_iff_eq] at hr
            omega
          have hu : ((o0 = (if op = 30 then 19 else 30) → ∃ x, k0 = [x]) ∧ (if o0 = (if op = 30 then 19 else 30) then k0.headD .nil else .nil) = u ∧ m = m') := by
            by_cases ho0 : o0 = (if op = 30 then 19 else 30)
            · rw [if_pos ho0] at hev
              match k0, hev with
              | [x], hev =>
                simp only [Option.some.injEq, Prod.mk.injEq] at hev
                obtain ⟨rfl, rfl⟩ := hev
                exact ⟨fun _ => ⟨_, rfl⟩, by rw [if_pos ho0]; rfl, rfl⟩
            · rw [if_neg ho0] at hev
              simp only [Option.some.injEq, Prod.mk.injEq] at hev
              obtain ⟨rfl, rfl⟩ := hev
              exact ⟨fun h => absurd h ho0, by rw [if_neg ho0], rfl⟩
          obtain ⟨hu1, rfl, rfl⟩ := hu
          rcases h30 with rfl | rfl
          · rw [show ruleF 30 = 97 from rfl, c97]
            rw [show (if (30 : Int) = 30 then (19 : Int) else 30) = 19 from rfl] at hu1 ⊢
            have hw := within_c (n := n) (by omega) 30 nn o0 n0 k0 t0 e0 (.mk bo bn bk) e 19 hu1
            simp only [S97, ↓XX, ↓reduceIte, Nat.reduceBEq, decide_true, decide_false, Bool.not_true, Bool.not_false, List.map_cons, List.map_nil, List.length_map, List.length_cons, List.length_nil, Nat.reduceAdd, Int.cast_ofNat_Int, Int.natCast_zero, Int.natCast_one, Bool.false_eq_true, Bool.true_eq_false, decide_eq_true_eq, eq_self, Int.reduceEq, Int.reduceLT, Int.reduceLE, Bool.and_true, Bool.true_and, Bool.and_false, Bool.false_and, Nat.zero_add, ↓iso_2 hw]
            exact ansx_fv _ _ _
          · rw [show ruleF 19 = 98 from rfl, c98]
            rw [show (if (19 : Int) = 30 then (19 : Int) else 30) = 30 from rfl] at hu1 ⊢
            have hw := within_c (n := n) (by omega) 19 nn o0 n0 k0 t0 e0 (.mk bo bn bk) e 30 hu1
            simp only [S98, ↓XX, ↓reduceIte, Nat.reduceBEq, decide_true, decide_false, Bool.not_true, Bool.not_false, List.map_cons, List.map_nil, List.length_map, List.length_cons, List.length_nil, Nat.reduceAdd, Int.cast_ofNat_Int, Int.natCast_zero, Int.natCast_one, Bool.false_eq_true, Bool.true_eq_false, decide_eq_true_eq, eq_self, Int.reduceEq, Int.reduceLT, Int.reduceLE, Bool.and_true, Bool.true_and, Bool.and_false, Bool.false_and, Nat.zero_add, ↓iso_2 hw]
            exact ansx_fv _ _ _
end Idl
end Go.Proofs.Ytkfecngimlcfoaa

namespace Go.Proofs.Ytkfecngimlcfoaa
namespace Idl
theorem kp_bind (ih : Handler) (xs : List IV) (h0 : Hp) (k : IV → Hp → List Ref → List Ref → Option (IV × Hp)) : dynS EE ih (.fv (.func (.func 110) [] [])) xs h0 k = isoS [] false false ih 110 xs h0 k :=
  keep0 (by kernel_rfl) (by kernel_rfl) (by kernel_rfl) (by kernel_rfl) ..
theorem opbind_ok {n : Nat} (hn : 0 < n) (op : Int) (i : Nat) : Ans (SS dt n 110 [iv op, iv i] ⟨[], []⟩) (.int .i64 (bindN op i)) := by
  obtain ⟨n, rfl⟩ : ∃ k, n = k + 1 := ⟨n - 1, by omega⟩
  rw [c110]
  unfold bindN
  by_cases h : op = 3 ∨ op = 4 ∨ op = 6 ∨ op = 20 ∨ op = 28 ∨ op = 29
  · rw [if_pos h]
    by_cases hi : i = 1
    · subst hi
      rcases h with rfl | rfl | rfl | rfl | rfl | rfl <;> (simp only [S110_18, S110_19, S110_20, S110_21, S110_22, S110, ↓XX, ↓reduceIte, Nat.reduceBEq, decide_true, decide_false, Bool.not_true, Bool.not_false, List.map_cons, List.map_nil, List.length_map, List.length_cons, List.length_nil, Nat.reduceAdd, Int.cast_ofNat_Int, Int.natCast_zero, Int.natCast_one, Bool.false_eq_true, Bool.true_eq_false, decide_eq_true_eq, eq_self, Int.reduceEq, Int.reduceLT, Int.reduceLE, Bool.and_true, Bool.true_and, Bool.and_false, Bool.false_and, Nat.zero_add]; exact ans_fv _ _)
    · have hi' : ¬ (i : Int) = 1 := by omega
      rcases h with rfl | rfl | rfl | rfl | rfl | rfl <;> (simp only [S110_18, S110_19, S110_20, S110_21, S110_22, S110, ↓XX, ↓reduceIte, Nat.reduceBEq, decide_true, decide_false, Bool.not_true, Bool.not_false, List.map_cons, List.map_nil, List.length_map, List.length_cons, List.length_nil, Nat.reduceAdd, Int.cast_ofNat_Int, Int.natCast_zero, Int.natCast_one, Bool.false_eq_true, Bool.true_eq_false, decide_eq_true_eq, eq_self, Int.reduceEq, Int.reduceLT, Int.reduceLE, Bool.and_true, Bool.true_and, Bool.and_false, Bool.false_and, Nat.zero_add, hi', hi]; exact ans_fv _ _)
  · rw [if_neg h]
    have h3 : ¬ op = 3 := fun e => h (by simp [e])
    have h4 : ¬ op = 4 := fun e => h (by simp [e])
    have h6 : ¬ op = 6 := fun e => h (by simp [e])
    have h20 : ¬ op = 20 := fun e => h (by simp [e])
    have h28 : ¬ op = 28 := fun e => h (by simp [e])
    have h29 : ¬ op = 29 := fun e => h (by simp [e])
    by_cases h13 : op = 13
    · subst h13
      by_cases h0 : i = 0
      · subst h0; simp only [S110_18, S110_19, S110_20, S110_21, S110_22, S110, ↓XX, ↓reduceIte, Nat.reduceBEq, decide_true, decide_false, Bool.not_true, Bool.not_false, List.map_cons, List.map_nil, List.length_map, List.length_cons, List.length_nil, Nat.reduceAdd, Int.cast_ofNat_Int, Int.natCast_zero, Int.natCast_one, Bool.false_eq_true, Bool.true_eq_false, decide_eq_true_eq, eq_self, Int.reduceEq, Int.reduceLT, Int.reduceLE, Bool.and_true, Bool.true_and, Bool.and_false, Bool.false_and, Nat.zero_add]; exact ans_fv _ _
      · have h0' : ¬ (i : Int) = 0 := by omega
        by_cases h2 : i = 2
        · subst h2; simp only [S110_18, S110_19, S110_20, S110_21, S110_22, S110, ↓XX, ↓reduceIte, Nat.reduceBEq, decide_true, decide_false, Bool.not_true, Bool.not_false, List.map_cons, List.map_nil, List.length_map, List.length_cons, List.length_nil, Nat.reduceAdd, Int.cast_ofNat_Int, Int.natCast_zero, Int.natCast_one, Bool.false_eq_true, Bool.true_eq_false, decide_eq_true_eq, eq_self, Int.reduceEq, Int.reduceLT, Int.reduceLE, Bool.and_true, Bool.true_and, Bool.and_false, Bool.false_and, Nat.zero_add]; exact ans_fv _ _
        · have h2' : ¬ (i : Int) = 2 := by omega
          simp only [S110_18, S110_19, S110_20, S110_21, S110_22, S110, ↓XX, ↓reduceIte, Nat.reduceBEq, decide_true, decide_false, Bool.not_true, Bool.not_false, List.map_cons, List.map_nil, List.length_map, List.length_cons, List.length_nil, Nat.reduceAdd, Int.cast_ofNat_Int, Int.natCast_zero, Int.natCast_one, Bool.false_eq_true, Bool.true_eq_false, decide_eq_true_eq, eq_self, Int.reduceEq, Int.reduceLT, Int.reduceLE, Bool.and_true, Bool.true_and, Bool.and_false, Bool.false_and, Nat.zero_add, h0, h0', h2, h2']; exact ans_fv _ _
    · simp only [S110_18, S110_19, S110_20, S110_21, S110_22, S110, ↓XX, ↓reduceIte, Nat.reduceBEq, decide_true, decide_false, Bool.not_true, Bool.not_false, List.map_cons, List.map_nil, List.length_map, List.length_cons, List.length_nil, Nat.reduceAdd, Int.cast_ofNat_Int, Int.natCast_zero, Int.natCast_one, Bool.false_eq_true, Bool.true_eq_false, decide_eq_true_eq, eq_self, Int.reduceEq, Int.reduceLT, Int.reduceLE, Bool.and_true, Bool.true_and, Bool.and_false, Bool.false_and, Nat.zero_add, h3, h4, h6, h20, h28, h29, h13]; exact ans_fv _ _
theorem pbind_ok {n : Nat} (hn : 1 < n) (op : Int) (i : Nat) : Ans (SS dt n 101 [iv op, iv i] ⟨[], []⟩) (.int .i64 (bindN op i)) := by
  obtain ⟨n, rfl⟩ : ∃ k, n = k + 1 := ⟨n - 1, by omega⟩
  rw [c101]
  have h := opbind_ok (n := n) (by omega) op i
  simp only [S101, ↓XX, ↓reduceIte, Nat.reduceBEq, decide_true, decide_false, Bool.not_true, Bool.not_false, List.map_cons, List.map_nil, List.length_map, List.length_cons, List.length_nil, Nat.reduceAdd, Int.cast_ofNat_Int, Int.natCast_zero, Int.natCast_one, Bool.false_eq_true, Bool.true_eq_false, decide_eq_true_eq, eq_self, Int.reduceEq, Int.reduceLT, Int.reduceLE, Bool.and_true, Bool.true_and, Bool.and_false, Bool.false_and, Nat.zero_add, ↓kp_bind, ↓iso_2 h]
  exact ans_fv _ _
theorem off_at {β : Type} : ∀ (l : List IV) (i : Nat) (x : IV) (k : List IV → Option β), i < l.length → offK l i x k = k (l.set i x)
  | [], i, x, k, h => absurd h (by simp)
  | y :: l, 0, x, k, _ => rfl
  | y :: l, i + 1, x, k, h => by
    show offK l i x (fun t => k (y :: t)) = _
    rw [off_at l i x _ (by simpa using h)]
    rfl
def nils (n : Nat) : List PV := List.replicate n .nil
theorem rep_nil (n : Nat) : rep n [IV.fv .nilp] = ((nils n).map PV.enc).map IV.fv := by
  induction n with
  | zero => rfl
  | succ n ih => rw [rep, ih]; rfl
theorem mk_p {n : Nat} (hn : n ≤ 1000) (s : Nat) (own : List (Nat × Blk)) (ext : List Blk) (k : IV → Hp → List Ref → List Ref → Option (IV × Hp)) :
    genS (pcMakeSlice EE s 127 (iv n) (iv n)) s ⟨own, ext⟩ k = freshK own s (putOwnK own s (.row (((nils n).map PV.enc).map IV.fv) false) fun own => k (.slc (.own s) 1 n) ⟨own, ext⟩ [] [.own s]) := by
  have : pcMakeSlice EE s 127 (iv n) (iv n) = .ret { eff := { val := .slc (.own s) 1 n }, new := some (.row (((nils n).map PV.enc).map IV.fv) false) } := by
    simp only [pcMakeSlice, tPs, tPp, iv_e]
    rw [if_pos ⟨by omega, by omega, by omega, by decide, by decide⟩, Int.toNat_natCast, rep_nil]
  rw [this]
  unfold genS
  simp only [Rd.runLog, newK, fBk_eq, fV_eq]
  rfl
theorem on_enc (v : PV) : IV.one (.fv v.enc) = true := by
  cases v with
  | nil => rfl
  | mk op n k t e => obtain ⟨bo, bn, bk⟩ := t; rw [penc_mk]; rfl
theorem ix_sl {β : Type} {n i : Nat} (h : i < n) (r : Ref) (k : IV → Option β) : ixS 1 (.slc r 1 n) (iv i) k = k (.ptr r i) := by
  have e1 : Nat.ble (Nat.succ i) n = true := by rw [ble_dec]; exact decide_eq_true h
  show (asIx (iv i) fun n' => cond (and (Nat.ble (Nat.succ n') n) (Nat.beq 1 1)) (fNat (n' * 1) fun o => k (.ptr r o)) none) = _
  show (cond (and (Nat.ble (Nat.succ i) n) (Nat.beq 1 1)) (fNat (i * 1) fun o => k (.ptr r o)) none) = _
  rw [e1]
  simp only [fNat_eq, Nat.mul_one]
  rfl
theorem off_p {done : List PV} {r : Nat} {β : Type} (v : PV) (k : List IV → Option β) : offK (((done ++ nils (r + 1)).map PV.enc).map IV.fv) done.length (.fv v.enc) k = k ((((done ++ [v]) ++ nils r).map PV.enc).map IV.fv) := by
  rw [off_at _ _ _ _ (by simp [nils])]
  congr 1
  simp only [nils, List.replicate_succ, List.map_append, List.map_cons, List.append_assoc, List.cons_append, List.nil_append, List.map_nil]
  rw [List.set_append_right _ _ (by simp)]
  simp
noncomputable abbrev Hev (op m : Int) (ks : List Tm) (env kk : List PV) (ro : Bool) (s w r e : Int) : Hp :=
  ⟨[(74448896, .row [iv op, iv m, .fv (.sl (ks.map Tm.enc))] false), (74452999, .row ((kk.map PV.enc).map .fv) ro), (74453003, .row [iv op, iv m, .slc (.own 74452999) 1 ks.length, iv op, iv m, .fv (.sl (ks.map Tm.enc)), .fv (PV.encEnv env)] ro)], MX s w r e⟩
theorem drop_mx {base rm : List Nat} {vals : List IV} {own : List (Nat × Blk)} {s w r e : Int} (hb : rm.any base.contains = false) (hf : flatD rm vals own [] = true) (k : Hp → Option (IV × Hp)) :
    dropS base rm vals ⟨own, MX s w r e⟩ k = k ⟨stays rm vals own [], MX s w r e⟩ := drop_x (fun j => mx_free s w r e j) hb hf k
theorem ev_ans {op m : Int} {ks : List Tm} {env kk : List PV} {s w r e : Int} (hl : kk.length = ks.length) (h3 : ks.length ≤ 300) : AnsX (some (.ptr (.own 74453003) 0, Hev op m ks env kk false s w r e)) (PV.mk op m kk (.mk op m ks) env).enc (MX s w r e) := by
  rw [penc_mk]
  have hl' : ks.length = (kk.map PV.enc).length := by simp [hl]
  have := fun (e0 : Option (IV × Hp)) (K : FV → List (Ref × Blk) → List Ref → Option (IV × Hp)) => fz_v (s := 74453003) (s2 := 74452999) (own := (Hev op m ks env kk false s w r e).own) (ext := MX s w r e) (es := kk.map PV.enc) (ro := false) (ro2 := false) (a := .int .i64 op) (b := .int .i64 m) (c := .int .i64 op) (d := .int .i64 m) (t := .sl (ks.map Tm.enc)) (x := PV.encEnv env)
    (by rw [← hl']; rfl) (by rfl) (by simp [hl]; omega) (by simp only [List.mem_map]; rintro x ⟨v, _, rfl⟩; exact penc_agg v) [] e0 K
  exact ⟨_, _, rfl, _, _, this⟩
theorem kdP_len {ev : Tm → M3 → Option (PV × M3)} {op : Int} : ∀ {i : Nat} {l : List Tm} {m : M3} {vs : List PV} {m' : M3}, kdP ev op i l m = some (vs, m') → vs.length = l.length
  | _, [], m, vs, m', h => by simp only [kdP, Option.some.injEq, Prod.mk.injEq] at h; rw [← h.1]; rfl
  | i, t :: l, m, vs, m', h => by
    rw [kdP] at h
    split at h
    · cases hk : kdP ev op (i + 1) l m with
      | none => rw [hk] at h; cases h
      | some q =>
        rw [hk] at h
        simp only [Option.map_some, Option.some.injEq, Prod.mk.injEq] at h
        rw [← h.1, List.length_cons, List.length_cons, kdP_len (vs := q.1) (m' := q.2) hk]
    · split at h
      · cases h
      · rename_i v m2 _
        cases hk : kdP ev op (i + 1) l m2 with
        | none => rw [hk] at h; cases h
        | some q =>
          rw [hk] at h
          simp only [Option.map_some, Option.some.injEq, Prod.mk.injEq] at h
          rw [← h.1, List.length_cons, List.length_cons, kdP_len (vs := q.1) (m' := q.2) hk]
set_option maxRecDepth 20000 in
set_option maxHeartbeats 1000000 in
theorem ev_step {f : Nat} (he : EvOk f) (hc : CtOk f) : EvOk (f + 1) := by
  intro env t m0 m' v hev r n hn
  obtain ⟨n, rfl⟩ : ∃ k, n = k + 1 := ⟨n - 1, by omega⟩
  rw [c71]
  obtain ⟨op, m, ks⟩ := t
  rw [enc_mk]
  rw [evP] at hev
  cases ht : tickP m0 with
  | none => rw [ht] at hev; cases hev
  | some m1 =>
  rw [ht] at hev
  simp only at hev
  have hc1 := tick_ok ht r (n := n) (by omega)
  by_cases h1 : op = 1
  · rw [if_pos h1] at hev
    split at hev
    · rename_i hv
      simp only [Option.some.injEq, Prod.mk.injEq] at hev
      obtain ⟨rfl, rfl⟩ := hev
      have hvar := variable_c (n := n) env m hv.1 hv.2.1 (by omega)
      simp only [S71_117, S71_118, S71_119, S71_120, S71_121, S71_122, S71_123, S71_124, S71_125, S71_126, S71_127, S71_128, S71_129, S71_130, S71_131, S71, ↓XX, ↓reduceIte, Nat.reduceBEq, decide_true, decide_false, Bool.not_true, Bool.not_false, List.map_cons, List.map_nil, List.length_map, List.length_cons, List.length_nil, Nat.reduceAdd, Int.cast_ofNat_Int, Int.natCast_zero, Int.natCast_one, Bool.false_eq_true, Bool.true_eq_false, decide_eq_true_eq, eq_self, Int.reduceEq, Int.reduceLT, Int.reduceLE, Bool.and_true, Bool.true_and, Bool.and_false, Bool.false_and, Nat.zero_add, ↓iso_x1 _ _ hc1, h1, ↓iso_2 hvar]
      exact ansx_fv _ _ _
    · cases hev
  · rw [if_neg h1] at hev
    split at hev
    · cases hev
    rename_i hb
    have hk3 : ks.length ≤ 300 := by omega
    by_cases h2 : m1.e ≠ 0
    · rw [if_pos h2] at hev
      simp only [Option.some.injEq, Prod.mk.injEq] at hev
      obtain ⟨rfl, rfl⟩ := hev
      simp only [S71_117, S71_118, S71_119, S71_120, S71_121, S71_122, S71_123, S71_124, S71_126, S71_127, S71_128, S71_129, S71_130, S71_131, S71, ↓XX, ↓reduceIte, Nat.reduceBEq, decide_true, decide_false, Bool.not_true, Bool.not_false, List.map_cons, List.map_nil, List.length_map, List.length_cons, List.length_nil, Nat.reduceAdd, Int.cast_ofNat_Int, Int.natCast_zero, Int.natCast_one, Bool.false_eq_true, Bool.true_eq_false, decide_eq_true_eq, eq_self, Int.reduceEq, Int.reduceLT, Int.reduceLE, Bool.and_true, Bool.true_and, Bool.and_false, Bool.false_and, Nat.zero_add, ↓iso_x1 _ _ hc1, h1, h2, ↓mk_p (show ks.length ≤ 1000 by omega), ↓fil_e]
      exact ev_ans (kk := nils ks.length) (by simp [nils]) hk3
    · rw [if_neg h2] at hev
      have h2 : m1.e = 0 := by simpa using h2
      · 
        cases hkk : kdP (fun t m => evP f env t m) op 0 ks m1 with
        | none => rw [hkk] at hev; cases hev
        | some q =>
        obtain ⟨vs, m2⟩ := q
        rw [hkk] at hev
        simp only at hev
        simp only [h2] at hc1
        simp only [S71_117, S71_118, S71_119, S71_120, S71_121, S71_122, S71_123, S71_124, S71_126, S71_127, S71_128, S71_129, S71_130, S71_131, S71, ↓XX, ↓reduceIte, Nat.reduceBEq, decide_true, decide_false, Bool.not_true, Bool.not_false, List.map_cons, List.map_nil, List.length_map, List.length_cons, List.length_nil, Nat.reduceAdd, Int.cast_ofNat_Int, Int.natCast_zero, Int.natCast_one, Bool.false_eq_true, Bool.true_eq_false, decide_eq_true_eq, eq_self, Int.reduceEq, Int.reduceLT, Int.reduceLE, Bool.and_true, Bool.true_and, Bool.and_false, Bool.false_and, Nat.zero_add, ↓iso_x1 _ _ hc1, h1, h2, ↓mk_p (show ks.length ≤ 1000 by omega), ↓fil_e, ↓drop_mx, ↓drop_e, XD, heldB, flatD, List.any_cons, List.any_nil, List.all_cons, List.all_nil, List.filter_cons, List.filter_nil, List.contains_cons, List.contains_nil, Bool.or_false, Bool.or_true, Bool.false_or, Bool.true_or, Bool.and_self, Bool.not_eq_true, BEq.rfl, beq_self_eq_true, flat_fv, names_fv]
        have hlen := kdP_len hkk
        refine loop_run (Q := fun r => AnsX r _ _) (fun k V H => ∃ (pre rest : List Tm) (done : List PV) (m3 : M3) (us : List PV), ks = pre ++ rest ∧ rest.length = k ∧ done.length = pre.length ∧
            V = [.ptr (.ext 0) 0, .fv (PV.encEnv env), .ptr (.own 74448896) 0, .ptr (.own 74453003) 0, .fv (.sl (ks.map Tm.enc)), iv ks.length, iv pre.length] ∧
            H = Hev op m ks env (done ++ nils rest.length) false m3.s m3.w r m3.e ∧
            kdP (fun t m => evP f env t m) op pre.length rest m3 = some (us, m2) ∧ done ++ us = vs)
          ?_ n ks.length _ _ (by omega) ⟨[], ks, [], m1, vs, rfl, rfl, rfl, rfl, by rw [h2]; rfl, hkk, rfl⟩
        rintro k V H rec ⟨pre, rest, done, m3, us, hk, hl, hdl, rfl, rfl, hkids, hvs⟩ hrec
        have hkl : ks.length = pre.length + rest.length := by rw [hk]; simp
        cases rest with
        | nil =>
          simp only [kdP, Option.some.injEq, Prod.mk.injEq] at hkids
          obtain ⟨rfl, rfl⟩ := hkids
          rw [List.append_nil] at hvs
          subst hvs
          have hno : ¬ ((pre.length : Int) < ks.length) := by rw [hkl]; simp
          have hz : done ++ nils ([] : List Tm).length = done := by simp [nils]
          rw [hz]
          by_cases h4 : m3.e ≠ 0
          · rw [if_pos h4] at hev
            simp only [Option.some.injEq, Prod.mk.injEq] at hev
            obtain ⟨rfl, rfl⟩ := hev
            simp only [S71_117, S71_118, S71_119, S71_120, S71_121, S71_122, S71_123, S71_124, S71_125, S71_126, S71_127, S71_128, S71_129, S71_130, S71_131, S71, ↓XX, ↓reduceIte, Nat.reduceBEq, decide_true, decide_false, Bool.not_true, Bool.not_false, List.map_cons, List.map_nil, List.length_map, List.length_cons, List.length_nil, Nat.reduceAdd, Int.cast_ofNat_Int, Int.natCast_zero, Int.natCast_one, Bool.false_eq_true, Bool.true_eq_false, decide_eq_true_eq, eq_self, Int.reduceEq, Int.reduceLT, Int.reduceLE, Bool.and_true, Bool.true_and, Bool.and_false, Bool.false_and, Nat.zero_add, hno, h4]
            exact ev_ans hlen hk3
          · rw [if_neg h4] at hev
            have h4 : m3.e = 0 := by simpa using h4
            have hcc := hc _ _ _ _ hev r n (by omega)
            rw [penc_mk] at hcc
            simp only [h4] at hcc
            have hlm : (done.map PV.enc).length = ks.length := by simp [hlen]
            simp only [S71_117, S71_118, S71_119, S71_120, S71_121, S71_122, S71_123, S71_124, S71_125, S71_126, S71_127, S71_128, S71_129, S71_130, S71_131, S71, ↓XX, ↓reduceIte, Nat.reduceBEq, decide_true, decide_false, Bool.not_true, Bool.not_false, List.map_cons, List.map_nil, List.length_map, List.length_cons, List.length_nil, Nat.reduceAdd, Int.cast_ofNat_Int, Int.natCast_zero, Int.natCast_one, Bool.false_eq_true, Bool.true_eq_false, decide_eq_true_eq, eq_self, Int.reduceEq, Int.reduceLT, Int.reduceLE, Bool.and_true, Bool.true_and, Bool.and_false, Bool.false_and, Nat.zero_add, hno, h4]
            rw [iso_x2v hcc (s0 := 74453003) (s2 := 74452999) (own' := (Hev op m ks env done true m3.s m3.w r 0).own) (by rfl) (by rfl) hlm (by decide) (by omega) (by simp only [List.mem_map]; rintro x ⟨v, _, rfl⟩; exact penc_agg v) (by rfl)]
            exact ansx_fv _ _ _
        | cons x rest =>
          have hi : (pre.length : Int) < ks.length := by rw [hkl]; simp; omega
          have hg := at_pre hk
          have hb := pbind_ok (n := n) (by omega) op pre.length
          have hwi : w64 ((pre.length : Int) + 1) = ((pre ++ [x]).length : Int) := (w64_id (by omega) (by omega)).trans (by simp)
          simp only [kdP] at hkids
          simp only [List.length_cons] at hl
          by_cases hbn : 0 < bindN op pre.length
          · rw [if_pos hbn] at hkids
            have hbn' : ¬ ((bindN op pre.length : Nat) : Int) = 0 := by omega
            obtain ⟨o, p, l⟩ := x
            simp only [S71_117, S71_118, S71_119, S71_120, S71_121, S71_122, S71_123, S71_124, S71_125, S71_126, S71_127, S71_128, S71_129, S71_130, S71_131, S71, ↓XX, ↓reduceIte, Nat.reduceBEq, decide_true, decide_false, Bool.not_true, Bool.not_false, List.map_cons, List.map_nil, List.length_map, List.length_cons, List.length_nil, Nat.reduceAdd, Int.cast_ofNat_Int, Int.natCast_zero, Int.natCast_one, Bool.false_eq_true, Bool.true_eq_false, decide_eq_true_eq, eq_self, Int.reduceEq, Int.reduceLT, Int.reduceLE, Bool.and_true, Bool.true_and, Bool.and_false, Bool.false_and, Nat.zero_add, hi, ↓ix_f (map_get hg) (agg3l _ _ _), ↓agg3, ↓iso_2 hb, hbn', hwi, ↓drop_mx, ↓drop_e, XD, heldB, flatD, List.any_cons, List.any_nil, List.all_cons, List.all_nil, List.filter_cons, List.filter_nil, List.contains_cons, List.contains_nil, Bool.or_false, Bool.or_true, Bool.false_or, Bool.true_or, Bool.and_self, Bool.not_eq_true, BEq.rfl, beq_self_eq_true, flat_fv, names_fv]
            cases hkk2 : kdP (fun t m => evP f env t m) op (pre.length + 1) rest m3 with
            | none => rw [hkk2] at hkids; cases hkids
            | some q =>
            obtain ⟨us', m4⟩ := q
            rw [hkk2] at hkids
            simp only [Option.map_some, Option.some.injEq, Prod.mk.injEq] at hkids
            obtain ⟨rfl, rfl⟩ := hkids
            refine hrec rest.length _ _ (by omega) ⟨pre ++ [.mk o p l], rest, done ++ [.nil], m3, us', by rw [hk]; simp, rfl, by simp [hdl], rfl, ?_, by simpa using hkk2, by rw [← hvs]; simp⟩
            rw [show done ++ [.nil] ++ nils rest.length = done ++ nils (rest.length + 1) by simp [nils, List.replicate_succ]]
          · rw [if_neg hbn] at hkids
            have hbn' : ((bindN op pre.length : Nat) : Int) = 0 := by omega
            cases hev2 : evP f env x m3 with
            | none => rw [hev2] at hkids; cases hkids
            | some q =>
            obtain ⟨y, m4⟩ := q
            rw [hev2] at hkids
            simp only at hkids
            cases hkk2 : kdP (fun t m => evP f env t m) op (pre.length + 1) rest m4 with
            | none => rw [hkk2] at hkids; cases hkids
            | some q =>
            obtain ⟨us', m5⟩ := q
            rw [hkk2] at hkids
            simp only [Option.map_some, Option.some.injEq, Prod.mk.injEq] at hkids
            obtain ⟨rfl, rfl⟩ := hkids
            have hce := he _ _ _ _ _ hev2 r n (by omega)
            obtain ⟨o, p, l⟩ := x
            rw [enc_mk] at hce
            have hin : pre.length < ks.length := by omega
            have hoff := fun {β : Type} => off_p (done := done) (r := rest.length) (β := β)
            rw [hdl] at hoff
            simp only [S71_117, S71_118, S71_119, S71_120, S71_121, S71_122, S71_123, S71_124, S71_125, S71_126, S71_127, S71_128, S71_129, S71_130, S71_131, S71, ↓XX, ↓reduceIte, Nat.reduceBEq, decide_true, decide_false, Bool.not_true, Bool.not_false, List.map_cons, List.map_nil, List.length_map, List.length_cons, List.length_nil, Nat.reduceAdd, Int.cast_ofNat_Int, Int.natCast_zero, Int.natCast_one, Bool.false_eq_true, Bool.true_eq_false, decide_eq_true_eq, eq_self, Int.reduceEq, Int.reduceLT, Int.reduceLE, Bool.and_true, Bool.true_and, Bool.and_false, Bool.false_and, Nat.zero_add, hi, ↓ix_f (map_get hg) (agg3l _ _ _), ↓agg3, ↓iso_2 hb, hbn', hwi, ↓iso_x3 _ _ hce, ↓ix_sl hin, ↓on_enc, ↓hoff, ↓drop_mx, ↓drop_e, XD, heldB, flatD, List.any_cons, List.any_nil, List.all_cons, List.all_nil, List.filter_cons, List.filter_nil, List.contains_cons, List.contains_nil, Bool.or_false, Bool.or_true, Bool.false_or, Bool.true_or, Bool.and_self, Bool.not_eq_true, BEq.rfl, beq_self_eq_true, flat_fv, names_fv]
            exact hrec rest.length _ _ (by omega) ⟨pre ++ [.mk o p l], rest, done ++ [y], m4, us', by rw [hk]; simp, rfl, by simp [hdl], rfl, rfl, by simpa using hkk2, by rw [← hvs]; simp⟩
end Idl
end Go.Proofs.Ytkfecngimlcfoaa

namespace Go.Proofs.Ytkfecngimlcfoaa
namespace Idl
theorem mx_ok : ∀ f, EvOk f ∧ CtOk f ∧ StOk f ∧ OpnOk f
  | 0 => ⟨(fun _ _ _ _ _ h => by rw [evP.eq_def] at h; cases h), (fun _ _ _ _ h => by rw [ctP.eq_def] at h; cases h), (fun _ _ _ _ _ h => by rw [stP.eq_def] at h; cases h), (fun _ _ _ _ _ _ h => by rw [opP.eq_def] at h; cases h)⟩
  | f + 1 => ⟨ev_step (mx_ok f).1 (mx_ok f).2.1, ct_step (mx_ok f).2.2.1, st_step (mx_ok f).2.1 (mx_ok f).2.2.2, op_step (mx_ok f).1⟩
def upP (below : Int) (b : Nat) : List PV := (List.range b).map fun (j : Nat) => PV.var (below + (j : Int))
theorem upP_succ (u : Int) (b : Nat) : upP u (b + 1) = upP u b ++ [PV.var (u + b)] := by simp [upP, List.range_succ]
theorem upP_len (u : Int) (b : Nat) : (upP u b).length = b := by simp [upP]
def bkK (bk : PV → Int → M3 → Int → Option (Tm × M3 × Int)) (opn : Nat → List PV → M3 → Option (PV × M3)) (op below : Int) : Nat → List PV → M3 → Int → Option (Option (List Tm) × M3 × Int)
  | _, [], m, r => some (some [], m, r)
  | i, x :: l, m, r => match (if 0 < bindN op i then opn i (upP below (bindN op i)) m else some (x, m)) with
    | none => none
    | some (y, m) => if m.e ≠ 0 then some (none, m, r) else match bk y (below + bindN op i) m r with
      | none => none
      | some (t, m, r) => (bkK bk opn op below (i + 1) l m r).map fun (ts, m, r) => (ts.map (t :: ·), m, r)
def bkP : Nat → PV → Int → Int → M3 → Int → Option (Tm × M3 × Int)
  | 0, _, _, _, _, _ => none
  | f + 1, v, below, deep, m, r =>
    if r < 0 ∨ 1000000000 < r ∨ below < 0 ∨ 1000000 < below ∨ deep < 0 ∨ 1000000 < deep then none else
    match tickP ⟨m.s, m.w, if m.e = 0 ∧ (3000 < r + 1 ∨ 120 < deep) then 5 else m.e⟩ with
    | none => none
    | some m => if m.e ≠ 0 then some (.z, m, r + 1) else match v with
      | .nil => none
      | .mk op n k t e => if op = 1 then (if n < -2305843009213693952 ∨ 2305843009213693952 < n then none else some (.mk 1 (below - 1 - n) [], m, r + 1))
        else if f ≤ k.length + 4 ∨ 100 < k.length then none
        else match bkK (fun v below m r => bkP f v below (deep + 1) m r) (fun i l m => opP f (.mk op n k t e) i l m) op below 0 k m (r + 1) with
          | none => none
          | some (none, m, r) => some (.z, m, r)
          | some (some ts, m, r) => some (.mk op n ts, m, r)
def BkOk (f : Nat) : Prop := ∀ (v : PV) (below deep : Int) (m : M3) (r : Int) (t : Tm) (m' : M3) (r' : Int), bkP f v below deep m r = some (t, m', r') → ∀ n, f + 1 ≤ n →
  AnsX (SS dt n 72 [.ptr (.ext 0) 0, .fv v.enc, iv below, iv deep] ⟨[], MX m.s m.w r m.e⟩) t.enc (MX m'.s m'.w r' m'.e)
end Idl
end Go.Proofs.Ytkfecngimlcfoaa


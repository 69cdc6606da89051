/-
  Texts of a proof, part 11: an ideal semantics of the program, its functions in shallow form, contracts of them. No statement of the seat is proved here.
-/
import Derived.KernelRfl
import Derived.Test.YtdibmackcbpniaaObjDeepK10
set_option linter.all false
namespace Go.Proofs.Ytdibmackcbpniaa
namespace Idl
theorem call_0 {f : Nat} {G : Handler → Nat → Hp → Option (IV × Hp)} (e : dt.call f = fun ih n => ar0 (G ih n)) (n : Nat) (h : Hp) : SS dt (n + 1) f [] h = G (SS dt n) n  h := by
  show dt.call f (SS dt n) n _ h = _
  rw [e]
  rfl
theorem call_1 {f : Nat} {G : Handler → Nat → IV → Hp → Option (IV × Hp)} (e : dt.call f = fun ih n => ar1 (G ih n)) (n : Nat) (a0 : IV) (h : Hp) : SS dt (n + 1) f [a0] h = G (SS dt n) n a0 h := by
  show dt.call f (SS dt n) n _ h = _
  rw [e]
  rfl
theorem call_2 {f : Nat} {G : Handler → Nat → IV → IV → Hp → Option (IV × Hp)} (e : dt.call f = fun ih n => ar2 (G ih n)) (n : Nat) (a0 a1 : IV) (h : Hp) : SS dt (n + 1) f [a0, a1] h = G (SS dt n) n a0 a1 h := by
  show dt.call f (SS dt n) n _ h = _
  rw [e]
  rfl
theorem call_3 {f : Nat} {G : Handler → Nat → IV → IV → IV → Hp → Option (IV × Hp)} (e : dt.call f = fun ih n => ar3 (G ih n)) (n : Nat) (a0 a1 a2 : IV) (h : Hp) : SS dt (n + 1) f [a0, a1, a2] h = G (SS dt n) n a0 a1 a2 h := by
  show dt.call f (SS dt n) n _ h = _
  rw [e]
  rfl
theorem call_4 {f : Nat} {G : Handler → Nat → IV → IV → IV → IV → Hp → Option (IV × Hp)} (e : dt.call f = fun ih n => ar4 (G ih n)) (n : Nat) (a0 a1 a2 a3 : IV) (h : Hp) : SS dt (n + 1) f [a0, a1, a2, a3] h = G (SS dt n) n a0 a1 a2 a3 h := by
  show dt.call f (SS dt n) n _ h = _
  rw [e]
  rfl
theorem call_5 {f : Nat} {G : Handler → Nat → IV → IV → IV → IV → IV → Hp → Option (IV × Hp)} (e : dt.call f = fun ih n => ar5 (G ih n)) (n : Nat) (a0 a1 a2 a3 a4 : IV) (h : Hp) : SS dt (n + 1) f [a0, a1, a2, a3, a4] h = G (SS dt n) n a0 a1 a2 a3 a4 h := by
  show dt.call f (SS dt n) n _ h = _
  rw [e]
  rfl
theorem call_6 {f : Nat} {G : Handler → Nat → IV → IV → IV → IV → IV → IV → Hp → Option (IV × Hp)} (e : dt.call f = fun ih n => ar6 (G ih n)) (n : Nat) (a0 a1 a2 a3 a4 a5 : IV) (h : Hp) : SS dt (n + 1) f [a0, a1, a2, a3, a4, a5] h = G (SS dt n) n a0 a1 a2 a3 a4 a5 h := by
  show dt.call f (SS dt n) n _ h = _
  rw [e]
  rfl
theorem c2 (n : Nat) (h : Hp) : SS dt (n + 1) 2 [] h = S2 (SS dt n) n  h := call_0 (show dt.call 2 = fun ih n => ar0 (S2 ih n) by kernel_rfl) ..
theorem c3 (n : Nat) (a0 a1 a2 a3 : IV) (h : Hp) : SS dt (n + 1) 3 [a0, a1, a2, a3] h = S3 (SS dt n) n a0 a1 a2 a3 h := call_4 (show dt.call 3 = fun ih n => ar4 (S3 ih n) by kernel_rfl) ..
theorem c7 (n : Nat) (a0 a1 : IV) (h : Hp) : SS dt (n + 1) 7 [a0, a1] h = S7 (SS dt n) n a0 a1 h := call_2 (show dt.call 7 = fun ih n => ar2 (S7 ih n) by kernel_rfl) ..
theorem c8 (n : Nat) (a0 a1 a2 : IV) (h : Hp) : SS dt (n + 1) 8 [a0, a1, a2] h = S8 (SS dt n) n a0 a1 a2 h := call_3 (show dt.call 8 = fun ih n => ar3 (S8 ih n) by kernel_rfl) ..
theorem c11 (n : Nat) (h : Hp) : SS dt (n + 1) 11 [] h = S11 (SS dt n) n  h := call_0 (show dt.call 11 = fun ih n => ar0 (S11 ih n) by kernel_rfl) ..
theorem c12 (n : Nat) (a0 : IV) (h : Hp) : SS dt (n + 1) 12 [a0] h = S12 (SS dt n) n a0 h := call_1 (show dt.call 12 = fun ih n => ar1 (S12 ih n) by kernel_rfl) ..
theorem c13 (n : Nat) (a0 : IV) (h : Hp) : SS dt (n + 1) 13 [a0] h = S13 (SS dt n) n a0 h := call_1 (show dt.call 13 = fun ih n => ar1 (S13 ih n) by kernel_rfl) ..
theorem c14 (n : Nat) (a0 a1 : IV) (h : Hp) : SS dt (n + 1) 14 [a0, a1] h = S14 (SS dt n) n a0 a1 h := call_2 (show dt.call 14 = fun ih n => ar2 (S14 ih n) by kernel_rfl) ..
theorem c15 (n : Nat) (a0 a1 : IV) (h : Hp) : SS dt (n + 1) 15 [a0, a1] h = S15 (SS dt n) n a0 a1 h := call_2 (show dt.call 15 = fun ih n => ar2 (S15 ih n) by kernel_rfl) ..
theorem c16 (n : Nat) (a0 a1 a2 : IV) (h : Hp) : SS dt (n + 1) 16 [a0, a1, a2] h = S16 (SS dt n) n a0 a1 a2 h := call_3 (show dt.call 16 = fun ih n => ar3 (S16 ih n) by kernel_rfl) ..
theorem c17 (n : Nat) (a0 a1 : IV) (h : Hp) : SS dt (n + 1) 17 [a0, a1] h = S17 (SS dt n) n a0 a1 h := call_2 (show dt.call 17 = fun ih n => ar2 (S17 ih n) by kernel_rfl) ..
theorem c18 (n : Nat) (a0 a1 : IV) (h : Hp) : SS dt (n + 1) 18 [a0, a1] h = S18 (SS dt n) n a0 a1 h := call_2 (show dt.call 18 = fun ih n => ar2 (S18 ih n) by kernel_rfl) ..
theorem c19 (n : Nat) (a0 a1 : IV) (h : Hp) : SS dt (n + 1) 19 [a0, a1] h = S19 (SS dt n) n a0 a1 h := call_2 (show dt.call 19 = fun ih n => ar2 (S19 ih n) by kernel_rfl) ..
theorem c20 (n : Nat) (a0 : IV) (h : Hp) : SS dt (n + 1) 20 [a0] h = S20 (SS dt n) n a0 h := call_1 (show dt.call 20 = fun ih n => ar1 (S20 ih n) by kernel_rfl) ..
theorem c21 (n : Nat) (a0 : IV) (h : Hp) : SS dt (n + 1) 21 [a0] h = S21 (SS dt n) n a0 h := call_1 (show dt.call 21 = fun ih n => ar1 (S21 ih n) by kernel_rfl) ..
theorem c23 (n : Nat) (a0 a1 : IV) (h : Hp) : SS dt (n + 1) 23 [a0, a1] h = S23 (SS dt n) n a0 a1 h := call_2 (show dt.call 23 = fun ih n => ar2 (S23 ih n) by kernel_rfl) ..
theorem c24 (n : Nat) (a0 : IV) (h : Hp) : SS dt (n + 1) 24 [a0] h = S24 (SS dt n) n a0 h := call_1 (show dt.call 24 = fun ih n => ar1 (S24 ih n) by kernel_rfl) ..
theorem c25 (n : Nat) (a0 : IV) (h : Hp) : SS dt (n + 1) 25 [a0] h = S25 (SS dt n) n a0 h := call_1 (show dt.call 25 = fun ih n => ar1 (S25 ih n) by kernel_rfl) ..
theorem c28 (n : Nat) (a0 a1 a2 : IV) (h : Hp) : SS dt (n + 1) 28 [a0, a1, a2] h = S28 (SS dt n) n a0 a1 a2 h := call_3 (show dt.call 28 = fun ih n => ar3 (S28 ih n) by kernel_rfl) ..
theorem c29 (n : Nat) (a0 : IV) (h : Hp) : SS dt (n + 1) 29 [a0] h = S29 (SS dt n) n a0 h := call_1 (show dt.call 29 = fun ih n => ar1 (S29 ih n) by kernel_rfl) ..
theorem c30 (n : Nat) (a0 a1 : IV) (h : Hp) : SS dt (n + 1) 30 [a0, a1] h = S30 (SS dt n) n a0 a1 h := call_2 (show dt.call 30 = fun ih n => ar2 (S30 ih n) by kernel_rfl) ..
theorem c31 (n : Nat) (a0 : IV) (h : Hp) : SS dt (n + 1) 31 [a0] h = S31 (SS dt n) n a0 h := call_1 (show dt.call 31 = fun ih n => ar1 (S31 ih n) by kernel_rfl) ..
theorem c32 (n : Nat) (a0 a1 : IV) (h : Hp) : SS dt (n + 1) 32 [a0, a1] h = S32 (SS dt n) n a0 a1 h := call_2 (show dt.call 32 = fun ih n => ar2 (S32 ih n) by kernel_rfl) ..
theorem c33 (n : Nat) (a0 a1 a2 : IV) (h : Hp) : SS dt (n + 1) 33 [a0, a1, a2] h = S33 (SS dt n) n a0 a1 a2 h := call_3 (show dt.call 33 = fun ih n => ar3 (S33 ih n) by kernel_rfl) ..
theorem c34 (n : Nat) (a0 a1 : IV) (h : Hp) : SS dt (n + 1) 34 [a0, a1] h = S34 (SS dt n) n a0 a1 h := call_2 (show dt.call 34 = fun ih n => ar2 (S34 ih n) by kernel_rfl) ..
theorem c40 (n : Nat) (a0 a1 : IV) (h : Hp) : SS dt (n + 1) 40 [a0, a1] h = S40 (SS dt n) n a0 a1 h := call_2 (show dt.call 40 = fun ih n => ar2 (S40 ih n) by kernel_rfl) ..
theorem c41 (n : Nat) (a0 a1 : IV) (h : Hp) : SS dt (n + 1) 41 [a0, a1] h = S41 (SS dt n) n a0 a1 h := call_2 (show dt.call 41 = fun ih n => ar2 (S41 ih n) by kernel_rfl) ..
theorem c42 (n : Nat) (a0 a1 : IV) (h : Hp) : SS dt (n + 1) 42 [a0, a1] h = S42 (SS dt n) n a0 a1 h := call_2 (show dt.call 42 = fun ih n => ar2 (S42 ih n) by kernel_rfl) ..
theorem c43 (n : Nat) (a0 a1 a2 a3 : IV) (h : Hp) : SS dt (n + 1) 43 [a0, a1, a2, a3] h = S43 (SS dt n) n a0 a1 a2 a3 h := call_4 (show dt.call 43 = fun ih n => ar4 (S43 ih n) by kernel_rfl) ..
theorem c44 (n : Nat) (a0 : IV) (h : Hp) : SS dt (n + 1) 44 [a0] h = S44 (SS dt n) n a0 h := call_1 (show dt.call 44 = fun ih n => ar1 (S44 ih n) by kernel_rfl) ..
theorem c45 (n : Nat) (a0 a1 : IV) (h : Hp) : SS dt (n + 1) 45 [a0, a1] h = S45 (SS dt n) n a0 a1 h := call_2 (show dt.call 45 = fun ih n => ar2 (S45 ih n) by kernel_rfl) ..
theorem c46 (n : Nat) (a0 : IV) (h : Hp) : SS dt (n + 1) 46 [a0] h = S46 (SS dt n) n a0 h := call_1 (show dt.call 46 = fun ih n => ar1 (S46 ih n) by kernel_rfl) ..
theorem c47 (n : Nat) (a0 a1 : IV) (h : Hp) : SS dt (n + 1) 47 [a0, a1] h = S47 (SS dt n) n a0 a1 h := call_2 (show dt.call 47 = fun ih n => ar2 (S47 ih n) by kernel_rfl) ..
theorem c48 (n : Nat) (a0 a1 : IV) (h : Hp) : SS dt (n + 1) 48 [a0, a1] h = S48 (SS dt n) n a0 a1 h := call_2 (show dt.call 48 = fun ih n => ar2 (S48 ih n) by kernel_rfl) ..
theorem c49 (n : Nat) (a0 : IV) (h : Hp) : SS dt (n + 1) 49 [a0] h = S49 (SS dt n) n a0 h := call_1 (show dt.call 49 = fun ih n => ar1 (S49 ih n) by kernel_rfl) ..
theorem c50 (n : Nat) (a0 a1 : IV) (h : Hp) : SS dt (n + 1) 50 [a0, a1] h = S50 (SS dt n) n a0 a1 h := call_2 (show dt.call 50 = fun ih n => ar2 (S50 ih n) by kernel_rfl) ..
theorem c51 (n : Nat) (a0 : IV) (h : Hp) : SS dt (n + 1) 51 [a0] h = S51 (SS dt n) n a0 h := call_1 (show dt.call 51 = fun ih n => ar1 (S51 ih n) by kernel_rfl) ..
theorem c52 (n : Nat) (a0 : IV) (h : Hp) : SS dt (n + 1) 52 [a0] h = S52 (SS dt n) n a0 h := call_1 (show dt.call 52 = fun ih n => ar1 (S52 ih n) by kernel_rfl) ..
theorem c53 (n : Nat) (a0 a1 : IV) (h : Hp) : SS dt (n + 1) 53 [a0, a1] h = S53 (SS dt n) n a0 a1 h := call_2 (show dt.call 53 = fun ih n => ar2 (S53 ih n) by kernel_rfl) ..
theorem c54 (n : Nat) (a0 : IV) (h : Hp) : SS dt (n + 1) 54 [a0] h = S54 (SS dt n) n a0 h := call_1 (show dt.call 54 = fun ih n => ar1 (S54 ih n) by kernel_rfl) ..
theorem c55 (n : Nat) (a0 a1 : IV) (h : Hp) : SS dt (n + 1) 55 [a0, a1] h = S55 (SS dt n) n a0 a1 h := call_2 (show dt.call 55 = fun ih n => ar2 (S55 ih n) by kernel_rfl) ..
theorem c56 (n : Nat) (a0 a1 a2 : IV) (h : Hp) : SS dt (n + 1) 56 [a0, a1, a2] h = S56 (SS dt n) n a0 a1 a2 h := call_3 (show dt.call 56 = fun ih n => ar3 (S56 ih n) by kernel_rfl) ..
theorem c58 (n : Nat) (a0 : IV) (h : Hp) : SS dt (n + 1) 58 [a0] h = S58 (SS dt n) n a0 h := call_1 (show dt.call 58 = fun ih n => ar1 (S58 ih n) by kernel_rfl) ..
theorem c60 (n : Nat) (a0 : IV) (h : Hp) : SS dt (n + 1) 60 [a0] h = S60 (SS dt n) n a0 h := call_1 (show dt.call 60 = fun ih n => ar1 (S60 ih n) by kernel_rfl) ..
theorem c64 (n : Nat) (a0 a1 : IV) (h : Hp) : SS dt (n + 1) 64 [a0, a1] h = S64 (SS dt n) n a0 a1 h := call_2 (show dt.call 64 = fun ih n => ar2 (S64 ih n) by kernel_rfl) ..
theorem c67 (n : Nat) (a0 : IV) (h : Hp) : SS dt (n + 1) 67 [a0] h = S67 (SS dt n) n a0 h := call_1 (show dt.call 67 = fun ih n => ar1 (S67 ih n) by kernel_rfl) ..
theorem c68 (n : Nat) (a0 a1 a2 a3 : IV) (h : Hp) : SS dt (n + 1) 68 [a0, a1, a2, a3] h = S68 (SS dt n) n a0 a1 a2 a3 h := call_4 (show dt.call 68 = fun ih n => ar4 (S68 ih n) by kernel_rfl) ..
theorem c69 (n : Nat) (a0 a1 a2 : IV) (h : Hp) : SS dt (n + 1) 69 [a0, a1, a2] h = S69 (SS dt n) n a0 a1 a2 h := call_3 (show dt.call 69 = fun ih n => ar3 (S69 ih n) by kernel_rfl) ..
theorem c70 (n : Nat) (a0 a1 a2 a3 : IV) (h : Hp) : SS dt (n + 1) 70 [a0, a1, a2, a3] h = S70 (SS dt n) n a0 a1 a2 a3 h := call_4 (show dt.call 70 = fun ih n => ar4 (S70 ih n) by kernel_rfl) ..
theorem c71 (n : Nat) (a0 a1 a2 : IV) (h : Hp) : SS dt (n + 1) 71 [a0, a1, a2] h = S71 (SS dt n) n a0 a1 a2 h := call_3 (show dt.call 71 = fun ih n => ar3 (S71 ih n) by kernel_rfl) ..
theorem c72 (n : Nat) (a0 a1 : IV) (h : Hp) : SS dt (n + 1) 72 [a0, a1] h = S72 (SS dt n) n a0 a1 h := call_2 (show dt.call 72 = fun ih n => ar2 (S72 ih n) by kernel_rfl) ..
theorem c73 (n : Nat) (a0 a1 a2 : IV) (h : Hp) : SS dt (n + 1) 73 [a0, a1, a2] h = S73 (SS dt n) n a0 a1 a2 h := call_3 (show dt.call 73 = fun ih n => ar3 (S73 ih n) by kernel_rfl) ..
theorem c74 (n : Nat) (a0 a1 : IV) (h : Hp) : SS dt (n + 1) 74 [a0, a1] h = S74 (SS dt n) n a0 a1 h := call_2 (show dt.call 74 = fun ih n => ar2 (S74 ih n) by kernel_rfl) ..
theorem c75 (n : Nat) (a0 a1 : IV) (h : Hp) : SS dt (n + 1) 75 [a0, a1] h = S75 (SS dt n) n a0 a1 h := call_2 (show dt.call 75 = fun ih n => ar2 (S75 ih n) by kernel_rfl) ..
theorem c76 (n : Nat) (a0 a1 : IV) (h : Hp) : SS dt (n + 1) 76 [a0, a1] h = S76 (SS dt n) n a0 a1 h := call_2 (show dt.call 76 = fun ih n => ar2 (S76 ih n) by kernel_rfl) ..
theorem c77 (n : Nat) (a0 a1 a2 : IV) (h : Hp) : SS dt (n + 1) 77 [a0, a1, a2] h = S77 (SS dt n) n a0 a1 a2 h := call_3 (show dt.call 77 = fun ih n => ar3 (S77 ih n) by kernel_rfl) ..
theorem c78 (n : Nat) (a0 a1 : IV) (h : Hp) : SS dt (n + 1) 78 [a0, a1] h = S78 (SS dt n) n a0 a1 h := call_2 (show dt.call 78 = fun ih n => ar2 (S78 ih n) by kernel_rfl) ..
theorem c79 (n : Nat) (a0 a1 : IV) (h : Hp) : SS dt (n + 1) 79 [a0, a1] h = S79 (SS dt n) n a0 a1 h := call_2 (show dt.call 79 = fun ih n => ar2 (S79 ih n) by kernel_rfl) ..
theorem c80 (n : Nat) (a0 a1 : IV) (h : Hp) : SS dt (n + 1) 80 [a0, a1] h = S80 (SS dt n) n a0 a1 h := call_2 (show dt.call 80 = fun ih n => ar2 (S80 ih n) by kernel_rfl) ..
theorem c81 (n : Nat) (a0 a1 a2 a3 : IV) (h : Hp) : SS dt (n + 1) 81 [a0, a1, a2, a3] h = S81 (SS dt n) n a0 a1 a2 a3 h := call_4 (show dt.call 81 = fun ih n => ar4 (S81 ih n) by kernel_rfl) ..
theorem c82 (n : Nat) (a0 a1 a2 : IV) (h : Hp) : SS dt (n + 1) 82 [a0, a1, a2] h = S82 (SS dt n) n a0 a1 a2 h := call_3 (show dt.call 82 = fun ih n => ar3 (S82 ih n) by kernel_rfl) ..
theorem c89 (n : Nat) (a0 a1 a2 : IV) (h : Hp) : SS dt (n + 1) 89 [a0, a1, a2] h = S89 (SS dt n) n a0 a1 a2 h := call_3 (show dt.call 89 = fun ih n => ar3 (S89 ih n) by kernel_rfl) ..
theorem c96 (n : Nat) (a0 a1 a2 : IV) (h : Hp) : SS dt (n + 1) 96 [a0, a1, a2] h = S96 (SS dt n) n a0 a1 a2 h := call_3 (show dt.call 96 = fun ih n => ar3 (S96 ih n) by kernel_rfl) ..
theorem c97 (n : Nat) (a0 a1 a2 a3 : IV) (h : Hp) : SS dt (n + 1) 97 [a0, a1, a2, a3] h = S97 (SS dt n) n a0 a1 a2 a3 h := call_4 (show dt.call 97 = fun ih n => ar4 (S97 ih n) by kernel_rfl) ..
theorem c98 (n : Nat) (a0 a1 a2 a3 : IV) (h : Hp) : SS dt (n + 1) 98 [a0, a1, a2, a3] h = S98 (SS dt n) n a0 a1 a2 a3 h := call_4 (show dt.call 98 = fun ih n => ar4 (S98 ih n) by kernel_rfl) ..
theorem c99 (n : Nat) (h : Hp) : SS dt (n + 1) 99 [] h = S99 (SS dt n) n  h := call_0 (show dt.call 99 = fun ih n => ar0 (S99 ih n) by kernel_rfl) ..
theorem c100 (n : Nat) (a0 a1 a2 a3 : IV) (h : Hp) : SS dt (n + 1) 100 [a0, a1, a2, a3] h = S100 (SS dt n) n a0 a1 a2 a3 h := call_4 (show dt.call 100 = fun ih n => ar4 (S100 ih n) by kernel_rfl) ..
theorem c101 (n : Nat) (a0 a1 a2 a3 : IV) (h : Hp) : SS dt (n + 1) 101 [a0, a1, a2, a3] h = S101 (SS dt n) n a0 a1 a2 a3 h := call_4 (show dt.call 101 = fun ih n => ar4 (S101 ih n) by kernel_rfl) ..
theorem c102 (n : Nat) (a0 : IV) (h : Hp) : SS dt (n + 1) 102 [a0] h = S102 (SS dt n) n a0 h := call_1 (show dt.call 102 = fun ih n => ar1 (S102 ih n) by kernel_rfl) ..
theorem c103 (n : Nat) (a0 a1 : IV) (h : Hp) : SS dt (n + 1) 103 [a0, a1] h = S103 (SS dt n) n a0 a1 h := call_2 (show dt.call 103 = fun ih n => ar2 (S103 ih n) by kernel_rfl) ..
theorem c104 (n : Nat) (a0 a1 : IV) (h : Hp) : SS dt (n + 1) 104 [a0, a1] h = S104 (SS dt n) n a0 a1 h := call_2 (show dt.call 104 = fun ih n => ar2 (S104 ih n) by kernel_rfl) ..
theorem c105 (n : Nat) (a0 a1 : IV) (h : Hp) : SS dt (n + 1) 105 [a0, a1] h = S105 (SS dt n) n a0 a1 h := call_2 (show dt.call 105 = fun ih n => ar2 (S105 ih n) by kernel_rfl) ..
theorem c106 (n : Nat) (a0 : IV) (h : Hp) : SS dt (n + 1) 106 [a0] h = S106 (SS dt n) n a0 h := call_1 (show dt.call 106 = fun ih n => ar1 (S106 ih n) by kernel_rfl) ..
theorem c107 (n : Nat) (a0 : IV) (h : Hp) : SS dt (n + 1) 107 [a0] h = S107 (SS dt n) n a0 h := call_1 (show dt.call 107 = fun ih n => ar1 (S107 ih n) by kernel_rfl) ..
theorem c108 (n : Nat) (a0 a1 a2 : IV) (h : Hp) : SS dt (n + 1) 108 [a0, a1, a2] h = S108 (SS dt n) n a0 a1 a2 h := call_3 (show dt.call 108 = fun ih n => ar3 (S108 ih n) by kernel_rfl) ..
theorem c109 (n : Nat) (a0 a1 : IV) (h : Hp) : SS dt (n + 1) 109 [a0, a1] h = S109 (SS dt n) n a0 a1 h := call_2 (show dt.call 109 = fun ih n => ar2 (S109 ih n) by kernel_rfl) ..
theorem c110 (n : Nat) (a0 a1 : IV) (h : Hp) : SS dt (n + 1) 110 [a0, a1] h = S110 (SS dt n) n a0 a1 h := call_2 (show dt.call 110 = fun ih n => ar2 (S110 ih n) by kernel_rfl) ..
theorem c112 (n : Nat) (a0 : IV) (h : Hp) : SS dt (n + 1) 112 [a0] h = S112 (SS dt n) n a0 h := call_1 (show dt.call 112 = fun ih n => ar1 (S112 ih n) by kernel_rfl) ..
theorem c113 (n : Nat) (a0 a1 a2 a3 : IV) (h : Hp) : SS dt (n + 1) 113 [a0, a1, a2, a3] h = S113 (SS dt n) n a0 a1 a2 a3 h := call_4 (show dt.call 113 = fun ih n => ar4 (S113 ih n) by kernel_rfl) ..
theorem c115 (n : Nat) (a0 : IV) (h : Hp) : SS dt (n + 1) 115 [a0] h = S115 (SS dt n) n a0 h := call_1 (show dt.call 115 = fun ih n => ar1 (S115 ih n) by kernel_rfl) ..
theorem c116 (n : Nat) (a0 a1 a2 : IV) (h : Hp) : SS dt (n + 1) 116 [a0, a1, a2] h = S116 (SS dt n) n a0 a1 a2 h := call_3 (show dt.call 116 = fun ih n => ar3 (S116 ih n) by kernel_rfl) ..
theorem c117 (n : Nat) (a0 : IV) (h : Hp) : SS dt (n + 1) 117 [a0] h = S117 (SS dt n) n a0 h := call_1 (show dt.call 117 = fun ih n => ar1 (S117 ih n) by kernel_rfl) ..
theorem c118 (n : Nat) (a0 a1 : IV) (h : Hp) : SS dt (n + 1) 118 [a0, a1] h = S118 (SS dt n) n a0 a1 h := call_2 (show dt.call 118 = fun ih n => ar2 (S118 ih n) by kernel_rfl) ..

end Idl
end Go.Proofs.Ytdibmackcbpniaa
namespace Go.Proofs.Ytdibmackcbpniaa
namespace Idl
noncomputable def ssK (t : DT) (n : Nat) : KR KS := fun f args hp K => match SS t n f args hp with
  | none => none
  | some p => match p with
    | (v, hp) => K v hp
theorem ssK_ok {E : Env} {FT : Nat → Option Func} (hFT : ∀ f fn, FT f = some fn → E.P.funcs[f]? = some fn) {t : DT} (ht : t.Ok E FT) {G : Option KS → Prop} (hG : ¬ G none) (n : Nat) : Snd G (ssK t n) (run E n) := by
  intro f args hp K h
  unfold ssK at h
  cases e : SS t n f args hp with
  | none => rw [e] at h; exact absurd h hG
  | some p =>
    obtain ⟨v, hp'⟩ := p
    rw [e] at h
    exact ⟨v, hp', SS_ok hFT ht n f args hp _ e, h⟩
noncomputable def outT (E : Env) (FT : FTr) (t : DT) (W : FuncId) (n : Nat) (f : FuncId) (args : List IV) (st : List Int) : Option (Asks × IV) :=
  match callK E (saidK W (ssK t n)) FT.get n f args ⟨[], []⟩ (fun v _ => some fun _ => some ([], v)) with
  | none => none
  | some g => g st
theorem outT_run {E : Env} {FT : FTr} (hFT : ∀ f fn, FT.get f = some fn → E.P.funcs[f]? = some fn) {t : DT} (ht : t.Ok E FT.get) {W : FuncId} {n : Nat} {f : FuncId} {args : List IV} {st : List Int} {log : Asks} {v : IV}
    (h : outT E FT t W n f args st = some (log, v)) (hs : Stand (run E n) W log) : ∃ hp', run E (n + 1) f args ⟨[], []⟩ = some (v, hp') := by
  unfold outT at h
  split at h
  · cases h
  · rename_i g hg
    have hG : SG (run E n) W v (callK E (saidK W (ssK t n)) FT.get n f args ⟨[], []⟩ (fun v _ => some fun _ => some ([], v))) := ⟨g, st, log, hg, h, hs⟩
    obtain ⟨r, hp', h1, h2⟩ := callK_ok sg_none hFT (said_ok (ssK_ok hFT ht sg_none n)) f args ⟨[], []⟩ _ hG
    obtain ⟨g', st', log', e1, e2, _⟩ := h2
    simp only [Option.some.injEq] at e1
    subst e1
    simp only [Option.some.injEq, Prod.mk.injEq] at e2
    exact ⟨hp', by rw [h1, e2.2]⟩
end Idl
end Go.Proofs.Ytdibmackcbpniaa
namespace Go.Proofs.Ytdibmackcbpniaa
namespace Idl

section
variable {β : Type} {E : Env} {t : TypeId}
/-- A number of 64 bits. -/
abbrev iv (n : Int) : IV := .fv (.int .i64 n)
theorem x_uncS {α : Type} (a : α) (l : List α) (k : α → List α → Option β) : uncS (a :: l) k = k a l := rfl
theorem x_cond_t (a b : Option β) : condS (.fv (.bool true)) a b = a := rfl
theorem x_cond_f (a b : Option β) : condS (.fv (.bool false)) a b = b := rfl
theorem x_cond (c : Prop) [Decidable c] (a b : Option β) : condS (.fv (.bool (decide c))) a b = if c then a else b := by
  by_cases h : c
  · rw [decide_eq_true h, if_pos h]; rfl
  · rw [decide_eq_false h, if_neg h]; rfl
theorem x_pick_t (a b : IV) (k : IV → Option β) : pickS (.fv (.bool true)) a b k = k a := rfl
theorem x_pick_f (a b : IV) (k : IV → Option β) : pickS (.fv (.bool false)) a b k = k b := rfl
theorem x_faddr (o : Nat) (r : Ref) (off : Nat) (k : IV → Option β) : faddrS o (.ptr r off) k = k (.ptr r (off + o)) := by
  show (fNat (off + o) fun o => k (.ptr r o)) = _
  rw [fNat_eq]
theorem x_faddr_f (o : Nat) (cs : List FV) (off : Nat) (k : IV → Option β) : faddrS o (.fv (.fp cs off)) k = k (.fv (.fp cs (off + o))) := by
  show (fNat (off + o) fun o => k (.fv (.fp cs o))) = _
  rw [fNat_eq]
theorem x_nil_p (r : Ref) (o : Nat) (k : IV → Option β) : nilS (.ptr r o) k = k (.ptr r o) := rfl
theorem x_nil_f (cs : List FV) (o : Nat) (k : IV → Option β) : nilS (.fv (.fp cs o)) k = k (.fv (.fp cs o)) := rfl
theorem x_load1 {r : Ref} {h : Hp} {cells : List IV} {ro : Bool} (hg : h.get r = some (.row cells ro)) (o : Nat) (k : IV → List Ref → Option β) : load1 (.ptr r o) h k = (cells[o]?).bind fun v => k v [r] := by
  show (getK r h fun b => asRow b fun cells => nthK cells o fun v => k v [r]) = _
  rw [getK_eq, hg]
  exact nthK_eq ..
theorem x_load1_f (cs : List FV) (o : Nat) (h : Hp) (k : IV → List Ref → Option β) : load1 (.fv (.fp cs o)) h k = (cs[o]?).bind fun v => k (.fv v) [] := nthK_eq ..
theorem x_loadA_f (size : Nat) (cs : List FV) (o : Nat) (h : Hp) (k : IV → List Ref → Option β) (hl : o + size ≤ cs.length) : loadA size (.fv (.fp cs o)) h k = k (.fv (.agg ((cs.drop o).take size))) [] := by
  show (drpK cs o fun cs => takK cs size fun cs => k (.fv (.agg cs)) []) = _
  rw [drpK_eq, if_pos (by omega), takK_eq, if_pos (by simp; omega)]
theorem x_len (es : List FV) (k : IV → Option β) : lenS (.fv (.sl es)) k = k (iv es.length) := intK_eq ..
theorem x_len_nils (k : IV → Option β) : lenS .nils k = k (iv 0) := rfl
theorem x_lt (a b : Nat) (k : IV → Option β) : ltS E t (iv a) (iv b) k = k (.fv (.bool (decide (a < b)))) := by
  show boolK (Nat.ble (Nat.succ a) b) k = _
  rw [boolK_eq, ble_dec]
  rfl
theorem x_eq (a b : Nat) (k : IV → Option β) : eqS E t (iv a) (iv b) k = k (.fv (.bool (decide (a = b)))) := by
  show boolK (Nat.beq a b) k = _
  rw [boolK_eq, beq_dec]
theorem x_ne (a b : Nat) (k : IV → Option β) : neS E t (iv a) (iv b) k = k (.fv (.bool (!decide (a = b)))) := by
  show boolK (not (Nat.beq a b)) k = _
  rw [boolK_eq, beq_dec]
theorem x_add (a b : Nat) (h : a + b ≤ 9223372036854775807) (k : IV → Option β) : addS E t (iv a) (iv b) k = k (iv ((a + b : Nat) : Int)) := by
  show cond (Nat.ble (a + b) 9223372036854775807) (intK (a + b) k) _ = _
  rw [ble_dec, decide_eq_true h]
  exact intK_eq ..
theorem x_ix {size : Nat} {es : List FV} {n : Nat} {el : FV} (he : es[n]? = some el) (hl : el.cells.length = size) (k : IV → Option β) : ixS size (.fv (.sl es)) (iv n) k = k (.fv (.fp el.cells 0)) := by
  show (nthK es n fun el => elK size el k) = _
  rw [nthK_eq, he]
  show elK size el k = _
  rw [elK_eq, if_pos hl]
theorem x_chk (l : List (List Ref × List Ref)) (hl : ∀ q ∈ l, q.2 = []) (rd : List Ref) (a : Option β) : chkS l rd [] a = a := by
  induction l with
  | nil => rfl
  | cons q l ih =>
    obtain ⟨q1, q2⟩ := q
    have e : q2 = [] := hl _ List.mem_cons_self
    subst e
    show chkS l rd [] a = a
    exact ih fun q hq => hl q (List.mem_cons_of_mem _ hq)
/-- A call of frozen values. -/
theorem x_iso {ih : Handler} {f : FuncId} {args : List FV} {h : Hp} {v' : FV} {own : List (Nat × Blk)} (e : ih f (args.map .fv) ⟨[], []⟩ = some (.fv v', ⟨own, []⟩)) (k : IV → Hp → List Ref → List Ref → Option β) :
    isoS [] false false ih f (args.map .fv) h k = k (.fv v') h [] [] := by
  have ha : ∀ (l : List FV) (k : List IV → List Ref → List (Ref × Blk) → List Ref → Option β) (e : Option β), fzA (l.map .fv) [] h [] e k = k (l.map .fv) [] [] [] := by
    intro l
    induction l with
    | nil => intro k e; rfl
    | cons a l ih =>
      intro k e
      show (fzA (l.map .fv) [] h [] e fun vs rs us lg => k (.fv a :: vs) rs us lg) = _
      rw [ih]
      rfl
  unfold isoS
  show fzA (args.map .fv) [] h [] _ _ = _
  rw [ha]
  simp only [e]
  rfl
/-! Numbers of any kind. -/
theorem x_cmpI {op : BinOp} {g : Nat → Nat → Bool} (hg : ∀ a b : Nat, binR E op t (iv a) (iv b) = some (.fv (.bool (g a b)))) (a b : Int) (k : IV → Option β) :
    cmpS E t op g (iv a) (iv b) k = (binR E op t (iv a) (iv b)).bind k := by
  cases a with
  | ofNat a =>
    cases b with
    | ofNat b =>
      show boolK (g a b) k = _
      rw [boolK_eq, show binR E op t (iv (Int.ofNat a)) (iv (Int.ofNat b)) = some (.fv (.bool (g a b))) from hg a b]
      rfl
    | negSucc b =>
      show binS E t op _ _ k = _
      rw [binS, optS_eq]
  | negSucc a =>
    show binS E t op _ _ k = _
    rw [binS, optS_eq]
theorem x_eqI (a b : Int) (k : IV → Option β) : eqS E t (iv a) (iv b) k = k (.fv (.bool (decide (a = b)))) := by
  rw [eqS, x_cmpI (fun a b => by
    show some (IV.fv (.bool ((a : Int) == (b : Int)))) = _
    rw [beq_dec]
    congr 3
    exact decide_eq_decide.2 Int.ofNat_inj)]
  rfl
theorem x_neI (a b : Int) (k : IV → Option β) : neS E t (iv a) (iv b) k = k (.fv (.bool (!decide (a = b)))) := by
  rw [neS, x_cmpI (fun a b => by
    show some (IV.fv (.bool ((a : Int) != (b : Int)))) = _
    rw [beq_dec]
    congr 3
    show (!decide ((a : Int) = (b : Int))) = !decide (a = b)
    congr 1
    exact decide_eq_decide.2 Int.ofNat_inj)]
  rfl
theorem x_ltI (a b : Int) (k : IV → Option β) : ltS E t (iv a) (iv b) k = k (.fv (.bool (decide (a < b)))) := by
  rw [ltS, x_cmpI (fun a b => by
    show some (IV.fv (.bool (decide ((a : Int) < (b : Int))))) = _
    rw [ble_dec]
    congr 3
    exact decide_eq_decide.2 (by omega))]
  rfl
theorem x_leI (a b : Int) (k : IV → Option β) : leS E t (iv a) (iv b) k = k (.fv (.bool (decide (a ≤ b)))) := by
  rw [leS, x_cmpI (fun a b => by
    show some (IV.fv (.bool (decide ((a : Int) ≤ (b : Int))))) = _
    rw [ble_dec]
    congr 3
    exact decide_eq_decide.2 (by omega))]
  rfl
/-! What is guarded. -/
theorem x_guard (b want : Bool) (h : Hp) (m : (IV → Hp → List Ref → List Ref → Option β) → Option β) (k : IV → Hp → List Ref → List Ref → Option β) :
    guardS (.fv (.bool b)) want h m k = if b = want then m k else k undefV h [] [] := by
  cases b <;> cases want <;> rfl
theorem x_not (b : Bool) (k : IV → Option β) : optS (unR .not (.fv (.bool b))) k = k (.fv (.bool !b)) := by
  rw [optS_eq]
  rfl
end
end Idl
end Go.Proofs.Ytdibmackcbpniaa
namespace Go.Proofs.Ytdibmackcbpniaa
namespace Idl

section
variable {β : Type} {α : Type}
/-! Lists. -/
theorem n0 (a : α) (l : List α) (k : α → Option β) : nthK (a :: l) 0 k = k a := rfl
theorem n1 (a b : α) (l : List α) (k : α → Option β) : nthK (a :: b :: l) 1 k = k b := rfl
theorem n2 (a b c : α) (l : List α) (k : α → Option β) : nthK (a :: b :: c :: l) 2 k = k c := rfl
theorem n3 (a b c d : α) (l : List α) (k : α → Option β) : nthK (a :: b :: c :: d :: l) 3 k = k d := rfl
theorem n4 (a b c d e : α) (l : List α) (k : α → Option β) : nthK (a :: b :: c :: d :: e :: l) 4 k = k e := rfl
theorem n5 (a b c d e f : α) (l : List α) (k : α → Option β) : nthK (a :: b :: c :: d :: e :: f :: l) 5 k = k f := rfl
theorem n6 (a b c d e f g : α) (l : List α) (k : α → Option β) : nthK (a :: b :: c :: d :: e :: f :: g :: l) 6 k = k g := rfl
theorem d0 (l : List α) (k : List α → Option β) : drpK l 0 k = k l := by cases l <;> rfl
theorem d1 (a : α) (l : List α) (k : List α → Option β) : drpK (a :: l) 1 k = k l := by cases l <;> rfl
theorem d2 (a b : α) (l : List α) (k : List α → Option β) : drpK (a :: b :: l) 2 k = k l := by cases l <;> rfl
theorem d3 (a b c : α) (l : List α) (k : List α → Option β) : drpK (a :: b :: c :: l) 3 k = k l := by cases l <;> rfl
theorem d4 (a b c d : α) (l : List α) (k : List α → Option β) : drpK (a :: b :: c :: d :: l) 4 k = k l := by cases l <;> rfl
theorem t1 (a : α) (l : List α) (k : List α → Option β) : takK (a :: l) 1 k = k [a] := by cases l <;> rfl
theorem t2 (a b : α) (l : List α) (k : List α → Option β) : takK (a :: b :: l) 2 k = k [a, b] := by cases l <;> rfl
theorem t3 (a b c : α) (l : List α) (k : List α → Option β) : takK (a :: b :: c :: l) 3 k = k [a, b, c] := by cases l <;> rfl
theorem t4 (a b c d : α) (l : List α) (k : List α → Option β) : takK (a :: b :: c :: d :: l) 4 k = k [a, b, c, d] := by cases l <;> rfl
theorem t7 (a b c d e f g : α) (l : List α) (k : List α → Option β) : takK (a :: b :: c :: d :: e :: f :: g :: l) 7 k = k [a, b, c, d, e, f, g] := by cases l <;> rfl
theorem sp_e (l : List α) (k : List α → Option β) : spK l k = k l := spK_eq l k
theorem ap0 (us : List α) (k : List α → Option β) : apK [] us k = k us := rfl
theorem ap1 (u : α) (l us : List α) (k : List α → Option β) : apK (u :: l) us k = apK l us fun w => k (u :: w) := rfl
theorem unc_c (a : α) (l : List α) (k : α → List α → Option β) : uncS (a :: l) k = k a l := rfl
theorem c_t {γ : Type} (a b : γ) : cond true a b = a := rfl
theorem c_f {γ : Type} (a b : γ) : cond false a b = b := rfl
end

section
variable {β : Type}
/-! Blocks. -/
theorem N_bf {s j : Nat} (h : (s == j) = false) : Nat.beq s j = false := by
  rw [beq_dec]
  simpa using h
theorem g_own (s : Nat) (own : List (Nat × Blk)) (ext : List Blk) (k : Blk → Option β) : getK (.own s) ⟨own, ext⟩ k = ownK own s k := rfl
theorem g_ext (j : Nat) (own : List (Nat × Blk)) (ext : List Blk) (k : Blk → Option β) : getK (.ext j) ⟨own, ext⟩ k = nthK ext j k := rfl
theorem o_hit (s : Nat) (b : Blk) (l : List (Nat × Blk)) (k : Blk → Option β) : ownK ((s, b) :: l) s k = k b := by
  show cond (Nat.beq s s) (k b) _ = _
  rw [show Nat.beq s s = true from Nat.beq_refl s]
  rfl
theorem o_miss {s j : Nat} (hne : (s == j) = false) (b : Blk) (l : List (Nat × Blk)) (k : Blk → Option β) : ownK ((j, b) :: l) s k = ownK l s k := by
  show cond (Nat.beq s j) (k b) _ = _
  rw [show Nat.beq s j = false from N_bf hne]
  rfl
theorem p_nil (s : Nat) (b : Blk) (k : List (Nat × Blk) → Option β) : putOwnK [] s b k = k [(s, b)] := rfl
theorem p_hit (s : Nat) (b c : Blk) (l : List (Nat × Blk)) (k : List (Nat × Blk) → Option β) : putOwnK ((s, c) :: l) s b k = k ((s, b) :: l) := by
  show cond (Nat.beq s s) _ _ = _
  rw [show Nat.beq s s = true from Nat.beq_refl s]
  rfl
theorem p_miss {s j : Nat} (hne : (s == j) = false) (b c : Blk) (l : List (Nat × Blk)) (k : List (Nat × Blk) → Option β) : putOwnK ((j, c) :: l) s b k = putOwnK l s b fun l => k ((j, c) :: l) := by
  show cond (Nat.beq s j) _ _ = _
  rw [show Nat.beq s j = false from N_bf hne]
  rfl
theorem f_nil (s : Nat) (a : Option β) : freshK [] s a = a := rfl
theorem f_cons {s j : Nat} (hne : (s == j) = false) (b : Blk) (l : List (Nat × Blk)) (a : Option β) : freshK ((j, b) :: l) s a = freshK l s a := by
  show cond (Nat.beq s j) none _ = _
  rw [show Nat.beq s j = false from N_bf hne]
  rfl
theorem lay_own (s : Nat) (b : Blk) (own : List (Nat × Blk)) (ext : List Blk) (k : Hp → Option β) : layK (.own s) b ⟨own, ext⟩ k = putOwnK own s b fun own => k ⟨own, ext⟩ := rfl
theorem lay_ext (j : Nat) (b : Blk) (own : List (Nat × Blk)) (ext : List Blk) (k : Hp → Option β) : layK (.ext j) b ⟨own, ext⟩ k = setNK ext j b fun ext => k ⟨own, ext⟩ := rfl
theorem sn0 {α : Type} (a b : α) (l : List α) (k : List α → Option β) : setNK (a :: l) 0 b k = k (b :: l) := rfl
theorem new_e (s : Nat) (b : Blk) (v : IV) (own : List (Nat × Blk)) (ext : List Blk) (k : IV → Hp → List Ref → List Ref → Option β) :
    newS s b v ⟨own, ext⟩ k = freshK own s (putOwnK own s b fun own => k v ⟨own, ext⟩ [] [.own s]) := rfl
theorem box_agg (s : Nat) (cs : List FV) (h : Hp) (k : IV → Hp → List Ref → List Ref → Option β) : boxS s (.fv (.agg cs)) h k = newS s (.row (cs.map .fv) false) (.ptr (.own s) 0) h k := by
  show spK (cs.map IV.fv) _ = _
  rw [spK_eq]
theorem box_agg' (s : Nat) (cs : List IV) (h : Hp) (k : IV → Hp → List Ref → List Ref → Option β) : boxS s (.agg cs) h k = newS s (.row cs false) (.ptr (.own s) 0) h k := by
  show spK cs _ = _
  rw [spK_eq]
theorem box_one {x : IV} (hx : x.one = true) (s : Nat) (h : Hp) (k : IV → Hp → List Ref → List Ref → Option β) : boxS s x h k = newS s (.row [x] false) (.ptr (.own s) 0) h k := by
  unfold boxS; rw [hx]; rfl
theorem on_int (k : IntKind) (n : Int) : IV.one (.fv (.int k n)) = true := rfl
theorem on_bool (b : Bool) : IV.one (.fv (.bool b)) = true := rfl
theorem on_sl (l : List FV) : IV.one (.fv (.sl l)) = true := rfl
theorem on_fp (l : List FV) (o : Nat) : IV.one (.fv (.fp l o)) = true := rfl
theorem on_func (fn : Fn) (a b : List FV) : IV.one (.fv (.func fn a b)) = true := rfl
theorem on_nilp : IV.one (.fv .nilp) = true := rfl
theorem on_nils : IV.one .nils = true := rfl
theorem on_ptr (r : Ref) (o : Nat) : IV.one (.ptr r o) = true := rfl
theorem on_slc (r : Ref) (a b : Nat) : IV.one (.slc r a b) = true := rfl
theorem on_app (r : Ref) (l : List FV) : IV.one (.app r l) = true := rfl
theorem on_clip (l : List FV) : IV.one (.clip l) = true := rfl
theorem on_emp : IV.one .emp = true := rfl
theorem on_agg (l : List IV) : IV.one (.agg l) = false := rfl
theorem on_fagg (l : List FV) : IV.one (.fv (.agg l)) = false := rfl
theorem of_int (k : IntKind) (n : Int) : oneF (.int k n) = true := rfl
theorem of_bool (b : Bool) : oneF (.bool b) = true := rfl
theorem of_sl (l : List FV) : oneF (.sl l) = true := rfl
theorem of_fp (l : List FV) (o : Nat) : oneF (.fp l o) = true := rfl
theorem of_nilp : oneF .nilp = true := rfl
theorem of_agg (l : List FV) : oneF (.agg l) = false := rfl
theorem aof_nil : allOneF [] = true := rfl
theorem aof_cons {v : FV} (h : oneF v = true) (l : List FV) : allOneF (v :: l) = allOneF l := by
  show cond (oneF v) (allOneF l) false = _
  rw [h]; rfl
/-! Forms. -/
theorem as_p (r : Ref) (o : Nat) (k : Ref → Nat → Option β) (kf : List FV → Nat → Option β) : asPtr (.ptr r o) k kf = k r o := rfl
theorem as_f (cs : List FV) (o : Nat) (k : Ref → Nat → Option β) (kf : List FV → Nat → Option β) : asPtr (.fv (.fp cs o)) k kf = kf cs o := rfl
theorem as_row (cs : List IV) (ro : Bool) (k : List IV → Option β) : asRow (.row cs ro) k = k cs := rfl
theorem as_free (cs : List IV) (k : List IV → Option β) : asFree (.row cs false) k = k cs := rfl
theorem as_fv (v : FV) (e : Option β) (k : FV → Option β) : asF (.fv v) e k = k v := rfl
theorem as_nf1 (l : List IV) (e : Option β) (k : FV → Option β) : asF (.agg l) e k = e := rfl
theorem as_nf2 (e : Option β) (k : FV → Option β) : asF .nils e k = e := rfl
theorem as_nf3 (r : Ref) (o : Nat) (e : Option β) (k : FV → Option β) : asF (.ptr r o) e k = e := rfl
theorem as_nf4 (r : Ref) (o : List FV) (e : Option β) (k : FV → Option β) : asF (.app r o) e k = e := rfl
theorem as_nf5 (o : List FV) (e : Option β) (k : FV → Option β) : asF (.clip o) e k = e := rfl
theorem as_nf6 (r : Ref) (a b : Nat) (e : Option β) (k : FV → Option β) : asF (.slc r a b) e k = e := rfl
theorem as_nf7 (e : Option β) (k : FV → Option β) : asF .emp e k = e := rfl
theorem as_agF (cs : List FV) (k : List FV → Option β) : asAggF (.agg cs) k = k cs := rfl
theorem as_ag (cs : List IV) (k : List IV → Option β) (kf : List FV → Option β) : asAgg (.agg cs) k kf = k cs := rfl
theorem as_ag' (cs : List FV) (k : List IV → Option β) (kf : List FV → Option β) : asAgg (.fv (.agg cs)) k kf = kf cs := rfl
theorem alv_nil (e : Option β) (k : List FV → Option β) : allFvK [] e k = k [] := rfl
theorem alv_fv (v : FV) (l : List IV) (e : Option β) (k : List FV → Option β) : allFvK (.fv v :: l) e k = allFvK l e fun vs => k (v :: vs) := rfl
theorem alv_nils (l : List IV) (e : Option β) (k : List FV → Option β) : allFvK (.nils :: l) e k = e := rfl
theorem alv_app (r : Ref) (es : List FV) (l : List IV) (e : Option β) (k : List FV → Option β) : allFvK (.app r es :: l) e k = e := rfl
theorem alv_clip (es : List FV) (l : List IV) (e : Option β) (k : List FV → Option β) : allFvK (.clip es :: l) e k = e := rfl
theorem alv_ptr (r : Ref) (o : Nat) (l : List IV) (e : Option β) (k : List FV → Option β) : allFvK (.ptr r o :: l) e k = e := rfl
theorem alv_slc (r : Ref) (a b : Nat) (l : List IV) (e : Option β) (k : List FV → Option β) : allFvK (.slc r a b :: l) e k = e := rfl
theorem alv_agg (es l : List IV) (e : Option β) (k : List FV → Option β) : allFvK (.agg es :: l) e k = e := rfl
theorem alv_mapr (r : Ref) (l : List IV) (e : Option β) (k : List FV → Option β) : allFvK (.mapr r :: l) e k = e := rfl
theorem agg_e (l : List IV) (k : IV → Option β) : aggK l k = allFvK l (k (.agg l)) fun vs => k (.fv (.agg vs)) := rfl
theorem tup_e (l : List IV) (k : IV → Option β) : tupK l k = allFvK l (k (.tuple l)) fun vs => k (.fv (.tuple vs)) := rfl
/-! Loads, stores. -/
theorem l1_e (a : IV) (h : Hp) (k : IV → List Ref → Option β) : load1 a h k = asPtr a (fun r o => getK r h fun b => asRow b fun cells => nthK cells o fun v => k v [r]) fun cells o => nthK cells o fun v => k (.fv v) [] := rfl
theorem lA_e (size : Nat) (a : IV) (h : Hp) (k : IV → List Ref → Option β) : loadA size a h k =
    asPtr a (fun r o => getK r h fun b => asRow b fun cells => drpK cells o fun cs => takK cs size fun cs => aggK cs fun v => k v [r]) fun cells o => drpK cells o fun cs => takK cs size fun cs => k (.fv (.agg cs)) [] := rfl
theorem cell_t (size : Nat) (a : IV) (h : Hp) (k : IV → Option β) : cellS true size a h k = loadA size a h fun v _ => k v := rfl
theorem cell_f (size : Nat) (a : IV) (h : Hp) (k : IV → Option β) : cellS false size a h k = load1 a h fun v _ => k v := rfl
theorem wr0 (l : List IV) (k : List IV → Option β) : wrK [] l k = k l := rfl
theorem wr1 (c : FV) (cs : List FV) (x : IV) (l : List IV) (k : List IV → Option β) : wrK (c :: cs) (x :: l) k = wrK cs l fun t => k (.fv c :: t) := rfl
theorem sf0 (x : IV) (l : List IV) (cs : List FV) (k : List IV → Option β) : setFK (x :: l) 0 cs k = wrK cs (x :: l) k := rfl
theorem sf1 (x : IV) (l : List IV) (cs : List FV) (k : List IV → Option β) : setFK (x :: l) 1 cs k = setFK l 0 cs fun t => k (x :: t) := rfl
theorem sf2 (x y : IV) (l : List IV) (cs : List FV) (k : List IV → Option β) : setFK (x :: y :: l) 2 cs k = setFK l 0 cs fun t => k (x :: y :: t) := rfl
theorem sf3 (x y z : IV) (l : List IV) (cs : List FV) (k : List IV → Option β) : setFK (x :: y :: z :: l) 3 cs k = setFK l 0 cs fun t => k (x :: y :: z :: t) := rfl
theorem sf4 (x y z u : IV) (l : List IV) (cs : List FV) (k : List IV → Option β) : setFK (x :: y :: z :: u :: l) 4 cs k = setFK l 0 cs fun t => k (x :: y :: z :: u :: t) := rfl
theorem of0 (x b : IV) (l : List IV) (k : List IV → Option β) : offK (x :: l) 0 b k = k (b :: l) := rfl
theorem of1 (x y b : IV) (l : List IV) (k : List IV → Option β) : offK (x :: y :: l) 1 b k = k (x :: b :: l) := rfl
theorem of2 (x y z b : IV) (l : List IV) (k : List IV → Option β) : offK (x :: y :: z :: l) 2 b k = k (x :: y :: b :: l) := rfl
theorem of3 (x y z u b : IV) (l : List IV) (k : List IV → Option β) : offK (x :: y :: z :: u :: l) 3 b k = k (x :: y :: z :: b :: l) := rfl
theorem of6 (x y z u v w s b : IV) (l : List IV) (k : List IV → Option β) : offK (x :: y :: z :: u :: v :: w :: s :: l) 6 b k = k (x :: y :: z :: u :: v :: w :: b :: l) := rfl
theorem sA_f (size : Nat) (a : IV) (cs : List FV) (h : Hp) (k : Hp → List Ref → List Ref → Option β) : storeA size a (.fv (.agg cs)) h k =
    asPtr a (fun r o => getK r h fun b => asFree b fun cells => cond (and (Nat.beq cs.length size) (allOneF cs)) (setFK cells o cs fun cells => layK r (.row cells false) h fun h => k h [r] [r]) none) fun _ _ => none := rfl
theorem ml_own (s : Nat) (x : IV) : mayLie (.own s) x = true := rfl
/-- Three live cells. -/
theorem sA_3 (s : Nat) (a b c : IV) (ha : a.one = true) (hb : b.one = true) (hc : c.one = true) (own : List (Nat × Blk)) (ext : List Blk) (k : Hp → List Ref → List Ref → Option β) :
    storeA 3 (.ptr (.own s) 0) (.agg [a, b, c]) ⟨own, ext⟩ k = ownK own s fun bl => asFree bl fun cells => cond (Nat.ble 3 cells.length) (layK (.own s) (.row (setCells cells 0 [a, b, c]) false) ⟨own, ext⟩ fun h => k h [.own s] [.own s]) none := by
  show ownK own s (fun bl => asFree bl fun cells => if IV.alive (.agg [a, b, c]) = true ∧ (IV.cells (.agg [a, b, c])).length = 3 ∧ 0 + 3 ≤ cells.length ∧ (IV.cells (.agg [a, b, c])).all IV.one = true ∧ mayLie (.own s) (.agg [a, b, c]) = true then
    spK (setCells cells 0 (IV.cells (.agg [a, b, c]))) fun cells => layK (.own s) (.row cells false) ⟨own, ext⟩ fun h => k h [.own s] [.own s] else none) = _
  congr 1
  funext bl
  congr 1
  funext cells
  by_cases h3 : 3 ≤ cells.length
  · rw [if_pos ⟨rfl, rfl, by omega, by simp [IV.cells, ha, hb, hc], rfl⟩, spK_eq, ble_dec, decide_eq_true h3]
    rfl
  · rw [if_neg (fun h => h3 (by omega)), ble_dec, decide_eq_false h3]
    rfl
theorem sc3 (a b c x y z : IV) : setCells [x, y, z] 0 [a, b, c] = [a, b, c] := rfl
theorem s1_e (a x : IV) (h : Hp) (k : Hp → List Ref → List Ref → Option β) : store1 a x h k =
    cond x.one (asPtr a (fun r o => getK r h fun b => asFree b fun cells => cond (mayLie r x) (offK cells o x fun cells => layK r (.row cells false) h fun h => k h [r] [r]) none) fun _ _ => none) (storeA 1 a x h k) := rfl
theorem fa_p (o : Nat) (r : Ref) (k : IV → Option β) : faddrS o (.ptr r 0) k = k (.ptr r o) := by rw [x_faddr, Nat.zero_add]
theorem fa_f (o : Nat) (cs : List FV) (k : IV → Option β) : faddrS o (.fv (.fp cs 0)) k = k (.fv (.fp cs o)) := by rw [x_faddr_f, Nat.zero_add]
theorem nil_p (r : Ref) (o : Nat) (k : IV → Option β) : nilS (.ptr r o) k = k (.ptr r o) := rfl
theorem nil_f (cs : List FV) (o : Nat) (k : IV → Option β) : nilS (.fv (.fp cs o)) k = k (.fv (.fp cs o)) := rfl
theorem nil_func (g : FuncId) (a b : List FV) (k : IV → Option β) : nilS (.fv (.func (.func g) a b)) k = k (.fv (.func (.func g) a b)) := rfl
theorem ex_t (ix : Nat) (vs : List IV) (k : IV → Option β) : extS ix (.tuple vs) k = nthK vs ix k := rfl
theorem ex_f (ix : Nat) (vs : List FV) (k : IV → Option β) : extS ix (.fv (.tuple vs)) k = nthK vs ix fun v => k (.fv v) := rfl
theorem f1_e (o : Nat) (x : IV) (k : IV → Option β) : fld1 o x k = asAgg x (fun cs => nthK cs o k) fun cs => nthK cs o fun v => k (.fv v) := rfl
theorem fA_e (size o : Nat) (x : IV) (k : IV → Option β) : fldA size o x k = asAgg x (fun cs => drpK cs o fun cs => takK cs size fun cs => aggK cs k) fun cs => drpK cs o fun cs => takK cs size fun cs => k (.fv (.agg cs)) := rfl
/-! Composites. -/
theorem bld_e (z : List IV) (pl : List (Nat × Nat × IV)) (k : IV → Option β) : bldS z pl k = fillK z pl fun cells => aggK cells k := rfl
theorem fk0 (z : List IV) (k : List IV → Option β) : fillK z [] k = k z := rfl
theorem fk1 (z : List IV) (o sz : Nat) (v : IV) (pl : List (Nat × Nat × IV)) (k : List IV → Option β) : fillK z ((o, sz, v) :: pl) k = fillP z o sz v fun z => fillK z pl k := rfl
theorem fp_one {v : IV} (hv : v.one = true) (z : List IV) (o : Nat) (k : List IV → Option β) : fillP z o 1 v k = offK z o v k := by
  unfold fillP
  cases v with
  | fv w =>
    show cond (oneF w) _ _ = _
    have : oneF w = true := by cases w <;> first | rfl | cases hv
    rw [this]; rfl
  | _ => show fillG _ _ _ _ _ = _; unfold fillG; rw [hv]; rfl
theorem fp_agg (z : List IV) (o sz : Nat) (cs : List FV) (k : List IV → Option β) : fillP z o sz (.fv (.agg cs)) k = cond (Nat.beq cs.length sz) (setFK z o cs k) none := rfl
theorem nb3 (a b c : FV) : Nat.beq [a, b, c].length 3 = true := rfl
theorem nb4 (a b c d : FV) : Nat.beq [a, b, c, d].length 4 = true := rfl
theorem nb7 (a b c d e f g : FV) : Nat.beq [a, b, c, d, e, f, g].length 7 = true := rfl
theorem nl3 (a b c : IV) : Nat.ble 3 [a, b, c].length = true := rfl
theorem and_tt : (and true true) = true := rfl
end
end Idl
end Go.Proofs.Ytdibmackcbpniaa
namespace Go.Proofs.Ytdibmackcbpniaa
namespace Idl

section
variable {β : Type} {E : Env} {t : TypeId}
/-! Numbers. -/
theorem iv_e (n : Int) : IV.fv (.int .i64 n) = iv n := rfl
/-- 64 bits. -/
def w64 (n : Int) : Int := IntKind.i64.wrap n
theorem w64_id {n : Int} (h1 : -9223372036854775808 ≤ n) (h2 : n ≤ 9223372036854775807) : w64 n = n := by
  show (if (true && decide ((n % (18446744073709551616 : Int)) ≥ (9223372036854775808 : Int))) = true then (n % (18446744073709551616 : Int)) - (18446744073709551616 : Int) else (n % (18446744073709551616 : Int))) = n
  by_cases h : 0 ≤ n
  · have e : n % (18446744073709551616 : Int) = n := by omega
    have e2 : ¬ n ≥ (9223372036854775808 : Int) := by omega
    rw [e, decide_eq_false e2]
    rfl
  · have e : n % (18446744073709551616 : Int) = n + 18446744073709551616 := by omega
    have e2 : n + 18446744073709551616 ≥ (9223372036854775808 : Int) := by omega
    rw [e, decide_eq_true e2]
    simp
theorem w64_range (n : Int) : -9223372036854775808 ≤ w64 n ∧ w64 n ≤ 9223372036854775807 := by
  show -9223372036854775808 ≤ (if (true && decide ((n % (18446744073709551616 : Int)) ≥ (9223372036854775808 : Int))) = true then (n % (18446744073709551616 : Int)) - (18446744073709551616 : Int) else (n % (18446744073709551616 : Int))) ∧
    (if (true && decide ((n % (18446744073709551616 : Int)) ≥ (9223372036854775808 : Int))) = true then (n % (18446744073709551616 : Int)) - (18446744073709551616 : Int) else (n % (18446744073709551616 : Int))) ≤ 9223372036854775807
  by_cases h : n % (18446744073709551616 : Int) ≥ (9223372036854775808 : Int)
  · rw [decide_eq_true h]
    simp only [Bool.and_self, if_true]
    omega
  · rw [decide_eq_false h]
    simp only [Bool.and_false, Bool.false_eq_true, if_false]
    omega
theorem add_s (a b : Int) (k : IV → Option β) : addS E t (iv a) (iv b) k = k (iv (w64 (a + b))) := by
  have hg : binS E t .add (iv a) (iv b) k = k (iv (w64 (a + b))) := by
    rw [binS, optS_eq]; rfl
  cases a with
  | negSucc a => exact hg
  | ofNat a => cases b with
    | negSucc b => exact hg
    | ofNat b =>
      show cond (Nat.ble (a + b) 9223372036854775807) (intK (a + b) k) _ = _
      rw [ble_dec]
      by_cases h : a + b ≤ 9223372036854775807
      · rw [decide_eq_true h]
        show intK (a + b) k = _
        rw [intK_eq]
        have : w64 (Int.ofNat a + Int.ofNat b) = ((a + b : Nat) : Int) := by
          rw [w64_id (by simp only [Int.ofNat_eq_natCast]; omega) (by simp only [Int.ofNat_eq_natCast]; omega)]
          simp only [Int.ofNat_eq_natCast]; omega
        rw [this]
      · rw [decide_eq_false h]
        exact hg
theorem sub_s (a b : Int) (k : IV → Option β) : subS E t (iv a) (iv b) k = k (iv (w64 (a - b))) := by
  have hg : binS E t .sub (iv a) (iv b) k = k (iv (w64 (a - b))) := by
    rw [binS, optS_eq]; rfl
  cases a with
  | negSucc a => exact hg
  | ofNat a => cases b with
    | negSucc b => exact hg
    | ofNat b =>
      show cond (and (Nat.ble b a) (Nat.ble a 9223372036854775807)) (intK (a - b) k) _ = _
      rw [ble_dec, ble_dec]
      by_cases h : b ≤ a ∧ a ≤ 9223372036854775807
      · rw [decide_eq_true h.1, decide_eq_true h.2]
        show intK (a - b) k = _
        rw [intK_eq]
        have : w64 (Int.ofNat a - Int.ofNat b) = ((a - b : Nat) : Int) := by
          rw [w64_id (by simp only [Int.ofNat_eq_natCast]; omega) (by simp only [Int.ofNat_eq_natCast]; omega)]
          simp only [Int.ofNat_eq_natCast]; omega
        rw [this]
      · have : (decide (b ≤ a) && decide (a ≤ 9223372036854775807)) = false := by
          rw [← Bool.decide_and]; exact decide_eq_false h
        rw [show and (decide (b ≤ a)) (decide (a ≤ 9223372036854775807)) = false from this]
        exact hg
theorem mul_s (a b : Int) (k : IV → Option β) : binS E t .mul (iv a) (iv b) k = k (iv (w64 (a * b))) := by
  rw [binS, optS_eq]; rfl
theorem quo_s {b : Int} (hb : b ≠ 0) (a : Int) (k : IV → Option β) : binS E t .quo (iv a) (iv b) k = k (iv (w64 (a.tdiv b))) := by
  rw [binS, optS_eq]
  have : binR E .quo t (iv a) (iv b) = some (iv (w64 (a.tdiv b))) := by
    show (pureVal (Op.intDiv .quo .i64 a b)).bind ofScal = _
    simp only [Op.intDiv, hb, if_false]
    rfl
  rw [this]; rfl
theorem rem_s {b : Int} (hb : b ≠ 0) (a : Int) (k : IV → Option β) : binS E t .rem (iv a) (iv b) k = k (iv (a.tmod b)) := by
  rw [binS, optS_eq]
  have : binR E .rem t (iv a) (iv b) = some (iv (a.tmod b)) := by
    show (pureVal (Op.intDiv .rem .i64 a b)).bind ofScal = _
    simp only [Op.intDiv, hb, if_false]
    rfl
  rw [this]; rfl
theorem eq_s (a b : Int) (k : IV → Option β) : eqS E t (iv a) (iv b) k = k (.fv (.bool (decide (a = b)))) := x_eqI a b k
theorem ne_s (a b : Int) (k : IV → Option β) : neS E t (iv a) (iv b) k = k (.fv (.bool (!decide (a = b)))) := x_neI a b k
theorem lt_s (a b : Int) (k : IV → Option β) : ltS E t (iv a) (iv b) k = k (.fv (.bool (decide (a < b)))) := x_ltI a b k
theorem le_s (a b : Int) (k : IV → Option β) : leS E t (iv a) (iv b) k = k (.fv (.bool (decide (a ≤ b)))) := x_leI a b k
theorem gt_s (a b : Int) (k : IV → Option β) : gtS E t (iv a) (iv b) k = k (.fv (.bool (decide (b < a)))) := by
  rw [gtS, x_cmpI (fun a b => by
    show some (IV.fv (.bool (decide ((a : Int) > (b : Int))))) = _
    rw [ble_dec]
    congr 3
    exact decide_eq_decide.2 (by omega))]
  rfl
theorem ge_s (a b : Int) (k : IV → Option β) : geS E t (iv a) (iv b) k = k (.fv (.bool (decide (b ≤ a)))) := by
  rw [geS, x_cmpI (fun a b => by
    show some (IV.fv (.bool (decide ((a : Int) ≥ (b : Int))))) = _
    rw [ble_dec]
    congr 3
    exact decide_eq_decide.2 (by omega))]
  rfl
theorem eq_sb (a b : Bool) (hT : E.T t = some ⟨1, 1, .bool, [.fv (.bool false)]⟩) (k : IV → Option β) : eqS E t (.fv (.bool a)) (.fv (.bool b)) k = k (.fv (.bool (a == b))) := by
  show binS E t .eql _ _ k = _
  rw [binS, optS_eq]
  have : binR E .eql t (.fv (.bool a)) (.fv (.bool b)) = some (.fv (.bool (a == b))) := by
    simp only [binR, hT, eqOp]
  rw [this]; rfl
theorem not_s (b : Bool) (k : IV → Option β) : optS (unR .not (.fv (.bool b))) k = k (.fv (.bool !b)) := x_not b k
/-! Choices. -/
theorem cd_t (a b : Option β) : condS (.fv (.bool true)) a b = a := rfl
theorem cd_f (a b : Option β) : condS (.fv (.bool false)) a b = b := rfl
theorem cd_d (c : Prop) [Decidable c] (a b : Option β) : condS (.fv (.bool (decide c))) a b = if c then a else b := x_cond c a b
theorem cd_n (c : Prop) [Decidable c] (a b : Option β) : condS (.fv (.bool (!decide c))) a b = if c then b else a := by
  by_cases h : c
  · rw [decide_eq_true h, if_pos h]; rfl
  · rw [decide_eq_false h, if_neg h]; rfl
theorem cd_b (c : Bool) (a b : Option β) : condS (.fv (.bool c)) a b = if c = true then a else b := by
  cases c <;> rfl
theorem pk_e (c a b : IV) (k : IV → Option β) : pickS c a b k = condS c (k a) (k b) := rfl
theorem gd_mt {b : Bool} (hb : b = true) (h : Hp) (m : (IV → Hp → List Ref → List Ref → Option β) → Option β) (k : IV → Hp → List Ref → List Ref → Option β) : guardS (.fv (.bool b)) true h m k = m k := by rw [hb]; rfl
theorem gd_mf {b : Bool} (hb : b = false) (h : Hp) (m : (IV → Hp → List Ref → List Ref → Option β) → Option β) (k : IV → Hp → List Ref → List Ref → Option β) : guardS (.fv (.bool b)) false h m k = m k := by rw [hb]; rfl
theorem gd_sf {b : Bool} (hb : b = true) (h : Hp) (m : (IV → Hp → List Ref → List Ref → Option β) → Option β) (k : IV → Hp → List Ref → List Ref → Option β) : guardS (.fv (.bool b)) false h m k = k undefV h [] [] := by rw [hb]; rfl
theorem gd_st {b : Bool} (hb : b = false) (h : Hp) (m : (IV → Hp → List Ref → List Ref → Option β) → Option β) (k : IV → Hp → List Ref → List Ref → Option β) : guardS (.fv (.bool b)) true h m k = k undefV h [] [] := by rw [hb]; rfl
theorem gd_u (w : Bool) (h : Hp) (m : (IV → Hp → List Ref → List Ref → Option β) → Option β) (k : IV → Hp → List Ref → List Ref → Option β) : guardS undefV w h m k = k undefV h [] [] := rfl
/-! What is not ordered. -/
theorem ch0 (rd wr : List Ref) (a : Option β) : chkS [] rd wr a = a := rfl
theorem ch1 (q1 q2 : List Ref) (l : List (List Ref × List Ref)) (rd wr : List Ref) (a : Option β) : chkS ((q1, q2) :: l) rd wr a = cond (djB q2 rd) (cond (djB q2 wr) (cond (djB wr q1) (chkS l rd wr a) none) none) none := rfl
theorem dj0 (b : List Ref) : djB [] b = true := rfl
theorem djn : ∀ (a : List Ref), djB a [] = true
  | [] => rfl
  | _ :: a => djn a
theorem dj1 (r : Ref) (a b : List Ref) : djB (r :: a) b = cond (allNe r b) (djB a b) false := rfl
theorem an0 (r : Ref) : allNe r [] = true := rfl
theorem an1 (r s : Ref) (l : List Ref) : allNe r (s :: l) = cond (refNe r s) (allNe r l) false := rfl
theorem rn_o {i j : Nat} (h : (i == j) = false) : refNe (.own i) (.own j) = true := by
  show not (Nat.beq i j) = true
  rw [show Nat.beq i j = false from N_bf h]; rfl
theorem rn_oe (i j : Nat) : refNe (.own i) (.ext j) = true := rfl
theorem rn_eo (i j : Nat) : refNe (.ext i) (.own j) = true := rfl
theorem out1 (v : IV) (h : Hp) : outS1 [v] h = some (v, h) := rfl
theorem out0 (h : Hp) : outS1 [] h = some (.fv (.tuple []), h) := rfl
theorem out2 (a b : IV) (h : Hp) : outS1 [a, b] h = tupK [a, b] fun v => some (v, h) := rfl
theorem out3 (a b c : IV) (h : Hp) : outS1 [a, b, c] h = tupK [a, b, c] fun v => some (v, h) := rfl
theorem out4 (a b c d : IV) (h : Hp) : outS1 [a, b, c, d] h = tupK [a, b, c, d] fun v => some (v, h) := rfl
/-! Slices that are not written. -/
theorem len_f (es : List FV) (k : IV → Option β) : lenS (.fv (.sl es)) k = k (iv es.length) := intK_eq ..
theorem len_0 (k : IV → Option β) : lenS .nils k = k (iv 0) := rfl
theorem len_c (es : List FV) (k : IV → Option β) : lenS (.clip es) k = k (iv es.length) := intK_eq ..
theorem len_a (r : Ref) (es : List FV) (k : IV → Option β) : lenS (.app r es) k = k (iv es.length) := intK_eq ..
theorem len_s (r : Ref) (sz n : Nat) (k : IV → Option β) : lenS (.slc r sz n) k = k (iv n) := intK_eq ..
theorem ix_f {size : Nat} {es : List FV} {n : Nat} {el : FV} (he : es[n]? = some el) (hl : el.cells.length = size) (k : IV → Option β) : ixS size (.fv (.sl es)) (iv n) k = k (.fv (.fp el.cells 0)) := x_ix he hl k
theorem ix_a {size : Nat} {r : Ref} {es : List FV} {n : Nat} {el : FV} (he : es[n]? = some el) (hl : el.cells.length = size) (k : IV → Option β) : ixS size (.app r es) (iv n) k = k (.fv (.fp el.cells 0)) := x_ix he hl k
theorem ix_c {size : Nat} {es : List FV} {n : Nat} {el : FV} (he : es[n]? = some el) (hl : el.cells.length = size) (k : IV → Option β) : ixS size (.clip es) (iv n) k = k (.fv (.fp el.cells 0)) := x_ix he hl k
theorem ix_s {size sz len : Nat} {r : Ref} {n : Nat} (hn : n < len) (hs : sz = size) (k : IV → Option β) : ixS size (.slc r sz len) (iv n) k = k (.ptr r (n * sz)) := by
  show cond (and (Nat.ble (Nat.succ n) len) (Nat.beq sz size)) (fNat (n * sz) fun o => k (.ptr r o)) none = _
  rw [ble_dec, decide_eq_true (show Nat.succ n ≤ len from hn), hs, show Nat.beq size size = true from Nat.beq_refl size]
  simp only [Bool.and_self, cond_true]
  rw [fNat_eq]
theorem ix0_agg (size : Nat) (cs : List FV) (es : List FV) (hl : cs.length = size) (k : IV → Option β) : ixS size (.fv (.sl (.agg cs :: es))) (iv 0) k = k (.fv (.fp cs 0)) := ix_f (el := .agg cs) (n := 0) rfl hl k
theorem ix1_agg (size : Nat) (cs : List FV) (e : FV) (es : List FV) (hl : cs.length = size) (k : IV → Option β) : ixS size (.fv (.sl (e :: .agg cs :: es))) (iv 1) k = k (.fv (.fp cs 0)) := ix_f (el := .agg cs) (n := 1) rfl hl k
theorem ix2_agg (size : Nat) (cs : List FV) (e e' : FV) (es : List FV) (hl : cs.length = size) (k : IV → Option β) : ixS size (.fv (.sl (e :: e' :: .agg cs :: es))) (iv 2) k = k (.fv (.fp cs 0)) := ix_f (el := .agg cs) (n := 2) rfl hl k
theorem ix3_agg (size : Nat) (cs : List FV) (e e' e'' : FV) (es : List FV) (hl : cs.length = size) (k : IV → Option β) : ixS size (.fv (.sl (e :: e' :: e'' :: .agg cs :: es))) (iv 3) k = k (.fv (.fp cs 0)) := ix_f (el := .agg cs) (n := 3) rfl hl k

/-! Freezing; calls. -/
/-- A value of these blocks, frozen. -/
def Fz (v : IV) (own : List (Nat × Blk)) (w : FV) : Prop := ∃ u lg, ∀ (e : Option (IV × Hp)) (K : FV → List (Ref × Blk) → List Ref → Option (IV × Hp)), fzU 12 v ⟨own, []⟩ [] e K = K w u lg
/-- What a call answers. -/
def Ans (r : Option (IV × Hp)) (w : FV) : Prop := ∃ v own, r = some (v, ⟨own, []⟩) ∧
  (Fz v own w ∨ ((∀ (e : Option (IV × Hp)) (K : FV → List (Ref × Blk) → List Ref → Option (IV × Hp)), fzU 12 v ⟨own, []⟩ [] e K = e) ∧ ∃ u, (frz 4096 v).run ⟨own, []⟩ = some (w, u)))
/-- Likewise, of a value that is no tuple. -/
def AnsF (r : Option (IV × Hp)) (w : FV) : Prop := ∃ v own, r = some (v, ⟨own, []⟩) ∧ Fz v own w
theorem fz_fv (w : FV) (own : List (Nat × Blk)) : Fz (.fv w) own w := ⟨[], [], fun _ _ => rfl⟩
theorem ans_fv (w : FV) (own : List (Nat × Blk)) : Ans (some (.fv w, ⟨own, []⟩)) w := ⟨_, own, rfl, .inl (fz_fv w own)⟩
/-- What freezes without a look at blocks. -/
def frz1 : IV → Option FV
  | .fv v => some v
  | .nils => some (.sl [])
  | .emp => some (.sl [])
  | .clip es => some (.sl es)
  | .app _ es => some (.sl es)
  | _ => none
def frz1L : List IV → Option (List FV)
  | [] => some []
  | v :: l => (frz1 v).bind fun x => (frz1L l).map fun xs => x :: xs
def frzP (v : IV) : Option FV := match v with
  | .agg cs => if cs.length ≤ 8 then (frz1L cs).map .agg else none
  | v => frz1 v
def frzPL : List IV → Option (List FV)
  | [] => some []
  | v :: l => (frzP v).bind fun x => (frzPL l).map fun xs => x :: xs
theorem zp_fv (v : FV) : frzP (.fv v) = some v := rfl
theorem zp_nils : frzP .nils = some (.sl []) := rfl
theorem zp_emp : frzP .emp = some (.sl []) := rfl
theorem zp_clip (es : List FV) : frzP (.clip es) = some (.sl es) := rfl
theorem zp_app (r : Ref) (es : List FV) : frzP (.app r es) = some (.sl es) := rfl
theorem zq_fv (v : FV) : frz1 (.fv v) = some v := rfl
theorem zq_nils : frz1 .nils = some (.sl []) := rfl
theorem zq_emp : frz1 .emp = some (.sl []) := rfl
theorem zq_clip (es : List FV) : frz1 (.clip es) = some (.sl es) := rfl
theorem zq_app (r : Ref) (es : List FV) : frz1 (.app r es) = some (.sl es) := rfl
theorem zp_3 {a b c : IV} {x y z : FV} (ha : frz1 a = some x) (hb : frz1 b = some y) (hc : frz1 c = some z) : frzP (.agg [a, b, c]) = some (.agg [x, y, z]) := by
  show (if 3 ≤ 8 then (frz1L [a, b, c]).map FV.agg else none) = _
  simp [frz1L, ha, hb, hc]
theorem zp_4 {a b c d : IV} {x y z u : FV} (ha : frz1 a = some x) (hb : frz1 b = some y) (hc : frz1 c = some z) (hd : frz1 d = some u) : frzP (.agg [a, b, c, d]) = some (.agg [x, y, z, u]) := by
  show (if 4 ≤ 8 then (frz1L [a, b, c, d]).map FV.agg else none) = _
  simp [frz1L, ha, hb, hc, hd]
theorem fz1_u {v : IV} {x : FV} (d : Nat) (h : Hp) (lg : List Ref) (e : Option β) (k : FV → List (Ref × Blk) → List Ref → Option β) (hz : frz1 v = some x) : fzU (d + 1) v h lg e k = k x [] lg := by
  cases v <;> first | (cases hz; rfl) | (cases hz)
theorem fz1_l (d : Nat) (h : Hp) (lg : List Ref) (e : Option β) : ∀ (cs : List IV) (k : List FV → List (Ref × Blk) → List Ref → Option β) {xs : List FV}, frz1L cs = some xs → fzLK (fzU (d + 1)) cs h lg e k = k xs [] lg
  | [], k, xs, hz => by cases hz; rfl
  | v :: cs, k, xs, hz => by
    simp only [frz1L] at hz
    cases h1 : frz1 v with
    | none => rw [h1] at hz; cases hz
    | some x =>
      rw [h1] at hz
      cases h2 : frz1L cs with
      | none => rw [h2] at hz; cases hz
      | some ys =>
        rw [h2] at hz
        cases hz
        show fzU (d + 1) v h lg e (fun y u lg => fzLK (fzU (d + 1)) cs h lg e fun ys us lg => apK u us fun w => k (y :: ys) w lg) = _
        rw [fz1_u d h lg e _ h1, fz1_l d h lg e cs _ h2]
        rfl
theorem fzp_u {v : IV} {x : FV} (h : Hp) (lg : List Ref) (e : Option β) (k : FV → List (Ref × Blk) → List Ref → Option β) (hz : frzP v = some x) : fzU 12 v h lg e k = k x [] lg := by
  cases v with
  | agg cs =>
    simp only [frzP] at hz
    split at hz
    · rename_i hl
      cases h2 : frz1L cs with
      | none => rw [h2] at hz; cases hz
      | some ys =>
        rw [h2] at hz
        cases hz
        show cond (Nat.ble cs.length 300) (fzLK (fzU 11) cs h lg e fun cs u lg => k (.agg cs) u lg) e = _
        rw [ble_dec, decide_eq_true (show cs.length ≤ 300 by omega)]
        exact fz1_l 10 h lg e cs _ h2
    · cases hz
  | _ => exact fz1_u 11 h lg e k hz
theorem fz_p {v : IV} {x : FV} (hz : frzP v = some x) (own : List (Nat × Blk)) : Fz v own x := ⟨[], [], fun e K => fzp_u _ _ e K hz⟩
theorem ans_p {v : IV} {x : FV} (hz : frzP v = some x) (own : List (Nat × Blk)) : Ans (some (v, ⟨own, []⟩)) x := ⟨v, own, rfl, .inl (fz_p hz own)⟩
theorem fr1 {v : IV} {x : FV} (n : Nat) (hz : frz1 v = some x) : frz (n + 1) v = .ret (x, []) := by
  cases v <;> first | (cases hz; rfl) | (cases hz)
theorem fr1_l : ∀ (cs : List IV) (n : Nat) {xs : List FV}, cs.length + 1 < n → frz1L cs = some xs → frzL n cs = .ret (xs, [])
  | [], n + 1, xs, _, hz => by cases hz; rfl
  | v :: cs, n + 2, xs, hn, hz => by
    simp only [frz1L] at hz
    cases h1 : frz1 v with
    | none => rw [h1] at hz; cases hz
    | some x =>
      rw [h1] at hz
      cases h2 : frz1L cs with
      | none => rw [h2] at hz; cases hz
      | some ys =>
        rw [h2] at hz
        cases hz
        simp only [List.length_cons] at hn
        simp only [frzL, fr1 n h1, Rd.bind, fr1_l cs (n + 1) (by omega) h2]
        rfl
theorem frp {v : IV} {x : FV} (n : Nat) (hn : 20 < n) (hz : frzP v = some x) : frz n v = .ret (x, []) := by
  cases n with
  | zero => omega
  | succ n =>
    cases v with
    | agg cs =>
      simp only [frzP] at hz
      split at hz
      · rename_i hl
        cases h2 : frz1L cs with
        | none => rw [h2] at hz; cases hz
        | some ys =>
          rw [h2] at hz
          cases hz
          simp only [frz, fr1_l cs n (by omega) h2, Rd.bind]
      · cases hz
    | _ => exact fr1 n hz
theorem frp_l : ∀ (cs : List IV) (n : Nat) {xs : List FV}, cs.length + 30 < n → frzPL cs = some xs → frzL n cs = .ret (xs, [])
  | [], n + 1, xs, _, hz => by cases hz; rfl
  | v :: cs, n + 1, xs, hn, hz => by
    simp only [frzPL] at hz
    cases h1 : frzP v with
    | none => rw [h1] at hz; cases hz
    | some x =>
      rw [h1] at hz
      cases h2 : frzPL cs with
      | none => rw [h2] at hz; cases hz
      | some ys =>
        rw [h2] at hz
        cases hz
        simp only [List.length_cons] at hn
        simp only [frzL, frp n (by omega) h1, Rd.bind, frp_l cs n (by omega) h2]
        rfl
/-- A tuple of such is answered. -/
theorem ans_t {vs : List IV} {xs : List FV} (hz : frzPL vs = some xs) (hl : vs.length ≤ 100) (own : List (Nat × Blk)) : Ans (some (.tuple vs, ⟨own, []⟩)) (.tuple xs) :=
  ⟨_, own, rfl, .inr ⟨fun _ _ => rfl, [], by
    show (frz (4095 + 1) (.tuple vs)).run _ = _
    simp only [frz, frp_l vs 4095 (by omega) hz, Rd.bind]
    rfl⟩⟩
theorem zl_nil : frzPL [] = some [] := rfl
theorem zl_2 {a b : IV} {x y : FV} (ha : frzP a = some x) (hb : frzP b = some y) : frzPL [a, b] = some [x, y] := by simp [frzPL, ha, hb]
theorem zl_3 {a b c : IV} {x y z : FV} (ha : frzP a = some x) (hb : frzP b = some y) (hc : frzP c = some z) : frzPL [a, b, c] = some [x, y, z] := by simp [frzPL, ha, hb, hc]
theorem zl_4 {a b c d : IV} {x y z u : FV} (ha : frzP a = some x) (hb : frzP b = some y) (hc : frzP c = some z) (hd : frzP d = some u) : frzPL [a, b, c, d] = some [x, y, z, u] := by simp [frzPL, ha, hb, hc, hd]
theorem zl_1 {a : IV} {x : FV} (ha : frzP a = some x) : frzPL [a] = some [x] := by simp [frzPL, ha]
theorem frz_args : ∀ (args : List IV) {vs : List FV}, frzPL args = some vs → frzArgs [] args = .ret (vs.map .fv, [], [])
  | [], vs, hz => by cases hz; rfl
  | v :: l, vs, hz => by
    simp only [frzPL] at hz
    cases h1 : frzP v with
    | none => rw [h1] at hz; cases hz
    | some x =>
      rw [h1] at hz
      cases h2 : frzPL l with
      | none => rw [h2] at hz; cases hz
      | some ys =>
        rw [h2] at hz
        cases hz
        simp only [frzArgs, frp 4096 (by omega) h1, Rd.bind, frz_args l h2]
        rfl
theorem fz0 (keep : List Bool) (h : Hp) (lg : List Ref) (e : Option β) (k : List IV → List Ref → List (Ref × Blk) → List Ref → Option β) : fzA [] keep h lg e k = k [] [] [] lg := rfl
theorem fz1 (x : IV) (l : List IV) (h : Hp) (lg : List Ref) (e : Option β) (k : List IV → List Ref → List (Ref × Blk) → List Ref → Option β) :
    fzA (x :: l) [] h lg e k = fzU 12 x h lg e fun y u lg => fzA l [] h lg e fun vs rs us lg => apK u us fun w => k (.fv y :: vs) rs w lg := rfl
theorem fz1k (x : IV) (l : List IV) (ks : List Bool) (h : Hp) (lg : List Ref) (e : Option β) (k : List IV → List Ref → List (Ref × Blk) → List Ref → Option β) :
    fzA (x :: l) (true :: ks) h lg e k = asPtr x (fun r o => fzA l ks h lg e fun vs rs us lg => k (.ptr r o :: vs) (r :: rs) us lg) fun _ _ => e := rfl
theorem fz1f (x : IV) (l : List IV) (ks : List Bool) (h : Hp) (lg : List Ref) (e : Option β) (k : List IV → List Ref → List (Ref × Blk) → List Ref → Option β) :
    fzA (x :: l) (false :: ks) h lg e k = fzU 12 x h lg e fun y u lg => fzA l ks h lg e fun vs rs us lg => apK u us fun w => k (.fv y :: vs) rs w lg := rfl
section
variable (d : Nat) (h : Hp) (lg : List Ref) (e : Option β) (k : FV → List (Ref × Blk) → List Ref → Option β)
theorem fu_fv (v : FV) : fzU 12 (.fv v) h lg e k = k v [] lg := rfl
theorem fu_nils : fzU 12 .nils h lg e k = k (.sl []) [] lg := rfl
theorem fu_emp : fzU 12 .emp h lg e k = k (.sl []) [] lg := rfl
theorem fu_clip (es : List FV) : fzU 12 (.clip es) h lg e k = k (.sl es) [] lg := rfl
theorem fu_app (r : Ref) (es : List FV) : fzU 12 (.app r es) h lg e k = k (.sl es) [] lg := rfl
theorem fu_agg (cs : List IV) : fzU 12 (.agg cs) h lg e k = cond (Nat.ble cs.length 300) (fzLK (fzU 11) cs h lg e fun cs u lg => k (.agg cs) u lg) e := rfl
theorem fu_ptr (s : Nat) (off : Nat) : fzU 12 (.ptr (.own s) off) h lg e k = getK (.own s) h fun b => asRow b fun cells => cond (Nat.ble cells.length 300) (fzLK (fzU 11) cells h (.own s :: lg) e fun cs u lg => k (.fp cs off) ((.own s, .row cells true) :: u) lg) e := rfl
theorem fu_slc (s sz len : Nat) : fzU 12 (.slc (.own s) sz len) h lg e k = getK (.own s) h fun b => asRow b fun cells => cond (Nat.ble cells.length 300) (cond (or (Nat.beq sz 0) (not (Nat.ble (len * sz) cells.length))) none
        (fzLK (fzU 11) cells h (.own s :: lg) e fun cs u lg => chK sz len cs fun els => k (.sl els) ((.own s, .row cells true) :: u) lg)) e := rfl
theorem fv_fv (v : FV) : fzU 11 (.fv v) h lg e k = k v [] lg := rfl
theorem fv_nils : fzU 11 .nils h lg e k = k (.sl []) [] lg := rfl
theorem fv_emp : fzU 11 .emp h lg e k = k (.sl []) [] lg := rfl
theorem fv_clip (es : List FV) : fzU 11 (.clip es) h lg e k = k (.sl es) [] lg := rfl
theorem fv_app (r : Ref) (es : List FV) : fzU 11 (.app r es) h lg e k = k (.sl es) [] lg := rfl
theorem fv_agg (cs : List IV) : fzU 11 (.agg cs) h lg e k = cond (Nat.ble cs.length 300) (fzLK (fzU 10) cs h lg e fun cs u lg => k (.agg cs) u lg) e := rfl
theorem fw_fv (v : FV) : fzU 10 (.fv v) h lg e k = k v [] lg := rfl
theorem fw_nils : fzU 10 .nils h lg e k = k (.sl []) [] lg := rfl
theorem fw_emp : fzU 10 .emp h lg e k = k (.sl []) [] lg := rfl
theorem fw_clip (es : List FV) : fzU 10 (.clip es) h lg e k = k (.sl es) [] lg := rfl
theorem fw_app (r : Ref) (es : List FV) : fzU 10 (.app r es) h lg e k = k (.sl es) [] lg := rfl
theorem fu_tup (cs : List IV) : fzU 12 (.tuple cs) h lg e k = e := rfl
theorem fl0 (g : FzK β) (k : List FV → List (Ref × Blk) → List Ref → Option β) : fzLK g [] h lg e k = k [] [] lg := rfl
theorem fl1 (g : FzK β) (x : IV) (l : List IV) (k : List FV → List (Ref × Blk) → List Ref → Option β) : fzLK g (x :: l) h lg e k = g x h lg e fun y u lg => fzLK g l h lg e fun ys us lg => apK u us fun w => k (y :: ys) w lg := rfl
end
/-- What comes after the arguments are frozen. -/
noncomputable def isoC (rs : List Ref) (r : Option (IV × Hp)) (h : Hp) (u : List (Ref × Blk)) (lg : List Ref) (e : Option (IV × Hp)) (g : List Ref → Option (IV × Hp)) (k : IV → Hp → List Ref → List Ref → Option (IV × Hp)) : Option (IV × Hp) := match rs with
  | [] => (match r with
    | none => none
    | some p => match p with
      | (v, h') => match h' with
        | ⟨own, ext⟩ => List.casesOn (motive := fun _ => Option (IV × Hp)) ext (fzU 12 v ⟨own, []⟩ [] e fun w _ _ => layU u h fun h2 => k (.fv w) h2 lg (keys u)) fun _ _ => none)
  | r :: rs => g (r :: rs)
theorem iso_e (keep : List Bool) (ih : Handler) (f : FuncId) (args : List IV) (h : Hp) (k : IV → Hp → List Ref → List Ref → Option (IV × Hp)) : isoS keep false false ih f args h k =
    fzA args keep h [] (isoD keep false false ih f args h k) fun vs rs u lg => isoC rs (ih f vs ⟨[], []⟩) h u lg (isoD keep false false ih f args h k) (fun rs => match rs with
      | [] => none
      | r :: rs => (match h with
        | ⟨own, ext⟩ => cond (goB 400 (r :: rs) 0 ext) (match ih f vs ⟨[], ext⟩ with
          | none => none
          | some p => match p with
            | (v, h') => match h' with
              | ⟨own', ext'⟩ => cond (and (Nat.beq ext'.length ext.length) (okB ext.length ext'))
                (fzU 12 v ⟨own', ext'⟩ [] (isoD keep false false ih f args h k) fun w _ _ => layU u ⟨own, ext'⟩ fun h2 => k (.fv w) h2 ((extsUp ext.length).reverse ++ lg) (keys u ++ extsUp ext.length)) none)
          (isoD keep false false ih f args h k))) k := by
  unfold isoS
  simp only [cond_false]
  congr 1
theorem iso_c {r : Option (IV × Hp)} {w : FV} (hr : AnsF r w) (h : Hp) (u : List (Ref × Blk)) (lg : List Ref) (e : Option (IV × Hp)) (g : List Ref → Option (IV × Hp)) (k : IV → Hp → List Ref → List Ref → Option (IV × Hp)) :
    isoC [] r h u lg e g k = layU u h fun h2 => k (.fv w) h2 lg (keys u) := by
  obtain ⟨v, own, rfl, u', lg', hz⟩ := hr
  simp only [isoC]
  rw [hz]
theorem lu0 (h : Hp) (k : Hp → Option β) : layU [] h k = k h := rfl
theorem lu1 (s : Nat) (b : Blk) (u : List (Ref × Blk)) (own : List (Nat × Blk)) (ext : List Blk) (k : Hp → Option β) : layU ((.own s, b) :: u) ⟨own, ext⟩ k = ownK own s fun _ => putOwnK own s b fun own => layU u ⟨own, ext⟩ k := rfl
theorem ky0 : keys [] = [] := rfl
theorem ky1 (r : Ref) (b : Blk) (u : List (Ref × Blk)) : keys ((r, b) :: u) = r :: keys u := rfl

/-! Calls of what freezes as it is. -/
theorem fza_p : ∀ (args : List IV) {vs : List FV} (h : Hp) (lg : List Ref) (e : Option β) (k : List IV → List Ref → List (Ref × Blk) → List Ref → Option β), frzPL args = some vs → fzA args [] h lg e k = k (vs.map .fv) [] [] lg
  | [], vs, h, lg, e, k, hz => by cases hz; rfl
  | v :: l, vs, h, lg, e, k, hz => by
    simp only [frzPL] at hz
    cases h1 : frzP v with
    | none => rw [h1] at hz; cases hz
    | some x =>
      rw [h1] at hz
      cases h2 : frzPL l with
      | none => rw [h2] at hz; cases hz
      | some ys =>
        rw [h2] at hz
        cases hz
        show fzU 12 v h lg e (fun y u lg => fzA l [] h lg e fun vs rs us lg => apK u us fun w => k (.fv y :: vs) rs w lg) = _
        rw [fzp_u h lg e _ h1, fza_p l h lg e _ h2]
        rfl
theorem renL_fv (f : Ref → Option Ref) : ∀ l : List FV, IV.ren.renL f (l.map .fv) = some (l.map .fv)
  | [] => rfl
  | v :: l => by
    simp only [List.map_cons, IV.ren.renL, IV.ren, renL_fv f l]
    rfl
theorem iso_p {ih : Handler} {f : FuncId} {args : List IV} {vs : List FV} {w : FV} (hz : frzPL args = some vs) (hr : Ans (ih f (vs.map .fv) ⟨[], []⟩) w) (h : Hp) (k : IV → Hp → List Ref → List Ref → Option (IV × Hp)) :
    isoS [] false false ih f args h k = k (.fv w) h [] [] := by
  obtain ⟨v, own, e, hv⟩ := hr
  have hD : (∃ u, (frz 4096 v).run ⟨own, []⟩ = some (w, u)) → isoD [] false false ih f args h k = k (.fv w) h [] [] := by
    rintro ⟨u, hu⟩
    unfold isoD
    simp only [frz_args args hz, Rd.runLog, gather, renL_fv, List.map_nil, renBlks, fL_eq (fV_eq 3), fL_eq fBk_eq, askedD, Bool.false_eq_true, if_false, e, hu, Option.map_some, IV.ren]
    show (match laid h ([] ++ (keys []).zip []) with | none => none | some h' => fH h' fun h' => fV 3 (.fv w) fun res => k res h' [] _) = _
    simp only [keys, List.map_nil, List.zip_nil_left, List.append_nil, laid, fH_eq, fV_eq]
  rw [iso_e, fza_p args h [] _ _ hz, e]
  simp only [isoC]
  rcases hv with ⟨u', lg', hf⟩ | ⟨hf, hu⟩
  · rw [hf]; rfl
  · rw [hf]; exact hD hu
theorem iso_0 {ih : Handler} {f : FuncId} {w : FV} (hr : Ans (ih f [] ⟨[], []⟩) w) (h : Hp) (k : IV → Hp → List Ref → List Ref → Option (IV × Hp)) :
    isoS [] false false ih f [] h k = k (.fv w) h [] [] := iso_p (vs := []) rfl hr h k
theorem iso_1 {ih : Handler} {f : FuncId} {a : IV} {x w : FV} (hr : Ans (ih f [.fv x] ⟨[], []⟩) w) (ha : frzP a = some x) (h : Hp) (k : IV → Hp → List Ref → List Ref → Option (IV × Hp)) :
    isoS [] false false ih f [a] h k = k (.fv w) h [] [] := iso_p (zl_1 ha) hr h k
theorem iso_2 {ih : Handler} {f : FuncId} {a b : IV} {x y w : FV} (hr : Ans (ih f [.fv x, .fv y] ⟨[], []⟩) w) (ha : frzP a = some x) (hb : frzP b = some y) (h : Hp) (k : IV → Hp → List Ref → List Ref → Option (IV × Hp)) :
    isoS [] false false ih f [a, b] h k = k (.fv w) h [] [] := iso_p (zl_2 ha hb) hr h k
theorem iso_3 {ih : Handler} {f : FuncId} {a b c : IV} {x y z w : FV} (hr : Ans (ih f [.fv x, .fv y, .fv z] ⟨[], []⟩) w) (ha : frzP a = some x) (hb : frzP b = some y) (hc : frzP c = some z) (h : Hp) (k : IV → Hp → List Ref → List Ref → Option (IV × Hp)) :
    isoS [] false false ih f [a, b, c] h k = k (.fv w) h [] [] := iso_p (zl_3 ha hb hc) hr h k
theorem iso_4 {ih : Handler} {f : FuncId} {a b c d : IV} {x y z u w : FV} (hr : Ans (ih f [.fv x, .fv y, .fv z, .fv u] ⟨[], []⟩) w) (ha : frzP a = some x) (hb : frzP b = some y) (hc : frzP c = some z) (hd : frzP d = some u) (h : Hp)
    (k : IV → Hp → List Ref → List Ref → Option (IV × Hp)) : isoS [] false false ih f [a, b, c, d] h k = k (.fv w) h [] [] := iso_p (zl_4 ha hb hc hd) hr h k
/-! What is done by the ideal run's own operation. -/
theorem gen_val (v : IV) (s : Nat) (h : Hp) (k : IV → Hp → List Ref → List Ref → Option β) : genS (.ret { eff := { val := v } }) s h k = k v h [] [] := by
  unfold genS
  simp only [Rd.runLog, newRefs, fV_eq]
  rfl
theorem gen_val' (v : IV) (s : Nat) (h : Hp) (k : IV → Hp → List Ref → List Ref → Option β) : genS (Idl.val v) s h k = k v h [] [] := gen_val v s h k
theorem mkf (fn : Fn) (a b : List FV) : mkFunc fn (a.map .fv) (b.map .fv) = .fv (.func fn a b) := by
  have key : ∀ l : List FV, allFv (l.map .fv) = some l := by
    intro l
    induction l with
    | nil => rfl
    | cons x l ih => simp [allFv, ih]
  simp only [mkFunc, key]
/-- A slice that is made of elements. -/
theorem bs_tm {e : TypeId} {a b : Nat} {ei : TI} {z : List IV} (hT : E.T t = some ⟨a, b, .slice e, z⟩) (he : E.T e = some ei) {len : Nat} (hs : ¬ (ei.size = 0 ∨ len * ei.size > 65536)) {parts : List (Nat × IV)} {cells : List FV}
    (hf : fillIn (fun j => some (j * ei.size, ei.size)) (rep len ei.zero) parts = some (cells.map .fv)) {s : Nat} {h : Hp} (k : IV → Hp → List Ref → List Ref → Option β) (hc : cells.length < 65000 := by simp) :
    genS (pcBuildSlice E t len parts) s h k = k (.clip (chunks ei.size len cells)) h [] [] := by
  have key : ∀ (l : List FV) (n : Nat), l.length < n → frzL n (l.map .fv) = .ret (l, []) := by
    intro l
    induction l with
    | nil => intro n hn; cases n with
      | zero => simp at hn
      | succ n => rfl
    | cons x l ih => intro n hn; cases n with
      | zero => simp at hn
      | succ n =>
        simp only [List.length_cons] at hn
        cases n with
        | zero => omega
        | succ n =>
          simp only [List.map_cons, frzL, frz, Rd.bind]
          rw [ih (n + 1) (by omega)]
          rfl
  have : pcBuildSlice E t len parts = .ret { eff := { val := .clip (chunks ei.size len cells), upd := [] } } := by
    simp only [pcBuildSlice, hT, he, if_neg hs, hf]
    rw [key _ _ (by omega)]
    rfl
  rw [this, gen_val]
end
end Idl
end Go.Proofs.Ytdibmackcbpniaa
namespace Go.Proofs.Ytdibmackcbpniaa
namespace Idl
def XX := And.intro @n0 <| And.intro @n1 <| And.intro @n2 <| And.intro @n3 <| And.intro @n4 <| And.intro @n5 <| And.intro @n6 <| And.intro @d0 <| And.intro @d1 <| And.intro @d2 <| And.intro @d3 <| And.intro @d4 <| And.intro @t1 <| And.intro @t2 <| And.intro @t3 <| And.intro @t4 <| And.intro @t7 <| And.intro @ap0 <| And.intro @ap1 <| And.intro @unc_c <| And.intro @c_t <| And.intro @c_f <| And.intro @g_own <| And.intro @g_ext <| And.intro @o_hit <| And.intro @o_miss <| And.intro @p_nil <| And.intro @p_hit <| And.intro @p_miss <| And.intro @f_nil <| And.intro @f_cons <| And.intro @lay_own <| And.intro @lay_ext <| And.intro @sn0 <| And.intro @new_e <| And.intro @box_agg <| And.intro @box_agg' <| And.intro @box_one <| And.intro @on_int <| And.intro @on_bool <| And.intro @on_sl <| And.intro @on_fp <| And.intro @on_func <| And.intro @on_nilp <| And.intro @on_nils <| And.intro @on_ptr <| And.intro @on_slc <| And.intro @on_app <| And.intro @on_clip <| And.intro @on_emp <| And.intro @on_agg <| And.intro @on_fagg <| And.intro @of_int <| And.intro @of_bool <| And.intro @of_sl <| And.intro @of_fp <| And.intro @of_nilp <| And.intro @of_agg <| And.intro @aof_nil <| And.intro @aof_cons <| And.intro @as_p <| And.intro @as_f <| And.intro @as_row <| And.intro @as_free <| And.intro @as_fv <| And.intro @as_nf1 <| And.intro @as_nf2 <| And.intro @as_nf3 <| And.intro @as_nf4 <| And.intro @as_nf5 <| And.intro @as_nf6 <| And.intro @as_nf7 <| And.intro @as_agF <| And.intro @as_ag <| And.intro @as_ag' <| And.intro @alv_nil <| And.intro @alv_fv <| And.intro @alv_nils <| And.intro @alv_app <| And.intro @alv_clip <| And.intro @alv_ptr <| And.intro @alv_slc <| And.intro @alv_agg <| And.intro @alv_mapr <| And.intro @agg_e <| And.intro @tup_e <| And.intro @l1_e <| And.intro @lA_e <| And.intro @cell_t <| And.intro @cell_f <| And.intro @wr0 <| And.intro @wr1 <| And.intro @sf0 <| And.intro @sf1 <| And.intro @sf2 <| And.intro @sf3 <| And.intro @sf4 <| And.intro @of0 <| And.intro @of1 <| And.intro @of2 <| And.intro @of3 <| And.intro @of6 <| And.intro @sA_f <| And.intro @ml_own <| And.intro @sA_3 <| And.intro @sc3 <| And.intro @s1_e <| And.intro @fa_p <| And.intro @fa_f <| And.intro @nil_p <| And.intro @nil_f <| And.intro @nil_func <| And.intro @ex_t <| And.intro @ex_f <| And.intro @f1_e <| And.intro @fA_e <| And.intro @bld_e <| And.intro @fk0 <| And.intro @fk1 <| And.intro @fp_one <| And.intro @fp_agg <| And.intro @nb3 <| And.intro @nb4 <| And.intro @nb7 <| And.intro @nl3 <| And.intro @and_tt <| And.intro @add_s <| And.intro @sub_s <| And.intro @mul_s <| And.intro @quo_s <| And.intro @rem_s <| And.intro @eq_s <| And.intro @ne_s <| And.intro @lt_s <| And.intro @le_s <| And.intro @gt_s <| And.intro @ge_s <| And.intro @eq_sb <| And.intro @not_s <| And.intro @cd_t <| And.intro @cd_f <| And.intro @cd_d <| And.intro @cd_n <| And.intro @cd_b <| And.intro @pk_e <| And.intro @gd_mt <| And.intro @gd_mf <| And.intro @gd_sf <| And.intro @gd_st <| And.intro @gd_u <| And.intro @ch0 <| And.intro @ch1 <| And.intro @dj0 <| And.intro @djn <| And.intro @dj1 <| And.intro @an0 <| And.intro @an1 <| And.intro @rn_o <| And.intro @rn_oe <| And.intro @rn_eo <| And.intro @out1 <| And.intro @out0 <| And.intro @out2 <| And.intro @out3 <| And.intro @out4 <| And.intro @len_f <| And.intro @len_0 <| And.intro @len_c <| And.intro @len_a <| And.intro @len_s <| And.intro @ix_f <| And.intro @ix_a <| And.intro @ix_c <| And.intro @ix_s <| And.intro @ix0_agg <| And.intro @ix1_agg <| And.intro @ix2_agg <| And.intro @ix3_agg <| And.intro @zp_fv <| And.intro @zp_nils <| And.intro @zp_emp <| And.intro @zp_clip <| And.intro @zp_app <| And.intro @zq_fv <| And.intro @zq_nils <| And.intro @zq_emp <| And.intro @zq_clip <| And.intro @zq_app <| And.intro @zp_3 <| And.intro @zp_4 <| And.intro @zl_nil <| And.intro @zl_2 <| And.intro @zl_3 <| And.intro @zl_4 <| And.intro @zl_1 <| And.intro @gen_val <| @gen_val'
end Idl
end Go.Proofs.Ytdibmackcbpniaa
namespace Go.Proofs.Ytdibmackcbpniaa
namespace Idl
/-- With enough to go on, a call answers just this. -/
def Ev (f : FuncId) (args : List IV) (w : FV) : Prop := ∃ N, ∀ n, N ≤ n → Ans (SS dt n f args ⟨[], []⟩) w
/-- A loop: what is so at its head, going down by a number. -/
theorem loop_run {F : (List IV → Hp → Option (IV × Hp)) → List IV → Hp → Option (IV × Hp)} {Q : Option (IV × Hp) → Prop} (P : Nat → List IV → Hp → Prop)
    (step : ∀ k V H rec, P k V H → (∀ k' V' H', k' < k → P k' V' H' → Q (rec V' H')) → Q (F rec V H)) : ∀ m k V H, k < m → P k V H → Q (loopS m F V H) := by
  intro m
  induction m with
  | zero => intro k V H h; omega
  | succ m ih => intro k V H hk hP; exact step k V H (loopS m F) hP fun k' V' H' h1 h2 => ih k' V' H' (by omega) h2
theorem ans_fun {r : Option (IV × Hp)} {a b : FV} (h1 : Ans r a) (h2 : Ans r b) : a = b := by
  obtain ⟨v, own, rfl, h1⟩ := h1
  obtain ⟨v', own', e, h2⟩ := h2
  simp only [Option.some.injEq, Prod.mk.injEq, Hp.mk.injEq] at e
  obtain ⟨rfl, rfl, _⟩ := e
  rcases h1 with ⟨u, lg, hz⟩ | ⟨hz, u, hf⟩ <;> rcases h2 with ⟨u', lg', hz'⟩ | ⟨hz', u', hf'⟩
  · have h1 := hz none fun w _ _ => some (.fv w, ⟨[], []⟩)
    rw [hz' none fun w _ _ => some (.fv w, ⟨[], []⟩)] at h1
    simp only [Option.some.injEq, Prod.mk.injEq, IV.fv.injEq] at h1
    exact h1.1.symm
  · have h1 := hz none fun w _ _ => some (.fv w, ⟨[], []⟩)
    rw [hz' none fun w _ _ => some (.fv w, ⟨[], []⟩)] at h1
    cases h1
  · have h1 := hz' none fun w _ _ => some (.fv w, ⟨[], []⟩)
    rw [hz none fun w _ _ => some (.fv w, ⟨[], []⟩)] at h1
    cases h1
  · rw [hf] at hf'
    simp only [Option.some.injEq, Prod.mk.injEq] at hf'
    exact hf'.1
theorem ev_fun {f : FuncId} {args : List IV} {a b : FV} (h1 : Ev f args a) (h2 : Ev f args b) : a = b := by
  obtain ⟨N, h1⟩ := h1
  obtain ⟨M, h2⟩ := h2
  exact ans_fun (h1 (N + M) (by omega)) (h2 (N + M) (by omega))
mutual
def Tm.wt : Tm → Nat
  | .mk _ _ l => 1 + Tm.wtL l
def Tm.wtL : List Tm → Nat
  | [] => 0
  | t :: l => t.wt + Tm.wtL l
end
theorem wt_mem {t : Tm} : ∀ {l : List Tm}, t ∈ l → t.wt ≤ Tm.wtL l
  | a :: l, h => by
    rcases List.mem_cons.1 h with rfl | h
    · simp only [Tm.wtL]; omega
    · have := wt_mem h; simp only [Tm.wtL]; omega
theorem wt_len : ∀ (l : List Tm), l.length ≤ Tm.wtL l
  | [] => Nat.zero_le _
  | (.mk _ _ k) :: l => by have := wt_len l; simp only [Tm.wtL, Tm.wt, List.length_cons]; omega
theorem wt_pos (t : Tm) : 0 < t.wt := by cases t; simp only [Tm.wt]; omega
theorem enc_mk (op n : Int) (l : List Tm) : (Tm.mk op n l).enc = .agg [.int .i64 op, .int .i64 n, .sl (l.map Tm.enc)] := by simp only [Tm.enc, encL_eq]
theorem map_get {l : List Tm} {i : Nat} {op n : Int} {k : List Tm} (h : l[i]? = some (.mk op n k)) : (l.map Tm.enc)[i]? = some (.agg [.int .i64 op, .int .i64 n, .sl (k.map Tm.enc)]) := by
  rw [List.getElem?_map, h, Option.map_some, enc_mk]
theorem at_pre {α : Type} {l pre rest : List α} {a : α} (h : l = pre ++ a :: rest) : l[pre.length]? = some a := by
  rw [h, List.getElem?_append_right (Nat.le_refl _), Nat.sub_self]; rfl
theorem agg3 (a b c : FV) : (FV.agg [a, b, c]).cells = [a, b, c] := rfl
theorem agg3l (a b c : FV) : (FV.agg [a, b, c]).cells.length = 3 := rfl
end Idl
end Go.Proofs.Ytdibmackcbpniaa
namespace Go.Proofs.Ytdibmackcbpniaa
namespace Idl
section
variable {β : Type} {E : Env}
/-- A block that counts an append's elements. -/
noncomputable def tokK (b : Blk) (n sz : Nat) (x : Option β) : Option β := match b with
  | .tok a s => if a = n ∧ s = sz then x else none
  | _ => none
theorem tok_k (n sz : Nat) (x : Option β) : tokK (.tok n sz) n sz x = x := by
  show (if n = n ∧ sz = sz then x else none) = x
  rw [if_pos ⟨rfl, rfl⟩]
/-- What may be appended as it is. -/
inductive Plain2 : IV → List FV → Prop
  | clip (es : List FV) : Plain2 (.clip es) es
  | sl (es : List FV) : Plain2 (.fv (.sl es)) es
  | app (r : Ref) (es : List FV) : Plain2 (.app r es) es
theorem p2_frz {x : IV} {es : List FV} (h : Plain2 x es) : frz 4096 x = .ret (.sl es, []) := by cases h <;> rfl
structure SliceT (E : Env) (t : TypeId) (size : Nat) : Prop where
  h : ∃ a b e z ei, E.T t = some ⟨a, b, .slice e, z⟩ ∧ E.T e = some ei ∧ ei.size = size ∧ size ≠ 0 ∧ ei.bytes ≤ 100000
theorem app_0 {t : TypeId} {size : Nat} (T : SliceT E t size) {x : IV} {es2 : List FV} (hx : Plain2 x es2) (h1 : headOk size es2 = true) (hne : es2.isEmpty = false) (hb : es2.length ≤ 1000000) {s0 : IV} (hs : s0 = .nils ∨ s0 = .clip []) (s : Nat) (own : List (Nat × Blk)) (ext : List Blk)
    (k : IV → Hp → List Ref → List Ref → Option β) : genS (builtinR E s false .append [t, t] [s0, x]) s ⟨own, ext⟩ k = freshK own s (putOwnK own s (.tok es2.length size) fun own => k (.app (.own s) es2) ⟨own, ext⟩ [] [.own s]) := by
  obtain ⟨a, b, e, z, ei, hT, he, rfl, h0, hby⟩ := T.h
  have hlen : ¬ (headOk ei.size [] = false ∨ (([] : List FV).length + es2.length) * ei.bytes > 140737488355328 ∨ ([] : List FV).length + es2.length > 1073741824) := by
    have : es2.length * ei.bytes ≤ 1000000 * 100000 := Nat.mul_le_mul hb hby
    rintro (h | h | h)
    · cases h
    · simp only [List.length_nil, Nat.zero_add] at h; omega
    · simp only [List.length_nil, Nat.zero_add] at h; omega
  have key : builtinR E s false .append [t, t] [s0, x] = .ret { eff := { val := .app (.own s) es2, upd := [] }, new := some (.tok es2.length ei.size) } := by
    show appendR E s t (some t) false s0 x = _
    simp only [appendR, hT, Option.bind_some, he, p2_frz hx, Rd.bind, h0, h1, false_or, Bool.true_eq_false, if_false]
    rcases hs with rfl | rfl <;> simp only [elemsOf, if_neg hlen, hne, List.nil_append, Bool.false_eq_true, if_false]
  rw [key]
  unfold genS
  simp only [Rd.runLog]
  show (newK (some (.tok es2.length ei.size)) s ⟨own, ext⟩ fun h => fV 3 (.app (.own s) es2) fun v => k v h [] ([] ++ [.own s])) = _
  simp only [newK, fBk_eq, fV_eq]
  rfl
theorem app_e {t : TypeId} {size : Nat} (T : SliceT E t size) {x : IV} (hx : Plain2 x []) {s0 : IV} (hs : s0 = .nils ∨ s0 = .clip []) (s : Nat) (h : Hp) (k : IV → Hp → List Ref → List Ref → Option β) :
    genS (builtinR E s false .append [t, t] [s0, x]) s h k = k s0 h [] [] := by
  obtain ⟨a, b, e, z, ei, hT, he, rfl, h0, hby⟩ := T.h
  have hlen : ¬ (headOk ei.size [] = false ∨ (([] : List FV).length + ([] : List FV).length) * ei.bytes > 140737488355328 ∨ ([] : List FV).length + ([] : List FV).length > 1073741824) := by
    rintro (h | h | h)
    · cases h
    · simp at h
    · simp at h
  have key : builtinR E s false .append [t, t] [s0, x] = .ret { eff := { val := s0, upd := [] } } := by
    show appendR E s t (some t) false s0 x = _
    have h1 : headOk ei.size [] = true := rfl
    simp only [appendR, hT, Option.bind_some, he, p2_frz hx, Rd.bind, h0, h1, false_or, Bool.true_eq_false, if_false]
    rcases hs with rfl | rfl
    · simp only [elemsOf]
      rw [if_neg hlen]
      simp
    · simp only [elemsOf]
      rw [if_neg hlen]
      simp
  rw [key]
  exact gen_val s0 s h k
theorem app_1 {t : TypeId} {size : Nat} (T : SliceT E t size) {x : IV} {es es2 : List FV} (hx : Plain2 x es2) (h1 : headOk size es2 = true) (h2 : headOk size es = true) (ho : (es2.all fun e => e.cells.all FV.one) = true) (hb : es.length + es2.length ≤ 1000000) (r s : Nat)
    (own : List (Nat × Blk)) (ext : List Blk) (k : IV → Hp → List Ref → List Ref → Option β) : genS (builtinR E s false .append [t, t] [.app (.own r) es, x]) s ⟨own, ext⟩ k =
      ownK own r fun b => tokK b es.length size (putOwnK own r (.tok (es.length + es2.length) size) fun own => k (.app (.own r) (es ++ es2)) ⟨own, ext⟩ [.own r] [.own r]) := by
  obtain ⟨a, b, e, z, ei, hT, he, rfl, h0, hby⟩ := T.h
  have hlen : ¬ (headOk ei.size es = false ∨ (es.length + es2.length) * ei.bytes > 140737488355328 ∨ es.length + es2.length > 1073741824) := by
    have : (es.length + es2.length) * ei.bytes ≤ 1000000 * 100000 := Nat.mul_le_mul hb hby
    rintro (h | h | h)
    · rw [h2] at h; cases h
    · omega
    · omega
  have key : (builtinR E s false .append [t, t] [.app (.own r) es, x]).runLog ⟨own, ext⟩ [] = (lookupOwn r own).bind fun b => match b with
      | .tok n sz => if n = es.length ∧ sz = ei.size then some ({ eff := { val := .app (.own r) (es ++ es2), upd := [(.own r, .tok (n + es2.length) sz)] } }, [.own r]) else none
      | _ => none := by
    show (appendR E s t (some t) false (.app (.own r) es) x).runLog _ _ = _
    simp only [appendR, hT, Option.bind_some, he, p2_frz hx, Rd.bind, h0, h1, false_or, Bool.true_eq_false, if_false, elemsOf, if_neg hlen, Rd.runLog, ho, and_true]
    show (match lookupOwn r own with | some b => _ | none => none) = _
    cases lookupOwn r own with
    | none => rfl
    | some b =>
      cases b with
      | tok n sz =>
        simp only [Option.bind_some]
        by_cases hc : n = es.length ∧ sz = ei.size
        · rw [if_pos hc, if_pos hc]; rfl
        · rw [if_neg hc, if_neg hc]; rfl
      | _ => rfl
  unfold genS
  rw [key, ownK_eq]
  cases hl : lookupOwn r own with
  | none => simp
  | some b =>
    simp only [Option.bind_some]
    cases b with
    | tok n sz =>
      simp only [tokK]
      by_cases hc : n = es.length ∧ sz = ei.size
      · rw [if_pos hc, if_pos hc]
        obtain ⟨rfl, rfl⟩ := hc
        show (fRf (.own r) fun q => getK q ⟨own, ext⟩ fun _ => fBk (.tok (es.length + es2.length) ei.size) fun b => layK q b ⟨own, ext⟩ fun h => newK none s h fun h => fV 3 (.app (.own r) (es ++ es2)) fun v => k v h [.own r] ([.own r] ++ [])) = _
        simp only [fRf_eq, fBk_eq, fV_eq, newK, layK, getK]
        rw [ownK_eq, hl]
        rfl
      · rw [if_neg hc, if_neg hc]
    | row _ _ => rfl
    | map _ => rfl
end
end Idl
end Go.Proofs.Ytdibmackcbpniaa
namespace Go.Proofs.Ytdibmackcbpniaa
namespace Idl
/-! Types of slices. -/
theorem tTms : EE.T 28 = some ⟨1, 24, .slice 30, [.nils]⟩ := by kernel_rfl
theorem tTm : EE.T 30 = some ⟨3, 40, .struct [(0, 3), (1, 3), (2, 28)], [.fv (.int .i64 0), .fv (.int .i64 0), .nils]⟩ := by kernel_rfl
theorem sTm : SliceT EE 28 3 := ⟨_, _, _, _, _, tTms, tTm, rfl, by decide, by decide⟩
theorem bs1_tm (a : Tm) (s : Nat) (h : Hp) (k : IV → Hp → List Ref → List Ref → Option (IV × Hp)) : genS (pcBuildSlice EE 28 1 [(0, .fv a.enc)]) s h k = k (.clip [a.enc]) h [] [] := by
  obtain ⟨o1, n1, k1⟩ := a
  exact bs_tm tTms tTm (by decide) (cells := [.int .i64 o1, .int .i64 n1, .sl (Tm.enc.encL k1)]) rfl k
theorem bs2_tm (a b : Tm) (s : Nat) (h : Hp) (k : IV → Hp → List Ref → List Ref → Option (IV × Hp)) : genS (pcBuildSlice EE 28 2 [(0, .fv a.enc), (1, .fv b.enc)]) s h k = k (.clip [a.enc, b.enc]) h [] [] := by
  obtain ⟨o1, n1, k1⟩ := a
  obtain ⟨o2, n2, k2⟩ := b
  exact bs_tm tTms tTm (by decide) (cells := [.int .i64 o1, .int .i64 n1, .sl (Tm.enc.encL k1), .int .i64 o2, .int .i64 n2, .sl (Tm.enc.encL k2)]) rfl k
theorem bs3_tm (a b c : Tm) (s : Nat) (h : Hp) (k : IV → Hp → List Ref → List Ref → Option (IV × Hp)) : genS (pcBuildSlice EE 28 3 [(0, .fv a.enc), (1, .fv b.enc), (2, .fv c.enc)]) s h k = k (.clip [a.enc, b.enc, c.enc]) h [] [] := by
  obtain ⟨o1, n1, k1⟩ := a
  obtain ⟨o2, n2, k2⟩ := b
  obtain ⟨o3, n3, k3⟩ := c
  exact bs_tm tTms tTm (by decide) (cells := [.int .i64 o1, .int .i64 n1, .sl (Tm.enc.encL k1), .int .i64 o2, .int .i64 n2, .sl (Tm.enc.encL k2), .int .i64 o3, .int .i64 n3, .sl (Tm.enc.encL k3)]) rfl k
theorem bs4_tm (a b c d : Tm) (s : Nat) (h : Hp) (k : IV → Hp → List Ref → List Ref → Option (IV × Hp)) : genS (pcBuildSlice EE 28 4 [(0, .fv a.enc), (1, .fv b.enc), (2, .fv c.enc), (3, .fv d.enc)]) s h k = k (.clip [a.enc, b.enc, c.enc, d.enc]) h [] [] := by
  obtain ⟨o1, n1, k1⟩ := a
  obtain ⟨o2, n2, k2⟩ := b
  obtain ⟨o3, n3, k3⟩ := c
  obtain ⟨o4, n4, k4⟩ := d
  exact bs_tm tTms tTm (by decide) (cells := [.int .i64 o1, .int .i64 n1, .sl (Tm.enc.encL k1), .int .i64 o2, .int .i64 n2, .sl (Tm.enc.encL k2), .int .i64 o3, .int .i64 n3, .sl (Tm.enc.encL k3), .int .i64 o4, .int .i64 n4, .sl (Tm.enc.encL k4)]) rfl k
/-! Terms that are appended. -/
theorem enc_len (a : Tm) : a.enc.cells.length = 3 := by cases a; rfl
theorem enc_one (a : Tm) : a.enc.cells.all FV.one = true := by cases a; rfl
theorem head_tm (l : List Tm) : headOk 3 (l.map Tm.enc) = true := by
  cases l with
  | nil => rfl
  | cons a l => simp only [List.map_cons, headOk, enc_len, beq_self_eq_true]
theorem app0_tm (e : Tm) (s : Nat) (own : List (Nat × Blk)) (ext : List Blk) (k : IV → Hp → List Ref → List Ref → Option (IV × Hp)) :
    genS (builtinR EE s false .append [28, 28] [.nils, .clip [e.enc]]) s ⟨own, ext⟩ k = freshK own s (putOwnK own s (.tok 1 3) fun own => k (.app (.own s) [e.enc]) ⟨own, ext⟩ [] [.own s]) :=
  app_0 sTm (.clip _) (head_tm [e]) rfl (by simp) (.inl rfl) s own ext k
theorem app1_tm {es : List Tm} (hb : es.length + 1 ≤ 1000000) (e : Tm) (r s : Nat) (own : List (Nat × Blk)) (ext : List Blk) (k : IV → Hp → List Ref → List Ref → Option (IV × Hp)) :
    genS (builtinR EE s false .append [28, 28] [.app (.own r) (es.map Tm.enc), .clip [e.enc]]) s ⟨own, ext⟩ k =
      ownK own r fun b => tokK b es.length 3 (putOwnK own r (.tok (es.length + 1) 3) fun own => k (.app (.own r) ((es ++ [e]).map Tm.enc)) ⟨own, ext⟩ [.own r] [.own r]) := by
  rw [app_1 sTm (.clip [e.enc]) (head_tm [e]) (head_tm es) (by simp [enc_one]) (by simpa using hb) r s own ext k]
  simp only [List.length_map, List.map_append, List.map_cons, List.map_nil, List.length_cons, List.length_nil, Nat.zero_add]
/-! Numbers. -/
theorem emod_w {x m : Int} (h1 : 0 < m) (h2 : m ≤ 4611686018427387904) : (if x.tmod m < 0 then w64 (x.tmod m + m) else x.tmod m) = x % m := by
  have a1 := Int.emod_nonneg x (show m ≠ 0 by omega)
  have a2 := Int.emod_lt_of_pos x h1
  have e1 : x.tmod m = x - m * x.tdiv m := by have := Int.mul_tdiv_add_tmod x m; omega
  have e2 : x % m = x - m * (x / m) := by have := Int.mul_ediv_add_emod x m; omega
  have b1 : -m < x.tmod m := Int.lt_tmod_of_pos x h1
  have b2 : x.tmod m < m := Int.tmod_lt_of_pos x h1
  have key : ∃ q, x.tmod m = x % m + m * q := ⟨x / m - x.tdiv m, by rw [e1, e2, Int.mul_sub]; omega⟩
  obtain ⟨q, hq⟩ := key
  have hq2 : q = 0 ∨ q = -1 := by
    rcases Int.lt_trichotomy q 0 with h | h | h
    · right
      rcases Int.lt_trichotomy q (-1) with h' | h' | h'
      · have : m * q ≤ m * (-2) := Int.mul_le_mul_of_nonneg_left (by omega) (by omega)
        omega
      · exact h'
      · omega
    · exact .inl h
    · have : m * 1 ≤ m * q := Int.mul_le_mul_of_nonneg_left (by omega) (by omega)
      omega
  rcases hq2 with rfl | rfl
  · rw [if_neg (by omega)]; omega
  · rw [if_pos (by omega), w64_id (by omega) (by omega)]; omega
theorem within4_ok {n : Nat} (hn : 0 < n) (x : Int) {m : Int} (h1 : 0 < m) (h2 : m ≤ 4611686018427387904) : Ans (SS dt n 41 [iv x, iv m] ⟨[], []⟩) (.int .i64 (x % m)) := by
  obtain ⟨n, rfl⟩ := Nat.exists_eq_add_of_lt hn
  rw [Nat.zero_add, c41]
  simp only [S41, ↓XX, ↓reduceIte, Nat.reduceBEq, decide_true, decide_false, Bool.not_true, Bool.not_false, List.map_cons, List.map_nil, List.length_map, List.length_cons, List.length_nil, Nat.reduceAdd, Int.cast_ofNat_Int, Int.natCast_zero, Int.natCast_one, Bool.false_eq_true, Bool.true_eq_false, decide_eq_true_eq, eq_self, Int.reduceEq, Int.reduceLT, Int.reduceLE, Bool.and_true, Bool.true_and, Bool.and_false, Bool.false_and, Nat.zero_add, ↓rem_s (show m ≠ 0 by omega)]
  rw [← emod_w h1 h2]
  by_cases hc : x.tmod m < 0 <;> simp only [hc, if_true, if_false] <;> exact ans_fv _ _
/-! Terms. -/
theorem t0_ok {n : Nat} (hn : 0 < n) (op : Int) : Ans (SS dt n 30 [iv op, .fv (.sl [])] ⟨[], []⟩) (Tm.mk op 0 []).enc := by
  obtain ⟨n, rfl⟩ := Nat.exists_eq_add_of_lt hn
  rw [Nat.zero_add, c30]
  simp only [S30, ↓XX, ↓reduceIte, Nat.reduceBEq, decide_true, decide_false, Bool.not_true, Bool.not_false, List.map_cons, List.map_nil, List.length_map, List.length_cons, List.length_nil, Nat.reduceAdd, Int.cast_ofNat_Int, Int.natCast_zero, Int.natCast_one, Bool.false_eq_true, Bool.true_eq_false, decide_eq_true_eq, eq_self, Int.reduceEq, Int.reduceLT, Int.reduceLE, Bool.and_true, Bool.true_and, Bool.and_false, Bool.false_and, Nat.zero_add]
  exact ans_fv _ _
theorem t_ok {n : Nat} (hn : 0 < n) (op : Int) (l : List Tm) : Ans (SS dt n 30 [iv op, .fv (.sl (l.map Tm.enc))] ⟨[], []⟩) (Tm.mk op 0 l).enc := by
  obtain ⟨n, rfl⟩ := Nat.exists_eq_add_of_lt hn
  rw [Nat.zero_add, c30]
  simp only [S30, ↓XX, ↓reduceIte, Nat.reduceBEq, decide_true, decide_false, Bool.not_true, Bool.not_false, List.map_cons, List.map_nil, List.length_map, List.length_cons, List.length_nil, Nat.reduceAdd, Int.cast_ofNat_Int, Int.natCast_zero, Int.natCast_one, Bool.false_eq_true, Bool.true_eq_false, decide_eq_true_eq, eq_self, Int.reduceEq, Int.reduceLT, Int.reduceLE, Bool.and_true, Bool.true_and, Bool.and_false, Bool.false_and, Nat.zero_add, enc_mk]
  exact ans_fv _ _
/-! Raw kids. -/
def Tm.kids : Tm → List Tm
  | .mk _ _ l => l
def Tm.op : Tm → Int
  | .mk o _ _ => o
def Tm.n : Tm → Int
  | .mk _ n _ => n
def Tm.pick (r : Tm) (i : Nat) : Tm := match r.kids[i]? with
  | some k => k
  | none => .mk (w64 (w64 (r.op.tdiv 3) + i)) (w64 (w64 (r.n.tdiv 5) + w64 (7 * i))) []
theorem pick_ok {n : Nat} (hn : 0 < n) (r : Tm) (i : Nat) : Ans (SS dt n 42 [.fv r.enc, iv i] ⟨[], []⟩) (r.pick i).enc := by
  obtain ⟨n, rfl⟩ := Nat.exists_eq_add_of_lt hn
  rw [Nat.zero_add, c42]
  obtain ⟨op, m, ks⟩ := r
  rw [enc_mk]
  simp only [Tm.pick, Tm.kids, Tm.op, Tm.n]
  cases hk : ks[i]? with
  | some k =>
    have hi : (i : Int) < ks.length := by have := (List.getElem?_eq_some_iff.1 hk).1; omega
    obtain ⟨o, p, l⟩ := k
    simp only [S42_42, S42_43, S42_44, S42_45, S42, ↓XX, ↓reduceIte, Nat.reduceBEq, decide_true, decide_false, Bool.not_true, Bool.not_false, List.map_cons, List.map_nil, List.length_map, List.length_cons, List.length_nil, Nat.reduceAdd, Int.cast_ofNat_Int, Int.natCast_zero, Int.natCast_one, Bool.false_eq_true, Bool.true_eq_false, decide_eq_true_eq, eq_self, Int.reduceEq, Int.reduceLT, Int.reduceLE, Bool.and_true, Bool.true_and, Bool.and_false, Bool.false_and, Nat.zero_add, hi, ↓ix_f (map_get hk) (agg3l _ _ _), ↓agg3, enc_mk]
    exact ans_fv _ _
  | none =>
    have hi : ¬ (i : Int) < ks.length := by have := List.getElem?_eq_none_iff.1 hk; omega
    simp only [S42_42, S42_43, S42_44, S42_45, S42, ↓XX, ↓reduceIte, Nat.reduceBEq, decide_true, decide_false, Bool.not_true, Bool.not_false, List.map_cons, List.map_nil, List.length_map, List.length_cons, List.length_nil, Nat.reduceAdd, Int.cast_ofNat_Int, Int.natCast_zero, Int.natCast_one, Bool.false_eq_true, Bool.true_eq_false, decide_eq_true_eq, eq_self, Int.reduceEq, Int.reduceLT, Int.reduceLE, Bool.and_true, Bool.true_and, Bool.and_false, Bool.false_and, Nat.zero_add, hi, ↓quo_s (show (3 : Int) ≠ 0 by decide), ↓quo_s (show (5 : Int) ≠ 0 by decide)]
    exact ans_p rfl _
end Idl
end Go.Proofs.Ytdibmackcbpniaa
namespace Go.Proofs.Ytdibmackcbpniaa
namespace Idl
section
variable {β : Type}
/-- References of a value, of a block (to be reckoned). -/
def noRef : IV → Bool
  | .fv _ => true
  | .nils => true
  | .emp => true
  | .clip _ => true
  | .dead => true
  | _ => false
/-- Does a value name a block? -/
def namesV (s : Nat) : IV → Bool
  | .ptr (.own j) _ => s == j
  | .slc (.own j) _ _ => s == j
  | .app (.own j) _ => s == j
  | .mapr (.own j) => s == j
  | _ => false
def flatV : IV → Bool
  | .agg _ | .tuple _ | .func .. => false
  | _ => true
def namesB (s : Nat) : Blk → Bool
  | .row cells _ => cells.any (namesV s)
  | _ => false
def flatB : Blk → Bool
  | .row cells _ => cells.all flatV
  | .tok .. => true
  | .map _ => false
theorem flat_refs {v : IV} (h : flatV v = true) (s : Nat) : (Ref.own s ∈ v.refs) ↔ namesV s v = true := by
  cases v with
  | ptr r o => cases r <;> simp [IV.refs, namesV]
  | slc r a b => cases r <;> simp [IV.refs, namesV]
  | app r es => cases r <;> simp [IV.refs, namesV]
  | mapr r => cases r <;> simp [IV.refs, namesV]
  | agg _ => cases h
  | tuple _ => cases h
  | func _ _ _ => cases h
  | _ => simp [IV.refs, namesV]
theorem flat_refsL : ∀ {l : List IV}, l.all flatV = true → ∀ s, (Ref.own s ∈ IV.refs.refsL l) ↔ l.any (namesV s) = true
  | [], _, s => by simp [IV.refs.refsL]
  | v :: l, h, s => by
    rw [List.all_cons, Bool.and_eq_true] at h
    rw [IV.refs.refsL, List.mem_append, List.any_cons, Bool.or_eq_true, flat_refs h.1, flat_refsL h.2]
theorem flat_refsB {b : Blk} (h : flatB b = true) (s : Nat) : (Ref.own s ∈ b.refs) ↔ namesB s b = true := by
  cases b with
  | row cells ro => exact flat_refsL h s
  | tok n sz => simp [Blk.refs, namesB]
  | map es => cases h
theorem anyIn_one (s : Nat) : ∀ l : List Ref, anyIn [s] l = true ↔ Ref.own s ∈ l
  | [] => by simp [anyIn]
  | .own k :: l => by
    rw [anyIn, Bool.or_eq_true, anyIn_one s l, List.mem_cons]
    simp [eq_comm]
  | .ext k :: l => by
    rw [anyIn, anyIn_one s l, List.mem_cons]
    simp
/-- Is a block named by what stays? -/
def heldB (rm : List Nat) (vals : List IV) (own : List (Nat × Blk)) (ext : List Blk) (s : Nat) : Bool :=
  vals.any (namesV s) || (own.any (fun p => !rm.contains p.1 && namesB s p.2) || ext.any (namesB s))
def stays (rm : List Nat) (vals : List IV) (own : List (Nat × Blk)) (ext : List Blk) : List (Nat × Blk) := own.filter fun p => !rm.contains p.1 || heldB rm vals own ext p.1
def flatD (rm : List Nat) (vals : List IV) (own : List (Nat × Blk)) (ext : List Blk) : Bool :=
  vals.all flatV && (own.all (fun p => flatB p.2) && (ext.all flatB && own.all fun p => !rm.contains p.1 || rm.all fun s => !namesB s p.2))
theorem held_mem {rm : List Nat} {vals : List IV} {own : List (Nat × Blk)} {ext : List Blk} (hf : flatD rm vals own ext = true) (s : Nat) :
    Ref.own s ∈ IV.refs.refsL vals ++ (own.filter fun p => !rm.contains p.1).flatMap (fun p => p.2.refs) ++ ext.flatMap Blk.refs ↔ heldB rm vals own ext s = true := by
  simp only [flatD, Bool.and_eq_true] at hf
  obtain ⟨h1, h2, h3, _⟩ := hf
  have e1 : Ref.own s ∈ (own.filter fun p => !rm.contains p.1).flatMap (fun p => p.2.refs) ↔ (own.any fun p => !rm.contains p.1 && namesB s p.2) = true := by
    rw [List.mem_flatMap, List.any_eq_true]
    constructor
    · rintro ⟨p, hp, hr⟩
      obtain ⟨hp1, hp2⟩ := List.mem_filter.1 hp
      exact ⟨p, hp1, by rw [hp2, (flat_refsB (List.all_eq_true.1 h2 p hp1) s).1 hr]; rfl⟩
    · rintro ⟨p, hp, hr⟩
      rw [Bool.and_eq_true] at hr
      exact ⟨p, List.mem_filter.2 ⟨hp, hr.1⟩, (flat_refsB (List.all_eq_true.1 h2 p hp) s).2 hr.2⟩
  have e2 : Ref.own s ∈ ext.flatMap Blk.refs ↔ ext.any (namesB s) = true := by
    rw [List.mem_flatMap, List.any_eq_true]
    constructor
    · rintro ⟨p, hp, hr⟩
      exact ⟨p, hp, (flat_refsB (List.all_eq_true.1 h3 p hp) s).1 hr⟩
    · rintro ⟨p, hp, hr⟩
      exact ⟨p, hp, (flat_refsB (List.all_eq_true.1 h3 p hp) s).2 hr⟩
  rw [List.mem_append, List.mem_append, flat_refsL h1, e1, e2, heldB, Bool.or_eq_true, Bool.or_eq_true, or_assoc]
theorem drop_e {base rm : List Nat} {vals : List IV} {own : List (Nat × Blk)} {ext : List Blk} (hb : rm.any base.contains = false) (hf : flatD rm vals own ext = true) (k : Hp → Option β) :
    dropS base rm vals ⟨own, ext⟩ k = k ⟨stays rm vals own ext, ext⟩ := by
  have hm := held_mem hf
  have hf0 := hf
  simp only [flatD, Bool.and_eq_true] at hf0
  obtain ⟨g1, g2, g3, g4⟩ := hf0
  unfold dropS
  rw [hb]
  simp only [cond_false]
  rw [anyO_eq]
  cases ha : (own.all fun p => !rm.contains p.1) with
  | true =>
    simp only [Bool.not_true, cond_false]
    congr 2
    symm
    apply List.filter_eq_self.2
    intro p hp
    rw [List.all_eq_true.1 ha p hp]; rfl
  | false =>
    simp only [Bool.not_false, cond_true]
    have slow : (match dropAt base [] rm ⟨vals, ⟨own, ext⟩⟩ with | none => none | some S => fH S.hp k) = k ⟨stays rm vals own ext, ext⟩ := by
      have hgone : (rm.filter fun k => !anyIn [k] (IV.refs.refsL vals ++ (own.filter fun p => !rm.contains p.1).flatMap (fun p => p.2.refs) ++ ext.flatMap Blk.refs)) = rm.filter fun s => !heldB rm vals own ext s := by
        apply List.filter_congr
        intro s _
        congr 1
        exact Bool.eq_iff_iff.2 ((anyIn_one s _).trans (hm s))
      have hown : (own.filter fun p => !(rm.filter fun s => !heldB rm vals own ext s).contains p.1) = stays rm vals own ext := by
        apply List.filter_congr
        intro p _
        rw [Bool.eq_iff_iff]
        simp only [Bool.not_eq_true', Bool.or_eq_true, List.contains_eq_mem, decide_eq_false_iff_not, List.mem_filter]
        constructor
        · intro h
          by_cases h1 : p.1 ∈ rm
          · right
            cases hh : heldB rm vals own ext p.1 with
            | true => rfl
            | false => exact absurd ⟨h1, hh⟩ h
          · exact .inl h1
        · rintro (h | h) ⟨h1, h2⟩
          · exact h h1
          · rw [h] at h2; exact absurd h2 (by simp)
      simp only [dropAt, hb, Bool.false_eq_true, if_false, killSlots, ha, hgone, hown]
      have hnone : anyIn (rm.filter fun s => !heldB rm vals own ext s) (refsOfSt ⟨vals, ⟨stays rm vals own ext, ext⟩⟩) = false := by
        apply anyIn_none
        intro s hs hmem
        obtain ⟨hs1, hs2⟩ := List.mem_filter.1 hs
        have hs2 : heldB rm vals own ext s = false := by simpa using hs2
        simp only [refsOfSt, List.mem_append] at hmem
        rcases hmem with (hmem | hmem) | hmem
        · have := (hm s).1 (List.mem_append_left _ (List.mem_append_left _ hmem))
          rw [this] at hs2; cases hs2
        · obtain ⟨p, hp, hr⟩ := List.mem_flatMap.1 hmem
          have hp1 := (List.mem_filter.1 hp).1
          have hn := (flat_refsB (List.all_eq_true.1 g2 p hp1) s).1 hr
          have h4 := List.all_eq_true.1 g4 p hp1
          cases hc : rm.contains p.1 with
          | true =>
            rw [hc] at h4
            have h4 : (rm.all fun s => !namesB s p.2) = true := h4
            have h5 := List.all_eq_true.1 h4 s hs1
            rw [hn] at h5; cases h5
          | false =>
            have := (hm s).1 (List.mem_append_left _ (List.mem_append_right _ (List.mem_flatMap.2 ⟨p, List.mem_filter.2 ⟨hp1, by rw [hc]; rfl⟩, hr⟩)))
            rw [this] at hs2; cases hs2
        · have := (hm s).1 (List.mem_append_right _ hmem)
          rw [this] at hs2; cases hs2
      simp only [hnone, Bool.false_eq_true, if_false, fH_eq]
    cases hff : (and (freeR rm (refsDL vals [])) (and (freeO rm own) (freeE rm ext))) with
    | false => exact slow
    | true =>
      have hff : (freeR rm (refsDL vals []) && (freeO rm own && freeE rm ext)) = true := hff
      simp only [Bool.and_eq_true] at hff
      simp only [filtK_eq, cond_true]
      congr 2
      apply List.filter_congr
      intro p hp
      cases hc : rm.contains p.1 with
      | false => rfl
      | true =>
        have h1 := freeR_ok hff.1
        rw [refsDL_eq, List.append_nil] at h1
        have h2 := freeO_ok hff.2.1
        have h3 := freeE_ok hff.2.2
        have : heldB rm vals own ext p.1 = false := by
          cases hh : heldB rm vals own ext p.1 with
          | false => rfl
          | true =>
            have := (hm p.1).2 hh
            have hpm : p.1 ∈ rm := List.contains_iff_mem.1 hc
            rcases List.mem_append.1 this with h | h
            · rcases List.mem_append.1 h with h | h
              · exact absurd h (h1 _ hpm)
              · exact absurd h (h2 _ hpm)
            · exact absurd h (h3 _ hpm)
        rw [this]; rfl
end
/-! To be reckoned. -/
section
variable (s j : Nat)
theorem st_e (rm : List Nat) (vals : List IV) (own : List (Nat × Blk)) (ext : List Blk) : stays rm vals own ext = own.filter fun p => !rm.contains p.1 || heldB rm vals own ext p.1 := rfl
theorem nv1 (o : Nat) : namesV s (.ptr (.own j) o) = (s == j) := rfl
theorem nv2 (a b : Nat) : namesV s (.slc (.own j) a b) = (s == j) := rfl
theorem nv3 (es : List FV) : namesV s (.app (.own j) es) = (s == j) := rfl
theorem nv4 (v : FV) : namesV s (.fv v) = false := rfl
theorem nv5 : namesV s .nils = false := rfl
theorem nv6 (es : List FV) : namesV s (.clip es) = false := rfl
theorem nv7 (o : Nat) : namesV s (.ptr (.ext j) o) = false := rfl
theorem nv8 : namesV s .dead = false := rfl
theorem nb1 (cs : List IV) (ro : Bool) : namesB s (.row cs ro) = cs.any (namesV s) := rfl
theorem nb2 (a b : Nat) : namesB s (.tok a b) = false := rfl
theorem fl_1 (r : Ref) (o : Nat) : flatV (.ptr r o) = true := rfl
theorem fl_2 (r : Ref) (a b : Nat) : flatV (.slc r a b) = true := rfl
theorem fl_3 (r : Ref) (es : List FV) : flatV (.app r es) = true := rfl
theorem fl_4 (v : FV) : flatV (.fv v) = true := rfl
theorem fl_5 : flatV .nils = true := rfl
theorem fl_6 (es : List FV) : flatV (.clip es) = true := rfl
theorem fl_7 : flatV .dead = true := rfl
theorem fb_1 (cs : List IV) (ro : Bool) : flatB (.row cs ro) = cs.all flatV := rfl
theorem fb_2 (a b : Nat) : flatB (.tok a b) = true := rfl
end
def XD := And.intro @st_e <| And.intro @nv1 <| And.intro @nv2 <| And.intro @nv3 <| And.intro @nv4 <| And.intro @nv5 <| And.intro @nv6 <| And.intro @nv7 <| And.intro @nv8 <| And.intro @nb1 <| And.intro @nb2 <| And.intro @fl_1 <| And.intro @fl_2 <| And.intro @fl_3 <| And.intro @fl_4 <| And.intro @fl_5 <| And.intro @fl_6 <| And.intro @fl_7 <| And.intro @fb_1 <| @fb_2
end Idl
end Go.Proofs.Ytdibmackcbpniaa
namespace Go.Proofs.Ytdibmackcbpniaa
namespace Idl
def bindN (op : Int) (i : Nat) : Nat :=
  if op = 3 ∨ op = 4 ∨ op = 6 ∨ op = 20 ∨ op = 28 ∨ op = 29 then (if i = 1 then 1 else 0) else if op = 13 then (if i = 0 then 1 else if i = 2 then 2 else 0) else 0
theorem bindN_le (op : Int) (i : Nat) : bindN op i ≤ 2 := by
  unfold bindN
  repeat' split
  all_goals omega
theorem binders_ok {n : Nat} (hn : 0 < n) (op : Int) (i : Nat) : Ans (SS dt n 48 [iv op, iv i] ⟨[], []⟩) (.int .i64 (bindN op i)) := by
  obtain ⟨n, rfl⟩ : ∃ k, n = k + 1 := ⟨n - 1, by omega⟩
  rw [c48]
  unfold bindN
  by_cases h : op = 3 ∨ op = 4 ∨ op = 6 ∨ op = 20 ∨ op = 28 ∨ op = 29
  · rw [if_pos h]
    by_cases hi : i = 1
    · subst hi
      rcases h with rfl | rfl | rfl | rfl | rfl | rfl <;> (simp only [S48_18, S48_19, S48_20, S48_21, S48_22, S48, ↓XX, ↓reduceIte, Nat.reduceBEq, decide_true, decide_false, Bool.not_true, Bool.not_false, List.map_cons, List.map_nil, List.length_map, List.length_cons, List.length_nil, Nat.reduceAdd, Int.cast_ofNat_Int, Int.natCast_zero, Int.natCast_one, Bool.false_eq_true, Bool.true_eq_false, decide_eq_true_eq, eq_self, Int.reduceEq, Int.reduceLT, Int.reduceLE, Bool.and_true, Bool.true_and, Bool.and_false, Bool.false_and, Nat.zero_add]; exact ans_fv _ _)
    · have hi' : ¬ (i : Int) = 1 := by omega
      rcases h with rfl | rfl | rfl | rfl | rfl | rfl <;> (simp only [S48_18, S48_19, S48_20, S48_21, S48_22, S48, ↓XX, ↓reduceIte, Nat.reduceBEq, decide_true, decide_false, Bool.not_true, Bool.not_false, List.map_cons, List.map_nil, List.length_map, List.length_cons, List.length_nil, Nat.reduceAdd, Int.cast_ofNat_Int, Int.natCast_zero, Int.natCast_one, Bool.false_eq_true, Bool.true_eq_false, decide_eq_true_eq, eq_self, Int.reduceEq, Int.reduceLT, Int.reduceLE, Bool.and_true, Bool.true_and, Bool.and_false, Bool.false_and, Nat.zero_add, hi', hi]; exact ans_fv _ _)
  · rw [if_neg h]
    have h3 : ¬ op = 3 := fun e => h (by simp [e])
    have h4 : ¬ op = 4 := fun e => h (by simp [e])
    have h6 : ¬ op = 6 := fun e => h (by simp [e])
    have h20 : ¬ op = 20 := fun e => h (by simp [e])
    have h28 : ¬ op = 28 := fun e => h (by simp [e])
    have h29 : ¬ op = 29 := fun e => h (by simp [e])
    by_cases h13 : op = 13
    · subst h13
      by_cases hi : i = 0
      · subst hi
        simp only [S48_18, S48_19, S48_20, S48_21, S48_22, S48, ↓XX, ↓reduceIte, Nat.reduceBEq, decide_true, decide_false, Bool.not_true, Bool.not_false, List.map_cons, List.map_nil, List.length_map, List.length_cons, List.length_nil, Nat.reduceAdd, Int.cast_ofNat_Int, Int.natCast_zero, Int.natCast_one, Bool.false_eq_true, Bool.true_eq_false, decide_eq_true_eq, eq_self, Int.reduceEq, Int.reduceLT, Int.reduceLE, Bool.and_true, Bool.true_and, Bool.and_false, Bool.false_and, Nat.zero_add]; exact ans_fv _ _
      · have hi' : ¬ (i : Int) = 0 := by omega
        by_cases hj : i = 2
        · subst hj
          simp only [S48_18, S48_19, S48_20, S48_21, S48_22, S48, ↓XX, ↓reduceIte, Nat.reduceBEq, decide_true, decide_false, Bool.not_true, Bool.not_false, List.map_cons, List.map_nil, List.length_map, List.length_cons, List.length_nil, Nat.reduceAdd, Int.cast_ofNat_Int, Int.natCast_zero, Int.natCast_one, Bool.false_eq_true, Bool.true_eq_false, decide_eq_true_eq, eq_self, Int.reduceEq, Int.reduceLT, Int.reduceLE, Bool.and_true, Bool.true_and, Bool.and_false, Bool.false_and, Nat.zero_add]; exact ans_fv _ _
        · have hj' : ¬ (i : Int) = 2 := by omega
          simp only [S48_18, S48_19, S48_20, S48_21, S48_22, S48, ↓XX, ↓reduceIte, Nat.reduceBEq, decide_true, decide_false, Bool.not_true, Bool.not_false, List.map_cons, List.map_nil, List.length_map, List.length_cons, List.length_nil, Nat.reduceAdd, Int.cast_ofNat_Int, Int.natCast_zero, Int.natCast_one, Bool.false_eq_true, Bool.true_eq_false, decide_eq_true_eq, eq_self, Int.reduceEq, Int.reduceLT, Int.reduceLE, Bool.and_true, Bool.true_and, Bool.and_false, Bool.false_and, Nat.zero_add, hi, hi', hj, hj']; exact ans_fv _ _
    · simp only [S48_18, S48_19, S48_20, S48_21, S48_22, S48, ↓XX, ↓reduceIte, Nat.reduceBEq, decide_true, decide_false, Bool.not_true, Bool.not_false, List.map_cons, List.map_nil, List.length_map, List.length_cons, List.length_nil, Nat.reduceAdd, Int.cast_ofNat_Int, Int.natCast_zero, Int.natCast_one, Bool.false_eq_true, Bool.true_eq_false, decide_eq_true_eq, eq_self, Int.reduceEq, Int.reduceLT, Int.reduceLE, Bool.and_true, Bool.true_and, Bool.and_false, Bool.false_and, Nat.zero_add, h3, h4, h6, h20, h28, h29, h13]; exact ans_fv _ _
theorem v_ok {n : Nat} (hn : 0 < n) (x : Int) : Ans (SS dt n 29 [iv x] ⟨[], []⟩) (Tm.mk 1 x []).enc := by
  obtain ⟨n, rfl⟩ : ∃ k, n = k + 1 := ⟨n - 1, by omega⟩
  rw [c29]
  simp only [S29, ↓XX, ↓reduceIte, Nat.reduceBEq, decide_true, decide_false, Bool.not_true, Bool.not_false, List.map_cons, List.map_nil, List.length_map, List.length_cons, List.length_nil, Nat.reduceAdd, Int.cast_ofNat_Int, Int.natCast_zero, Int.natCast_one, Bool.false_eq_true, Bool.true_eq_false, decide_eq_true_eq, eq_self, Int.reduceEq, Int.reduceLT, Int.reduceLE, Bool.and_true, Bool.true_and, Bool.and_false, Bool.false_and, Nat.zero_add]
  exact ans_p rfl _
theorem uni_ok {n : Nat} (hn : 0 < n) (x : Int) : Ans (SS dt n 60 [iv x] ⟨[], []⟩) (Tm.mk 2 x []).enc := by
  obtain ⟨n, rfl⟩ : ∃ k, n = k + 1 := ⟨n - 1, by omega⟩
  rw [c60]
  simp only [S60, ↓XX, ↓reduceIte, Nat.reduceBEq, decide_true, decide_false, Bool.not_true, Bool.not_false, List.map_cons, List.map_nil, List.length_map, List.length_cons, List.length_nil, Nat.reduceAdd, Int.cast_ofNat_Int, Int.natCast_zero, Int.natCast_one, Bool.false_eq_true, Bool.true_eq_false, decide_eq_true_eq, eq_self, Int.reduceEq, Int.reduceLT, Int.reduceLE, Bool.and_true, Bool.true_and, Bool.and_false, Bool.false_and, Nat.zero_add]
  exact ans_p rfl _
theorem int_ok {n : Nat} (hn : 0 < n) (x : Int) : Ans (SS dt n 31 [iv x] ⟨[], []⟩) (Tm.mk 25 x []).enc := by
  obtain ⟨n, rfl⟩ : ∃ k, n = k + 1 := ⟨n - 1, by omega⟩
  rw [c31]
  simp only [S31, ↓XX, ↓reduceIte, Nat.reduceBEq, decide_true, decide_false, Bool.not_true, Bool.not_false, List.map_cons, List.map_nil, List.length_map, List.length_cons, List.length_nil, Nat.reduceAdd, Int.cast_ofNat_Int, Int.natCast_zero, Int.natCast_one, Bool.false_eq_true, Bool.true_eq_false, decide_eq_true_eq, eq_self, Int.reduceEq, Int.reduceLT, Int.reduceLE, Bool.and_true, Bool.true_and, Bool.and_false, Bool.false_and, Nat.zero_add]
  exact ans_p rfl _
mutual
/-- No more than four kids anywhere. -/
def Tm.wk : Tm → Prop
  | .mk _ _ ks => ks.length ≤ 4 ∧ Tm.wkL ks
def Tm.wkL : List Tm → Prop
  | [] => True
  | t :: l => t.wk ∧ Tm.wkL l
end
theorem wk_mem {t : Tm} : ∀ {l : List Tm}, Tm.wkL l → t ∈ l → t.wk
  | a :: l, h, hm => by
    rw [Tm.wkL] at h
    rcases List.mem_cons.1 hm with rfl | hm
    · exact h.1
    · exact wk_mem h.2 hm
/-! Shifts. -/
mutual
def Tm.shift : Tm → Int → Int → Tm
  | .mk op n ks, d, c => .mk op (if op = 1 ∧ c ≤ n then w64 (n + d) else n) (Tm.shiftL op 0 ks d c)
def Tm.shiftL : Int → Nat → List Tm → Int → Int → List Tm
  | _, _, [], _, _ => []
  | op, i, t :: l, d, c => t.shift d (c + bindN op i) :: Tm.shiftL op (i + 1) l d c
end
theorem shiftL_len (op : Int) (d c : Int) : ∀ (l : List Tm) (i : Nat), (Tm.shiftL op i l d c).length = l.length
  | [], _ => rfl
  | _ :: l, i => by simp only [Tm.shiftL, List.length_cons, shiftL_len op d c l]
theorem shiftL_app (op d c : Int) : ∀ (l l' : List Tm) (i : Nat), Tm.shiftL op i (l ++ l') d c = Tm.shiftL op i l d c ++ Tm.shiftL op (i + l.length) l' d c
  | [], l', i => by simp [Tm.shiftL]
  | t :: l, l', i => by simp only [List.cons_append, Tm.shiftL, shiftL_app op d c l l', List.length_cons]; congr 3; omega
theorem shift_ok : ∀ (n : Nat) (t : Tm) (d c : Int), t.wt + 1 < n → t.wk → 0 ≤ c → c + 2 * t.wt ≤ 4611686018427387904 → Ans (SS dt n 28 [.fv t.enc, iv d, iv c] ⟨[], []⟩) (t.shift d c).enc := by
  intro n
  induction n with
  | zero => intro t d c h; omega
  | succ n ih =>
    intro t d c h hw hc0 hc
    obtain ⟨op, m, ks⟩ := t
    simp only [Tm.wt] at h hc
    rw [Tm.wk] at hw
    rw [c28, enc_mk]
    have hlen := wt_len ks
    have main : ∀ m', m' = (if op = 1 ∧ c ≤ m then w64 (m + d) else m) →
        Ans (loopS n (fun q28 l29 h30 => S28_135 l29 h30 (SS dt n) ⟨[], []⟩ q28) [iv d, iv c, .ptr (.own 29360128) 0, .ptr (.own 29360129) 0, .ptr (.own 29361157) 0, iv 0]
          ⟨[(29360128, .row [iv op, iv m, .fv (.sl (ks.map Tm.enc))] false), (29360129, .row [iv 0, iv 0, .nils] false), (29361157, .row [iv op, iv m', .nils] false)], []⟩) ((Tm.mk op m ks).shift d c).enc := by
      intro m' hm'
      refine loop_run (Q := fun r => Ans r _) (fun k V H => ∃ pre rest, ks = pre ++ rest ∧ rest.length = k ∧ V = [iv d, iv c, .ptr (.own 29360128) 0, .ptr (.own 29360129) 0, .ptr (.own 29361157) 0, iv pre.length] ∧
        ((pre = [] ∧ H = ⟨[(29360128, .row [iv op, iv m, .fv (.sl (ks.map Tm.enc))] false), (29360129, .row [iv 0, iv 0, .nils] false), (29361157, .row [iv op, iv m', .nils] false)], []⟩) ∨
         (pre ≠ [] ∧ H = ⟨[(29360128, .row [iv op, iv m, .fv (.sl (ks.map Tm.enc))] false), (29360129, .row [iv 0, iv 0, .nils] false), (29361157, .row [iv op, iv m', .app (.own 29367312) ((Tm.shiftL op 0 pre d c).map Tm.enc)] false), (29367312, .tok (Tm.shiftL op 0 pre d c).length 3)], []⟩)))
        ?_ n ks.length _ _ (by omega) ⟨[], ks, rfl, rfl, rfl, .inl ⟨rfl, rfl⟩⟩
      rintro k V H rec ⟨pre, rest, hk, hl, rfl, hH⟩ hrec
      have hkl : ks.length = pre.length + rest.length := by rw [hk]; simp
      cases rest with
      | nil =>
        have hno : ¬ ((pre.length : Int) < ks.length) := by rw [hkl]; simp
        have hpre : ks = pre := by simpa using hk
        rcases hH with ⟨rfl, rfl⟩ | ⟨_, rfl⟩
        · subst hpre
          simp only [S28_127, S28_128, S28_129, S28_130, S28_131, S28_132, S28_133, S28_134, S28_135, S28_136, S28_137, S28_138, S28_139, S28_140, S28, ↓XX, ↓reduceIte, Nat.reduceBEq, decide_true, decide_false, Bool.not_true, Bool.not_false, List.map_cons, List.map_nil, List.length_map, List.length_cons, List.length_nil, Nat.reduceAdd, Int.cast_ofNat_Int, Int.natCast_zero, Int.natCast_one, Bool.false_eq_true, Bool.true_eq_false, decide_eq_true_eq, eq_self, Int.reduceEq, Int.reduceLT, Int.reduceLE, Bool.and_true, Bool.true_and, Bool.and_false, Bool.false_and, Nat.zero_add, Int.lt_irrefl, Tm.shift, Tm.shiftL, ← hm', enc_mk]
          exact ans_p rfl _
        · subst hpre
          simp only [S28_127, S28_128, S28_129, S28_130, S28_131, S28_132, S28_133, S28_134, S28_135, S28_136, S28_137, S28_138, S28_139, S28_140, S28, ↓XX, ↓reduceIte, Nat.reduceBEq, decide_true, decide_false, Bool.not_true, Bool.not_false, List.map_cons, List.map_nil, List.length_map, List.length_cons, List.length_nil, Nat.reduceAdd, Int.cast_ofNat_Int, Int.natCast_zero, Int.natCast_one, Bool.false_eq_true, Bool.true_eq_false, decide_eq_true_eq, eq_self, Int.reduceEq, Int.reduceLT, Int.reduceLE, Bool.and_true, Bool.true_and, Bool.and_false, Bool.false_and, Nat.zero_add, Int.lt_irrefl, Tm.shift, ← hm', enc_mk]
          exact ans_p rfl _
      | cons t rest =>
        have hi : (pre.length : Int) < ks.length := by rw [hkl]; simp; omega
        have hg := at_pre hk
        have htw := wt_mem (t := t) (l := ks) (by rw [hk]; simp)
        have hb := binders_ok (n := n) (by omega) op pre.length
        have hble := bindN_le op pre.length
        have hs := ih t d (c + bindN op pre.length) (by omega) (wk_mem hw.2 (by rw [hk]; simp)) (by omega) (by omega)
        have hx : Tm.shiftL op 0 (pre ++ [t]) d c = Tm.shiftL op 0 pre d c ++ [t.shift d (c + bindN op pre.length)] := by
          rw [shiftL_app]; simp [Tm.shiftL]
        have hwc : w64 (c + bindN op pre.length) = c + bindN op pre.length := by rw [w64_id] <;> omega
        have hwi : w64 ((pre.length : Int) + 1) = ((pre ++ [t]).length : Int) := (w64_id (by omega) (by omega)).trans (by simp)
        generalize hu : t.shift d (c + bindN op pre.length) = u at hs hx
        obtain ⟨o, p, l⟩ := t
        simp only [List.length_cons] at hl
        rw [enc_mk] at hs
        rcases hH with ⟨hp0, rfl⟩ | ⟨hne, rfl⟩
        · simp only [S28_127, S28_128, S28_129, S28_130, S28_131, S28_132, S28_133, S28_134, S28_135, S28_136, S28_137, S28_138, S28_139, S28_140, S28, ↓XX, ↓reduceIte, Nat.reduceBEq, decide_true, decide_false, Bool.not_true, Bool.not_false, List.map_cons, List.map_nil, List.length_map, List.length_cons, List.length_nil, Nat.reduceAdd, Int.cast_ofNat_Int, Int.natCast_zero, Int.natCast_one, Bool.false_eq_true, Bool.true_eq_false, decide_eq_true_eq, eq_self, Int.reduceEq, Int.reduceLT, Int.reduceLE, Bool.and_true, Bool.true_and, Bool.and_false, Bool.false_and, Nat.zero_add, hi, ↓ix_f (map_get hg) (agg3l _ _ _), ↓agg3, ↓iso_2 hb, hwc, hwi, ↓iso_3 hs, ↓bs1_tm, ↓app0_tm, ↓drop_e, XD, heldB, flatD, List.any_cons, List.any_nil, List.all_cons, List.all_nil, List.filter_cons, List.filter_nil, List.contains_cons, List.contains_nil, Bool.or_false, Bool.or_true, Bool.false_or, Bool.true_or, Bool.and_self, Bool.not_eq_true, BEq.rfl, beq_self_eq_true]
          refine hrec rest.length _ _ (by omega) ?_
          refine ⟨pre ++ [.mk o p l], rest, by rw [hk]; simp, rfl, rfl, .inr ⟨by simp, ?_⟩⟩
          rw [hx, hp0]
          rfl
        · have hle : (Tm.shiftL op 0 pre d c).length + 1 ≤ 1000000 := by rw [shiftL_len]; omega
          have hq : (Tm.shiftL op 0 pre d c).length = pre.length := shiftL_len ..
          simp only [S28_127, S28_128, S28_129, S28_130, S28_131, S28_132, S28_133, S28_134, S28_135, S28_136, S28_137, S28_138, S28_139, S28_140, S28, ↓XX, ↓reduceIte, Nat.reduceBEq, decide_true, decide_false, Bool.not_true, Bool.not_false, List.map_cons, List.map_nil, List.length_map, List.length_cons, List.length_nil, Nat.reduceAdd, Int.cast_ofNat_Int, Int.natCast_zero, Int.natCast_one, Bool.false_eq_true, Bool.true_eq_false, decide_eq_true_eq, eq_self, Int.reduceEq, Int.reduceLT, Int.reduceLE, Bool.and_true, Bool.true_and, Bool.and_false, Bool.false_and, Nat.zero_add, hi, ↓ix_f (map_get hg) (agg3l _ _ _), ↓agg3, ↓iso_2 hb, hwc, hwi, ↓iso_3 hs, ↓bs1_tm, ↓app1_tm hle, ↓tok_k, ↓drop_e, XD, heldB, flatD, List.any_cons, List.any_nil, List.all_cons, List.all_nil, List.filter_cons, List.filter_nil, List.contains_cons, List.contains_nil, Bool.or_false, Bool.or_true, Bool.false_or, Bool.true_or, Bool.and_self, Bool.not_eq_true, BEq.rfl, beq_self_eq_true]
          refine hrec rest.length _ _ (by omega) ?_
          refine ⟨pre ++ [.mk o p l], rest, by rw [hk]; simp, rfl, rfl, .inr ⟨by simp, ?_⟩⟩
          rw [hx]
          simp only [List.length_append, List.length_cons, List.length_nil]
    by_cases h1 : op = 1
    · by_cases h2 : c ≤ m
      · subst h1
        simp only [S28_127, S28_128, S28_129, S28_130, S28_131, S28_132, S28_133, S28_134, S28_136, S28_137, S28_138, S28_139, S28_140, S28, ↓XX, ↓reduceIte, Nat.reduceBEq, decide_true, decide_false, Bool.not_true, Bool.not_false, List.map_cons, List.map_nil, List.length_map, List.length_cons, List.length_nil, Nat.reduceAdd, Int.cast_ofNat_Int, Int.natCast_zero, Int.natCast_one, Bool.false_eq_true, Bool.true_eq_false, decide_eq_true_eq, eq_self, Int.reduceEq, Int.reduceLT, Int.reduceLE, Bool.and_true, Bool.true_and, Bool.and_false, Bool.false_and, Nat.zero_add, h2, ↓drop_e, XD, heldB, flatD, List.any_cons, List.any_nil, List.all_cons, List.all_nil, List.filter_cons, List.filter_nil, List.contains_cons, List.contains_nil, Bool.or_false, Bool.or_true, Bool.false_or, Bool.true_or, Bool.and_self, Bool.not_eq_true, BEq.rfl, beq_self_eq_true]
        exact main _ (by simp [h2])
      · subst h1
        simp only [S28_127, S28_128, S28_129, S28_130, S28_131, S28_132, S28_133, S28_134, S28_136, S28_137, S28_138, S28_139, S28_140, S28, ↓XX, ↓reduceIte, Nat.reduceBEq, decide_true, decide_false, Bool.not_true, Bool.not_false, List.map_cons, List.map_nil, List.length_map, List.length_cons, List.length_nil, Nat.reduceAdd, Int.cast_ofNat_Int, Int.natCast_zero, Int.natCast_one, Bool.false_eq_true, Bool.true_eq_false, decide_eq_true_eq, eq_self, Int.reduceEq, Int.reduceLT, Int.reduceLE, Bool.and_true, Bool.true_and, Bool.and_false, Bool.false_and, Nat.zero_add, h2, ↓drop_e, XD, heldB, flatD, List.any_cons, List.any_nil, List.all_cons, List.all_nil, List.filter_cons, List.filter_nil, List.contains_cons, List.contains_nil, Bool.or_false, Bool.or_true, Bool.false_or, Bool.true_or, Bool.and_self, Bool.not_eq_true, BEq.rfl, beq_self_eq_true]
        exact main _ (by simp [h2])
    · simp only [S28_127, S28_128, S28_129, S28_130, S28_131, S28_132, S28_133, S28_134, S28_136, S28_137, S28_138, S28_139, S28_140, S28, ↓XX, ↓reduceIte, Nat.reduceBEq, decide_true, decide_false, Bool.not_true, Bool.not_false, List.map_cons, List.map_nil, List.length_map, List.length_cons, List.length_nil, Nat.reduceAdd, Int.cast_ofNat_Int, Int.natCast_zero, Int.natCast_one, Bool.false_eq_true, Bool.true_eq_false, decide_eq_true_eq, eq_self, Int.reduceEq, Int.reduceLT, Int.reduceLE, Bool.and_true, Bool.true_and, Bool.and_false, Bool.false_and, Nat.zero_add, h1, ↓drop_e, XD, heldB, flatD, List.any_cons, List.any_nil, List.all_cons, List.all_nil, List.filter_cons, List.filter_nil, List.contains_cons, List.contains_nil, Bool.or_false, Bool.or_true, Bool.false_or, Bool.true_or, Bool.and_self, Bool.not_eq_true, BEq.rfl, beq_self_eq_true]
      exact main _ (by simp [h1])
end Idl
end Go.Proofs.Ytdibmackcbpniaa
namespace Go.Proofs.Ytdibmackcbpniaa
namespace Idl
mutual
def Tm.subst : Tm → Int → Int → Tm → Tm
  | .mk op m ks, n, d, u => if op = 1 then (if m = n then u.shift d 0 else if n < m then .mk 1 (w64 (m - 1)) [] else .mk op m ks) else .mk op m (Tm.substL op 0 ks n d u)
def Tm.substL : Int → Nat → List Tm → Int → Int → Tm → List Tm
  | _, _, [], _, _, _ => []
  | op, i, t :: l, n, d, u => t.subst (n + bindN op i) (d + bindN op i) u :: Tm.substL op (i + 1) l n d u
end
theorem substL_len (op n d : Int) (u : Tm) : ∀ (l : List Tm) (i : Nat), (Tm.substL op i l n d u).length = l.length
  | [], _ => rfl
  | _ :: l, i => by simp only [Tm.substL, List.length_cons, substL_len op n d u l]
theorem substL_app (op n d : Int) (u : Tm) : ∀ (l l' : List Tm) (i : Nat), Tm.substL op i (l ++ l') n d u = Tm.substL op i l n d u ++ Tm.substL op (i + l.length) l' n d u
  | [], l', i => by simp [Tm.substL]
  | t :: l, l', i => by simp only [List.cons_append, Tm.substL, substL_app op n d u l l', List.length_cons]; congr 3; omega
theorem subst_ok (u : Tm) (hu : u.wk) (huw : u.wt ≤ 1152921504606846976) : ∀ (n : Nat) (t : Tm) (c d : Int), t.wt + u.wt + 3 < n → t.wk → -1000000000 ≤ c → c + 2 * t.wt ≤ 461168601842738 → 0 ≤ d → d + 2 * t.wt ≤ 461168601842738 →
    Ans (SS dt n 113 [.fv t.enc, iv c, iv d, .fv u.enc] ⟨[], []⟩) (t.subst c d u).enc := by
  intro n
  induction n with
  | zero => intro t c d h; omega
  | succ n ih =>
    intro t c d h hw hc0 hc hd0 hd
    obtain ⟨op, m, ks⟩ := t
    simp only [Tm.wt] at h hc hd
    rw [Tm.wk] at hw
    rw [c113, enc_mk]
    have hlen := wt_len ks
    by_cases h1 : op = 1
    · subst h1
      have hsh := shift_ok n u d 0 (by omega) hu (by omega) (by omega)
      rw [Tm.subst, if_pos rfl]
      generalize u.shift d 0 = z at hsh ⊢
      obtain ⟨uo, un, uk⟩ := u
      obtain ⟨zo, zn, zk⟩ := z
      rw [enc_mk] at hsh ⊢
      by_cases h2 : m = c
      · subst h2
        simp only [S113_135, S113_136, S113_137, S113_138, S113_139, S113_140, S113_141, S113_142, S113_143, S113_144, S113_145, S113_146, S113_147, S113_149, S113_150, S113_151, S113, ↓XX, ↓reduceIte, Nat.reduceBEq, decide_true, decide_false, Bool.not_true, Bool.not_false, List.map_cons, List.map_nil, List.length_map, List.length_cons, List.length_nil, Nat.reduceAdd, Int.cast_ofNat_Int, Int.natCast_zero, Int.natCast_one, Bool.false_eq_true, Bool.true_eq_false, decide_eq_true_eq, eq_self, Int.reduceEq, Int.reduceLT, Int.reduceLE, Bool.and_true, Bool.true_and, Bool.and_false, Bool.false_and, Nat.zero_add, ↓iso_3 hsh]
        simp only [S113_135, S113_136, S113_137, S113_138, S113_139, S113_140, S113_141, S113_142, S113_143, S113_144, S113_145, S113_146, S113_147, S113_149, S113_150, S113_151, S113, ↓XX, ↓reduceIte, Nat.reduceBEq, decide_true, decide_false, Bool.not_true, Bool.not_false, List.map_cons, List.map_nil, List.length_map, List.length_cons, List.length_nil, Nat.reduceAdd, Int.cast_ofNat_Int, Int.natCast_zero, Int.natCast_one, Bool.false_eq_true, Bool.true_eq_false, decide_eq_true_eq, eq_self, Int.reduceEq, Int.reduceLT, Int.reduceLE, Bool.and_true, Bool.true_and, Bool.and_false, Bool.false_and, Nat.zero_add, enc_mk]
        exact ans_p rfl _
      · by_cases h3 : c < m
        · simp only [S113_135, S113_136, S113_137, S113_138, S113_139, S113_140, S113_141, S113_142, S113_143, S113_144, S113_145, S113_146, S113_147, S113_149, S113_150, S113_151, S113, ↓XX, ↓reduceIte, Nat.reduceBEq, decide_true, decide_false, Bool.not_true, Bool.not_false, List.map_cons, List.map_nil, List.length_map, List.length_cons, List.length_nil, Nat.reduceAdd, Int.cast_ofNat_Int, Int.natCast_zero, Int.natCast_one, Bool.false_eq_true, Bool.true_eq_false, decide_eq_true_eq, eq_self, Int.reduceEq, Int.reduceLT, Int.reduceLE, Bool.and_true, Bool.true_and, Bool.and_false, Bool.false_and, Nat.zero_add, h2, h3, enc_mk]
          exact ans_p rfl _
        · simp only [S113_135, S113_136, S113_137, S113_138, S113_139, S113_140, S113_141, S113_142, S113_143, S113_144, S113_145, S113_146, S113_147, S113_149, S113_150, S113_151, S113, ↓XX, ↓reduceIte, Nat.reduceBEq, decide_true, decide_false, Bool.not_true, Bool.not_false, List.map_cons, List.map_nil, List.length_map, List.length_cons, List.length_nil, Nat.reduceAdd, Int.cast_ofNat_Int, Int.natCast_zero, Int.natCast_one, Bool.false_eq_true, Bool.true_eq_false, decide_eq_true_eq, eq_self, Int.reduceEq, Int.reduceLT, Int.reduceLE, Bool.and_true, Bool.true_and, Bool.and_false, Bool.false_and, Nat.zero_add, h2, h3, enc_mk]
          exact ans_p rfl _
    · have main :
        Ans (loopS n (fun q l h => S113_148 l h (SS dt n) ⟨[], []⟩ q) [iv c, iv d, .ptr (.own 118489088) 0, .ptr (.own 118489089) 0, .ptr (.own 118489090) 0, .ptr (.own 118496261) 0, iv 0]
          ⟨[(118489088, .row [iv op, iv m, .fv (.sl (ks.map Tm.enc))] false), (118489089, .row [iv u.op, iv u.n, .fv (.sl (u.kids.map Tm.enc))] false), (118489090, .row [iv 0, iv 0, .nils] false), (118496261, .row [iv op, iv m, .nils] false)], []⟩)
            (Tm.mk op m (Tm.substL op 0 ks c d u)).enc := by
        refine loop_run (Q := fun r => Ans r _) (fun k V H => ∃ pre rest, ks = pre ++ rest ∧ rest.length = k ∧ V = [iv c, iv d, .ptr (.own 118489088) 0, .ptr (.own 118489089) 0, .ptr (.own 118489090) 0, .ptr (.own 118496261) 0, iv pre.length] ∧
          ((pre = [] ∧ H = ⟨[(118489088, .row [iv op, iv m, .fv (.sl (ks.map Tm.enc))] false), (118489089, .row [iv u.op, iv u.n, .fv (.sl (u.kids.map Tm.enc))] false), (118489090, .row [iv 0, iv 0, .nils] false), (118496261, .row [iv op, iv m, .nils] false)], []⟩) ∨
           (pre ≠ [] ∧ H = ⟨[(118489088, .row [iv op, iv m, .fv (.sl (ks.map Tm.enc))] false), (118489089, .row [iv u.op, iv u.n, .fv (.sl (u.kids.map Tm.enc))] false), (118489090, .row [iv 0, iv 0, .nils] false),
            (118496261, .row [iv op, iv m, .app (.own 118501392) ((Tm.substL op 0 pre c d u).map Tm.enc)] false), (118501392, .tok (Tm.substL op 0 pre c d u).length 3)], []⟩)))
          ?_ n ks.length _ _ (by omega) ⟨[], ks, rfl, rfl, rfl, .inl ⟨rfl, rfl⟩⟩
        rintro k V H rec ⟨pre, rest, hk, hl, rfl, hH⟩ hrec
        have hkl : ks.length = pre.length + rest.length := by rw [hk]; simp
        cases rest with
        | nil =>
          have hno : ¬ ((pre.length : Int) < ks.length) := by rw [hkl]; simp
          have hpre : ks = pre := by simpa using hk
          rcases hH with ⟨rfl, rfl⟩ | ⟨_, rfl⟩
          · subst hpre
            simp only [S113_135, S113_136, S113_137, S113_138, S113_139, S113_140, S113_141, S113_142, S113_143, S113_144, S113_145, S113_146, S113_147, S113_148, S113_149, S113_150, S113_151, S113, ↓XX, ↓reduceIte, Nat.reduceBEq, decide_true, decide_false, Bool.not_true, Bool.not_false, List.map_cons, List.map_nil, List.length_map, List.length_cons, List.length_nil, Nat.reduceAdd, Int.cast_ofNat_Int, Int.natCast_zero, Int.natCast_one, Bool.false_eq_true, Bool.true_eq_false, decide_eq_true_eq, eq_self, Int.reduceEq, Int.reduceLT, Int.reduceLE, Bool.and_true, Bool.true_and, Bool.and_false, Bool.false_and, Nat.zero_add, Int.lt_irrefl, Tm.substL, enc_mk]
            exact ans_p rfl _
          · subst hpre
            simp only [S113_135, S113_136, S113_137, S113_138, S113_139, S113_140, S113_141, S113_142, S113_143, S113_144, S113_145, S113_146, S113_147, S113_148, S113_149, S113_150, S113_151, S113, ↓XX, ↓reduceIte, Nat.reduceBEq, decide_true, decide_false, Bool.not_true, Bool.not_false, List.map_cons, List.map_nil, List.length_map, List.length_cons, List.length_nil, Nat.reduceAdd, Int.cast_ofNat_Int, Int.natCast_zero, Int.natCast_one, Bool.false_eq_true, Bool.true_eq_false, decide_eq_true_eq, eq_self, Int.reduceEq, Int.reduceLT, Int.reduceLE, Bool.and_true, Bool.true_and, Bool.and_false, Bool.false_and, Nat.zero_add, Int.lt_irrefl, enc_mk]
            exact ans_p rfl _
        | cons t rest =>
          have hi : (pre.length : Int) < ks.length := by rw [hkl]; simp; omega
          have hg := at_pre hk
          have htw := wt_mem (t := t) (l := ks) (by rw [hk]; simp)
          have hb := binders_ok (n := n) (by omega) op pre.length
          have hble := bindN_le op pre.length
          have hs := ih t (c + bindN op pre.length) (d + bindN op pre.length) (by omega) (wk_mem hw.2 (by rw [hk]; simp)) (by omega) (by omega) (by omega) (by omega)
          have hx : Tm.substL op 0 (pre ++ [t]) c d u = Tm.substL op 0 pre c d u ++ [t.subst (c + bindN op pre.length) (d + bindN op pre.length) u] := by
            rw [substL_app]; simp [Tm.substL]
          have hwc : w64 (c + bindN op pre.length) = c + bindN op pre.length := by rw [w64_id] <;> omega
          have hwd : w64 (d + bindN op pre.length) = d + bindN op pre.length := by rw [w64_id] <;> omega
          have hwi : w64 ((pre.length : Int) + 1) = ((pre ++ [t]).length : Int) := (w64_id (by omega) (by omega)).trans (by simp)
          generalize hv : t.subst (c + bindN op pre.length) (d + bindN op pre.length) u = v at hs hx
          obtain ⟨o, p, l⟩ := t
          simp only [List.length_cons] at hl
          have hue : u.enc = .agg [.int .i64 u.op, .int .i64 u.n, .sl (u.kids.map Tm.enc)] := by cases u; exact enc_mk ..
          rw [enc_mk, hue] at hs
          rcases hH with ⟨hp0, rfl⟩ | ⟨hne, rfl⟩
          · simp only [S113_135, S113_136, S113_137, S113_138, S113_139, S113_140, S113_141, S113_142, S113_143, S113_144, S113_145, S113_146, S113_147, S113_148, S113_149, S113_150, S113_151, S113, ↓XX, ↓reduceIte, Nat.reduceBEq, decide_true, decide_false, Bool.not_true, Bool.not_false, List.map_cons, List.map_nil, List.length_map, List.length_cons, List.length_nil, Nat.reduceAdd, Int.cast_ofNat_Int, Int.natCast_zero, Int.natCast_one, Bool.false_eq_true, Bool.true_eq_false, decide_eq_true_eq, eq_self, Int.reduceEq, Int.reduceLT, Int.reduceLE, Bool.and_true, Bool.true_and, Bool.and_false, Bool.false_and, Nat.zero_add, hi, ↓ix_f (map_get hg) (agg3l _ _ _), ↓agg3, ↓iso_2 hb, hwc, hwd, hwi, ↓iso_4 hs, ↓bs1_tm, ↓app0_tm, ↓drop_e, XD, heldB, flatD, List.any_cons, List.any_nil, List.all_cons, List.all_nil, List.filter_cons, List.filter_nil, List.contains_cons, List.contains_nil, Bool.or_false, Bool.or_true, Bool.false_or, Bool.true_or, Bool.and_self, Bool.not_eq_true, BEq.rfl, beq_self_eq_true]
            refine hrec rest.length _ _ (by omega) ?_
            refine ⟨pre ++ [.mk o p l], rest, by rw [hk]; simp, rfl, rfl, .inr ⟨by simp, ?_⟩⟩
            rw [hx, hp0]
            rfl
          · have hle : (Tm.substL op 0 pre c d u).length + 1 ≤ 1000000 := by rw [substL_len]; omega
            simp only [S113_135, S113_136, S113_137, S113_138, S113_139, S113_140, S113_141, S113_142, S113_143, S113_144, S113_145, S113_146, S113_147, S113_148, S113_149, S113_150, S113_151, S113, ↓XX, ↓reduceIte, Nat.reduceBEq, decide_true, decide_false, Bool.not_true, Bool.not_false, List.map_cons, List.map_nil, List.length_map, List.length_cons, List.length_nil, Nat.reduceAdd, Int.cast_ofNat_Int, Int.natCast_zero, Int.natCast_one, Bool.false_eq_true, Bool.true_eq_false, decide_eq_true_eq, eq_self, Int.reduceEq, Int.reduceLT, Int.reduceLE, Bool.and_true, Bool.true_and, Bool.and_false, Bool.false_and, Nat.zero_add, hi, ↓ix_f (map_get hg) (agg3l _ _ _), ↓agg3, ↓iso_2 hb, hwc, hwd, hwi, ↓iso_4 hs, ↓bs1_tm, ↓app1_tm hle, ↓tok_k, ↓drop_e, XD, heldB, flatD, List.any_cons, List.any_nil, List.all_cons, List.all_nil, List.filter_cons, List.filter_nil, List.contains_cons, List.contains_nil, Bool.or_false, Bool.or_true, Bool.false_or, Bool.true_or, Bool.and_self, Bool.not_eq_true, BEq.rfl, beq_self_eq_true]
            refine hrec rest.length _ _ (by omega) ?_
            refine ⟨pre ++ [.mk o p l], rest, by rw [hk]; simp, rfl, rfl, .inr ⟨by simp, ?_⟩⟩
            rw [hx]
            simp only [List.length_append, List.length_cons, List.length_nil]
      rw [Tm.subst, if_neg h1]
      obtain ⟨uo, un, uk⟩ := u
      rw [enc_mk (op := uo)]
      simp only [S113_135, S113_136, S113_137, S113_138, S113_139, S113_140, S113_141, S113_142, S113_143, S113_144, S113_145, S113_146, S113_147, S113_149, S113_150, S113_151, S113, ↓XX, ↓reduceIte, Nat.reduceBEq, decide_true, decide_false, Bool.not_true, Bool.not_false, List.map_cons, List.map_nil, List.length_map, List.length_cons, List.length_nil, Nat.reduceAdd, Int.cast_ofNat_Int, Int.natCast_zero, Int.natCast_one, Bool.false_eq_true, Bool.true_eq_false, decide_eq_true_eq, eq_self, Int.reduceEq, Int.reduceLT, Int.reduceLE, Bool.and_true, Bool.true_and, Bool.and_false, Bool.false_and, Nat.zero_add, h1, ↓drop_e, XD, heldB, flatD, List.any_cons, List.any_nil, List.all_cons, List.all_nil, List.filter_cons, List.filter_nil, List.contains_cons, List.contains_nil, Bool.or_false, Bool.or_true, Bool.false_or, Bool.true_or, Bool.and_self, Bool.not_eq_true, BEq.rfl, beq_self_eq_true]
      exact main
theorem Subst_ok {n : Nat} (t u : Tm) (c : Int) (hu : u.wk) (huw : u.wt ≤ 1152921504606846976) (h : t.wt + u.wt + 4 < n) (hw : t.wk) (hww : t.wt ≤ 100000000000000) (h0 : -1000000000 ≤ c) (hc : c + 2 * t.wt ≤ 461168601842738) :
    Ans (SS dt n 89 [.fv t.enc, iv c, .fv u.enc] ⟨[], []⟩) (t.subst c 0 u).enc := by
  obtain ⟨n, rfl⟩ : ∃ k, n = k + 1 := ⟨n - 1, by omega⟩
  rw [c89]
  have hs := subst_ok u hu huw n t c 0 (by omega) hw h0 hc (by omega) (by omega)
  generalize t.subst c 0 u = v at hs ⊢
  obtain ⟨o1, n1, k1⟩ := t
  obtain ⟨o2, n2, k2⟩ := u
  obtain ⟨o3, n3, k3⟩ := v
  simp only [enc_mk] at hs ⊢
  simp only [S89_28, S89, ↓XX, ↓reduceIte, Nat.reduceBEq, decide_true, decide_false, Bool.not_true, Bool.not_false, List.map_cons, List.map_nil, List.length_map, List.length_cons, List.length_nil, Nat.reduceAdd, Int.cast_ofNat_Int, Int.natCast_zero, Int.natCast_one, Bool.false_eq_true, Bool.true_eq_false, decide_eq_true_eq, eq_self, Int.reduceEq, Int.reduceLT, Int.reduceLE, Bool.and_true, Bool.true_and, Bool.and_false, Bool.false_and, Nat.zero_add, ↓iso_4 hs]
  exact ans_p rfl _
/-! Free variables. -/
mutual
def Tm.free : Tm → Int → Bool
  | .mk op m ks, c => if op = 1 then decide (m = c) else Tm.freeL op 0 ks c
def Tm.freeL : Int → Nat → List Tm → Int → Bool
  | _, _, [], _ => false
  | op, i, t :: l, c => t.free (c + bindN op i) || Tm.freeL op (i + 1) l c
end
theorem free_ok : ∀ (n : Nat) (t : Tm) (c : Int), t.wt + 1 < n → t.wt ≤ 1152921504606846976 → -1000000000 ≤ c → c + 2 * t.wt ≤ 461168601842738 → Ans (SS dt n 118 [.fv t.enc, iv c] ⟨[], []⟩) (.bool (t.free c)) := by
  intro n
  induction n with
  | zero => intro t c h; omega
  | succ n ih =>
    intro t c h hw hc0 hc
    obtain ⟨op, m, ks⟩ := t
    simp only [Tm.wt] at h hw hc
    rw [c118, enc_mk]
    have hlen := wt_len ks
    by_cases h1 : op = 1
    · subst h1
      rw [Tm.free, if_pos rfl]
      simp only [S118_48, S118_49, S118_50, S118_51, S118_52, S118, ↓XX, ↓reduceIte, Nat.reduceBEq, decide_true, decide_false, Bool.not_true, Bool.not_false, List.map_cons, List.map_nil, List.length_map, List.length_cons, List.length_nil, Nat.reduceAdd, Int.cast_ofNat_Int, Int.natCast_zero, Int.natCast_one, Bool.false_eq_true, Bool.true_eq_false, decide_eq_true_eq, eq_self, Int.reduceEq, Int.reduceLT, Int.reduceLE, Bool.and_true, Bool.true_and, Bool.and_false, Bool.false_and, Nat.zero_add]
      exact ans_fv _ _
    · rw [Tm.free, if_neg h1]
      simp only [S118_48, S118_49, S118_50, S118_51, S118_52, S118, ↓XX, ↓reduceIte, Nat.reduceBEq, decide_true, decide_false, Bool.not_true, Bool.not_false, List.map_cons, List.map_nil, List.length_map, List.length_cons, List.length_nil, Nat.reduceAdd, Int.cast_ofNat_Int, Int.natCast_zero, Int.natCast_one, Bool.false_eq_true, Bool.true_eq_false, decide_eq_true_eq, eq_self, Int.reduceEq, Int.reduceLT, Int.reduceLE, Bool.and_true, Bool.true_and, Bool.and_false, Bool.false_and, Nat.zero_add, h1]
      refine loop_run (Q := fun r => Ans r _) (fun k V H => ∃ pre rest, ks = pre ++ rest ∧ rest.length = k ∧ V = [iv c, .ptr (.own 123731968) 0, iv pre.length] ∧ H = ⟨[(123731968, .row [iv op, iv m, .fv (.sl (ks.map Tm.enc))] false)], []⟩ ∧ Tm.freeL op pre.length rest c = Tm.freeL op 0 ks c)
        ?_ n ks.length _ _ (by omega) ⟨[], ks, rfl, rfl, rfl, rfl, rfl⟩
      rintro k V H rec ⟨pre, rest, hk, hl, rfl, rfl, ht⟩ hrec
      have hkl : ks.length = pre.length + rest.length := by rw [hk]; simp
      cases rest with
      | nil =>
        have hno : ¬ ((pre.length : Int) < ks.length) := by rw [hkl]; simp
        rw [← ht]
        simp only [S118_48, S118_49, S118_50, S118_51, S118_52, S118_53, S118, ↓XX, ↓reduceIte, Nat.reduceBEq, decide_true, decide_false, Bool.not_true, Bool.not_false, List.map_cons, List.map_nil, List.length_map, List.length_cons, List.length_nil, Nat.reduceAdd, Int.cast_ofNat_Int, Int.natCast_zero, Int.natCast_one, Bool.false_eq_true, Bool.true_eq_false, decide_eq_true_eq, eq_self, Int.reduceEq, Int.reduceLT, Int.reduceLE, Bool.and_true, Bool.true_and, Bool.and_false, Bool.false_and, Nat.zero_add, hno, Tm.freeL]
        exact ans_fv _ _
      | cons t rest =>
        have hi : (pre.length : Int) < ks.length := by rw [hkl]; simp; omega
        have hg := at_pre hk
        have htw := wt_mem (t := t) (l := ks) (by rw [hk]; simp)
        have hb := binders_ok (n := n) (by omega) op pre.length
        have hble := bindN_le op pre.length
        have hs := ih t (c + bindN op pre.length) (by omega) (by omega) (by omega) (by omega)
        have hwc : w64 (c + bindN op pre.length) = c + bindN op pre.length := by rw [w64_id] <;> omega
        have hwi : w64 ((pre.length : Int) + 1) = ((pre ++ [t]).length : Int) := (w64_id (by omega) (by omega)).trans (by simp)
        simp only [Tm.freeL] at ht
        generalize t.free (c + bindN op pre.length) = v at hs ht
        obtain ⟨o, p, l⟩ := t
        simp only [List.length_cons] at hl
        rw [enc_mk] at hs
        cases v
        · simp only [S118_48, S118_49, S118_50, S118_51, S118_52, S118_53, S118, ↓XX, ↓reduceIte, Nat.reduceBEq, decide_true, decide_false, Bool.not_true, Bool.not_false, List.map_cons, List.map_nil, List.length_map, List.length_cons, List.length_nil, Nat.reduceAdd, Int.cast_ofNat_Int, Int.natCast_zero, Int.natCast_one, Bool.false_eq_true, Bool.true_eq_false, decide_eq_true_eq, eq_self, Int.reduceEq, Int.reduceLT, Int.reduceLE, Bool.and_true, Bool.true_and, Bool.and_false, Bool.false_and, Nat.zero_add, hi, ↓ix_f (map_get hg) (agg3l _ _ _), ↓agg3, ↓iso_2 hb, hwc, hwi, ↓iso_2 hs]
          refine hrec rest.length _ _ (by omega) ?_
          exact ⟨pre ++ [.mk o p l], rest, by rw [hk]; simp, rfl, rfl, rfl, by simpa using ht⟩
        · rw [← ht]
          simp only [S118_48, S118_49, S118_50, S118_51, S118_52, S118_53, S118, ↓XX, ↓reduceIte, Nat.reduceBEq, decide_true, decide_false, Bool.not_true, Bool.not_false, List.map_cons, List.map_nil, List.length_map, List.length_cons, List.length_nil, Nat.reduceAdd, Int.cast_ofNat_Int, Int.natCast_zero, Int.natCast_one, Bool.false_eq_true, Bool.true_eq_false, decide_eq_true_eq, eq_self, Int.reduceEq, Int.reduceLT, Int.reduceLE, Bool.and_true, Bool.true_and, Bool.and_false, Bool.false_and, Nat.zero_add, hi, ↓ix_f (map_get hg) (agg3l _ _ _), ↓agg3, ↓iso_2 hb, hwc, hwi, ↓iso_2 hs, Bool.true_or]
          exact ans_fv _ _
/-! Are two the same? -/
mutual
def Tm.same : Tm → Tm → Bool
  | .mk o n l, .mk o' n' l' => decide (o = o') && (decide (n = n') && (decide (l.length = l'.length) && Tm.sameL l l'))
def Tm.sameL : List Tm → List Tm → Bool
  | a :: l, b :: l' => a.same b && Tm.sameL l l'
  | _, _ => true
end
mutual
theorem same_eq : ∀ a b : Tm, a.same b = true ↔ a = b
  | .mk o n l, .mk o' n' l' => by
    simp only [Tm.same, Bool.and_eq_true, decide_eq_true_eq, Tm.mk.injEq]
    constructor
    · rintro ⟨rfl, rfl, h1, h2⟩
      exact ⟨rfl, rfl, (sameL_eq l l' h1).1 h2⟩
    · rintro ⟨rfl, rfl, rfl⟩
      exact ⟨rfl, rfl, rfl, (sameL_eq l l rfl).2 rfl⟩
theorem sameL_eq : ∀ l l' : List Tm, l.length = l'.length → (Tm.sameL l l' = true ↔ l = l')
  | [], [], _ => by simp [Tm.sameL]
  | a :: l, b :: l', h => by
    simp only [Tm.sameL, Bool.and_eq_true, List.cons.injEq, same_eq a b, sameL_eq l l' (by simpa using h)]
end
theorem same_dec [DecidableEq Tm] (a b : Tm) : a.same b = decide (a = b) := by
  rw [Bool.eq_iff_iff, same_eq]; simp
theorem same_ok : ∀ (n : Nat) (a b : Tm), a.wt + 1 < n → a.wt ≤ 1152921504606846976 → Ans (SS dt n 18 [.fv a.enc, .fv b.enc] ⟨[], []⟩) (.bool (a.same b)) := by
  intro n
  induction n with
  | zero => intro a b h; omega
  | succ n ih =>
    intro a b h hw
    obtain ⟨op, m, ks⟩ := a
    obtain ⟨op', m', ks'⟩ := b
    simp only [Tm.wt] at h hw
    rw [c18, enc_mk, enc_mk]
    have hlen := wt_len ks
    rw [Tm.same]
    by_cases h1 : op = op'
    · by_cases h2 : m = m'
      · by_cases h3 : ks.length = ks'.length
        · have h3' : (ks.length : Int) = ks'.length := by omega
          subst h1 h2
          simp only [S18_128, S18_129, S18_130, S18_131, S18_132, S18_134, S18_135, S18_136, S18_137, S18, ↓XX, ↓reduceIte, Nat.reduceBEq, decide_true, decide_false, Bool.not_true, Bool.not_false, List.map_cons, List.map_nil, List.length_map, List.length_cons, List.length_nil, Nat.reduceAdd, Int.cast_ofNat_Int, Int.natCast_zero, Int.natCast_one, Bool.false_eq_true, Bool.true_eq_false, decide_eq_true_eq, eq_self, Int.reduceEq, Int.reduceLT, Int.reduceLE, Bool.and_true, Bool.true_and, Bool.and_false, Bool.false_and, Nat.zero_add, h3, h3', Tm.same]
          refine loop_run (Q := fun r => Ans r _) (fun k V H => ∃ pre rest pre' rest', ks = pre ++ rest ∧ ks' = pre' ++ rest' ∧ pre.length = pre'.length ∧ rest.length = k ∧ V = [.ptr (.own 18874368) 0, .ptr (.own 18874369) 0, iv pre.length] ∧
            H = ⟨[(18874368, .row [iv op, iv m, .fv (.sl (ks.map Tm.enc))] false), (18874369, .row [iv op, iv m, .fv (.sl (ks'.map Tm.enc))] false)], []⟩ ∧ Tm.sameL rest rest' = Tm.sameL ks ks')
            ?_ n ks.length _ _ (by omega) ⟨[], ks, [], ks', rfl, rfl, rfl, rfl, rfl, rfl, rfl⟩
          rintro k V H rec ⟨pre, rest, pre', rest', hk, hk', hpl, hl, rfl, rfl, ht⟩ hrec
          have hkl : ks.length = pre.length + rest.length := by rw [hk]; simp
          have hkl' : ks'.length = pre'.length + rest'.length := by rw [hk']; simp
          cases rest with
          | nil =>
            have hno : ¬ ((pre.length : Int) < ks.length) := by rw [hkl]; simp
            rw [← ht]
            simp only [S18_128, S18_129, S18_130, S18_131, S18_132, S18_133, S18_134, S18_135, S18_136, S18_137, S18, ↓XX, ↓reduceIte, Nat.reduceBEq, decide_true, decide_false, Bool.not_true, Bool.not_false, List.map_cons, List.map_nil, List.length_map, List.length_cons, List.length_nil, Nat.reduceAdd, Int.cast_ofNat_Int, Int.natCast_zero, Int.natCast_one, Bool.false_eq_true, Bool.true_eq_false, decide_eq_true_eq, eq_self, Int.reduceEq, Int.reduceLT, Int.reduceLE, Bool.and_true, Bool.true_and, Bool.and_false, Bool.false_and, Nat.zero_add, hno, Tm.sameL]
            exact ans_fv _ _
          | cons t rest =>
            cases rest' with
            | nil => simp at hkl hkl'; omega
            | cons t' rest' =>
              have hi : (pre.length : Int) < ks.length := by rw [hkl]; simp; omega
              have hg := at_pre hk
              have hg' := at_pre hk'
              rw [← hpl] at hg'
              have htw := wt_mem (t := t) (l := ks) (by rw [hk]; simp)
              have hs := ih t t' (by omega) (by omega)
              have hwi : w64 ((pre.length : Int) + 1) = ((pre ++ [t]).length : Int) := (w64_id (by omega) (by omega)).trans (by simp)
              simp only [Tm.sameL] at ht
              generalize t.same t' = v at hs ht
              obtain ⟨o, p, l⟩ := t
              obtain ⟨o', p', l'⟩ := t'
              simp only [List.length_cons] at hl
              rw [enc_mk, enc_mk] at hs
              cases v
              · rw [← ht]
                simp only [S18_128, S18_129, S18_130, S18_131, S18_132, S18_133, S18_134, S18_135, S18_136, S18_137, S18, ↓XX, ↓reduceIte, Nat.reduceBEq, decide_true, decide_false, Bool.not_true, Bool.not_false, List.map_cons, List.map_nil, List.length_map, List.length_cons, List.length_nil, Nat.reduceAdd, Int.cast_ofNat_Int, Int.natCast_zero, Int.natCast_one, Bool.false_eq_true, Bool.true_eq_false, decide_eq_true_eq, eq_self, Int.reduceEq, Int.reduceLT, Int.reduceLE, Bool.and_true, Bool.true_and, Bool.and_false, Bool.false_and, Nat.zero_add, hi, ↓ix_f (map_get hg) (agg3l _ _ _), ↓ix_f (map_get hg') (agg3l _ _ _), ↓agg3, ↓iso_2 hs, Bool.false_and]
                exact ans_fv _ _
              · simp only [S18_128, S18_129, S18_130, S18_131, S18_132, S18_133, S18_134, S18_135, S18_136, S18_137, S18, ↓XX, ↓reduceIte, Nat.reduceBEq, decide_true, decide_false, Bool.not_true, Bool.not_false, List.map_cons, List.map_nil, List.length_map, List.length_cons, List.length_nil, Nat.reduceAdd, Int.cast_ofNat_Int, Int.natCast_zero, Int.natCast_one, Bool.false_eq_true, Bool.true_eq_false, decide_eq_true_eq, eq_self, Int.reduceEq, Int.reduceLT, Int.reduceLE, Bool.and_true, Bool.true_and, Bool.and_false, Bool.false_and, Nat.zero_add, hi, ↓ix_f (map_get hg) (agg3l _ _ _), ↓ix_f (map_get hg') (agg3l _ _ _), ↓agg3, hwi, ↓iso_2 hs]
                refine hrec rest.length _ _ (by omega) ?_
                exact ⟨pre ++ [.mk o p l], rest, pre' ++ [.mk o' p' l'], rest', by rw [hk]; simp, by rw [hk']; simp, by simp [hpl], rfl, rfl, rfl, by simpa using ht⟩
        · have h3' : ¬ (ks.length : Int) = ks'.length := by omega
          simp only [S18_128, S18_129, S18_130, S18_131, S18_132, S18_134, S18_135, S18_136, S18_137, S18, ↓XX, ↓reduceIte, Nat.reduceBEq, decide_true, decide_false, Bool.not_true, Bool.not_false, List.map_cons, List.map_nil, List.length_map, List.length_cons, List.length_nil, Nat.reduceAdd, Int.cast_ofNat_Int, Int.natCast_zero, Int.natCast_one, Bool.false_eq_true, Bool.true_eq_false, decide_eq_true_eq, eq_self, Int.reduceEq, Int.reduceLT, Int.reduceLE, Bool.and_true, Bool.true_and, Bool.and_false, Bool.false_and, Nat.zero_add, h1, h2, h3, h3']
          exact ans_fv _ _
      · simp only [S18_128, S18_129, S18_130, S18_131, S18_132, S18_134, S18_135, S18_136, S18_137, S18, ↓XX, ↓reduceIte, Nat.reduceBEq, decide_true, decide_false, Bool.not_true, Bool.not_false, List.map_cons, List.map_nil, List.length_map, List.length_cons, List.length_nil, Nat.reduceAdd, Int.cast_ofNat_Int, Int.natCast_zero, Int.natCast_one, Bool.false_eq_true, Bool.true_eq_false, decide_eq_true_eq, eq_self, Int.reduceEq, Int.reduceLT, Int.reduceLE, Bool.and_true, Bool.true_and, Bool.and_false, Bool.false_and, Nat.zero_add, h1, h2]
        exact ans_fv _ _
    · simp only [S18_128, S18_129, S18_130, S18_131, S18_132, S18_134, S18_135, S18_136, S18_137, S18, ↓XX, ↓reduceIte, Nat.reduceBEq, decide_true, decide_false, Bool.not_true, Bool.not_false, List.map_cons, List.map_nil, List.length_map, List.length_cons, List.length_nil, Nat.reduceAdd, Int.cast_ofNat_Int, Int.natCast_zero, Int.natCast_one, Bool.false_eq_true, Bool.true_eq_false, decide_eq_true_eq, eq_self, Int.reduceEq, Int.reduceLT, Int.reduceLE, Bool.and_true, Bool.true_and, Bool.and_false, Bool.false_and, Nat.zero_add, h1]
      exact ans_fv _ _
end Idl
end Go.Proofs.Ytdibmackcbpniaa
namespace Go.Proofs.Ytdibmackcbpniaa
namespace Idl
theorem bs1_tm' (o p : Int) (l : List Tm) (s : Nat) (h : Hp) (k : IV → Hp → List Ref → List Ref → Option (IV × Hp)) : genS (pcBuildSlice EE 28 1 [(0, .fv (.agg [.int .i64 o, .int .i64 p, .sl (l.map Tm.enc)]))]) s h k = k (.clip [.agg [.int .i64 o, .int .i64 p, .sl (l.map Tm.enc)]]) h [] [] := by
  have := bs1_tm (.mk o p l) s h k
  rw [enc_mk] at this
  exact this
def isTrueN (o : Option (IV × Hp)) : Bool := match o with
  | some (.fv (.bool b), ⟨_, []⟩) => b
  | _ => false
theorem ans_trueN {o : Option (IV × Hp)} (h : isTrueN o = true) : Ans o (.bool true) := by
  unfold isTrueN at h
  split at h
  · subst h; exact ans_fv _ _
  · cases h
theorem bs2_g (o1 n1 o2 n2 : Int) (k1 k2 : List FV) (s : Nat) (h : Hp) (k : IV → Hp → List Ref → List Ref → Option (IV × Hp)) : genS (pcBuildSlice EE 28 2 [(0, .fv (.agg [.int .i64 o1, .int .i64 n1, .sl k1])), (1, .fv (.agg [.int .i64 o2, .int .i64 n2, .sl k2]))]) s h k =
    k (.clip [.agg [.int .i64 o1, .int .i64 n1, .sl k1], .agg [.int .i64 o2, .int .i64 n2, .sl k2]]) h [] [] := bs_tm tTms tTm (by decide) (cells := [.int .i64 o1, .int .i64 n1, .sl k1, .int .i64 o2, .int .i64 n2, .sl k2]) rfl k
theorem bs3_g (o1 n1 o2 n2 o3 n3 : Int) (k1 k2 k3 : List FV) (s : Nat) (h : Hp) (k : IV → Hp → List Ref → List Ref → Option (IV × Hp)) : genS (pcBuildSlice EE 28 3 [(0, .fv (.agg [.int .i64 o1, .int .i64 n1, .sl k1])), (1, .fv (.agg [.int .i64 o2, .int .i64 n2, .sl k2])), (2, .fv (.agg [.int .i64 o3, .int .i64 n3, .sl k3]))]) s h k =
    k (.clip [.agg [.int .i64 o1, .int .i64 n1, .sl k1], .agg [.int .i64 o2, .int .i64 n2, .sl k2], .agg [.int .i64 o3, .int .i64 n3, .sl k3]]) h [] [] := bs_tm tTms tTm (by decide) (cells := [.int .i64 o1, .int .i64 n1, .sl k1, .int .i64 o2, .int .i64 n2, .sl k2, .int .i64 o3, .int .i64 n3, .sl k3]) rfl k
theorem bs4_g (o1 n1 o2 n2 o3 n3 o4 n4 : Int) (k1 k2 k3 k4 : List FV) (s : Nat) (h : Hp) (k : IV → Hp → List Ref → List Ref → Option (IV × Hp)) : genS (pcBuildSlice EE 28 4 [(0, .fv (.agg [.int .i64 o1, .int .i64 n1, .sl k1])), (1, .fv (.agg [.int .i64 o2, .int .i64 n2, .sl k2])), (2, .fv (.agg [.int .i64 o3, .int .i64 n3, .sl k3])), (3, .fv (.agg [.int .i64 o4, .int .i64 n4, .sl k4]))]) s h k =
    k (.clip [.agg [.int .i64 o1, .int .i64 n1, .sl k1], .agg [.int .i64 o2, .int .i64 n2, .sl k2], .agg [.int .i64 o3, .int .i64 n3, .sl k3], .agg [.int .i64 o4, .int .i64 n4, .sl k4]]) h [] [] := bs_tm tTms tTm (by decide) (cells := [.int .i64 o1, .int .i64 n1, .sl k1, .int .i64 o2, .int .i64 n2, .sl k2, .int .i64 o3, .int .i64 n3, .sl k3, .int .i64 o4, .int .i64 n4, .sl k4]) rfl k
theorem bs1_g (o1 n1 : Int) (k1 : List FV) (s : Nat) (h : Hp) (k : IV → Hp → List Ref → List Ref → Option (IV × Hp)) : genS (pcBuildSlice EE 28 1 [(0, .fv (.agg [.int .i64 o1, .int .i64 n1, .sl k1]))]) s h k =
    k (.clip [.agg [.int .i64 o1, .int .i64 n1, .sl k1]]) h [] [] := bs_tm tTms tTm (by decide) (cells := [.int .i64 o1, .int .i64 n1, .sl k1]) rfl k
theorem opt_some {β : Type} {x : Option IV} {v : IV} (h : x = some v) (k : IV → Option β) : optS x k = k v := by rw [optS_eq, h]; rfl
theorem bin_some {β : Type} {op : BinOp} {t : TypeId} {a b v : IV} (h : binR EE op t a b = some v) (k : IV → Option β) : binS EE t op a b k = k v := opt_some h k
def AnsV (r : Option (IV × Hp)) (v : FV) : Prop := ∃ own, r = some (.fv v, ⟨own, []⟩)
theorem ansv {v : FV} {own : List (Nat × Blk)} : AnsV (some (.fv v, ⟨own, []⟩)) v := ⟨own, rfl⟩
def tnum : Nat → Tm
  | 0 => .mk 11 0 []
  | n + 1 => .mk 12 0 [tnum n]
theorem keep0 {g : FuncId} (h : EE.pol.inl g = false) (h1 : EE.pol.keep g = []) (h2 : EE.pol.split g = false) (h3 : EE.pol.raw g = false) (ih : Handler) (xs : List IV) (h0 : Hp) (k : IV → Hp → List Ref → List Ref → Option (IV × Hp)) :
    dynS EE ih (.fv (.func (.func g) [] [])) xs h0 k = isoS [] false false ih g xs h0 k := by
  unfold dynS
  simp only [callee, h, cond_false, sp_e, h1, h2, h3, List.map_nil, List.nil_append, List.append_nil]
end Idl
end Go.Proofs.Ytdibmackcbpniaa
namespace Go.Proofs.Ytdibmackcbpniaa
namespace Idl
section
variable {β : Type} {E : Env}
/-- Cells that freeze as they are. -/
noncomputable def frzK (cs : List IV) (k : List FV → Option β) : Option β := (frz1L cs).bind k
theorem fk_nil (k : List FV → Option β) : frzK [] k = k [] := rfl
theorem fk_cons {v : IV} {x : FV} (h : frz1 v = some x) (l : List IV) (k : List FV → Option β) : frzK (v :: l) k = frzK l fun xs => k (x :: xs) := by
  simp only [frzK, frz1L, h, Option.bind_some]
  cases frz1L l <;> rfl
theorem fk_fv (v : FV) (l : List IV) (k : List FV → Option β) : frzK (.fv v :: l) k = frzK l fun xs => k (v :: xs) := fk_cons rfl l k
theorem fk_nils (l : List IV) (k : List FV → Option β) : frzK (.nils :: l) k = frzK l fun xs => k (.sl [] :: xs) := fk_cons rfl l k
theorem fk_app (r : Ref) (es : List FV) (l : List IV) (k : List FV → Option β) : frzK (.app r es :: l) k = frzK l fun xs => k (.sl es :: xs) := fk_cons rfl l k
theorem fk_clip (es : List FV) (l : List IV) (k : List FV → Option β) : frzK (.clip es :: l) k = frzK l fun xs => k (.sl es :: xs) := fk_cons rfl l k
/-- A slice of one pointer. -/
theorem bs1_ptr {t e : TypeId} {a b : Nat} {ei : TI} {z : List IV} (hT : E.T t = some ⟨a, b, .slice e, z⟩) (he : E.T e = some ei) (hs : ei.size = 1) (hz : ∃ x, ei.zero = [x]) (r s : Nat) (own : List (Nat × Blk)) (ext : List Blk)
    (hc : ∀ cells ro, lookupOwn r own = some (.row cells ro) → cells.length ≤ 100) (hk : ∀ cells ro, lookupOwn r own = some (.row cells ro) → ∃ fc, frz1L cells = some fc) (k : IV → Hp → List Ref → List Ref → Option β) :
    genS (pcBuildSlice E t 1 [(0, .ptr (.own r) 0)]) s ⟨own, ext⟩ k = ownK own r fun bl => asRow bl fun cells => frzK cells fun fc => putOwnK own r (.row cells true) fun own => k (.clip [.fp fc 0]) ⟨own, ext⟩ [.own r] [.own r] := by
  obtain ⟨x, hx⟩ := hz
  have hm : pcBuildSlice E t 1 [(0, .ptr (.own r) 0)] = (frzL (65534 + 1 + 1) [.ptr (.own r) 0]).bind fun (vs, u) => .ret { eff := { val := .clip (chunks ei.size 1 vs), upd := u } } := by
    have h1 : ¬ (ei.size = 0 ∨ 1 * ei.size > 65536) := by rw [hs]; omega
    have h2 : fillIn (fun j => some (j * ei.size, ei.size)) (rep 1 ei.zero) [(0, .ptr (.own r) 0)] = some [.ptr (.own r) 0] := by
      rw [hx, hs]; rfl
    simp only [pcBuildSlice, hT, he, if_neg h1, h2]
  rw [hm, ownK_eq]
  unfold genS
  cases hl : lookupOwn r own with
  | none =>
    have : ((frzL (65534 + 1 + 1) [.ptr (.own r) 0]).bind fun (vs, u) => Rd.ret ({ eff := { val := .clip (chunks ei.size 1 vs), upd := u } } : Made)).runLog ⟨own, ext⟩ [] = none := by
      simp only [frzL, frz, Rd.bind, Rd.runLog, Hp.get, hl]
    rw [this]; rfl
  | some bl =>
    cases bl with
    | row cells ro =>
      obtain ⟨fc, hfc⟩ := hk cells ro hl
      have hlen := hc cells ro hl
      have h3 : frzL 65534 cells = .ret (fc, []) := fr1_l cells 65534 (by omega) hfc
      have : ((frzL (65534 + 1 + 1) [.ptr (.own r) 0]).bind fun (vs, u) => Rd.ret ({ eff := { val := .clip (chunks ei.size 1 vs), upd := u } } : Made)).runLog ⟨own, ext⟩ [] =
          some ({ eff := { val := .clip (chunks ei.size 1 [.fp fc 0]), upd := [(.own r, .row cells true)] } }, [.own r]) := by
        simp only [frzL, frz, Rd.bind, Rd.runLog, Hp.get, hl, h3, List.append_nil]
      rw [this]
      simp only [Option.bind_some, asRow, frzK, hfc, hs]
      show (fRf (.own r) fun q => getK q ⟨own, ext⟩ fun _ => fBk (.row cells true) fun b => layK q b ⟨own, ext⟩ fun h => newK none s h fun h => fV 3 (.clip [.fp fc 0]) fun v => k v h [.own r] ([.own r] ++ [])) = _
      simp only [fRf_eq, fBk_eq, fV_eq, newK, layK, getK]
      rw [ownK_eq, hl]
      rfl
    | tok n sz =>
      have : ((frzL (65534 + 1 + 1) [.ptr (.own r) 0]).bind fun (vs, u) => Rd.ret ({ eff := { val := .clip (chunks ei.size 1 vs), upd := u } } : Made)).runLog ⟨own, ext⟩ [] = none := by
        simp only [frzL, frz, Rd.bind, Rd.runLog, Hp.get, hl]
      rw [this]; rfl
    | map es =>
      have : ((frzL (65534 + 1 + 1) [.ptr (.own r) 0]).bind fun (vs, u) => Rd.ret ({ eff := { val := .clip (chunks ei.size 1 vs), upd := u } } : Made)).runLog ⟨own, ext⟩ [] = none := by
        simp only [frzL, frz, Rd.bind, Rd.runLog, Hp.get, hl]
      rw [this]; rfl
theorem bs1_q {t e : TypeId} {a b : Nat} {ei : TI} {z : List IV} (hT : E.T t = some ⟨a, b, .slice e, z⟩) (he : E.T e = some ei) (hs : ei.size = 1) (hz : ∃ x, ei.zero = [x]) {r : Nat} {own own' : List (Nat × Blk)} {cells : List IV} {ro : Bool} {fc : List FV}
    (hl : lookupOwn r own = some (.row cells ro)) (hf : frz1L cells = some fc) (hn : cells.length ≤ 100) (ho : putOwn r (.row cells true) own = own') (s : Nat) (ext : List Blk) (k : IV → Hp → List Ref → List Ref → Option β) :
    genS (pcBuildSlice E t 1 [(0, .ptr (.own r) 0)]) s ⟨own, ext⟩ k = k (.clip [.fp fc 0]) ⟨own', ext⟩ [.own r] [.own r] := by
  have h1 : ∀ cells' ro', lookupOwn r own = some (.row cells' ro') → cells' = cells := fun c r h => by rw [hl] at h; cases h; rfl
  rw [bs1_ptr hT he hs hz r s own ext (fun c r h => by rw [h1 c r h]; exact hn) (fun c r h => by rw [h1 c r h]; exact ⟨fc, hf⟩), ownK_eq, hl]
  simp only [Option.bind_some, asRow, frzK, hf, putOwnK_eq, ho]
/-- What a call answers that is handed blocks that live on. -/
def AnsX (r : Option (IV × Hp)) (w : FV) (ext : List Blk) : Prop := ∃ v own, r = some (v, ⟨own, ext⟩) ∧
  ∃ u lg, ∀ (e : Option (IV × Hp)) (K : FV → List (Ref × Blk) → List Ref → Option (IV × Hp)), fzU 12 v ⟨own, ext⟩ [] e K = K w u lg
theorem ansx_fv (w : FV) (own : List (Nat × Blk)) (ext : List Blk) : AnsX (some (.fv w, ⟨own, ext⟩)) w ext := ⟨_, own, rfl, [], [], fun _ _ => rfl⟩
theorem ansx_p {v : IV} {w : FV} (hz : frzP v = some w) (own : List (Nat × Blk)) (ext : List Blk) : AnsX (some (v, ⟨own, ext⟩)) w ext := ⟨_, own, rfl, [], [], fun e K => fzp_u _ _ e K hz⟩
theorem refsDL_fv : ∀ l : List FV, refsDL (l.map .fv) [] = []
  | [] => rfl
  | v :: l => by
    show refsD (.fv v) (refsDL (l.map .fv) []) = []
    rw [refsDL_fv l]
    rfl
theorem goB_s (n j : Nat) (t : List Ref) (s : Nat) (rest : List Blk) : goB (n + 1) (.ext j :: t) s rest = cond (Nat.ble (Nat.succ j) s) (goB n t s rest) (cond (Nat.beq j s) (goR (goB n) t s rest) false) := rfl
theorem goB_n (n s : Nat) : goB (n + 1) [] s [] = true := rfl
set_option maxRecDepth 20000 in
theorem goB_one (st : List FV) : goB 400 [.ext 0] 0 [.row (st.map .fv) false] = true := by
  rw [show (400 : Nat) = 398 + 1 + 1 from rfl, goB_s]
  show goR (goB (398 + 1)) [] 0 [.row (st.map .fv) false] = true
  show goB (398 + 1) ([] ++ refsB (.row (st.map .fv) false)) 1 [] = true
  rw [show refsB (.row (st.map .fv) false) = refsDL (st.map .fv) [] from rfl, refsDL_fv]
  exact goB_n 398 1
theorem eu1 : extsUp 1 = [.ext 0] := rfl
theorem okB_one (st : List FV) : okB 1 [.row (st.map .fv) false] = true := by
  show cond (okR 1 (refsB (.row (st.map .fv) false))) true false = true
  rw [show refsB (.row (st.map .fv) false) = refsDL (st.map .fv) [] from rfl, refsDL_fv]
  rfl
theorem gb3 (a b c : FV) : goB 400 [.ext 0] 0 [.row [.fv a, .fv b, .fv c] false] = true := goB_one [a, b, c]
theorem ob3 (a b c : FV) : okB 1 [.row [.fv a, .fv b, .fv c] false] = true := okB_one [a, b, c]
theorem gb2 (a b : FV) : goB 400 [.ext 0] 0 [.row [.fv a, .fv b] false] = true := goB_one [a, b]
theorem ob2 (a b : FV) : okB 1 [.row [.fv a, .fv b] false] = true := okB_one [a, b]
/-- A call that is handed on blocks: what comes after the freezing. -/
theorem iso_cx {r1 : Ref} {rs1 : List Ref} {ih : Handler} {f : FuncId} {vs : List IV} {w : FV} {ext ext' : List Blk} (hr : AnsX (ih f vs ⟨[], ext⟩) w ext') (hg : goB 400 (r1 :: rs1) 0 ext = true) (hl : ext'.length = ext.length) (ho : okB ext.length ext' = true)
    (own : List (Nat × Blk)) (r0 : Option (IV × Hp)) (u : List (Ref × Blk)) (lg : List Ref) (e : Option (IV × Hp)) (k : IV → Hp → List Ref → List Ref → Option (IV × Hp)) :
    isoC (r1 :: rs1) r0 ⟨own, ext⟩ u lg e (fun rs => match rs with
      | [] => none
      | r :: rs => (match (⟨own, ext⟩ : Hp) with
        | ⟨own, ext⟩ => cond (goB 400 (r :: rs) 0 ext) (match ih f vs ⟨[], ext⟩ with
          | none => none
          | some p => match p with
            | (v, h') => match h' with
              | ⟨own', ext'⟩ => cond (and (Nat.beq ext'.length ext.length) (okB ext.length ext'))
                (fzU 12 v ⟨own', ext'⟩ [] e fun w _ _ => layU u ⟨own, ext'⟩ fun h2 => k (.fv w) h2 ((extsUp ext.length).reverse ++ lg) (keys u ++ extsUp ext.length)) none)
          e)) k = layU u ⟨own, ext'⟩ fun h2 => k (.fv w) h2 ((extsUp ext.length).reverse ++ lg) (keys u ++ extsUp ext.length) := by
  obtain ⟨v, own', e1, u', lg', hz⟩ := hr
  simp only [isoC, hg, e1, hl, ho]
  rw [show (Nat.beq ext.length ext.length && true) = true by rw [Bool.and_true]; exact Nat.beq_refl _, cond_true, hz]
  rfl
/-- Blocks that are handed on: one of few numbers. -/
structure OneX (ext ext' : List Blk) : Prop where
  g : goB 400 [.ext 0] 0 ext = true
  l : ext.length = 1
  l' : ext'.length = 1
  o : okB 1 ext' = true
theorem onex3 (a b c a' b' c' : FV) : OneX [.row [.fv a, .fv b, .fv c] false] [.row [.fv a', .fv b', .fv c'] false] := ⟨gb3 .., rfl, rfl, ob3 ..⟩
theorem onex2 (a b a' b' : FV) : OneX [.row [.fv a, .fv b] false] [.row [.fv a', .fv b'] false] := ⟨gb2 .., rfl, rfl, ob2 ..⟩
theorem fza_k (x : Nat) : ∀ (args : List IV) {vs : List FV} (h : Hp) (lg : List Ref) (e : Option β) (k : List IV → List Ref → List (Ref × Blk) → List Ref → Option β) (ks : List Bool), (∀ b ∈ ks, b = false) → frzPL args = some vs →
    fzA args ks h lg e k = k (vs.map .fv) [] [] lg
  | [], vs, h, lg, e, k, ks, _, hz => by cases hz; rfl
  | v :: l, vs, h, lg, e, k, [], _, hz => fza_p (v :: l) h lg e k hz
  | v :: l, vs, h, lg, e, k, b :: ks, hk, hz => by
    have hb := hk b List.mem_cons_self
    subst hb
    simp only [frzPL] at hz
    cases h1 : frzP v with
    | none => rw [h1] at hz; cases hz
    | some x' =>
      rw [h1] at hz
      cases h2 : frzPL l with
      | none => rw [h2] at hz; cases hz
      | some ys =>
        rw [h2] at hz
        cases hz
        rw [fz1f, fzp_u h lg e _ h1, fza_k x l h lg e _ ks (fun c hc => hk c (List.mem_cons_of_mem _ hc)) h2]
        rfl
theorem iso_m {ks : List Bool} (hks : ∀ b ∈ ks, b = false) {ih : Handler} {f : FuncId} {args : List IV} {vs : List FV} {w : FV} {ext ext' : List Blk} (hz : frzPL args = some vs) (X : OneX ext ext') (hr : AnsX (ih f (.ptr (.ext 0) 0 :: vs.map .fv) ⟨[], ext⟩) w ext')
    (own : List (Nat × Blk)) (k : IV → Hp → List Ref → List Ref → Option (IV × Hp)) : isoS (true :: ks) false false ih f (.ptr (.ext 0) 0 :: args) ⟨own, ext⟩ k = k (.fv w) ⟨own, ext'⟩ [.ext 0] [.ext 0] := by
  rw [iso_e, fz1k, as_p, fza_k 0 args _ _ _ _ ks hks hz]
  have := iso_cx (r1 := .ext 0) (rs1 := []) hr X.g (by rw [X.l, X.l']) (by rw [X.l]; exact X.o) own (ih f (.ptr (.ext 0) 0 :: vs.map .fv) ⟨[], []⟩) [] [] (isoD (true :: ks) false false ih f (.ptr (.ext 0) 0 :: args) ⟨own, ext⟩ k) k
  refine this.trans ?_
  rw [X.l]
  rfl
theorem iso_m1 {ih : Handler} {f : FuncId} {w : FV} {ext ext' : List Blk} (hr : AnsX (ih f [.ptr (.ext 0) 0] ⟨[], ext⟩) w ext') (X : OneX ext ext') (own : List (Nat × Blk)) (k : IV → Hp → List Ref → List Ref → Option (IV × Hp)) :
    isoS [true] false false ih f [.ptr (.ext 0) 0] ⟨own, ext⟩ k = k (.fv w) ⟨own, ext'⟩ [.ext 0] [.ext 0] := iso_m (ks := []) (by simp) (vs := []) rfl X hr own k
theorem iso_m2 {ih : Handler} {f : FuncId} {a : IV} {x w : FV} {ext ext' : List Blk} (hr : AnsX (ih f [.ptr (.ext 0) 0, .fv x] ⟨[], ext⟩) w ext') (X : OneX ext ext') (ha : frzP a = some x) (own : List (Nat × Blk)) (k : IV → Hp → List Ref → List Ref → Option (IV × Hp)) :
    isoS [true, false] false false ih f [.ptr (.ext 0) 0, a] ⟨own, ext⟩ k = k (.fv w) ⟨own, ext'⟩ [.ext 0] [.ext 0] := iso_m (ks := [false]) (by simp) (zl_1 ha) X hr own k
theorem iso_m3 {ih : Handler} {f : FuncId} {a b : IV} {x y w : FV} {ext ext' : List Blk} (hr : AnsX (ih f [.ptr (.ext 0) 0, .fv x, .fv y] ⟨[], ext⟩) w ext') (X : OneX ext ext') (ha : frzP a = some x) (hb : frzP b = some y) (own : List (Nat × Blk))
    (k : IV → Hp → List Ref → List Ref → Option (IV × Hp)) : isoS [true, false, false] false false ih f [.ptr (.ext 0) 0, a, b] ⟨own, ext⟩ k = k (.fv w) ⟨own, ext'⟩ [.ext 0] [.ext 0] := iso_m (ks := [false, false]) (by simp) (zl_2 ha hb) X hr own k
theorem iso_m4 {ih : Handler} {f : FuncId} {a b c : IV} {x y z w : FV} {ext ext' : List Blk} (hr : AnsX (ih f [.ptr (.ext 0) 0, .fv x, .fv y, .fv z] ⟨[], ext⟩) w ext') (X : OneX ext ext') (ha : frzP a = some x) (hb : frzP b = some y) (hc : frzP c = some z)
    (own : List (Nat × Blk)) (k : IV → Hp → List Ref → List Ref → Option (IV × Hp)) : isoS [true, false, false, false] false false ih f [.ptr (.ext 0) 0, a, b, c] ⟨own, ext⟩ k = k (.fv w) ⟨own, ext'⟩ [.ext 0] [.ext 0] :=
  iso_m (ks := [false, false, false]) (by simp) (zl_3 ha hb hc) X hr own k
/-- A call that is handed a pointer to a block of the caller's own, which is frozen with it. -/
theorem iso_m2p {ih : Handler} {f : FuncId} {s : Nat} {own : List (Nat × Blk)} {cells : List IV} {ro : Bool} {fc : List FV} {w : FV} {ext ext' : List Blk} (hr : AnsX (ih f [.ptr (.ext 0) 0, .fv (.fp fc 0)] ⟨[], ext⟩) w ext') (X : OneX ext ext')
    (hl : lookupOwn s own = some (.row cells ro)) (hz : frz1L cells = some fc) (hn : cells.length ≤ 300) (k : IV → Hp → List Ref → List Ref → Option (IV × Hp)) :
    isoS [true, false] false false ih f [.ptr (.ext 0) 0, .ptr (.own s) 0] ⟨own, ext⟩ k = k (.fv w) ⟨putOwn s (.row cells true) own, ext'⟩ [.ext 0, .own s] [.own s, .ext 0] := by
  rw [iso_e, fz1k, as_p, fz1f, fu_ptr, g_own, ownK_eq, hl]
  simp only [Option.bind_some, as_row]
  rw [ble_dec, decide_eq_true hn, c_t, fz1_l 10 _ _ _ cells _ hz, fz0]
  have := iso_cx (r1 := .ext 0) (rs1 := []) hr X.g (by rw [X.l, X.l']) (by rw [X.l]; exact X.o) own (ih f [.ptr (.ext 0) 0, .fv (.fp fc 0)] ⟨[], []⟩) [(.own s, .row cells true)] [.own s] (isoD [true, false] false false ih f [.ptr (.ext 0) 0, .ptr (.own s) 0] ⟨own, ext⟩ k) k
  refine this.trans ?_
  rw [X.l]
  show (ownK own s fun _ => putOwnK own s (.row cells true) fun own => k (.fv w) ⟨own, ext'⟩ [.ext 0, .own s] [.own s, .ext 0]) = _
  rw [ownK_eq, hl, Option.bind_some, putOwnK_eq]
end
end Idl
end Go.Proofs.Ytdibmackcbpniaa
namespace Go.Proofs.Ytdibmackcbpniaa
namespace Idl
theorem log_run {α : Type} : ∀ (r : Rd α) (h : Hp) (l : List Ref) {x : α} {l' : List Ref}, r.runLog h l = some (x, l') → r.run h = some x
  | .ret a, h, l, x, l', e => by simp only [Rd.runLog, Option.some.injEq, Prod.mk.injEq] at e; rw [e.1]; rfl
  | .fail, _, _, _, _, e => by cases e
  | .get r k, h, l, x, l', e => by
    simp only [Rd.runLog] at e
    simp only [Rd.run]
    cases hg : h.get r with
    | none => rw [hg] at e; cases e
    | some b => rw [hg] at e; exact log_run (k b) h _ e
theorem ansx_frz {v : IV} {own : List (Nat × Blk)} {ext : List Blk} {w : FV} (h : ∃ u lg, ∀ (e : Option (IV × Hp)) (K : FV → List (Ref × Blk) → List Ref → Option (IV × Hp)), fzU 12 v ⟨own, ext⟩ [] e K = K w u lg) : ∃ u, (frz 4096 v).run ⟨own, ext⟩ = some (w, u) := by
  obtain ⟨u, lg, hz⟩ := h
  rcases fzU_ok 12 v ⟨own, ext⟩ [] none (fun w _ _ => some (IV.fv w, (⟨[], []⟩ : Hp))) (.fv w, ⟨[], []⟩) (hz ..) with h | ⟨x, u', lg', h1, _, h2⟩
  · cases h
  · simp only [Option.some.injEq, Prod.mk.injEq, IV.fv.injEq, and_true] at h2
    subst h2
    exact ⟨u', log_run _ _ _ (h1 4096 (by decide))⟩
theorem refsL_fv : ∀ l : List FV, IV.refs.refsL (l.map .fv) = []
  | [] => rfl
  | v :: l => by
    simp only [List.map_cons, IV.refs.refsL, IV.refs, refsL_fv l, List.append_nil]
theorem frz_argsk : ∀ (args : List IV) (ks : List Bool) {vs : List FV}, (∀ b ∈ ks, b = false) → frzPL args = some vs → frzArgs ks args = .ret (vs.map .fv, [], [])
  | [], ks, vs, _, hz => by cases hz; cases ks <;> rfl
  | v :: l, [], vs, _, hz => frz_args (v :: l) hz
  | v :: l, b :: ks, vs, hk, hz => by
    have hb := hk b List.mem_cons_self
    subst hb
    simp only [frzPL] at hz
    cases h1 : frzP v with
    | none => rw [h1] at hz; cases hz
    | some x =>
      rw [h1] at hz
      cases h2 : frzPL l with
      | none => rw [h2] at hz; cases hz
      | some ys =>
        rw [h2] at hz
        cases hz
        simp only [frzArgs, frp 4096 (by omega) h1, Rd.bind, frz_argsk l ks (fun c hc => hk c (List.mem_cons_of_mem _ hc)) h2]
        rfl
theorem goB_own (s : Nat) (ext : List Blk) : goB 400 [.own s] 0 ext = false := rfl
/-- A call that is handed a block of numbers of the caller's own. -/
theorem iso_o {ks : List Bool} (hks : ∀ b ∈ ks, b = false) {ih : Handler} {f : FuncId} {args : List IV} {vs : List FV} {w : FV} {s : Nat} {st st' : List FV} {own : List (Nat × Blk)} (hz : frzPL args = some vs) (hl : lookupOwn s own = some (.row (st.map .fv) false))
    (hr : AnsX (ih f (.ptr (.ext 0) 0 :: vs.map .fv) ⟨[], [.row (st.map .fv) false]⟩) w [.row (st'.map .fv) false]) (k : IV → Hp → List Ref → List Ref → Option (IV × Hp)) :
    isoS (true :: ks) false false ih f (.ptr (.own s) 0 :: args) ⟨own, []⟩ k = k (.fv w) ⟨putOwn s (.row (st'.map .fv) false) own, []⟩ [.own s] [.own s] := by
  obtain ⟨v, own', e1, hfz⟩ := hr
  obtain ⟨u, hu⟩ := ansx_frz hfz
  have hD : isoD (true :: ks) false false ih f (.ptr (.own s) 0 :: args) ⟨own, []⟩ k = k (.fv w) ⟨putOwn s (.row (st'.map .fv) false) own, []⟩ [.own s] [.own s] := by
    have h1 : frzArgs (true :: ks) (.ptr (.own s) 0 :: args) = .ret (.ptr (.own s) 0 :: vs.map .fv, [.own s], []) := by
      simp only [frzArgs, frz_argsk args ks hks hz, Rd.bind, IV.refs]
      rfl
    have h2 : (gather 4096 [.own s] []).runLog ⟨own, []⟩ [] = some ([(.own s, .row (st.map .fv) false)], [.own s]) := by
      show (gather (4094 + 1 + 1) [.own s] []).runLog ⟨own, []⟩ [] = _
      simp only [gather, hasRef, Bool.false_eq_true, if_false, Rd.runLog, Hp.get, hl, Blk.refs, refsL_fv, List.append_nil, List.nil_append]
    have h3 : IV.ren.renL (into [(.own s, .row (st.map .fv) false)]) (.ptr (.own s) 0 :: vs.map .fv) = some (.ptr (.ext 0) 0 :: vs.map .fv) := by
      simp only [IV.ren.renL, IV.ren, into, placeOf, if_true, Option.map_some, Option.bind_some, renL_fv]
    have h4 : renBlks (into [(.own s, .row (st.map .fv) false)]) [.row (st.map .fv) false] = some [.row (st.map .fv) false] := by
      simp only [renBlks, Blk.ren, renL_fv, Option.map_some, Option.bind_some]
    have h5 : renBlks (back [(.own s, .row (st.map .fv) false)]) [.row (st'.map .fv) false] = some [.row (st'.map .fv) false] := by
      simp only [renBlks, Blk.ren, renL_fv, Option.map_some, Option.bind_some]
    unfold isoD
    simp only [h1, Rd.runLog, h2, h3, List.map_cons, List.map_nil, h4, fL_eq (fV_eq 3), fL_eq fBk_eq, askedD, Bool.false_eq_true, if_false, e1, hu, Option.map_some, IV.ren, h5, List.length_cons, List.length_nil, keys, List.all_nil, and_self, if_true, List.nil_append, List.zip_cons_cons, List.zip_nil_left]
    have h6 : laid ⟨own, []⟩ [(.own s, .row (st'.map .fv) false)] = some ⟨putOwn s (.row (st'.map .fv) false) own, []⟩ := by
      simp only [laid, Hp.get, hl, Hp.set]
    simp only [h6, fH_eq, fV_eq]
  rw [iso_e, fz1k, as_p, fza_k 0 args _ _ _ _ ks hks hz]
  simp only [isoC, goB_own, cond_false]
  exact hD
theorem iso_o3 {ih : Handler} {f : FuncId} {x y : IV} {vx vy w : FV} {s : Nat} {a b c a' b' c' : FV} {own own' : List (Nat × Blk)} (hr : AnsX (ih f [.ptr (.ext 0) 0, .fv vx, .fv vy] ⟨[], [.row [.fv a, .fv b, .fv c] false]⟩) w [.row [.fv a', .fv b', .fv c'] false])
    (hx : frzP x = some vx) (hy : frzP y = some vy) (hl : lookupOwn s own = some (.row [.fv a, .fv b, .fv c] false)) (ho : putOwn s (.row [.fv a', .fv b', .fv c'] false) own = own') (k : IV → Hp → List Ref → List Ref → Option (IV × Hp)) :
    isoS [true, false, false] false false ih f [.ptr (.own s) 0, x, y] ⟨own, []⟩ k = k (.fv w) ⟨own', []⟩ [.own s] [.own s] := by
  subst ho
  exact iso_o (ks := [false, false]) (by simp) (st := [a, b, c]) (st' := [a', b', c']) (zl_2 hx hy) hl hr k
theorem iso_o4 {ih : Handler} {f : FuncId} {x y z : IV} {vx vy vz w : FV} {s : Nat} {a b c a' b' c' : FV} {own own' : List (Nat × Blk)} (hr : AnsX (ih f [.ptr (.ext 0) 0, .fv vx, .fv vy, .fv vz] ⟨[], [.row [.fv a, .fv b, .fv c] false]⟩) w [.row [.fv a', .fv b', .fv c'] false])
    (hx : frzP x = some vx) (hy : frzP y = some vy) (hz : frzP z = some vz) (hl : lookupOwn s own = some (.row [.fv a, .fv b, .fv c] false)) (ho : putOwn s (.row [.fv a', .fv b', .fv c'] false) own = own') (k : IV → Hp → List Ref → List Ref → Option (IV × Hp)) :
    isoS [true, false, false, false] false false ih f [.ptr (.own s) 0, x, y, z] ⟨own, []⟩ k = k (.fv w) ⟨own', []⟩ [.own s] [.own s] := by
  subst ho
  exact iso_o (ks := [false, false, false]) (by simp) (st := [a, b, c]) (st' := [a', b', c']) (zl_3 hx hy hz) hl hr k
theorem iso_o3b {ih : Handler} {f : FuncId} {x y : IV} {vx vy w : FV} {s : Nat} {a b a' b' : FV} {own own' : List (Nat × Blk)} (hr : AnsX (ih f [.ptr (.ext 0) 0, .fv vx, .fv vy] ⟨[], [.row [.fv a, .fv b] false]⟩) w [.row [.fv a', .fv b'] false])
    (hx : frzP x = some vx) (hy : frzP y = some vy) (hl : lookupOwn s own = some (.row [.fv a, .fv b] false)) (ho : putOwn s (.row [.fv a', .fv b'] false) own = own') (k : IV → Hp → List Ref → List Ref → Option (IV × Hp)) :
    isoS [true, false, false] false false ih f [.ptr (.own s) 0, x, y] ⟨own, []⟩ k = k (.fv w) ⟨own', []⟩ [.own s] [.own s] := by
  subst ho
  exact iso_o (ks := [false, false]) (by simp) (st := [a, b]) (st' := [a', b']) (zl_2 hx hy) hl hr k
end Idl
end Go.Proofs.Ytdibmackcbpniaa
namespace Go.Proofs.Ytdibmackcbpniaa
namespace Idl
section
variable {β : Type}
theorem held_mem' {rm : List Nat} {vals : List IV} {own : List (Nat × Blk)} {ext : List Blk} (hf : flatD rm vals own [] = true) (hx : ∀ s, Ref.own s ∉ ext.flatMap Blk.refs) (s : Nat) :
    Ref.own s ∈ IV.refs.refsL vals ++ (own.filter fun p => !rm.contains p.1).flatMap (fun p => p.2.refs) ++ ext.flatMap Blk.refs ↔ heldB rm vals own [] s = true := by
  rw [← held_mem hf s, List.mem_append]
  constructor
  · rintro (h | h)
    · exact List.mem_append_left _ h
    · exact absurd h (hx s)
  · intro h
    rcases List.mem_append.1 h with h | h
    · exact .inl h
    · cases h
theorem drop_x {base rm : List Nat} {vals : List IV} {own : List (Nat × Blk)} {ext : List Blk} (hx : ∀ s, Ref.own s ∉ ext.flatMap Blk.refs) (hb : rm.any base.contains = false) (hf : flatD rm vals own [] = true) (k : Hp → Option β) :
    dropS base rm vals ⟨own, ext⟩ k = k ⟨stays rm vals own [], ext⟩ := by
  have hm := held_mem' hf hx
  have hf0 := hf
  simp only [flatD, Bool.and_eq_true] at hf0
  obtain ⟨g1, g2, g3, g4⟩ := hf0
  unfold dropS
  rw [hb]
  simp only [cond_false]
  rw [anyO_eq]
  cases ha : (own.all fun p => !rm.contains p.1) with
  | true =>
    simp only [Bool.not_true, cond_false]
    congr 2
    symm
    apply List.filter_eq_self.2
    intro p hp
    rw [List.all_eq_true.1 ha p hp]; rfl
  | false =>
    simp only [Bool.not_false, cond_true]
    have slow : (match dropAt base [] rm ⟨vals, ⟨own, ext⟩⟩ with | none => none | some S => fH S.hp k) = k ⟨stays rm vals own [], ext⟩ := by
      have hgone : (rm.filter fun k => !anyIn [k] (IV.refs.refsL vals ++ (own.filter fun p => !rm.contains p.1).flatMap (fun p => p.2.refs) ++ ext.flatMap Blk.refs)) = rm.filter fun s => !heldB rm vals own [] s := by
        apply List.filter_congr
        intro s _
        congr 1
        exact Bool.eq_iff_iff.2 ((anyIn_one s _).trans (hm s))
      have hown : (own.filter fun p => !(rm.filter fun s => !heldB rm vals own [] s).contains p.1) = stays rm vals own [] := by
        apply List.filter_congr
        intro p _
        rw [Bool.eq_iff_iff]
        simp only [Bool.not_eq_true', Bool.or_eq_true, List.contains_eq_mem, decide_eq_false_iff_not, List.mem_filter]
        constructor
        · intro h
          by_cases h1 : p.1 ∈ rm
          · right
            cases hh : heldB rm vals own [] p.1 with
            | true => rfl
            | false => exact absurd ⟨h1, hh⟩ h
          · exact .inl h1
        · rintro (h | h) ⟨h1, h2⟩
          · exact h h1
          · rw [h] at h2; exact absurd h2 (by simp)
      simp only [dropAt, hb, Bool.false_eq_true, if_false, killSlots, ha, hgone, hown]
      have hnone : anyIn (rm.filter fun s => !heldB rm vals own [] s) (refsOfSt ⟨vals, ⟨stays rm vals own [], ext⟩⟩) = false := by
        apply anyIn_none
        intro s hs hmem
        obtain ⟨hs1, hs2⟩ := List.mem_filter.1 hs
        have hs2 : heldB rm vals own [] s = false := by simpa using hs2
        simp only [refsOfSt, List.mem_append] at hmem
        rcases hmem with (hmem | hmem) | hmem
        · have := (hm s).1 (List.mem_append_left _ (List.mem_append_left _ hmem))
          rw [this] at hs2; cases hs2
        · obtain ⟨p, hp, hr⟩ := List.mem_flatMap.1 hmem
          have hp1 := (List.mem_filter.1 hp).1
          have hn := (flat_refsB (List.all_eq_true.1 g2 p hp1) s).1 hr
          have h4 := List.all_eq_true.1 g4 p hp1
          cases hc : rm.contains p.1 with
          | true =>
            rw [hc] at h4
            have h4 : (rm.all fun s => !namesB s p.2) = true := h4
            have h5 := List.all_eq_true.1 h4 s hs1
            rw [hn] at h5; cases h5
          | false =>
            have := (hm s).1 (List.mem_append_left _ (List.mem_append_right _ (List.mem_flatMap.2 ⟨p, List.mem_filter.2 ⟨hp1, by rw [hc]; rfl⟩, hr⟩)))
            rw [this] at hs2; cases hs2
        · exact hx s hmem
      simp only [hnone, Bool.false_eq_true, if_false, fH_eq]
    cases hff : (and (freeR rm (refsDL vals [])) (and (freeO rm own) (freeE rm ext))) with
    | false => exact slow
    | true =>
      have hff : (freeR rm (refsDL vals []) && (freeO rm own && freeE rm ext)) = true := hff
      simp only [Bool.and_eq_true] at hff
      simp only [filtK_eq, cond_true]
      congr 2
      apply List.filter_congr
      intro p hp
      cases hc : rm.contains p.1 with
      | false => rfl
      | true =>
        have h1 := freeR_ok hff.1
        rw [refsDL_eq, List.append_nil] at h1
        have h2 := freeO_ok hff.2.1
        have : heldB rm vals own [] p.1 = false := by
          cases hh : heldB rm vals own [] p.1 with
          | false => rfl
          | true =>
            have := (hm p.1).2 hh
            have hpm : p.1 ∈ rm := List.contains_iff_mem.1 hc
            rcases List.mem_append.1 this with h | h
            · rcases List.mem_append.1 h with h | h
              · exact absurd h (h1 _ hpm)
              · exact absurd h (h2 _ hpm)
            · exact absurd h (hx _)
        rw [this]; rfl
/-- Blocks that are handed on. -/
structure ExtX (ext ext' : List Blk) : Prop where
  g : goB 400 [.ext 0] 0 ext = true
  l : ext'.length = ext.length
  o : okB ext.length ext' = true
theorem iso_g {ks : List Bool} {ih : Handler} {f : FuncId} {args : List IV} {vs : List FV} {w : FV} {u : List (Ref × Blk)} {lg : List Ref} {own own' : List (Nat × Blk)} {ext ext' : List Blk}
    (hz : ∀ (e : Option (IV × Hp)) (k : List IV → List Ref → List (Ref × Blk) → List Ref → Option (IV × Hp)), fzA args ks ⟨own, ext⟩ [] e k = k (vs.map .fv) [] u lg) (X : ExtX ext ext')
    (hr : AnsX (ih f (.ptr (.ext 0) 0 :: vs.map .fv) ⟨[], ext⟩) w ext') (hlay : ∀ k : Hp → Option (IV × Hp), layU u ⟨own, ext'⟩ k = k ⟨own', ext'⟩) (k : IV → Hp → List Ref → List Ref → Option (IV × Hp)) :
    isoS (true :: ks) false false ih f (.ptr (.ext 0) 0 :: args) ⟨own, ext⟩ k = k (.fv w) ⟨own', ext'⟩ ((extsUp ext.length).reverse ++ lg) (keys u ++ extsUp ext.length) := by
  rw [iso_e, fz1k, as_p, hz]
  have := iso_cx (r1 := .ext 0) (rs1 := []) hr X.g X.l X.o own (ih f (.ptr (.ext 0) 0 :: vs.map .fv) ⟨[], []⟩) u lg (isoD (true :: ks) false false ih f (.ptr (.ext 0) 0 :: args) ⟨own, ext⟩ k) k
  exact this.trans (hlay _)
theorem chk1 : ∀ (cs : List FV), (∀ x ∈ cs, ∀ l, x ≠ .agg l) → ∀ k : List FV → Option β, chK 1 cs.length cs k = k cs
  | [], _, k => rfl
  | c :: cs, h, k => by
    show (takK (c :: cs) 1 fun a => drpK (c :: cs) 1 fun b => elK2 a fun x => chK 1 cs.length b fun xs => k (x :: xs)) = _
    rw [t1, d1]
    have : ∀ k : FV → Option β, elK2 [c] k = k c := by
      intro k
      cases c with
      | agg l => exact absurd rfl (h _ List.mem_cons_self l)
      | _ => rfl
    rw [this, chk1 cs (fun x hx => h x (List.mem_cons_of_mem _ hx))]
theorem fzl_fv (d : Nat) (h : Hp) (lg : List Ref) (e : Option β) : ∀ (l : List FV) (k : List FV → List (Ref × Blk) → List Ref → Option β), fzLK (fzU (d + 1)) (l.map .fv) h lg e k = k l [] lg
  | [], k => rfl
  | v :: l, k => by
    show (fzU (d + 1) (.fv v) h lg e fun y u lg => fzLK (fzU (d + 1)) (l.map .fv) h lg e fun ys us lg => apK u us fun w => k (y :: ys) w lg) = _
    show (fzLK (fzU (d + 1)) (l.map .fv) h lg e fun ys us lg => apK [] us fun w => k (v :: ys) w lg) = _
    rw [fzl_fv d h lg e l]
    rfl
/-- A slice of the call's own. -/
theorem fz_slc {d : Nat} {s : Nat} {es : List FV} {ro : Bool} {own : List (Nat × Blk)} {ext : List Blk} (hl : lookupOwn s own = some (.row (es.map .fv) ro)) (hn : es.length ≤ 300) (ha : ∀ x ∈ es, ∀ l, x ≠ .agg l) (lg : List Ref) (e : Option β)
    (k : FV → List (Ref × Blk) → List Ref → Option β) : fzU (d + 2) (.slc (.own s) 1 es.length) ⟨own, ext⟩ lg e k = k (.sl es) [(.own s, .row (es.map .fv) true)] (.own s :: lg) := by
  show (getK (.own s) ⟨own, ext⟩ fun b => asRow b fun cells => cond (Nat.ble cells.length 300) (cond (or (Nat.beq 1 0) (not (Nat.ble (es.length * 1) cells.length))) none
    (fzLK (fzU (d + 1)) cells ⟨own, ext⟩ (.own s :: lg) e fun cs u lg => chK 1 es.length cs fun els => k (.sl els) ((.own s, .row cells true) :: u) lg)) e) = _
  rw [g_own, ownK_eq, hl]
  simp only [Option.bind_some, as_row, List.length_map, Nat.mul_one]
  rw [ble_dec, decide_eq_true hn, c_t, show Nat.ble es.length es.length = true by rw [ble_dec]; exact decide_eq_true (Nat.le_refl _)]
  simp only [Bool.not_true]
  show (fzLK (fzU (d + 1)) (es.map .fv) ⟨own, ext⟩ (.own s :: lg) e fun cs u lg => chK 1 es.length cs fun els => k (.sl els) ((.own s, .row (es.map .fv) true) :: u) lg) = _
  rw [fzl_fv, chk1 es ha]
/-- A block of the call's own, with a slice in it. -/
theorem fz_v {s s2 : Nat} {es : List FV} {ro ro2 : Bool} {a b c d t x : FV} {own : List (Nat × Blk)} {ext : List Blk} (hl : lookupOwn s own = some (.row [.fv a, .fv b, .slc (.own s2) 1 es.length, .fv c, .fv d, .fv t, .fv x] ro)) (hl2 : lookupOwn s2 own = some (.row (es.map .fv) ro2))
    (hn : es.length ≤ 300) (ha : ∀ x ∈ es, ∀ l, x ≠ .agg l) (lg : List Ref) (e : Option β) (k : FV → List (Ref × Blk) → List Ref → Option β) : fzU 12 (.ptr (.own s) 0) ⟨own, ext⟩ lg e k =
      k (.fp [a, b, .sl es, c, d, t, x] 0) [(.own s, .row [.fv a, .fv b, .slc (.own s2) 1 es.length, .fv c, .fv d, .fv t, .fv x] true), (.own s2, .row (es.map .fv) true)] (.own s2 :: .own s :: lg) := by
  rw [fu_ptr, g_own, ownK_eq, hl]
  simp only [Option.bind_some, as_row]
  rw [ble_dec, decide_eq_true (by simp), c_t]
  rw [fl1, fv_fv, fl1, fv_fv, fl1, fz_slc (d := 9) hl2 hn ha, fl1, fv_fv, fl1, fv_fv, fl1, fv_fv, fl1, fv_fv, fl0]
  rfl
end
end Idl
end Go.Proofs.Ytdibmackcbpniaa
namespace Go.Proofs.Ytdibmackcbpniaa
namespace Idl
theorem gb1 (a : FV) : goB 400 [.ext 0] 0 [.row [.fv a] false] = true := goB_one [a]
theorem ob1 (a : FV) : okB 1 [.row [.fv a] false] = true := okB_one [a]
theorem onex1 (a a' : FV) : OneX [.row [.fv a] false] [.row [.fv a'] false] := ⟨gb1 .., rfl, rfl, ob1 ..⟩
theorem iso_mm {ks : List Bool} (hks : ∀ b ∈ ks, b = false) {ih : Handler} {f : FuncId} {a0 : IV} {x0 : FV} {args : List IV} {vs : List FV} {w : FV} {ext ext' : List Blk} (h0 : frzP a0 = some x0) (hz : frzPL args = some vs) (X : OneX ext ext') (hr : AnsX (ih f (.fv x0 :: .ptr (.ext 0) 0 :: vs.map .fv) ⟨[], ext⟩) w ext')
    (own : List (Nat × Blk)) (k : IV → Hp → List Ref → List Ref → Option (IV × Hp)) : isoS (false :: true :: ks) false false ih f (a0 :: .ptr (.ext 0) 0 :: args) ⟨own, ext⟩ k = k (.fv w) ⟨own, ext'⟩ [.ext 0] [.ext 0] := by
  rw [iso_e, fz1f, fzp_u _ _ _ _ h0, fz1k, as_p, fza_k 0 args _ _ _ _ ks hks hz]
  have := iso_cx (r1 := .ext 0) (rs1 := []) hr X.g (by rw [X.l, X.l']) (by rw [X.l]; exact X.o) own (ih f (.fv x0 :: .ptr (.ext 0) 0 :: vs.map .fv) ⟨[], []⟩) [] [] (isoD (false :: true :: ks) false false ih f (a0 :: .ptr (.ext 0) 0 :: args) ⟨own, ext⟩ k) k
  refine this.trans ?_
  rw [X.l]
  rfl
theorem iso_mm3 {ih : Handler} {f : FuncId} {a b : IV} {x y w : FV} {ext ext' : List Blk} (hr : AnsX (ih f [.fv x, .ptr (.ext 0) 0, .fv y] ⟨[], ext⟩) w ext') (X : OneX ext ext') (ha : frzP a = some x) (hb : frzP b = some y) (own : List (Nat × Blk))
    (k : IV → Hp → List Ref → List Ref → Option (IV × Hp)) : isoS [false, true, false] false false ih f [a, .ptr (.ext 0) 0, b] ⟨own, ext⟩ k = k (.fv w) ⟨own, ext'⟩ [.ext 0] [.ext 0] := iso_mm (ks := [false]) (by simp) ha (zl_1 hb) X hr own k
/-- A call that is handed a block of numbers of the caller's own, in the second place. -/
theorem iso_oo {ks : List Bool} (hks : ∀ b ∈ ks, b = false) {ih : Handler} {f : FuncId} {a0 : IV} {x0 : FV} {args : List IV} {vs : List FV} {w : FV} {s : Nat} {st st' : List FV} {own : List (Nat × Blk)} (h0 : frzP a0 = some x0) (hz : frzPL args = some vs) (hl : lookupOwn s own = some (.row (st.map .fv) false))
    (hr : AnsX (ih f (.fv x0 :: .ptr (.ext 0) 0 :: vs.map .fv) ⟨[], [.row (st.map .fv) false]⟩) w [.row (st'.map .fv) false]) (k : IV → Hp → List Ref → List Ref → Option (IV × Hp)) :
    isoS (false :: true :: ks) false false ih f (a0 :: .ptr (.own s) 0 :: args) ⟨own, []⟩ k = k (.fv w) ⟨putOwn s (.row (st'.map .fv) false) own, []⟩ [.own s] [.own s] := by
  obtain ⟨v, own', e1, hfz⟩ := hr
  obtain ⟨u, hu⟩ := ansx_frz hfz
  have hD : isoD (false :: true :: ks) false false ih f (a0 :: .ptr (.own s) 0 :: args) ⟨own, []⟩ k = k (.fv w) ⟨putOwn s (.row (st'.map .fv) false) own, []⟩ [.own s] [.own s] := by
    have h1 : frzArgs (false :: true :: ks) (a0 :: .ptr (.own s) 0 :: args) = .ret (.fv x0 :: .ptr (.own s) 0 :: vs.map .fv, [.own s], []) := by
      simp only [frzArgs, frp 4096 (by omega) h0, frz_argsk args ks hks hz, Rd.bind, IV.refs]
      rfl
    have h2 : (gather 4096 [.own s] []).runLog ⟨own, []⟩ [] = some ([(.own s, .row (st.map .fv) false)], [.own s]) := by
      show (gather (4094 + 1 + 1) [.own s] []).runLog ⟨own, []⟩ [] = _
      simp only [gather, hasRef, Bool.false_eq_true, if_false, Rd.runLog, Hp.get, hl, Blk.refs, refsL_fv, List.append_nil, List.nil_append]
    have h3 : IV.ren.renL (into [(.own s, .row (st.map .fv) false)]) (.fv x0 :: .ptr (.own s) 0 :: vs.map .fv) = some (.fv x0 :: .ptr (.ext 0) 0 :: vs.map .fv) := by
      simp only [IV.ren.renL, IV.ren, into, placeOf, if_true, Option.map_some, Option.bind_some, renL_fv]
    have h4 : renBlks (into [(.own s, .row (st.map .fv) false)]) [.row (st.map .fv) false] = some [.row (st.map .fv) false] := by
      simp only [renBlks, Blk.ren, renL_fv, Option.map_some, Option.bind_some]
    have h5 : renBlks (back [(.own s, .row (st.map .fv) false)]) [.row (st'.map .fv) false] = some [.row (st'.map .fv) false] := by
      simp only [renBlks, Blk.ren, renL_fv, Option.map_some, Option.bind_some]
    unfold isoD
    simp only [h1, Rd.runLog, h2, h3, List.map_cons, List.map_nil, h4, fL_eq (fV_eq 3), fL_eq fBk_eq, askedD, Bool.false_eq_true, if_false, e1, hu, Option.map_some, IV.ren, h5, List.length_cons, List.length_nil, keys, List.all_nil, and_self, if_true, List.nil_append, List.zip_cons_cons, List.zip_nil_left]
    have h6 : laid ⟨own, []⟩ [(.own s, .row (st'.map .fv) false)] = some ⟨putOwn s (.row (st'.map .fv) false) own, []⟩ := by
      simp only [laid, Hp.get, hl, Hp.set]
    simp only [h6, fH_eq, fV_eq]
  rw [iso_e, fz1f, fzp_u _ _ _ _ h0, fz1k, as_p, fza_k 0 args _ _ _ _ ks hks hz]
  simp only [isoC, goB_own, cond_false]
  exact hD
theorem iso_oo3 {ih : Handler} {f : FuncId} {x y : IV} {vx vy w : FV} {s : Nat} {a a' : FV} {own own' : List (Nat × Blk)} (hr : AnsX (ih f [.fv vx, .ptr (.ext 0) 0, .fv vy] ⟨[], [.row [.fv a] false]⟩) w [.row [.fv a'] false])
    (hx : frzP x = some vx) (hy : frzP y = some vy) (hl : lookupOwn s own = some (.row [.fv a] false)) (ho : putOwn s (.row [.fv a'] false) own = own') (k : IV → Hp → List Ref → List Ref → Option (IV × Hp)) :
    isoS [false, true, false] false false ih f [x, .ptr (.own s) 0, y] ⟨own, []⟩ k = k (.fv w) ⟨own', []⟩ [.own s] [.own s] := by
  subst ho
  exact iso_oo (ks := [false]) (by simp) (st := [a]) (st' := [a']) hx (zl_1 hy) hl hr k
end Idl
end Go.Proofs.Ytdibmackcbpniaa
namespace Go.Proofs.Ytdibmackcbpniaa
namespace Idl
def kidsN (op : Int) : Int := if op < 0 then -1 else ([-1, 0, 0, 2, 2, 2, 2, 3, 1, 1, 0, 0, 1, 4, 0, 0, 2, 2, 1, 1, 2, 2, 2, 1, 1, 0, 2, 3, 2, 2, 1] : List Int).getD op.toNat (-1)
theorem op_cases (op : Int) : (0 ≤ op ∧ op ≤ 30) ∨ op < 0 ∨ 30 < op := by omega
theorem kidsN_out {op : Int} (h : op < 0 ∨ 30 < op) : kidsN op = -1 := by
  unfold kidsN
  split
  · rfl
  · rw [List.getD_eq_getElem?_getD, List.getElem?_eq_none (by simp; omega)]; rfl
theorem op_in {P : Int → Prop} (h : ∀ k : Nat, k < 31 → P k) {op : Int} (h1 : 0 ≤ op ∧ op ≤ 30) : P op := by
  have := h op.toNat (by omega)
  rwa [Int.toNat_of_nonneg h1.1] at this
theorem arity_ok {n : Nat} (hn : 0 < n) (op : Int) : Ans (SS dt n 46 [iv op] ⟨[], []⟩) (.int .i64 (kidsN op)) := by
  obtain ⟨n, rfl⟩ : ∃ k, n = k + 1 := ⟨n - 1, by omega⟩
  rw [c46]
  rcases op_cases op with h | h
  · revert op
    refine fun op h => op_in (P := fun op => Ans (S46 (SS dt n) n (iv op) ⟨[], []⟩) (.int .i64 (kidsN op))) ?_ h
    intro k hk
    rcases k with _ | k
    · simp only [S46_44, S46_45, S46_46, S46_47, S46_48, S46_49, S46_50, S46_51, S46_52, S46_53, S46_54, S46_55, S46_56, S46_57, S46_58, S46_59, S46_60, S46_61, S46, ↓XX, ↓reduceIte, Nat.reduceBEq, decide_true, decide_false, Bool.not_true, Bool.not_false, List.map_cons, List.map_nil, List.length_map, List.length_cons, List.length_nil, Nat.reduceAdd, Int.cast_ofNat_Int, Int.natCast_zero, Int.natCast_one, Bool.false_eq_true, Bool.true_eq_false, decide_eq_true_eq, eq_self, Int.reduceEq, Int.reduceLT, Int.reduceLE, Bool.and_true, Bool.true_and, Bool.and_false, Bool.false_and, Nat.zero_add]; exact ans_fv _ _
    iterate 30 (rcases k with _ | k; · simp only [S46_44, S46_45, S46_46, S46_47, S46_48, S46_49, S46_50, S46_51, S46_52, S46_53, S46_54, S46_55, S46_56, S46_57, S46_58, S46_59, S46_60, S46_61, S46, ↓XX, ↓reduceIte, Nat.reduceBEq, decide_true, decide_false, Bool.not_true, Bool.not_false, List.map_cons, List.map_nil, List.length_map, List.length_cons, List.length_nil, Nat.reduceAdd, Int.cast_ofNat_Int, Int.natCast_zero, Int.natCast_one, Bool.false_eq_true, Bool.true_eq_false, decide_eq_true_eq, eq_self, Int.reduceEq, Int.reduceLT, Int.reduceLE, Bool.and_true, Bool.true_and, Bool.and_false, Bool.false_and, Nat.zero_add]; exact ans_fv _ _)
    omega
  · rw [kidsN_out h]
    have q1 : op ≠ 1 := by omega
    have q2 : op ≠ 2 := by omega
    have q3 : op ≠ 3 := by omega
    have q4 : op ≠ 4 := by omega
    have q5 : op ≠ 5 := by omega
    have q6 : op ≠ 6 := by omega
    have q7 : op ≠ 7 := by omega
    have q8 : op ≠ 8 := by omega
    have q9 : op ≠ 9 := by omega
    have q10 : op ≠ 10 := by omega
    have q11 : op ≠ 11 := by omega
    have q12 : op ≠ 12 := by omega
    have q13 : op ≠ 13 := by omega
    have q14 : op ≠ 14 := by omega
    have q15 : op ≠ 15 := by omega
    have q16 : op ≠ 16 := by omega
    have q17 : op ≠ 17 := by omega
    have q18 : op ≠ 18 := by omega
    have q19 : op ≠ 19 := by omega
    have q20 : op ≠ 20 := by omega
    have q21 : op ≠ 21 := by omega
    have q22 : op ≠ 22 := by omega
    have q23 : op ≠ 23 := by omega
    have q24 : op ≠ 24 := by omega
    have q25 : op ≠ 25 := by omega
    have q26 : op ≠ 26 := by omega
    have q27 : op ≠ 27 := by omega
    have q28 : op ≠ 28 := by omega
    have q29 : op ≠ 29 := by omega
    have q30 : op ≠ 30 := by omega
    simp only [S46_44, S46_45, S46_46, S46_47, S46_48, S46_49, S46_50, S46_51, S46_52, S46_53, S46_54, S46_55, S46_56, S46_57, S46_58, S46_59, S46_60, S46_61, S46, ↓XX, ↓reduceIte, Nat.reduceBEq, decide_true, decide_false, Bool.not_true, Bool.not_false, List.map_cons, List.map_nil, List.length_map, List.length_cons, List.length_nil, Nat.reduceAdd, Int.cast_ofNat_Int, Int.natCast_zero, Int.natCast_one, Bool.false_eq_true, Bool.true_eq_false, decide_eq_true_eq, eq_self, Int.reduceEq, Int.reduceLT, Int.reduceLE, Bool.and_true, Bool.true_and, Bool.and_false, Bool.false_and, Nat.zero_add, q1, q2, q3, q4, q5, q6, q7, q8, q9, q10, q11, q12, q13, q14, q15, q16, q17, q18, q19, q20, q21, q22, q23, q24, q25, q26, q27, q28, q29, q30]
    exact ans_fv _ _
def numb (op n : Int) : Bool := if op = 1 then decide (0 ≤ n) && decide (n ≤ 3000) else if op = 2 then decide (0 ≤ n) && decide (n ≤ 2) else if op = 26 then decide (0 ≤ n) && decide (n ≤ 4) else if op = 25 then true else decide (n = 0)
theorem number_ok {n : Nat} (hn : 0 < n) (op m : Int) : Ans (SS dt n 80 [iv op, iv m] ⟨[], []⟩) (.bool (numb op m)) := by
  obtain ⟨n, rfl⟩ : ∃ k, n = k + 1 := ⟨n - 1, by omega⟩
  rw [c80]
  unfold numb
  by_cases h1 : op = 1
  · by_cases h0 : 0 ≤ m <;> simp only [S80_47, S80_48, S80_49, S80_50, S80_51, S80, ↓XX, ↓reduceIte, Nat.reduceBEq, decide_true, decide_false, Bool.not_true, Bool.not_false, List.map_cons, List.map_nil, List.length_map, List.length_cons, List.length_nil, Nat.reduceAdd, Int.cast_ofNat_Int, Int.natCast_zero, Int.natCast_one, Bool.false_eq_true, Bool.true_eq_false, decide_eq_true_eq, eq_self, Int.reduceEq, Int.reduceLT, Int.reduceLE, Bool.and_true, Bool.true_and, Bool.and_false, Bool.false_and, Nat.zero_add, h0, h1] <;> exact ans_fv _ _
  by_cases h2 : op = 2
  · by_cases h0 : 0 ≤ m <;> simp only [S80_47, S80_48, S80_49, S80_50, S80_51, S80, ↓XX, ↓reduceIte, Nat.reduceBEq, decide_true, decide_false, Bool.not_true, Bool.not_false, List.map_cons, List.map_nil, List.length_map, List.length_cons, List.length_nil, Nat.reduceAdd, Int.cast_ofNat_Int, Int.natCast_zero, Int.natCast_one, Bool.false_eq_true, Bool.true_eq_false, decide_eq_true_eq, eq_self, Int.reduceEq, Int.reduceLT, Int.reduceLE, Bool.and_true, Bool.true_and, Bool.and_false, Bool.false_and, Nat.zero_add, h0, h2] <;> exact ans_fv _ _
  by_cases h3 : op = 26
  · by_cases h0 : 0 ≤ m <;> simp only [S80_47, S80_48, S80_49, S80_50, S80_51, S80, ↓XX, ↓reduceIte, Nat.reduceBEq, decide_true, decide_false, Bool.not_true, Bool.not_false, List.map_cons, List.map_nil, List.length_map, List.length_cons, List.length_nil, Nat.reduceAdd, Int.cast_ofNat_Int, Int.natCast_zero, Int.natCast_one, Bool.false_eq_true, Bool.true_eq_false, decide_eq_true_eq, eq_self, Int.reduceEq, Int.reduceLT, Int.reduceLE, Bool.and_true, Bool.true_and, Bool.and_false, Bool.false_and, Nat.zero_add, h0, h3] <;> exact ans_fv _ _
  by_cases h4 : op = 25
  · simp only [S80_47, S80_48, S80_49, S80_50, S80_51, S80, ↓XX, ↓reduceIte, Nat.reduceBEq, decide_true, decide_false, Bool.not_true, Bool.not_false, List.map_cons, List.map_nil, List.length_map, List.length_cons, List.length_nil, Nat.reduceAdd, Int.cast_ofNat_Int, Int.natCast_zero, Int.natCast_one, Bool.false_eq_true, Bool.true_eq_false, decide_eq_true_eq, eq_self, Int.reduceEq, Int.reduceLT, Int.reduceLE, Bool.and_true, Bool.true_and, Bool.and_false, Bool.false_and, Nat.zero_add, h4]; exact ans_fv _ _
  simp only [S80_47, S80_48, S80_49, S80_50, S80_51, S80, ↓XX, ↓reduceIte, Nat.reduceBEq, decide_true, decide_false, Bool.not_true, Bool.not_false, List.map_cons, List.map_nil, List.length_map, List.length_cons, List.length_nil, Nat.reduceAdd, Int.cast_ofNat_Int, Int.natCast_zero, Int.natCast_one, Bool.false_eq_true, Bool.true_eq_false, decide_eq_true_eq, eq_self, Int.reduceEq, Int.reduceLT, Int.reduceLE, Bool.and_true, Bool.true_and, Bool.and_false, Bool.false_and, Nat.zero_add, h1, h2, h3, h4]; exact ans_fv _ _
theorem pnumber_ok {n : Nat} (hn : 0 < n) (op m : Int) : Ans (SS dt n 103 [iv op, iv m] ⟨[], []⟩) (.bool (numb op m)) := by
  obtain ⟨n, rfl⟩ : ∃ k, n = k + 1 := ⟨n - 1, by omega⟩
  rw [c103]
  unfold numb
  by_cases h1 : op = 1
  · by_cases h0 : 0 ≤ m <;> simp only [S103_47, S103_48, S103_49, S103_50, S103_51, S103, ↓XX, ↓reduceIte, Nat.reduceBEq, decide_true, decide_false, Bool.not_true, Bool.not_false, List.map_cons, List.map_nil, List.length_map, List.length_cons, List.length_nil, Nat.reduceAdd, Int.cast_ofNat_Int, Int.natCast_zero, Int.natCast_one, Bool.false_eq_true, Bool.true_eq_false, decide_eq_true_eq, eq_self, Int.reduceEq, Int.reduceLT, Int.reduceLE, Bool.and_true, Bool.true_and, Bool.and_false, Bool.false_and, Nat.zero_add, h0, h1] <;> exact ans_fv _ _
  by_cases h2 : op = 2
  · by_cases h0 : 0 ≤ m <;> simp only [S103_47, S103_48, S103_49, S103_50, S103_51, S103, ↓XX, ↓reduceIte, Nat.reduceBEq, decide_true, decide_false, Bool.not_true, Bool.not_false, List.map_cons, List.map_nil, List.length_map, List.length_cons, List.length_nil, Nat.reduceAdd, Int.cast_ofNat_Int, Int.natCast_zero, Int.natCast_one, Bool.false_eq_true, Bool.true_eq_false, decide_eq_true_eq, eq_self, Int.reduceEq, Int.reduceLT, Int.reduceLE, Bool.and_true, Bool.true_and, Bool.and_false, Bool.false_and, Nat.zero_add, h0, h2] <;> exact ans_fv _ _
  by_cases h3 : op = 26
  · by_cases h0 : 0 ≤ m <;> simp only [S103_47, S103_48, S103_49, S103_50, S103_51, S103, ↓XX, ↓reduceIte, Nat.reduceBEq, decide_true, decide_false, Bool.not_true, Bool.not_false, List.map_cons, List.map_nil, List.length_map, List.length_cons, List.length_nil, Nat.reduceAdd, Int.cast_ofNat_Int, Int.natCast_zero, Int.natCast_one, Bool.false_eq_true, Bool.true_eq_false, decide_eq_true_eq, eq_self, Int.reduceEq, Int.reduceLT, Int.reduceLE, Bool.and_true, Bool.true_and, Bool.and_false, Bool.false_and, Nat.zero_add, h0, h3] <;> exact ans_fv _ _
  by_cases h4 : op = 25
  · simp only [S103_47, S103_48, S103_49, S103_50, S103_51, S103, ↓XX, ↓reduceIte, Nat.reduceBEq, decide_true, decide_false, Bool.not_true, Bool.not_false, List.map_cons, List.map_nil, List.length_map, List.length_cons, List.length_nil, Nat.reduceAdd, Int.cast_ofNat_Int, Int.natCast_zero, Int.natCast_one, Bool.false_eq_true, Bool.true_eq_false, decide_eq_true_eq, eq_self, Int.reduceEq, Int.reduceLT, Int.reduceLE, Bool.and_true, Bool.true_and, Bool.and_false, Bool.false_and, Nat.zero_add, h4]; exact ans_fv _ _
  simp only [S103_47, S103_48, S103_49, S103_50, S103_51, S103, ↓XX, ↓reduceIte, Nat.reduceBEq, decide_true, decide_false, Bool.not_true, Bool.not_false, List.map_cons, List.map_nil, List.length_map, List.length_cons, List.length_nil, Nat.reduceAdd, Int.cast_ofNat_Int, Int.natCast_zero, Int.natCast_one, Bool.false_eq_true, Bool.true_eq_false, decide_eq_true_eq, eq_self, Int.reduceEq, Int.reduceLT, Int.reduceLE, Bool.and_true, Bool.true_and, Bool.and_false, Bool.false_and, Nat.zero_add, h1, h2, h3, h4]; exact ans_fv _ _
end Idl
end Go.Proofs.Ytdibmackcbpniaa
namespace Go.Proofs.Ytdibmackcbpniaa
namespace Idl
theorem flat_fv (l : List FV) : (l.map IV.fv).all flatV = true := by induction l with
  | nil => rfl
  | cons a l ih => rw [List.map_cons, List.all_cons, ih]; rfl
theorem names_fv (s : Nat) (l : List FV) : (l.map IV.fv).any (namesV s) = false := by induction l with
  | nil => rfl
  | cons a l ih => rw [List.map_cons, List.any_cons, ih]; rfl
/-! Slices of terms of one's own. -/
def cellsF : List Tm → List FV
  | [] => []
  | .mk o n k :: l => .int .i64 o :: .int .i64 n :: .sl (k.map Tm.enc) :: cellsF l
def zeroT : Nat → List IV
  | 0 => []
  | n + 1 => iv 0 :: iv 0 :: .nils :: zeroT n
def cellsT (ts : List Tm) (r : Nat) : List IV := (cellsF ts).map .fv ++ zeroT r
theorem cellsF_len (ts : List Tm) : (cellsF ts).length = 3 * ts.length := by
  induction ts with
  | nil => rfl
  | cons t l ih => obtain ⟨o, n, k⟩ := t; simp only [cellsF, List.length_cons, ih]; omega
theorem cellsF_app (ts : List Tm) (t : Tm) : cellsF (ts ++ [t]) = cellsF ts ++ [.int .i64 t.op, .int .i64 t.n, .sl (t.kids.map Tm.enc)] := by
  induction ts with
  | nil => obtain ⟨o, n, k⟩ := t; rfl
  | cons a l ih => obtain ⟨o, n, k⟩ := a; simp only [List.cons_append, cellsF, ih]
theorem setFK_app {β : Type} : ∀ (A : List IV) (x y z : IV) (B : List IV) (a b c : FV) (k : List IV → Option β), setFK (A ++ x :: y :: z :: B) A.length [a, b, c] k = k (A ++ .fv a :: .fv b :: .fv c :: B)
  | [], x, y, z, B, a, b, c, k => rfl
  | w :: A, x, y, z, B, a, b, c, k => by
    show setFK (A ++ x :: y :: z :: B) A.length [a, b, c] (fun t => k (w :: t)) = _
    rw [setFK_app A]
    rfl
theorem set_t {β : Type} (done : List Tm) (r : Nat) (o n : Int) (ks : List Tm) (k : List IV → Option β) : setFK (cellsT done (r + 1)) (done.length * 3) [.int .i64 o, .int .i64 n, .sl (ks.map Tm.enc)] k = k (cellsT (done ++ [.mk o n ks]) r) := by
  have h := setFK_app (β := β) ((cellsF done).map .fv) (iv 0) (iv 0) .nils (zeroT r) (.int .i64 o) (.int .i64 n) (.sl (ks.map Tm.enc)) k
  rw [List.length_map, cellsF_len, Nat.mul_comm] at h
  refine h.trans ?_
  congr 1
  unfold cellsT
  rw [cellsF_app]
  simp [Tm.op, Tm.n, Tm.kids, iv]
theorem chk3 {β : Type} : ∀ (ts : List Tm) (k : List FV → Option β), chK 3 ts.length (cellsF ts) k = k (ts.map Tm.enc)
  | [], k => rfl
  | .mk o n ks :: l, k => by
    show (takK (cellsF (.mk o n ks :: l)) 3 fun a => drpK (cellsF (.mk o n ks :: l)) 3 fun b => elK2 a fun x => chK 3 l.length b fun xs => k (x :: xs)) = _
    rw [cellsF, t3, d3]
    show (chK 3 l.length (cellsF l) fun xs => k (.agg [.int .i64 o, .int .i64 n, .sl (ks.map Tm.enc)] :: xs)) = _
    rw [chk3 l, List.map_cons, enc_mk]
theorem rep_t (n : Nat) : rep n [iv 0, iv 0, .nils] = cellsT [] n := by
  induction n with
  | zero => rfl
  | succ n ih => rw [rep, ih]; rfl
theorem mk_t {n : Nat} (hn : n ≤ 1000) (s : Nat) (own : List (Nat × Blk)) (ext : List Blk) (k : IV → Hp → List Ref → List Ref → Option (IV × Hp)) :
    genS (pcMakeSlice EE s 28 (iv n) (iv n)) s ⟨own, ext⟩ k = freshK own s (putOwnK own s (.row (cellsT [] n) false) fun own => k (.slc (.own s) 3 n) ⟨own, ext⟩ [] [.own s]) := by
  have : pcMakeSlice EE s 28 (iv n) (iv n) = .ret { eff := { val := .slc (.own s) 3 n }, new := some (.row (cellsT [] n) false) } := by
    simp only [pcMakeSlice, tTms, tTm, iv_e]
    rw [if_pos ⟨by omega, by omega, by omega, by decide, by decide⟩, Int.toNat_natCast, rep_t]
  rw [this]
  unfold genS
  simp only [Rd.runLog, newK, fBk_eq, fV_eq]
  rfl
theorem ix_sl3 {β : Type} {n i : Nat} (h : i < n) (r : Ref) (k : IV → Option β) : ixS 3 (.slc r 3 n) (iv i) k = k (.ptr r (i * 3)) := by
  have e1 : Nat.ble (Nat.succ i) n = true := by rw [ble_dec]; exact decide_eq_true h
  show (cond (and (Nat.ble (Nat.succ i) n) (Nat.beq 3 3)) (fNat (i * 3) fun o => k (.ptr r o)) none) = _
  rw [e1]
  simp only [fNat_eq]
  rfl
theorem flat_t (ts : List Tm) (r : Nat) : (cellsT ts r).all flatV = true := by
  unfold cellsT
  rw [List.all_append, flat_fv, Bool.true_and]
  induction r with
  | zero => rfl
  | succ r ih => rw [zeroT, List.all_cons, List.all_cons, List.all_cons, ih]; rfl
theorem names_t (s : Nat) (ts : List Tm) (r : Nat) : (cellsT ts r).any (namesV s) = false := by
  unfold cellsT
  rw [List.any_append, names_fv, Bool.false_or]
  induction r with
  | zero => rfl
  | succ r ih => rw [zeroT, List.any_cons, List.any_cons, List.any_cons, ih]; rfl
theorem fz_slc3 {s d : Nat} {ts : List Tm} {ro : Bool} {own : List (Nat × Blk)} {ext : List Blk} (hl : lookupOwn s own = some (.row (cellsT ts 0) ro)) (hn : ts.length ≤ 100) (lg : List Ref) (e : Option (IV × Hp))
    (k : FV → List (Ref × Blk) → List Ref → Option (IV × Hp)) : fzU (d + 2) (.slc (.own s) 3 ts.length) ⟨own, ext⟩ lg e k = k (.sl (ts.map Tm.enc)) [(.own s, .row (cellsT ts 0) true)] (.own s :: lg) := by
  have hlen : (cellsT ts 0).length = 3 * ts.length := by simp [cellsT, zeroT, cellsF_len]
  show (getK (.own s) ⟨own, ext⟩ fun b => asRow b fun cells => cond (Nat.ble cells.length 300) (cond (or (Nat.beq 3 0) (not (Nat.ble (ts.length * 3) cells.length))) none
    (fzLK (fzU (d + 1)) cells ⟨own, ext⟩ (.own s :: lg) e fun cs u lg => chK 3 ts.length cs fun els => k (.sl els) ((.own s, .row cells true) :: u) lg)) e) = _
  rw [g_own, ownK_eq, hl]
  simp only [Option.bind_some, as_row]
  rw [hlen, ble_dec, decide_eq_true (by omega), c_t, ble_dec, decide_eq_true (by omega)]
  simp only [Bool.not_true]
  show (fzLK (fzU (d + 1)) (cellsT ts 0) ⟨own, ext⟩ (.own s :: lg) e fun cs u lg => chK 3 ts.length cs fun els => k (.sl els) ((.own s, .row (cellsT ts 0) true) :: u) lg) = _
  rw [show cellsT ts 0 = (cellsF ts).map .fv by simp [cellsT, zeroT], fzl_fv, chk3]
theorem fz_tm {s : Nat} {ts : List Tm} {ro : Bool} {a b : FV} {own : List (Nat × Blk)} {ext : List Blk} (hl : lookupOwn s own = some (.row (cellsT ts 0) ro)) (hn : ts.length ≤ 100) (lg : List Ref) (e : Option (IV × Hp))
    (k : FV → List (Ref × Blk) → List Ref → Option (IV × Hp)) : fzU 12 (.agg [.fv a, .fv b, .slc (.own s) 3 ts.length]) ⟨own, ext⟩ lg e k = k (.agg [a, b, .sl (ts.map Tm.enc)]) [(.own s, .row (cellsT ts 0) true)] (.own s :: lg) := by
  rw [fu_agg, show Nat.ble [IV.fv a, .fv b, .slc (.own s) 3 ts.length].length 300 = true from rfl, c_t, fl1, fv_fv, fl1, fv_fv, fl1, fz_slc3 (d := 9) hl hn, fl0]
  rfl
theorem ixt0 {β : Type} (o p : Int) (l : List FV) (r : List FV) (k : IV → Option β) : ixS 3 (.fv (.sl (.agg [.int .i64 o, .int .i64 p, .sl l] :: r))) (iv 0) k = k (.fv (.fp [.int .i64 o, .int .i64 p, .sl l] 0)) := by
  have h : (.agg [.int .i64 o, .int .i64 p, .sl l] :: r : List FV)[0]? = some (.agg [.int .i64 o, .int .i64 p, .sl l]) := rfl
  have := ix_f (β := β) h (agg3l _ _ _) k
  rw [agg3] at this
  exact this
theorem ixt1 {β : Type} (a : FV) (o p : Int) (l : List FV) (r : List FV) (k : IV → Option β) : ixS 3 (.fv (.sl (a :: .agg [.int .i64 o, .int .i64 p, .sl l] :: r))) (iv 1) k = k (.fv (.fp [.int .i64 o, .int .i64 p, .sl l] 0)) := by
  have h : (a :: .agg [.int .i64 o, .int .i64 p, .sl l] :: r : List FV)[1]? = some (.agg [.int .i64 o, .int .i64 p, .sl l]) := rfl
  have := ix_f (β := β) h (agg3l _ _ _) k
  rw [agg3] at this
  exact this
theorem ixt2 {β : Type} (a b : FV) (o p : Int) (l : List FV) (r : List FV) (k : IV → Option β) : ixS 3 (.fv (.sl (a :: b :: .agg [.int .i64 o, .int .i64 p, .sl l] :: r))) (iv 2) k = k (.fv (.fp [.int .i64 o, .int .i64 p, .sl l] 0)) := by
  have h : (a :: b :: .agg [.int .i64 o, .int .i64 p, .sl l] :: r : List FV)[2]? = some (.agg [.int .i64 o, .int .i64 p, .sl l]) := rfl
  have := ix_f (β := β) h (agg3l _ _ _) k
  rw [agg3] at this
  exact this
theorem ansf_fv (w : FV) (own : List (Nat × Blk)) : AnsF (some (.fv w, ⟨own, []⟩)) w := ⟨_, own, rfl, fz_fv w own⟩
theorem ansf {r : Option (IV × Hp)} {w : FV} (h : AnsF r w) : Ans r w := by
  obtain ⟨v, own, e, hz⟩ := h
  exact ⟨v, own, e, .inl hz⟩
end Idl
end Go.Proofs.Ytdibmackcbpniaa

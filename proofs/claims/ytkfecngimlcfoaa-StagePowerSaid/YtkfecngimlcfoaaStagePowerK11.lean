/-
  Texts of a proof, part 11: an ideal semantics of the program, its functions in shallow form, contracts of them. No statement of the seat is proved here.
-/
import Derived.KernelRfl
import Derived.Test.YtkfecngimlcfoaaStagePowerK10
set_option linter.all false
namespace Go.Proofs.Ytkfecngimlcfoaa
namespace Idl
theorem call_0 {f : Nat} {G : Handler → Nat → Hp → Option (IV × Hp)} (e : dt.call f = fun ih n => ar0 (G ih n)) (n : Nat) (h : Hp) : SS dt (n + 1) f [] h = G (SS dt n) n  h := by
  show dt.call f (SS dt n) n _ h = _
  rw [e]
  rfl
theorem call_1 {f : Nat} {G : Handler → Nat → IV → Hp → Option (IV × Hp)} (e : dt.call f = fun ih n => ar1 (G ih n)) (n : Nat) (a0 : IV) (h : Hp) : SS dt (n + 1) f [a0] h = G (SS dt n) n a0 h := by
  show dt.call f (SS dt n) n _ h = _
  rw [e]
  rfl
theorem call_2 {f : Nat} {G : Handler → Nat → IV → IV → Hp → Option (IV × Hp)} (e : dt.call f = fun ih n => ar2 (G ih n)) (n : Nat) (a0 a1 : IV) (h : Hp) : SS dt (n + 1) f [a0, a1] h = G (SS dt n) n a0 a1 h := by
  show dt.call f (SS dt n) n _ h = _
  rw [e]
  rfl
theorem call_3 {f : Nat} {G : Handler → Nat → IV → IV → IV → Hp → Option (IV × Hp)} (e : dt.call f = fun ih n => ar3 (G ih n)) (n : Nat) (a0 a1 a2 : IV) (h : Hp) : SS dt (n + 1) f [a0, a1, a2] h = G (SS dt n) n a0 a1 a2 h := by
  show dt.call f (SS dt n) n _ h = _
  rw [e]
  rfl
theorem call_4 {f : Nat} {G : Handler → Nat → IV → IV → IV → IV → Hp → Option (IV × Hp)} (e : dt.call f = fun ih n => ar4 (G ih n)) (n : Nat) (a0 a1 a2 a3 : IV) (h : Hp) : SS dt (n + 1) f [a0, a1, a2, a3] h = G (SS dt n) n a0 a1 a2 a3 h := by
  show dt.call f (SS dt n) n _ h = _
  rw [e]
  rfl
theorem c2 (n : Nat) (h : Hp) : SS dt (n + 1) 2 [] h = S2 (SS dt n) n  h := call_0 (show dt.call 2 = fun ih n => ar0 (S2 ih n) by kernel_rfl) ..
theorem c3 (n : Nat) (a0 a1 : IV) (h : Hp) : SS dt (n + 1) 3 [a0, a1] h = S3 (SS dt n) n a0 a1 h := call_2 (show dt.call 3 = fun ih n => ar2 (S3 ih n) by kernel_rfl) ..
theorem c5 (n : Nat) (a0 a1 : IV) (h : Hp) : SS dt (n + 1) 5 [a0, a1] h = S5 (SS dt n) n a0 a1 h := call_2 (show dt.call 5 = fun ih n => ar2 (S5 ih n) by kernel_rfl) ..
theorem c16 (n : Nat) (a0 : IV) (h : Hp) : SS dt (n + 1) 16 [a0] h = S16 (SS dt n) n a0 h := call_1 (show dt.call 16 = fun ih n => ar1 (S16 ih n) by kernel_rfl) ..
theorem c17 (n : Nat) (a0 a1 : IV) (h : Hp) : SS dt (n + 1) 17 [a0, a1] h = S17 (SS dt n) n a0 a1 h := call_2 (show dt.call 17 = fun ih n => ar2 (S17 ih n) by kernel_rfl) ..
theorem c18 (n : Nat) (a0 : IV) (h : Hp) : SS dt (n + 1) 18 [a0] h = S18 (SS dt n) n a0 h := call_1 (show dt.call 18 = fun ih n => ar1 (S18 ih n) by kernel_rfl) ..
theorem c23 (n : Nat) (a0 a1 : IV) (h : Hp) : SS dt (n + 1) 23 [a0, a1] h = S23 (SS dt n) n a0 a1 h := call_2 (show dt.call 23 = fun ih n => ar2 (S23 ih n) by kernel_rfl) ..
theorem c24 (n : Nat) (a0 a1 : IV) (h : Hp) : SS dt (n + 1) 24 [a0, a1] h = S24 (SS dt n) n a0 a1 h := call_2 (show dt.call 24 = fun ih n => ar2 (S24 ih n) by kernel_rfl) ..
theorem c25 (n : Nat) (a0 : IV) (h : Hp) : SS dt (n + 1) 25 [a0] h = S25 (SS dt n) n a0 h := call_1 (show dt.call 25 = fun ih n => ar1 (S25 ih n) by kernel_rfl) ..
theorem c26 (n : Nat) (a0 : IV) (h : Hp) : SS dt (n + 1) 26 [a0] h = S26 (SS dt n) n a0 h := call_1 (show dt.call 26 = fun ih n => ar1 (S26 ih n) by kernel_rfl) ..
theorem c27 (n : Nat) (a0 : IV) (h : Hp) : SS dt (n + 1) 27 [a0] h = S27 (SS dt n) n a0 h := call_1 (show dt.call 27 = fun ih n => ar1 (S27 ih n) by kernel_rfl) ..
theorem c40 (n : Nat) (a0 : IV) (h : Hp) : SS dt (n + 1) 40 [a0] h = S40 (SS dt n) n a0 h := call_1 (show dt.call 40 = fun ih n => ar1 (S40 ih n) by kernel_rfl) ..
theorem c41 (n : Nat) (a0 : IV) (h : Hp) : SS dt (n + 1) 41 [a0] h = S41 (SS dt n) n a0 h := call_1 (show dt.call 41 = fun ih n => ar1 (S41 ih n) by kernel_rfl) ..
theorem c42 (n : Nat) (a0 a1 : IV) (h : Hp) : SS dt (n + 1) 42 [a0, a1] h = S42 (SS dt n) n a0 a1 h := call_2 (show dt.call 42 = fun ih n => ar2 (S42 ih n) by kernel_rfl) ..
theorem c68 (n : Nat) (a0 a1 a2 : IV) (h : Hp) : SS dt (n + 1) 68 [a0, a1, a2] h = S68 (SS dt n) n a0 a1 a2 h := call_3 (show dt.call 68 = fun ih n => ar3 (S68 ih n) by kernel_rfl) ..
theorem c69 (n : Nat) (a0 : IV) (h : Hp) : SS dt (n + 1) 69 [a0] h = S69 (SS dt n) n a0 h := call_1 (show dt.call 69 = fun ih n => ar1 (S69 ih n) by kernel_rfl) ..
theorem c70 (n : Nat) (h : Hp) : SS dt (n + 1) 70 [] h = S70 (SS dt n) n  h := call_0 (show dt.call 70 = fun ih n => ar0 (S70 ih n) by kernel_rfl) ..
theorem c72 (n : Nat) (a0 a1 a2 a3 : IV) (h : Hp) : SS dt (n + 1) 72 [a0, a1, a2, a3] h = S72 (SS dt n) n a0 a1 a2 a3 h := call_4 (show dt.call 72 = fun ih n => ar4 (S72 ih n) by kernel_rfl) ..
theorem c73 (n : Nat) (a0 a1 : IV) (h : Hp) : SS dt (n + 1) 73 [a0, a1] h = S73 (SS dt n) n a0 a1 h := call_2 (show dt.call 73 = fun ih n => ar2 (S73 ih n) by kernel_rfl) ..
theorem c74 (n : Nat) (a0 a1 : IV) (h : Hp) : SS dt (n + 1) 74 [a0, a1] h = S74 (SS dt n) n a0 a1 h := call_2 (show dt.call 74 = fun ih n => ar2 (S74 ih n) by kernel_rfl) ..
theorem c91 (n : Nat) (a0 : IV) (h : Hp) : SS dt (n + 1) 91 [a0] h = S91 (SS dt n) n a0 h := call_1 (show dt.call 91 = fun ih n => ar1 (S91 ih n) by kernel_rfl) ..
theorem c92 (n : Nat) (a0 a1 : IV) (h : Hp) : SS dt (n + 1) 92 [a0, a1] h = S92 (SS dt n) n a0 a1 h := call_2 (show dt.call 92 = fun ih n => ar2 (S92 ih n) by kernel_rfl) ..
theorem c93 (n : Nat) (a0 : IV) (h : Hp) : SS dt (n + 1) 93 [a0] h = S93 (SS dt n) n a0 h := call_1 (show dt.call 93 = fun ih n => ar1 (S93 ih n) by kernel_rfl) ..
theorem c94 (n : Nat) (a0 a1 : IV) (h : Hp) : SS dt (n + 1) 94 [a0, a1] h = S94 (SS dt n) n a0 a1 h := call_2 (show dt.call 94 = fun ih n => ar2 (S94 ih n) by kernel_rfl) ..
theorem c95 (n : Nat) (a0 a1 : IV) (h : Hp) : SS dt (n + 1) 95 [a0, a1] h = S95 (SS dt n) n a0 a1 h := call_2 (show dt.call 95 = fun ih n => ar2 (S95 ih n) by kernel_rfl) ..
theorem c96 (n : Nat) (a0 a1 : IV) (h : Hp) : SS dt (n + 1) 96 [a0, a1] h = S96 (SS dt n) n a0 a1 h := call_2 (show dt.call 96 = fun ih n => ar2 (S96 ih n) by kernel_rfl) ..
theorem c97 (n : Nat) (a0 a1 : IV) (h : Hp) : SS dt (n + 1) 97 [a0, a1] h = S97 (SS dt n) n a0 a1 h := call_2 (show dt.call 97 = fun ih n => ar2 (S97 ih n) by kernel_rfl) ..
theorem c98 (n : Nat) (a0 a1 : IV) (h : Hp) : SS dt (n + 1) 98 [a0, a1] h = S98 (SS dt n) n a0 a1 h := call_2 (show dt.call 98 = fun ih n => ar2 (S98 ih n) by kernel_rfl) ..
theorem c99 (n : Nat) (a0 : IV) (h : Hp) : SS dt (n + 1) 99 [a0] h = S99 (SS dt n) n a0 h := call_1 (show dt.call 99 = fun ih n => ar1 (S99 ih n) by kernel_rfl) ..
theorem c101 (n : Nat) (a0 a1 : IV) (h : Hp) : SS dt (n + 1) 101 [a0, a1] h = S101 (SS dt n) n a0 a1 h := call_2 (show dt.call 101 = fun ih n => ar2 (S101 ih n) by kernel_rfl) ..
theorem c102 (n : Nat) (a0 a1 : IV) (h : Hp) : SS dt (n + 1) 102 [a0, a1] h = S102 (SS dt n) n a0 a1 h := call_2 (show dt.call 102 = fun ih n => ar2 (S102 ih n) by kernel_rfl) ..
theorem c103 (n : Nat) (a0 a1 a2 a3 : IV) (h : Hp) : SS dt (n + 1) 103 [a0, a1, a2, a3] h = S103 (SS dt n) n a0 a1 a2 a3 h := call_4 (show dt.call 103 = fun ih n => ar4 (S103 ih n) by kernel_rfl) ..
theorem c104 (n : Nat) (a0 a1 : IV) (h : Hp) : SS dt (n + 1) 104 [a0, a1] h = S104 (SS dt n) n a0 a1 h := call_2 (show dt.call 104 = fun ih n => ar2 (S104 ih n) by kernel_rfl) ..
theorem c109 (n : Nat) (a0 a1 : IV) (h : Hp) : SS dt (n + 1) 109 [a0, a1] h = S109 (SS dt n) n a0 a1 h := call_2 (show dt.call 109 = fun ih n => ar2 (S109 ih n) by kernel_rfl) ..
theorem c110 (n : Nat) (a0 a1 : IV) (h : Hp) : SS dt (n + 1) 110 [a0, a1] h = S110 (SS dt n) n a0 a1 h := call_2 (show dt.call 110 = fun ih n => ar2 (S110 ih n) by kernel_rfl) ..
theorem c111 (n : Nat) (a0 a1 : IV) (h : Hp) : SS dt (n + 1) 111 [a0, a1] h = S111 (SS dt n) n a0 a1 h := call_2 (show dt.call 111 = fun ih n => ar2 (S111 ih n) by kernel_rfl) ..

end Idl
end Go.Proofs.Ytkfecngimlcfoaa

namespace Go.Proofs.Ytkfecngimlcfoaa
namespace Idl
end Idl
end Go.Proofs.Ytkfecngimlcfoaa

namespace Go.Proofs.Ytkfecngimlcfoaa
namespace Idl

section
variable {β : Type} {E : Env} {t : TypeId}
abbrev iv (n : Int) : IV := .fv (.int .i64 n)
end
end Idl
end Go.Proofs.Ytkfecngimlcfoaa

namespace Go.Proofs.Ytkfecngimlcfoaa
namespace Idl

section
variable {β : Type} {α : Type}
theorem n0 (a : α) (l : List α) (k : α → Option β) : nthK (a :: l) 0 k = k a := rfl
theorem n1 (a b : α) (l : List α) (k : α → Option β) : nthK (a :: b :: l) 1 k = k b := rfl
theorem n2 (a b c : α) (l : List α) (k : α → Option β) : nthK (a :: b :: c :: l) 2 k = k c := rfl
theorem n3 (a b c d : α) (l : List α) (k : α → Option β) : nthK (a :: b :: c :: d :: l) 3 k = k d := rfl
theorem d0 (l : List α) (k : List α → Option β) : drpK l 0 k = k l := by cases l <;> rfl
theorem d1 (a : α) (l : List α) (k : List α → Option β) : drpK (a :: l) 1 k = k l := by cases l <;> rfl
theorem d3 (a b c : α) (l : List α) (k : List α → Option β) : drpK (a :: b :: c :: l) 3 k = k l := by cases l <;> rfl
theorem t1 (a : α) (l : List α) (k : List α → Option β) : takK (a :: l) 1 k = k [a] := by cases l <;> rfl
theorem t2 (a b : α) (l : List α) (k : List α → Option β) : takK (a :: b :: l) 2 k = k [a, b] := by cases l <;> rfl
theorem t3 (a b c : α) (l : List α) (k : List α → Option β) : takK (a :: b :: c :: l) 3 k = k [a, b, c] := by cases l <;> rfl
theorem c_t {γ : Type} (a b : γ) : cond true a b = a := rfl
end

section
variable {β : Type}
theorem g_own (s : Nat) (own : List (Nat × Blk)) (ext : List Blk) (k : Blk → Option β) : getK (.own s) ⟨own, ext⟩ k = ownK own s k := rfl
theorem box_agg' (s : Nat) (cs : List IV) (h : Hp) (k : IV → Hp → List Ref → List Ref → Option β) : boxS s (.agg cs) h k = newS s (.row cs false) (.ptr (.own s) 0) h k := by
  show spK cs _ = _
  rw [spK_eq]
theorem as_p (r : Ref) (o : Nat) (k : Ref → Nat → Option β) (kf : List FV → Nat → Option β) : asPtr (.ptr r o) k kf = k r o := rfl
theorem as_row (cs : List IV) (ro : Bool) (k : List IV → Option β) : asRow (.row cs ro) k = k cs := rfl
theorem as_nf1 (l : List IV) (e : Option β) (k : FV → Option β) : asF (.agg l) e k = e := rfl
theorem ml_own (s : Nat) (x : IV) : mayLie (.own s) x = true := rfl
end
end Idl
end Go.Proofs.Ytkfecngimlcfoaa

namespace Go.Proofs.Ytkfecngimlcfoaa
namespace Idl

section
variable {β : Type} {E : Env} {t : TypeId}
theorem iv_e (n : Int) : IV.fv (.int .i64 n) = iv n := rfl
def w64 (n : Int) : Int := IntKind.i64.wrap n
theorem w64_id {n : Int} (h1 : -9223372036854775808 ≤ n) (h2 : n ≤ 9223372036854775807) : w64 n = n := by
  show (if (true && decide ((n % (18446744073709551616 : Int)) ≥ (9223372036854775808 : Int))) = true then (n % (18446744073709551616 : Int)) - (18446744073709551616 : Int) else (n % (18446744073709551616 : Int))) = n
  by_cases h : 0 ≤ n
  · have e : n % (18446744073709551616 : Int) = n := by omega
    have e2 : ¬ n ≥ (9223372036854775808 : Int) := by omega
    rw [e, decide_eq_false e2]
    rfl
  · have e : n % (18446744073709551616 : Int) = n + 18446744073709551616 := by omega
    have e2 : n + 18446744073709551616 ≥ (9223372036854775808 : Int) := by omega
    rw [e, decide_eq_true e2]
    simp
def Fz (v : IV) (own : List (Nat × Blk)) (w : FV) : Prop := ∃ u lg, ∀ (e : Option (IV × Hp)) (K : FV → List (Ref × Blk) → List Ref → Option (IV × Hp)), fzU 12 v ⟨own, []⟩ [] e K = K w u lg
def Ans (r : Option (IV × Hp)) (w : FV) : Prop := ∃ v own, r = some (v, ⟨own, []⟩) ∧
  (Fz v own w ∨ ((∀ (e : Option (IV × Hp)) (K : FV → List (Ref × Blk) → List Ref → Option (IV × Hp)), fzU 12 v ⟨own, []⟩ [] e K = e) ∧ ∃ u, (frz 4096 v).run ⟨own, []⟩ = some (w, u)))
def AnsF (r : Option (IV × Hp)) (w : FV) : Prop := ∃ v own, r = some (v, ⟨own, []⟩) ∧ Fz v own w
theorem fz_fv (w : FV) (own : List (Nat × Blk)) : Fz (.fv w) own w := ⟨[], [], fun _ _ => rfl⟩
theorem ans_fv (w : FV) (own : List (Nat × Blk)) : Ans (some (.fv w, ⟨own, []⟩)) w := ⟨_, own, rfl, .inl (fz_fv w own)⟩
def frz1 : IV → Option FV
  | .fv v => some v
  | .nils => some (.sl [])
  | .emp => some (.sl [])
  | .clip es => some (.sl es)
  | .app _ es => some (.sl es)
  | _ => none
def frz1L : List IV → Option (List FV)
  | [] => some []
  | v :: l => (frz1 v).bind fun x => (frz1L l).map fun xs => x :: xs
def frzP (v : IV) : Option FV := match v with
  | .agg cs => if cs.length ≤ 8 then (frz1L cs).map .agg else none
  | v => frz1 v
def frzPL : List IV → Option (List FV)
  | [] => some []
  | v :: l => (frzP v).bind fun x => (frzPL l).map fun xs => x :: xs
theorem fz1_u {v : IV} {x : FV} (d : Nat) (h : Hp) (lg : List Ref) (e : Option β) (k : FV → List (Ref × Blk) → List Ref → Option β) (hz : frz1 v = some x) : fzU (d + 1) v h lg e k = k x [] lg := by
  cases v <;> first | (cases hz; rfl) | (cases hz)
theorem fz1_l (d : Nat) (h : Hp) (lg : List Ref) (e : Option β) : ∀ (cs : List IV) (k : List FV → List (Ref × Blk) → List Ref → Option β) {xs : List FV}, frz1L cs = some xs → fzLK (fzU (d + 1)) cs h lg e k = k xs [] lg
  | [], k, xs, hz => by cases hz; rfl
  | v :: cs, k, xs, hz => by
    simp only [frz1L] at hz
    cases h1 : frz1 v with
    | none => rw [h1] at hz; cases hz
    | some x =>
      rw [h1] at hz
      cases h2 : frz1L cs with
      | none => rw [h2] at hz; cases hz
      | some ys =>
        rw [h2] at hz
        cases hz
        show fzU (d + 1) v h lg e (fun y u lg => fzLK (fzU (d + 1)) cs h lg e fun ys us lg => apK u us fun w => k (y :: ys) w lg) = _
        rw [fz1_u d h lg e _ h1, fz1_l d h lg e cs _ h2]
        rfl
theorem fzp_u {v : IV} {x : FV} (h : Hp) (lg : List Ref) (e : Option β) (k : FV → List (Ref × Blk) → List Ref → Option β) (hz : frzP v = some x) : fzU 12 v h lg e k = k x [] lg := by
  cases v with
  | agg cs =>
    simp only [frzP] at hz
    split at hz
    · rename_i hl
      cases h2 : frz1L cs with
      | none => rw [h2] at hz; cases hz
      | some ys =>
        rw [h2] at hz
        cases hz
        show cond (Nat.ble cs.length 300) (fzLK (fzU 11) cs h lg e fun cs u lg => k (.agg cs) u lg) e = _
        rw [ble_dec, decide_eq_true (show cs.length ≤ 300 by omega)]
        exact fz1_l 10 h lg e cs _ h2
    · cases hz
  | _ => exact fz1_u 11 h lg e k hz
theorem fz_p {v : IV} {x : FV} (hz : frzP v = some x) (own : List (Nat × Blk)) : Fz v own x := ⟨[], [], fun e K => fzp_u _ _ e K hz⟩
theorem ans_p {v : IV} {x : FV} (hz : frzP v = some x) (own : List (Nat × Blk)) : Ans (some (v, ⟨own, []⟩)) x := ⟨v, own, rfl, .inl (fz_p hz own)⟩
theorem fr1 {v : IV} {x : FV} (n : Nat) (hz : frz1 v = some x) : frz (n + 1) v = .ret (x, []) := by
  cases v <;> first | (cases hz; rfl) | (cases hz)
theorem fr1_l : ∀ (cs : List IV) (n : Nat) {xs : List FV}, cs.length + 1 < n → frz1L cs = some xs → frzL n cs = .ret (xs, [])
  | [], n + 1, xs, _, hz => by cases hz; rfl
  | v :: cs, n + 2, xs, hn, hz => by
    simp only [frz1L] at hz
    cases h1 : frz1 v with
    | none => rw [h1] at hz; cases hz
    | some x =>
      rw [h1] at hz
      cases h2 : frz1L cs with
      | none => rw [h2] at hz; cases hz
      | some ys =>
        rw [h2] at hz
        cases hz
        simp only [List.length_cons] at hn
        simp only [frzL, fr1 n h1, Rd.bind, fr1_l cs (n + 1) (by omega) h2]
        rfl
theorem frp {v : IV} {x : FV} (n : Nat) (hn : 20 < n) (hz : frzP v = some x) : frz n v = .ret (x, []) := by
  cases n with
  | zero => omega
  | succ n =>
    cases v with
    | agg cs =>
      simp only [frzP] at hz
      split at hz
      · rename_i hl
        cases h2 : frz1L cs with
        | none => rw [h2] at hz; cases hz
        | some ys =>
          rw [h2] at hz
          cases hz
          simp only [frz, fr1_l cs n (by omega) h2, Rd.bind]
      · cases hz
    | _ => exact fr1 n hz
theorem frp_l : ∀ (cs : List IV) (n : Nat) {xs : List FV}, cs.length + 30 < n → frzPL cs = some xs → frzL n cs = .ret (xs, [])
  | [], n + 1, xs, _, hz => by cases hz; rfl
  | v :: cs, n + 1, xs, hn, hz => by
    simp only [frzPL] at hz
    cases h1 : frzP v with
    | none => rw [h1] at hz; cases hz
    | some x =>
      rw [h1] at hz
      cases h2 : frzPL cs with
      | none => rw [h2] at hz; cases hz
      | some ys =>
        rw [h2] at hz
        cases hz
        simp only [List.length_cons] at hn
        simp only [frzL, frp n (by omega) h1, Rd.bind, frp_l cs n (by omega) h2]
        rfl
theorem ans_t {vs : List IV} {xs : List FV} (hz : frzPL vs = some xs) (hl : vs.length ≤ 100) (own : List (Nat × Blk)) : Ans (some (.tuple vs, ⟨own, []⟩)) (.tuple xs) :=
  ⟨_, own, rfl, .inr ⟨fun _ _ => rfl, [], by
    show (frz (4095 + 1) (.tuple vs)).run _ = _
    simp only [frz, frp_l vs 4095 (by omega) hz, Rd.bind]
    rfl⟩⟩
theorem zl_1 {a : IV} {x : FV} (ha : frzP a = some x) : frzPL [a] = some [x] := by simp [frzPL, ha]
theorem frz_args : ∀ (args : List IV) {vs : List FV}, frzPL args = some vs → frzArgs [] args = .ret (vs.map .fv, [], [])
  | [], vs, hz => by cases hz; rfl
  | v :: l, vs, hz => by
    simp only [frzPL] at hz
    cases h1 : frzP v with
    | none => rw [h1] at hz; cases hz
    | some x =>
      rw [h1] at hz
      cases h2 : frzPL l with
      | none => rw [h2] at hz; cases hz
      | some ys =>
        rw [h2] at hz
        cases hz
        simp only [frzArgs, frp 4096 (by omega) h1, Rd.bind, frz_args l h2]
        rfl
theorem fz0 (keep : List Bool) (h : Hp) (lg : List Ref) (e : Option β) (k : List IV → List Ref → List (Ref × Blk) → List Ref → Option β) : fzA [] keep h lg e k = k [] [] [] lg := rfl
theorem fz1 (x : IV) (l : List IV) (h : Hp) (lg : List Ref) (e : Option β) (k : List IV → List Ref → List (Ref × Blk) → List Ref → Option β) :
    fzA (x :: l) [] h lg e k = fzU 12 x h lg e fun y u lg => fzA l [] h lg e fun vs rs us lg => apK u us fun w => k (.fv y :: vs) rs w lg := rfl
theorem fz1k (x : IV) (l : List IV) (ks : List Bool) (h : Hp) (lg : List Ref) (e : Option β) (k : List IV → List Ref → List (Ref × Blk) → List Ref → Option β) :
    fzA (x :: l) (true :: ks) h lg e k = asPtr x (fun r o => fzA l ks h lg e fun vs rs us lg => k (.ptr r o :: vs) (r :: rs) us lg) fun _ _ => e := rfl
theorem fz1f (x : IV) (l : List IV) (ks : List Bool) (h : Hp) (lg : List Ref) (e : Option β) (k : List IV → List Ref → List (Ref × Blk) → List Ref → Option β) :
    fzA (x :: l) (false :: ks) h lg e k = fzU 12 x h lg e fun y u lg => fzA l ks h lg e fun vs rs us lg => apK u us fun w => k (.fv y :: vs) rs w lg := rfl
section
variable (d : Nat) (h : Hp) (lg : List Ref) (e : Option β) (k : FV → List (Ref × Blk) → List Ref → Option β)
theorem fu_agg (cs : List IV) : fzU 12 (.agg cs) h lg e k = cond (Nat.ble cs.length 300) (fzLK (fzU 11) cs h lg e fun cs u lg => k (.agg cs) u lg) e := rfl
theorem fu_ptr (s : Nat) (off : Nat) : fzU 12 (.ptr (.own s) off) h lg e k = getK (.own s) h fun b => asRow b fun cells => cond (Nat.ble cells.length 300) (fzLK (fzU 11) cells h (.own s :: lg) e fun cs u lg => k (.fp cs off) ((.own s, .row cells true) :: u) lg) e := rfl
theorem fv_fv (v : FV) : fzU 11 (.fv v) h lg e k = k v [] lg := rfl
theorem fl0 (g : FzK β) (k : List FV → List (Ref × Blk) → List Ref → Option β) : fzLK g [] h lg e k = k [] [] lg := rfl
theorem fl1 (g : FzK β) (x : IV) (l : List IV) (k : List FV → List (Ref × Blk) → List Ref → Option β) : fzLK g (x :: l) h lg e k = g x h lg e fun y u lg => fzLK g l h lg e fun ys us lg => apK u us fun w => k (y :: ys) w lg := rfl
end
noncomputable def isoC (rs : List Ref) (r : Option (IV × Hp)) (h : Hp) (u : List (Ref × Blk)) (lg : List Ref) (e : Option (IV × Hp)) (g : List Ref → Option (IV × Hp)) (k : IV → Hp → List Ref → List Ref → Option (IV × Hp)) : Option (IV × Hp) := match rs with
  | [] => (match r with
    | none => none
    | some p => match p with
      | (v, h') => match h' with
        | ⟨own, ext⟩ => List.casesOn (motive := fun _ => Option (IV × Hp)) ext (fzU 12 v ⟨own, []⟩ [] e fun w _ _ => layU u h fun h2 => k (.fv w) h2 lg (keys u)) fun _ _ => none)
  | r :: rs => g (r :: rs)
theorem iso_e (keep : List Bool) (ih : Handler) (f : FuncId) (args : List IV) (h : Hp) (k : IV → Hp → List Ref → List Ref → Option (IV × Hp)) : isoS keep false false ih f args h k =
    fzA args keep h [] (isoD keep false false ih f args h k) fun vs rs u lg => isoC rs (ih f vs ⟨[], []⟩) h u lg (isoD keep false false ih f args h k) (fun rs => match rs with
      | [] => none
      | r :: rs => (match h with
        | ⟨own, ext⟩ => cond (goB 400 (r :: rs) 0 ext) (match ih f vs ⟨[], ext⟩ with
          | none => none
          | some p => match p with
            | (v, h') => match h' with
              | ⟨own', ext'⟩ => cond (and (Nat.beq ext'.length ext.length) (okB ext.length ext'))
                (fzU 12 v ⟨own', ext'⟩ [] (isoD keep false false ih f args h k) fun w _ _ => layU u ⟨own, ext'⟩ fun h2 => k (.fv w) h2 ((extsUp ext.length).reverse ++ lg) (keys u ++ extsUp ext.length)) none)
          (isoD keep false false ih f args h k))) k := by
  unfold isoS
  simp only [cond_false]
  congr 1
theorem iso_c {r : Option (IV × Hp)} {w : FV} (hr : AnsF r w) (h : Hp) (u : List (Ref × Blk)) (lg : List Ref) (e : Option (IV × Hp)) (g : List Ref → Option (IV × Hp)) (k : IV → Hp → List Ref → List Ref → Option (IV × Hp)) :
    isoC [] r h u lg e g k = layU u h fun h2 => k (.fv w) h2 lg (keys u) := by
  obtain ⟨v, own, rfl, u', lg', hz⟩ := hr
  simp only [isoC]
  rw [hz]
theorem fza_p : ∀ (args : List IV) {vs : List FV} (h : Hp) (lg : List Ref) (e : Option β) (k : List IV → List Ref → List (Ref × Blk) → List Ref → Option β), frzPL args = some vs → fzA args [] h lg e k = k (vs.map .fv) [] [] lg
  | [], vs, h, lg, e, k, hz => by cases hz; rfl
  | v :: l, vs, h, lg, e, k, hz => by
    simp only [frzPL] at hz
    cases h1 : frzP v with
    | none => rw [h1] at hz; cases hz
    | some x =>
      rw [h1] at hz
      cases h2 : frzPL l with
      | none => rw [h2] at hz; cases hz
      | some ys =>
        rw [h2] at hz
        cases hz
        show fzU 12 v h lg e (fun y u lg => fzA l [] h lg e fun vs rs us lg => apK u us fun w => k (.fv y :: vs) rs w lg) = _
        rw [fzp_u h lg e _ h1, fza_p l h lg e _ h2]
        rfl
theorem renL_fv (f : Ref → Option Ref) : ∀ l : List FV, IV.ren.renL f (l.map .fv) = some (l.map .fv)
  | [] => rfl
  | v :: l => by
    simp only [List.map_cons, IV.ren.renL, IV.ren, renL_fv f l]
    rfl
theorem gen_val (v : IV) (s : Nat) (h : Hp) (k : IV → Hp → List Ref → List Ref → Option β) : genS (.ret { eff := { val := v } }) s h k = k v h [] [] := by
  unfold genS
  simp only [Rd.runLog, newRefs, fV_eq]
  rfl
theorem gen_val' (v : IV) (s : Nat) (h : Hp) (k : IV → Hp → List Ref → List Ref → Option β) : genS (Idl.val v) s h k = k v h [] [] := gen_val v s h k
end
end Idl
end Go.Proofs.Ytkfecngimlcfoaa

namespace Go.Proofs.Ytkfecngimlcfoaa
namespace Idl
end Idl
end Go.Proofs.Ytkfecngimlcfoaa

namespace Go.Proofs.Ytkfecngimlcfoaa
namespace Idl
theorem loop_run {F : (List IV → Hp → Option (IV × Hp)) → List IV → Hp → Option (IV × Hp)} {Q : Option (IV × Hp) → Prop} (P : Nat → List IV → Hp → Prop)
    (step : ∀ k V H rec, P k V H → (∀ k' V' H', k' < k → P k' V' H' → Q (rec V' H')) → Q (F rec V H)) : ∀ m k V H, k < m → P k V H → Q (loopS m F V H) := by
  intro m
  induction m with
  | zero => intro k V H h; omega
  | succ m ih => intro k V H hk hP; exact step k V H (loopS m F) hP fun k' V' H' h1 h2 => ih k' V' H' (by omega) h2
mutual
def Tm.wt : Tm → Nat
  | .mk _ _ l => 1 + Tm.wtL l
def Tm.wtL : List Tm → Nat
  | [] => 0
  | t :: l => t.wt + Tm.wtL l
end
theorem wt_mem {t : Tm} : ∀ {l : List Tm}, t ∈ l → t.wt ≤ Tm.wtL l
  | a :: l, h => by
    rcases List.mem_cons.1 h with rfl | h
    · simp only [Tm.wtL]; omega
    · have := wt_mem h; simp only [Tm.wtL]; omega
theorem wt_len : ∀ (l : List Tm), l.length ≤ Tm.wtL l
  | [] => Nat.zero_le _
  | (.mk _ _ k) :: l => by have := wt_len l; simp only [Tm.wtL, Tm.wt, List.length_cons]; omega
theorem enc_mk (op n : Int) (l : List Tm) : (Tm.mk op n l).enc = .agg [.int .i64 op, .int .i64 n, .sl (l.map Tm.enc)] := by simp only [Tm.enc, encL_eq]
theorem map_get {l : List Tm} {i : Nat} {op n : Int} {k : List Tm} (h : l[i]? = some (.mk op n k)) : (l.map Tm.enc)[i]? = some (.agg [.int .i64 op, .int .i64 n, .sl (k.map Tm.enc)]) := by
  rw [List.getElem?_map, h, Option.map_some, enc_mk]
theorem at_pre {α : Type} {l pre rest : List α} {a : α} (h : l = pre ++ a :: rest) : l[pre.length]? = some a := by
  rw [h, List.getElem?_append_right (Nat.le_refl _), Nat.sub_self]; rfl
theorem agg3l (a b c : FV) : (FV.agg [a, b, c]).cells.length = 3 := rfl
end Idl
end Go.Proofs.Ytkfecngimlcfoaa

namespace Go.Proofs.Ytkfecngimlcfoaa
namespace Idl
section
variable {β : Type} {E : Env}
inductive Plain2 : IV → List FV → Prop
  | clip (es : List FV) : Plain2 (.clip es) es
  | sl (es : List FV) : Plain2 (.fv (.sl es)) es
  | app (r : Ref) (es : List FV) : Plain2 (.app r es) es
structure SliceT (E : Env) (t : TypeId) (size : Nat) : Prop where
  h : ∃ a b e z ei, E.T t = some ⟨a, b, .slice e, z⟩ ∧ E.T e = some ei ∧ ei.size = size ∧ size ≠ 0 ∧ ei.bytes ≤ 100000
end
end Idl
end Go.Proofs.Ytkfecngimlcfoaa

namespace Go.Proofs.Ytkfecngimlcfoaa
namespace Idl
theorem emod_w {x m : Int} (h1 : 0 < m) (h2 : m ≤ 4611686018427387904) : (if x.tmod m < 0 then w64 (x.tmod m + m) else x.tmod m) = x % m := by
  have a1 := Int.emod_nonneg x (show m ≠ 0 by omega)
  have a2 := Int.emod_lt_of_pos x h1
  have e1 : x.tmod m = x - m * x.tdiv m := by have := Int.mul_tdiv_add_tmod x m; omega
  have e2 : x % m = x - m * (x / m) := by have := Int.mul_ediv_add_emod x m; omega
  have b1 : -m < x.tmod m := Int.lt_tmod_of_pos x h1
  have b2 : x.tmod m < m := Int.tmod_lt_of_pos x h1
  have key : ∃ q, x.tmod m = x % m + m * q := ⟨x / m - x.tdiv m, by rw [e1, e2, Int.mul_sub]; omega⟩
  obtain ⟨q, hq⟩ := key
  have hq2 : q = 0 ∨ q = -1 := by
    rcases Int.lt_trichotomy q 0 with h | h | h
    · right
      rcases Int.lt_trichotomy q (-1) with h' | h' | h'
      · have : m * q ≤ m * (-2) := Int.mul_le_mul_of_nonneg_left (by omega) (by omega)
        omega
      · exact h'
      · omega
    · exact .inl h
    · have : m * 1 ≤ m * q := Int.mul_le_mul_of_nonneg_left (by omega) (by omega)
      omega
  rcases hq2 with rfl | rfl
  · rw [if_neg (by omega)]; omega
  · rw [if_pos (by omega), w64_id (by omega) (by omega)]; omega
theorem t0_ok {n : Nat} (hn : 0 < n) (op : Int) : Ans (SS dt n 24 [iv op, .fv (.sl [])] ⟨[], []⟩) (Tm.mk op 0 []).enc := by
  obtain ⟨n, rfl⟩ := Nat.exists_eq_add_of_lt hn
  rw [Nat.zero_add, c24]
  simp only [S24, ↓XX, ↓reduceIte, Nat.reduceBEq, decide_true, decide_false, Bool.not_true, Bool.not_false, List.map_cons, List.map_nil, List.length_map, List.length_cons, List.length_nil, Nat.reduceAdd, Int.cast_ofNat_Int, Int.natCast_zero, Int.natCast_one, Bool.false_eq_true, Bool.true_eq_false, decide_eq_true_eq, eq_self, Int.reduceEq, Int.reduceLT, Int.reduceLE, Bool.and_true, Bool.true_and, Bool.and_false, Bool.false_and, Nat.zero_add]
  exact ans_fv _ _
theorem t_ok {n : Nat} (hn : 0 < n) (op : Int) (l : List Tm) : Ans (SS dt n 24 [iv op, .fv (.sl (l.map Tm.enc))] ⟨[], []⟩) (Tm.mk op 0 l).enc := by
  obtain ⟨n, rfl⟩ := Nat.exists_eq_add_of_lt hn
  rw [Nat.zero_add, c24]
  simp only [S24, ↓XX, ↓reduceIte, Nat.reduceBEq, decide_true, decide_false, Bool.not_true, Bool.not_false, List.map_cons, List.map_nil, List.length_map, List.length_cons, List.length_nil, Nat.reduceAdd, Int.cast_ofNat_Int, Int.natCast_zero, Int.natCast_one, Bool.false_eq_true, Bool.true_eq_false, decide_eq_true_eq, eq_self, Int.reduceEq, Int.reduceLT, Int.reduceLE, Bool.and_true, Bool.true_and, Bool.and_false, Bool.false_and, Nat.zero_add, enc_mk]
  exact ans_fv _ _
def Tm.kids : Tm → List Tm
  | .mk _ _ l => l
def Tm.op : Tm → Int
  | .mk o _ _ => o
def Tm.n : Tm → Int
  | .mk _ n _ => n
end Idl
end Go.Proofs.Ytkfecngimlcfoaa

namespace Go.Proofs.Ytkfecngimlcfoaa
namespace Idl
section
variable {β : Type}
def namesV (s : Nat) : IV → Bool
  | .ptr (.own j) _ => s == j
  | .slc (.own j) _ _ => s == j
  | .app (.own j) _ => s == j
  | .mapr (.own j) => s == j
  | _ => false
def flatV : IV → Bool
  | .agg _ | .tuple _ | .func .. => false
  | _ => true
def namesB (s : Nat) : Blk → Bool
  | .row cells _ => cells.any (namesV s)
  | _ => false
def flatB : Blk → Bool
  | .row cells _ => cells.all flatV
  | .tok .. => true
  | .map _ => false
def heldB (rm : List Nat) (vals : List IV) (own : List (Nat × Blk)) (ext : List Blk) (s : Nat) : Bool :=
  vals.any (namesV s) || (own.any (fun p => !rm.contains p.1 && namesB s p.2) || ext.any (namesB s))
def stays (rm : List Nat) (vals : List IV) (own : List (Nat × Blk)) (ext : List Blk) : List (Nat × Blk) := own.filter fun p => !rm.contains p.1 || heldB rm vals own ext p.1
def flatD (rm : List Nat) (vals : List IV) (own : List (Nat × Blk)) (ext : List Blk) : Bool :=
  vals.all flatV && (own.all (fun p => flatB p.2) && (ext.all flatB && own.all fun p => !rm.contains p.1 || rm.all fun s => !namesB s p.2))
end
section
variable (s j : Nat)
theorem st_e (rm : List Nat) (vals : List IV) (own : List (Nat × Blk)) (ext : List Blk) : stays rm vals own ext = own.filter fun p => !rm.contains p.1 || heldB rm vals own ext p.1 := rfl
theorem nv1 (o : Nat) : namesV s (.ptr (.own j) o) = (s == j) := rfl
theorem nv2 (a b : Nat) : namesV s (.slc (.own j) a b) = (s == j) := rfl
theorem nv3 (es : List FV) : namesV s (.app (.own j) es) = (s == j) := rfl
theorem nv4 (v : FV) : namesV s (.fv v) = false := rfl
theorem nv5 : namesV s .nils = false := rfl
theorem nv6 (es : List FV) : namesV s (.clip es) = false := rfl
theorem nv7 (o : Nat) : namesV s (.ptr (.ext j) o) = false := rfl
theorem nv8 : namesV s .dead = false := rfl
theorem nb1 (cs : List IV) (ro : Bool) : namesB s (.row cs ro) = cs.any (namesV s) := rfl
theorem nb2 (a b : Nat) : namesB s (.tok a b) = false := rfl
theorem fl_1 (r : Ref) (o : Nat) : flatV (.ptr r o) = true := rfl
theorem fl_2 (r : Ref) (a b : Nat) : flatV (.slc r a b) = true := rfl
theorem fl_3 (r : Ref) (es : List FV) : flatV (.app r es) = true := rfl
theorem fl_4 (v : FV) : flatV (.fv v) = true := rfl
theorem fl_5 : flatV .nils = true := rfl
theorem fl_6 (es : List FV) : flatV (.clip es) = true := rfl
theorem fl_7 : flatV .dead = true := rfl
theorem fb_1 (cs : List IV) (ro : Bool) : flatB (.row cs ro) = cs.all flatV := rfl
theorem fb_2 (a b : Nat) : flatB (.tok a b) = true := rfl
end
def XD := And.intro @st_e <| And.intro @nv1 <| And.intro @nv2 <| And.intro @nv3 <| And.intro @nv4 <| And.intro @nv5 <| And.intro @nv6 <| And.intro @nv7 <| And.intro @nv8 <| And.intro @nb1 <| And.intro @nb2 <| And.intro @fl_1 <| And.intro @fl_2 <| And.intro @fl_3 <| And.intro @fl_4 <| And.intro @fl_5 <| And.intro @fl_6 <| And.intro @fl_7 <| And.intro @fb_1 <| @fb_2
end Idl
end Go.Proofs.Ytkfecngimlcfoaa

namespace Go.Proofs.Ytkfecngimlcfoaa
namespace Idl
def bindN (op : Int) (i : Nat) : Nat :=
  if op = 3 ∨ op = 4 ∨ op = 6 ∨ op = 20 ∨ op = 28 ∨ op = 29 then (if i = 1 then 1 else 0) else if op = 13 then (if i = 0 then 1 else if i = 2 then 2 else 0) else 0
theorem bindN_le (op : Int) (i : Nat) : bindN op i ≤ 2 := by
  unfold bindN
  repeat' split
  all_goals omega
theorem v_ok {n : Nat} (hn : 0 < n) (x : Int) : Ans (SS dt n 25 [iv x] ⟨[], []⟩) (Tm.mk 1 x []).enc := by
  obtain ⟨n, rfl⟩ : ∃ k, n = k + 1 := ⟨n - 1, by omega⟩
  rw [c25]
  simp only [S25, ↓XX, ↓reduceIte, Nat.reduceBEq, decide_true, decide_false, Bool.not_true, Bool.not_false, List.map_cons, List.map_nil, List.length_map, List.length_cons, List.length_nil, Nat.reduceAdd, Int.cast_ofNat_Int, Int.natCast_zero, Int.natCast_one, Bool.false_eq_true, Bool.true_eq_false, decide_eq_true_eq, eq_self, Int.reduceEq, Int.reduceLT, Int.reduceLE, Bool.and_true, Bool.true_and, Bool.and_false, Bool.false_and, Nat.zero_add]
  exact ans_p rfl _
theorem int_ok {n : Nat} (hn : 0 < n) (x : Int) : Ans (SS dt n 26 [iv x] ⟨[], []⟩) (Tm.mk 25 x []).enc := by
  obtain ⟨n, rfl⟩ : ∃ k, n = k + 1 := ⟨n - 1, by omega⟩
  rw [c26]
  simp only [S26, ↓XX, ↓reduceIte, Nat.reduceBEq, decide_true, decide_false, Bool.not_true, Bool.not_false, List.map_cons, List.map_nil, List.length_map, List.length_cons, List.length_nil, Nat.reduceAdd, Int.cast_ofNat_Int, Int.natCast_zero, Int.natCast_one, Bool.false_eq_true, Bool.true_eq_false, decide_eq_true_eq, eq_self, Int.reduceEq, Int.reduceLT, Int.reduceLE, Bool.and_true, Bool.true_and, Bool.and_false, Bool.false_and, Nat.zero_add]
  exact ans_p rfl _
mutual
/-- No more than four kids anywhere. -/
def Tm.wk : Tm → Prop
  | .mk _ _ ks => ks.length ≤ 4 ∧ Tm.wkL ks
def Tm.wkL : List Tm → Prop
  | [] => True
  | t :: l => t.wk ∧ Tm.wkL l
end
mutual
def Tm.shift : Tm → Int → Int → Tm
  | .mk op n ks, d, c => .mk op (if op = 1 ∧ c ≤ n then w64 (n + d) else n) (Tm.shiftL op 0 ks d c)
def Tm.shiftL : Int → Nat → List Tm → Int → Int → List Tm
  | _, _, [], _, _ => []
  | op, i, t :: l, d, c => t.shift d (c + bindN op i) :: Tm.shiftL op (i + 1) l d c
end
end Idl
end Go.Proofs.Ytkfecngimlcfoaa

namespace Go.Proofs.Ytkfecngimlcfoaa
namespace Idl
mutual
def Tm.subst : Tm → Int → Int → Tm → Tm
  | .mk op m ks, n, d, u => if op = 1 then (if m = n then u.shift d 0 else if n < m then .mk 1 (w64 (m - 1)) [] else .mk op m ks) else .mk op m (Tm.substL op 0 ks n d u)
def Tm.substL : Int → Nat → List Tm → Int → Int → Tm → List Tm
  | _, _, [], _, _, _ => []
  | op, i, t :: l, n, d, u => t.subst (n + bindN op i) (d + bindN op i) u :: Tm.substL op (i + 1) l n d u
end
mutual
def Tm.same : Tm → Tm → Bool
  | .mk o n l, .mk o' n' l' => decide (o = o') && (decide (n = n') && (decide (l.length = l'.length) && Tm.sameL l l'))
def Tm.sameL : List Tm → List Tm → Bool
  | a :: l, b :: l' => a.same b && Tm.sameL l l'
  | _, _ => true
end
mutual
theorem same_eq : ∀ a b : Tm, a.same b = true ↔ a = b
  | .mk o n l, .mk o' n' l' => by
    simp only [Tm.same, Bool.and_eq_true, decide_eq_true_eq, Tm.mk.injEq]
    constructor
    · rintro ⟨rfl, rfl, h1, h2⟩
      exact ⟨rfl, rfl, (sameL_eq l l' h1).1 h2⟩
    · rintro ⟨rfl, rfl, rfl⟩
      exact ⟨rfl, rfl, rfl, (sameL_eq l l rfl).2 rfl⟩
theorem sameL_eq : ∀ l l' : List Tm, l.length = l'.length → (Tm.sameL l l' = true ↔ l = l')
  | [], [], _ => by simp [Tm.sameL]
  | a :: l, b :: l', h => by
    simp only [Tm.sameL, Bool.and_eq_true, List.cons.injEq, same_eq a b, sameL_eq l l' (by simpa using h)]
end
theorem same_ok : ∀ (n : Nat) (a b : Tm), a.wt + 1 < n → a.wt ≤ 1152921504606846976 → Ans (SS dt n 17 [.fv a.enc, .fv b.enc] ⟨[], []⟩) (.bool (a.same b)) := by
  intro n
  induction n with
  | zero => intro a b h; omega
  | succ n ih =>
    intro a b h hw
    obtain ⟨op, m, ks⟩ := a
    obtain ⟨op', m', ks'⟩ := b
    simp only [Tm.wt] at h hw
    rw [c17, enc_mk, enc_mk]
    have hlen := wt_len ks
    rw [Tm.same]
    by_cases h1 : op = op'
    · by_cases h2 : m = m'
      · by_cases h3 : ks.length = ks'.length
        · have h3' : (ks.length : Int) = ks'.length := by omega
          subst h1 h2
          simp only [S17_128, S17_129, S17_130, S17_131, S17_132, S17_134, S17_135, S17_136, S17_137, S17, ↓XX, ↓reduceIte, Nat.reduceBEq, decide_true, decide_false, Bool.not_true, Bool.not_false, List.map_cons, List.map_nil, List.length_map, List.length_cons, List.length_nil, Nat.reduceAdd, Int.cast_ofNat_Int, Int.natCast_zero, Int.natCast_one, Bool.false_eq_true, Bool.true_eq_false, decide_eq_true_eq, eq_self, Int.reduceEq, Int.reduceLT, Int.reduceLE, Bool.and_true, Bool.true_and, Bool.and_false, Bool.false_and, Nat.zero_add, h3, h3', Tm.same]
          refine loop_run (Q := fun r => Ans r _) (fun k V H => ∃ pre rest pre' rest', ks = pre ++ rest ∧ ks' = pre' ++ rest' ∧ pre.length = pre'.length ∧ rest.length = k ∧ V = [.ptr (.own 17825792) 0, .ptr (.own 17825793) 0, iv pre.length] ∧
            H = ⟨[(17825792, .row [iv op, iv m, .fv (.sl (ks.map Tm.enc))] false), (17825793, .row [iv op, iv m, .fv (.sl (ks'.map Tm.enc))] false)], []⟩ ∧ Tm.sameL rest rest' = Tm.sameL ks ks')
            ?_ n ks.length _ _ (by omega) ⟨[], ks, [], ks', rfl, rfl, rfl, rfl, rfl, rfl, rfl⟩
          rintro k V H rec ⟨pre, rest, pre', rest', hk, hk', hpl, hl, rfl, rfl, ht⟩ hrec
          have hkl : ks.length = pre.length + rest.length := by rw [hk]; simp
          have hkl' : ks'.length = pre'.length + rest'.length := by rw [hk']; simp
          cases rest with
          | nil =>
            have hno : ¬ ((pre.length : Int) < ks.length) := by rw [hkl]; simp
            rw [← ht]
            simp only [S17_128, S17_129, S17_130, S17_131, S17_132, S17_133, S17_134, S17_135, S17_136, S17_137, S17, ↓XX, ↓reduceIte, Nat.reduceBEq, decide_true, decide_false, Bool.not_true, Bool.not_false, List.map_cons, List.map_nil, List.length_map, List.length_cons, List.length_nil, Nat.reduceAdd, Int.cast_ofNat_Int, Int.natCast_zero, Int.natCast_one, Bool.false_eq_true, Bool.true_eq_false, decide_eq_true_eq, eq_self, Int.reduceEq, Int.reduceLT, Int.reduceLE, Bool.and_true, Bool.true_and, Bool.and_false, Bool.false_and, Nat.zero_add, hno, Tm.sameL]
            exact ans_fv _ _
          | cons t rest =>
            cases rest' with
            | nil => simp at hkl hkl'; omega
            | cons t' rest' =>
              have hi : (pre.length : Int) < ks.length := by rw [hkl]; simp; omega
              have hg := at_pre hk
              have hg' := at_pre hk'
              rw [← hpl] at hg'
              have htw := wt_mem (t := t) (l := ks) (by rw [hk]; simp)
              have hs := ih t t' (by omega) (by omega)
              have hwi : w64 ((pre.length : Int) + 1) = ((pre ++ [t]).length : Int) := (w64_id (by omega) (by omega)).trans (by simp)
              simp only [Tm.sameL] at ht
              generalize t.same t' = v at hs ht
              obtain ⟨o, p, l⟩ := t
              obtain ⟨o', p', l'⟩ := t'
              simp only [List.length_cons] at hl
              rw [enc_mk, enc_mk] at hs
              cases v
              · rw [← ht]
                simp only [S17_128, S17_129, S17_130, S17_131, S17_132, S17_133, S17_134, S17_135, S17_136, S17_137, S17, ↓XX, ↓reduceIte, Nat.reduceBEq, decide_true, decide_false, Bool.not_true, Bool.not_false, List.map_cons, List.map_nil, List.length_map, List.length_cons, List.length_nil, Nat.reduceAdd, Int.cast_ofNat_Int, Int.natCast_zero, Int.natCast_one, Bool.false_eq_true, Bool.true_eq_false, decide_eq_true_eq, eq_self, Int.reduceEq, Int.reduceLT, Int.reduceLE, Bool.and_true, Bool.true_and, Bool.and_false, Bool.false_and, Nat.zero_add, hi, ↓ix_f (map_get hg) (agg3l _ _ _), ↓ix_f (map_get hg') (agg3l _ _ _), ↓agg3, ↓iso_2 hs, Bool.false_and]
                exact ans_fv _ _
              · simp only [S17_128, S17_129, S17_130, S17_131, S17_132, S17_133, S17_134, S17_135, S17_136, S17_137, S17, ↓XX, ↓reduceIte, Nat.reduceBEq, decide_true, decide_false, Bool.not_true, Bool.not_false, List.map_cons, List.map_nil, List.length_map, List.length_cons, List.length_nil, Nat.reduceAdd, Int.cast_ofNat_Int, Int.natCast_zero, Int.natCast_one, Bool.false_eq_true, Bool.true_eq_false, decide_eq_true_eq, eq_self, Int.reduceEq, Int.reduceLT, Int.reduceLE, Bool.and_true, Bool.true_and, Bool.and_false, Bool.false_and, Nat.zero_add, hi, ↓ix_f (map_get hg) (agg3l _ _ _), ↓ix_f (map_get hg') (agg3l _ _ _), ↓agg3, hwi, ↓iso_2 hs]
                refine hrec rest.length _ _ (by omega) ?_
                exact ⟨pre ++ [.mk o p l], rest, pre' ++ [.mk o' p' l'], rest', by rw [hk]; simp, by rw [hk']; simp, by simp [hpl], rfl, rfl, rfl, by simpa using ht⟩
        · have h3' : ¬ (ks.length : Int) = ks'.length := by omega
          simp only [S17_128, S17_129, S17_130, S17_131, S17_132, S17_134, S17_135, S17_136, S17_137, S17, ↓XX, ↓reduceIte, Nat.reduceBEq, decide_true, decide_false, Bool.not_true, Bool.not_false, List.map_cons, List.map_nil, List.length_map, List.length_cons, List.length_nil, Nat.reduceAdd, Int.cast_ofNat_Int, Int.natCast_zero, Int.natCast_one, Bool.false_eq_true, Bool.true_eq_false, decide_eq_true_eq, eq_self, Int.reduceEq, Int.reduceLT, Int.reduceLE, Bool.and_true, Bool.true_and, Bool.and_false, Bool.false_and, Nat.zero_add, h1, h2, h3, h3']
          exact ans_fv _ _
      · simp only [S17_128, S17_129, S17_130, S17_131, S17_132, S17_134, S17_135, S17_136, S17_137, S17, ↓XX, ↓reduceIte, Nat.reduceBEq, decide_true, decide_false, Bool.not_true, Bool.not_false, List.map_cons, List.map_nil, List.length_map, List.length_cons, List.length_nil, Nat.reduceAdd, Int.cast_ofNat_Int, Int.natCast_zero, Int.natCast_one, Bool.false_eq_true, Bool.true_eq_false, decide_eq_true_eq, eq_self, Int.reduceEq, Int.reduceLT, Int.reduceLE, Bool.and_true, Bool.true_and, Bool.and_false, Bool.false_and, Nat.zero_add, h1, h2]
        exact ans_fv _ _
    · simp only [S17_128, S17_129, S17_130, S17_131, S17_132, S17_134, S17_135, S17_136, S17_137, S17, ↓XX, ↓reduceIte, Nat.reduceBEq, decide_true, decide_false, Bool.not_true, Bool.not_false, List.map_cons, List.map_nil, List.length_map, List.length_cons, List.length_nil, Nat.reduceAdd, Int.cast_ofNat_Int, Int.natCast_zero, Int.natCast_one, Bool.false_eq_true, Bool.true_eq_false, decide_eq_true_eq, eq_self, Int.reduceEq, Int.reduceLT, Int.reduceLE, Bool.and_true, Bool.true_and, Bool.and_false, Bool.false_and, Nat.zero_add, h1]
      exact ans_fv _ _
end Idl
end Go.Proofs.Ytkfecngimlcfoaa

namespace Go.Proofs.Ytkfecngimlcfoaa
namespace Idl
def isTrueN (o : Option (IV × Hp)) : Bool := match o with
  | some (.fv (.bool b), ⟨_, []⟩) => b
  | _ => false
theorem ans_trueN {o : Option (IV × Hp)} (h : isTrueN o = true) : Ans o (.bool true) := by
  unfold isTrueN at h
  split at h
  · subst h; exact ans_fv _ _
  · cases h
def AnsV (r : Option (IV × Hp)) (v : FV) : Prop := ∃ own, r = some (.fv v, ⟨own, []⟩)
theorem ansv {v : FV} {own : List (Nat × Blk)} : AnsV (some (.fv v, ⟨own, []⟩)) v := ⟨own, rfl⟩
def tnum : Nat → Tm
  | 0 => .mk 11 0 []
  | n + 1 => .mk 12 0 [tnum n]
end Idl
end Go.Proofs.Ytkfecngimlcfoaa

namespace Go.Proofs.Ytkfecngimlcfoaa
namespace Idl
section
variable {β : Type} {E : Env}
def AnsX (r : Option (IV × Hp)) (w : FV) (ext : List Blk) : Prop := ∃ v own, r = some (v, ⟨own, ext⟩) ∧
  ∃ u lg, ∀ (e : Option (IV × Hp)) (K : FV → List (Ref × Blk) → List Ref → Option (IV × Hp)), fzU 12 v ⟨own, ext⟩ [] e K = K w u lg
theorem ansx_fv (w : FV) (own : List (Nat × Blk)) (ext : List Blk) : AnsX (some (.fv w, ⟨own, ext⟩)) w ext := ⟨_, own, rfl, [], [], fun _ _ => rfl⟩
theorem ansx_p {v : IV} {w : FV} (hz : frzP v = some w) (own : List (Nat × Blk)) (ext : List Blk) : AnsX (some (v, ⟨own, ext⟩)) w ext := ⟨_, own, rfl, [], [], fun e K => fzp_u _ _ e K hz⟩
theorem refsDL_fv : ∀ l : List FV, refsDL (l.map .fv) [] = []
  | [] => rfl
  | v :: l => by
    show refsD (.fv v) (refsDL (l.map .fv) []) = []
    rw [refsDL_fv l]
    rfl
theorem okB_one (st : List FV) : okB 1 [.row (st.map .fv) false] = true := by
  show cond (okR 1 (refsB (.row (st.map .fv) false))) true false = true
  rw [show refsB (.row (st.map .fv) false) = refsDL (st.map .fv) [] from rfl, refsDL_fv]
  rfl
theorem iso_cx {r1 : Ref} {rs1 : List Ref} {ih : Handler} {f : FuncId} {vs : List IV} {w : FV} {ext ext' : List Blk} (hr : AnsX (ih f vs ⟨[], ext⟩) w ext') (hg : goB 400 (r1 :: rs1) 0 ext = true) (hl : ext'.length = ext.length) (ho : okB ext.length ext' = true)
    (own : List (Nat × Blk)) (r0 : Option (IV × Hp)) (u : List (Ref × Blk)) (lg : List Ref) (e : Option (IV × Hp)) (k : IV → Hp → List Ref → List Ref → Option (IV × Hp)) :
    isoC (r1 :: rs1) r0 ⟨own, ext⟩ u lg e (fun rs => match rs with
      | [] => none
      | r :: rs => (match (⟨own, ext⟩ : Hp) with
        | ⟨own, ext⟩ => cond (goB 400 (r :: rs) 0 ext) (match ih f vs ⟨[], ext⟩ with
          | none => none
          | some p => match p with
            | (v, h') => match h' with
              | ⟨own', ext'⟩ => cond (and (Nat.beq ext'.length ext.length) (okB ext.length ext'))
                (fzU 12 v ⟨own', ext'⟩ [] e fun w _ _ => layU u ⟨own, ext'⟩ fun h2 => k (.fv w) h2 ((extsUp ext.length).reverse ++ lg) (keys u ++ extsUp ext.length)) none)
          e)) k = layU u ⟨own, ext'⟩ fun h2 => k (.fv w) h2 ((extsUp ext.length).reverse ++ lg) (keys u ++ extsUp ext.length) := by
  obtain ⟨v, own', e1, u', lg', hz⟩ := hr
  simp only [isoC, hg, e1, hl, ho]
  rw [show (Nat.beq ext.length ext.length && true) = true by rw [Bool.and_true]; exact Nat.beq_refl _, cond_true, hz]
  rfl
structure OneX (ext ext' : List Blk) : Prop where
  g : goB 400 [.ext 0] 0 ext = true
  l : ext.length = 1
  l' : ext'.length = 1
  o : okB 1 ext' = true
theorem fza_k (x : Nat) : ∀ (args : List IV) {vs : List FV} (h : Hp) (lg : List Ref) (e : Option β) (k : List IV → List Ref → List (Ref × Blk) → List Ref → Option β) (ks : List Bool), (∀ b ∈ ks, b = false) → frzPL args = some vs →
    fzA args ks h lg e k = k (vs.map .fv) [] [] lg
  | [], vs, h, lg, e, k, ks, _, hz => by cases hz; rfl
  | v :: l, vs, h, lg, e, k, [], _, hz => fza_p (v :: l) h lg e k hz
  | v :: l, vs, h, lg, e, k, b :: ks, hk, hz => by
    have hb := hk b List.mem_cons_self
    subst hb
    simp only [frzPL] at hz
    cases h1 : frzP v with
    | none => rw [h1] at hz; cases hz
    | some x' =>
      rw [h1] at hz
      cases h2 : frzPL l with
      | none => rw [h2] at hz; cases hz
      | some ys =>
        rw [h2] at hz
        cases hz
        rw [fz1f, fzp_u h lg e _ h1, fza_k x l h lg e _ ks (fun c hc => hk c (List.mem_cons_of_mem _ hc)) h2]
        rfl
end
end Idl
end Go.Proofs.Ytkfecngimlcfoaa

namespace Go.Proofs.Ytkfecngimlcfoaa
namespace Idl
theorem log_run {α : Type} : ∀ (r : Rd α) (h : Hp) (l : List Ref) {x : α} {l' : List Ref}, r.runLog h l = some (x, l') → r.run h = some x
  | .ret a, h, l, x, l', e => by simp only [Rd.runLog, Option.some.injEq, Prod.mk.injEq] at e; rw [e.1]; rfl
  | .fail, _, _, _, _, e => by cases e
  | .get r k, h, l, x, l', e => by
    simp only [Rd.runLog] at e
    simp only [Rd.run]
    cases hg : h.get r with
    | none => rw [hg] at e; cases e
    | some b => rw [hg] at e; exact log_run (k b) h _ e
theorem ansx_frz {v : IV} {own : List (Nat × Blk)} {ext : List Blk} {w : FV} (h : ∃ u lg, ∀ (e : Option (IV × Hp)) (K : FV → List (Ref × Blk) → List Ref → Option (IV × Hp)), fzU 12 v ⟨own, ext⟩ [] e K = K w u lg) : ∃ u, (frz 4096 v).run ⟨own, ext⟩ = some (w, u) := by
  obtain ⟨u, lg, hz⟩ := h
  rcases fzU_ok 12 v ⟨own, ext⟩ [] none (fun w _ _ => some (IV.fv w, (⟨[], []⟩ : Hp))) (.fv w, ⟨[], []⟩) (hz ..) with h | ⟨x, u', lg', h1, _, h2⟩
  · cases h
  · simp only [Option.some.injEq, Prod.mk.injEq, IV.fv.injEq, and_true] at h2
    subst h2
    exact ⟨u', log_run _ _ _ (h1 4096 (by decide))⟩
theorem refsL_fv : ∀ l : List FV, IV.refs.refsL (l.map .fv) = []
  | [] => rfl
  | v :: l => by
    simp only [List.map_cons, IV.refs.refsL, IV.refs, refsL_fv l, List.append_nil]
theorem frz_argsk : ∀ (args : List IV) (ks : List Bool) {vs : List FV}, (∀ b ∈ ks, b = false) → frzPL args = some vs → frzArgs ks args = .ret (vs.map .fv, [], [])
  | [], ks, vs, _, hz => by cases hz; cases ks <;> rfl
  | v :: l, [], vs, _, hz => frz_args (v :: l) hz
  | v :: l, b :: ks, vs, hk, hz => by
    have hb := hk b List.mem_cons_self
    subst hb
    simp only [frzPL] at hz
    cases h1 : frzP v with
    | none => rw [h1] at hz; cases hz
    | some x =>
      rw [h1] at hz
      cases h2 : frzPL l with
      | none => rw [h2] at hz; cases hz
      | some ys =>
        rw [h2] at hz
        cases hz
        simp only [frzArgs, frp 4096 (by omega) h1, Rd.bind, frz_argsk l ks (fun c hc => hk c (List.mem_cons_of_mem _ hc)) h2]
        rfl
theorem goB_own (s : Nat) (ext : List Blk) : goB 400 [.own s] 0 ext = false := rfl
end Idl
end Go.Proofs.Ytkfecngimlcfoaa

namespace Go.Proofs.Ytkfecngimlcfoaa
namespace Idl
section
variable {β : Type}
structure ExtX (ext ext' : List Blk) : Prop where
  g : goB 400 [.ext 0] 0 ext = true
  l : ext'.length = ext.length
  o : okB ext.length ext' = true
theorem iso_g {ks : List Bool} {ih : Handler} {f : FuncId} {args : List IV} {vs : List FV} {w : FV} {u : List (Ref × Blk)} {lg : List Ref} {own own' : List (Nat × Blk)} {ext ext' : List Blk}
    (hz : ∀ (e : Option (IV × Hp)) (k : List IV → List Ref → List (Ref × Blk) → List Ref → Option (IV × Hp)), fzA args ks ⟨own, ext⟩ [] e k = k (vs.map .fv) [] u lg) (X : ExtX ext ext')
    (hr : AnsX (ih f (.ptr (.ext 0) 0 :: vs.map .fv) ⟨[], ext⟩) w ext') (hlay : ∀ k : Hp → Option (IV × Hp), layU u ⟨own, ext'⟩ k = k ⟨own', ext'⟩) (k : IV → Hp → List Ref → List Ref → Option (IV × Hp)) :
    isoS (true :: ks) false false ih f (.ptr (.ext 0) 0 :: args) ⟨own, ext⟩ k = k (.fv w) ⟨own', ext'⟩ ((extsUp ext.length).reverse ++ lg) (keys u ++ extsUp ext.length) := by
  rw [iso_e, fz1k, as_p, hz]
  have := iso_cx (r1 := .ext 0) (rs1 := []) hr X.g X.l X.o own (ih f (.ptr (.ext 0) 0 :: vs.map .fv) ⟨[], []⟩) u lg (isoD (true :: ks) false false ih f (.ptr (.ext 0) 0 :: args) ⟨own, ext⟩ k) k
  exact this.trans (hlay _)
theorem chk1 : ∀ (cs : List FV), (∀ x ∈ cs, ∀ l, x ≠ .agg l) → ∀ k : List FV → Option β, chK 1 cs.length cs k = k cs
  | [], _, k => rfl
  | c :: cs, h, k => by
    show (takK (c :: cs) 1 fun a => drpK (c :: cs) 1 fun b => elK2 a fun x => chK 1 cs.length b fun xs => k (x :: xs)) = _
    rw [t1, d1]
    have : ∀ k : FV → Option β, elK2 [c] k = k c := by
      intro k
      cases c with
      | agg l => exact absurd rfl (h _ List.mem_cons_self l)
      | _ => rfl
    rw [this, chk1 cs (fun x hx => h x (List.mem_cons_of_mem _ hx))]
theorem fzl_fv (d : Nat) (h : Hp) (lg : List Ref) (e : Option β) : ∀ (l : List FV) (k : List FV → List (Ref × Blk) → List Ref → Option β), fzLK (fzU (d + 1)) (l.map .fv) h lg e k = k l [] lg
  | [], k => rfl
  | v :: l, k => by
    show (fzU (d + 1) (.fv v) h lg e fun y u lg => fzLK (fzU (d + 1)) (l.map .fv) h lg e fun ys us lg => apK u us fun w => k (y :: ys) w lg) = _
    show (fzLK (fzU (d + 1)) (l.map .fv) h lg e fun ys us lg => apK [] us fun w => k (v :: ys) w lg) = _
    rw [fzl_fv d h lg e l]
    rfl
theorem fz_slc {d : Nat} {s : Nat} {es : List FV} {ro : Bool} {own : List (Nat × Blk)} {ext : List Blk} (hl : lookupOwn s own = some (.row (es.map .fv) ro)) (hn : es.length ≤ 300) (ha : ∀ x ∈ es, ∀ l, x ≠ .agg l) (lg : List Ref) (e : Option β)
    (k : FV → List (Ref × Blk) → List Ref → Option β) : fzU (d + 2) (.slc (.own s) 1 es.length) ⟨own, ext⟩ lg e k = k (.sl es) [(.own s, .row (es.map .fv) true)] (.own s :: lg) := by
  show (getK (.own s) ⟨own, ext⟩ fun b => asRow b fun cells => cond (Nat.ble cells.length 300) (cond (or (Nat.beq 1 0) (not (Nat.ble (es.length * 1) cells.length))) none
    (fzLK (fzU (d + 1)) cells ⟨own, ext⟩ (.own s :: lg) e fun cs u lg => chK 1 es.length cs fun els => k (.sl els) ((.own s, .row cells true) :: u) lg)) e) = _
  rw [g_own, ownK_eq, hl]
  simp only [Option.bind_some, as_row, List.length_map, Nat.mul_one]
  rw [ble_dec, decide_eq_true hn, c_t, show Nat.ble es.length es.length = true by rw [ble_dec]; exact decide_eq_true (Nat.le_refl _)]
  simp only [Bool.not_true]
  show (fzLK (fzU (d + 1)) (es.map .fv) ⟨own, ext⟩ (.own s :: lg) e fun cs u lg => chK 1 es.length cs fun els => k (.sl els) ((.own s, .row (es.map .fv) true) :: u) lg) = _
  rw [fzl_fv, chk1 es ha]
end
end Idl
end Go.Proofs.Ytkfecngimlcfoaa

namespace Go.Proofs.Ytkfecngimlcfoaa
namespace Idl
theorem flat_fv (l : List FV) : (l.map IV.fv).all flatV = true := by induction l with
  | nil => rfl
  | cons a l ih => rw [List.map_cons, List.all_cons, ih]; rfl
theorem names_fv (s : Nat) (l : List FV) : (l.map IV.fv).any (namesV s) = false := by induction l with
  | nil => rfl
  | cons a l ih => rw [List.map_cons, List.any_cons, ih]; rfl
def cellsF : List Tm → List FV
  | [] => []
  | .mk o n k :: l => .int .i64 o :: .int .i64 n :: .sl (k.map Tm.enc) :: cellsF l
def zeroT : Nat → List IV
  | 0 => []
  | n + 1 => iv 0 :: iv 0 :: .nils :: zeroT n
def cellsT (ts : List Tm) (r : Nat) : List IV := (cellsF ts).map .fv ++ zeroT r
theorem cellsF_len (ts : List Tm) : (cellsF ts).length = 3 * ts.length := by
  induction ts with
  | nil => rfl
  | cons t l ih => obtain ⟨o, n, k⟩ := t; simp only [cellsF, List.length_cons, ih]; omega
theorem chk3 {β : Type} : ∀ (ts : List Tm) (k : List FV → Option β), chK 3 ts.length (cellsF ts) k = k (ts.map Tm.enc)
  | [], k => rfl
  | .mk o n ks :: l, k => by
    show (takK (cellsF (.mk o n ks :: l)) 3 fun a => drpK (cellsF (.mk o n ks :: l)) 3 fun b => elK2 a fun x => chK 3 l.length b fun xs => k (x :: xs)) = _
    rw [cellsF, t3, d3]
    show (chK 3 l.length (cellsF l) fun xs => k (.agg [.int .i64 o, .int .i64 n, .sl (ks.map Tm.enc)] :: xs)) = _
    rw [chk3 l, List.map_cons, enc_mk]
theorem flat_t (ts : List Tm) (r : Nat) : (cellsT ts r).all flatV = true := by
  unfold cellsT
  rw [List.all_append, flat_fv, Bool.true_and]
  induction r with
  | zero => rfl
  | succ r ih => rw [zeroT, List.all_cons, List.all_cons, List.all_cons, ih]; rfl
theorem names_t (s : Nat) (ts : List Tm) (r : Nat) : (cellsT ts r).any (namesV s) = false := by
  unfold cellsT
  rw [List.any_append, names_fv, Bool.false_or]
  induction r with
  | zero => rfl
  | succ r ih => rw [zeroT, List.any_cons, List.any_cons, List.any_cons, ih]; rfl
theorem fz_slc3 {s d : Nat} {ts : List Tm} {ro : Bool} {own : List (Nat × Blk)} {ext : List Blk} (hl : lookupOwn s own = some (.row (cellsT ts 0) ro)) (hn : ts.length ≤ 100) (lg : List Ref) (e : Option (IV × Hp))
    (k : FV → List (Ref × Blk) → List Ref → Option (IV × Hp)) : fzU (d + 2) (.slc (.own s) 3 ts.length) ⟨own, ext⟩ lg e k = k (.sl (ts.map Tm.enc)) [(.own s, .row (cellsT ts 0) true)] (.own s :: lg) := by
  have hlen : (cellsT ts 0).length = 3 * ts.length := by simp [cellsT, zeroT, cellsF_len]
  show (getK (.own s) ⟨own, ext⟩ fun b => asRow b fun cells => cond (Nat.ble cells.length 300) (cond (or (Nat.beq 3 0) (not (Nat.ble (ts.length * 3) cells.length))) none
    (fzLK (fzU (d + 1)) cells ⟨own, ext⟩ (.own s :: lg) e fun cs u lg => chK 3 ts.length cs fun els => k (.sl els) ((.own s, .row cells true) :: u) lg)) e) = _
  rw [g_own, ownK_eq, hl]
  simp only [Option.bind_some, as_row]
  rw [hlen, ble_dec, decide_eq_true (by omega), c_t, ble_dec, decide_eq_true (by omega)]
  simp only [Bool.not_true]
  show (fzLK (fzU (d + 1)) (cellsT ts 0) ⟨own, ext⟩ (.own s :: lg) e fun cs u lg => chK 3 ts.length cs fun els => k (.sl els) ((.own s, .row (cellsT ts 0) true) :: u) lg) = _
  rw [show cellsT ts 0 = (cellsF ts).map .fv by simp [cellsT, zeroT], fzl_fv, chk3]
theorem fz_tm {s : Nat} {ts : List Tm} {ro : Bool} {a b : FV} {own : List (Nat × Blk)} {ext : List Blk} (hl : lookupOwn s own = some (.row (cellsT ts 0) ro)) (hn : ts.length ≤ 100) (lg : List Ref) (e : Option (IV × Hp))
    (k : FV → List (Ref × Blk) → List Ref → Option (IV × Hp)) : fzU 12 (.agg [.fv a, .fv b, .slc (.own s) 3 ts.length]) ⟨own, ext⟩ lg e k = k (.agg [a, b, .sl (ts.map Tm.enc)]) [(.own s, .row (cellsT ts 0) true)] (.own s :: lg) := by
  rw [fu_agg, show Nat.ble [IV.fv a, .fv b, .slc (.own s) 3 ts.length].length 300 = true from rfl, c_t, fl1, fv_fv, fl1, fv_fv, fl1, fz_slc3 (d := 9) hl hn, fl0]
  rfl
theorem ansf_fv (w : FV) (own : List (Nat × Blk)) : AnsF (some (.fv w, ⟨own, []⟩)) w := ⟨_, own, rfl, fz_fv w own⟩
end Idl
end Go.Proofs.Ytkfecngimlcfoaa

namespace Go.Proofs.Ytkfecngimlcfoaa
namespace Idl
theorem iso_gf {ks : List Bool} {ih : Handler} {f : FuncId} {args : List IV} {vs : List FV} {w : FV} {u : List (Ref × Blk)} {lg : List Ref} {own own' : List (Nat × Blk)}
    (hz : ∀ (e : Option (IV × Hp)) (k : List IV → List Ref → List (Ref × Blk) → List Ref → Option (IV × Hp)), fzA args ks ⟨own, []⟩ [] e k = k (vs.map .fv) [] u lg)
    (hr : AnsF (ih f (vs.map .fv) ⟨[], []⟩) w) (hlay : ∀ k : Hp → Option (IV × Hp), layU u ⟨own, []⟩ k = k ⟨own', []⟩) (k : IV → Hp → List Ref → List Ref → Option (IV × Hp)) :
    isoS ks false false ih f args ⟨own, []⟩ k = k (.fv w) ⟨own', []⟩ lg (keys u) := by
  rw [iso_e, hz, iso_c hr, hlay]
theorem mkf_c1 (fn : Fn) (r : Ref) (o : Nat) : mkFunc fn [] [.ptr r o] = .func fn [] [.ptr r o] := rfl
theorem fz_pt {d s : Nat} {cs : List FV} {ro : Bool} {own : List (Nat × Blk)} {ext : List Blk} (hl : lookupOwn s own = some (.row (cs.map .fv) ro)) (hn : cs.length ≤ 300) (lg : List Ref) (e : Option (IV × Hp)) (k : FV → List (Ref × Blk) → List Ref → Option (IV × Hp)) :
    fzU (d + 2) (.ptr (.own s) 0) ⟨own, ext⟩ lg e k = k (.fp cs 0) [(.own s, .row (cs.map .fv) true)] (.own s :: lg) := by
  show (getK (.own s) ⟨own, ext⟩ fun b => asRow b fun cells => cond (Nat.ble cells.length 300) (fzLK (fzU (d + 1)) cells ⟨own, ext⟩ (.own s :: lg) e fun cs u lg => k (.fp cs 0) ((.own s, .row cells true) :: u) lg) e) = _
  rw [g_own, ownK_eq, hl]
  simp only [Option.bind_some, as_row, List.length_map]
  rw [ble_dec, decide_eq_true hn, c_t, fzl_fv]
theorem fz_fn1 {s1 : Nat} {c1 : List FV} {r1 : Bool} {fn : Fn} {own : List (Nat × Blk)} {ext : List Blk} (h1 : lookupOwn s1 own = some (.row (c1.map .fv) r1)) (n1 : c1.length ≤ 300)
    (lg : List Ref) (e : Option (IV × Hp)) (k : FV → List (Ref × Blk) → List Ref → Option (IV × Hp)) :
    fzU 12 (.func fn [] [.ptr (.own s1) 0]) ⟨own, ext⟩ lg e k = k (.func fn [] [.fp c1 0]) [(.own s1, .row (c1.map .fv) true)] (.own s1 :: lg) := by
  show (fzLK (fzU 11) [] ⟨own, ext⟩ lg e fun x u lg => fzLK (fzU 11) [.ptr (.own s1) 0] ⟨own, ext⟩ lg e fun y v lg => apK u v fun w => k (.func fn x y) w lg) = _
  rw [fl0, fl1, fz_pt (d := 9) h1 n1, fl0]
  rfl
end Idl
end Go.Proofs.Ytkfecngimlcfoaa

namespace Go.Proofs.Ytkfecngimlcfoaa
namespace Idl
theorem iso_f1 {ih : Handler} {f : FuncId} {x w : FV} {a : IV} {fn : Fn} {s1 : Nat} {c1 : List FV} {r1 : Bool} {own own' : List (Nat × Blk)} (hr : AnsF (ih f [.fv x, .fv (.func fn [] [.fp c1 0])] ⟨[], []⟩) w) (ha : frzP a = some x)
    (h1 : lookupOwn s1 own = some (.row (c1.map .fv) r1)) (n1 : c1.length ≤ 300) (ho : putOwn s1 (.row (c1.map .fv) true) own = own') (k : IV → Hp → List Ref → List Ref → Option (IV × Hp)) :
    isoS [] false false ih f [a, .func fn [] [.ptr (.own s1) 0]] ⟨own, []⟩ k = k (.fv w) ⟨own', []⟩ [.own s1] [.own s1] := by
  subst ho
  refine iso_gf (vs := [x, .func fn [] [.fp c1 0]]) (u := [(.own s1, .row (c1.map .fv) true)]) (lg := [.own s1]) ?_ hr ?_ k
  · intro e k
    rw [fz1, fzp_u _ _ e _ ha, fz1, fz_fn1 h1 n1, fz0]
    rfl
  · intro k
    show (ownK own s1 fun _ => putOwnK own s1 (.row (c1.map .fv) true) fun own => k ⟨own, _⟩) = _
    rw [ownK_eq, h1, Option.bind_some, putOwnK_eq]
theorem mkf_b (fn : Fn) (p : FV) : mkFunc fn [.fv p] [] = .fv (.func fn [p] []) := rfl
def okP (op : Int) : Bool := (decide (op = 1) || (decide (op = 15) || (decide (op = 16) || decide (op = 17)))) || (decide (20 ≤ op) && decide (op ≤ 29))
mutual
def Tm.plainP : Tm → Bool
  | .mk op _ l => okP op && Tm.plainPL l
def Tm.plainPL : List Tm → Bool
  | [] => true
  | t :: l => t.plainP && Tm.plainPL l
end
abbrev pF : FV := .agg [.int .i64 20, .int .i64 29]
abbrev boundF : FV := .func (.func 42) [pF] []
abbrev closF : FV := .func (.func 74) [] [.fp [boundF] 0]
theorem has1_ok {n : Nat} (t : Tm) (b : Bool) (h : Ans (SS dt n 42 [.fv pF, .fv t.enc] ⟨[], []⟩) (.bool b)) : Ans (SS dt (n + 1) 74 [.fv t.enc, .fv (.fp [boundF] 0)] ⟨[], []⟩) (.bool (!b)) := by
  rw [c74]
  obtain ⟨o, p, l⟩ := t
  rw [enc_mk] at h ⊢
  simp only [S74, ↓XX, ↓reduceIte, Nat.reduceBEq, decide_true, decide_false, Bool.not_true, Bool.not_false, List.map_cons, List.map_nil, List.length_map, List.length_cons, List.length_nil, Nat.reduceAdd, Int.cast_ofNat_Int, Int.natCast_zero, Int.natCast_one, Bool.false_eq_true, Bool.true_eq_false, decide_eq_true_eq, eq_self, Int.reduceEq, Int.reduceLT, Int.reduceLE, Bool.and_true, Bool.true_and, Bool.and_false, Bool.false_and, Nat.zero_add, ↓kp_has, ↓iso_2 h]; exact ans_fv _ _
theorem pindex_ok {n : Nat} (ks : List Tm) (hl : ks.length ≤ 900000) (hn : ks.length < n) (h : ∀ t ∈ ks, Ans (SS dt n 74 [.fv t.enc, .fv (.fp [boundF] 0)] ⟨[], []⟩) (.bool (!t.plainP))) :
    ∃ j : Int, Ans (SS dt (n + 1) 104 [.fv (.sl (ks.map Tm.enc)), .fv closF] ⟨[], []⟩) (.int .i64 j) ∧ (decide (0 ≤ j) = !Tm.plainPL ks) := by
  rw [c104]
  simp only [S104_24, S104_25, S104, ↓XX, ↓reduceIte, Nat.reduceBEq, decide_true, decide_false, Bool.not_true, Bool.not_false, List.map_cons, List.map_nil, List.length_map, List.length_cons, List.length_nil, Nat.reduceAdd, Int.cast_ofNat_Int, Int.natCast_zero, Int.natCast_one, Bool.false_eq_true, Bool.true_eq_false, decide_eq_true_eq, eq_self, Int.reduceEq, Int.reduceLT, Int.reduceLE, Bool.and_true, Bool.true_and, Bool.and_false, Bool.false_and, Nat.zero_add]
  refine loop_run (Q := fun r => ∃ j : Int, Ans r (.int .i64 j) ∧ (decide (0 ≤ j) = !Tm.plainPL ks)) (fun k V H => ∃ (pre rest : List Tm), ks = pre ++ rest ∧ rest.length = k ∧ Tm.plainPL rest = Tm.plainPL ks ∧
      V = [.fv (.sl (ks.map Tm.enc)), .fv closF, iv ks.length, iv pre.length] ∧ H = ⟨[], []⟩)
    ?_ n ks.length _ _ (by omega) ⟨[], ks, rfl, rfl, rfl, rfl, rfl⟩
  rintro k V H rec ⟨pre, rest, hks, hkl, hr, rfl, rfl⟩ hrec
  have hkk : ks.length = pre.length + rest.length := by rw [hks]; simp
  cases rest with
  | nil =>
    have hno : ¬ ((pre.length : Int) < ks.length) := by rw [hkk]; simp
    refine ⟨-1, ?_, by rw [← hr]; rfl⟩
    simp only [S104_24, S104_25, S104_26, S104, ↓XX, ↓reduceIte, Nat.reduceBEq, decide_true, decide_false, Bool.not_true, Bool.not_false, List.map_cons, List.map_nil, List.length_map, List.length_cons, List.length_nil, Nat.reduceAdd, Int.cast_ofNat_Int, Int.natCast_zero, Int.natCast_one, Bool.false_eq_true, Bool.true_eq_false, decide_eq_true_eq, eq_self, Int.reduceEq, Int.reduceLT, Int.reduceLE, Bool.and_true, Bool.true_and, Bool.and_false, Bool.false_and, Nat.zero_add, hno]; exact ans_fv _ _
  | cons x rest =>
    have hi : (pre.length : Int) < ks.length := by rw [hkk]; simp; omega
    have hg2 := at_pre hks
    have hs := h x (by rw [hks]; simp)
    have hwi : w64 ((pre.length : Int) + 1) = ((pre ++ [x]).length : Int) := (w64_id (by omega) (by omega)).trans (by simp)
    rw [Tm.plainPL] at hr
    have h9 := fun e => hrec rest.length [.fv (.sl (ks.map Tm.enc)), .fv closF, iv ks.length, iv (pre ++ [x]).length] _ (by simp only [List.length_cons] at hkl; omega) ⟨pre ++ [x], rest, by rw [hks]; simp, rfl, e, rfl, rfl⟩
    generalize x.plainP = b at hs hr
    cases b
    · rw [Bool.false_and] at hr
      refine ⟨pre.length, ?_, by rw [← hr]; simp⟩
      obtain ⟨o, p, l⟩ := x
      rw [enc_mk] at hs
      simp only [S104_24, S104_25, S104_26, S104, ↓XX, ↓reduceIte, Nat.reduceBEq, decide_true, decide_false, Bool.not_true, Bool.not_false, List.map_cons, List.map_nil, List.length_map, List.length_cons, List.length_nil, Nat.reduceAdd, Int.cast_ofNat_Int, Int.natCast_zero, Int.natCast_one, Bool.false_eq_true, Bool.true_eq_false, decide_eq_true_eq, eq_self, Int.reduceEq, Int.reduceLT, Int.reduceLE, Bool.and_true, Bool.true_and, Bool.and_false, Bool.false_and, Nat.zero_add, hi, ↓ix_f (map_get hg2) (agg3l _ _ _), ↓agg3, ↓kp_clos, List.cons_append, List.nil_append, ↓iso_2 hs]; exact ans_fv _ _
    · rw [Bool.true_and] at hr
      have h9 := h9 hr
      obtain ⟨o, p, l⟩ := x
      rw [enc_mk] at hs
      simp only [S104_24, S104_25, S104_26, S104, ↓XX, ↓reduceIte, Nat.reduceBEq, decide_true, decide_false, Bool.not_true, Bool.not_false, List.map_cons, List.map_nil, List.length_map, List.length_cons, List.length_nil, Nat.reduceAdd, Int.cast_ofNat_Int, Int.natCast_zero, Int.natCast_one, Bool.false_eq_true, Bool.true_eq_false, decide_eq_true_eq, eq_self, Int.reduceEq, Int.reduceLT, Int.reduceLE, Bool.and_true, Bool.true_and, Bool.and_false, Bool.false_and, Nat.zero_add, hi, ↓ix_f (map_get hg2) (agg3l _ _ _), ↓agg3, ↓kp_clos, List.cons_append, List.nil_append, ↓iso_2 hs, hwi]
      exact h9
theorem has_ok : ∀ (n : Nat) (t : Tm), 4 * t.wt + 4 < n → t.wt ≤ 900000 → Ans (SS dt n 42 [.fv pF, .fv t.enc] ⟨[], []⟩) (.bool t.plainP) := by
  intro n
  induction n using Nat.strongRecOn with
  | ind n ih =>
    intro t hn hw
    obtain ⟨op, m, ks⟩ := t
    simp only [Tm.wt] at hn hw
    obtain ⟨n, rfl⟩ : ∃ k, n = k + 1 + 1 + 1 + 1 := ⟨n - 4, by omega⟩
    have hlen := wt_len ks
    rw [c42, enc_mk, Tm.plainP]
    obtain ⟨j, hj, hjb⟩ := pindex_ok (n := n + 1) ks (by omega) (by omega) (fun t ht => has1_ok t _ (ih n (by omega) t (by have := wt_mem ht; omega) (by have := wt_mem ht; omega)))
    have hc : Ans (SS dt (n + 1 + 1 + 1) 73 [.fv (.sl (ks.map Tm.enc)), .fv closF] ⟨[], []⟩) (.bool (!Tm.plainPL ks)) := by
      rw [c73, ← hjb]
      simp only [S73, ↓XX, ↓reduceIte, Nat.reduceBEq, decide_true, decide_false, Bool.not_true, Bool.not_false, List.map_cons, List.map_nil, List.length_map, List.length_cons, List.length_nil, Nat.reduceAdd, Int.cast_ofNat_Int, Int.natCast_zero, Int.natCast_one, Bool.false_eq_true, Bool.true_eq_false, decide_eq_true_eq, eq_self, Int.reduceEq, Int.reduceLT, Int.reduceLE, Bool.and_true, Bool.true_and, Bool.and_false, Bool.false_and, Nat.zero_add, ↓iso_2 hj]; exact ans_fv _ _
    have hcf : AnsF (SS dt (n + 1 + 1 + 1) 73 [.fv (.sl (ks.map Tm.enc)), .fv closF] ⟨[], []⟩) (.bool (!Tm.plainPL ks)) := by
      rw [c73, ← hjb]
      simp only [S73, ↓XX, ↓reduceIte, Nat.reduceBEq, decide_true, decide_false, Bool.not_true, Bool.not_false, List.map_cons, List.map_nil, List.length_map, List.length_cons, List.length_nil, Nat.reduceAdd, Int.cast_ofNat_Int, Int.natCast_zero, Int.natCast_one, Bool.false_eq_true, Bool.true_eq_false, decide_eq_true_eq, eq_self, Int.reduceEq, Int.reduceLT, Int.reduceLE, Bool.and_true, Bool.true_and, Bool.and_false, Bool.false_and, Nat.zero_add, ↓iso_2 hj]; exact ansf_fv _ _
    cases ho : okP op
    · rw [Bool.false_and]
      simp only [okP, Bool.or_eq_false_iff, Bool.and_eq_false_iff, decide_eq_false_iff_not] at ho
      obtain ⟨⟨h1, h2, h3, h4⟩, h5⟩ := ho
      by_cases h6 : op < 20
      · simp only [S42_88, S42_89, S42_90, S42_91, S42_92, S42_93, S42_94, S42, ↓XX, ↓reduceIte, Nat.reduceBEq, decide_true, decide_false, Bool.not_true, Bool.not_false, List.map_cons, List.map_nil, List.length_map, List.length_cons, List.length_nil, Nat.reduceAdd, Int.cast_ofNat_Int, Int.natCast_zero, Int.natCast_one, Bool.false_eq_true, Bool.true_eq_false, decide_eq_true_eq, eq_self, Int.reduceEq, Int.reduceLT, Int.reduceLE, Bool.and_true, Bool.true_and, Bool.and_false, Bool.false_and, Nat.zero_add, h1, h2, h3, h4, h6]; exact ans_fv _ _
      · have h7 : 29 < op := by omega
        simp only [S42_88, S42_89, S42_90, S42_91, S42_92, S42_93, S42_94, S42, ↓XX, ↓reduceIte, Nat.reduceBEq, decide_true, decide_false, Bool.not_true, Bool.not_false, List.map_cons, List.map_nil, List.length_map, List.length_cons, List.length_nil, Nat.reduceAdd, Int.cast_ofNat_Int, Int.natCast_zero, Int.natCast_one, Bool.false_eq_true, Bool.true_eq_false, decide_eq_true_eq, eq_self, Int.reduceEq, Int.reduceLT, Int.reduceLE, Bool.and_true, Bool.true_and, Bool.and_false, Bool.false_and, Nat.zero_add, h1, h2, h3, h4, h6, h7]; exact ans_fv _ _
    · rw [Bool.true_and]
      simp only [okP, Bool.or_eq_true, Bool.and_eq_true, decide_eq_true_eq] at ho
      have hrest : Ans (S42_89 ⟨[(44040192, .row [iv 20, iv 29] false), (44040193, .row [iv op, iv m, .fv (.sl (ks.map Tm.enc))] false)], []⟩ (.ptr (.own 44040192) 0) (.ptr (.own 44040193) 0) (SS dt (n + 1 + 1 + 1))) (.bool (Tm.plainPL ks)) := by
        simp only [S42_88, S42_89, S42_90, S42_91, S42_92, S42_93, S42_94, S42, ↓XX, ↓reduceIte, Nat.reduceBEq, decide_true, decide_false, Bool.not_true, Bool.not_false, List.map_cons, List.map_nil, List.length_map, List.length_cons, List.length_nil, Nat.reduceAdd, Int.cast_ofNat_Int, Int.natCast_zero, Int.natCast_one, Bool.false_eq_true, Bool.true_eq_false, decide_eq_true_eq, eq_self, Int.reduceEq, Int.reduceLT, Int.reduceLE, Bool.and_true, Bool.true_and, Bool.and_false, Bool.false_and, Nat.zero_add, mkf_b, mkf_c1]
        rw [iso_f1 hcf rfl (by rfl) (by simp) rfl]
        simp only [↓XX, ↓reduceIte, Nat.reduceBEq, decide_true, decide_false, Bool.not_true, Bool.not_false, List.map_cons, List.map_nil, List.length_map, List.length_cons, List.length_nil, Nat.reduceAdd, Int.cast_ofNat_Int, Int.natCast_zero, Int.natCast_one, Bool.false_eq_true, Bool.true_eq_false, decide_eq_true_eq, eq_self, Int.reduceEq, Int.reduceLT, Int.reduceLE, Bool.and_true, Bool.true_and, Bool.and_false, Bool.false_and, Nat.zero_add, Bool.not_not]
        exact ans_fv _ _
      by_cases h1 : op = 1
      · simp only [S42_88, S42_90, S42_91, S42_92, S42_93, S42_94, S42, ↓XX, ↓reduceIte, Nat.reduceBEq, decide_true, decide_false, Bool.not_true, Bool.not_false, List.map_cons, List.map_nil, List.length_map, List.length_cons, List.length_nil, Nat.reduceAdd, Int.cast_ofNat_Int, Int.natCast_zero, Int.natCast_one, Bool.false_eq_true, Bool.true_eq_false, decide_eq_true_eq, eq_self, Int.reduceEq, Int.reduceLT, Int.reduceLE, Bool.and_true, Bool.true_and, Bool.and_false, Bool.false_and, Nat.zero_add, h1]; rw [h1] at hrest; exact hrest
      by_cases h2 : op = 15
      · simp only [S42_88, S42_90, S42_91, S42_92, S42_93, S42_94, S42, ↓XX, ↓reduceIte, Nat.reduceBEq, decide_true, decide_false, Bool.not_true, Bool.not_false, List.map_cons, List.map_nil, List.length_map, List.length_cons, List.length_nil, Nat.reduceAdd, Int.cast_ofNat_Int, Int.natCast_zero, Int.natCast_one, Bool.false_eq_true, Bool.true_eq_false, decide_eq_true_eq, eq_self, Int.reduceEq, Int.reduceLT, Int.reduceLE, Bool.and_true, Bool.true_and, Bool.and_false, Bool.false_and, Nat.zero_add, h2]; rw [h2] at hrest; exact hrest
      by_cases h3 : op = 16
      · simp only [S42_88, S42_90, S42_91, S42_92, S42_93, S42_94, S42, ↓XX, ↓reduceIte, Nat.reduceBEq, decide_true, decide_false, Bool.not_true, Bool.not_false, List.map_cons, List.map_nil, List.length_map, List.length_cons, List.length_nil, Nat.reduceAdd, Int.cast_ofNat_Int, Int.natCast_zero, Int.natCast_one, Bool.false_eq_true, Bool.true_eq_false, decide_eq_true_eq, eq_self, Int.reduceEq, Int.reduceLT, Int.reduceLE, Bool.and_true, Bool.true_and, Bool.and_false, Bool.false_and, Nat.zero_add, h3]; rw [h3] at hrest; exact hrest
      by_cases h4 : op = 17
      · simp only [S42_88, S42_90, S42_91, S42_92, S42_93, S42_94, S42, ↓XX, ↓reduceIte, Nat.reduceBEq, decide_true, decide_false, Bool.not_true, Bool.not_false, List.map_cons, List.map_nil, List.length_map, List.length_cons, List.length_nil, Nat.reduceAdd, Int.cast_ofNat_Int, Int.natCast_zero, Int.natCast_one, Bool.false_eq_true, Bool.true_eq_false, decide_eq_true_eq, eq_self, Int.reduceEq, Int.reduceLT, Int.reduceLE, Bool.and_true, Bool.true_and, Bool.and_false, Bool.false_and, Nat.zero_add, h4]; rw [h4] at hrest; exact hrest
      have h5 : ¬ op < 20 := by omega
      have h6 : ¬ 29 < op := by omega
      simp only [S42_88, S42_90, S42_91, S42_92, S42_93, S42_94, S42, ↓XX, ↓reduceIte, Nat.reduceBEq, decide_true, decide_false, Bool.not_true, Bool.not_false, List.map_cons, List.map_nil, List.length_map, List.length_cons, List.length_nil, Nat.reduceAdd, Int.cast_ofNat_Int, Int.natCast_zero, Int.natCast_one, Bool.false_eq_true, Bool.true_eq_false, decide_eq_true_eq, eq_self, Int.reduceEq, Int.reduceLT, Int.reduceLE, Bool.and_true, Bool.true_and, Bool.and_false, Bool.false_and, Nat.zero_add, h1, h2, h3, h4, h5, h6]; exact hrest
theorem pPlain_ok {n : Nat} (t : Tm) (hn : 4 * t.wt + 5 < n) (hw : t.wt ≤ 900000) : Ans (SS dt n 18 [.fv t.enc] ⟨[], []⟩) (.bool t.plainP) := by
  obtain ⟨n, rfl⟩ : ∃ k, n = k + 1 := ⟨n - 1, by omega⟩
  rw [c18]
  have h := has_ok n t (by omega) hw
  obtain ⟨o, p, l⟩ := t
  rw [enc_mk] at h ⊢
  simp only [S18, ↓XX, ↓reduceIte, Nat.reduceBEq, decide_true, decide_false, Bool.not_true, Bool.not_false, List.map_cons, List.map_nil, List.length_map, List.length_cons, List.length_nil, Nat.reduceAdd, Int.cast_ofNat_Int, Int.natCast_zero, Int.natCast_one, Bool.false_eq_true, Bool.true_eq_false, decide_eq_true_eq, eq_self, Int.reduceEq, Int.reduceLT, Int.reduceLE, Bool.and_true, Bool.true_and, Bool.and_false, Bool.false_and, Nat.zero_add, ↓iso_2 h]; exact ans_fv _ _
end Idl
end Go.Proofs.Ytkfecngimlcfoaa

namespace Go.Proofs.Ytkfecngimlcfoaa
namespace Idl
inductive RV where
  | mk (op n : Int) (k env : List RV) (b : Tm)
def Tm.z : Tm := .mk 0 0 []
def RV.enc : RV → FV
  | .mk op n k env (.mk bo bn bk) => .fp [.int .i64 op, .int .i64 n, .sl (encL k), .sl (encL env), .int .i64 bo, .int .i64 bn, .sl (bk.map Tm.enc)] 0
where
  encL : List RV → List FV
    | [] => []
    | v :: l => v.enc :: encL l
def RV.op : RV → Int
  | .mk op _ _ _ _ => op
def RV.n : RV → Int
  | .mk _ n _ _ _ => n
def RV.k : RV → List RV
  | .mk _ _ k _ _ => k
def RV.env : RV → List RV
  | .mk _ _ _ env _ => env
def RV.b : RV → Tm
  | .mk _ _ _ _ b => b
def RV.var (n : Int) : RV := .mk 1 n [] [] .z
def RV.zero : RV := .mk 11 0 [] [] .z
end Idl
end Go.Proofs.Ytkfecngimlcfoaa

namespace Go.Proofs.Ytkfecngimlcfoaa
namespace Idl
inductive PV where
  | nil
  | mk (op n : Int) (k : List PV) (t : Tm) (e : List PV)
def PV.enc : PV → FV
  | .nil => .nilp
  | .mk op n k (.mk to tn tk) e => .fp [.int .i64 op, .int .i64 n, .sl (encL k), .int .i64 to, .int .i64 tn, .sl (tk.map Tm.enc), encE e] 0
where
  encL : List PV → List FV
    | [] => []
    | v :: l => v.enc :: encL l
  encE : List PV → FV
    | [] => .nilp
    | v :: l => .fp [v.enc, encE l] 0
def PV.encEnv : List PV → FV
  | [] => .nilp
  | v :: l => .fp [v.enc, encEnv l] 0
theorem pencL_eq (l : List PV) : PV.enc.encL l = l.map PV.enc := by
  induction l with
  | nil => rfl
  | cons t l ih => simp [PV.enc.encL, ih]
theorem pencE_eq (l : List PV) : PV.enc.encE l = PV.encEnv l := by
  induction l with
  | nil => rfl
  | cons t l ih => simp [PV.enc.encE, PV.encEnv, ih]
theorem penc_nil : PV.nil.enc = .nilp := rfl
theorem penc_mk (op n : Int) (k : List PV) (bo bn : Int) (bk : List Tm) (e : List PV) : (PV.mk op n k (.mk bo bn bk) e).enc =
    .fp [.int .i64 op, .int .i64 n, .sl (k.map PV.enc), .int .i64 bo, .int .i64 bn, .sl (bk.map Tm.enc), PV.encEnv e] 0 := by simp only [PV.enc, pencL_eq, pencE_eq]
theorem penv_nil : PV.encEnv [] = .nilp := rfl
def PV.var (n : Int) : PV := .mk 1 n [] .z []
theorem pvar_enc (n : Int) : (PV.var n).enc = .fp [.int .i64 1, .int .i64 n, .sl [], .int .i64 0, .int .i64 0, .sl [], .nilp] 0 := by rw [PV.var, Tm.z, penc_mk]; rfl
theorem penc_agg (v : PV) : ∀ l, v.enc ≠ .agg l := by
  intro l h
  cases v with
  | nil => cases h
  | mk op n k t e => obtain ⟨bo, bn, bk⟩ := t; rw [penc_mk] at h; cases h
noncomputable abbrev ruleB (f : FuncId) : IV := .agg [.func (.func f) [.ptr (.ext 0) 0] []]
noncomputable abbrev rulesB : Blk := .map [(5, ruleB 94), (8, ruleB 95), (9, ruleB 95), (13, ruleB 96), (30, ruleB 97), (19, ruleB 98)]
noncomputable abbrev MX (s w r e : Int) : List Blk := [.row [iv s, iv w, iv r, iv e, .mapr (.ext 1)] false, rulesB]
theorem extX (s w r e s' w' r' e' : Int) : ExtX (MX s w r e) (MX s' w' r' e') := ⟨rfl, rfl, rfl⟩
section
variable {ih : Handler} {f : FuncId} {w : FV} {s u r e s' u' r' e' : Int} (own : List (Nat × Blk)) (k : IV → Hp → List Ref → List Ref → Option (IV × Hp))
end
theorem iso_x2p {ih : Handler} {f : FuncId} {w : FV} {s0 : Nat} {s u r e s' u' r' e' : Int} {own : List (Nat × Blk)} {cells : List IV} {ro : Bool} {fc : List FV} (hr : AnsX (ih f [.ptr (.ext 0) 0, .fv (.fp fc 0)] ⟨[], MX s u r e⟩) w (MX s' u' r' e'))
    (hl : lookupOwn s0 own = some (.row cells ro)) (hz : frz1L cells = some fc) (hn : cells.length ≤ 300) (k : IV → Hp → List Ref → List Ref → Option (IV × Hp)) :
    isoS [true, false] false false ih f [.ptr (.ext 0) 0, .ptr (.own s0) 0] ⟨own, MX s u r e⟩ k = k (.fv w) ⟨putOwn s0 (.row cells true) own, MX s' u' r' e'⟩ [.ext 1, .ext 0, .own s0] [.own s0, .ext 0, .ext 1] := by
  refine iso_g (ks := [false]) (vs := [.fp fc 0]) (u := [(.own s0, .row cells true)]) (lg := [.own s0]) ?_ (extX ..) hr ?_ k
  · intro e k
    rw [fz1f, fu_ptr, g_own, ownK_eq, hl]
    simp only [Option.bind_some, as_row]
    rw [ble_dec, decide_eq_true hn, c_t, fz1_l 10 _ _ _ cells _ hz, fz0]
    rfl
  · intro k
    show (ownK own s0 fun _ => putOwnK own s0 (.row cells true) fun own => k ⟨own, _⟩) = _
    rw [ownK_eq, hl, Option.bind_some, putOwnK_eq]
structure M3 where
  s : Int
  w : Int
  e : Int
def tickP (m : M3) : Option M3 := if m.w < -1000000000 ∨ 1000000000 < m.w then none else some ⟨m.s, m.w - 1, if m.w - 1 < 0 ∧ m.e = 0 then 17 else m.e⟩
theorem tick_ok {m m' : M3} (h : tickP m = some m') (r : Int) {n : Nat} (hn : 0 < n) : AnsX (SS dt n 99 [.ptr (.ext 0) 0] ⟨[], MX m.s m.w r m.e⟩) (.tuple []) (MX m'.s m'.w r m'.e) := by
  obtain ⟨n, rfl⟩ : ∃ k, n = k + 1 := ⟨n - 1, by omega⟩
  rw [c99]
  unfold tickP at h
  split at h
  · cases h
  · cases h
    have hw : w64 (m.w - 1) = m.w - 1 := by rw [w64_id] <;> omega
    by_cases h1 : m.w - 1 < 0
    · by_cases h2 : m.e = 0
      · simp only [S99_53, S99_54, S99_55, S99_56, S99, ↓XX, ↓reduceIte, Nat.reduceBEq, decide_true, decide_false, Bool.not_true, Bool.not_false, List.map_cons, List.map_nil, List.length_map, List.length_cons, List.length_nil, Nat.reduceAdd, Int.cast_ofNat_Int, Int.natCast_zero, Int.natCast_one, Bool.false_eq_true, Bool.true_eq_false, decide_eq_true_eq, eq_self, Int.reduceEq, Int.reduceLT, Int.reduceLE, Bool.and_true, Bool.true_and, Bool.and_false, Bool.false_and, Nat.zero_add, hw, h1, h2, true_and, and_true, if_true]
        exact ansx_fv _ _ _
      · simp only [S99_53, S99_54, S99_55, S99_56, S99, ↓XX, ↓reduceIte, Nat.reduceBEq, decide_true, decide_false, Bool.not_true, Bool.not_false, List.map_cons, List.map_nil, List.length_map, List.length_cons, List.length_nil, Nat.reduceAdd, Int.cast_ofNat_Int, Int.natCast_zero, Int.natCast_one, Bool.false_eq_true, Bool.true_eq_false, decide_eq_true_eq, eq_self, Int.reduceEq, Int.reduceLT, Int.reduceLE, Bool.and_true, Bool.true_and, Bool.and_false, Bool.false_and, Nat.zero_add, hw, h1, h2, and_false, if_false]
        exact ansx_fv _ _ _
    · simp only [S99_53, S99_54, S99_55, S99_56, S99, ↓XX, ↓reduceIte, Nat.reduceBEq, decide_true, decide_false, Bool.not_true, Bool.not_false, List.map_cons, List.map_nil, List.length_map, List.length_cons, List.length_nil, Nat.reduceAdd, Int.cast_ofNat_Int, Int.natCast_zero, Int.natCast_one, Bool.false_eq_true, Bool.true_eq_false, decide_eq_true_eq, eq_self, Int.reduceEq, Int.reduceLT, Int.reduceLE, Bool.and_true, Bool.true_and, Bool.and_false, Bool.false_and, Nat.zero_add, hw, h1, false_and, if_false]
      exact ansx_fv _ _ _
def lookP (env : List PV) (m : Int) : PV := if m < env.length then env.getD m.toNat .nil else .var (env.length - 1 - m)
theorem with_c {n : Nat} (env l : List PV) (hl : l.length ≤ 10) (hn : l.length + 1 < n) : Ans (SS dt n 111 [.fv (PV.encEnv env), .fv (.sl (l.map PV.enc))] ⟨[], []⟩) (PV.encEnv (l.reverse ++ env)) := by
  obtain ⟨n, rfl⟩ : ∃ k, n = k + 1 := ⟨n - 1, by omega⟩
  rw [c111]
  simp only [S111_27, S111_28, S111, ↓XX, ↓reduceIte, Nat.reduceBEq, decide_true, decide_false, Bool.not_true, Bool.not_false, List.map_cons, List.map_nil, List.length_map, List.length_cons, List.length_nil, Nat.reduceAdd, Int.cast_ofNat_Int, Int.natCast_zero, Int.natCast_one, Bool.false_eq_true, Bool.true_eq_false, decide_eq_true_eq, eq_self, Int.reduceEq, Int.reduceLT, Int.reduceLE, Bool.and_true, Bool.true_and, Bool.and_false, Bool.false_and, Nat.zero_add, ↓drop_e, XD, heldB, flatD, List.any_cons, List.any_nil, List.all_cons, List.all_nil, List.filter_cons, List.filter_nil, List.contains_cons, List.contains_nil, Bool.or_false, Bool.or_true, Bool.false_or, Bool.true_or, Bool.and_self, Bool.not_eq_true, BEq.rfl, beq_self_eq_true]
  refine loop_run (Q := fun r => Ans r _) (fun k V H => ∃ (pre rest : List PV), l = pre ++ rest ∧ rest.length = k ∧ V = [.fv (PV.encEnv (pre.reverse ++ env)), .fv (.sl (l.map PV.enc)), iv l.length, iv pre.length] ∧ H = ⟨[], []⟩) ?_ n l.length _ _ (by omega) ⟨[], l, rfl, rfl, rfl, rfl⟩
  rintro k V H rec ⟨pre, rest, hk, hl2, rfl, rfl⟩ hrec
  have hkl : l.length = pre.length + rest.length := by rw [hk]; simp
  cases rest with
  | nil =>
    have hno : ¬ ((pre.length : Int) < l.length) := by rw [hkl]; simp
    rw [List.append_nil] at hk
    subst hk
    simp only [S111_27, S111_28, S111_29, S111, ↓XX, ↓reduceIte, Nat.reduceBEq, decide_true, decide_false, Bool.not_true, Bool.not_false, List.map_cons, List.map_nil, List.length_map, List.length_cons, List.length_nil, Nat.reduceAdd, Int.cast_ofNat_Int, Int.natCast_zero, Int.natCast_one, Bool.false_eq_true, Bool.true_eq_false, decide_eq_true_eq, eq_self, Int.reduceEq, Int.reduceLT, Int.reduceLE, Bool.and_true, Bool.true_and, Bool.and_false, Bool.false_and, Nat.zero_add, hno]
    exact ans_fv _ _
  | cons x rest =>
    have hi : (pre.length : Int) < l.length := by rw [hkl]; simp; omega
    have hg := at_pre hk
    have hwi : w64 ((pre.length : Int) + 1) = ((pre ++ [x]).length : Int) := (w64_id (by omega) (by omega)).trans (by simp)
    simp only [List.length_cons] at hl2
    simp only [S111_27, S111_28, S111_29, S111, ↓XX, ↓reduceIte, Nat.reduceBEq, decide_true, decide_false, Bool.not_true, Bool.not_false, List.map_cons, List.map_nil, List.length_map, List.length_cons, List.length_nil, Nat.reduceAdd, Int.cast_ofNat_Int, Int.natCast_zero, Int.natCast_one, Bool.false_eq_true, Bool.true_eq_false, decide_eq_true_eq, eq_self, Int.reduceEq, Int.reduceLT, Int.reduceLE, Bool.and_true, Bool.true_and, Bool.and_false, Bool.false_and, Nat.zero_add, hi, ↓ix_p hg, ↓fil_p, ↓fil_e, hwi, ↓drop_e, XD, heldB, flatD, List.any_cons, List.any_nil, List.all_cons, List.all_nil, List.filter_cons, List.filter_nil, List.contains_cons, List.contains_nil, Bool.or_false, Bool.or_true, Bool.false_or, Bool.true_or, Bool.and_self, Bool.not_eq_true, BEq.rfl, beq_self_eq_true]
    refine hrec rest.length _ _ (by omega) ⟨pre ++ [x], rest, by rw [hk]; simp, rfl, ?_, rfl⟩
    simp [PV.encEnv]
end Idl
end Go.Proofs.Ytkfecngimlcfoaa

namespace Go.Proofs.Ytkfecngimlcfoaa
namespace Idl
def PV.op : PV → Int
  | .nil => 0
  | .mk op _ _ _ _ => op
def kdP (ev : Tm → M3 → Option (PV × M3)) (op : Int) : Nat → List Tm → M3 → Option (List PV × M3)
  | _, [], m => some ([], m)
  | i, t :: l, m => if 0 < bindN op i then (kdP ev op (i + 1) l m).map fun (vs, m) => (.nil :: vs, m) else
    match ev t m with
    | none => none
    | some (v, m) => (kdP ev op (i + 1) l m).map fun (vs, m) => (v :: vs, m)
def isRule (op : Int) : Bool := op == 5 || (op == 8 || (op == 9 || (op == 13 || (op == 30 || op == 19))))
mutual
def evP : Nat → List PV → Tm → M3 → Option (PV × M3)
  | 0, _, _, _ => none
  | f + 1, env, .mk op n ks, m => match tickP m with
    | none => none
    | some m => if op = 1 then (if 0 ≤ n ∧ n ≤ 2305843009213693952 ∧ env.length + 1 < f then some (lookP env n, m) else none)
      else if f ≤ ks.length ∨ 300 < ks.length ∨ f = 0 then none
      else if m.e ≠ 0 then some (.mk op n (List.replicate ks.length .nil) (.mk op n ks) env, m)
      else match kdP (fun t m => evP f env t m) op 0 ks m with
        | none => none
        | some (vs, m) => if m.e ≠ 0 then some (.mk op n vs (.mk op n ks) env, m) else ctP f (.mk op n vs (.mk op n ks) env) m
def ctP : Nat → PV → M3 → Option (PV × M3)
  | 0, _, _ => none
  | f + 1, v, m => match v with
    | .nil => none
    | .mk op n k t e => if isRule op then (if m.e ≠ 0 then some (.mk op n k t e, m) else if f = 0 then none else match tickP m with
        | none => none
        | some m => if m.e ≠ 0 then some (.mk op n k t e, m) else match stP f (.mk op n k t e) m with
          | none => none
          | some (.nil, m) => some (.mk op n k t e, m)
          | some (u, m) => if m.e ≠ 0 then some (.mk op n k t e, m) else if m.s < -1000000000 ∨ 1000000000 < m.s then none else
            some (u, ⟨m.s - 1, m.w, if m.s - 1 < 0 then 17 else 0⟩))
      else some (.mk op n k t e, m)
def stP : Nat → PV → M3 → Option (PV × M3)
  | 0, _, _ => none
  | f + 1, v, m => match v with
    | .nil => none
    | .mk op n k t e => if op = 5 then (match k with
        | [.mk o0 n0 k0 t0 e0, x] => if o0 = 4 then opP f (.mk o0 n0 k0 t0 e0) 1 [x] m else some (.nil, m)
        | _ => none)
      else if op = 8 ∨ op = 9 then (match k with
        | [.mk o0 n0 k0 t0 e0] => if o0 = 7 then (match k0 with
            | [_, x, y] => some (if op = 8 then x else y, m)
            | _ => none) else some (.nil, m)
        | _ => none)
      else if op = 13 then (match k with
        | [_, z, _, .mk o3 n3 k3 t3 e3] => if o3 = 11 then some (z, m) else if o3 = 12 then (match k3 with
            | [x] => (match ctP f (.mk op n [.nil, z, .nil, x] t e) m with
              | none => none
              | some (h, m) => opP f (.mk op n k t e) 2 [x, h] m)
            | _ => none) else some (.nil, m)
        | _ => none)
      else (match k with
        | [.mk o0 n0 k0 t0 e0] => if o0 = (if op = 30 then 19 else 30) then (match k0 with
            | [x] => some (x, m)
            | _ => none) else some (.nil, m)
        | _ => none)
def opP : Nat → PV → Nat → List PV → M3 → Option (PV × M3)
  | 0, _, _, _, _ => none
  | f + 1, v, i, l, m => match v with
    | .nil => none
    | .mk _ _ _ (.mk _ _ tk) e => if f ≤ l.length + 1 ∨ 10 < l.length then none else match tk[i]? with
      | none => none
      | some b => evP f (l.reverse ++ e) b m
end
theorem tMk : (EE.T 98).map (·.kind) = some (.map 3 124) := by kernel_rfl
theorem tIk : (EE.T 3).map (·.kind) = some (.int .i64) := by kernel_rfl
noncomputable def ruleL : List (Int × IV) := [(5, ruleB 94), (8, ruleB 95), (9, ruleB 95), (13, ruleB 96), (30, ruleB 97), (19, ruleB 98)]
theorem lk_rule (op : Int) : getMap op ruleL = if op = 5 then some (ruleB 94) else if op = 8 ∨ op = 9 then some (ruleB 95) else if op = 13 then some (ruleB 96) else
    if op = 30 then some (ruleB 97) else if op = 19 then some (ruleB 98) else none := by
  simp only [ruleL, getMap]
  split
  · rfl
  · split
    · rename_i h; rw [if_pos (.inl h)]
    · split
      · rename_i h; rw [if_pos (.inr h)]
      · rename_i h1 h2; simp only [h1, h2, or_self, if_false]
end Idl
end Go.Proofs.Ytkfecngimlcfoaa

namespace Go.Proofs.Ytkfecngimlcfoaa
namespace Idl
def EvOk (f : Nat) : Prop := ∀ (env : List PV) (t : Tm) (m m' : M3) (v : PV), evP f env t m = some (v, m') → ∀ (r : Int) (n : Nat), f + 1 ≤ n →
  AnsX (SS dt n 71 [.ptr (.ext 0) 0, .fv (PV.encEnv env), .fv t.enc] ⟨[], MX m.s m.w r m.e⟩) v.enc (MX m'.s m'.w r m'.e)
def CtOk (f : Nat) : Prop := ∀ (v u : PV) (m m' : M3), ctP f v m = some (u, m') → ∀ (r : Int) (n : Nat), f + 1 ≤ n →
  AnsX (SS dt n 102 [.ptr (.ext 0) 0, .fv v.enc] ⟨[], MX m.s m.w r m.e⟩) u.enc (MX m'.s m'.w r m'.e)
def ruleF (op : Int) : FuncId := if op = 5 then 94 else if op = 8 ∨ op = 9 then 95 else if op = 13 then 96 else if op = 30 then 97 else 98
def StOk (f : Nat) : Prop := ∀ (v u : PV) (m m' : M3), isRule v.op = true → stP f v m = some (u, m') → ∀ (r : Int) (n : Nat), f + 1 ≤ n →
  AnsX (SS dt n (ruleF v.op) [.ptr (.ext 0) 0, .fv v.enc] ⟨[], MX m.s m.w r m.e⟩) u.enc (MX m'.s m'.w r m'.e)
def OpnOk (f : Nat) : Prop := ∀ (v u : PV) (i : Nat) (l : List PV) (m m' : M3), opP f v i l m = some (u, m') → ∀ (r : Int) (n : Nat), f + 1 ≤ n →
  AnsX (SS dt n 103 [.ptr (.ext 0) 0, .fv v.enc, iv i, .fv (.sl (l.map PV.enc))] ⟨[], MX m.s m.w r m.e⟩) u.enc (MX m'.s m'.w r m'.e)
theorem rule_get {op : Int} (h : isRule op = true) : getMap op ruleL = some (ruleB (ruleF op)) := by
  rw [lk_rule]
  unfold ruleF
  simp only [isRule, Bool.or_eq_true, beq_iff_eq] at h
  rcases h with h | h | h | h | h | h <;> subst h <;> rfl
theorem rule_none {op : Int} (h : isRule op = false) : getMap op ruleL = none := by
  rw [lk_rule]
  simp only [isRule, Bool.or_eq_false_iff, beq_eq_false_iff_ne, ne_eq] at h
  obtain ⟨h1, h2, h3, h4, h5, h6⟩ := h
  simp only [h1, h2, h3, h4, h5, h6, or_self, if_false]
set_option maxHeartbeats 1000000 in
theorem ct_step {f : Nat} (hs : StOk f) : CtOk (f + 1) := by
  intro v u m m' hev r n hn
  obtain ⟨n, rfl⟩ : ∃ k, n = k + 1 := ⟨n - 1, by omega⟩
  rw [c102]
  cases v with
  | nil => rw [ctP] at hev; cases hev
  | mk op nn k t e =>
  rw [ctP] at hev
  have hs := hs (.mk op nn k t e)
  obtain ⟨bo, bn, bk⟩ := t
  rw [penc_mk] at hs ⊢
  cases hr : isRule op with
  | false =>
    simp only [hr, Bool.false_eq_true, if_false, Option.some.injEq, Prod.mk.injEq] at hev
    obtain ⟨rfl, rfl⟩ := hev
    rw [penc_mk]
    simp only [S102_126, S102_127, S102_128, S102_129, S102_130, S102_131, S102_132, S102_133, S102_134, S102_135, S102_136, S102_137, S102, ↓XX, ↓reduceIte, Nat.reduceBEq, decide_true, decide_false, Bool.not_true, Bool.not_false, List.map_cons, List.map_nil, List.length_map, List.length_cons, List.length_nil, Nat.reduceAdd, Int.cast_ofNat_Int, Int.natCast_zero, Int.natCast_one, Bool.false_eq_true, Bool.true_eq_false, decide_eq_true_eq, eq_self, Int.reduceEq, Int.reduceLT, Int.reduceLE, Bool.and_true, Bool.true_and, Bool.and_false, Bool.false_and, Nat.zero_add, ↓lk_miss (rule_none hr)]
    exact ansx_fv _ _ _
  | true =>
    simp only [hr, if_true] at hev
    by_cases h0 : m.e ≠ 0
    · rw [if_pos h0] at hev
      simp only [Option.some.injEq, Prod.mk.injEq] at hev
      obtain ⟨rfl, rfl⟩ := hev
      rw [penc_mk]
      simp only [S102_126, S102_127, S102_128, S102_129, S102_130, S102_131, S102_132, S102_133, S102_134, S102_135, S102_136, S102_137, S102, ↓XX, ↓reduceIte, Nat.reduceBEq, decide_true, decide_false, Bool.not_true, Bool.not_false, List.map_cons, List.map_nil, List.length_map, List.length_cons, List.length_nil, Nat.reduceAdd, Int.cast_ofNat_Int, Int.natCast_zero, Int.natCast_one, Bool.false_eq_true, Bool.true_eq_false, decide_eq_true_eq, eq_self, Int.reduceEq, Int.reduceLT, Int.reduceLE, Bool.and_true, Bool.true_and, Bool.and_false, Bool.false_and, Nat.zero_add, ↓lk_hit (rule_get hr), ↓st_rule, h0]
      exact ansx_fv _ _ _
    · rw [if_neg h0] at hev
      have h0 : m.e = 0 := by simpa using h0
      split at hev
      · cases hev
      · rename_i hf0
        cases ht : tickP m with
        | none => rw [ht] at hev; cases hev
        | some m1 =>
          rw [ht] at hev
          simp only at hev
          have hc1 := tick_ok ht r (n := n) (by omega)
          by_cases h1 : m1.e ≠ 0
          · rw [if_pos h1] at hev
            simp only [Option.some.injEq, Prod.mk.injEq] at hev
            obtain ⟨rfl, rfl⟩ := hev
            rw [penc_mk]
            simp only [h0] at hc1
            simp only [S102_126, S102_127, S102_128, S102_129, S102_130, S102_131, S102_132, S102_133, S102_134, S102_135, S102_136, S102_137, S102, ↓XX, ↓reduceIte, Nat.reduceBEq, decide_true, decide_false, Bool.not_true, Bool.not_false, List.map_cons, List.map_nil, List.length_map, List.length_cons, List.length_nil, Nat.reduceAdd, Int.cast_ofNat_Int, Int.natCast_zero, Int.natCast_one, Bool.false_eq_true, Bool.true_eq_false, decide_eq_true_eq, eq_self, Int.reduceEq, Int.reduceLT, Int.reduceLE, Bool.and_true, Bool.true_and, Bool.and_false, Bool.false_and, Nat.zero_add, ↓lk_hit (rule_get hr), ↓st_rule, h0, ↓iso_x1 _ _ hc1, h1]
            exact ansx_fv _ _ _
          · rw [if_neg h1] at hev
            have h1 : m1.e = 0 := by simpa using h1
            cases hst : stP f (.mk op nn k (.mk bo bn bk) e) m1 with
            | none => rw [hst] at hev; cases hev
            | some q =>
              obtain ⟨x, m2⟩ := q
              rw [hst] at hev
              have hc2 := hs x m1 m2 hr hst r n (by omega)
              simp only [PV.op] at hc2
              simp only [h0] at hc1
              simp only [h1] at hc1 hc2
              cases x with
              | nil =>
                simp only [Option.some.injEq, Prod.mk.injEq] at hev
                obtain ⟨rfl, rfl⟩ := hev
                rw [penc_mk]
                rw [penc_nil] at hc2
                simp only [S102_126, S102_127, S102_128, S102_129, S102_130, S102_131, S102_132, S102_133, S102_134, S102_135, S102_136, S102_137, S102, ↓XX, ↓reduceIte, Nat.reduceBEq, decide_true, decide_false, Bool.not_true, Bool.not_false, List.map_cons, List.map_nil, List.length_map, List.length_cons, List.length_nil, Nat.reduceAdd, Int.cast_ofNat_Int, Int.natCast_zero, Int.natCast_one, Bool.false_eq_true, Bool.true_eq_false, decide_eq_true_eq, eq_self, Int.reduceEq, Int.reduceLT, Int.reduceLE, Bool.and_true, Bool.true_and, Bool.and_false, Bool.false_and, Nat.zero_add, ↓lk_hit (rule_get hr), ↓st_rule, h0, ↓iso_x1 _ _ hc1, h1, ↓kp_rule hr, ↓iso_x2 _ _ hc2, ↓eq_fp, ↓eq_np]
                exact ansx_fv _ _ _
              | mk op2 nn2 k2 t2 e2 =>
                simp only at hev
                obtain ⟨bo2, bn2, bk2⟩ := t2
                by_cases h2 : m2.e ≠ 0
                · rw [if_pos h2] at hev
                  simp only [Option.some.injEq, Prod.mk.injEq] at hev
                  obtain ⟨rfl, rfl⟩ := hev
                  rw [penc_mk] at hc2 ⊢
                  simp only [S102_126, S102_127, S102_128, S102_129, S102_130, S102_131, S102_132, S102_133, S102_134, S102_135, S102_136, S102_137, S102, ↓XX, ↓reduceIte, Nat.reduceBEq, decide_true, decide_false, Bool.not_true, Bool.not_false, List.map_cons, List.map_nil, List.length_map, List.length_cons, List.length_nil, Nat.reduceAdd, Int.cast_ofNat_Int, Int.natCast_zero, Int.natCast_one, Bool.false_eq_true, Bool.true_eq_false, decide_eq_true_eq, eq_self, Int.reduceEq, Int.reduceLT, Int.reduceLE, Bool.and_true, Bool.true_and, Bool.and_false, Bool.false_and, Nat.zero_add, ↓lk_hit (rule_get hr), ↓st_rule, h0, ↓iso_x1 _ _ hc1, h1, ↓kp_rule hr, ↓iso_x2 _ _ hc2, ↓eq_fp, ↓eq_np, h2]
                  exact ansx_fv _ _ _
                · rw [if_neg h2] at hev
                  have h2 : m2.e = 0 := by simpa using h2
                  split at hev
                  · cases hev
                  · simp only [Option.some.injEq, Prod.mk.injEq] at hev
                    obtain ⟨rfl, rfl⟩ := hev
                    have hw : w64 (m2.s - 1) = m2.s - 1 := by rw [w64_id] <;> omega
                    rw [penc_mk] at hc2 ⊢
                    simp only [h2] at hc2
                    by_cases h3 : m2.s - 1 < 0
                    · simp only [S102_126, S102_127, S102_128, S102_129, S102_130, S102_131, S102_132, S102_133, S102_134, S102_135, S102_136, S102_137, S102, ↓XX, ↓reduceIte, Nat.reduceBEq, decide_true, decide_false, Bool.not_true, Bool.not_false, List.map_cons, List.map_nil, List.length_map, List.length_cons, List.length_nil, Nat.reduceAdd, Int.cast_ofNat_Int, Int.natCast_zero, Int.natCast_one, Bool.false_eq_true, Bool.true_eq_false, decide_eq_true_eq, eq_self, Int.reduceEq, Int.reduceLT, Int.reduceLE, Bool.and_true, Bool.true_and, Bool.and_false, Bool.false_and, Nat.zero_add, ↓lk_hit (rule_get hr), ↓st_rule, h0, ↓iso_x1 _ _ hc1, h1, ↓kp_rule hr, ↓iso_x2 _ _ hc2, ↓eq_fp, ↓eq_np, h2, hw, h3]
                      exact ansx_fv _ _ _
                    · simp only [S102_126, S102_127, S102_128, S102_129, S102_130, S102_131, S102_132, S102_133, S102_134, S102_135, S102_136, S102_137, S102, ↓XX, ↓reduceIte, Nat.reduceBEq, decide_true, decide_false, Bool.not_true, Bool.not_false, List.map_cons, List.map_nil, List.length_map, List.length_cons, List.length_nil, Nat.reduceAdd, Int.cast_ofNat_Int, Int.natCast_zero, Int.natCast_one, Bool.false_eq_true, Bool.true_eq_false, decide_eq_true_eq, eq_self, Int.reduceEq, Int.reduceLT, Int.reduceLE, Bool.and_true, Bool.true_and, Bool.and_false, Bool.false_and, Nat.zero_add, ↓lk_hit (rule_get hr), ↓st_rule, h0, ↓iso_x1 _ _ hc1, h1, ↓kp_rule hr, ↓iso_x2 _ _ hc2, ↓eq_fp, ↓eq_np, h2, hw, h3]
                      exact ansx_fv _ _ _
end Idl
end Go.Proofs.Ytkfecngimlcfoaa

namespace Go.Proofs.Ytkfecngimlcfoaa
namespace Idl
section
variable {β : Type} (a b c : FV) (l : List FV) (cs : List FV) (o : Nat) (v : PV) (k : IV → Option β)
end
theorem lo_hit (s : Nat) (b : Blk) (l : List (Nat × Blk)) : lookupOwn s ((s, b) :: l) = some b := by simp only [lookupOwn, if_true]
theorem op_step {f : Nat} (he : EvOk f) : OpnOk (f + 1) := by
  intro v u i l m m' hev r n hn
  obtain ⟨n, rfl⟩ : ∃ k, n = k + 1 := ⟨n - 1, by omega⟩
  rw [c103]
  cases v with
  | nil => rw [opP] at hev; cases hev
  | mk op nn k t e =>
  obtain ⟨bo, bn, bk⟩ := t
  rw [opP] at hev
  split at hev
  · cases hev
  · rename_i hf
    cases hb : bk[i]? with
    | none => rw [hb] at hev; cases hev
    | some b =>
      rw [hb] at hev
      simp only at hev
      have hw := with_c (n := n) e l (by omega) (by omega)
      have hc := he _ _ _ _ _ hev r n (by omega)
      rw [penc_mk]
      obtain ⟨b1, b2, b3⟩ := b
      have hg := map_get hb
      rw [enc_mk] at hc
      simp only [S103_25, S103_26, S103, ↓XX, ↓reduceIte, Nat.reduceBEq, decide_true, decide_false, Bool.not_true, Bool.not_false, List.map_cons, List.map_nil, List.length_map, List.length_cons, List.length_nil, Nat.reduceAdd, Int.cast_ofNat_Int, Int.natCast_zero, Int.natCast_one, Bool.false_eq_true, Bool.true_eq_false, decide_eq_true_eq, eq_self, Int.reduceEq, Int.reduceLT, Int.reduceLE, Bool.and_true, Bool.true_and, Bool.and_false, Bool.false_and, Nat.zero_add, ↓iso_2 hw, ↓ix_f hg (agg3l _ _ _), ↓agg3, ↓fa_fg, ↓iso_x3 _ _ hc]
      exact ansx_fv _ _ _
theorem within_c {n : Nat} (hn : 0 < n) (op nn : Int) (o0 n0 : Int) (k0 : List PV) (t0 : Tm) (e0 : List PV) (t : Tm) (e : List PV) (want : Int) (hk : o0 = want → ∃ x, k0 = [x]) :
    Ans (SS dt n 109 [.fv (PV.mk op nn [.mk o0 n0 k0 t0 e0] t e).enc, iv want] ⟨[], []⟩) (if o0 = want then k0.headD .nil else .nil).enc := by
  obtain ⟨n, rfl⟩ : ∃ k, n = k + 1 := ⟨n - 1, by omega⟩
  rw [c109]
  obtain ⟨bo, bn, bk⟩ := t
  obtain ⟨co, cn, ck⟩ := t0
  rw [penc_mk, List.map_cons, List.map_nil, penc_mk]
  by_cases h : o0 = want
  · obtain ⟨x, rfl⟩ := hk h
    rw [if_pos h]
    simp only [S109_29, S109_30, S109_31, S109, ↓XX, ↓reduceIte, Nat.reduceBEq, decide_true, decide_false, Bool.not_true, Bool.not_false, List.map_cons, List.map_nil, List.length_map, List.length_cons, List.length_nil, Nat.reduceAdd, Int.cast_ofNat_Int, Int.natCast_zero, Int.natCast_one, Bool.false_eq_true, Bool.true_eq_false, decide_eq_true_eq, eq_self, Int.reduceEq, Int.reduceLT, Int.reduceLE, Bool.and_true, Bool.true_and, Bool.and_false, Bool.false_and, Nat.zero_add, ↓XI, h, List.headD_cons]
    exact ans_fv _ _
  · rw [if_neg h, penc_nil]
    simp only [S109_29, S109_30, S109_31, S109, ↓XX, ↓reduceIte, Nat.reduceBEq, decide_true, decide_false, Bool.not_true, Bool.not_false, List.map_cons, List.map_nil, List.length_map, List.length_cons, List.length_nil, Nat.reduceAdd, Int.cast_ofNat_Int, Int.natCast_zero, Int.natCast_one, Bool.false_eq_true, Bool.true_eq_false, decide_eq_true_eq, eq_self, Int.reduceEq, Int.reduceLT, Int.reduceLE, Bool.and_true, Bool.true_and, Bool.and_false, Bool.false_and, Nat.zero_add, ↓XI, h]
    exact ans_fv _ _
theorem st_step {f : Nat} (hc : CtOk f) (ho : OpnOk f) : StOk (f + 1) := by
  intro v u m m' hr hev r n hn
  obtain ⟨n, rfl⟩ : ∃ k, n = k + 1 := ⟨n - 1, by omega⟩
  cases v with
  | nil => rw [stP] at hev; cases hev
  | mk op nn k t e =>
  obtain ⟨bo, bn, bk⟩ := t
  rw [stP.eq_def] at hev
  simp only at hev
  simp only [PV.op] at hr ⊢
  by_cases h5 : op = 5
  · subst h5
    rw [if_pos rfl] at hev
    rw [show ruleF 5 = 94 from rfl, c94]
    match k, hev with
    | [.mk o0 n0 k0 t0 e0, x], hev =>
      simp only at hev
      obtain ⟨co, cn, ck⟩ := t0
      by_cases h4 : o0 = 4
      · subst h4
        rw [if_pos rfl] at hev
        have hq := ho _ _ _ _ _ _ hev r n (by omega)
        rw [penc_mk] at hq ⊢
        simp only [List.map_cons, List.map_nil, penc_mk] at hq ⊢
        simp only [S94_30, S94_31, S94_32, S94, ↓XX, ↓reduceIte, Nat.reduceBEq, decide_true, decide_false, Bool.not_true, Bool.not_false, List.map_cons, List.map_nil, List.length_map, List.length_cons, List.length_nil, Nat.reduceAdd, Int.cast_ofNat_Int, Int.natCast_zero, Int.natCast_one, Bool.false_eq_true, Bool.true_eq_false, decide_eq_true_eq, eq_self, Int.reduceEq, Int.reduceLT, Int.reduceLE, Bool.and_true, Bool.true_and, Bool.and_false, Bool.false_and, Nat.zero_add, ↓XI, ↓bs_p1, ↓iso_x4 _ _ hq]
        exact ansx_fv _ _ _
      · rw [if_neg h4] at hev
        simp only [Option.some.injEq, Prod.mk.injEq] at hev
        obtain ⟨rfl, rfl⟩ := hev
        rw [penc_mk]
        simp only [List.map_cons, List.map_nil, penc_mk, penc_nil]
        simp only [S94_30, S94_31, S94_32, S94, ↓XX, ↓reduceIte, Nat.reduceBEq, decide_true, decide_false, Bool.not_true, Bool.not_false, List.map_cons, List.map_nil, List.length_map, List.length_cons, List.length_nil, Nat.reduceAdd, Int.cast_ofNat_Int, Int.natCast_zero, Int.natCast_one, Bool.false_eq_true, Bool.true_eq_false, decide_eq_true_eq, eq_self, Int.reduceEq, Int.reduceLT, Int.reduceLE, Bool.and_true, Bool.true_and, Bool.and_false, Bool.false_and, Nat.zero_add, ↓XI, h4]
        exact ansx_fv _ _ _
  · rw [if_neg h5] at hev
    by_cases h8 : op = 8 ∨ op = 9
    · rw [if_pos h8] at hev
      rw [show ruleF op = 95 by rcases h8 with rfl | rfl <;> rfl, c95]
      match k, hev with
      | [.mk o0 n0 k0 t0 e0], hev =>
        simp only at hev
        obtain ⟨co, cn, ck⟩ := t0
        by_cases h7 : o0 = 7
        · subst h7
          rw [if_pos rfl] at hev
          match k0, hev with
          | [w, x, y], hev =>
            simp only [Option.some.injEq, Prod.mk.injEq] at hev
            obtain ⟨rfl, rfl⟩ := hev
            rw [penc_mk]
            simp only [List.map_cons, List.map_nil, penc_mk]
            rcases h8 with rfl | rfl
            · simp only [S95_34, S95_35, S95_36, S95_37, S95, ↓XX, ↓reduceIte, Nat.reduceBEq, decide_true, decide_false, Bool.not_true, Bool.not_false, List.map_cons, List.map_nil, List.length_map, List.length_cons, List.length_nil, Nat.reduceAdd, Int.cast_ofNat_Int, Int.natCast_zero, Int.natCast_one, Bool.false_eq_true, Bool.true_eq_false, decide_eq_true_eq, eq_self, Int.reduceEq, Int.reduceLT, Int.reduceLE, Bool.and_true, Bool.true_and, Bool.and_false, Bool.false_and, Nat.zero_add, ↓XI]
              exact ansx_fv _ _ _
            · simp only [S95_34, S95_35, S95_36, S95_37, S95, ↓XX, ↓reduceIte, Nat.reduceBEq, decide_true, decide_false, Bool.not_true, Bool.not_false, List.map_cons, List.map_nil, List.length_map, List.length_cons, List.length_nil, Nat.reduceAdd, Int.cast_ofNat_Int, Int.natCast_zero, Int.natCast_one, Bool.false_eq_true, Bool.true_eq_false, decide_eq_true_eq, eq_self, Int.reduceEq, Int.reduceLT, Int.reduceLE, Bool.and_true, Bool.true_and, Bool.and_false, Bool.false_and, Nat.zero_add, ↓XI]
              exact ansx_fv _ _ _
        · rw [if_neg h7] at hev
          simp only [Option.some.injEq, Prod.mk.injEq] at hev
          obtain ⟨rfl, rfl⟩ := hev
          rw [penc_mk]
          simp only [List.map_cons, List.map_nil, penc_mk, penc_nil]
          simp only [S95_34, S95_35, S95_36, S95_37, S95, ↓XX, ↓reduceIte, Nat.reduceBEq, decide_true, decide_false, Bool.not_true, Bool.not_false, List.map_cons, List.map_nil, List.length_map, List.length_cons, List.length_nil, Nat.reduceAdd, Int.cast_ofNat_Int, Int.natCast_zero, Int.natCast_one, Bool.false_eq_true, Bool.true_eq_false, decide_eq_true_eq, eq_self, Int.reduceEq, Int.reduceLT, Int.reduceLE, Bool.and_true, Bool.true_and, Bool.and_false, Bool.false_and, Nat.zero_add, ↓XI, h7]
          exact ansx_fv _ _ _
    · rw [if_neg h8] at hev
      by_cases h13 : op = 13
      · subst h13
        rw [if_pos rfl] at hev
        rw [show ruleF 13 = 96 from rfl, c96]
        match k, hev with
        | [p0, z, p2, .mk o3 n3 k3 t3 e3], hev =>
          simp only at hev
          obtain ⟨co, cn, ck⟩ := t3
          by_cases h11 : o3 = 11
          · subst h11
            rw [if_pos rfl] at hev
            simp only [Option.some.injEq, Prod.mk.injEq] at hev
            obtain ⟨rfl, rfl⟩ := hev
            rw [penc_mk]
            simp only [List.map_cons, List.map_nil, penc_mk]
            simp only [S96_74, S96_75, S96_76, S96_77, S96_78, S96_79, S96_80, S96_81, S96_82, S96_83, S96, ↓XX, ↓reduceIte, Nat.reduceBEq, decide_true, decide_false, Bool.not_true, Bool.not_false, List.map_cons, List.map_nil, List.length_map, List.length_cons, List.length_nil, Nat.reduceAdd, Int.cast_ofNat_Int, Int.natCast_zero, Int.natCast_one, Bool.false_eq_true, Bool.true_eq_false, decide_eq_true_eq, eq_self, Int.reduceEq, Int.reduceLT, Int.reduceLE, Bool.and_true, Bool.true_and, Bool.and_false, Bool.false_and, Nat.zero_add, ↓XI]
            exact ansx_fv _ _ _
          · rw [if_neg h11] at hev
            by_cases h12 : o3 = 12
            · subst h12
              rw [if_pos rfl] at hev
              match k3, hev with
              | [x], hev =>
                simp only at hev
                cases hcc : ctP f (.mk 13 nn [.nil, z, .nil, x] (.mk bo bn bk) e) m with
                | none => rw [hcc] at hev; cases hev
                | some q =>
                  obtain ⟨h, m1⟩ := q
                  rw [hcc] at hev
                  have hq1 := hc _ _ _ _ hcc r n (by omega)
                  have hq2 := ho _ _ _ _ _ _ hev r n (by omega)
                  rw [penc_mk] at hq1 hq2 ⊢
                  simp only [List.map_cons, List.map_nil, penc_mk, penc_nil] at hq1 hq2 ⊢
                  simp only [S96_74, S96_75, S96_76, S96_77, S96_78, S96_79, S96_80, S96_81, S96_82, S96_83, S96, ↓XX, ↓reduceIte, Nat.reduceBEq, decide_true, decide_false, Bool.not_true, Bool.not_false, List.map_cons, List.map_nil, List.length_map, List.length_cons, List.length_nil, Nat.reduceAdd, Int.cast_ofNat_Int, Int.natCast_zero, Int.natCast_one, Bool.false_eq_true, Bool.true_eq_false, decide_eq_true_eq, eq_self, Int.reduceEq, Int.reduceLT, Int.reduceLE, Bool.and_true, Bool.true_and, Bool.and_false, Bool.false_and, Nat.zero_add, ↓XI, ↓bs_p4, ↓aof_e]
                  rw [iso_x2p hq1 (s0 := 100669443) (lo_hit ..) rfl (by simp)]
                  simp only [↓XX, ↓reduceIte, Nat.reduceBEq, decide_true, decide_false, Bool.not_true, Bool.not_false, List.map_cons, List.map_nil, List.length_map, List.length_cons, List.length_nil, Nat.reduceAdd, Int.cast_ofNat_Int, Int.natCast_zero, Int.natCast_one, Bool.false_eq_true, Bool.true_eq_false, decide_eq_true_eq, eq_self, Int.reduceEq, Int.reduceLT, Int.reduceLE, Bool.and_true, Bool.true_and, Bool.and_false, Bool.false_and, Nat.zero_add, ↓bs_p2, ↓iso_x4 _ _ hq2]
                  exact ansx_fv _ _ _
            · rw [if_neg h12] at hev
              simp only [Option.some.injEq, Prod.mk.injEq] at hev
              obtain ⟨rfl, rfl⟩ := hev
              rw [penc_mk]
              simp only [List.map_cons, List.map_nil, penc_mk, penc_nil]
              simp only [S96_74, S96_75, S96_76, S96_77, S96_78, S96_79, S96_80, S96_81, S96_82, S96_83, S96, ↓XX, ↓reduceIte, Nat.reduceBEq, decide_true, decide_false, Bool.not_true, Bool.not_false, List.map_cons, List.map_nil, List.length_map, List.length_cons, List.length_nil, Nat.reduceAdd, Int.cast_ofNat_Int, Int.natCast_zero, Int.natCast_one, Bool.false_eq_true, Bool.true_eq_false, decide_eq_true_eq, eq_self, Int.reduceEq, Int.reduceLT, Int.reduceLE, Bool.and_true, Bool.true_and, Bool.and_false, Bool.false_and, Nat.zero_add, ↓XI, h11, h12]
              exact ansx_fv _ _ _
      · rw [if_neg h13] at hev
        match k, hev with
        | [.mk o0 n0 k0 t0 e0], hev =>
          simp only at hev
          have h30 : op = 30 ∨ op = 19 := by
            simp only [isRule, Bool.or_eq_true, beq_iff_eq] at hr
            omega
          have hu : ((o0 = (if op = 30 then 19 else 30) → ∃ x, k0 = [x]) ∧ (if o0 = (if op = 30 then 19 else 30) then k0.headD .nil else .nil) = u ∧ m = m') := by
            by_cases ho0 : o0 = (if op = 30 then 19 else 30)
            · rw [if_pos ho0] at hev
              match k0, hev with
              | [x], hev =>
                simp only [Option.some.injEq, Prod.mk.injEq] at hev
                obtain ⟨rfl, rfl⟩ := hev
                exact ⟨fun _ => ⟨_, rfl⟩, by rw [if_pos ho0]; rfl, rfl⟩
            · rw [if_neg ho0] at hev
              simp only [Option.some.injEq, Prod.mk.injEq] at hev
              obtain ⟨rfl, rfl⟩ := hev
              exact ⟨fun h => absurd h ho0, by rw [if_neg ho0], rfl⟩
          obtain ⟨hu1, rfl, rfl⟩ := hu
          rcases h30 with rfl | rfl
          · rw [show ruleF 30 = 97 from rfl, c97]
            rw [show (if (30 : Int) = 30 then (19 : Int) else 30) = 19 from rfl] at hu1 ⊢
            have hw := within_c (n := n) (by omega) 30 nn o0 n0 k0 t0 e0 (.mk bo bn bk) e 19 hu1
            simp only [S97, ↓XX, ↓reduceIte, Nat.reduceBEq, decide_true, decide_false, Bool.not_true, Bool.not_false, List.map_cons, List.map_nil, List.length_map, List.length_cons, List.length_nil, Nat.reduceAdd, Int.cast_ofNat_Int, Int.natCast_zero, Int.natCast_one, Bool.false_eq_true, Bool.true_eq_false, decide_eq_true_eq, eq_self, Int.reduceEq, Int.reduceLT, Int.reduceLE, Bool.and_true, Bool.true_and, Bool.and_false, Bool.false_and, Nat.zero_add, ↓iso_2 hw]
            exact ansx_fv _ _ _
          · rw [show ruleF 19 = 98 from rfl, c98]
            rw [show (if (19 : Int) = 30 then (19 : Int) else 30) = 30 from rfl] at hu1 ⊢
            have hw := within_c (n := n) (by omega) 19 nn o0 n0 k0 t0 e0 (.mk bo bn bk) e 30 hu1
            simp only [S98, ↓XX, ↓reduceIte, Nat.reduceBEq, decide_true, decide_false, Bool.not_true, Bool.not_false, List.map_cons, List.map_nil, List.length_map, List.length_cons, List.length_nil, Nat.reduceAdd, Int.cast_ofNat_Int, Int.natCast_zero, Int.natCast_one, Bool.false_eq_true, Bool.true_eq_false, decide_eq_true_eq, eq_self, Int.reduceEq, Int.reduceLT, Int.reduceLE, Bool.and_true, Bool.true_and, Bool.and_false, Bool.false_and, Nat.zero_add, ↓iso_2 hw]
            exact ansx_fv _ _ _
end Idl
end Go.Proofs.Ytkfecngimlcfoaa

namespace Go.Proofs.Ytkfecngimlcfoaa
namespace Idl
theorem opbind_ok {n : Nat} (hn : 0 < n) (op : Int) (i : Nat) : Ans (SS dt n 110 [iv op, iv i] ⟨[], []⟩) (.int .i64 (bindN op i)) := by
  obtain ⟨n, rfl⟩ : ∃ k, n = k + 1 := ⟨n - 1, by omega⟩
  rw [c110]
  unfold bindN
  by_cases h : op = 3 ∨ op = 4 ∨ op = 6 ∨ op = 20 ∨ op = 28 ∨ op = 29
  · rw [if_pos h]
    by_cases hi : i = 1
    · subst hi
      rcases h with rfl | rfl | rfl | rfl | rfl | rfl <;> (simp only [S110_18, S110_19, S110_20, S110_21, S110_22, S110, ↓XX, ↓reduceIte, Nat.reduceBEq, decide_true, decide_false, Bool.not_true, Bool.not_false, List.map_cons, List.map_nil, List.length_map, List.length_cons, List.length_nil, Nat.reduceAdd, Int.cast_ofNat_Int, Int.natCast_zero, Int.natCast_one, Bool.false_eq_true, Bool.true_eq_false, decide_eq_true_eq, eq_self, Int.reduceEq, Int.reduceLT, Int.reduceLE, Bool.and_true, Bool.true_and, Bool.and_false, Bool.false_and, Nat.zero_add]; exact ans_fv _ _)
    · have hi' : ¬ (i : Int) = 1 := by omega
      rcases h with rfl | rfl | rfl | rfl | rfl | rfl <;> (simp only [S110_18, S110_19, S110_20, S110_21, S110_22, S110, ↓XX, ↓reduceIte, Nat.reduceBEq, decide_true, decide_false, Bool.not_true, Bool.not_false, List.map_cons, List.map_nil, List.length_map, List.length_cons, List.length_nil, Nat.reduceAdd, Int.cast_ofNat_Int, Int.natCast_zero, Int.natCast_one, Bool.false_eq_true, Bool.true_eq_false, decide_eq_true_eq, eq_self, Int.reduceEq, Int.reduceLT, Int.reduceLE, Bool.and_true, Bool.true_and, Bool.and_false, Bool.false_and, Nat.zero_add, hi', hi]; exact ans_fv _ _)
  · rw [if_neg h]
    have h3 : ¬ op = 3 := fun e => h (by simp [e])
    have h4 : ¬ op = 4 := fun e => h (by simp [e])
    have h6 : ¬ op = 6 := fun e => h (by simp [e])
    have h20 : ¬ op = 20 := fun e => h (by simp [e])
    have h28 : ¬ op = 28 := fun e => h (by simp [e])
    have h29 : ¬ op = 29 := fun e => h (by simp [e])
    by_cases h13 : op = 13
    · subst h13
      by_cases h0 : i = 0
      · subst h0; simp only [S110_18, S110_19, S110_20, S110_21, S110_22, S110, ↓XX, ↓reduceIte, Nat.reduceBEq, decide_true, decide_false, Bool.not_true, Bool.not_false, List.map_cons, List.map_nil, List.length_map, List.length_cons, List.length_nil, Nat.reduceAdd, Int.cast_ofNat_Int, Int.natCast_zero, Int.natCast_one, Bool.false_eq_true, Bool.true_eq_false, decide_eq_true_eq, eq_self, Int.reduceEq, Int.reduceLT, Int.reduceLE, Bool.and_true, Bool.true_and, Bool.and_false, Bool.false_and, Nat.zero_add]; exact ans_fv _ _
      · have h0' : ¬ (i : Int) = 0 := by omega
        by_cases h2 : i = 2
        · subst h2; simp only [S110_18, S110_19, S110_20, S110_21, S110_22, S110, ↓XX, ↓reduceIte, Nat.reduceBEq, decide_true, decide_false, Bool.not_true, Bool.not_false, List.map_cons, List.map_nil, List.length_map, List.length_cons, List.length_nil, Nat.reduceAdd, Int.cast_ofNat_Int, Int.natCast_zero, Int.natCast_one, Bool.false_eq_true, Bool.true_eq_false, decide_eq_true_eq, eq_self, Int.reduceEq, Int.reduceLT, Int.reduceLE, Bool.and_true, Bool.true_and, Bool.and_false, Bool.false_and, Nat.zero_add]; exact ans_fv _ _
        · have h2' : ¬ (i : Int) = 2 := by omega
          simp only [S110_18, S110_19, S110_20, S110_21, S110_22, S110, ↓XX, ↓reduceIte, Nat.reduceBEq, decide_true, decide_false, Bool.not_true, Bool.not_false, List.map_cons, List.map_nil, List.length_map, List.length_cons, List.length_nil, Nat.reduceAdd, Int.cast_ofNat_Int, Int.natCast_zero, Int.natCast_one, Bool.false_eq_true, Bool.true_eq_false, decide_eq_true_eq, eq_self, Int.reduceEq, Int.reduceLT, Int.reduceLE, Bool.and_true, Bool.true_and, Bool.and_false, Bool.false_and, Nat.zero_add, h0, h0', h2, h2']; exact ans_fv _ _
    · simp only [S110_18, S110_19, S110_20, S110_21, S110_22, S110, ↓XX, ↓reduceIte, Nat.reduceBEq, decide_true, decide_false, Bool.not_true, Bool.not_false, List.map_cons, List.map_nil, List.length_map, List.length_cons, List.length_nil, Nat.reduceAdd, Int.cast_ofNat_Int, Int.natCast_zero, Int.natCast_one, Bool.false_eq_true, Bool.true_eq_false, decide_eq_true_eq, eq_self, Int.reduceEq, Int.reduceLT, Int.reduceLE, Bool.and_true, Bool.true_and, Bool.and_false, Bool.false_and, Nat.zero_add, h3, h4, h6, h20, h28, h29, h13]; exact ans_fv _ _
theorem pbind_ok {n : Nat} (hn : 1 < n) (op : Int) (i : Nat) : Ans (SS dt n 101 [iv op, iv i] ⟨[], []⟩) (.int .i64 (bindN op i)) := by
  obtain ⟨n, rfl⟩ : ∃ k, n = k + 1 := ⟨n - 1, by omega⟩
  rw [c101]
  have h := opbind_ok (n := n) (by omega) op i
  simp only [S101, ↓XX, ↓reduceIte, Nat.reduceBEq, decide_true, decide_false, Bool.not_true, Bool.not_false, List.map_cons, List.map_nil, List.length_map, List.length_cons, List.length_nil, Nat.reduceAdd, Int.cast_ofNat_Int, Int.natCast_zero, Int.natCast_one, Bool.false_eq_true, Bool.true_eq_false, decide_eq_true_eq, eq_self, Int.reduceEq, Int.reduceLT, Int.reduceLE, Bool.and_true, Bool.true_and, Bool.and_false, Bool.false_and, Nat.zero_add, ↓kp_bind, ↓iso_2 h]
  exact ans_fv _ _
theorem off_at {β : Type} : ∀ (l : List IV) (i : Nat) (x : IV) (k : List IV → Option β), i < l.length → offK l i x k = k (l.set i x)
  | [], i, x, k, h => absurd h (by simp)
  | y :: l, 0, x, k, _ => rfl
  | y :: l, i + 1, x, k, h => by
    show offK l i x (fun t => k (y :: t)) = _
    rw [off_at l i x _ (by simpa using h)]
    rfl
def nils (n : Nat) : List PV := List.replicate n .nil
theorem off_p {done : List PV} {r : Nat} {β : Type} (v : PV) (k : List IV → Option β) : offK (((done ++ nils (r + 1)).map PV.enc).map IV.fv) done.length (.fv v.enc) k = k ((((done ++ [v]) ++ nils r).map PV.enc).map IV.fv) := by
  rw [off_at _ _ _ _ (by simp [nils])]
  congr 1
  simp only [nils, List.replicate_succ, List.map_append, List.map_cons, List.append_assoc, List.cons_append, List.nil_append, List.map_nil]
  rw [List.set_append_right _ _ (by simp)]
  simp
end Idl
end Go.Proofs.Ytkfecngimlcfoaa

namespace Go.Proofs.Ytkfecngimlcfoaa
namespace Idl
theorem mx_ok : ∀ f, EvOk f ∧ CtOk f ∧ StOk f ∧ OpnOk f
  | 0 => ⟨(fun _ _ _ _ _ h => by rw [evP.eq_def] at h; cases h), (fun _ _ _ _ h => by rw [ctP.eq_def] at h; cases h), (fun _ _ _ _ _ h => by rw [stP.eq_def] at h; cases h), (fun _ _ _ _ _ _ h => by rw [opP.eq_def] at h; cases h)⟩
  | f + 1 => ⟨ev_step (mx_ok f).1 (mx_ok f).2.1, ct_step (mx_ok f).2.2.1, st_step (mx_ok f).2.1 (mx_ok f).2.2.2, op_step (mx_ok f).1⟩
def upP (below : Int) (b : Nat) : List PV := (List.range b).map fun (j : Nat) => PV.var (below + (j : Int))
theorem upP_succ (u : Int) (b : Nat) : upP u (b + 1) = upP u b ++ [PV.var (u + b)] := by simp [upP, List.range_succ]
theorem upP_len (u : Int) (b : Nat) : (upP u b).length = b := by simp [upP]
def bkK (bk : PV → Int → M3 → Int → Option (Tm × M3 × Int)) (opn : Nat → List PV → M3 → Option (PV × M3)) (op below : Int) : Nat → List PV → M3 → Int → Option (Option (List Tm) × M3 × Int)
  | _, [], m, r => some (some [], m, r)
  | i, x :: l, m, r => match (if 0 < bindN op i then opn i (upP below (bindN op i)) m else some (x, m)) with
    | none => none
    | some (y, m) => if m.e ≠ 0 then some (none, m, r) else match bk y (below + bindN op i) m r with
      | none => none
      | some (t, m, r) => (bkK bk opn op below (i + 1) l m r).map fun (ts, m, r) => (ts.map (t :: ·), m, r)
def bkP : Nat → PV → Int → Int → M3 → Int → Option (Tm × M3 × Int)
  | 0, _, _, _, _, _ => none
  | f + 1, v, below, deep, m, r =>
    if r < 0 ∨ 1000000000 < r ∨ below < 0 ∨ 1000000 < below ∨ deep < 0 ∨ 1000000 < deep then none else
    match tickP ⟨m.s, m.w, if m.e = 0 ∧ (3000 < r + 1 ∨ 120 < deep) then 5 else m.e⟩ with
    | none => none
    | some m => if m.e ≠ 0 then some (.z, m, r + 1) else match v with
      | .nil => none
      | .mk op n k t e => if op = 1 then (if n < -2305843009213693952 ∨ 2305843009213693952 < n then none else some (.mk 1 (below - 1 - n) [], m, r + 1))
        else if f ≤ k.length + 4 ∨ 100 < k.length then none
        else match bkK (fun v below m r => bkP f v below (deep + 1) m r) (fun i l m => opP f (.mk op n k t e) i l m) op below 0 k m (r + 1) with
          | none => none
          | some (none, m, r) => some (.z, m, r)
          | some (some ts, m, r) => some (.mk op n ts, m, r)
def BkOk (f : Nat) : Prop := ∀ (v : PV) (below deep : Int) (m : M3) (r : Int) (t : Tm) (m' : M3) (r' : Int), bkP f v below deep m r = some (t, m', r') → ∀ n, f + 1 ≤ n →
  AnsX (SS dt n 72 [.ptr (.ext 0) 0, .fv v.enc, iv below, iv deep] ⟨[], MX m.s m.w r m.e⟩) t.enc (MX m'.s m'.w r' m'.e)
end Idl
end Go.Proofs.Ytkfecngimlcfoaa

namespace Go.Proofs.Ytkfecngimlcfoaa
namespace Idl
theorem bk_start {ih : Handler} {n : Nat} {v w : FV} {below deep s u r e e1 : Int} {ext : List Blk} (hr : 0 ≤ r) (hr2 : r ≤ 1000000000) (he1 : (if e = 0 ∧ (3000 < r + 1 ∨ 120 < deep) then (5 : Int) else e) = e1)
    (h : AnsX (S72_288 ih ⟨[(75497472, .row [iv 0, iv 0, .nils] false)], MX s u (r + 1) e1⟩ (.ptr (.ext 0) 0) (.ptr (.own 75497472) 0) (.fv v) (iv below) ⟨[], MX s u r e⟩ (iv deep) n) w ext) :
    AnsX (S72 ih n (.ptr (.ext 0) 0) (.fv v) (iv below) (iv deep) ⟨[], MX s u r e⟩) w ext := by
  have wr : w64 (r + 1) = r + 1 := by rw [w64_id] <;> omega
  have key : S72 ih n (.ptr (.ext 0) 0) (.fv v) (iv below) (iv deep) ⟨[], MX s u r e⟩ = S72_288 ih ⟨[(75497472, .row [iv 0, iv 0, .nils] false)], MX s u (r + 1) e1⟩ (.ptr (.ext 0) 0) (.ptr (.own 75497472) 0) (.fv v) (iv below) ⟨[], MX s u r e⟩ (iv deep) n := by
    by_cases h0 : e = 0
    · by_cases h3 : 3000 < r + 1
      · rw [if_pos ⟨h0, .inl h3⟩] at he1
        subst he1
        simp only [S72_261, S72_262, S72_263, S72_264, S72_265, S72_266, S72_267, S72_268, S72_269, S72_270, S72_271, S72_272, S72_273, S72_274, S72_275, S72_276, S72_277, S72_278, S72_279, S72_280, S72_281, S72_282, S72_283, S72_284, S72_285, S72_286, S72_287, S72_289, S72_290, S72_291, S72_292, S72_293, S72, ↓XX, ↓reduceIte, Nat.reduceBEq, decide_true, decide_false, Bool.not_true, Bool.not_false, List.map_cons, List.map_nil, List.length_map, List.length_cons, List.length_nil, Nat.reduceAdd, Int.cast_ofNat_Int, Int.natCast_zero, Int.natCast_one, Bool.false_eq_true, Bool.true_eq_false, decide_eq_true_eq, eq_self, Int.reduceEq, Int.reduceLT, Int.reduceLE, Bool.and_true, Bool.true_and, Bool.and_false, Bool.false_and, Nat.zero_add, ↓ml_x, wr, h0, h3]
      · by_cases h4 : 120 < deep
        · rw [if_pos ⟨h0, .inr h4⟩] at he1
          subst he1
          simp only [S72_261, S72_262, S72_263, S72_264, S72_265, S72_266, S72_267, S72_268, S72_269, S72_270, S72_271, S72_272, S72_273, S72_274, S72_275, S72_276, S72_277, S72_278, S72_279, S72_280, S72_281, S72_282, S72_283, S72_284, S72_285, S72_286, S72_287, S72_289, S72_290, S72_291, S72_292, S72_293, S72, ↓XX, ↓reduceIte, Nat.reduceBEq, decide_true, decide_false, Bool.not_true, Bool.not_false, List.map_cons, List.map_nil, List.length_map, List.length_cons, List.length_nil, Nat.reduceAdd, Int.cast_ofNat_Int, Int.natCast_zero, Int.natCast_one, Bool.false_eq_true, Bool.true_eq_false, decide_eq_true_eq, eq_self, Int.reduceEq, Int.reduceLT, Int.reduceLE, Bool.and_true, Bool.true_and, Bool.and_false, Bool.false_and, Nat.zero_add, ↓ml_x, wr, h0, h3, h4]
        · rw [if_neg (by omega)] at he1
          subst he1
          simp only [S72_261, S72_262, S72_263, S72_264, S72_265, S72_266, S72_267, S72_268, S72_269, S72_270, S72_271, S72_272, S72_273, S72_274, S72_275, S72_276, S72_277, S72_278, S72_279, S72_280, S72_281, S72_282, S72_283, S72_284, S72_285, S72_286, S72_287, S72_289, S72_290, S72_291, S72_292, S72_293, S72, ↓XX, ↓reduceIte, Nat.reduceBEq, decide_true, decide_false, Bool.not_true, Bool.not_false, List.map_cons, List.map_nil, List.length_map, List.length_cons, List.length_nil, Nat.reduceAdd, Int.cast_ofNat_Int, Int.natCast_zero, Int.natCast_one, Bool.false_eq_true, Bool.true_eq_false, decide_eq_true_eq, eq_self, Int.reduceEq, Int.reduceLT, Int.reduceLE, Bool.and_true, Bool.true_and, Bool.and_false, Bool.false_and, Nat.zero_add, ↓ml_x, wr, h0, h3, h4]
    · rw [if_neg (by omega)] at he1
      subst he1
      simp only [S72_261, S72_262, S72_263, S72_264, S72_265, S72_266, S72_267, S72_268, S72_269, S72_270, S72_271, S72_272, S72_273, S72_274, S72_275, S72_276, S72_277, S72_278, S72_279, S72_280, S72_281, S72_282, S72_283, S72_284, S72_285, S72_286, S72_287, S72_289, S72_290, S72_291, S72_292, S72_293, S72, ↓XX, ↓reduceIte, Nat.reduceBEq, decide_true, decide_false, Bool.not_true, Bool.not_false, List.map_cons, List.map_nil, List.length_map, List.length_cons, List.length_nil, Nat.reduceAdd, Int.cast_ofNat_Int, Int.natCast_zero, Int.natCast_one, Bool.false_eq_true, Bool.true_eq_false, decide_eq_true_eq, eq_self, Int.reduceEq, Int.reduceLT, Int.reduceLE, Bool.and_true, Bool.true_and, Bool.and_false, Bool.false_and, Nat.zero_add, ↓ml_x, wr, h0]
  rw [key]
  exact h
end Idl
end Go.Proofs.Ytkfecngimlcfoaa

namespace Go.Proofs.Ytkfecngimlcfoaa
namespace Idl
end Idl
end Go.Proofs.Ytkfecngimlcfoaa

namespace Go.Proofs.Ytkfecngimlcfoaa
namespace Idl
section
variable {β : Type} (v : RV)
end
end Idl
end Go.Proofs.Ytkfecngimlcfoaa

namespace Go.Proofs.Ytkfecngimlcfoaa
namespace Idl
theorem fzs_agg {cells : List IV} {fc : List FV} (hz : frz1L cells = some fc) (hn : cells.length ≤ 100) (s : Nat) (h : Hp) (k : IV → Hp → List Ref → List Ref → Option (IV × Hp)) : fzS (pcBox true s (.agg cells)) s (.agg cells) h k = k (.fv (.fp fc 0)) h [] [] := by
  have : pcBox true s (.agg cells) = .ret { eff := { val := .fv (.fp fc 0), upd := [] } } := by
    simp only [pcBox, IV.alive, Bool.true_eq_false, if_false, if_true, IV.cells, fr1_l cells 4096 (by omega) hz, Rd.bind]
  unfold fzS
  rw [this, as_nf1]
  exact gen_val _ s h k
end Idl
end Go.Proofs.Ytkfecngimlcfoaa

namespace Go.Proofs.Ytkfecngimlcfoaa
namespace Idl
noncomputable abbrev Hbk (done : List Tm) (rest : Nat) (more : List (Nat × Blk)) (s w r e : Int) : Hp :=
  ⟨(75497472, .row [iv 0, iv 0, .nils] false) :: (75506693, .row (cellsT done rest) false) :: more, MX s w r e⟩
theorem iso_x4s {ih : Handler} {f : FuncId} {w x y : FV} {a b : IV} {s0 len : Nat} {s u r e s' u' r' e' : Int} {own own' : List (Nat × Blk)} {es : List FV} {ro : Bool} (hr : AnsX (ih f [.ptr (.ext 0) 0, .fv x, .fv y, .fv (.sl es)] ⟨[], MX s u r e⟩) w (MX s' u' r' e'))
    (ha : frzP a = some x) (hb : frzP b = some y) (hl : lookupOwn s0 own = some (.row (es.map .fv) ro)) (hlen : es.length = len) (hn : es.length ≤ 300) (hag : ∀ x ∈ es, ∀ l, x ≠ .agg l) (ho : putOwn s0 (.row (es.map .fv) true) own = own')
    (k : IV → Hp → List Ref → List Ref → Option (IV × Hp)) :
    isoS [true, false, false, false] false false ih f [.ptr (.ext 0) 0, a, b, .slc (.own s0) 1 len] ⟨own, MX s u r e⟩ k = k (.fv w) ⟨own', MX s' u' r' e'⟩ [.ext 1, .ext 0, .own s0] [.own s0, .ext 0, .ext 1] := by
  subst ho hlen
  refine iso_g (ks := [false, false, false]) (vs := [x, y, .sl es]) (u := [(.own s0, .row (es.map .fv) true)]) (lg := [.own s0]) ?_ (extX ..) hr ?_ k
  · intro e k
    rw [fz1f, fzp_u _ _ e _ ha, fz1f, fzp_u _ _ e _ hb, fz1f, fz_slc (d := 10) hl hn hag, fz0]
    rfl
  · intro k
    show (ownK own s0 fun _ => putOwnK own s0 (.row (es.map .fv) true) fun own => k ⟨own, _⟩) = _
    rw [ownK_eq, hl, Option.bind_some, putOwnK_eq]
def resP (op n : Int) (done : List Tm) : Option (List Tm) → Tm
  | none => .z
  | some ts => .mk op n (done ++ ts)
set_option maxRecDepth 20000 in
set_option maxHeartbeats 1000000 in
theorem bk_end {n : Nat} {op nn bo bn below deep : Int} {k e : List PV} {bk : List Tm} {done : List Tm} {s w r er : Int} (h4 : Hp) {rec : List IV → Hp → Option (IV × Hp)} (hd : done.length = k.length) (hk : k.length ≤ 100) :
    AnsX (S72_283 [.ptr (.ext 0) 0, .fv (PV.mk op nn k (.mk bo bn bk) e).enc, iv below, iv deep, .ptr (.own 75497472) 0, .slc (.own 75506693) 3 k.length, iv k.length, iv k.length] (Hbk done 0 [] s w r er) (SS dt n) h4 rec n)
      (Tm.mk op nn done).enc (MX s w r er) := by
  rw [penc_mk, enc_mk]
  have hno : ¬ ((k.length : Int) < k.length) := by omega
  simp only [S72_261, S72_262, S72_263, S72_264, S72_265, S72_266, S72_267, S72_268, S72_269, S72_270, S72_271, S72_272, S72_273, S72_274, S72_275, S72_276, S72_277, S72_278, S72_279, S72_280, S72_281, S72_282, S72_283, S72_284, S72_285, S72_286, S72_287, S72_288, S72_289, S72_290, S72_291, S72_292, S72_293, S72, ↓XX, ↓reduceIte, Nat.reduceBEq, decide_true, decide_false, Bool.not_true, Bool.not_false, List.map_cons, List.map_nil, List.length_map, List.length_cons, List.length_nil, Nat.reduceAdd, Int.cast_ofNat_Int, Int.natCast_zero, Int.natCast_one, Bool.false_eq_true, Bool.true_eq_false, decide_eq_true_eq, eq_self, Int.reduceEq, Int.reduceLT, Int.reduceLE, Bool.and_true, Bool.true_and, Bool.and_false, Bool.false_and, Nat.zero_add, ↓ml_x, hno]
  rw [← hd]
  exact ⟨_, _, rfl, _, _, fun e0 K => fz_tm (by rfl) (by omega) [] e0 K⟩
def MoreP (more : List (Nat × Blk)) : Prop := more = [] ∨ ∃ (l : List FV) (ro : Bool), more = [(75512833, .row (l.map .fv) ro)]
set_option maxRecDepth 20000 in
set_option maxHeartbeats 1000000 in
theorem bk_b0 {n : Nat} {v y : FV} {below deep b len i : IV} {done : List Tm} {rest kl : Nat} {more : List (Nat × Blk)} {s w r e : Int} (hM : MoreP more) (h4 : Hp) {rec : List IV → Hp → Option (IV × Hp)} (he : e ≠ 0) :
    AnsX (S72_267 (.ptr (.ext 0) 0) (Hbk done rest more s w r e) (.ptr (.own 75497472) 0) below b deep (SS dt n) (.fv y) (.slc (.own 75506693) 3 kl) i i h4 (.fv v) len rec) Tm.z.enc (MX s w r e) := by
  rcases hM with rfl | ⟨l, ro, rfl⟩
  · simp only [S72_261, S72_262, S72_263, S72_264, S72_265, S72_266, S72_267, S72_268, S72_269, S72_270, S72_271, S72_272, S72_274, S72_275, S72_276, S72_277, S72_278, S72_279, S72_280, S72_281, S72_282, S72_284, S72_285, S72_286, S72_287, S72_288, S72_289, S72_290, S72_291, S72_292, S72_293, S72, ↓XX, ↓reduceIte, Nat.reduceBEq, decide_true, decide_false, Bool.not_true, Bool.not_false, List.map_cons, List.map_nil, List.length_map, List.length_cons, List.length_nil, Nat.reduceAdd, Int.cast_ofNat_Int, Int.natCast_zero, Int.natCast_one, Bool.false_eq_true, Bool.true_eq_false, decide_eq_true_eq, eq_self, Int.reduceEq, Int.reduceLT, Int.reduceLE, Bool.and_true, Bool.true_and, Bool.and_false, Bool.false_and, Nat.zero_add, ↓ml_x, he]
    exact ansx_p rfl _ _
  · simp only [S72_261, S72_262, S72_263, S72_264, S72_265, S72_266, S72_267, S72_268, S72_269, S72_270, S72_271, S72_272, S72_274, S72_275, S72_276, S72_277, S72_278, S72_279, S72_280, S72_281, S72_282, S72_284, S72_285, S72_286, S72_287, S72_288, S72_289, S72_290, S72_291, S72_292, S72_293, S72, ↓XX, ↓reduceIte, Nat.reduceBEq, decide_true, decide_false, Bool.not_true, Bool.not_false, List.map_cons, List.map_nil, List.length_map, List.length_cons, List.length_nil, Nat.reduceAdd, Int.cast_ofNat_Int, Int.natCast_zero, Int.natCast_one, Bool.false_eq_true, Bool.true_eq_false, decide_eq_true_eq, eq_self, Int.reduceEq, Int.reduceLT, Int.reduceLE, Bool.and_true, Bool.true_and, Bool.and_false, Bool.false_and, Nat.zero_add, ↓ml_x, he]
    exact ansx_p rfl _ _
set_option maxRecDepth 20000 in
set_option maxHeartbeats 1000000 in
theorem bk_b1 {f n : Nat} {v : FV} {y : PV} {below deep : Int} {b : Nat} {len : Int} {done : List Tm} {rest kl : Nat} {more : List (Nat × Blk)} {m m5 : M3} {r r5 : Int} {t5 : Tm} {w : FV} {ext : List Blk} (hb : BkOk f) (hn : f + 1 ≤ n) (hM : MoreP more) (ext4 : List Blk)
    {rec : List IV → Hp → Option (IV × Hp)} (he : m.e = 0) (hbk : bkP f y (below + b) (deep + 1) m r = some (t5, m5, r5)) (hb1 : 0 ≤ below) (hb2 : below ≤ 1000000) (hb3 : b ≤ 10) (hd1 : 0 ≤ deep) (hd2 : deep ≤ 1000000) (hkl : done.length < kl) (hkl2 : kl ≤ 100)
    (h : AnsX (rec [.ptr (.ext 0) 0, .fv v, iv below, iv deep, .ptr (.own 75497472) 0, .slc (.own 75506693) 3 kl, iv len, iv (done ++ [t5]).length] (Hbk (done ++ [t5]) rest [] m5.s m5.w r5 m5.e)) w ext) :
    AnsX (S72_267 (.ptr (.ext 0) 0) (Hbk done (rest + 1) more m.s m.w r m.e) (.ptr (.own 75497472) 0) (iv below) (iv b) (iv deep) (SS dt n) (.fv y.enc) (.slc (.own 75506693) 3 kl) (iv done.length) (iv done.length) ⟨[], ext4⟩ (.fv v) (iv len) rec) w ext := by
  have hc := hb _ _ _ _ _ _ _ _ hbk n hn
  have wb : w64 (below + b) = below + b := by rw [w64_id] <;> omega
  have wd : w64 (deep + 1) = deep + 1 := by rw [w64_id] <;> omega
  have wi : w64 ((done.length : Int) + 1) = ((done ++ [t5]).length : Int) := (w64_id (by omega) (by omega)).trans (by simp)
  obtain ⟨o, p, ks⟩ := t5
  rw [enc_mk] at hc
  simp only [he] at hc ⊢
  rcases hM with rfl | ⟨l, ro, rfl⟩
  · simp only [S72_261, S72_262, S72_263, S72_264, S72_265, S72_266, S72_267, S72_268, S72_269, S72_270, S72_271, S72_272, S72_274, S72_275, S72_276, S72_277, S72_278, S72_279, S72_280, S72_281, S72_282, S72_284, S72_285, S72_286, S72_287, S72_288, S72_289, S72_290, S72_291, S72_292, S72_293, S72, ↓XX, ↓reduceIte, Nat.reduceBEq, decide_true, decide_false, Bool.not_true, Bool.not_false, List.map_cons, List.map_nil, List.length_map, List.length_cons, List.length_nil, Nat.reduceAdd, Int.cast_ofNat_Int, Int.natCast_zero, Int.natCast_one, Bool.false_eq_true, Bool.true_eq_false, decide_eq_true_eq, eq_self, Int.reduceEq, Int.reduceLT, Int.reduceLE, Bool.and_true, Bool.true_and, Bool.and_false, Bool.false_and, Nat.zero_add, ↓ml_x, wb, wd, ↓iso_x4 _ _ hc, ↓ix_sl3 hkl, ↓set_t, wi, ↓drop_mx, ↓drop_e, XD, heldB, flatD, List.any_cons, List.any_nil, List.all_cons, List.all_nil, List.filter_cons, List.filter_nil, List.contains_cons, List.contains_nil, Bool.or_false, Bool.or_true, Bool.false_or, Bool.true_or, Bool.and_self, Bool.not_eq_true, BEq.rfl, beq_self_eq_true, flat_fv, names_fv, flat_t, names_t]
    exact h
  · simp only [S72_261, S72_262, S72_263, S72_264, S72_265, S72_266, S72_267, S72_268, S72_269, S72_270, S72_271, S72_272, S72_274, S72_275, S72_276, S72_277, S72_278, S72_279, S72_280, S72_281, S72_282, S72_284, S72_285, S72_286, S72_287, S72_288, S72_289, S72_290, S72_291, S72_292, S72_293, S72, ↓XX, ↓reduceIte, Nat.reduceBEq, decide_true, decide_false, Bool.not_true, Bool.not_false, List.map_cons, List.map_nil, List.length_map, List.length_cons, List.length_nil, Nat.reduceAdd, Int.cast_ofNat_Int, Int.natCast_zero, Int.natCast_one, Bool.false_eq_true, Bool.true_eq_false, decide_eq_true_eq, eq_self, Int.reduceEq, Int.reduceLT, Int.reduceLE, Bool.and_true, Bool.true_and, Bool.and_false, Bool.false_and, Nat.zero_add, ↓ml_x, wb, wd, ↓iso_x4 _ _ hc, ↓ix_sl3 hkl, ↓set_t, wi, ↓drop_mx, ↓drop_e, XD, heldB, flatD, List.any_cons, List.any_nil, List.all_cons, List.all_nil, List.filter_cons, List.filter_nil, List.contains_cons, List.contains_nil, Bool.or_false, Bool.or_true, Bool.false_or, Bool.true_or, Bool.and_self, Bool.not_eq_true, BEq.rfl, beq_self_eq_true, flat_fv, names_fv, flat_t, names_t]
    exact h
end Idl
end Go.Proofs.Ytkfecngimlcfoaa

namespace Go.Proofs.Ytkfecngimlcfoaa
namespace Idl
set_option maxRecDepth 20000 in
set_option maxHeartbeats 1000000 in
theorem bk_in {f n : Nat} {v y : PV} {below deep : Int} {i b kl : Nat} {len : Int} {done : List Tm} {rest : Nat} {m m4 : M3} {r : Int} {w : FV} {ext : List Blk} (hn : f + 1 ≤ n) (h3 : 3 ≤ n) (ext4 : List Blk)
    {j : IV → IV → IV → IV → IV → IV → IV → IV → IV → IV → IV → Hp → Option (IV × Hp)} (hb : b ≤ 2) (hb1 : 0 ≤ below) (hb2 : below ≤ 1000000) (hop : opP f v i (upP below b) m = some (y, m4))
    (hj : AnsX (j (.ptr (.ext 0) 0) (.fv v.enc) (iv below) (iv deep) (.ptr (.own 75497472) 0) (.slc (.own 75506693) 3 kl) (iv i) (.fv y.enc) (iv b) (iv len) (iv i)
      (Hbk done rest [(75512833, .row (((upP below b).map PV.enc).map .fv) true)] m4.s m4.w r m4.e)) w ext) :
    AnsX (loopS n (fun q119 l120 h121 => S72_273 l120 h121 ⟨[], ext4⟩ q119 (SS dt n) j) [.ptr (.ext 0) 0, .fv v.enc, iv below, iv deep, .ptr (.own 75497472) 0, .slc (.own 75506693) 3 kl, iv i, iv b, .slc (.own 75512833) 1 b, iv len, iv i, iv b, iv 0]
      (Hbk done rest [(75512833, .row (((nils b).map PV.enc).map .fv) false)] m.s m.w r m.e)) w ext := by
  refine loop_run (Q := fun r => AnsX r _ _) (fun t V H => ∃ (k : Nat), k + t = b ∧
      V = [.ptr (.ext 0) 0, .fv v.enc, iv below, iv deep, .ptr (.own 75497472) 0, .slc (.own 75506693) 3 kl, iv i, iv b, .slc (.own 75512833) 1 b, iv len, iv i, iv b, iv k] ∧
      H = Hbk done rest [(75512833, .row (((upP below k ++ nils t).map PV.enc).map .fv) false)] m.s m.w r m.e) ?_ n b _ _ (by omega) ⟨0, by omega, rfl, rfl⟩
  rintro t V H rec ⟨k, hkt, rfl, rfl⟩ hrec
  cases t with
  | zero =>
    have hkb : k = b := by omega
    subst hkb
    have hno : ¬ ((k : Int) < k) := by omega
    have hc := (mx_ok f).2.2.2 _ _ _ _ _ _ hop r n hn
    rw [show upP below k ++ nils 0 = upP below k by simp [nils]]
    simp only [S72_261, S72_262, S72_263, S72_264, S72_265, S72_266, S72_267, S72_268, S72_269, S72_270, S72_271, S72_272, S72_274, S72_275, S72_276, S72_277, S72_278, S72_279, S72_280, S72_281, S72_282, S72_284, S72_285, S72_286, S72_287, S72_288, S72_289, S72_290, S72_291, S72_292, S72_293, S72, S72_273, ↓XX, ↓reduceIte, Nat.reduceBEq, decide_true, decide_false, Bool.not_true, Bool.not_false, List.map_cons, List.map_nil, List.length_map, List.length_cons, List.length_nil, Nat.reduceAdd, Int.cast_ofNat_Int, Int.natCast_zero, Int.natCast_one, Bool.false_eq_true, Bool.true_eq_false, decide_eq_true_eq, eq_self, Int.reduceEq, Int.reduceLT, Int.reduceLE, Bool.and_true, Bool.true_and, Bool.and_false, Bool.false_and, Nat.zero_add, ↓ml_x, hno]
    rw [iso_x4s hc rfl rfl (s0 := 75512833) (own' := (Hbk done rest [(75512833, .row (((upP below k).map PV.enc).map .fv) true)] m4.s m4.w r m4.e).own) (by rfl) (by simp [upP_len]) (by simp [upP_len]; omega) (by simp only [List.mem_map]; rintro x ⟨v, _, rfl⟩; exact penc_agg v) (by rfl)]
    exact hj
  | succ t =>
    have hlt : (k : Int) < b := by omega
    have hkb : k < b := by omega
    have wk : w64 ((k : Int) + 1) = ((k + 1 : Nat) : Int) := (w64_id (by omega) (by omega)).trans (by simp)
    have wbk : w64 (below + (k : Int)) = below + k := by rw [w64_id] <;> omega
    have hoff := fun {β : Type} => off_p (done := upP below k) (r := t) (β := β) (PV.var (below + k))
    rw [upP_len, pvar_enc] at hoff
    simp only [S72_261, S72_262, S72_263, S72_264, S72_265, S72_266, S72_267, S72_268, S72_269, S72_270, S72_271, S72_272, S72_274, S72_275, S72_276, S72_277, S72_278, S72_279, S72_280, S72_281, S72_282, S72_284, S72_285, S72_286, S72_287, S72_288, S72_289, S72_290, S72_291, S72_292, S72_293, S72, S72_273, ↓XX, ↓reduceIte, Nat.reduceBEq, decide_true, decide_false, Bool.not_true, Bool.not_false, List.map_cons, List.map_nil, List.length_map, List.length_cons, List.length_nil, Nat.reduceAdd, Int.cast_ofNat_Int, Int.natCast_zero, Int.natCast_one, Bool.false_eq_true, Bool.true_eq_false, decide_eq_true_eq, eq_self, Int.reduceEq, Int.reduceLT, Int.reduceLE, Bool.and_true, Bool.true_and, Bool.and_false, Bool.false_and, Nat.zero_add, ↓ml_x, hlt, wbk]
    rw [fzs_agg (fc := [.int .i64 1, .int .i64 (below + k), .sl [], .int .i64 0, .int .i64 0, .sl [], .nilp]) rfl (by simp)]
    simp only [↓XX, ↓reduceIte, Nat.reduceBEq, decide_true, decide_false, Bool.not_true, Bool.not_false, List.map_cons, List.map_nil, List.length_map, List.length_cons, List.length_nil, Nat.reduceAdd, Int.cast_ofNat_Int, Int.natCast_zero, Int.natCast_one, Bool.false_eq_true, Bool.true_eq_false, decide_eq_true_eq, eq_self, Int.reduceEq, Int.reduceLT, Int.reduceLE, Bool.and_true, Bool.true_and, Bool.and_false, Bool.false_and, Nat.zero_add, ↓ml_x, ↓ix_sl hkb, ↓hoff, wk, ↓drop_mx, ↓drop_e, XD, heldB, flatD, List.any_cons, List.any_nil, List.all_cons, List.all_nil, List.filter_cons, List.filter_nil, List.contains_cons, List.contains_nil, Bool.or_false, Bool.or_true, Bool.false_or, Bool.true_or, Bool.and_self, Bool.not_eq_true, BEq.rfl, beq_self_eq_true, flat_fv, names_fv, flat_t, names_t]
    exact hrec t _ _ (by omega) ⟨k + 1, by omega, rfl, by rw [upP_succ]⟩
set_option maxRecDepth 20000 in
set_option maxHeartbeats 1000000 in
theorem bk_step {f : Nat} (hb : BkOk f) : BkOk (f + 1) := by
  intro v below deep m r t m' r' hev n hn
  obtain ⟨n, rfl⟩ : ∃ k, n = k + 1 := ⟨n - 1, by omega⟩
  rw [c72]
  rw [bkP.eq_def] at hev
  simp only at hev
  split at hev
  · cases hev
  rename_i hbad
  have wd : w64 (deep + 1) = deep + 1 := by rw [w64_id] <;> omega
  have wb1 : w64 (below - 1) = below - 1 := by rw [w64_id] <;> omega
  generalize he1 : (if m.e = 0 ∧ (3000 < r + 1 ∨ 120 < deep) then (5 : Int) else m.e) = e1 at hev
  cases ht : tickP ⟨m.s, m.w, e1⟩ with
  | none => rw [ht] at hev; cases hev
  | some m1 =>
  rw [ht] at hev
  simp only at hev
  have hc1 := tick_ok ht (r + 1) (n := n) (by omega)
  simp only at hc1
  refine bk_start (by omega) (by omega) he1 ?_
  by_cases h1 : m1.e ≠ 0
  · rw [if_pos h1] at hev
    simp only [Option.some.injEq, Prod.mk.injEq] at hev
    obtain ⟨rfl, rfl, rfl⟩ := hev
    simp only [S72_261, S72_262, S72_263, S72_264, S72_265, S72_266, S72_267, S72_268, S72_269, S72_270, S72_271, S72_272, S72_274, S72_275, S72_276, S72_277, S72_278, S72_279, S72_280, S72_281, S72_282, S72_284, S72_285, S72_286, S72_287, S72_288, S72_289, S72_290, S72_291, S72_292, S72_293, S72, ↓XX, ↓reduceIte, Nat.reduceBEq, decide_true, decide_false, Bool.not_true, Bool.not_false, List.map_cons, List.map_nil, List.length_map, List.length_cons, List.length_nil, Nat.reduceAdd, Int.cast_ofNat_Int, Int.natCast_zero, Int.natCast_one, Bool.false_eq_true, Bool.true_eq_false, decide_eq_true_eq, eq_self, Int.reduceEq, Int.reduceLT, Int.reduceLE, Bool.and_true, Bool.true_and, Bool.and_false, Bool.false_and, Nat.zero_add, ↓ml_x, ↓iso_x1 _ _ hc1, h1]
    exact ansx_p rfl _ _
  · rw [if_neg h1] at hev
    have h1 : m1.e = 0 := by simpa using h1
    cases v with
    | nil => cases hev
    | mk op nn k t0 e =>
    obtain ⟨bo, bn, bk⟩ := t0
    simp only at hev
    by_cases h2 : op = 1
    · rw [if_pos h2] at hev
      split at hev
      · cases hev
      rename_i hnn
      simp only [Option.some.injEq, Prod.mk.injEq] at hev
      obtain ⟨rfl, rfl, rfl⟩ := hev
      have wb2 : w64 (below - 1 - nn) = below - 1 - nn := by rw [w64_id] <;> omega
      rw [penc_mk]
      simp only [S72_261, S72_262, S72_263, S72_264, S72_265, S72_266, S72_267, S72_268, S72_269, S72_270, S72_271, S72_272, S72_274, S72_275, S72_276, S72_277, S72_278, S72_279, S72_280, S72_281, S72_282, S72_284, S72_285, S72_286, S72_287, S72_288, S72_289, S72_290, S72_291, S72_292, S72_293, S72, ↓XX, ↓reduceIte, Nat.reduceBEq, decide_true, decide_false, Bool.not_true, Bool.not_false, List.map_cons, List.map_nil, List.length_map, List.length_cons, List.length_nil, Nat.reduceAdd, Int.cast_ofNat_Int, Int.natCast_zero, Int.natCast_one, Bool.false_eq_true, Bool.true_eq_false, decide_eq_true_eq, eq_self, Int.reduceEq, Int.reduceLT, Int.reduceLE, Bool.and_true, Bool.true_and, Bool.and_false, Bool.false_and, Nat.zero_add, ↓ml_x, ↓iso_x1 _ _ hc1, h1, h2, wb1, wb2]
      exact ansx_p rfl _ _
    · rw [if_neg h2] at hev
      split at hev
      · cases hev
      rename_i hk100
      have hk100 : k.length ≤ 100 := by omega
      cases hkk : bkK (fun v below m r => bkP f v below (deep + 1) m r) (fun i l m => opP f (.mk op nn k (.mk bo bn bk) e) i l m) op below 0 k m1 (r + 1) with
      | none => rw [hkk] at hev; cases hev
      | some q =>
      obtain ⟨res, m2, r2⟩ := q
      rw [hkk] at hev
      have hres : t = resP op nn [] res ∧ m' = m2 ∧ r' = r2 := by
        cases res with
        | none => simp only [Option.some.injEq, Prod.mk.injEq] at hev; exact ⟨hev.1.symm, hev.2.1.symm, hev.2.2.symm⟩
        | some ts => simp only [Option.some.injEq, Prod.mk.injEq] at hev; exact ⟨hev.1.symm, hev.2.1.symm, hev.2.2.symm⟩
      obtain ⟨ht5, rfl, rfl⟩ := hres
      generalize hV : PV.mk op nn k (.mk bo bn bk) e = V5 at *
      have hVe : V5.enc = .fp [.int .i64 op, .int .i64 nn, .sl (k.map PV.enc), .int .i64 bo, .int .i64 bn, .sl (bk.map Tm.enc), PV.encEnv e] 0 := by rw [← hV, penc_mk]
      rw [hVe]
      simp only [S72_261, S72_262, S72_263, S72_264, S72_265, S72_266, S72_267, S72_268, S72_269, S72_270, S72_271, S72_272, S72_274, S72_275, S72_276, S72_277, S72_278, S72_279, S72_280, S72_281, S72_282, S72_284, S72_285, S72_286, S72_287, S72_288, S72_289, S72_290, S72_291, S72_292, S72_293, S72, ↓XX, ↓reduceIte, Nat.reduceBEq, decide_true, decide_false, Bool.not_true, Bool.not_false, List.map_cons, List.map_nil, List.length_map, List.length_cons, List.length_nil, Nat.reduceAdd, Int.cast_ofNat_Int, Int.natCast_zero, Int.natCast_one, Bool.false_eq_true, Bool.true_eq_false, decide_eq_true_eq, eq_self, Int.reduceEq, Int.reduceLT, Int.reduceLE, Bool.and_true, Bool.true_and, Bool.and_false, Bool.false_and, Nat.zero_add, ↓ml_x, ↓iso_x1 _ _ hc1, h1, h2, ↓mk_t (show k.length ≤ 1000 by omega), ↓drop_mx, ↓drop_e, XD, heldB, flatD, List.any_cons, List.any_nil, List.all_cons, List.all_nil, List.filter_cons, List.filter_nil, List.contains_cons, List.contains_nil, Bool.or_false, Bool.or_true, Bool.false_or, Bool.true_or, Bool.and_self, Bool.not_eq_true, BEq.rfl, beq_self_eq_true, flat_fv, names_fv, flat_t, names_t]
      refine loop_run (Q := fun r => AnsX r _ _) (fun j V H => ∃ (pre rest : List PV) (done : List Tm) (m3 : M3) (r3 : Int) (res3 : Option (List Tm)), k = pre ++ rest ∧ rest.length = j ∧ done.length = pre.length ∧
          V = [.ptr (.ext 0) 0, .fv V5.enc, iv below, iv deep, .ptr (.own 75497472) 0, .slc (.own 75506693) 3 k.length, iv k.length, iv pre.length] ∧
          H = Hbk done rest.length [] m3.s m3.w r3 m3.e ∧
          bkK (fun v below m r => bkP f v below (deep + 1) m r) (fun i l m => opP f V5 i l m) op below pre.length rest m3 r3 = some (res3, m', r') ∧ resP op nn done res3 = t)
        ?_ n k.length _ _ (by omega) ⟨[], k, [], m1, r + 1, res, rfl, rfl, rfl, by rw [hVe]; rfl, by rw [h1], hkk, ht5.symm⟩
      rintro j V H rec ⟨pre, rest, done, m3, r3, res3, hk, hl, hdl, rfl, rfl, hkids, hts⟩ hrec
      have hkl : k.length = pre.length + rest.length := by rw [hk]; simp
      cases rest with
      | nil =>
        simp only [bkK, Option.some.injEq, Prod.mk.injEq] at hkids
        obtain ⟨rfl, rfl, rfl⟩ := hkids
        rw [List.length_nil, Nat.add_zero] at hkl
        rw [← hts, ← hV, resP, List.append_nil, ← hkl]
        exact bk_end _ (by omega) hk100
      | cons x rest =>
        have hi : (pre.length : Int) < k.length := by rw [hkl]; simp; omega
        have hg := at_pre hk
        have hbn := pbind_ok (n := n) (by omega) op pre.length
        have hble := bindN_le op pre.length
        simp only [bkK] at hkids
        simp only [List.length_cons] at hl hkl
        -- what comes behind the kid's value
        have behind : ∀ (y : PV) (m4 : M3) (more : List (Nat × Blk)), MoreP more → (if m4.e ≠ 0 then some (none, m4, r3) else match bkP f y (below + bindN op pre.length) (deep + 1) m4 r3 with
              | none => none
              | some (t, m, r) => (bkK (fun v below m r => bkP f v below (deep + 1) m r) (fun i l m => opP f V5 i l m) op below (pre.length + 1) rest m r).map fun (ts, m, r) => (ts.map (t :: ·), m, r)) = some (res3, m', r') →
            AnsX (S72_267 (.ptr (.ext 0) 0) (Hbk done (rest.length + 1) more m4.s m4.w r3 m4.e) (.ptr (.own 75497472) 0) (iv below) (iv (bindN op pre.length)) (iv deep) (SS dt n) (.fv y.enc) (.slc (.own 75506693) 3 k.length) (iv pre.length) (iv pre.length) ⟨[], MX m.s m.w r m.e⟩ (.fv V5.enc) (iv k.length) rec)
              t.enc (MX m'.s m'.w r' m'.e) := by
          intro y m4 more hM hy
          by_cases h4 : m4.e ≠ 0
          · rw [if_pos h4] at hy
            simp only [Option.some.injEq, Prod.mk.injEq] at hy
            obtain ⟨rfl, rfl, rfl⟩ := hy
            rw [← hts]
            exact bk_b0 hM _ h4
          · rw [if_neg h4] at hy
            have h4 : m4.e = 0 := by simpa using h4
            cases hbk : bkP f y (below + bindN op pre.length) (deep + 1) m4 r3 with
            | none => rw [hbk] at hy; cases hy
            | some q =>
            obtain ⟨t5, m5, r5⟩ := q
            rw [hbk] at hy
            simp only at hy
            cases hk2 : bkK (fun v below m r => bkP f v below (deep + 1) m r) (fun i l m => opP f V5 i l m) op below (pre.length + 1) rest m5 r5 with
            | none => rw [hk2] at hy; cases hy
            | some q =>
            obtain ⟨res6, m6, r6⟩ := q
            rw [hk2] at hy
            simp only [Option.map_some, Option.some.injEq, Prod.mk.injEq] at hy
            obtain ⟨rfl, rfl, rfl⟩ := hy
            rw [← hdl]
            refine bk_b1 hb (by omega) hM _ h4 (by rw [hdl]; exact hbk) (by omega) (by omega) (by rw [hdl]; omega) (by omega) (by omega) (by omega) hk100 ?_
            refine hrec rest.length _ _ (by omega) ⟨pre ++ [x], rest, done ++ [t5], m5, r5, res6, by rw [hk]; simp, rfl, by simp [hdl], by simp [hdl], rfl, by simpa using hk2, ?_⟩
            rw [← hts]
            cases res6 with
            | none => rfl
            | some ts => simp [resP]
        rw [hVe]
        by_cases hb0 : 0 < bindN op pre.length
        · rw [if_pos hb0] at hkids
          have hb0' : (0 : Int) < bindN op pre.length := by omega
          cases hop : opP f V5 pre.length (upP below (bindN op pre.length)) m3 with
          | none => rw [hop] at hkids; cases hkids
          | some q =>
          obtain ⟨y, m4⟩ := q
          rw [hop] at hkids
          have h9 := behind y m4 [(75512833, .row (((upP below (bindN op pre.length)).map PV.enc).map .fv) true)] (.inr ⟨_, _, rfl⟩) hkids
          have hin := bk_in (f := f) (n := n) (v := V5) (y := y) (below := below) (deep := deep) (i := pre.length) (b := bindN op pre.length) (kl := k.length) (len := k.length) (done := done) (rest := rest.length + 1) (m := m3) (m4 := m4) (r := r3) (w := t.enc) (ext := MX m'.s m'.w r' m'.e) (by omega) (by omega) (MX m.s m.w r m.e)
            (j := fun x79 x80 x81 x82 x83 x84 x85 x86 x87 x88 x89 h90 => S72_267 x79 h90 x83 x81 x87 x82 (SS dt n) x86 x84 x85 x89 ⟨[], MX m.s m.w r m.e⟩ x80 x88 rec) (by omega) (by omega) (by omega) hop h9
          simp only [S72_261, S72_262, S72_263, S72_264, S72_265, S72_266, S72_268, S72_269, S72_270, S72_271, S72_272, S72_274, S72_275, S72_276, S72_277, S72_278, S72_279, S72_280, S72_281, S72_282, S72_283, S72_284, S72_285, S72_286, S72_287, S72_288, S72_289, S72_290, S72_291, S72_292, S72_293, S72, ↓XX, ↓reduceIte, Nat.reduceBEq, decide_true, decide_false, Bool.not_true, Bool.not_false, List.map_cons, List.map_nil, List.length_map, List.length_cons, List.length_nil, Nat.reduceAdd, Int.cast_ofNat_Int, Int.natCast_zero, Int.natCast_one, Bool.false_eq_true, Bool.true_eq_false, decide_eq_true_eq, eq_self, Int.reduceEq, Int.reduceLT, Int.reduceLE, Bool.and_true, Bool.true_and, Bool.and_false, Bool.false_and, Nat.zero_add, ↓ml_x, hi, ↓ix_p hg, ↓iso_2 hbn, hb0', ↓mk_p (show bindN op pre.length ≤ 1000 by omega), ↓drop_mx, ↓drop_e, XD, heldB, flatD, List.any_cons, List.any_nil, List.all_cons, List.all_nil, List.filter_cons, List.filter_nil, List.contains_cons, List.contains_nil, Bool.or_false, Bool.or_true, Bool.false_or, Bool.true_or, Bool.and_self, Bool.not_eq_true, BEq.rfl, beq_self_eq_true, flat_fv, names_fv, flat_t, names_t]
          rw [hVe] at hin
          exact hin
        · rw [if_neg hb0] at hkids
          have hb0' : ¬ (0 : Int) < bindN op pre.length := by omega
          have h9 := behind x m3 [] (.inl rfl) hkids
          simp only [S72_261, S72_262, S72_263, S72_264, S72_265, S72_266, S72_268, S72_269, S72_270, S72_271, S72_272, S72_274, S72_275, S72_276, S72_277, S72_278, S72_279, S72_280, S72_281, S72_282, S72_283, S72_284, S72_285, S72_286, S72_287, S72_288, S72_289, S72_290, S72_291, S72_292, S72_293, S72, ↓XX, ↓reduceIte, Nat.reduceBEq, decide_true, decide_false, Bool.not_true, Bool.not_false, List.map_cons, List.map_nil, List.length_map, List.length_cons, List.length_nil, Nat.reduceAdd, Int.cast_ofNat_Int, Int.natCast_zero, Int.natCast_one, Bool.false_eq_true, Bool.true_eq_false, decide_eq_true_eq, eq_self, Int.reduceEq, Int.reduceLT, Int.reduceLE, Bool.and_true, Bool.true_and, Bool.and_false, Bool.false_and, Nat.zero_add, ↓ml_x, hi, ↓ix_p hg, ↓iso_2 hbn, hb0']
          rw [hVe] at h9
          exact h9
theorem bk_ok : ∀ f, BkOk f
  | 0 => (fun _ _ _ _ _ _ _ _ h => by rw [bkP.eq_def] at h; cases h)
  | f + 1 => bk_step (bk_ok f)
end Idl
end Go.Proofs.Ytkfecngimlcfoaa

namespace Go.Proofs.Ytkfecngimlcfoaa
namespace Idl
noncomputable abbrev ruleO (mb : Nat) (f : FuncId) : IV := .agg [.func (.func f) [.ptr (.own mb) 0] []]
noncomputable abbrev rulesO (mb : Nat) : List (Int × IV) := [(5, ruleO mb 94), (8, ruleO mb 95), (9, ruleO mb 95), (13, ruleO mb 96), (30, ruleO mb 97), (19, ruleO mb 98)]
theorem mk_m (s : Nat) (own : List (Nat × Blk)) (ext : List Blk) (k : IV → Hp → List Ref → List Ref → Option (IV × Hp)) : genS (pcMakeMap s) s ⟨own, ext⟩ k = freshK own s (putOwnK own s (.map []) fun own => k (.mapr (.own s)) ⟨own, ext⟩ [] [.own s]) := by
  unfold genS
  simp only [pcMakeMap, Rd.runLog, newK, fBk_eq, fV_eq]
  rfl
noncomputable def mapK (b : Blk) (k : List (Int × IV) → Option (IV × Hp)) : Option (IV × Hp) := match b with
  | .map es => k es
  | _ => none
theorem as_map (es : List (Int × IV)) (k : List (Int × IV) → Option (IV × Hp)) : mapK (.map es) k = k es := rfl
theorem ins_e (m j : Nat) (v : IV) (hv : v.alive = true) (n : Int) (s : Nat) (own : List (Nat × Blk)) (ext : List Blk) (k : IV → Hp → List Ref → List Ref → Option (IV × Hp)) :
    genS (pcInsert EE 98 (.mapr (.own m)) (iv n) v) s ⟨own, ext⟩ k = ownK own m fun b => mapK b fun es => putOwnK own m (.map (putMap n v es)) fun own => k .dead ⟨own, ext⟩ [.own m] [.own m] := by
  have h1 := tMk
  have h2 := tIk
  cases hm : EE.T 98 with
  | none => rw [hm] at h1; cases h1
  | some ti =>
    cases hi : EE.T 3 with
    | none => rw [hi] at h2; cases h2
    | some ii =>
      rw [hm] at h1
      rw [hi] at h2
      obtain ⟨a, b, kd, z⟩ := ti
      obtain ⟨a2, b2, kd2, z2⟩ := ii
      simp only [Option.map_some, Option.some.injEq] at h1 h2
      subst h1 h2
      rw [ownK_eq]
      unfold genS
      cases hl : lookupOwn m own with
      | none => simp only [pcInsert, hm, hi, iv_e, Rd.runLog, Hp.get, hl]; rfl
      | some bl =>
        cases bl with
        | row c ro => simp only [pcInsert, hm, hi, iv_e, Rd.runLog, Hp.get, hl]; rfl
        | tok a b => simp only [pcInsert, hm, hi, iv_e, Rd.runLog, Hp.get, hl]; rfl
        | map es =>
          simp only [pcInsert, hm, hi, iv_e, Rd.runLog, Hp.get, hl, ml_own, hv, and_self, if_true, Option.bind_some, as_map]
          show (fRf (.own m) fun q => getK q ⟨own, ext⟩ fun _ => fBk (.map (putMap n v es)) fun b => layK q b ⟨own, ext⟩ fun h => newK none s h fun h => fV 3 .dead fun v => k v h [.own m] ([.own m] ++ [])) = _
          simp only [fRf_eq, fBk_eq, fV_eq, newK, layK, getK]
          rw [ownK_eq, hl]
          rfl
end Idl
end Go.Proofs.Ytkfecngimlcfoaa

namespace Go.Proofs.Ytkfecngimlcfoaa
namespace Idl
def knum (op : Int) : Int := if op = 8 ∨ op = 9 ∨ op = 12 ∨ op = 19 ∨ op = 30 then 1 else if op = 4 ∨ op = 5 then 2 else if op = 7 then 3 else if op = 13 then 4 else -1
theorem kids_ok {n : Nat} (hn : 0 < n) (op : Int) : Ans (SS dt n 93 [iv op] ⟨[], []⟩) (.int .i64 (knum op)) := by
  obtain ⟨n, rfl⟩ : ∃ k, n = k + 1 := ⟨n - 1, by omega⟩
  rw [c93]
  unfold knum
  by_cases h : op = 8 ∨ op = 9 ∨ op = 12 ∨ op = 19 ∨ op = 30
  · rw [if_pos h]
    rcases h with rfl | rfl | rfl | rfl | rfl <;> (simp only [S93_17, S93_18, S93_19, S93_20, S93_21, S93_22, S93, ↓XX, ↓reduceIte, Nat.reduceBEq, decide_true, decide_false, Bool.not_true, Bool.not_false, List.map_cons, List.map_nil, List.length_map, List.length_cons, List.length_nil, Nat.reduceAdd, Int.cast_ofNat_Int, Int.natCast_zero, Int.natCast_one, Bool.false_eq_true, Bool.true_eq_false, decide_eq_true_eq, eq_self, Int.reduceEq, Int.reduceLT, Int.reduceLE, Bool.and_true, Bool.true_and, Bool.and_false, Bool.false_and, Nat.zero_add]; exact ans_fv _ _)
  · rw [if_neg h]
    have h8 : ¬ op = 8 := fun e => h (by simp [e])
    have h9 : ¬ op = 9 := fun e => h (by simp [e])
    have h12 : ¬ op = 12 := fun e => h (by simp [e])
    have h19 : ¬ op = 19 := fun e => h (by simp [e])
    have h30 : ¬ op = 30 := fun e => h (by simp [e])
    by_cases h2 : op = 4 ∨ op = 5
    · rw [if_pos h2]
      rcases h2 with rfl | rfl <;> (simp only [S93_17, S93_18, S93_19, S93_20, S93_21, S93_22, S93, ↓XX, ↓reduceIte, Nat.reduceBEq, decide_true, decide_false, Bool.not_true, Bool.not_false, List.map_cons, List.map_nil, List.length_map, List.length_cons, List.length_nil, Nat.reduceAdd, Int.cast_ofNat_Int, Int.natCast_zero, Int.natCast_one, Bool.false_eq_true, Bool.true_eq_false, decide_eq_true_eq, eq_self, Int.reduceEq, Int.reduceLT, Int.reduceLE, Bool.and_true, Bool.true_and, Bool.and_false, Bool.false_and, Nat.zero_add]; exact ans_fv _ _)
    · rw [if_neg h2]
      have h4 : ¬ op = 4 := fun e => h2 (by simp [e])
      have h5 : ¬ op = 5 := fun e => h2 (by simp [e])
      by_cases h7 : op = 7
      · subst h7; simp only [S93_17, S93_18, S93_19, S93_20, S93_21, S93_22, S93, ↓XX, ↓reduceIte, Nat.reduceBEq, decide_true, decide_false, Bool.not_true, Bool.not_false, List.map_cons, List.map_nil, List.length_map, List.length_cons, List.length_nil, Nat.reduceAdd, Int.cast_ofNat_Int, Int.natCast_zero, Int.natCast_one, Bool.false_eq_true, Bool.true_eq_false, decide_eq_true_eq, eq_self, Int.reduceEq, Int.reduceLT, Int.reduceLE, Bool.and_true, Bool.true_and, Bool.and_false, Bool.false_and, Nat.zero_add]; exact ans_fv _ _
      · by_cases h13 : op = 13
        · subst h13; simp only [S93_17, S93_18, S93_19, S93_20, S93_21, S93_22, S93, ↓XX, ↓reduceIte, Nat.reduceBEq, decide_true, decide_false, Bool.not_true, Bool.not_false, List.map_cons, List.map_nil, List.length_map, List.length_cons, List.length_nil, Nat.reduceAdd, Int.cast_ofNat_Int, Int.natCast_zero, Int.natCast_one, Bool.false_eq_true, Bool.true_eq_false, decide_eq_true_eq, eq_self, Int.reduceEq, Int.reduceLT, Int.reduceLE, Bool.and_true, Bool.true_and, Bool.and_false, Bool.false_and, Nat.zero_add]; exact ans_fv _ _
        · simp only [S93_17, S93_18, S93_19, S93_20, S93_21, S93_22, S93, ↓XX, ↓reduceIte, Nat.reduceBEq, decide_true, decide_false, Bool.not_true, Bool.not_false, List.map_cons, List.map_nil, List.length_map, List.length_cons, List.length_nil, Nat.reduceAdd, Int.cast_ofNat_Int, Int.natCast_zero, Int.natCast_one, Bool.false_eq_true, Bool.true_eq_false, decide_eq_true_eq, eq_self, Int.reduceEq, Int.reduceLT, Int.reduceLE, Bool.and_true, Bool.true_and, Bool.and_false, Bool.false_and, Nat.zero_add, h4, h5, h7, h8, h9, h12, h13, h19, h30]; exact ans_fv _ _
mutual
def Tm.shaped : Tm → Bool
  | .mk op n ks => !(decide (0 ≤ knum op ∧ knum op ≠ ks.length) || decide (op = 1 ∧ n < 0)) && Tm.shapedL ks
def Tm.shapedL : List Tm → Bool
  | [] => true
  | t :: l => t.shaped && Tm.shapedL l
end
set_option maxHeartbeats 1000000 in
theorem shaped_ok : ∀ (n : Nat) (t : Tm), t.wt + 1 < n → t.wt ≤ 1152921504606846976 → Ans (SS dt n 69 [.fv t.enc] ⟨[], []⟩) (.bool t.shaped) := by
  intro n
  induction n with
  | zero => intro t h; omega
  | succ n ih =>
    intro t h hw
    obtain ⟨op, m, ks⟩ := t
    simp only [Tm.wt] at h hw
    rw [c69, enc_mk]
    have hlen := wt_len ks
    have hk := kids_ok (n := n) (by omega) op
    rw [Tm.shaped]
    have wl : ∀ j : Nat, j ≤ ks.length → w64 (j : Int) = j := fun j hj => w64_id (by omega) (by omega)
    -- the loop
    have loop : Ans (loopS n (fun q99 l100 h101 => S69_132 l100 h101 (SS dt n) ⟨[], []⟩ q99) [.fv (.sl (ks.map Tm.enc)), iv ks.length, iv 0] ⟨[(72351744, .row [iv op, iv m, .fv (.sl (ks.map Tm.enc))] false)], []⟩) (.bool (Tm.shapedL ks)) := by
      refine loop_run (Q := fun r => Ans r _) (fun k V H => ∃ pre rest, ks = pre ++ rest ∧ rest.length = k ∧ V = [.fv (.sl (ks.map Tm.enc)), iv ks.length, iv pre.length] ∧ H = ⟨[(72351744, .row [iv op, iv m, .fv (.sl (ks.map Tm.enc))] false)], []⟩ ∧ Tm.shapedL rest = Tm.shapedL ks)
        ?_ n ks.length _ _ (by omega) ⟨[], ks, rfl, rfl, rfl, rfl, rfl⟩
      rintro k V H rec ⟨pre, rest, hk, hl, rfl, rfl, ht⟩ hrec
      have hkl : ks.length = pre.length + rest.length := by rw [hk]; simp
      cases rest with
      | nil =>
        have hno : ¬ ((pre.length : Int) < ks.length) := by rw [hkl]; simp
        rw [← ht]
        simp only [S69_129, S69_130, S69_131, S69_132, S69_133, S69_134, S69_135, S69_136, S69, ↓XX, ↓reduceIte, Nat.reduceBEq, decide_true, decide_false, Bool.not_true, Bool.not_false, List.map_cons, List.map_nil, List.length_map, List.length_cons, List.length_nil, Nat.reduceAdd, Int.cast_ofNat_Int, Int.natCast_zero, Int.natCast_one, Bool.false_eq_true, Bool.true_eq_false, decide_eq_true_eq, eq_self, Int.reduceEq, Int.reduceLT, Int.reduceLE, Bool.and_true, Bool.true_and, Bool.and_false, Bool.false_and, Nat.zero_add, hno, Tm.shapedL]
        exact ans_fv _ _
      | cons t rest =>
        have hi : (pre.length : Int) < ks.length := by rw [hkl]; simp; omega
        have hg := at_pre hk
        have htw := wt_mem (t := t) (l := ks) (by rw [hk]; simp)
        have hs := ih t (by omega) (by omega)
        have hwi : w64 ((pre.length : Int) + 1) = ((pre ++ [t]).length : Int) := (w64_id (by omega) (by omega)).trans (by simp)
        simp only [Tm.shapedL] at ht
        generalize t.shaped = v at hs ht
        obtain ⟨o, p, l⟩ := t
        simp only [List.length_cons] at hl
        rw [enc_mk] at hs
        cases v
        · rw [← ht]
          simp only [S69_129, S69_130, S69_131, S69_132, S69_133, S69_134, S69_135, S69_136, S69, ↓XX, ↓reduceIte, Nat.reduceBEq, decide_true, decide_false, Bool.not_true, Bool.not_false, List.map_cons, List.map_nil, List.length_map, List.length_cons, List.length_nil, Nat.reduceAdd, Int.cast_ofNat_Int, Int.natCast_zero, Int.natCast_one, Bool.false_eq_true, Bool.true_eq_false, decide_eq_true_eq, eq_self, Int.reduceEq, Int.reduceLT, Int.reduceLE, Bool.and_true, Bool.true_and, Bool.and_false, Bool.false_and, Nat.zero_add, hi, ↓ix_f (map_get hg) (agg3l _ _ _), ↓agg3, hwi, ↓iso_1 hs, Bool.false_and]
          exact ans_fv _ _
        · simp only [S69_129, S69_130, S69_131, S69_132, S69_133, S69_134, S69_135, S69_136, S69, ↓XX, ↓reduceIte, Nat.reduceBEq, decide_true, decide_false, Bool.not_true, Bool.not_false, List.map_cons, List.map_nil, List.length_map, List.length_cons, List.length_nil, Nat.reduceAdd, Int.cast_ofNat_Int, Int.natCast_zero, Int.natCast_one, Bool.false_eq_true, Bool.true_eq_false, decide_eq_true_eq, eq_self, Int.reduceEq, Int.reduceLT, Int.reduceLE, Bool.and_true, Bool.true_and, Bool.and_false, Bool.false_and, Nat.zero_add, hi, ↓ix_f (map_get hg) (agg3l _ _ _), ↓agg3, hwi, ↓iso_1 hs, ↓drop_e, XD, heldB, flatD, List.any_cons, List.any_nil, List.all_cons, List.all_nil, List.filter_cons, List.filter_nil, List.contains_cons, List.contains_nil, Bool.or_false, Bool.or_true, Bool.false_or, Bool.true_or, Bool.and_self, Bool.not_eq_true, BEq.rfl, beq_self_eq_true]
          refine hrec rest.length _ _ (by omega) ?_
          exact ⟨pre ++ [.mk o p l], rest, by rw [hk]; simp, rfl, rfl, rfl, by simpa using ht⟩
    by_cases h0 : 0 ≤ knum op
    · by_cases h1 : knum op = ks.length
      · by_cases h2 : op = 1
        · exfalso; subst h2; revert h0; decide
        · have e1 : (!(decide (0 ≤ knum op ∧ knum op ≠ ks.length) || decide (op = 1 ∧ m < 0)) && Tm.shapedL ks) = Tm.shapedL ks := by simp [h1, h2]
          rw [e1]
          have h0' : (0 : Int) ≤ ks.length := by omega
          rw [h1] at hk
          simp only [S69_129, S69_130, S69_131, S69_133, S69_134, S69_135, S69_136, S69, ↓XX, ↓reduceIte, Nat.reduceBEq, decide_true, decide_false, Bool.not_true, Bool.not_false, List.map_cons, List.map_nil, List.length_map, List.length_cons, List.length_nil, Nat.reduceAdd, Int.cast_ofNat_Int, Int.natCast_zero, Int.natCast_one, Bool.false_eq_true, Bool.true_eq_false, decide_eq_true_eq, eq_self, Int.reduceEq, Int.reduceLT, Int.reduceLE, Bool.and_true, Bool.true_and, Bool.and_false, Bool.false_and, Nat.zero_add, ↓iso_1 hk, h0', h2, ↓drop_e, XD, heldB, flatD, List.any_cons, List.any_nil, List.all_cons, List.all_nil, List.filter_cons, List.filter_nil, List.contains_cons, List.contains_nil, Bool.or_false, Bool.or_true, Bool.false_or, Bool.true_or, Bool.and_self, Bool.not_eq_true, BEq.rfl, beq_self_eq_true]
          exact loop
      · have e1 : (!(decide (0 ≤ knum op ∧ knum op ≠ ks.length) || decide (op = 1 ∧ m < 0)) && Tm.shapedL ks) = false := by simp [h0, h1]
        rw [e1]
        simp only [S69_129, S69_130, S69_131, S69_133, S69_134, S69_135, S69_136, S69, ↓XX, ↓reduceIte, Nat.reduceBEq, decide_true, decide_false, Bool.not_true, Bool.not_false, List.map_cons, List.map_nil, List.length_map, List.length_cons, List.length_nil, Nat.reduceAdd, Int.cast_ofNat_Int, Int.natCast_zero, Int.natCast_one, Bool.false_eq_true, Bool.true_eq_false, decide_eq_true_eq, eq_self, Int.reduceEq, Int.reduceLT, Int.reduceLE, Bool.and_true, Bool.true_and, Bool.and_false, Bool.false_and, Nat.zero_add, ↓iso_1 hk, h0, h1]
        exact ans_fv _ _
    · by_cases h2 : op = 1
      · subst h2
        by_cases h3 : m < 0
        · have e1 : (!(decide (0 ≤ knum 1 ∧ knum 1 ≠ ks.length) || decide ((1 : Int) = 1 ∧ m < 0)) && Tm.shapedL ks) = false := by simp [h3]
          rw [e1]
          simp only [S69_129, S69_130, S69_131, S69_133, S69_134, S69_135, S69_136, S69, ↓XX, ↓reduceIte, Nat.reduceBEq, decide_true, decide_false, Bool.not_true, Bool.not_false, List.map_cons, List.map_nil, List.length_map, List.length_cons, List.length_nil, Nat.reduceAdd, Int.cast_ofNat_Int, Int.natCast_zero, Int.natCast_one, Bool.false_eq_true, Bool.true_eq_false, decide_eq_true_eq, eq_self, Int.reduceEq, Int.reduceLT, Int.reduceLE, Bool.and_true, Bool.true_and, Bool.and_false, Bool.false_and, Nat.zero_add, ↓iso_1 hk, h0, h3]
          exact ans_fv _ _
        · have e1 : (!(decide (0 ≤ knum 1 ∧ knum 1 ≠ ks.length) || decide ((1 : Int) = 1 ∧ m < 0)) && Tm.shapedL ks) = Tm.shapedL ks := by simp [h0, h3]
          rw [e1]
          simp only [S69_129, S69_130, S69_131, S69_133, S69_134, S69_135, S69_136, S69, ↓XX, ↓reduceIte, Nat.reduceBEq, decide_true, decide_false, Bool.not_true, Bool.not_false, List.map_cons, List.map_nil, List.length_map, List.length_cons, List.length_nil, Nat.reduceAdd, Int.cast_ofNat_Int, Int.natCast_zero, Int.natCast_one, Bool.false_eq_true, Bool.true_eq_false, decide_eq_true_eq, eq_self, Int.reduceEq, Int.reduceLT, Int.reduceLE, Bool.and_true, Bool.true_and, Bool.and_false, Bool.false_and, Nat.zero_add, ↓iso_1 hk, h0, h3, ↓drop_e, XD, heldB, flatD, List.any_cons, List.any_nil, List.all_cons, List.all_nil, List.filter_cons, List.filter_nil, List.contains_cons, List.contains_nil, Bool.or_false, Bool.or_true, Bool.false_or, Bool.true_or, Bool.and_self, Bool.not_eq_true, BEq.rfl, beq_self_eq_true]
          exact loop
      · have e1 : (!(decide (0 ≤ knum op ∧ knum op ≠ ks.length) || decide (op = 1 ∧ m < 0)) && Tm.shapedL ks) = Tm.shapedL ks := by simp [h0, h2]
        rw [e1]
        simp only [S69_129, S69_130, S69_131, S69_133, S69_134, S69_135, S69_136, S69, ↓XX, ↓reduceIte, Nat.reduceBEq, decide_true, decide_false, Bool.not_true, Bool.not_false, List.map_cons, List.map_nil, List.length_map, List.length_cons, List.length_nil, Nat.reduceAdd, Int.cast_ofNat_Int, Int.natCast_zero, Int.natCast_one, Bool.false_eq_true, Bool.true_eq_false, decide_eq_true_eq, eq_self, Int.reduceEq, Int.reduceLT, Int.reduceLE, Bool.and_true, Bool.true_and, Bool.and_false, Bool.false_and, Nat.zero_add, ↓iso_1 hk, h0, h2, ↓drop_e, XD, heldB, flatD, List.any_cons, List.any_nil, List.all_cons, List.all_nil, List.filter_cons, List.filter_nil, List.contains_cons, List.contains_nil, Bool.or_false, Bool.or_true, Bool.false_or, Bool.true_or, Bool.and_self, Bool.not_eq_true, BEq.rfl, beq_self_eq_true]
        exact loop
end Idl
end Go.Proofs.Ytkfecngimlcfoaa

namespace Go.Proofs.Ytkfecngimlcfoaa
namespace Idl
def normP (f : Nat) (t : Tm) : Option (Tm × Int) :=
  if t.shaped = false then some (.z, 1) else match evP f [] t ⟨100000, 5000000, 0⟩ with
  | none => none
  | some (v, m) => if m.e ≠ 0 then some (.z, m.e) else match bkP f v 0 1 m 0 with
    | none => none
    | some (u, m, _) => if m.e ≠ 0 then some (.z, m.e) else some (u, 0)
noncomputable abbrev Hnm (a b : Blk) (s u r e : Int) : Hp :=
  ⟨[(42991616, a), (42991617, b), (73401345, .row [iv s, iv u, iv r, iv e, .mapr (.own 73402369)] false), (73402369, .map (rulesO 73401345))], []⟩
noncomputable abbrev Hbg (a b : Blk) (es : List (Int × IV)) : Hp :=
  ⟨[(42991616, a), (42991617, b), (73401345, .row [iv 100000, iv 5000000, iv 0, iv 0, .dead] false), (73402369, .map es)], []⟩
noncomputable abbrev fnO (g : FuncId) : IV := .func (.func g) [.ptr (.own 73401345) 0] []
theorem ins_b (a b : Blk) (es : List (Int × IV)) (g : FuncId) (n : Int) (s : Nat) (k : IV → Hp → List Ref → List Ref → Option (IV × Hp)) :
    genS (pcInsert EE 98 (.mapr (.own 73402369)) (iv n) (ruleO 73401345 g)) s (Hbg a b es) k = k .dead (Hbg a b (putMap n (ruleO 73401345 g) es)) [.own 73402369] [.own 73402369] := by
  rw [ins_e _ 0 _ rfl, ownK_eq]
  rw [show lookupOwn 73402369 (Hbg a b es).own = some (.map es) from rfl, Option.bind_some, as_map, putOwnK_eq]
  rfl
theorem bld_b (g : FuncId) (k : IV → Option (IV × Hp)) : bldS [.fv .nilf] [(0, 1, fnO g)] k = k (ruleO 73401345 g) := rfl
theorem begun_69 (a b : Blk) (es : List (Int × IV)) : S70_69 (.ptr (.own 73401345) 0) (Hbg a b es) (.mapr (.own 73402369)) = some (.ptr (.own 73401345) 0, ⟨[(42991616, a), (42991617, b), (73401345, .row [iv 100000, iv 5000000, iv 0, iv 0, .mapr (.own 73402369)] false), (73402369, .map es)], []⟩) := by
  simp only [S70_69, ↓XX, ↓reduceIte, Nat.reduceBEq, decide_true, decide_false, Bool.not_true, Bool.not_false, List.map_cons, List.map_nil, List.length_map, List.length_cons, List.length_nil, Nat.reduceAdd, Int.cast_ofNat_Int, Int.natCast_zero, Int.natCast_one, Bool.false_eq_true, Bool.true_eq_false, decide_eq_true_eq, eq_self, Int.reduceEq, Int.reduceLT, Int.reduceLE, Bool.and_true, Bool.true_and, Bool.and_false, Bool.false_and, Nat.zero_add, ↓on_mapr, ↓of4]
theorem gen_fn (g : FuncId) (s : Nat) (h : Hp) (k : IV → Hp → List Ref → List Ref → Option (IV × Hp)) : genS (Idl.val (mkFunc (.func g) [.ptr (.own 73401345) 0] [])) s h k = k (fnO g) h [] [] := gen_val' _ _ _ _
theorem begun_70 (a b : Blk) (es : List (Int × IV)) : S70_70 (fnO 97) (Hbg a b es) (.mapr (.own 73402369)) (.ptr (.own 73401345) 0) =
    S70_69 (.ptr (.own 73401345) 0) (Hbg a b (putMap 19 (ruleO 73401345 98) (putMap 30 (ruleO 73401345 97) es))) (.mapr (.own 73402369)) := by
  unfold S70_70
  rw [bld_b, ins_b, gen_fn, bld_b, ins_b]
theorem begun_71 (a b : Blk) (es : List (Int × IV)) : S70_71 (Hbg a b es) (.mapr (.own 73402369)) (ruleO 73401345 95) (.ptr (.own 73401345) 0) =
    S70_70 (fnO 97) (Hbg a b (putMap 13 (ruleO 73401345 96) (putMap 9 (ruleO 73401345 95) es))) (.mapr (.own 73402369)) (.ptr (.own 73401345) 0) := by
  unfold S70_71
  rw [ins_b, gen_fn, bld_b, ins_b, gen_fn]
theorem begun_72 (a b : Blk) (es : List (Int × IV)) : S70_72 (Hbg a b es) (.ptr (.own 73401345) 0) (.mapr (.own 73402369)) =
    S70_71 (Hbg a b (putMap 8 (ruleO 73401345 95) es)) (.mapr (.own 73402369)) (ruleO 73401345 95) (.ptr (.own 73401345) 0) := by
  unfold S70_72
  rw [gen_fn, bld_b, ins_b, gen_fn, bld_b]
theorem bld_m (k : IV → Option (IV × Hp)) : bldS [.fv (.int .i64 0), .fv (.int .i64 0), .fv (.int .i64 0), .fv (.int .i64 0), .dead] [(0, 1, .fv (.int .i64 100000)), (1, 1, .fv (.int .i64 5000000))] k = k (.agg [iv 100000, iv 5000000, iv 0, iv 0, .dead]) := by
  simp only [↓XX, ↓reduceIte, Nat.reduceBEq, decide_true, decide_false, Bool.not_true, Bool.not_false, List.map_cons, List.map_nil, List.length_map, List.length_cons, List.length_nil, Nat.reduceAdd, Int.cast_ofNat_Int, Int.natCast_zero, Int.natCast_one, Bool.false_eq_true, Bool.true_eq_false, decide_eq_true_eq, eq_self, Int.reduceEq, Int.reduceLT, Int.reduceLE, Bool.and_true, Bool.true_and, Bool.and_false, Bool.false_and, Nat.zero_add, ↓alv_dead]
theorem begun_e {n : Nat} (hn : 0 < n) (a b : Blk) : SS dt n 70 [] ⟨[(42991616, a), (42991617, b)], []⟩ = some (.ptr (.own 73401345) 0, Hnm a b 100000 5000000 0 0) := by
  obtain ⟨n, rfl⟩ : ∃ k, n = k + 1 := ⟨n - 1, by omega⟩
  rw [c70]
  unfold S70
  rw [bld_m, box_agg']
  have e1 : ∀ k : IV → Hp → List Ref → List Ref → Option (IV × Hp), newS 73401345 (.row [iv 100000, iv 5000000, iv 0, iv 0, .dead] false) (.ptr (.own 73401345) 0) ⟨[(42991616, a), (42991617, b)], []⟩ k =
      k (.ptr (.own 73401345) 0) ⟨[(42991616, a), (42991617, b), (73401345, .row [iv 100000, iv 5000000, iv 0, iv 0, .dead] false)], []⟩ [] [.own 73401345] := by
    intro k
    simp only [↓XX, ↓reduceIte, Nat.reduceBEq, decide_true, decide_false, Bool.not_true, Bool.not_false, List.map_cons, List.map_nil, List.length_map, List.length_cons, List.length_nil, Nat.reduceAdd, Int.cast_ofNat_Int, Int.natCast_zero, Int.natCast_one, Bool.false_eq_true, Bool.true_eq_false, decide_eq_true_eq, eq_self, Int.reduceEq, Int.reduceLT, Int.reduceLE, Bool.and_true, Bool.true_and, Bool.and_false, Bool.false_and, Nat.zero_add]
  rw [e1]
  have e2 : ∀ k : IV → Hp → List Ref → List Ref → Option (IV × Hp), genS (pcMakeMap 73402369) 73402369 ⟨[(42991616, a), (42991617, b), (73401345, .row [iv 100000, iv 5000000, iv 0, iv 0, .dead] false)], []⟩ k =
      k (.mapr (.own 73402369)) (Hbg a b []) [] [.own 73402369] := by
    intro k
    rw [mk_m]
    simp only [↓XX, ↓reduceIte, Nat.reduceBEq, decide_true, decide_false, Bool.not_true, Bool.not_false, List.map_cons, List.map_nil, List.length_map, List.length_cons, List.length_nil, Nat.reduceAdd, Int.cast_ofNat_Int, Int.natCast_zero, Int.natCast_one, Bool.false_eq_true, Bool.true_eq_false, decide_eq_true_eq, eq_self, Int.reduceEq, Int.reduceLT, Int.reduceLE, Bool.and_true, Bool.true_and, Bool.and_false, Bool.false_and, Nat.zero_add]
  rw [e2, gen_fn, bld_b, ins_b, begun_72, begun_71, begun_70, begun_69]
  rfl
section
variable {ih : Handler} {f : FuncId} {w : FV} {a b : Blk} {s u r e s' u' r' e' : Int} (k : IV → Hp → List Ref → List Ref → Option (IV × Hp))
end
set_option maxRecDepth 20000 in
set_option maxHeartbeats 1000000 in
theorem normP_ok {f n : Nat} {t u : Tm} {e : Int} (h : normP f t = some (u, e)) (hn : f + 3 ≤ n) (hw : t.wt + 3 < n) (hw2 : t.wt ≤ 1152921504606846976) : Ans (SS dt n 41 [.fv t.enc] ⟨[], []⟩) (.tuple [u.enc, .int .i64 e]) := by
  obtain ⟨n, rfl⟩ : ∃ k, n = k + 1 := ⟨n - 1, by omega⟩
  rw [c41]
  have hs := shaped_ok n t (by omega) hw2
  unfold normP at h
  obtain ⟨op, m, ks⟩ := t
  rw [enc_mk] at hs ⊢
  by_cases h0 : (Tm.mk op m ks).shaped = false
  · rw [if_pos h0] at h
    simp only [Option.some.injEq, Prod.mk.injEq] at h
    obtain ⟨rfl, rfl⟩ := h
    rw [h0] at hs
    simp only [S41_77, S41_78, S41_79, S41_80, S41_81, S41_82, S41_83, S41_84, S41_85, S41_86, S41, ↓XX, ↓reduceIte, Nat.reduceBEq, decide_true, decide_false, Bool.not_true, Bool.not_false, List.map_cons, List.map_nil, List.length_map, List.length_cons, List.length_nil, Nat.reduceAdd, Int.cast_ofNat_Int, Int.natCast_zero, Int.natCast_one, Bool.false_eq_true, Bool.true_eq_false, decide_eq_true_eq, eq_self, Int.reduceEq, Int.reduceLT, Int.reduceLE, Bool.and_true, Bool.true_and, Bool.and_false, Bool.false_and, Nat.zero_add, ↓iso_1 hs]
    exact ans_t rfl (by simp) _
  · rw [if_neg h0] at h
    have h0 : (Tm.mk op m ks).shaped = true := by simpa using h0
    rw [h0] at hs
    cases hev : evP f [] (.mk op m ks) ⟨100000, 5000000, 0⟩ with
    | none => rw [hev] at h; cases h
    | some q =>
      obtain ⟨v, m1⟩ := q
      rw [hev] at h
      simp only at h
      have hc1 := (mx_ok f).1 _ _ _ _ _ hev 0 n (by omega)
      rw [enc_mk, penv_nil] at hc1
      by_cases h1 : m1.e = 0
      · rw [if_neg (by simpa using h1)] at h
        simp only [h1] at hc1
        cases hbk : bkP f v 0 1 m1 0 with
        | none => rw [hbk] at h; cases h
        | some q =>
          obtain ⟨u1, m2, r2⟩ := q
          rw [hbk] at h
          simp only at h
          have hc2 := bk_ok f _ _ _ _ _ _ _ _ hbk n (by omega)
          obtain ⟨o1, n1, k1⟩ := u1
          rw [enc_mk] at hc2
          simp only [h1] at hc2
          by_cases h2 : m2.e = 0
          · rw [if_neg (by simpa using h2)] at h
            simp only [Option.some.injEq, Prod.mk.injEq] at h
            obtain ⟨rfl, rfl⟩ := h
            rw [enc_mk]
            simp only [S41_77, S41_78, S41_79, S41_80, S41_81, S41_82, S41_83, S41_84, S41_85, S41_86, S41, ↓XX, ↓reduceIte, Nat.reduceBEq, decide_true, decide_false, Bool.not_true, Bool.not_false, List.map_cons, List.map_nil, List.length_map, List.length_cons, List.length_nil, Nat.reduceAdd, Int.cast_ofNat_Int, Int.natCast_zero, Int.natCast_one, Bool.false_eq_true, Bool.true_eq_false, decide_eq_true_eq, eq_self, Int.reduceEq, Int.reduceLT, Int.reduceLE, Bool.and_true, Bool.true_and, Bool.and_false, Bool.false_and, Nat.zero_add, ↓iso_1 hs, ↓inl_e (begun_e (n := n) (by omega) _ _), ↓iso_n3 _ hc1, ↓iso_n4 _ hc2, h1, h2]
            exact ans_fv _ _
          · rw [if_pos h2] at h
            simp only [Option.some.injEq, Prod.mk.injEq] at h
            obtain ⟨rfl, rfl⟩ := h
            simp only [S41_77, S41_78, S41_79, S41_80, S41_81, S41_82, S41_83, S41_84, S41_85, S41_86, S41, ↓XX, ↓reduceIte, Nat.reduceBEq, decide_true, decide_false, Bool.not_true, Bool.not_false, List.map_cons, List.map_nil, List.length_map, List.length_cons, List.length_nil, Nat.reduceAdd, Int.cast_ofNat_Int, Int.natCast_zero, Int.natCast_one, Bool.false_eq_true, Bool.true_eq_false, decide_eq_true_eq, eq_self, Int.reduceEq, Int.reduceLT, Int.reduceLE, Bool.and_true, Bool.true_and, Bool.and_false, Bool.false_and, Nat.zero_add, ↓iso_1 hs, ↓inl_e (begun_e (n := n) (by omega) _ _), ↓iso_n3 _ hc1, ↓iso_n4 _ hc2, h1, h2]
            exact ans_t rfl (by simp) _
      · rw [if_pos h1] at h
        simp only [Option.some.injEq, Prod.mk.injEq] at h
        obtain ⟨rfl, rfl⟩ := h
        simp only [S41_77, S41_78, S41_79, S41_80, S41_81, S41_82, S41_83, S41_84, S41_85, S41_86, S41, ↓XX, ↓reduceIte, Nat.reduceBEq, decide_true, decide_false, Bool.not_true, Bool.not_false, List.map_cons, List.map_nil, List.length_map, List.length_cons, List.length_nil, Nat.reduceAdd, Int.cast_ofNat_Int, Int.natCast_zero, Int.natCast_one, Bool.false_eq_true, Bool.true_eq_false, decide_eq_true_eq, eq_self, Int.reduceEq, Int.reduceLT, Int.reduceLE, Bool.and_true, Bool.true_and, Bool.and_false, Bool.false_and, Nat.zero_add, ↓iso_1 hs, ↓inl_e (begun_e (n := n) (by omega) _ _), ↓iso_n3 _ hc1, h1]
        exact ans_t rfl (by simp) _
end Idl
end Go.Proofs.Ytkfecngimlcfoaa

namespace Go.Proofs.Ytkfecngimlcfoaa
namespace Idl
theorem ob1 (a : FV) : okB 1 [.row [.fv a] false] = true := okB_one [a]
theorem onex1 (a a' : FV) : OneX [.row [.fv a] false] [.row [.fv a'] false] := ⟨gb1 .., rfl, rfl, ob1 ..⟩
theorem iso_oo {ks : List Bool} (hks : ∀ b ∈ ks, b = false) {ih : Handler} {f : FuncId} {a0 : IV} {x0 : FV} {args : List IV} {vs : List FV} {w : FV} {s : Nat} {st st' : List FV} {own : List (Nat × Blk)} (h0 : frzP a0 = some x0) (hz : frzPL args = some vs) (hl : lookupOwn s own = some (.row (st.map .fv) false))
    (hr : AnsX (ih f (.fv x0 :: .ptr (.ext 0) 0 :: vs.map .fv) ⟨[], [.row (st.map .fv) false]⟩) w [.row (st'.map .fv) false]) (k : IV → Hp → List Ref → List Ref → Option (IV × Hp)) :
    isoS (false :: true :: ks) false false ih f (a0 :: .ptr (.own s) 0 :: args) ⟨own, []⟩ k = k (.fv w) ⟨putOwn s (.row (st'.map .fv) false) own, []⟩ [.own s] [.own s] := by
  obtain ⟨v, own', e1, hfz⟩ := hr
  obtain ⟨u, hu⟩ := ansx_frz hfz
  have hD : isoD (false :: true :: ks) false false ih f (a0 :: .ptr (.own s) 0 :: args) ⟨own, []⟩ k = k (.fv w) ⟨putOwn s (.row (st'.map .fv) false) own, []⟩ [.own s] [.own s] := by
    have h1 : frzArgs (false :: true :: ks) (a0 :: .ptr (.own s) 0 :: args) = .ret (.fv x0 :: .ptr (.own s) 0 :: vs.map .fv, [.own s], []) := by
      simp only [frzArgs, frp 4096 (by omega) h0, frz_argsk args ks hks hz, Rd.bind, IV.refs]
      rfl
    have h2 : (gather 4096 [.own s] []).runLog ⟨own, []⟩ [] = some ([(.own s, .row (st.map .fv) false)], [.own s]) := by
      show (gather (4094 + 1 + 1) [.own s] []).runLog ⟨own, []⟩ [] = _
      simp only [gather, hasRef, Bool.false_eq_true, if_false, Rd.runLog, Hp.get, hl, Blk.refs, refsL_fv, List.append_nil, List.nil_append]
    have h3 : IV.ren.renL (into [(.own s, .row (st.map .fv) false)]) (.fv x0 :: .ptr (.own s) 0 :: vs.map .fv) = some (.fv x0 :: .ptr (.ext 0) 0 :: vs.map .fv) := by
      simp only [IV.ren.renL, IV.ren, into, placeOf, if_true, Option.map_some, Option.bind_some, renL_fv]
    have h4 : renBlks (into [(.own s, .row (st.map .fv) false)]) [.row (st.map .fv) false] = some [.row (st.map .fv) false] := by
      simp only [renBlks, Blk.ren, renL_fv, Option.map_some, Option.bind_some]
    have h5 : renBlks (back [(.own s, .row (st.map .fv) false)]) [.row (st'.map .fv) false] = some [.row (st'.map .fv) false] := by
      simp only [renBlks, Blk.ren, renL_fv, Option.map_some, Option.bind_some]
    unfold isoD
    simp only [h1, Rd.runLog, h2, h3, List.map_cons, List.map_nil, h4, fL_eq (fV_eq 3), fL_eq fBk_eq, askedD, Bool.false_eq_true, if_false, e1, hu, Option.map_some, IV.ren, h5, List.length_cons, List.length_nil, keys, List.all_nil, and_self, if_true, List.nil_append, List.zip_cons_cons, List.zip_nil_left]
    have h6 : laid ⟨own, []⟩ [(.own s, .row (st'.map .fv) false)] = some ⟨putOwn s (.row (st'.map .fv) false) own, []⟩ := by
      simp only [laid, Hp.get, hl, Hp.set]
    simp only [h6, fH_eq, fV_eq]
  rw [iso_e, fz1f, fzp_u _ _ _ _ h0, fz1k, as_p, fza_k 0 args _ _ _ _ ks hks hz]
  simp only [isoC, goB_own, cond_false]
  exact hD
theorem iso_oo3 {ih : Handler} {f : FuncId} {x y : IV} {vx vy w : FV} {s : Nat} {a a' : FV} {own own' : List (Nat × Blk)} (hr : AnsX (ih f [.fv vx, .ptr (.ext 0) 0, .fv vy] ⟨[], [.row [.fv a] false]⟩) w [.row [.fv a'] false])
    (hx : frzP x = some vx) (hy : frzP y = some vy) (hl : lookupOwn s own = some (.row [.fv a] false)) (ho : putOwn s (.row [.fv a'] false) own = own') (k : IV → Hp → List Ref → List Ref → Option (IV × Hp)) :
    isoS [false, true, false] false false ih f [x, .ptr (.own s) 0, y] ⟨own, []⟩ k = k (.fv w) ⟨own', []⟩ [.own s] [.own s] := by
  subst ho
  exact iso_oo (ks := [false]) (by simp) (st := [a]) (st' := [a']) hx (zl_1 hy) hl hr k
end Idl
end Go.Proofs.Ytkfecngimlcfoaa

namespace Go.Proofs.Ytkfecngimlcfoaa
namespace Idl
def kidsN (op : Int) : Int := if op < 0 then -1 else ([-1, 0, 0, 2, 2, 2, 2, 3, 1, 1, 0, 0, 1, 4, 0, 0, 2, 2, 1, 1, 2, 2, 2, 1, 1, 0, 2, 3, 2, 2, 1] : List Int).getD op.toNat (-1)
theorem op_cases (op : Int) : (0 ≤ op ∧ op ≤ 30) ∨ op < 0 ∨ 30 < op := by omega
theorem kidsN_out {op : Int} (h : op < 0 ∨ 30 < op) : kidsN op = -1 := by
  unfold kidsN
  split
  · rfl
  · rw [List.getD_eq_getElem?_getD, List.getElem?_eq_none (by simp; omega)]; rfl
theorem op_in {P : Int → Prop} (h : ∀ k : Nat, k < 31 → P k) {op : Int} (h1 : 0 ≤ op ∧ op ≤ 30) : P op := by
  have := h op.toNat (by omega)
  rwa [Int.toNat_of_nonneg h1.1] at this
def numb (op n : Int) : Bool := if op = 1 then decide (0 ≤ n) && decide (n ≤ 3000) else if op = 2 then decide (0 ≤ n) && decide (n ≤ 2) else if op = 26 then decide (0 ≤ n) && decide (n ≤ 4) else if op = 25 then true else decide (n = 0)
theorem pnumber_ok {n : Nat} (hn : 0 < n) (op m : Int) : Ans (SS dt n 92 [iv op, iv m] ⟨[], []⟩) (.bool (numb op m)) := by
  obtain ⟨n, rfl⟩ : ∃ k, n = k + 1 := ⟨n - 1, by omega⟩
  rw [c92]
  unfold numb
  by_cases h1 : op = 1
  · by_cases h0 : 0 ≤ m <;> simp only [S92_47, S92_48, S92_49, S92_50, S92_51, S92, ↓XX, ↓reduceIte, Nat.reduceBEq, decide_true, decide_false, Bool.not_true, Bool.not_false, List.map_cons, List.map_nil, List.length_map, List.length_cons, List.length_nil, Nat.reduceAdd, Int.cast_ofNat_Int, Int.natCast_zero, Int.natCast_one, Bool.false_eq_true, Bool.true_eq_false, decide_eq_true_eq, eq_self, Int.reduceEq, Int.reduceLT, Int.reduceLE, Bool.and_true, Bool.true_and, Bool.and_false, Bool.false_and, Nat.zero_add, h0, h1] <;> exact ans_fv _ _
  by_cases h2 : op = 2
  · by_cases h0 : 0 ≤ m <;> simp only [S92_47, S92_48, S92_49, S92_50, S92_51, S92, ↓XX, ↓reduceIte, Nat.reduceBEq, decide_true, decide_false, Bool.not_true, Bool.not_false, List.map_cons, List.map_nil, List.length_map, List.length_cons, List.length_nil, Nat.reduceAdd, Int.cast_ofNat_Int, Int.natCast_zero, Int.natCast_one, Bool.false_eq_true, Bool.true_eq_false, decide_eq_true_eq, eq_self, Int.reduceEq, Int.reduceLT, Int.reduceLE, Bool.and_true, Bool.true_and, Bool.and_false, Bool.false_and, Nat.zero_add, h0, h2] <;> exact ans_fv _ _
  by_cases h3 : op = 26
  · by_cases h0 : 0 ≤ m <;> simp only [S92_47, S92_48, S92_49, S92_50, S92_51, S92, ↓XX, ↓reduceIte, Nat.reduceBEq, decide_true, decide_false, Bool.not_true, Bool.not_false, List.map_cons, List.map_nil, List.length_map, List.length_cons, List.length_nil, Nat.reduceAdd, Int.cast_ofNat_Int, Int.natCast_zero, Int.natCast_one, Bool.false_eq_true, Bool.true_eq_false, decide_eq_true_eq, eq_self, Int.reduceEq, Int.reduceLT, Int.reduceLE, Bool.and_true, Bool.true_and, Bool.and_false, Bool.false_and, Nat.zero_add, h0, h3] <;> exact ans_fv _ _
  by_cases h4 : op = 25
  · simp only [S92_47, S92_48, S92_49, S92_50, S92_51, S92, ↓XX, ↓reduceIte, Nat.reduceBEq, decide_true, decide_false, Bool.not_true, Bool.not_false, List.map_cons, List.map_nil, List.length_map, List.length_cons, List.length_nil, Nat.reduceAdd, Int.cast_ofNat_Int, Int.natCast_zero, Int.natCast_one, Bool.false_eq_true, Bool.true_eq_false, decide_eq_true_eq, eq_self, Int.reduceEq, Int.reduceLT, Int.reduceLE, Bool.and_true, Bool.true_and, Bool.and_false, Bool.false_and, Nat.zero_add, h4]; exact ans_fv _ _
  simp only [S92_47, S92_48, S92_49, S92_50, S92_51, S92, ↓XX, ↓reduceIte, Nat.reduceBEq, decide_true, decide_false, Bool.not_true, Bool.not_false, List.map_cons, List.map_nil, List.length_map, List.length_cons, List.length_nil, Nat.reduceAdd, Int.cast_ofNat_Int, Int.natCast_zero, Int.natCast_one, Bool.false_eq_true, Bool.true_eq_false, decide_eq_true_eq, eq_self, Int.reduceEq, Int.reduceLT, Int.reduceLE, Bool.and_true, Bool.true_and, Bool.and_false, Bool.false_and, Nat.zero_add, h1, h2, h3, h4]; exact ans_fv _ _
end Idl
end Go.Proofs.Ytkfecngimlcfoaa

namespace Go.Proofs.Ytkfecngimlcfoaa
namespace Idl
mutual
def Tm.chk : Tm → Int → Int → Int × Int
  | .mk op m l, n, d => if 3000 < n + 1 ∨ 120 < d then (n + 1, 5) else if kidsN op ≠ (l.length : Int) ∨ numb op m = false then (n + 1, 1) else Tm.chkL l (n + 1) (d + 1)
def Tm.chkL : List Tm → Int → Int → Int × Int
  | [], n, _ => (n, 0)
  | t :: l, n, d => if (t.chk n d).2 = 0 then Tm.chkL l (t.chk n d).1 d else t.chk n d
end
mutual
theorem chk_b : ∀ (t : Tm) (n d : Int), n ≤ 3000 → n ≤ (t.chk n d).1 ∧ (t.chk n d).1 ≤ 3001 ∧ ((t.chk n d).2 = 0 → (t.chk n d).1 = n + t.wt ∧ (t.chk n d).1 ≤ 3000 ∧ d ≤ 120)
  | .mk op m l, n, d, hn => by
    rw [Tm.chk]
    split
    · simp; omega
    · split
      · simp; omega
      · have := chkL_b l (n + 1) (d + 1) (by omega)
        simp only [Tm.wt]
        omega
theorem chkL_b : ∀ (l : List Tm) (n d : Int), n ≤ 3000 → n ≤ (Tm.chkL l n d).1 ∧ (Tm.chkL l n d).1 ≤ 3001 ∧ ((Tm.chkL l n d).2 = 0 → (Tm.chkL l n d).1 = n + Tm.wtL l ∧ (Tm.chkL l n d).1 ≤ 3000)
  | [], n, d, hn => by simp [Tm.chkL, Tm.wtL]; omega
  | t :: l, n, d, hn => by
    have h1 := chk_b t n d hn
    rw [Tm.chkL]
    split
    · rename_i h0
      have h2 := chkL_b l (t.chk n d).1 d (by omega)
      simp only [Tm.wtL]
      omega
    · rename_i h0
      simp only [Tm.wtL]
      omega
end
theorem kidsN_le (op : Int) : kidsN op ≤ 4 := by
  rcases op_cases op with h | h
  · exact op_in (P := fun op => kidsN op ≤ 4) (by intro k hk; have : ∀ k : Fin 31, kidsN (k.val : Int) ≤ 4 := by decide
                                                  exact this ⟨k, hk⟩) h
  · rw [kidsN_out h]; omega
theorem kids_out {n : Nat} {op : Int} (h : op < 0 ∨ 30 < op) : Ans (SS dt (n + 1) 91 [iv op] ⟨[], []⟩) (.int .i64 (-1)) := by
  rw [c91]
  by_cases h1 : op < 0
  · simp only [S91_29, S91, ↓XX, ↓reduceIte, Nat.reduceBEq, decide_true, decide_false, Bool.not_true, Bool.not_false, List.map_cons, List.map_nil, List.length_map, List.length_cons, List.length_nil, Nat.reduceAdd, Int.cast_ofNat_Int, Int.natCast_zero, Int.natCast_one, Bool.false_eq_true, Bool.true_eq_false, decide_eq_true_eq, eq_self, Int.reduceEq, Int.reduceLT, Int.reduceLE, Bool.and_true, Bool.true_and, Bool.and_false, Bool.false_and, Nat.zero_add, ↓kids_bld, h1]; exact ans_fv _ _
  · have h2 : 31 ≤ op := by omega
    simp only [S91_29, S91, ↓XX, ↓reduceIte, Nat.reduceBEq, decide_true, decide_false, Bool.not_true, Bool.not_false, List.map_cons, List.map_nil, List.length_map, List.length_cons, List.length_nil, Nat.reduceAdd, Int.cast_ofNat_Int, Int.natCast_zero, Int.natCast_one, Bool.false_eq_true, Bool.true_eq_false, decide_eq_true_eq, eq_self, Int.reduceEq, Int.reduceLT, Int.reduceLE, Bool.and_true, Bool.true_and, Bool.and_false, Bool.false_and, Nat.zero_add, ↓kids_bld, h1, h2]; exact ans_fv _ _
def isKids (k : Int) (o : Option (IV × Hp)) : Bool := match o with
  | some (.fv (.int .i64 m), ⟨_, []⟩) => decide (m = k)
  | _ => false
theorem ans_kids {k : Int} {o : Option (IV × Hp)} (h : isKids k o = true) : Ans o (.int .i64 k) := by
  unfold isKids at h
  split at h
  · have := of_decide_eq_true h
    subst this
    exact ans_fv _ _
  · cases h
theorem pkids_ok {n : Nat} (hn : 0 < n) (op : Int) : Ans (SS dt n 91 [iv op] ⟨[], []⟩) (.int .i64 (kidsN op)) := by
  obtain ⟨n, rfl⟩ : ∃ k, n = k + 1 := ⟨n - 1, by omega⟩
  rcases op_cases op with h | h
  · revert op
    refine fun op h => op_in (P := fun op => Ans (SS dt (n + 1) 91 [iv op] ⟨[], []⟩) (.int .i64 (kidsN op))) ?_ h
    intro k hk
    iterate 31 (rcases k with _ | k; · exact ans_kids (by kernel_rfl))
    omega
  · rw [kidsN_out h]
    exact kids_out h
noncomputable abbrev HC (op m : Int) (ks : List Tm) (N : Int) : Hp := ⟨[(71303168, .row [iv op, iv m, .fv (.sl (ks.map Tm.enc))] false)], [.row [iv N] false]⟩
theorem pcheck_ok : ∀ (n : Nat) (t : Tm) (N d : Int), 2 * t.wt + 2 < n → 0 ≤ N → N ≤ 3000 → 0 ≤ d → d ≤ 121 →
    AnsX (SS dt n 68 [.fv t.enc, .ptr (.ext 0) 0, iv d] ⟨[], [.row [iv N] false]⟩) (.int .i64 (t.chk N d).2) [.row [iv (t.chk N d).1] false] := by
  intro n
  induction n using Nat.strongRecOn with
  | ind n ih =>
    intro t N d hn h0 hN hd0 hd
    obtain ⟨op, m, ks⟩ := t
    simp only [Tm.wt] at hn
    obtain ⟨n, rfl⟩ : ∃ k, n = k + 1 := ⟨n - 1, by omega⟩
    rw [c68, enc_mk]
    have hlen := wt_len ks
    have hw : w64 (N + 1) = N + 1 := by rw [w64_id] <;> omega
    have hwd : w64 (d + 1) = d + 1 := by rw [w64_id] <;> omega
    have ha := pkids_ok (n := n) (by omega) op
    have hb := pnumber_ok (n := n) (by omega) op m
    rw [Tm.chk]
    by_cases c1 : 3000 < N + 1
    · rw [if_pos (.inl c1)]
      simp only [S68_121, S68_122, S68_123, S68_124, S68_125, S68_126, S68_127, S68_128, S68_129, S68_130, S68_131, S68, ↓XX, ↓reduceIte, Nat.reduceBEq, decide_true, decide_false, Bool.not_true, Bool.not_false, List.map_cons, List.map_nil, List.length_map, List.length_cons, List.length_nil, Nat.reduceAdd, Int.cast_ofNat_Int, Int.natCast_zero, Int.natCast_one, Bool.false_eq_true, Bool.true_eq_false, decide_eq_true_eq, eq_self, Int.reduceEq, Int.reduceLT, Int.reduceLE, Bool.and_true, Bool.true_and, Bool.and_false, Bool.false_and, Nat.zero_add, hw, c1]
      exact ansx_fv _ _ _
    by_cases c2 : 120 < d
    · rw [if_pos (.inr c2)]
      simp only [S68_121, S68_122, S68_123, S68_124, S68_125, S68_126, S68_127, S68_128, S68_129, S68_130, S68_131, S68, ↓XX, ↓reduceIte, Nat.reduceBEq, decide_true, decide_false, Bool.not_true, Bool.not_false, List.map_cons, List.map_nil, List.length_map, List.length_cons, List.length_nil, Nat.reduceAdd, Int.cast_ofNat_Int, Int.natCast_zero, Int.natCast_one, Bool.false_eq_true, Bool.true_eq_false, decide_eq_true_eq, eq_self, Int.reduceEq, Int.reduceLT, Int.reduceLE, Bool.and_true, Bool.true_and, Bool.and_false, Bool.false_and, Nat.zero_add, hw, c1, c2]
      exact ansx_fv _ _ _
    rw [if_neg (by omega)]
    by_cases c3 : kidsN op = (ks.length : Int)
    · cases hnb : numb op m
      · rw [hnb] at hb
        rw [if_pos (.inr rfl)]
        simp only [S68_121, S68_122, S68_123, S68_124, S68_125, S68_126, S68_127, S68_128, S68_129, S68_130, S68_131, S68, ↓XX, ↓reduceIte, Nat.reduceBEq, decide_true, decide_false, Bool.not_true, Bool.not_false, List.map_cons, List.map_nil, List.length_map, List.length_cons, List.length_nil, Nat.reduceAdd, Int.cast_ofNat_Int, Int.natCast_zero, Int.natCast_one, Bool.false_eq_true, Bool.true_eq_false, decide_eq_true_eq, eq_self, Int.reduceEq, Int.reduceLT, Int.reduceLE, Bool.and_true, Bool.true_and, Bool.and_false, Bool.false_and, Nat.zero_add, hw, c1, c2, ↓iso_1 ha, c3, ↓iso_2 hb]
        exact ansx_fv _ _ _
      · rw [hnb] at hb
        have hk4 := kidsN_le op
        rw [if_neg (by simp [c3])]
        simp only [S68_121, S68_122, S68_123, S68_125, S68_126, S68_127, S68_128, S68_129, S68_130, S68_131, S68, ↓XX, ↓reduceIte, Nat.reduceBEq, decide_true, decide_false, Bool.not_true, Bool.not_false, List.map_cons, List.map_nil, List.length_map, List.length_cons, List.length_nil, Nat.reduceAdd, Int.cast_ofNat_Int, Int.natCast_zero, Int.natCast_one, Bool.false_eq_true, Bool.true_eq_false, decide_eq_true_eq, eq_self, Int.reduceEq, Int.reduceLT, Int.reduceLE, Bool.and_true, Bool.true_and, Bool.and_false, Bool.false_and, Nat.zero_add, hw, c1, c2, ↓iso_1 ha, c3, ↓iso_2 hb, ↓drop_r1, ↓drop_e, XD, heldB, flatD, List.any_cons, List.any_nil, List.all_cons, List.all_nil, List.filter_cons, List.filter_nil, List.contains_cons, List.contains_nil, Bool.or_false, Bool.or_true, Bool.false_or, Bool.true_or, Bool.and_self, Bool.not_eq_true, BEq.rfl, beq_self_eq_true]
        refine loop_run (Q := fun r' => AnsX r' _ _) (fun k V H => ∃ pre rest N2, ks = pre ++ rest ∧ rest.length = k ∧ V = [.ptr (.ext 0) 0, iv d, .fv (.sl (ks.map Tm.enc)), iv ks.length, iv pre.length] ∧ H = HC op m ks N2 ∧
          0 ≤ N2 ∧ N2 ≤ 3000 ∧ Tm.chkL rest N2 (d + 1) = Tm.chkL ks (N + 1) (d + 1)) ?_ n ks.length _ _ (by omega) ⟨[], ks, N + 1, rfl, rfl, rfl, rfl, by omega, by omega, rfl⟩
        rintro k V H rec ⟨pre, rest, N2, hk, hkl, rfl, rfl, hN2, hN3, hr⟩ hrec
        have hkk : ks.length = pre.length + rest.length := by rw [hk]; simp
        cases rest with
        | nil =>
          have hno : ¬ ((pre.length : Int) < ks.length) := by rw [hkk]; simp
          rw [← hr]
          simp only [S68_121, S68_122, S68_123, S68_124, S68_125, S68_126, S68_127, S68_128, S68_129, S68_130, S68_131, S68, ↓XX, ↓reduceIte, Nat.reduceBEq, decide_true, decide_false, Bool.not_true, Bool.not_false, List.map_cons, List.map_nil, List.length_map, List.length_cons, List.length_nil, Nat.reduceAdd, Int.cast_ofNat_Int, Int.natCast_zero, Int.natCast_one, Bool.false_eq_true, Bool.true_eq_false, decide_eq_true_eq, eq_self, Int.reduceEq, Int.reduceLT, Int.reduceLE, Bool.and_true, Bool.true_and, Bool.and_false, Bool.false_and, Nat.zero_add, hno, Tm.chkL]
          exact ansx_fv _ _ _
        | cons t rest =>
          have hi : (pre.length : Int) < ks.length := by rw [hkk]; simp; omega
          have hg := at_pre hk
          have htw := wt_mem (t := t) (l := ks) (by rw [hk]; simp)
          have hc := ih n (by omega) t N2 (d + 1) (by omega) hN2 hN3 (by omega) (by omega)
          have hcb := chk_b t N2 (d + 1) hN3
          have hwi : w64 ((pre.length : Int) + 1) = ((pre ++ [t]).length : Int) := (w64_id (by omega) (by omega)).trans (by simp)
          rw [Tm.chkL] at hr
          rw [← hr]
          have h9 := fun e => hrec rest.length [.ptr (.ext 0) 0, iv d, .fv (.sl (ks.map Tm.enc)), iv ks.length, iv (pre ++ [t]).length] (HC op m ks (t.chk N2 (d + 1)).1) (by simp only [List.length_cons] at hkl; omega)
            ⟨pre ++ [t], rest, _, by rw [hk]; simp, rfl, rfl, rfl, by omega, (hcb.2.2 e).2.1, by rw [← hr, if_pos e]⟩
          rw [← hr] at h9
          generalize t.chk N2 (d + 1) = q at hc h9 ⊢
          obtain ⟨q1, q2⟩ := q
          simp only at hc h9 ⊢
          obtain ⟨o, p, l⟩ := t
          rw [enc_mk] at hc
          by_cases he : q2 = 0
          · subst he
            simp only [if_true] at h9 ⊢
            simp only [S68_121, S68_122, S68_123, S68_124, S68_125, S68_126, S68_127, S68_128, S68_129, S68_130, S68_131, S68, ↓XX, ↓reduceIte, Nat.reduceBEq, decide_true, decide_false, Bool.not_true, Bool.not_false, List.map_cons, List.map_nil, List.length_map, List.length_cons, List.length_nil, Nat.reduceAdd, Int.cast_ofNat_Int, Int.natCast_zero, Int.natCast_one, Bool.false_eq_true, Bool.true_eq_false, decide_eq_true_eq, eq_self, Int.reduceEq, Int.reduceLT, Int.reduceLE, Bool.and_true, Bool.true_and, Bool.and_false, Bool.false_and, Nat.zero_add, hi, ↓ix_f (map_get hg) (agg3l _ _ _), ↓agg3, hwd, ↓iso_mm3 hc (onex1 _ _), hwi, ↓drop_r1, ↓drop_e, XD, heldB, flatD, List.any_cons, List.any_nil, List.all_cons, List.all_nil, List.filter_cons, List.filter_nil, List.contains_cons, List.contains_nil, Bool.or_false, Bool.or_true, Bool.false_or, Bool.true_or, Bool.and_self, Bool.not_eq_true, BEq.rfl, beq_self_eq_true]
            exact h9 trivial
          · rw [if_neg he]
            simp only [S68_121, S68_122, S68_123, S68_124, S68_125, S68_126, S68_127, S68_128, S68_129, S68_130, S68_131, S68, ↓XX, ↓reduceIte, Nat.reduceBEq, decide_true, decide_false, Bool.not_true, Bool.not_false, List.map_cons, List.map_nil, List.length_map, List.length_cons, List.length_nil, Nat.reduceAdd, Int.cast_ofNat_Int, Int.natCast_zero, Int.natCast_one, Bool.false_eq_true, Bool.true_eq_false, decide_eq_true_eq, eq_self, Int.reduceEq, Int.reduceLT, Int.reduceLE, Bool.and_true, Bool.true_and, Bool.and_false, Bool.false_and, Nat.zero_add, hi, ↓ix_f (map_get hg) (agg3l _ _ _), ↓agg3, hwd, ↓iso_mm3 hc (onex1 _ _), he]
            exact ansx_fv _ _ _
    · rw [if_pos (.inl c3)]
      simp only [S68_121, S68_122, S68_123, S68_124, S68_125, S68_126, S68_127, S68_128, S68_129, S68_130, S68_131, S68, ↓XX, ↓reduceIte, Nat.reduceBEq, decide_true, decide_false, Bool.not_true, Bool.not_false, List.map_cons, List.map_nil, List.length_map, List.length_cons, List.length_nil, Nat.reduceAdd, Int.cast_ofNat_Int, Int.natCast_zero, Int.natCast_one, Bool.false_eq_true, Bool.true_eq_false, decide_eq_true_eq, eq_self, Int.reduceEq, Int.reduceLT, Int.reduceLE, Bool.and_true, Bool.true_and, Bool.and_false, Bool.false_and, Nat.zero_add, hw, c1, c2, ↓iso_1 ha, c3]
      exact ansx_fv _ _ _
theorem pCheck_ok {n : Nat} (t : Tm) (hn : 2 * t.wt + 3 < n) : Ans (SS dt n 40 [.fv t.enc] ⟨[], []⟩) (.int .i64 (t.chk 0 1).2) := by
  obtain ⟨n, rfl⟩ : ∃ k, n = k + 1 := ⟨n - 1, by omega⟩
  rw [c40]
  have h := pcheck_ok n t 0 1 (by omega) (by omega) (by omega) (by omega) (by omega)
  generalize t.chk 0 1 = q at h
  obtain ⟨op, m, ks⟩ := t
  rw [enc_mk] at h ⊢
  have c2 := fun k => iso_oo3 (k := k) h (x := .fv (.agg [.int .i64 op, .int .i64 m, .sl (ks.map Tm.enc)])) (y := iv 1) (s := 41944065) rfl rfl
    (own := [(41943040, .row [iv op, iv m, .fv (.sl (ks.map Tm.enc))] false), (41944065, .row [iv 0] false)])
    (own' := [(41943040, .row [iv op, iv m, .fv (.sl (ks.map Tm.enc))] false), (41944065, .row [iv q.1] false)]) (by simp [lookupOwn]) (by simp [putOwn])
  simp only [S40, ↓XX, ↓reduceIte, Nat.reduceBEq, decide_true, decide_false, Bool.not_true, Bool.not_false, List.map_cons, List.map_nil, List.length_map, List.length_cons, List.length_nil, Nat.reduceAdd, Int.cast_ofNat_Int, Int.natCast_zero, Int.natCast_one, Bool.false_eq_true, Bool.true_eq_false, decide_eq_true_eq, eq_self, Int.reduceEq, Int.reduceLT, Int.reduceLE, Bool.and_true, Bool.true_and, Bool.and_false, Bool.false_and, Nat.zero_add, ↓c2]
  exact ans_fv _ _
end Idl
end Go.Proofs.Ytkfecngimlcfoaa

namespace Go.Proofs.Ytkfecngimlcfoaa
namespace Idl
theorem stage_ok {f n : Nat} {t u : Tm} (hc : (t.chk 0 1).2 = 0) (h : normP f t = some (u, 0)) (hp : u.plainP = true) (hn : f + 4 ≤ n) (h2 : 2 * t.wt + 4 < n) (h3 : 4 * u.wt + 6 < n) (h4 : u.wt ≤ 900000) :
    Ans (SS dt n 16 [.fv t.enc] ⟨[], []⟩) (.tuple [u.enc, .int .i64 0]) := by
  obtain ⟨n, rfl⟩ : ∃ k, n = k + 1 := ⟨n - 1, by omega⟩
  rw [c16]
  have h1 := pCheck_ok (n := n) t (by omega)
  have hw := chk_b t 0 1 (by omega)
  have hN := normP_ok (n := n) h (by omega) (by omega) (by have := hw.2.2 hc; omega)
  have hP := pPlain_ok (n := n) u (by omega) h4
  rw [hc] at h1
  rw [hp] at hP
  obtain ⟨o1, n1, k1⟩ := t
  obtain ⟨o2, n2, k2⟩ := u
  simp only [enc_mk] at h1 hN hP ⊢
  simp only [S16_61, S16_62, S16_63, S16_64, S16_65, S16_66, S16_67, S16, ↓XX, ↓reduceIte, Nat.reduceBEq, decide_true, decide_false, Bool.not_true, Bool.not_false, List.map_cons, List.map_nil, List.length_map, List.length_cons, List.length_nil, Nat.reduceAdd, Int.cast_ofNat_Int, Int.natCast_zero, Int.natCast_one, Bool.false_eq_true, Bool.true_eq_false, decide_eq_true_eq, eq_self, Int.reduceEq, Int.reduceLT, Int.reduceLE, Bool.and_true, Bool.true_and, Bool.and_false, Bool.false_and, Nat.zero_add, ↓iso_1 h1, ↓iso_1 hN, ↓iso_1 hP]; first | exact ans_fv _ _ | exact ans_t rfl (by simp) _
end Idl
end Go.Proofs.Ytkfecngimlcfoaa

namespace Go.Proofs.Ytkfecngimlcfoaa
namespace Idl
end Idl
end Go.Proofs.Ytkfecngimlcfoaa

namespace Go.Proofs.Ytkfecngimlcfoaa
namespace Idl
def tI : Tm := .mk 15 0 []
end Idl
end Go.Proofs.Ytkfecngimlcfoaa

namespace Go.Proofs.Ytkfecngimlcfoaa
namespace Idl
theorem num_ok {n : Nat} (k : Nat) (hn : k + 3 < n) (hk : k ≤ 1000000) : Ans (SS dt n 27 [iv k] ⟨[], []⟩) (tnum k).enc := by
  obtain ⟨n, rfl⟩ : ∃ j, n = j + 1 := ⟨n - 1, by omega⟩
  rw [c27]
  have h0 := t0_ok (n := n) (by omega) 11
  rw [enc_mk] at h0
  simp only [S27_49, S27_50, S27_51, S27, ↓XX, ↓reduceIte, Nat.reduceBEq, decide_true, decide_false, Bool.not_true, Bool.not_false, List.map_cons, List.map_nil, List.length_map, List.length_cons, List.length_nil, Nat.reduceAdd, Int.cast_ofNat_Int, Int.natCast_zero, Int.natCast_one, Bool.false_eq_true, Bool.true_eq_false, decide_eq_true_eq, eq_self, Int.reduceEq, Int.reduceLT, Int.reduceLE, Bool.and_true, Bool.true_and, Bool.and_false, Bool.false_and, Nat.zero_add, ↓iso_2 h0]
  refine loop_run (Q := fun r => Ans r _) (fun j V H => ∃ (i : Nat), i + j = k ∧ V = [iv k, .ptr (.own 28311552) 0, .ptr (.own 28312577) 0, iv i] ∧
      H = ⟨[(28311552, .row [iv 0, iv 0, .nils] false), (28312577, .row [iv (tnum i).op, iv (tnum i).n, .fv (.sl ((tnum i).kids.map Tm.enc))] false)], []⟩) ?_ n k _ _ (by omega) ⟨0, by omega, rfl, rfl⟩
  rintro j V H rec ⟨i, hi, rfl, rfl⟩ hrec
  cases j with
  | zero =>
    have : i = k := by omega
    subst this
    have hno : ¬ ((i : Int) < i) := by omega
    generalize tnum i = t
    obtain ⟨o, p, l⟩ := t
    rw [enc_mk]
    simp only [S27_49, S27_50, S27_51, S27_52, S27, ↓XX, ↓reduceIte, Nat.reduceBEq, decide_true, decide_false, Bool.not_true, Bool.not_false, List.map_cons, List.map_nil, List.length_map, List.length_cons, List.length_nil, Nat.reduceAdd, Int.cast_ofNat_Int, Int.natCast_zero, Int.natCast_one, Bool.false_eq_true, Bool.true_eq_false, decide_eq_true_eq, eq_self, Int.reduceEq, Int.reduceLT, Int.reduceLE, Bool.and_true, Bool.true_and, Bool.and_false, Bool.false_and, Nat.zero_add, hno, Tm.op, Tm.n, Tm.kids]
    exact ans_fv _ _
  | succ j =>
    have hlt : (i : Int) < k := by omega
    have hw : w64 ((i : Int) + 1) = ((i + 1 : Nat) : Int) := (w64_id (by omega) (by omega)).trans (by simp)
    have ht := t_ok (n := n) (by omega) 12 [tnum i]
    have h9 := hrec j ([iv k, .ptr (.own 28311552) 0, .ptr (.own 28312577) 0, iv (i + 1 : Nat)]) (⟨[(28311552, .row [iv 0, iv 0, .nils] false), (28312577, .row [iv 12, iv 0, .fv (.sl ([tnum i].map Tm.enc))] false)], []⟩) (by omega) ⟨i + 1, by omega, rfl, rfl⟩
    generalize tnum i = t at *
    obtain ⟨o, p, l⟩ := t
    simp only [List.map_cons, List.map_nil, enc_mk] at ht h9
    simp only [S27_49, S27_50, S27_51, S27_52, S27, ↓XX, ↓reduceIte, Nat.reduceBEq, decide_true, decide_false, Bool.not_true, Bool.not_false, List.map_cons, List.map_nil, List.length_map, List.length_cons, List.length_nil, Nat.reduceAdd, Int.cast_ofNat_Int, Int.natCast_zero, Int.natCast_one, Bool.false_eq_true, Bool.true_eq_false, decide_eq_true_eq, eq_self, Int.reduceEq, Int.reduceLT, Int.reduceLE, Bool.and_true, Bool.true_and, Bool.and_false, Bool.false_and, Nat.zero_add, hlt, Tm.op, Tm.n, Tm.kids, ↓bs1_tm', ↓iso_2 ht, hw]
    exact h9
end Idl
end Go.Proofs.Ytkfecngimlcfoaa

namespace Go.Proofs.Ytkfecngimlcfoaa
namespace Idl
theorem known10_run (n : Nat) : isTrueN (SS dt (n + 60) 11 [] ⟨[], []⟩) = true := by kernel_rfl
theorem known10_ok {n : Nat} (h : 60 ≤ n) : Ans (SS dt n 11 [] ⟨[], []⟩) (.bool true) := by
  obtain ⟨k, rfl⟩ : ∃ k, n = k + 60 := ⟨n - 60, by omega⟩
  exact ans_trueN (known10_run k)
theorem within10_ok {n : Nat} (hn : 0 < n) (x : Int) {m : Int} (h1 : 0 < m) (h2 : m ≤ 4611686018427387904) : Ans (SS dt n 23 [iv x, iv m] ⟨[], []⟩) (.int .i64 (x % m)) := by
  obtain ⟨n, rfl⟩ := Nat.exists_eq_add_of_lt hn
  rw [Nat.zero_add, c23]
  simp only [S23, ↓XX, ↓reduceIte, Nat.reduceBEq, decide_true, decide_false, Bool.not_true, Bool.not_false, List.map_cons, List.map_nil, List.length_map, List.length_cons, List.length_nil, Nat.reduceAdd, Int.cast_ofNat_Int, Int.natCast_zero, Int.natCast_one, Bool.false_eq_true, Bool.true_eq_false, decide_eq_true_eq, eq_self, Int.reduceEq, Int.reduceLT, Int.reduceLE, Bool.and_true, Bool.true_and, Bool.and_false, Bool.false_and, Nat.zero_add, ↓rem_s (show m ≠ 0 by omega)]
  rw [← emod_w h1 h2]
  by_cases hc : x.tmod m < 0 <;> simp only [hc, if_true, if_false] <;> exact ans_fv _ _
theorem tnum_wt : ∀ k, (tnum k).wt = k + 1 := by
  intro k
  induction k with
  | zero => rfl
  | succ k ih => simp only [tnum, Tm.wt, Tm.wtL, ih]; omega
end Idl
end Go.Proofs.Ytkfecngimlcfoaa

namespace Go.Proofs.Ytkfecngimlcfoaa
namespace Idl
def powT (j : Nat) (k : Int) : Tm := .mk 20 0 [tI, .mk 30 0 [.mk 13 0 [.mk 18 0 [tI], .mk 19 0 [.mk 25 k []], .mk 19 0 [.mk 26 2 [.mk 1 2 [], .mk 30 0 [.mk 1 0 []]]], tnum j]]]
def mulT (k : Int) : Nat → Tm
  | 0 => .mk 25 k []
  | j + 1 => .mk 26 2 [.mk 1 0 [], mulT k j]
def isFun (o : Option (IV × Hp)) : Bool := match o with
  | some (.fv (.tuple [.agg [.int .i64 a, .int .i64 b, .sl [.agg [.int .i64 c, .int .i64 d, .sl []], .agg [.int .i64 e, .int .i64 f, .sl []]]], .int .i64 g]), ⟨_, []⟩) => decide (a = 16) && (decide (b = 0) && (decide (c = 15) && (decide (d = 0) && (decide (e = 15) && (decide (f = 0) && decide (g = 0))))))
  | _ => false
theorem ans_fun2 {o : Option (IV × Hp)} (h : isFun o = true) : Ans o (.tuple [(Tm.mk 16 0 [tI, tI]).enc, .int .i64 0]) := by
  unfold isFun at h
  split at h
  · simp only [Bool.and_eq_true, decide_eq_true_eq] at h
    obtain ⟨rfl, rfl, rfl, rfl, rfl, rfl, rfl⟩ := h
    exact ans_fv _ _
  · cases h
theorem pow_r0 (n : Nat) (k : Int) : isFun (SS dt (n + 600) 20 [.fv (.sl []), iv 0, .fv (powT 0 k).enc] ⟨[], []⟩) = true := by kernel_rfl
theorem pow_r1 (n : Nat) (k : Int) : isFun (SS dt (n + 600) 20 [.fv (.sl []), iv 0, .fv (powT 1 k).enc] ⟨[], []⟩) = true := by kernel_rfl
theorem pow_r2 (n : Nat) (k : Int) : isFun (SS dt (n + 600) 20 [.fv (.sl []), iv 0, .fv (powT 2 k).enc] ⟨[], []⟩) = true := by kernel_rfl
theorem pow_r3 (n : Nat) (k : Int) : isFun (SS dt (n + 600) 20 [.fv (.sl []), iv 0, .fv (powT 3 k).enc] ⟨[], []⟩) = true := by kernel_rfl
theorem pow_r4 (n : Nat) (k : Int) : isFun (SS dt (n + 600) 20 [.fv (.sl []), iv 0, .fv (powT 4 k).enc] ⟨[], []⟩) = true := by kernel_rfl
theorem pow_r5 (n : Nat) (k : Int) : isFun (SS dt (n + 600) 20 [.fv (.sl []), iv 0, .fv (powT 5 k).enc] ⟨[], []⟩) = true := by kernel_rfl
theorem pow_r6 (n : Nat) (k : Int) : isFun (SS dt (n + 600) 20 [.fv (.sl []), iv 0, .fv (powT 6 k).enc] ⟨[], []⟩) = true := by kernel_rfl
theorem pow_r7 (n : Nat) (k : Int) : isFun (SS dt (n + 600) 20 [.fv (.sl []), iv 0, .fv (powT 7 k).enc] ⟨[], []⟩) = true := by kernel_rfl
theorem pow_r8 (n : Nat) (k : Int) : isFun (SS dt (n + 600) 20 [.fv (.sl []), iv 0, .fv (powT 8 k).enc] ⟨[], []⟩) = true := by kernel_rfl
theorem pow_r9 (n : Nat) (k : Int) : isFun (SS dt (n + 600) 20 [.fv (.sl []), iv 0, .fv (powT 9 k).enc] ⟨[], []⟩) = true := by kernel_rfl
theorem pow_r10 (n : Nat) (k : Int) : isFun (SS dt (n + 600) 20 [.fv (.sl []), iv 0, .fv (powT 10 k).enc] ⟨[], []⟩) = true := by kernel_rfl
theorem pow_r11 (n : Nat) (k : Int) : isFun (SS dt (n + 600) 20 [.fv (.sl []), iv 0, .fv (powT 11 k).enc] ⟨[], []⟩) = true := by kernel_rfl
theorem pow_r12 (n : Nat) (k : Int) : isFun (SS dt (n + 600) 20 [.fv (.sl []), iv 0, .fv (powT 12 k).enc] ⟨[], []⟩) = true := by kernel_rfl
theorem pow_r13 (n : Nat) (k : Int) : isFun (SS dt (n + 600) 20 [.fv (.sl []), iv 0, .fv (powT 13 k).enc] ⟨[], []⟩) = true := by kernel_rfl
theorem pow_r14 (n : Nat) (k : Int) : isFun (SS dt (n + 600) 20 [.fv (.sl []), iv 0, .fv (powT 14 k).enc] ⟨[], []⟩) = true := by kernel_rfl
theorem pow_r15 (n : Nat) (k : Int) : isFun (SS dt (n + 600) 20 [.fv (.sl []), iv 0, .fv (powT 15 k).enc] ⟨[], []⟩) = true := by kernel_rfl
theorem pow_r16 (n : Nat) (k : Int) : isFun (SS dt (n + 600) 20 [.fv (.sl []), iv 0, .fv (powT 16 k).enc] ⟨[], []⟩) = true := by kernel_rfl
theorem pow_r17 (n : Nat) (k : Int) : isFun (SS dt (n + 600) 20 [.fv (.sl []), iv 0, .fv (powT 17 k).enc] ⟨[], []⟩) = true := by kernel_rfl
theorem pow_r18 (n : Nat) (k : Int) : isFun (SS dt (n + 600) 20 [.fv (.sl []), iv 0, .fv (powT 18 k).enc] ⟨[], []⟩) = true := by kernel_rfl
theorem pow_r19 (n : Nat) (k : Int) : isFun (SS dt (n + 600) 20 [.fv (.sl []), iv 0, .fv (powT 19 k).enc] ⟨[], []⟩) = true := by kernel_rfl
theorem pow_r20 (n : Nat) (k : Int) : isFun (SS dt (n + 600) 20 [.fv (.sl []), iv 0, .fv (powT 20 k).enc] ⟨[], []⟩) = true := by kernel_rfl
theorem pow_r21 (n : Nat) (k : Int) : isFun (SS dt (n + 600) 20 [.fv (.sl []), iv 0, .fv (powT 21 k).enc] ⟨[], []⟩) = true := by kernel_rfl
theorem pow_r22 (n : Nat) (k : Int) : isFun (SS dt (n + 600) 20 [.fv (.sl []), iv 0, .fv (powT 22 k).enc] ⟨[], []⟩) = true := by kernel_rfl
theorem pow_r23 (n : Nat) (k : Int) : isFun (SS dt (n + 600) 20 [.fv (.sl []), iv 0, .fv (powT 23 k).enc] ⟨[], []⟩) = true := by kernel_rfl
theorem pow_r24 (n : Nat) (k : Int) : isFun (SS dt (n + 600) 20 [.fv (.sl []), iv 0, .fv (powT 24 k).enc] ⟨[], []⟩) = true := by kernel_rfl
theorem pow_r25 (n : Nat) (k : Int) : isFun (SS dt (n + 600) 20 [.fv (.sl []), iv 0, .fv (powT 25 k).enc] ⟨[], []⟩) = true := by kernel_rfl
theorem pow_r26 (n : Nat) (k : Int) : isFun (SS dt (n + 600) 20 [.fv (.sl []), iv 0, .fv (powT 26 k).enc] ⟨[], []⟩) = true := by kernel_rfl
theorem pow_r27 (n : Nat) (k : Int) : isFun (SS dt (n + 600) 20 [.fv (.sl []), iv 0, .fv (powT 27 k).enc] ⟨[], []⟩) = true := by kernel_rfl
theorem pow_r28 (n : Nat) (k : Int) : isFun (SS dt (n + 600) 20 [.fv (.sl []), iv 0, .fv (powT 28 k).enc] ⟨[], []⟩) = true := by kernel_rfl
theorem pow_r29 (n : Nat) (k : Int) : isFun (SS dt (n + 600) 20 [.fv (.sl []), iv 0, .fv (powT 29 k).enc] ⟨[], []⟩) = true := by kernel_rfl
theorem pow_run (n : Nat) (k : Int) {j : Nat} (hj : j < 30) : isFun (SS dt (n + 600) 20 [.fv (.sl []), iv 0, .fv (powT j k).enc] ⟨[], []⟩) = true := by
  have h : j = 0 ∨ j = 1 ∨ j = 2 ∨ j = 3 ∨ j = 4 ∨ j = 5 ∨ j = 6 ∨ j = 7 ∨ j = 8 ∨ j = 9 ∨ j = 10 ∨ j = 11 ∨ j = 12 ∨ j = 13 ∨ j = 14 ∨ j = 15 ∨ j = 16 ∨ j = 17 ∨ j = 18 ∨ j = 19 ∨ j = 20 ∨ j = 21 ∨ j = 22 ∨ j = 23 ∨ j = 24 ∨ j = 25 ∨ j = 26 ∨ j = 27 ∨ j = 28 ∨ j = 29 := by omega
  rcases h with rfl | rfl | rfl | rfl | rfl | rfl | rfl | rfl | rfl | rfl | rfl | rfl | rfl | rfl | rfl | rfl | rfl | rfl | rfl | rfl | rfl | rfl | rfl | rfl | rfl | rfl | rfl | rfl | rfl | rfl
  · exact pow_r0 n k
  · exact pow_r1 n k
  · exact pow_r2 n k
  · exact pow_r3 n k
  · exact pow_r4 n k
  · exact pow_r5 n k
  · exact pow_r6 n k
  · exact pow_r7 n k
  · exact pow_r8 n k
  · exact pow_r9 n k
  · exact pow_r10 n k
  · exact pow_r11 n k
  · exact pow_r12 n k
  · exact pow_r13 n k
  · exact pow_r14 n k
  · exact pow_r15 n k
  · exact pow_r16 n k
  · exact pow_r17 n k
  · exact pow_r18 n k
  · exact pow_r19 n k
  · exact pow_r20 n k
  · exact pow_r21 n k
  · exact pow_r22 n k
  · exact pow_r23 n k
  · exact pow_r24 n k
  · exact pow_r25 n k
  · exact pow_r26 n k
  · exact pow_r27 n k
  · exact pow_r28 n k
  · exact pow_r29 n k
theorem pow_n0 (k : Int) : normP 200 (powT 0 k) = some (.mk 20 0 [tI, mulT k 0], 0) := by kernel_rfl
theorem pow_n1 (k : Int) : normP 200 (powT 1 k) = some (.mk 20 0 [tI, mulT k 1], 0) := by kernel_rfl
theorem pow_n2 (k : Int) : normP 200 (powT 2 k) = some (.mk 20 0 [tI, mulT k 2], 0) := by kernel_rfl
theorem pow_n3 (k : Int) : normP 200 (powT 3 k) = some (.mk 20 0 [tI, mulT k 3], 0) := by kernel_rfl
theorem pow_n4 (k : Int) : normP 200 (powT 4 k) = some (.mk 20 0 [tI, mulT k 4], 0) := by kernel_rfl
theorem pow_n5 (k : Int) : normP 200 (powT 5 k) = some (.mk 20 0 [tI, mulT k 5], 0) := by kernel_rfl
theorem pow_n6 (k : Int) : normP 200 (powT 6 k) = some (.mk 20 0 [tI, mulT k 6], 0) := by kernel_rfl
theorem pow_n7 (k : Int) : normP 200 (powT 7 k) = some (.mk 20 0 [tI, mulT k 7], 0) := by kernel_rfl
theorem pow_n8 (k : Int) : normP 200 (powT 8 k) = some (.mk 20 0 [tI, mulT k 8], 0) := by kernel_rfl
theorem pow_n9 (k : Int) : normP 200 (powT 9 k) = some (.mk 20 0 [tI, mulT k 9], 0) := by kernel_rfl
theorem pow_n10 (k : Int) : normP 200 (powT 10 k) = some (.mk 20 0 [tI, mulT k 10], 0) := by kernel_rfl
theorem pow_n11 (k : Int) : normP 200 (powT 11 k) = some (.mk 20 0 [tI, mulT k 11], 0) := by kernel_rfl
theorem pow_n12 (k : Int) : normP 200 (powT 12 k) = some (.mk 20 0 [tI, mulT k 12], 0) := by kernel_rfl
theorem pow_n13 (k : Int) : normP 200 (powT 13 k) = some (.mk 20 0 [tI, mulT k 13], 0) := by kernel_rfl
theorem pow_n14 (k : Int) : normP 200 (powT 14 k) = some (.mk 20 0 [tI, mulT k 14], 0) := by kernel_rfl
theorem pow_n15 (k : Int) : normP 200 (powT 15 k) = some (.mk 20 0 [tI, mulT k 15], 0) := by kernel_rfl
theorem pow_n16 (k : Int) : normP 200 (powT 16 k) = some (.mk 20 0 [tI, mulT k 16], 0) := by kernel_rfl
theorem pow_n17 (k : Int) : normP 200 (powT 17 k) = some (.mk 20 0 [tI, mulT k 17], 0) := by kernel_rfl
theorem pow_n18 (k : Int) : normP 200 (powT 18 k) = some (.mk 20 0 [tI, mulT k 18], 0) := by kernel_rfl
theorem pow_n19 (k : Int) : normP 200 (powT 19 k) = some (.mk 20 0 [tI, mulT k 19], 0) := by kernel_rfl
theorem pow_n20 (k : Int) : normP 200 (powT 20 k) = some (.mk 20 0 [tI, mulT k 20], 0) := by kernel_rfl
theorem pow_n21 (k : Int) : normP 200 (powT 21 k) = some (.mk 20 0 [tI, mulT k 21], 0) := by kernel_rfl
theorem pow_n22 (k : Int) : normP 200 (powT 22 k) = some (.mk 20 0 [tI, mulT k 22], 0) := by kernel_rfl
theorem pow_n23 (k : Int) : normP 200 (powT 23 k) = some (.mk 20 0 [tI, mulT k 23], 0) := by kernel_rfl
theorem pow_n24 (k : Int) : normP 200 (powT 24 k) = some (.mk 20 0 [tI, mulT k 24], 0) := by kernel_rfl
theorem pow_n25 (k : Int) : normP 200 (powT 25 k) = some (.mk 20 0 [tI, mulT k 25], 0) := by kernel_rfl
theorem pow_n26 (k : Int) : normP 200 (powT 26 k) = some (.mk 20 0 [tI, mulT k 26], 0) := by kernel_rfl
theorem pow_n27 (k : Int) : normP 200 (powT 27 k) = some (.mk 20 0 [tI, mulT k 27], 0) := by kernel_rfl
theorem pow_n28 (k : Int) : normP 200 (powT 28 k) = some (.mk 20 0 [tI, mulT k 28], 0) := by kernel_rfl
theorem pow_n29 (k : Int) : normP 200 (powT 29 k) = some (.mk 20 0 [tI, mulT k 29], 0) := by kernel_rfl
theorem pow_k0 (k : Int) : ((powT 0 k).chk 0 1).2 = 0 := by kernel_rfl
theorem pow_k1 (k : Int) : ((powT 1 k).chk 0 1).2 = 0 := by kernel_rfl
theorem pow_k2 (k : Int) : ((powT 2 k).chk 0 1).2 = 0 := by kernel_rfl
theorem pow_k3 (k : Int) : ((powT 3 k).chk 0 1).2 = 0 := by kernel_rfl
theorem pow_k4 (k : Int) : ((powT 4 k).chk 0 1).2 = 0 := by kernel_rfl
theorem pow_k5 (k : Int) : ((powT 5 k).chk 0 1).2 = 0 := by kernel_rfl
theorem pow_k6 (k : Int) : ((powT 6 k).chk 0 1).2 = 0 := by kernel_rfl
theorem pow_k7 (k : Int) : ((powT 7 k).chk 0 1).2 = 0 := by kernel_rfl
theorem pow_k8 (k : Int) : ((powT 8 k).chk 0 1).2 = 0 := by kernel_rfl
theorem pow_k9 (k : Int) : ((powT 9 k).chk 0 1).2 = 0 := by kernel_rfl
theorem pow_k10 (k : Int) : ((powT 10 k).chk 0 1).2 = 0 := by kernel_rfl
theorem pow_k11 (k : Int) : ((powT 11 k).chk 0 1).2 = 0 := by kernel_rfl
theorem pow_k12 (k : Int) : ((powT 12 k).chk 0 1).2 = 0 := by kernel_rfl
theorem pow_k13 (k : Int) : ((powT 13 k).chk 0 1).2 = 0 := by kernel_rfl
theorem pow_k14 (k : Int) : ((powT 14 k).chk 0 1).2 = 0 := by kernel_rfl
theorem pow_k15 (k : Int) : ((powT 15 k).chk 0 1).2 = 0 := by kernel_rfl
theorem pow_k16 (k : Int) : ((powT 16 k).chk 0 1).2 = 0 := by kernel_rfl
theorem pow_k17 (k : Int) : ((powT 17 k).chk 0 1).2 = 0 := by kernel_rfl
theorem pow_k18 (k : Int) : ((powT 18 k).chk 0 1).2 = 0 := by kernel_rfl
theorem pow_k19 (k : Int) : ((powT 19 k).chk 0 1).2 = 0 := by kernel_rfl
theorem pow_k20 (k : Int) : ((powT 20 k).chk 0 1).2 = 0 := by kernel_rfl
theorem pow_k21 (k : Int) : ((powT 21 k).chk 0 1).2 = 0 := by kernel_rfl
theorem pow_k22 (k : Int) : ((powT 22 k).chk 0 1).2 = 0 := by kernel_rfl
theorem pow_k23 (k : Int) : ((powT 23 k).chk 0 1).2 = 0 := by kernel_rfl
theorem pow_k24 (k : Int) : ((powT 24 k).chk 0 1).2 = 0 := by kernel_rfl
theorem pow_k25 (k : Int) : ((powT 25 k).chk 0 1).2 = 0 := by kernel_rfl
theorem pow_k26 (k : Int) : ((powT 26 k).chk 0 1).2 = 0 := by kernel_rfl
theorem pow_k27 (k : Int) : ((powT 27 k).chk 0 1).2 = 0 := by kernel_rfl
theorem pow_k28 (k : Int) : ((powT 28 k).chk 0 1).2 = 0 := by kernel_rfl
theorem pow_k29 (k : Int) : ((powT 29 k).chk 0 1).2 = 0 := by kernel_rfl
theorem pow_norm (k : Int) {j : Nat} (hj : j < 30) : normP 200 (powT j k) = some (.mk 20 0 [tI, mulT k j], 0) := by
  have h : j = 0 ∨ j = 1 ∨ j = 2 ∨ j = 3 ∨ j = 4 ∨ j = 5 ∨ j = 6 ∨ j = 7 ∨ j = 8 ∨ j = 9 ∨ j = 10 ∨ j = 11 ∨ j = 12 ∨ j = 13 ∨ j = 14 ∨ j = 15 ∨ j = 16 ∨ j = 17 ∨ j = 18 ∨ j = 19 ∨ j = 20 ∨ j = 21 ∨ j = 22 ∨ j = 23 ∨ j = 24 ∨ j = 25 ∨ j = 26 ∨ j = 27 ∨ j = 28 ∨ j = 29 := by omega
  rcases h with rfl | rfl | rfl | rfl | rfl | rfl | rfl | rfl | rfl | rfl | rfl | rfl | rfl | rfl | rfl | rfl | rfl | rfl | rfl | rfl | rfl | rfl | rfl | rfl | rfl | rfl | rfl | rfl | rfl | rfl
  · exact pow_n0 k
  · exact pow_n1 k
  · exact pow_n2 k
  · exact pow_n3 k
  · exact pow_n4 k
  · exact pow_n5 k
  · exact pow_n6 k
  · exact pow_n7 k
  · exact pow_n8 k
  · exact pow_n9 k
  · exact pow_n10 k
  · exact pow_n11 k
  · exact pow_n12 k
  · exact pow_n13 k
  · exact pow_n14 k
  · exact pow_n15 k
  · exact pow_n16 k
  · exact pow_n17 k
  · exact pow_n18 k
  · exact pow_n19 k
  · exact pow_n20 k
  · exact pow_n21 k
  · exact pow_n22 k
  · exact pow_n23 k
  · exact pow_n24 k
  · exact pow_n25 k
  · exact pow_n26 k
  · exact pow_n27 k
  · exact pow_n28 k
  · exact pow_n29 k
theorem pow_chk (k : Int) {j : Nat} (hj : j < 30) : ((powT j k).chk 0 1).2 = 0 := by
  have h : j = 0 ∨ j = 1 ∨ j = 2 ∨ j = 3 ∨ j = 4 ∨ j = 5 ∨ j = 6 ∨ j = 7 ∨ j = 8 ∨ j = 9 ∨ j = 10 ∨ j = 11 ∨ j = 12 ∨ j = 13 ∨ j = 14 ∨ j = 15 ∨ j = 16 ∨ j = 17 ∨ j = 18 ∨ j = 19 ∨ j = 20 ∨ j = 21 ∨ j = 22 ∨ j = 23 ∨ j = 24 ∨ j = 25 ∨ j = 26 ∨ j = 27 ∨ j = 28 ∨ j = 29 := by omega
  rcases h with rfl | rfl | rfl | rfl | rfl | rfl | rfl | rfl | rfl | rfl | rfl | rfl | rfl | rfl | rfl | rfl | rfl | rfl | rfl | rfl | rfl | rfl | rfl | rfl | rfl | rfl | rfl | rfl | rfl | rfl
  · exact pow_k0 k
  · exact pow_k1 k
  · exact pow_k2 k
  · exact pow_k3 k
  · exact pow_k4 k
  · exact pow_k5 k
  · exact pow_k6 k
  · exact pow_k7 k
  · exact pow_k8 k
  · exact pow_k9 k
  · exact pow_k10 k
  · exact pow_k11 k
  · exact pow_k12 k
  · exact pow_k13 k
  · exact pow_k14 k
  · exact pow_k15 k
  · exact pow_k16 k
  · exact pow_k17 k
  · exact pow_k18 k
  · exact pow_k19 k
  · exact pow_k20 k
  · exact pow_k21 k
  · exact pow_k22 k
  · exact pow_k23 k
  · exact pow_k24 k
  · exact pow_k25 k
  · exact pow_k26 k
  · exact pow_k27 k
  · exact pow_k28 k
  · exact pow_k29 k
theorem mul_plain (k : Int) : ∀ j, (mulT k j).plainP = true
  | 0 => rfl
  | j + 1 => by simp only [mulT, Tm.plainP, Tm.plainPL, mul_plain k j]; rfl
theorem mul_wt (k : Int) : ∀ j : Nat, (mulT k j).wt = 2 * j + 1
  | 0 => rfl
  | j + 1 => by simp only [mulT, Tm.wt, Tm.wtL, mul_wt k j]; omega
end Idl
end Go.Proofs.Ytkfecngimlcfoaa

namespace Go.Proofs.Ytkfecngimlcfoaa
namespace Idl
def wK (k : Int) : Nat → IV
  | 0 => .fv (.sl [])
  | i + 1 => .clip [.agg [.int .i64 1, .int .i64 0, .sl []], (mulT k i).enc]
abbrev liftT : Tm := .mk 18 0 [tI]
abbrev timesT : Tm := .mk 19 0 [.mk 26 2 [.mk 1 2 [], .mk 30 0 [.mk 1 0 []]]]
abbrev recT (j : Nat) (k : Int) : Tm := .mk 13 0 [liftT, .mk 19 0 [.mk 25 k []], timesT, tnum j]
abbrev tIF : FV := .agg [.int .i64 15, .int .i64 0, .sl []]
abbrev v0F : FV := .agg [.int .i64 1, .int .i64 0, .sl []]
abbrev liftF : FV := .agg [.int .i64 18, .int .i64 0, .sl [tIF]]
abbrev timF : FV := .agg [.int .i64 19, .int .i64 0, .sl [.agg [.int .i64 26, .int .i64 2, .sl [.agg [.int .i64 1, .int .i64 2, .sl []], .agg [.int .i64 30, .int .i64 0, .sl [v0F]]]]]]
noncomputable abbrev HP (no nn : Int) (nk : List Tm) (k o p : Int) (K : IV) : Hp :=
  ⟨[(5246977, .row [iv 15, iv 0, .fv (.sl [])] false), (5248003, .row [iv 18, iv 0, .fv (.sl [tIF])] false),
    (5249032, .row [iv 19, iv 0, .fv (.sl [.agg [.int .i64 26, .int .i64 2, .sl [.agg [.int .i64 1, .int .i64 2, .sl []], .agg [.int .i64 30, .int .i64 0, .sl [v0F]]]]])] false),
    (5250058, .row [iv 13, iv 0, .fv (.sl [liftF, .agg [.int .i64 19, .int .i64 0, .sl [.agg [.int .i64 25, .int .i64 k, .sl []]]], timF, .agg [.int .i64 no, .int .i64 nn, .sl (nk.map Tm.enc)]])] false),
    (5251078, .row [iv 20, iv 0, .fv (.sl [tIF, .agg [.int .i64 30, .int .i64 0, .sl [.agg [.int .i64 13, .int .i64 0, .sl [liftF, .agg [.int .i64 19, .int .i64 0, .sl [.agg [.int .i64 25, .int .i64 k, .sl []]]], timF, .agg [.int .i64 no, .int .i64 nn, .sl (nk.map Tm.enc)]]]]]])] false),
    (5252098, .row [iv o, iv p, K] false)], []⟩
set_option maxRecDepth 20000 in
set_option maxHeartbeats 2000000 in
theorem stagePower_ok (x k : Int) : ∃ N, AnsV (SS dt N 5 [.fv (.int .i64 x), .fv (.int .i64 k)] ⟨[], []⟩) (.bool true) := by
  refine ⟨8000 + 1, ?_⟩
  generalize hn : 8000 = n
  rw [c5]
  have hk := known10_ok (n := n) (by omega)
  have hw := within10_ok (n := n) (by omega) x (m := 30) (by decide) (by decide)
  have hj1 := Int.emod_nonneg x (show (30 : Int) ≠ 0 by decide)
  have hj2 := Int.emod_lt_of_pos x (show (0 : Int) < 30 by decide)
  obtain ⟨j, hj⟩ : ∃ j : Nat, x % 30 = j := ⟨(x % 30).toNat, by omega⟩
  rw [hj] at hw
  have hj9 : j < 30 := by omega
  have t15 := t0_ok (n := n) (by omega) 15
  have t18 := t_ok (n := n) (by omega) 18 [tI]
  have v0 := v_ok (n := n) (by omega) 0
  have v2 := v_ok (n := n) (by omega) 2
  have t30 := t_ok (n := n) (by omega) 30 [.mk 1 0 []]
  have t19 := t_ok (n := n) (by omega) 19 [.mk 26 2 [.mk 1 2 [], .mk 30 0 [.mk 1 0 []]]]
  have ik := int_ok (n := n) (by omega) k
  have t19k := t_ok (n := n) (by omega) 19 [.mk 25 k []]
  have hnum := num_ok (n := n) j (by omega) (by omega)
  have t13 := t_ok (n := n) (by omega) 13 [liftT, .mk 19 0 [.mk 25 k []], timesT, tnum j]
  have t30r := t_ok (n := n) (by omega) 30 [recT j k]
  have t20 := t_ok (n := n) (by omega) 20 [tI, .mk 30 0 [recT j k]]
  have t20w := t_ok (n := n) (by omega) 20 [tI, mulT k j]
  have t16 := t_ok (n := n) (by omega) 16 [tI, tI]
  have hmw := mul_wt k j
  have hS := stage_ok (n := n) (pow_chk k hj9) (pow_norm k hj9) (by simp only [Tm.plainP, Tm.plainPL, mul_plain]; rfl) (by omega) (by simp only [powT, tI, Tm.wt, Tm.wtL, tnum_wt]; omega) (by simp only [tI, Tm.wt, Tm.wtL]; omega) (by simp only [tI, Tm.wt, Tm.wtL]; omega)
  have hI : Ans (SS dt n 20 [.fv (.sl []), iv 0, .fv (powT j k).enc] ⟨[], []⟩) (.tuple [(Tm.mk 16 0 [tI, tI]).enc, .int .i64 0]) := by
    have := ans_fun2 (pow_run 7400 k hj9)
    rw [show 7400 + 600 = n by omega] at this
    exact this
  have hs1 := same_ok n (.mk 16 0 [tI, tI]) (.mk 16 0 [tI, tI]) (by simp only [tI, Tm.wt, Tm.wtL]; omega) (by simp only [tI, Tm.wt, Tm.wtL]; omega)
  have hs2 := same_ok n (.mk 20 0 [tI, mulT k j]) (.mk 20 0 [tI, mulT k j]) (by simp only [tI, Tm.wt, Tm.wtL]; omega) (by simp only [tI, Tm.wt, Tm.wtL]; omega)
  rw [(same_eq _ _).2 rfl] at hs1 hs2
  rw [powT] at hS hI
  simp only [recT, liftT, timesT] at t13 t30r t20
  generalize tnum j = nm at hnum t13 t30r t20 hS hI
  obtain ⟨no, nn, nk⟩ := nm
  simp only [liftT, timesT, recT, tI, List.map_cons, List.map_nil, enc_mk] at t15 t18 v0 v2 t30 t19 ik t19k hnum t13 t30r t20 t16 hS hI hs1
  simp only [S5_295, S5_296, S5_297, S5_298, S5_299, S5_300, S5_301, S5_302, S5_303, S5_304, S5_305, S5_307, S5_308, S5_309, S5_310, S5_311, S5_312, S5_313, S5_314, S5_315, S5_316, S5_317, S5_318, S5, ↓XX, ↓reduceIte, Nat.reduceBEq, decide_true, decide_false, Bool.not_true, Bool.not_false, List.map_cons, List.map_nil, List.length_map, List.length_cons, List.length_nil, Nat.reduceAdd, Int.cast_ofNat_Int, Int.natCast_zero, Int.natCast_one, Bool.false_eq_true, Bool.true_eq_false, decide_eq_true_eq, eq_self, Int.reduceEq, Int.reduceLT, Int.reduceLE, Bool.and_true, Bool.true_and, Bool.and_false, Bool.false_and, Nat.zero_add, ↓iso_0 hk, ↓iso_2 hw, ↓iso_2 t15, ↓bs1_g, ↓bs1_c, ↓iso_2 t18, ↓iso_1 v0, ↓iso_1 v2, ↓iso_2 t30, ↓bs2_g, ↓iso_2 t19, ↓iso_1 ik, ↓iso_2 t19k, ↓iso_1 hnum, ↓bs4_g, ↓iso_2 t13, ↓iso_2 t30r, ↓iso_2 t20]
  refine loop_run (Q := fun r => AnsV r _) (fun q V H => ∃ i : Nat, i + q = j ∧ V = [iv j, .ptr (.own 5246977) 0, .ptr (.own 5251078) 0, .ptr (.own 5252098) 0, iv i] ∧ ∃ H0, H = HP no nn nk k (mulT k i).op (mulT k i).n (wK k i) ∧ H0 = H) ?_ n j _ _ (by omega) ⟨0, by omega, rfl, _, rfl, rfl⟩
  rintro q V H rec ⟨i, hiq, rfl, H0, rfl, _⟩ hrec
  cases q with
  | succ q =>
    have hlt : (i : Int) < j := by omega
    have hwi : w64 ((i : Int) + 1) = ((i + 1 : Nat) : Int) := (w64_id (by omega) (by omega)).trans (by simp)
    have h9 := hrec q [iv j, .ptr (.own 5246977) 0, .ptr (.own 5251078) 0, .ptr (.own 5252098) 0, iv (i + 1 : Nat)] _ (by omega) ⟨i + 1, by omega, rfl, _, rfl, rfl⟩
    cases i with
    | zero =>
      have w01 : w64 (0 + 1) = ((0 + 1 : Nat) : Int) := by rw [w64_id] <;> omega
      have hlt : (0 : Int) < j := by omega
      simp only [HP, mulT, wK, Tm.op, Tm.n, enc_mk, List.map_nil] at h9 ⊢
      simp only [S5_295, S5_296, S5_297, S5_298, S5_299, S5_300, S5_301, S5_302, S5_303, S5_304, S5_305, S5_306, S5_307, S5_308, S5_309, S5_310, S5_311, S5_312, S5_313, S5_314, S5_315, S5_316, S5_317, S5_318, S5, ↓XX, ↓reduceIte, Nat.reduceBEq, decide_true, decide_false, Bool.not_true, Bool.not_false, List.map_cons, List.map_nil, List.length_map, List.length_cons, List.length_nil, Nat.reduceAdd, Int.cast_ofNat_Int, Int.natCast_zero, Int.natCast_one, Bool.false_eq_true, Bool.true_eq_false, decide_eq_true_eq, eq_self, Int.reduceEq, Int.reduceLT, Int.reduceLE, Bool.and_true, Bool.true_and, Bool.and_false, Bool.false_and, Nat.zero_add, hlt, ↓iso_1 v0, ↓bs2_g, w01]
      exact h9
    | succ i =>
      simp only [HP, mulT, wK, Tm.op, Tm.n, enc_mk, List.map_nil, List.map_cons] at h9 ⊢
      simp only [S5_295, S5_296, S5_297, S5_298, S5_299, S5_300, S5_301, S5_302, S5_303, S5_304, S5_305, S5_306, S5_307, S5_308, S5_309, S5_310, S5_311, S5_312, S5_313, S5_314, S5_315, S5_316, S5_317, S5_318, S5, ↓XX, ↓reduceIte, Nat.reduceBEq, decide_true, decide_false, Bool.not_true, Bool.not_false, List.map_cons, List.map_nil, List.length_map, List.length_cons, List.length_nil, Nat.reduceAdd, Int.cast_ofNat_Int, Int.natCast_zero, Int.natCast_one, Bool.false_eq_true, Bool.true_eq_false, decide_eq_true_eq, eq_self, Int.reduceEq, Int.reduceLT, Int.reduceLE, Bool.and_true, Bool.true_and, Bool.and_false, Bool.false_and, Nat.zero_add, hlt, ↓iso_1 v0, ↓bs2_c, hwi]
      exact h9
  | zero =>
    have hij : i = j := by omega
    subst hij
    have hno : ¬ (i : Int) < i := by omega
    cases i with
    | zero =>
      simp only [HP, mulT, wK, Tm.op, Tm.n, enc_mk, tI, List.map_cons, List.map_nil] at hS hs2 t20w ⊢
      simp only [S5_295, S5_296, S5_297, S5_298, S5_299, S5_300, S5_301, S5_302, S5_303, S5_304, S5_305, S5_306, S5_307, S5_308, S5_309, S5_310, S5_311, S5_312, S5_313, S5_314, S5_315, S5_316, S5_317, S5_318, S5, ↓XX, ↓reduceIte, Nat.reduceBEq, decide_true, decide_false, Bool.not_true, Bool.not_false, List.map_cons, List.map_nil, List.length_map, List.length_cons, List.length_nil, Nat.reduceAdd, Int.cast_ofNat_Int, Int.natCast_zero, Int.natCast_one, Bool.false_eq_true, Bool.true_eq_false, decide_eq_true_eq, eq_self, Int.reduceEq, Int.reduceLT, Int.reduceLE, Bool.and_true, Bool.true_and, Bool.and_false, Bool.false_and, Nat.zero_add, hno, ↓iso_1 hS, ↓iso_3 hI, ↓bs2_g, ↓iso_2 t16, ↓iso_2 hs1, ↓iso_2 t20w, ↓iso_2 hs2]
      exact ansv
    | succ i =>
      simp only [HP, mulT, wK, Tm.op, Tm.n, enc_mk, tI, List.map_cons, List.map_nil] at hS hs2 t20w ⊢
      simp only [S5_295, S5_296, S5_297, S5_298, S5_299, S5_300, S5_301, S5_302, S5_303, S5_304, S5_305, S5_306, S5_307, S5_308, S5_309, S5_310, S5_311, S5_312, S5_313, S5_314, S5_315, S5_316, S5_317, S5_318, S5, ↓XX, ↓reduceIte, Nat.reduceBEq, decide_true, decide_false, Bool.not_true, Bool.not_false, List.map_cons, List.map_nil, List.length_map, List.length_cons, List.length_nil, Nat.reduceAdd, Int.cast_ofNat_Int, Int.natCast_zero, Int.natCast_one, Bool.false_eq_true, Bool.true_eq_false, decide_eq_true_eq, eq_self, Int.reduceEq, Int.reduceLT, Int.reduceLE, Bool.and_true, Bool.true_and, Bool.and_false, Bool.false_and, Nat.zero_add, hno, ↓iso_1 hS, ↓iso_3 hI, ↓bs2_g, ↓bs2_c, ↓iso_2 t16, ↓iso_2 hs1, ↓iso_2 t20w, ↓iso_2 hs2]
      exact ansv
end Idl
end Go.Proofs.Ytkfecngimlcfoaa


/-
  Texts of a proof, part 11: an ideal semantics of the program, its functions in shallow form, contracts of them. No statement of the seat is proved here.
-/
import Derived.Test.YtbkdidonegggdaaNormEtaK10
set_option linter.all false
namespace Go.Proofs.Ytbkdidonegggdaa
namespace Idl
theorem kidsG_mono {ev ev' : Int → Int → Tm → Option (RV × Int × Int)} (h : ∀ s e t r, ev s e t = some r → ev' s e t = some r) (op : Int) (env : List RV) : ∀ (l : List Tm) (i : Nat) (s e : Int) (r : List RV × Int × Int), kidsG ev op env i l s e = some r → kidsG ev' op env i l s e = some r
  | [], i, s, e, r, hr => hr
  | t :: l, i, s, e, r, hr => by
    simp only [kidsG] at hr ⊢
    by_cases hb : 0 < bindN op i
    · rw [if_pos hb] at hr ⊢
      cases hk : kidsG ev op env (i + 1) l s e with
      | none => rw [hk] at hr; cases hr
      | some q => rw [hk] at hr; rw [kidsG_mono h op env l (i + 1) s e q hk]; exact hr
    · rw [if_neg hb] at hr ⊢
      cases he : ev s e t with
      | none => rw [he] at hr; cases hr
      | some q =>
        obtain ⟨v, s1, e1⟩ := q
        rw [he] at hr
        rw [h _ _ _ _ he]
        simp only at hr ⊢
        cases hk : kidsG ev op env (i + 1) l s1 e1 with
        | none => rw [hk] at hr; cases hr
        | some q => rw [hk] at hr; rw [kidsG_mono h op env l (i + 1) s1 e1 q hk]; exact hr
theorem mach_mono : ∀ f, (∀ s e t env r, evalR f s e t env = some r → evalR (f + 1) s e t env = some r) ∧ (∀ s e v r, headR f s e v = some r → headR (f + 1) s e v = some r) := by
  intro f
  induction f with
  | zero => exact ⟨(by intro s e t env r h; rw [evalR] at h; cases h), (by intro s e v r h; rw [headR] at h; cases h)⟩
  | succ f ih =>
    refine ⟨?_, ?_⟩
    · intro s e t env r h
      obtain ⟨op, m, ks⟩ := t
      rw [evalR] at h ⊢
      split at h
      · rename_i h0; rw [if_pos h0]; exact h
      · rename_i h0
        rw [if_neg h0]
        split at h
        · cases h
        · rename_i h1
          rw [if_neg h1]
          split at h
          · rename_i h2; rw [if_pos h2]; exact h
          · rename_i h2
            rw [if_neg h2]
            split at h
            · cases h
            · rename_i h3
              rw [if_neg (by omega)]
              split at h
              · cases h
              · rename_i h4
                rw [if_neg h4]
                split at h
                · cases h
                · rename_i vs s1 e1 hk
                  rw [kidsG_mono (ev' := fun s e t => evalR (f + 1) s e t env) (fun s e t r => ih.1 s e t env r) op env ks 0 s e _ hk]
                  exact ih.2 _ _ _ _ h
    · intro s e v r h
      rw [headR] at h ⊢
      by_cases h0 : e ≠ 0
      · rw [if_pos h0] at h ⊢; exact h
      rw [if_neg h0] at h ⊢
      by_cases h1 : s < 0 ∨ 1000000 < s
      · rw [if_pos h1] at h; cases h
      rw [if_neg h1] at h ⊢
      by_cases h5 : v.op = 5
      · rw [if_pos h5] at h ⊢
        cases hk : v.k[0]? with
        | none => rw [hk] at h; cases h
        | some k0 =>
          rw [hk] at h
          simp only at h ⊢
          by_cases h4 : k0.op = 4
          · rw [if_pos h4] at h ⊢
            by_cases hq : s + 1 ≤ 1000
            · rw [if_pos hq] at h ⊢
              cases hc : k0.k[1]? with
              | none => rw [hc] at h; cases h
              | some c =>
                cases hx : v.k[1]? with
                | none => rw [hc, hx] at h; cases h
                | some x =>
                  rw [hc, hx] at h
                  simp only at h ⊢
                  by_cases hl : 900000 < c.env.length
                  · rw [if_pos hl] at h; cases h
                  · rw [if_neg hl] at h ⊢
                    exact ih.1 _ _ _ _ _ h
            · rw [if_neg hq] at h ⊢; exact h
          · rw [if_neg h4] at h ⊢; exact h
      rw [if_neg h5] at h ⊢
      by_cases h89 : v.op = 8 ∨ v.op = 9
      · rw [if_pos h89] at h ⊢; exact h
      rw [if_neg h89] at h ⊢
      by_cases h30 : v.op = 30
      · rw [if_pos h30] at h ⊢; exact h
      rw [if_neg h30] at h ⊢
      by_cases h19 : v.op = 19
      · rw [if_pos h19] at h ⊢; exact h
      rw [if_neg h19] at h ⊢
      by_cases h13 : v.op = 13
      · rw [if_pos h13] at h ⊢
        cases hk0 : v.k[0]? with
        | none => rw [hk0] at h; cases h
        | some k0 =>
        cases hk1 : v.k[1]? with
        | none => rw [hk0, hk1] at h; cases h
        | some k1 =>
        cases hk2 : v.k[2]? with
        | none => rw [hk0, hk1, hk2] at h; cases h
        | some k2 =>
        cases hk3 : v.k[3]? with
        | none => rw [hk0, hk1, hk2, hk3] at h; cases h
        | some k3 =>
        rw [hk0, hk1, hk2, hk3] at h
        simp only at h ⊢
        by_cases h11 : k3.op = 11
        · rw [if_pos h11] at h ⊢; exact h
        rw [if_neg h11] at h ⊢
        by_cases h12 : k3.op = 12
        · rw [if_pos h12] at h ⊢
          by_cases hq : s + 1 ≤ 1000
          · rw [if_pos hq] at h ⊢
            cases hx : k3.k[0]? with
            | none => rw [hx] at h; cases h
            | some x =>
              rw [hx] at h
              simp only at h ⊢
              cases hd : headR f (s + 1) 0 (.node 13 0 [k0, k1, k2, x]) with
              | none => rw [hd] at h; cases h
              | some q =>
                obtain ⟨w, s2, e2⟩ := q
                rw [hd] at h
                rw [ih.2 _ _ _ _ hd]
                simp only at h ⊢
                by_cases hl : 900000 < k2.env.length
                · rw [if_pos hl] at h; cases h
                · rw [if_neg hl] at h ⊢
                  exact ih.1 _ _ _ _ _ h
          · rw [if_neg hq] at h ⊢; exact h
        · rw [if_neg h12] at h ⊢; exact h
      rw [if_neg h13] at h ⊢
      exact h
theorem eval_le {f g : Nat} (hfg : f ≤ g) {s e : Int} {t : Tm} {env : List RV} {r : RV × Int × Int} (h : evalR f s e t env = some r) : evalR g s e t env = some r := by
  induction hfg with
  | refl => exact h
  | step _ ih => exact (mach_mono _).1 _ _ _ _ _ ih
theorem head_le {f g : Nat} (hfg : f ≤ g) {s e : Int} {v : RV} {r : RV × Int × Int} (h : headR f s e v = some r) : headR g s e v = some r := by
  induction hfg with
  | refl => exact h
  | step _ ih => exact (mach_mono _).2 _ _ _ _ ih
def ar (op : Int) : Option Nat :=
  if op = 0 ∨ op = 1 ∨ op = 2 ∨ op = 10 ∨ op = 11 ∨ op = 14 ∨ op = 15 ∨ op = 25 then some 0
  else if op = 8 ∨ op = 9 ∨ op = 12 ∨ op = 18 ∨ op = 19 ∨ op = 23 ∨ op = 24 ∨ op = 30 then some 1
  else if op = 3 ∨ op = 4 ∨ op = 5 ∨ op = 6 ∨ op = 16 ∨ op = 17 ∨ op = 20 ∨ op = 21 ∨ op = 22 ∨ op = 26 ∨ op = 28 ∨ op = 29 then some 2
  else if op = 7 ∨ op = 27 then some 3 else if op = 13 then some 4 else none
def numok (op n : Int) : Prop := if op = 2 then 0 ≤ n ∧ n ≤ 2 else if op = 26 then 0 ≤ n ∧ n ≤ 4 else if op = 25 then -2305843009213693952 ≤ n ∧ n ≤ 2305843009213693952 else n = 0
mutual
def Tm.sc : Tm → Nat → Prop
  | .mk op n ks, k => ar op = some ks.length ∧ (if op = 1 then 0 ≤ n ∧ n < k else numok op n) ∧ Tm.scL op 0 ks k
def Tm.scL : Int → Nat → List Tm → Nat → Prop
  | _, _, [], _ => True
  | op, i, t :: l, k => t.sc (k + bindN op i) ∧ Tm.scL op (i + 1) l k
end
mutual
def Tm.bd : Tm → Nat
  | .mk op _ ks => Tm.bdL op 0 ks
def Tm.bdL : Int → Nat → List Tm → Nat
  | _, _, [] => 0
  | op, i, t :: l => max (bindN op i + t.bd) (Tm.bdL op (i + 1) l)
end
section
variable (k0 D : Nat) (L : Int)
mutual
def RV.ok : RV → Prop
  | .mk op n k _ _ => if op = 1 then -(k0 : Int) ≤ n ∧ n < L ∧ k = [] else ar op = some k.length ∧ numok op n ∧ RV.okL op 0 k
def RV.okL : Int → Nat → List RV → Prop
  | _, _, [] => True
  | op, i, v :: l => (if 0 < bindN op i then RV.okC (bindN op i) v else RV.ok v) ∧ RV.okL op (i + 1) l
def RV.okC : Nat → RV → Prop
  | b, .mk _ _ _ env bd => RV.okE env ∧ bd.sc (k0 + env.length + b) ∧ env.length + b + bd.bd ≤ D
def RV.okE : List RV → Prop
  | [] => True
  | v :: l => RV.ok v ∧ RV.okE l
end
end
end Idl
end Go.Proofs.Ytbkdidonegggdaa
namespace Go.Proofs.Ytbkdidonegggdaa
namespace Idl
theorem ar_le {op : Int} {n : Nat} (h : ar op = some n) : n ≤ 4 := by
  unfold ar at h
  repeat' split at h
  all_goals first | (simp only [Option.some.injEq] at h; omega) | cases h
section
variable {k0 D : Nat} {L : Int}
theorem okE_get : ∀ {l : List RV}, RV.okE k0 D L l → ∀ {i : Nat} {v : RV}, l[i]? = some v → RV.ok k0 D L v
  | [], _, i, v, h => by simp at h
  | a :: l, ho, i, v, h => by
    rw [RV.okE] at ho
    cases i with
    | zero => simp at h; subst h; exact ho.1
    | succ i => simp at h; exact okE_get ho.2 h
theorem okE_app : ∀ {l l' : List RV}, RV.okE k0 D L l → RV.okE k0 D L l' → RV.okE k0 D L (l ++ l')
  | [], l', _, h => h
  | a :: l, l', h, h' => by
    rw [RV.okE] at h
    rw [List.cons_append, RV.okE]
    exact ⟨h.1, okE_app h.2 h'⟩
theorem okE_one {v : RV} (h : RV.ok k0 D L v) : RV.okE k0 D L [v] := by rw [RV.okE, RV.okE]; exact ⟨h, trivial⟩
theorem okE_two {v w : RV} (h : RV.ok k0 D L v) (h' : RV.ok k0 D L w) : RV.okE k0 D L [v, w] := by rw [RV.okE]; exact ⟨h, okE_one h'⟩
theorem okL_get : ∀ {l : List RV} {op : Int} {i : Nat}, RV.okL k0 D L op i l → ∀ {j : Nat} {v : RV}, l[j]? = some v → (if 0 < bindN op (i + j) then RV.okC k0 D L (bindN op (i + j)) v else RV.ok k0 D L v)
  | [], op, i, _, j, v, h => by simp at h
  | a :: l, op, i, ho, j, v, h => by
    rw [RV.okL] at ho
    cases j with
    | zero => simp at h; subst h; exact ho.1
    | succ j =>
      simp at h
      have := okL_get ho.2 h
      rw [show i + 1 + j = i + (j + 1) by omega] at this
      exact this
theorem ok_node {op n : Int} {k : List RV} (h1 : op ≠ 1) (ha : ar op = some k.length) (hn : numok op n) (hk : RV.okL k0 D L op 0 k) : RV.ok k0 D L (.node op n k) := by
  rw [RV.node, RV.ok, if_neg h1]; exact ⟨ha, hn, hk⟩
theorem ok_open {v : RV} (h : RV.ok k0 D L v) (h1 : v.op ≠ 1) : ar v.op = some v.k.length ∧ numok v.op v.n ∧ RV.okL k0 D L v.op 0 v.k := by
  obtain ⟨op, n, k, env, b⟩ := v
  rw [RV.ok] at h
  have h1 : op ≠ 1 := h1
  rw [if_neg h1] at h
  exact h
theorem ok_zero : RV.ok k0 D L .zero := by
  rw [RV.zero, RV.ok, if_neg (by decide)]
  exact ⟨by decide, by simp [numok], by rw [RV.okL]; trivial⟩
theorem ok_kid {v : RV} (h : RV.ok k0 D L v) (h1 : v.op ≠ 1) {j : Nat} (hj : j < v.k.length) (hb : bindN v.op j = 0) : ∃ w, v.k[j]? = some w ∧ RV.ok k0 D L w := by
  obtain ⟨_, _, hl⟩ := ok_open h h1
  refine ⟨v.k[j], List.getElem?_eq_getElem hj, ?_⟩
  have := okL_get hl (List.getElem?_eq_getElem hj)
  rw [Nat.zero_add, if_neg (by omega)] at this
  exact this
theorem ok_clo {v : RV} (h : RV.ok k0 D L v) (h1 : v.op ≠ 1) {j : Nat} (hj : j < v.k.length) (hb : 0 < bindN v.op j) : ∃ w, v.k[j]? = some w ∧ RV.okE k0 D L w.env ∧ w.b.sc (k0 + w.env.length + bindN v.op j) ∧ w.env.length + bindN v.op j + w.b.bd ≤ D := by
  obtain ⟨_, _, hl⟩ := ok_open h h1
  refine ⟨v.k[j], List.getElem?_eq_getElem hj, ?_⟩
  have := okL_get hl (List.getElem?_eq_getElem hj)
  rw [Nat.zero_add, if_pos hb] at this
  generalize v.k[j] = w at this ⊢
  obtain ⟨op, n, k, env, b⟩ := w
  rw [RV.okC] at this
  exact this
def Ends (s s' e' : Int) : Prop := s ≤ s' ∧ (e' = 0 ∧ s' ≤ 1000 ∨ e' = 17 ∧ s' = 1001)
def HTot (k0 D : Nat) (L : Int) (c : Nat) : Prop := ∀ (v : RV) (s : Int), v.op ≠ 1 → RV.ok k0 D L v → 0 ≤ s → s ≤ 1000 → 1000 ≤ s + c → ∃ f w s' e', headR f s 0 v = some (w, s', e') ∧ RV.ok k0 D L w ∧ Ends s s' e'
def ETot (k0 D : Nat) (L : Int) (c : Nat) : Prop := ∀ (t : Tm) (env : List RV) (s : Int), RV.okE k0 D L env → t.sc (k0 + env.length) → env.length + t.bd ≤ D → 0 ≤ s → s ≤ 1000 → 1000 ≤ s + c → ∃ f v s' e', evalR f s 0 t env = some (v, s', e') ∧ RV.ok k0 D L v ∧ Ends s s' e'
theorem eval_err (s e : Int) (h : e ≠ 0) (t : Tm) (env : List RV) : evalR 1 s e t env = some (.zero, s, e) := by
  obtain ⟨op, m, ks⟩ := t
  rw [evalR, if_pos h]
theorem eval_any {c : Nat} (h : ETot k0 D L c) {t : Tm} {env : List RV} {s e : Int} (h1 : RV.okE k0 D L env) (h2 : t.sc (k0 + env.length)) (h3 : env.length + t.bd ≤ D) (h0 : 0 ≤ s) (he : e = 0 ∧ s ≤ 1000 ∨ e = 17 ∧ s = 1001) (hc : 1000 ≤ s + c) :
    ∃ f v s' e', evalR f s e t env = some (v, s', e') ∧ RV.ok k0 D L v ∧ Ends s s' e' := by
  rcases he with ⟨rfl, hs⟩ | ⟨rfl, hs⟩
  · exact h t env s h1 h2 h3 h0 hs hc
  · exact ⟨1, _, _, _, eval_err s 17 (by decide) t env, ok_zero, by omega, .inr ⟨rfl, hs⟩⟩
theorem head_tot0 (hD : D ≤ 900000) (c : Nat) (he : ∀ c', c = c' + 1 → ETot k0 D L c') (hh : ∀ c', c = c' + 1 → HTot k0 D L c') : HTot k0 D L c := by
  intro v s h1 ho hs0 hs1 hsc
  obtain ⟨ha, hn, hl⟩ := ok_open ho h1
  have stop : Ends s s 0 := ⟨by omega, .inl ⟨rfl, hs1⟩⟩
  by_cases h5 : v.op = 5
  · have hlen : v.k.length = 2 := by rw [h5] at ha; simpa [ar] using ha.symm
    obtain ⟨k0', hk0, ok0⟩ := ok_kid ho h1 (j := 0) (by omega) (by rw [h5]; rfl)
    obtain ⟨k1, hk1, ok1⟩ := ok_kid ho h1 (j := 1) (by omega) (by rw [h5]; rfl)
    by_cases h4 : k0'.op = 4
    · by_cases hq : s + 1 ≤ 1000
      · obtain ⟨c', rfl⟩ : ∃ c', c = c' + 1 := ⟨c - 1, by omega⟩
        obtain ⟨ha4, _, _⟩ := ok_open ok0 (by omega)
        have hlen4 : k0'.k.length = 2 := by rw [h4] at ha4; simpa [ar] using ha4.symm
        obtain ⟨w, hw, w1, w2, w3⟩ := ok_clo ok0 (by omega) (j := 1) (by omega) (by rw [h4]; decide)
        have hb1 : bindN k0'.op 1 = 1 := by rw [h4]; rfl
        rw [hb1] at w2 w3
        obtain ⟨f, x, s', e', hx, hxo, hxe⟩ := he c' rfl w.b (w.env ++ [k1]) (s + 1) (okE_app w1 (okE_one ok1)) (by simpa [Nat.add_assoc] using w2) (by simp; omega) (by omega) hq (by omega)
        refine ⟨f + 1, x, s', e', ?_, hxo, ?_⟩
        · rw [headR, if_neg (by decide), if_neg (by omega), if_pos h5, hk0]
          simp only [h4, hq, hw, hk1, if_true]
          rw [if_neg (by omega)]
          exact hx
        · exact ⟨by have := hxe.1; omega, hxe.2⟩
      · refine ⟨1, v, s + 1, 17, ?_, ho, by omega, .inr ⟨rfl, by omega⟩⟩
        rw [headR, if_neg (by decide), if_neg (by omega), if_pos h5, hk0]
        simp only [h4, hq, if_true, if_false]
    · refine ⟨1, v, s, 0, ?_, ho, stop⟩
      rw [headR, if_neg (by decide), if_neg (by omega), if_pos h5, hk0]
      simp only [h4, if_false]
  by_cases h89 : v.op = 8 ∨ v.op = 9
  · have hlen : v.k.length = 1 := by rcases h89 with h | h <;> (rw [h] at ha; simpa [ar] using ha.symm)
    obtain ⟨k0', hk0, ok0⟩ := ok_kid ho h1 (j := 0) (by omega) (by rcases h89 with h | h <;> (rw [h]; rfl))
    by_cases h7 : k0'.op = 7
    · by_cases hq : s + 1 ≤ 1000
      · obtain ⟨ha7, _, _⟩ := ok_open ok0 (by omega)
        have hlen7 : k0'.k.length = 3 := by rw [h7] at ha7; simpa [ar] using ha7.symm
        obtain ⟨x, hx, okx⟩ := ok_kid ok0 (by omega) (j := (1 + v.op - 8).toNat) (by omega) (by rw [h7]; rcases h89 with h | h <;> (rw [h]; rfl))
        refine ⟨1, x, s + 1, 0, ?_, okx, by omega, .inl ⟨rfl, hq⟩⟩
        rw [headR, if_neg (by decide), if_neg (by omega), if_neg h5, if_pos h89, hk0]
        simp only [h7, hq, if_true, hx, Option.map_some]
      · refine ⟨1, v, s + 1, 17, ?_, ho, by omega, .inr ⟨rfl, by omega⟩⟩
        rw [headR, if_neg (by decide), if_neg (by omega), if_neg h5, if_pos h89, hk0]
        simp only [h7, hq, if_true, if_false]
    · refine ⟨1, v, s, 0, ?_, ho, stop⟩
      rw [headR, if_neg (by decide), if_neg (by omega), if_neg h5, if_pos h89, hk0]
      simp only [h7, if_false]
  by_cases h30 : v.op = 30
  · have hlen : v.k.length = 1 := by rw [h30] at ha; simpa [ar] using ha.symm
    obtain ⟨k0', hk0, ok0⟩ := ok_kid ho h1 (j := 0) (by omega) (by rw [h30]; rfl)
    by_cases h7 : k0'.op = 19
    · by_cases hq : s + 1 ≤ 1000
      · obtain ⟨ha7, _, _⟩ := ok_open ok0 (by omega)
        have hlen7 : k0'.k.length = 1 := by rw [h7] at ha7; simpa [ar] using ha7.symm
        obtain ⟨x, hx, okx⟩ := ok_kid ok0 (by omega) (j := 0) (by omega) (by rw [h7]; rfl)
        refine ⟨1, x, s + 1, 0, ?_, okx, by omega, .inl ⟨rfl, hq⟩⟩
        rw [headR, if_neg (by decide), if_neg (by omega), if_neg h5, if_neg h89, if_pos h30, hk0]
        simp only [h7, hq, if_true, hx, Option.map_some]
      · refine ⟨1, v, s + 1, 17, ?_, ho, by omega, .inr ⟨rfl, by omega⟩⟩
        rw [headR, if_neg (by decide), if_neg (by omega), if_neg h5, if_neg h89, if_pos h30, hk0]
        simp only [h7, hq, if_true, if_false]
    · refine ⟨1, v, s, 0, ?_, ho, stop⟩
      rw [headR, if_neg (by decide), if_neg (by omega), if_neg h5, if_neg h89, if_pos h30, hk0]
      simp only [h7, if_false]
  by_cases h19 : v.op = 19
  · have hlen : v.k.length = 1 := by rw [h19] at ha; simpa [ar] using ha.symm
    obtain ⟨k0', hk0, ok0⟩ := ok_kid ho h1 (j := 0) (by omega) (by rw [h19]; rfl)
    by_cases h7 : k0'.op = 30
    · by_cases hq : s + 1 ≤ 1000
      · obtain ⟨ha7, _, _⟩ := ok_open ok0 (by omega)
        have hlen7 : k0'.k.length = 1 := by rw [h7] at ha7; simpa [ar] using ha7.symm
        obtain ⟨x, hx, okx⟩ := ok_kid ok0 (by omega) (j := 0) (by omega) (by rw [h7]; rfl)
        refine ⟨1, x, s + 1, 0, ?_, okx, by omega, .inl ⟨rfl, hq⟩⟩
        rw [headR, if_neg (by decide), if_neg (by omega), if_neg h5, if_neg h89, if_neg h30, if_pos h19, hk0]
        simp only [h7, hq, if_true, hx, Option.map_some]
      · refine ⟨1, v, s + 1, 17, ?_, ho, by omega, .inr ⟨rfl, by omega⟩⟩
        rw [headR, if_neg (by decide), if_neg (by omega), if_neg h5, if_neg h89, if_neg h30, if_pos h19, hk0]
        simp only [h7, hq, if_true, if_false]
    · refine ⟨1, v, s, 0, ?_, ho, stop⟩
      rw [headR, if_neg (by decide), if_neg (by omega), if_neg h5, if_neg h89, if_neg h30, if_pos h19, hk0]
      simp only [h7, if_false]
  by_cases h13 : v.op = 13
  · have hlen : v.k.length = 4 := by rw [h13] at ha; simpa [ar] using ha.symm
    obtain ⟨a0, hk0, c0⟩ := ok_clo ho h1 (j := 0) (by omega) (by rw [h13]; decide)
    obtain ⟨a1, hk1, ok1⟩ := ok_kid ho h1 (j := 1) (by omega) (by rw [h13]; rfl)
    obtain ⟨a2, hk2, w1, w2, w3⟩ := ok_clo ho h1 (j := 2) (by omega) (by rw [h13]; decide)
    obtain ⟨a3, hk3, ok3⟩ := ok_kid ho h1 (j := 3) (by omega) (by rw [h13]; rfl)
    have hb2 : bindN v.op 2 = 2 := by rw [h13]; rfl
    rw [hb2] at w2 w3
    by_cases h11 : a3.op = 11
    · by_cases hq : s + 1 ≤ 1000
      · refine ⟨1, a1, s + 1, 0, ?_, ok1, by omega, .inl ⟨rfl, hq⟩⟩
        rw [headR, if_neg (by decide), if_neg (by omega), if_neg h5, if_neg h89, if_neg h30, if_neg h19, if_pos h13, hk0, hk1, hk2, hk3]
        simp only [h11, hq, if_true]
      · refine ⟨1, v, s + 1, 17, ?_, ho, by omega, .inr ⟨rfl, by omega⟩⟩
        rw [headR, if_neg (by decide), if_neg (by omega), if_neg h5, if_neg h89, if_neg h30, if_neg h19, if_pos h13, hk0, hk1, hk2, hk3]
        simp only [h11, hq, if_true, if_false]
    by_cases h12 : a3.op = 12
    · by_cases hq : s + 1 ≤ 1000
      · obtain ⟨c', rfl⟩ : ∃ c', c = c' + 1 := ⟨c - 1, by omega⟩
        obtain ⟨ha12, _, _⟩ := ok_open ok3 (by omega)
        have hlen12 : a3.k.length = 1 := by rw [h12] at ha12; simpa [ar] using ha12.symm
        obtain ⟨x, hx, okx⟩ := ok_kid ok3 (by omega) (j := 0) (by omega) (by rw [h12]; rfl)
        have hrec : RV.ok k0 D L (.node 13 0 [a0, a1, a2, x]) := by
          refine ok_node (by decide) rfl (by simp [numok]) ?_
          have e0 := okL_get hl hk0
          have e2 := okL_get hl hk2
          rw [h13] at e0 e2
          simp only [RV.okL]
          exact ⟨e0, ok1, e2, okx, trivial⟩
        obtain ⟨f, h, s2, e2, hd, hdo, hde⟩ := hh c' rfl _ (s + 1) (by simp [RV.node, RV.op]) hrec (by omega) hq (by omega)
        obtain ⟨g, y, s3, e3, hy, hyo, hye⟩ := eval_any (he c' rfl) (t := a2.b) (env := a2.env ++ [x, h]) (s := s2) (e := e2) (okE_app w1 (okE_two okx hdo)) (by simpa [Nat.add_assoc] using w2) (by simp; omega) (by have := hde.1; omega) hde.2 (by have := hde.1; omega)
        refine ⟨f + g + 1, y, s3, e3, ?_, hyo, by have := hde.1; have := hye.1; omega, hye.2⟩
        rw [headR, if_neg (by decide), if_neg (by omega), if_neg h5, if_neg h89, if_neg h30, if_neg h19, if_pos h13, hk0, hk1, hk2, hk3]
        simp only [h12, hq, if_true, hx, head_le (show f ≤ f + g by omega) hd]
        rw [if_neg (by decide), if_neg (by omega)]
        exact eval_le (by omega) hy
      · refine ⟨1, v, s + 1, 17, ?_, ho, by omega, .inr ⟨rfl, by omega⟩⟩
        rw [headR, if_neg (by decide), if_neg (by omega), if_neg h5, if_neg h89, if_neg h30, if_neg h19, if_pos h13, hk0, hk1, hk2, hk3]
        simp only [h12, hq, if_true, if_false]
        rw [if_neg (by decide)]
    · refine ⟨1, v, s, 0, ?_, ho, stop⟩
      rw [headR, if_neg (by decide), if_neg (by omega), if_neg h5, if_neg h89, if_neg h30, if_neg h19, if_pos h13, hk0, hk1, hk2, hk3]
      simp only [h11, h12, if_false]
  · refine ⟨1, v, s, 0, ?_, ho, stop⟩
    rw [headR, if_neg (by decide), if_neg (by omega), if_neg h5, if_neg h89, if_neg h30, if_neg h19, if_neg h13]
end
end Idl
end Go.Proofs.Ytbkdidonegggdaa
namespace Go.Proofs.Ytbkdidonegggdaa
namespace Idl
section
variable {k0 D : Nat} {L : Int}
theorem kids_tot {c : Nat} {env : List RV} (henv : RV.okE k0 D L env) (op : Int) : ∀ (l : List Tm) (i : Nat) (s e : Int),
    (∀ t ∈ l, ∀ s : Int, t.sc (k0 + env.length) → env.length + t.bd ≤ D → 0 ≤ s → s ≤ 1000 → 1000 ≤ s + c → ∃ f v s' e', evalR f s 0 t env = some (v, s', e') ∧ RV.ok k0 D L v ∧ Ends s s' e') →
    Tm.scL op i l (k0 + env.length) → env.length + Tm.bdL op i l ≤ D → 0 ≤ s → (e = 0 ∧ s ≤ 1000 ∨ e = 17 ∧ s = 1001) → 1000 ≤ s + c →
    ∃ f vs s' e', kidsG (fun s e t => evalR f s e t env) op env i l s e = some (vs, s', e') ∧ RV.okL k0 D L op i vs ∧ vs.length = l.length ∧ Ends s s' e'
  | [], i, s, e, _, _, _, h0, he, _ => ⟨0, [], s, e, rfl, by rw [RV.okL]; trivial, rfl, by omega, he⟩
  | t :: l, i, s, e, hev, hsc, hbd, h0, he, hc => by
    rw [Tm.scL] at hsc
    rw [Tm.bdL] at hbd
    by_cases hb : 0 < bindN op i
    · obtain ⟨f, vs, s', e', hk, hok, hlen, hend⟩ := kids_tot henv op l (i + 1) s e (fun u hu => hev u (List.mem_cons_of_mem _ hu)) hsc.2 (by omega) h0 he hc
      refine ⟨f, .clo env t :: vs, s', e', ?_, ?_, by simp [hlen], hend⟩
      · rw [kidsG, if_pos hb, hk]; rfl
      · rw [RV.okL, if_pos hb, RV.clo, RV.okC]
        exact ⟨⟨henv, hsc.1, by omega⟩, hok⟩
    · have hb0 : bindN op i = 0 := by omega
      rw [hb0] at hsc hbd
      have h1 : ∃ f v s' e', evalR f s e t env = some (v, s', e') ∧ RV.ok k0 D L v ∧ Ends s s' e' := by
        rcases he with ⟨rfl, hs⟩ | ⟨rfl, hs⟩
        · exact hev t List.mem_cons_self s (by simpa using hsc.1) (by omega) h0 hs hc
        · exact ⟨1, _, _, _, eval_err s 17 (by decide) t env, ok_zero, by omega, .inr ⟨rfl, hs⟩⟩
      obtain ⟨f, v, s1, e1, hv, hvo, hve⟩ := h1
      obtain ⟨g, vs, s', e', hk, hok, hlen, hend⟩ := kids_tot henv op l (i + 1) s1 e1 (fun u hu => hev u (List.mem_cons_of_mem _ hu)) hsc.2 (by omega) (by have := hve.1; omega) hve.2 (by have := hve.1; omega)
      refine ⟨f + g, v :: vs, s', e', ?_, ?_, by simp [hlen], by have := hve.1; have := hend.1; omega, hend.2⟩
      · rw [kidsG, if_neg hb]
        simp only [eval_le (show f ≤ f + g by omega) hv]
        rw [kidsG_mono (ev := fun s e t => evalR g s e t env) (fun s e t r h => eval_le (by omega) h) op env l (i + 1) s1 e1 _ hk]
        rfl
      · rw [RV.okL, if_neg hb]
        exact ⟨hvo, hok⟩
theorem eval_tot0 (hD : D ≤ 900000) (hL : 0 ≤ L) (hk0 : k0 ≤ 900000) {c : Nat} (hh : HTot k0 D L c) : ∀ (m : Nat) (t : Tm) (env : List RV) (s : Int), t.wt < m → RV.okE k0 D L env → t.sc (k0 + env.length) → env.length + t.bd ≤ D → 0 ≤ s → s ≤ 1000 → 1000 ≤ s + c →
    ∃ f v s' e', evalR f s 0 t env = some (v, s', e') ∧ RV.ok k0 D L v ∧ Ends s s' e' := by
  intro m
  induction m with
  | zero => intro t env s h; omega
  | succ m ih =>
    intro t env s hw henv hsc hbd h0 h1 hc
    obtain ⟨op, n, ks⟩ := t
    rw [Tm.sc] at hsc
    rw [Tm.bd] at hbd
    simp only [Tm.wt] at hw
    by_cases hop : op = 1
    · subst hop
      rw [if_pos rfl] at hsc
      have hkl : ks = [] := by
        have := hsc.1
        simp [ar] at this
        exact List.length_eq_zero_iff.1 this.symm
      by_cases hm : n < env.length
      · have hlt : ((env.length : Int) - 1 - n).toNat < env.length := by omega
        refine ⟨1, env[((env.length : Int) - 1 - n).toNat], s, 0, ?_, okE_get henv (List.getElem?_eq_getElem hlt), by omega, .inl ⟨rfl, h1⟩⟩
        rw [evalR, if_neg (by decide), if_neg (by omega), if_pos rfl, if_pos hm, if_pos hsc.2.1.1, List.getElem?_eq_getElem hlt]
        rfl
      · refine ⟨1, .var (env.length - 1 - n), s, 0, ?_, ?_, by omega, .inl ⟨rfl, h1⟩⟩
        · rw [evalR, if_neg (by decide), if_neg (by omega), if_pos rfl, if_neg hm, if_pos (by have := hsc.2.1.2; omega)]
        · rw [RV.var, RV.ok, if_pos rfl]
          have := hsc.2.1.2
          exact ⟨by omega, by omega, rfl⟩
    · rw [if_neg hop] at hsc
      obtain ⟨f, vs, s1, e1, hk, hok, hlen, hend⟩ := kids_tot (c := c) henv op ks 0 s 0 (fun t ht s => fun a b c' d e => ih t env s (by have := wt_mem ht; omega) henv a b c' d e) hsc.2.2 hbd h0 (.inl ⟨rfl, h1⟩) hc
      have hnode : RV.ok k0 D L (.node op n vs) := ok_node hop (by rw [hlen]; exact hsc.1) hsc.2.1 hok
      have har := ar_le hsc.1
      have h2 : ∃ g w s' e', headR g s1 e1 (.node op n vs) = some (w, s', e') ∧ RV.ok k0 D L w ∧ Ends s1 s' e' := by
        rcases hend.2 with ⟨he, hs⟩ | ⟨he, hs⟩
        · subst he
          exact hh _ s1 (by simpa [RV.node, RV.op] using hop) hnode (by have := hend.1; omega) hs (by have := hend.1; omega)
        · subst he
          refine ⟨1, _, s1, 17, by rw [headR, if_pos (by decide)], hnode, by omega, .inr ⟨rfl, hs⟩⟩
      obtain ⟨g, w, s', e', hw2, hwo, hwe⟩ := h2
      refine ⟨f + g + 5 + 1, w, s', e', ?_, hwo, by have := hend.1; have := hwe.1; omega, hwe.2⟩
      rw [evalR, if_neg (by decide), if_neg (by omega), if_neg hop, if_neg (by omega), if_neg (by omega)]
      rw [kidsG_mono (ev := fun s e t => evalR f s e t env) (fun s e t r h => eval_le (by omega) h) op env ks 0 s 0 _ hk]
      exact head_le (by omega) hw2
theorem tot (hD : D ≤ 900000) (hL : 0 ≤ L) (hk0 : k0 ≤ 900000) : ∀ c, HTot k0 D L c ∧ ETot k0 D L c := by
  intro c
  induction c with
  | zero =>
    have hH : HTot k0 D L 0 := head_tot0 hD 0 (fun c' h => by omega) (fun c' h => by omega)
    exact ⟨hH, fun t env s a b c d e f => eval_tot0 hD hL hk0 hH (t.wt + 1) t env s (by omega) a b c d e f⟩
  | succ c ih =>
    have hH : HTot k0 D L (c + 1) := head_tot0 hD (c + 1) (fun c' h => by cases h; exact ih.2) (fun c' h => by cases h; exact ih.1)
    exact ⟨hH, fun t env s a b c d e f => eval_tot0 hD hL hk0 hH (t.wt + 1) t env s (by omega) a b c d e f⟩
end
end Idl
end Go.Proofs.Ytbkdidonegggdaa
namespace Go.Proofs.Ytbkdidonegggdaa
namespace Idl
section
variable {k0 D : Nat} {L L' : Int}
mutual
theorem ok_mono (h : L ≤ L') : ∀ v : RV, RV.ok k0 D L v → RV.ok k0 D L' v
  | .mk op n k env b, hv => by
    rw [RV.ok] at hv ⊢
    by_cases h1 : op = 1
    · rw [if_pos h1] at hv ⊢
      exact ⟨hv.1, by omega, hv.2.2⟩
    · rw [if_neg h1] at hv ⊢
      exact ⟨hv.1, hv.2.1, okL_mono h k op 0 hv.2.2⟩
theorem okL_mono (h : L ≤ L') : ∀ (l : List RV) (op : Int) (i : Nat), RV.okL k0 D L op i l → RV.okL k0 D L' op i l
  | [], op, i, _ => by rw [RV.okL]; trivial
  | v :: l, op, i, hv => by
    rw [RV.okL] at hv ⊢
    refine ⟨?_, okL_mono h l op (i + 1) hv.2⟩
    by_cases hb : 0 < bindN op i
    · rw [if_pos hb]
      have := hv.1
      rw [if_pos hb] at this
      exact okC_mono h v (bindN op i) this
    · rw [if_neg hb]
      have := hv.1
      rw [if_neg hb] at this
      exact ok_mono h v this
theorem okC_mono (h : L ≤ L') : ∀ (v : RV) (b : Nat), RV.okC k0 D L b v → RV.okC k0 D L' b v
  | .mk op n k env bd, b, hv => by
    rw [RV.okC] at hv ⊢
    exact ⟨okE_mono h env hv.1, hv.2⟩
theorem okE_mono (h : L ≤ L') : ∀ (l : List RV), RV.okE k0 D L l → RV.okE k0 D L' l
  | [], _ => by rw [RV.okE]; trivial
  | v :: l, hv => by
    rw [RV.okE] at hv ⊢
    exact ⟨ok_mono h v hv.1, okE_mono h l hv.2⟩
end
theorem upV_ok (u : Nat) : ∀ b : Nat, RV.okE k0 D ((u + b : Nat) : Int) (upV u b)
  | 0 => by simp only [upV, List.range_zero, List.map_nil]; rw [RV.okE]; trivial
  | b + 1 => by
    rw [upV_succ]
    refine okE_app (okE_mono (by omega) _ (upV_ok u b)) (okE_one ?_)
    rw [RV.var, RV.ok, if_pos rfl]
    exact ⟨by omega, by omega, rfl⟩
end
theorem readK_mono {f g : Nat} (hfg : f ≤ g) {rd rd' : Int → Int → Int → RV → Int → Option (Tm × Int × Int × Int)} (h : ∀ s nd e k u r, rd s nd e k u = some r → rd' s nd e k u = some r) (op u : Int) : ∀ (l : List RV) (i : Nat) (s nd e : Int) (r : List Tm × Int × Int × Int),
    readK rd f op u i l s nd e = some r → readK rd' g op u i l s nd e = some r
  | [], i, s, nd, e, r, hr => hr
  | k :: l, i, s, nd, e, r, hr => by
    simp only [readK] at hr ⊢
    have key : ∀ q, (if 0 < bindN op i then (if 900000 < k.env.length then none else evalR f s e k.b (k.env ++ upV u (bindN op i))) else some (k, s, e)) = some q →
        (if 0 < bindN op i then (if 900000 < k.env.length then none else evalR g s e k.b (k.env ++ upV u (bindN op i))) else some (k, s, e)) = some q := by
      intro q hq
      by_cases hb : 0 < bindN op i
      · rw [if_pos hb] at hq ⊢
        by_cases hl : 900000 < k.env.length
        · rw [if_pos hl] at hq; cases hq
        · rw [if_neg hl] at hq ⊢; exact eval_le hfg hq
      · rw [if_neg hb] at hq ⊢; exact hq
    cases hq : (if 0 < bindN op i then (if 900000 < k.env.length then none else evalR f s e k.b (k.env ++ upV u (bindN op i))) else some (k, s, e)) with
    | none => rw [hq] at hr; cases hr
    | some q =>
      rw [key q hq]
      rw [hq] at hr
      obtain ⟨y, s1, e1⟩ := q
      simp only at hr ⊢
      cases hd : rd s1 nd e1 y (u + bindN op i) with
      | none => rw [hd] at hr; cases hr
      | some q =>
        obtain ⟨t, s2, nd2, e2⟩ := q
        rw [hd] at hr
        rw [h _ _ _ _ _ _ hd]
        simp only at hr ⊢
        cases hk : readK rd f op u (i + 1) l s2 nd2 e2 with
        | none => rw [hk] at hr; cases hr
        | some q => rw [hk] at hr; rw [readK_mono hfg h op u l (i + 1) s2 nd2 e2 q hk]; exact hr
theorem read_mono : ∀ f s nd e v u d r, readR f s nd e v u d = some r → readR (f + 1) s nd e v u d = some r := by
  intro f
  induction f with
  | zero => intro s nd e v u d r h; rw [readR] at h; cases h
  | succ f ih =>
    intro s nd e v u d r h
    rw [readR] at h ⊢
    by_cases hbad : nd < 0 ∨ 1000000 < nd ∨ u < 0 ∨ 1000000 < u ∨ d < 0 ∨ 1000000 < d ∨ v.n < -2305843009213693952 ∨ 2305843009213693952 < v.n ∨ f ≤ v.k.length ∨ 900000 < v.k.length ∨ f ≤ 3
    · rw [if_pos hbad] at h; cases h
    · rw [if_neg hbad] at h
      rw [if_neg (by omega)]
      generalize (if e = 0 ∧ (3000 < nd + 1 ∨ 120 < d) then (5 : Int) else e) = e1 at h ⊢
      by_cases he : e1 ≠ 0
      · rw [if_pos he] at h ⊢; exact h
      · rw [if_neg he] at h ⊢
        by_cases h1 : v.op = 1
        · rw [if_pos h1] at h ⊢; exact h
        · rw [if_neg h1] at h ⊢
          cases hk : readK (fun s nd e k u => readR f s nd e k u (d + 1)) f v.op u 0 v.k s (nd + 1) 0 with
          | none => rw [hk] at h; cases h
          | some q =>
            rw [hk] at h
            rw [readK_mono (g := f + 1) (rd' := fun s nd e k u => readR (f + 1) s nd e k u (d + 1)) (by omega) (fun s nd e k u r hr => ih _ _ _ _ _ _ _ hr) v.op u v.k 0 s (nd + 1) 0 q hk]
            exact h
theorem read_le {f g : Nat} (hfg : f ≤ g) {s nd e u d : Int} {v : RV} {r : Tm × Int × Int × Int} (h : readR f s nd e v u d = some r) : readR g s nd e v u d = some r := by
  induction hfg with
  | refl => exact h
  | step _ ih => exact read_mono _ _ _ _ _ _ _ _ ih
mutual
def Tm.dp : Tm → Nat
  | .mk _ _ ks => 1 + Tm.dpL ks
def Tm.dpL : List Tm → Nat
  | [] => 0
  | t :: l => max t.dp (Tm.dpL l)
end
def MSt (s e : Int) : Prop := 0 ≤ s ∧ (e = 0 ∧ s ≤ 1000 ∨ e = 17 ∧ s = 1001 ∨ e = 5 ∧ s ≤ 1001)
theorem num_le {op n : Int} (h : numok op n) : -2305843009213693952 ≤ n ∧ n ≤ 2305843009213693952 := by
  unfold numok at h
  repeat' split at h
  all_goals omega
def Red (k0 : Nat) (u d : Nat) (nd : Int) (t : Tm) (s' nd' e' : Int) : Prop :=
  MSt s' e' ∧ (e' = 0 → nd' ≤ 3000 ∧ t.sc (k0 + u) ∧ (t.wt : Int) = nd' - nd ∧ t.dp + d ≤ 121) ∧ nd' ≤ 3001 + 3 * (121 - (d : Int)) ∧ nd ≤ nd'
section
variable {k0 D : Nat}
theorem read_err (s nd e u d : Int) (v : RV) (he : e ≠ 0) (h1 : 0 ≤ nd) (h2 : nd ≤ 1000000) (h3 : 0 ≤ u) (h4 : u ≤ 1000000) (h5 : 0 ≤ d) (h6 : d ≤ 1000000) (h7 : -2305843009213693952 ≤ v.n) (h8 : v.n ≤ 2305843009213693952) (h9 : v.k.length ≤ 900000) :
    readR (v.k.length + 10) s nd e v u d = some (.z, s, nd + 1, e) := by
  rw [show v.k.length + 10 = (v.k.length + 9) + 1 by omega, readR, if_neg (by omega)]
  have : (if e = 0 ∧ (3000 < nd + 1 ∨ 120 < d) then (5 : Int) else e) = e := if_neg (by omega)
  rw [this, if_pos he]
def RTot (k0 D c : Nat) : Prop := ∀ (v : RV) (s nd : Int) (u d : Nat), RV.ok k0 D u v → 0 ≤ s → s ≤ 1000 → 0 ≤ nd → nd ≤ 3000 → 3001 ≤ nd + c → u ≤ 2 * d → 1 ≤ d → d ≤ 121 →
  ∃ f t s' nd' e', readR f s nd 0 v u d = some (t, s', nd', e') ∧ Red k0 u d nd t s' nd' e'
theorem ok_small {L : Int} {v : RV} (hL : L ≤ 1000000) (hk : k0 ≤ 900000) (h : RV.ok k0 D L v) : -2305843009213693952 ≤ v.n ∧ v.n ≤ 2305843009213693952 ∧ v.k.length ≤ 4 := by
  obtain ⟨op, n, k, env, b⟩ := v
  rw [RV.ok] at h
  by_cases h1 : op = 1
  · rw [if_pos h1] at h
    refine ⟨?_, ?_, ?_⟩
    · show _ ≤ n; omega
    · show n ≤ _; omega
    · show k.length ≤ 4; rw [h.2.2]; simp
  · rw [if_neg h1] at h
    have := num_le h.2.1
    exact ⟨this.1, this.2, ar_le h.1⟩
theorem kids_read (hD : D ≤ 800000) (hk : k0 ≤ 800000) {c : Nat} (hr : RTot k0 D c) (op : Int) (u d : Nat) (hu : u ≤ 2 * d) (hd1 : 1 ≤ d) (hd : d ≤ 120) : ∀ (l : List RV) (i : Nat) (s nd e : Int), RV.okL k0 D u op i l → MSt s e → 0 ≤ nd → nd + l.length ≤ 5000 → l.length ≤ 4 → (e = 0 → nd ≤ 3000 ∧ 3001 ≤ nd + c) →
    ∃ f ts s' nd' e', readK (fun s nd e k u => readR f s nd e k u ((d : Int) + 1)) f op u i l s nd e = some (ts, s', nd', e') ∧ MSt s' e' ∧ nd ≤ nd' ∧
      (e' = 0 → e = 0 ∧ nd' ≤ 3000 ∧ Tm.scL op i ts (k0 + u) ∧ ts.length = l.length ∧ (Tm.wtL ts : Int) = nd' - nd ∧ Tm.dpL ts + d + 1 ≤ 121) ∧
      (e = 0 → nd' ≤ 3000 ∨ nd' + 1 ≤ 3001 + 3 * (120 - (d : Int)) + l.length) ∧ (e ≠ 0 → nd' = nd + l.length)
  | [], i, s, nd, e, _, hst, h0, h5, _, he => by
    refine ⟨0, [], s, nd, e, rfl, hst, Int.le_refl _, fun h => ⟨h, (he h).1, by rw [Tm.scL]; trivial, rfl, by simp [Tm.wtL], by simp only [Tm.dpL]; omega⟩, fun h => .inl (he h).1, fun _ => by simp⟩
  | k :: l, i, s, nd, e, hl, hst, h0, h5, hl4, he => by
    rw [RV.okL] at hl
    simp only [List.length_cons] at hl4 h5
    have hbl := bindN_le op i
    have h1 : ∃ f y s1 e1, (if 0 < bindN op i then (if 900000 < k.env.length then none else evalR f s e k.b (k.env ++ upV u (bindN op i))) else some (k, s, e)) = some (y, s1, e1) ∧ RV.ok k0 D ((u + bindN op i : Nat) : Int) y ∧ MSt s1 e1 ∧ (e ≠ 0 → e1 ≠ 0) := by
      by_cases hb : 0 < bindN op i
      · have hc := hl.1
        rw [if_pos hb] at hc
        have hce : RV.okE k0 D u k.env ∧ k.b.sc (k0 + k.env.length + bindN op i) ∧ k.env.length + bindN op i + k.b.bd ≤ D := by
          obtain ⟨_, _, _, env, b⟩ := k
          rw [RV.okC] at hc
          exact hc
        by_cases he0 : e = 0
        · subst he0
          have hs : s ≤ 1000 := by rcases hst.2 with ⟨_, h⟩ | ⟨h, _⟩ | ⟨h, _⟩ <;> omega
          obtain ⟨f, y, s1, e1, hy, hyo, hye⟩ := (tot (k0 := k0) (D := D) (L := ((u + bindN op i : Nat) : Int)) (by omega) (by omega) (by omega) 1000).2 k.b (k.env ++ upV u (bindN op i)) s
            (okE_app (okE_mono (by omega) _ hce.1) (upV_ok u _)) (by rw [List.length_append, upV_len, ← Nat.add_assoc]; exact hce.2.1) (by rw [List.length_append, upV_len]; omega) hst.1 hs (by have := hst.1; omega)
          refine ⟨f, y, s1, e1, ?_, hyo, ⟨by have := hye.1; have := hst.1; omega, ?_⟩, fun h => absurd rfl h⟩
          · rw [if_pos hb, if_neg (by omega)]; exact hy
          · rcases hye.2 with h | h
            · exact .inl h
            · exact .inr (.inl h)
        · refine ⟨1, .zero, s, e, ?_, ok_zero, hst, fun h => h⟩
          rw [if_pos hb, if_neg (by omega), eval_err s e he0]
      · have hc := hl.1
        rw [if_neg hb] at hc
        refine ⟨0, k, s, e, by rw [if_neg hb], ok_mono (by omega) _ hc, hst, fun h => h⟩
    obtain ⟨f1, y, s1, e1, hy, hyo, hst1, hee⟩ := h1
    have hsm := ok_small (by omega) (by omega) hyo
    have h2 : ∃ f t s2 nd2 e2, readR f s1 nd e1 y ((u + bindN op i : Nat) : Int) ((d : Int) + 1) = some (t, s2, nd2, e2) ∧ MSt s2 e2 ∧ nd ≤ nd2 ∧
        (e2 = 0 → e1 = 0 ∧ nd2 ≤ 3000 ∧ t.sc (k0 + u + bindN op i) ∧ (t.wt : Int) = nd2 - nd ∧ t.dp + d + 1 ≤ 121 ∧ nd + 1 ≤ nd2) ∧ (e1 = 0 → nd2 ≤ 3001 + 3 * (120 - (d : Int))) ∧ (e1 ≠ 0 → nd2 = nd + 1) := by
      by_cases he1 : e1 = 0
      · subst he1
        have he0 : e = 0 := Classical.byContradiction fun h => hee h rfl
        have hn := he he0
        have hs : s1 ≤ 1000 := by rcases hst1.2 with ⟨_, h⟩ | ⟨h, _⟩ | ⟨h, _⟩ <;> omega
        obtain ⟨f, t, s2, nd2, e2, ht, hR⟩ := hr y s1 nd (u + bindN op i) (d + 1) hyo hst1.1 hs h0 hn.1 hn.2 (by omega) (by omega) (by omega)
        refine ⟨f, t, s2, nd2, e2, by simpa using ht, hR.1, hR.2.2.2, fun h => ?_, fun _ => by have := hR.2.2.1; omega, fun h => absurd rfl h⟩
        have := hR.2.1 h
        have hw := wt_pos t
        exact ⟨rfl, this.1, by rw [Nat.add_assoc]; exact this.2.1, this.2.2.1, by omega, by omega⟩
      · refine ⟨y.k.length + 10, .z, s1, nd + 1, e1, read_err s1 nd e1 _ _ y he1 h0 (by omega) (by omega) (by omega) (by omega) (by omega) hsm.1 hsm.2.1 (by omega), hst1, by omega, fun h => absurd h he1, fun h => absurd h he1, fun _ => rfl⟩
    obtain ⟨f2, t, s2, nd2, e2, ht, hst2, hle, hok, hbd, her⟩ := h2
    obtain ⟨f3, ts, s3, nd3, e3, hk3, hst3, hle3, hok3, hbd3, her3⟩ := kids_read hD hk hr op u d hu hd1 hd l (i + 1) s2 nd2 e2 hl.2 hst2 (by omega) (by
        by_cases he1 : e1 = 0
        · have := hbd he1; omega
        · have := her he1
          by_cases he0 : e = 0
          · have := (he he0).1; omega
          · omega) (by omega) (fun h => by
        have h2 := hok h
        have he0 : e = 0 := Classical.byContradiction fun h' => hee h' h2.1
        have := he he0
        omega)
    refine ⟨f1 + f2 + f3, t :: ts, s3, nd3, e3, ?_, hst3, by omega, fun h => ?_, fun h => ?_, fun h => ?_⟩
    · have hy' : (if 0 < bindN op i then (if 900000 < k.env.length then none else evalR (f1 + f2 + f3) s e k.b (k.env ++ upV u (bindN op i))) else some (k, s, e)) = some (y, s1, e1) := by
        by_cases hb : 0 < bindN op i
        · rw [if_pos hb] at hy ⊢
          by_cases hl : 900000 < k.env.length
          · rw [if_pos hl] at hy; cases hy
          · rw [if_neg hl] at hy ⊢; exact eval_le (by omega) hy
        · rw [if_neg hb] at hy ⊢; exact hy
      rw [readK, hy']
      simp only
      rw [show (u : Int) + (bindN op i : Int) = ((u + bindN op i : Nat) : Int) by omega, read_le (show f2 ≤ f1 + f2 + f3 by omega) ht]
      simp only
      rw [readK_mono (f := f3) (rd := fun s nd e k u => readR f3 s nd e k u ((d : Int) + 1)) (by omega) (fun s nd e k u r h => read_le (by omega) h) op u l (i + 1) s2 nd2 e2 _ hk3]
      rfl
    · have h3 := hok3 h
      have h2 := hok h3.1
      have he0 : e = 0 := Classical.byContradiction fun h' => hee h' h2.1
      refine ⟨he0, h3.2.1, ?_, by simp [h3.2.2.2.1], ?_, ?_⟩
      · rw [Tm.scL]; exact ⟨h2.2.2.1, h3.2.2.1⟩
      · simp only [Tm.wtL]; have := h2.2.2.2.1; have := h3.2.2.2.2.1; omega
      · simp only [Tm.dpL]; have := h2.2.2.2.2.1; have := h3.2.2.2.2.2; omega
    · simp only [List.length_cons]
      by_cases he1 : e1 = 0
      · by_cases he2 : e2 = 0
        · have := hbd3 he2; omega
        · have := her3 he2; have := hbd he1; omega
      · have h6 := her he1
        have h7 : e2 ≠ 0 := fun h' => he1 (hok h').1
        have := her3 h7
        have := (he h).1
        omega
    · simp only [List.length_cons]
      have he1 := hee h
      have h7 : e2 ≠ 0 := fun h' => he1 (hok h').1
      have := her3 h7
      have := her he1
      omega
theorem read_tot (hD : D ≤ 800000) (hk : k0 ≤ 800000) : ∀ c, RTot k0 D c := by
  intro c
  induction c with
  | zero => intro v s nd u d _ _ _ _ h1 h2; omega
  | succ c ih =>
    intro v s nd u d hv h0 hs hn0 hn hc hu hd1 hd
    have hsm := ok_small (by omega) (by omega) hv
    have hst : MSt s 0 := ⟨h0, .inl ⟨rfl, hs⟩⟩
    by_cases h3 : 3000 < nd + 1 ∨ 120 < (d : Int)
    · refine ⟨v.k.length + 10, .z, s, nd + 1, 5, ?_, ⟨h0, .inr (.inr ⟨rfl, by omega⟩)⟩, (fun h => absurd h (by decide)), by omega, by omega⟩
      rw [show v.k.length + 10 = (v.k.length + 9) + 1 by omega, readR, if_neg (by omega)]
      have e5 : (if (0 : Int) = 0 ∧ (3000 < nd + 1 ∨ 120 < (d : Int)) then (5 : Int) else 0) = 5 := if_pos ⟨rfl, h3⟩
      rw [e5, if_pos (by decide)]
    · have e5 : (if (0 : Int) = 0 ∧ (3000 < nd + 1 ∨ 120 < (d : Int)) then (5 : Int) else 0) = 0 := if_neg (fun h => h3 h.2)
      by_cases h1 : v.op = 1
      · have hvn : -(k0 : Int) ≤ v.n ∧ v.n < u := by
          obtain ⟨op, n, k, env, b⟩ := v
          have h1' : op = 1 := h1
          rw [RV.ok, if_pos h1'] at hv
          exact ⟨hv.1, hv.2.1⟩
        refine ⟨v.k.length + 10, .mk 1 (u - 1 - v.n) [], s, nd + 1, 0, ?_, hst, fun _ => ⟨by omega, ?_, by simp only [Tm.wt, Tm.wtL]; omega, by simp only [Tm.dp, Tm.dpL]; omega⟩, by omega, by omega⟩
        · rw [show v.k.length + 10 = (v.k.length + 9) + 1 by omega, readR, if_neg (by omega), e5, if_neg (by decide), if_pos h1]
        · rw [Tm.sc, if_pos rfl, Tm.scL]
          exact ⟨rfl, by omega, trivial⟩
      · obtain ⟨ha, hnum, hl⟩ := ok_open hv h1
        obtain ⟨f, ts, s', nd', e', hk2, hst', hle, hok, hbd, _⟩ := kids_read hD hk ih v.op u d hu hd1 (by omega) v.k 0 s (nd + 1) 0 hl hst (by omega) (by omega) (by omega) (fun _ => by omega)
        refine ⟨f + v.k.length + 10, .mk v.op v.n ts, s', nd', e', ?_, hst', fun h => ?_, by have := hbd rfl; omega, by omega⟩
        · rw [show f + v.k.length + 10 = (f + v.k.length + 9) + 1 by omega, readR, if_neg (by omega), e5, if_neg (by decide), if_neg h1]
          rw [readK_mono (f := f) (rd := fun s nd e k u => readR f s nd e k u ((d : Int) + 1)) (by omega) (fun s nd e k u r h => read_le (by omega) h) v.op u v.k 0 s (nd + 1) 0 _ hk2]
          rfl
        · have := hok h
          refine ⟨this.2.1, ?_, ?_, ?_⟩
          · rw [Tm.sc, if_neg h1]
            exact ⟨by rw [this.2.2.2.1]; exact ha, hnum, this.2.2.1⟩
          · simp only [Tm.wt]; have := this.2.2.2.2.1; omega
          · simp only [Tm.dp]; have := this.2.2.2.2.2; omega
end
theorem normal_tot {k : Nat} (hk : k ≤ 800000) {t : Tm} (hsc : t.sc k) (hb : t.bd ≤ 800000) : ∃ f u e, normalR f t = some (u, e) ∧ (e = 0 ∧ u.sc k ∧ u.wt ≤ 3000 ∧ u.dp ≤ 120 ∨ (e = 5 ∨ e = 17) ∧ u = .z) := by
  obtain ⟨f, v, s1, e1, hv, hvo, hve⟩ := (tot (k0 := k) (D := 800000) (L := 0) (by omega) (by omega) (by omega) 1000).2 t [] 0 (by rw [RV.okE]; trivial) (by simpa using hsc) (by simp; omega) (by omega) (by omega) (by omega)
  have hsm := ok_small (by omega) (by omega) hvo
  rcases hve.2 with ⟨rfl, hs⟩ | ⟨rfl, hs⟩
  · obtain ⟨g, u, s2, nd2, e2, hu, hR⟩ := read_tot (k0 := k) (D := 800000) (by omega) hk 3001 v s1 0 0 1 (by simpa using hvo) (by have := hve.1; omega) hs (by omega) (by omega) (by omega) (by omega) (by omega) (by omega)
    have hn : normalR (f + g) t = some (if e2 ≠ 0 then (.z, e2) else (u, 0)) := by
      rw [normalR, eval_le (by omega) hv]
      simp only
      rw [read_le (show g ≤ f + g by omega) (by simpa using hu)]
    by_cases h2 : e2 = 0
    · rw [if_neg (by simp [h2])] at hn
      have := hR.2.1 h2
      exact ⟨_, _, _, hn, .inl ⟨rfl, by simpa using this.2.1, by omega, by omega⟩⟩
    · rw [if_pos h2] at hn
      refine ⟨_, _, _, hn, .inr ⟨?_, rfl⟩⟩
      rcases hR.1.2 with ⟨h, _⟩ | ⟨h, _⟩ | ⟨h, _⟩
      · exact absurd h h2
      · exact .inr h
      · exact .inl h
  · have hn : normalR (f + v.k.length + 10) t = some (.z, 17) := by
      rw [normalR, eval_le (by omega) hv]
      simp only
      rw [read_le (show v.k.length + 10 ≤ f + v.k.length + 10 by omega) (read_err s1 0 17 0 1 v (by decide) (by omega) (by omega) (by omega) (by omega) (by omega) (by omega) hsm.1 hsm.2.1 (by omega))]
      rfl
    exact ⟨_, _, _, hn, .inr ⟨.inr rfl, rfl⟩⟩
end Idl
end Go.Proofs.Ytbkdidonegggdaa
namespace Go.Proofs.Ytbkdidonegggdaa
namespace Idl
mutual
theorem sc_wk : ∀ (t : Tm) (k : Nat), t.sc k → t.wk
  | .mk op n ks, k, h => by
    rw [Tm.sc] at h
    rw [Tm.wk]
    exact ⟨ar_le h.1, scL_wk ks op 0 k h.2.2⟩
theorem scL_wk : ∀ (l : List Tm) (op : Int) (i k : Nat), Tm.scL op i l k → Tm.wkL l
  | [], _, _, _, _ => by rw [Tm.wkL]; trivial
  | t :: l, op, i, k, h => by
    rw [Tm.scL] at h
    rw [Tm.wkL]
    exact ⟨sc_wk t _ h.1, scL_wk l op (i + 1) k h.2⟩
end
mutual
theorem shift_wt : ∀ (t : Tm) (d c : Int), (t.shift d c).wt = t.wt
  | .mk op n ks, d, c => by simp only [Tm.shift, Tm.wt, shiftL_wt ks op 0 d c]
theorem shiftL_wt : ∀ (l : List Tm) (op : Int) (i : Nat) (d c : Int), Tm.wtL (Tm.shiftL op i l d c) = Tm.wtL l
  | [], _, _, _, _ => rfl
  | t :: l, op, i, d, c => by simp only [Tm.shiftL, Tm.wtL, shift_wt t, shiftL_wt l]
end
mutual
theorem shift_dp : ∀ (t : Tm) (d c : Int), (t.shift d c).dp = t.dp
  | .mk op n ks, d, c => by simp only [Tm.shift, Tm.dp, shiftL_dp ks op 0 d c]
theorem shiftL_dp : ∀ (l : List Tm) (op : Int) (i : Nat) (d c : Int), Tm.dpL (Tm.shiftL op i l d c) = Tm.dpL l
  | [], _, _, _, _ => rfl
  | t :: l, op, i, d, c => by simp only [Tm.shiftL, Tm.dpL, shift_dp t, shiftL_dp l]
end
mutual
theorem shift_sc : ∀ (t : Tm) (d c k : Nat), t.sc k → k + 2 * t.wt + d ≤ 9000000000000000000 → (t.shift d c).sc (k + d)
  | .mk op n ks, d, c, k, h, hk => by
    rw [Tm.sc] at h
    rw [Tm.wt] at hk
    rw [Tm.shift, Tm.sc, shiftL_len]
    refine ⟨h.1, ?_, shiftL_sc ks op 0 d c k h.2.2 (by omega)⟩
    by_cases h1 : op = 1
    · have := h.2.1
      rw [if_pos h1] at this ⊢
      by_cases h2 : (c : Int) ≤ n
      · rw [if_pos ⟨h1, h2⟩, w64_id (by omega) (by omega)]; omega
      · rw [if_neg (fun h => h2 h.2)]; omega
    · have := h.2.1
      rw [if_neg h1] at this ⊢
      rw [if_neg (fun h => h1 h.1)]
      exact this
theorem shiftL_sc : ∀ (l : List Tm) (op : Int) (i : Nat) (d c k : Nat), Tm.scL op i l k → k + 2 + 2 * Tm.wtL l + d ≤ 9000000000000000000 → Tm.scL op i (Tm.shiftL op i l d c) (k + d)
  | [], _, _, _, _, _, _, _ => by rw [Tm.shiftL, Tm.scL]; trivial
  | t :: l, op, i, d, c, k, h, hk => by
    rw [Tm.scL] at h
    simp only [Tm.wtL] at hk
    rw [Tm.shiftL, Tm.scL]
    refine ⟨?_, shiftL_sc l op (i + 1) d c k h.2 (by omega)⟩
    rw [show k + d + bindN op i = (k + bindN op i) + d by omega]
    have := bindN_le op i
    exact shift_sc t d (c + bindN op i) (k + bindN op i) h.1 (by omega)
end
mutual
theorem subst_sc : ∀ (t u : Tm) (j k : Nat), t.sc (k + 1 + j) → u.sc k → k + j + 2 * t.wt + 2 * u.wt ≤ 4000000000000000000 → (t.subst j j u).sc (k + j)
  | .mk op n ks, u, j, k, h, hu, hk => by
    rw [Tm.sc] at h
    rw [Tm.wt] at hk
    rw [Tm.subst]
    by_cases h1 : op = 1
    · rw [if_pos h1]
      have h2 := h.2.1
      rw [if_pos h1] at h2
      by_cases h3 : n = j
      · rw [if_pos h3]
        exact shift_sc u j 0 k hu (by omega)
      · rw [if_neg h3]
        by_cases h4 : (j : Int) < n
        · rw [if_pos h4, Tm.sc, if_pos rfl, Tm.scL, w64_id (by omega) (by omega)]
          exact ⟨rfl, by omega, trivial⟩
        · rw [if_neg h4, Tm.sc, if_pos h1]
          have hks : ks = [] := by
            have := h.1
            rw [h1] at this
            simp [ar] at this
            exact List.length_eq_zero_iff.1 this.symm
          subst hks
          exact ⟨h.1, by omega, by rw [Tm.scL]; trivial⟩
    · rw [if_neg h1, Tm.sc, if_neg h1, substL_len]
      have h2 := h.2.1
      rw [if_neg h1] at h2
      exact ⟨h.1, h2, substL_sc ks u op 0 j k h.2.2 hu (by omega)⟩
theorem substL_sc : ∀ (l : List Tm) (u : Tm) (op : Int) (i j k : Nat), Tm.scL op i l (k + 1 + j) → u.sc k → k + j + 2 + 2 * Tm.wtL l + 2 * u.wt ≤ 4000000000000000000 → Tm.scL op i (Tm.substL op i l j j u) (k + j)
  | [], _, _, _, _, _, _, _, _ => by rw [Tm.substL, Tm.scL]; trivial
  | t :: l, u, op, i, j, k, h, hu, hk => by
    rw [Tm.scL] at h
    simp only [Tm.wtL] at hk
    rw [Tm.substL, Tm.scL]
    refine ⟨?_, substL_sc l u op (i + 1) j k h.2 hu (by omega)⟩
    have := bindN_le op i
    have h1 := subst_sc t u (j + bindN op i) k (by rw [← Nat.add_assoc]; exact h.1) hu (by omega)
    rw [Nat.add_assoc]
    exact h1
end
mutual
theorem subst_wt : ∀ (t u : Tm) (c d : Int), (t.subst c d u).wt ≤ t.wt * u.wt
  | .mk op n ks, u, c, d => by
    have hu := wt_pos u
    rw [Tm.subst]
    by_cases h1 : op = 1
    · rw [if_pos h1]
      have key : u.wt ≤ (Tm.mk op n ks).wt * u.wt := Nat.le_mul_of_pos_left _ (wt_pos _)
      by_cases h3 : n = c
      · rw [if_pos h3, shift_wt]; exact key
      · rw [if_neg h3]
        by_cases h4 : c < n
        · rw [if_pos h4]; simp only [Tm.wt, Tm.wtL] at key ⊢; omega
        · rw [if_neg h4]; exact Nat.le_mul_of_pos_right _ hu
    · rw [if_neg h1]
      have := substL_wt ks u op 0 c d
      simp only [Tm.wt]
      rw [Nat.add_mul]
      omega
theorem substL_wt : ∀ (l : List Tm) (u : Tm) (op : Int) (i : Nat) (c d : Int), Tm.wtL (Tm.substL op i l c d u) ≤ Tm.wtL l * u.wt
  | [], _, _, _, _, _ => by simp [Tm.substL, Tm.wtL]
  | t :: l, u, op, i, c, d => by
    have h1 := subst_wt t u (c + bindN op i) (d + bindN op i)
    have h2 := substL_wt l u op (i + 1) c d
    simp only [Tm.substL, Tm.wtL]
    rw [Nat.add_mul]
    omega
end
mutual
theorem subst_dp : ∀ (t u : Tm) (c d : Int), (t.subst c d u).dp ≤ t.dp + u.dp
  | .mk op n ks, u, c, d => by
    rw [Tm.subst]
    by_cases h1 : op = 1
    · rw [if_pos h1]
      by_cases h3 : n = c
      · rw [if_pos h3, shift_dp]; omega
      · rw [if_neg h3]
        by_cases h4 : c < n
        · rw [if_pos h4]; simp only [Tm.dp, Tm.dpL]; omega
        · rw [if_neg h4]; omega
    · rw [if_neg h1]
      have := substL_dp ks u op 0 c d
      simp only [Tm.dp]
      omega
theorem substL_dp : ∀ (l : List Tm) (u : Tm) (op : Int) (i : Nat) (c d : Int), Tm.dpL (Tm.substL op i l c d u) ≤ Tm.dpL l + u.dp
  | [], _, _, _, _, _ => by simp [Tm.substL, Tm.dpL]
  | t :: l, u, op, i, c, d => by
    have h1 := subst_dp t u (c + bindN op i) (d + bindN op i)
    have h2 := substL_dp l u op (i + 1) c d
    simp only [Tm.substL, Tm.dpL]
    omega
end
mutual
theorem bd_dp : ∀ (t : Tm), t.bd ≤ 2 * t.dp
  | .mk op n ks => by
    have := bdL_dp ks op 0
    simp only [Tm.bd, Tm.dp]
    omega
theorem bdL_dp : ∀ (l : List Tm) (op : Int) (i : Nat), Tm.bdL op i l ≤ 2 + 2 * Tm.dpL l
  | [], _, _ => by simp [Tm.bdL]
  | t :: l, op, i => by
    have h1 := bd_dp t
    have h2 := bdL_dp l op (i + 1)
    have h3 := bindN_le op i
    simp only [Tm.bdL, Tm.dpL]
    omega
end
theorem sc_get : ∀ {op : Int} {i j : Nat} {ks : List Tm} {k : Nat} {t : Tm}, Tm.scL op i ks k → ks[j]? = some t → t.sc (k + bindN op (i + j))
  | op, i, 0, x :: l, k, t, h, hg => by
    rw [Tm.scL] at h
    simp only [List.getElem?_cons_zero, Option.some.injEq] at hg
    subst hg
    exact h.1
  | op, i, j + 1, x :: l, k, t, h, hg => by
    rw [Tm.scL] at h
    rw [List.getElem?_cons_succ] at hg
    have := sc_get h.2 hg
    rwa [show i + 1 + j = i + (j + 1) by omega] at this
  | _, _, _, [], _, _, _, hg => by simp at hg
def zeroTm : Tm := .mk 11 0 []
def fnP (t : Tm) : Tm := match t with
  | .mk _ _ [_, .mk o1 _ [f, .mk o2 n2 _]] => if o1 = 5 ∧ o2 = 1 ∧ n2 = 0 ∧ f.free 0 = false then f.subst 0 0 zeroTm else t
  | _ => t
def prP (t : Tm) : Tm := match t with
  | .mk _ _ [_, .mk o1 _ [x], .mk o2 _ [y]] => if o1 = 8 ∧ o2 = 9 ∧ x.same y = true then x else t
  | _ => t
theorem fnP_ne {op m : Int} {z b : Tm} (h : b.op ≠ 5) : fnP (.mk op m [z, b]) = .mk op m [z, b] := by
  unfold fnP
  split
  · rename_i h1
    simp only [Tm.mk.injEq, List.cons.injEq, and_true] at h1
    obtain ⟨_, _, _, rfl⟩ := h1
    rw [if_neg (fun h2 => h h2.1)]
  · rfl
theorem zero_sc (k : Nat) : zeroTm.sc k := by
  rw [zeroTm, Tm.sc]
  exact ⟨by decide, by rw [if_neg (by decide), numok, if_neg (by decide), if_neg (by decide), if_neg (by decide)], trivial⟩
theorem prP_ne {op m : Int} {z a b : Tm} (h : ¬ (a.op = 8 ∧ b.op = 9)) : prP (.mk op m [z, a, b]) = .mk op m [z, a, b] := by
  unfold prP
  split
  · rename_i h1
    simp only [Tm.mk.injEq, List.cons.injEq, and_true] at h1
    obtain ⟨_, _, _, rfl, rfl⟩ := h1
    rw [if_neg (fun h2 => h ⟨h2.1, h2.2.1⟩)]
  · rfl
theorem sc_kids {t : Tm} {k : Nat} {o : Int} {r : Nat} (h : t.sc k) (ho : t.op = o) (hr : ar o = some r) : t.kids.length = r := by
  obtain ⟨op, m, ks⟩ := t
  simp only [Tm.op] at ho
  subst ho
  rw [Tm.sc, hr] at h
  have := h.1
  simp only [Option.some.injEq] at this
  exact this.symm
def setZ : List Tm → List Tm
  | [] => []
  | _ :: l => zeroTm :: l
mutual
def Tm.eta : Tm → Tm
  | .mk op m ks => if op = 4 then fnP (.mk 4 m (setZ (Tm.etaL ks))) else if op = 7 then prP (.mk 7 m (setZ (Tm.etaL ks))) else .mk op m (Tm.etaL ks)
def Tm.etaL : List Tm → List Tm
  | [] => []
  | t :: l => t.eta :: Tm.etaL l
end
theorem etaL_len : ∀ l : List Tm, (Tm.etaL l).length = l.length
  | [] => rfl
  | _ :: l => by simp only [Tm.etaL, List.length_cons, etaL_len l]
theorem fnP_sc {m : Int} {z b : Tm} {k : Nat} (hz : z.sc k) (hb : b.sc (k + 1)) (hm : m = 0) (hw : k + 2 * b.wt ≤ 1000000000) : (fnP (.mk 4 m [z, b])).sc k ∧ (fnP (.mk 4 m [z, b])).wt ≤ 1 + z.wt + b.wt := by
  have h0 : (Tm.mk 4 m [z, b]).sc k := by
    rw [Tm.sc]
    refine ⟨rfl, ?_, hz, hb, trivial⟩
    rw [if_neg (by decide), numok, if_neg (by decide), if_neg (by decide), if_neg (by decide)]
    exact hm
  have h1 : (Tm.mk 4 m [z, b]).wt = 1 + z.wt + b.wt := by simp only [Tm.wt, Tm.wtL]; omega
  unfold fnP
  split
  · rename_i o1 n1 f o2 n2 k2 heq
    simp only [Tm.mk.injEq, List.cons.injEq, and_true] at heq
    obtain ⟨_, _, rfl, rfl⟩ := heq
    split
    · rename_i hc
      obtain ⟨rfl, _, _, _⟩ := hc
      rw [Tm.sc] at hb
      have hf : f.sc (k + 1) := by
        have := hb.2.2
        rw [Tm.scL] at this
        exact this.1
      simp only [Tm.wt, Tm.wtL] at hw h1 ⊢
      have hs := subst_sc f zeroTm 0 k hf (zero_sc k) (by simp only [zeroTm, Tm.wt, Tm.wtL]; omega)
      have hwt := subst_wt f zeroTm 0 0
      have hz1 : zeroTm.wt = 1 := rfl
      rw [hz1, Nat.mul_one] at hwt
      exact ⟨hs, by omega⟩
    · exact ⟨h0, by rw [h1]; exact Nat.le_refl _⟩
  · exact ⟨h0, by rw [h1]; exact Nat.le_refl _⟩
theorem prP_sc {m : Int} {z a b : Tm} {k : Nat} (hz : z.sc k) (ha : a.sc k) (hb : b.sc k) (hm : m = 0) : (prP (.mk 7 m [z, a, b])).sc k ∧ (prP (.mk 7 m [z, a, b])).wt ≤ 1 + z.wt + a.wt + b.wt := by
  have h0 : (Tm.mk 7 m [z, a, b]).sc k := by
    rw [Tm.sc]
    refine ⟨rfl, ?_, hz, ha, hb, trivial⟩
    rw [if_neg (by decide), numok, if_neg (by decide), if_neg (by decide), if_neg (by decide)]
    exact hm
  have h1 : (Tm.mk 7 m [z, a, b]).wt = 1 + z.wt + a.wt + b.wt := by simp only [Tm.wt, Tm.wtL]; omega
  unfold prP
  split
  · rename_i o1 n1 x o2 n2 y heq
    simp only [Tm.mk.injEq, List.cons.injEq, and_true] at heq
    obtain ⟨_, _, rfl, rfl, rfl⟩ := heq
    split
    · rename_i hc
      obtain ⟨rfl, _, _⟩ := hc
      rw [Tm.sc] at ha
      have hf : x.sc k := by
        have := ha.2.2
        rw [Tm.scL] at this
        exact this.1
      simp only [Tm.wt, Tm.wtL] at h1 ⊢
      exact ⟨hf, by omega⟩
    · exact ⟨h0, by rw [h1]; exact Nat.le_refl _⟩
  · exact ⟨h0, by rw [h1]; exact Nat.le_refl _⟩
mutual
theorem eta_sc : ∀ (t : Tm) (k : Nat), t.sc k → k + 2 * t.wt ≤ 1000000000 → t.eta.sc k ∧ t.eta.wt ≤ t.wt
  | .mk op m ks, k, h, hw => by
    rw [Tm.sc] at h
    rw [Tm.wt] at hw
    have hl := etaL_sc op 0 ks k h.2.2 (by omega)
    have hll := etaL_len ks
    rw [Tm.eta]
    by_cases h4 : op = 4
    · subst h4
      rw [if_pos rfl]
      have h9 : ar 4 = some 2 := by decide
      rw [h9, if_neg (by decide), numok, if_neg (by decide), if_neg (by decide), if_neg (by decide)] at h
      match ks, h, hl, hw with
      | [a, b], h, hl, hw =>
        simp only [Tm.etaL, setZ]
        simp only [Tm.etaL, Tm.scL, Tm.wtL] at hl
        simp only [Tm.wtL] at hw
        have hb1 : bindN 4 1 = 1 := by decide
        have hr := fnP_sc (m := m) (z := zeroTm) (b := b.eta) (k := k) (zero_sc k) (by have := hl.1.2.1; rwa [hb1] at this) h.2.1 (by omega)
        have hz1 : zeroTm.wt = 1 := rfl
        have hp := wt_pos a
        have hp2 := wt_pos a.eta
        rw [hz1] at hr
        simp only [Tm.wt, Tm.wtL]
        exact ⟨hr.1, by omega⟩
      | [], h, _, _ => simp at h
      | [_], h, _, _ => simp at h
      | _ :: _ :: _ :: _, h, _, _ => simp at h
    · rw [if_neg h4]
      by_cases h7 : op = 7
      · subst h7
        rw [if_pos rfl]
        have h9 : ar 7 = some 3 := by decide
        rw [h9, if_neg (by decide), numok, if_neg (by decide), if_neg (by decide), if_neg (by decide)] at h
        match ks, h, hl, hw with
        | [a, b, c], h, hl, hw =>
          simp only [Tm.etaL, setZ]
          simp only [Tm.etaL, Tm.scL, Tm.wtL] at hl
          simp only [Tm.wtL] at hw
          have hb1 : bindN 7 1 = 0 := by decide
          have hb2 : bindN 7 2 = 0 := by decide
          have hr := prP_sc (m := m) (z := zeroTm) (a := b.eta) (b := c.eta) (k := k) (zero_sc k) (by have := hl.1.2.1; rwa [hb1] at this) (by have := hl.1.2.2.1; rwa [hb2] at this) h.2.1
          have hz1 : zeroTm.wt = 1 := rfl
          have hp := wt_pos a
          have hp2 := wt_pos a.eta
          rw [hz1] at hr
          simp only [Tm.wt, Tm.wtL]
          exact ⟨hr.1, by omega⟩
        | [], h, _, _ => simp at h
        | [_], h, _, _ => simp at h
        | [_, _], h, _, _ => simp at h
        | _ :: _ :: _ :: _ :: _, h, _, _ => simp at h
      · rw [if_neg h7, Tm.sc]
        refine ⟨⟨by rw [hll]; exact h.1, h.2.1, hl.1⟩, ?_⟩
        simp only [Tm.wt]
        omega
theorem etaL_sc : ∀ (op : Int) (i : Nat) (l : List Tm) (k : Nat), Tm.scL op i l k → k + 2 + 2 * Tm.wtL l ≤ 1000000000 → Tm.scL op i (Tm.etaL l) k ∧ Tm.wtL (Tm.etaL l) ≤ Tm.wtL l
  | _, _, [], _, _, _ => by simp only [Tm.etaL, Tm.scL, true_and]; exact Nat.le_refl _
  | op, i, t :: l, k, h, hw => by
    rw [Tm.scL] at h
    rw [Tm.wtL] at hw
    have hb := bindN_le op i
    have h1 := eta_sc t (k + bindN op i) h.1 (by omega)
    have h2 := etaL_sc op (i + 1) l k h.2 (by omega)
    rw [Tm.etaL, Tm.scL, Tm.wtL, Tm.wtL]
    exact ⟨⟨h1.1, h2.1⟩, by omega⟩
end
section
variable {β : Type}
structure ExtX (ext ext' : List Blk) : Prop where
  g : goB 400 [.ext 0] 0 ext = true
  l : ext'.length = ext.length
  o : okB ext.length ext' = true
theorem fzl_fv (d : Nat) (h : Hp) (lg : List Ref) (e : Option β) : ∀ (l : List FV) (k : List FV → List (Ref × Blk) → List Ref → Option β), fzLK (fzU (d + 1)) (l.map .fv) h lg e k = k l [] lg
  | [], k => rfl
  | v :: l, k => by
    show (fzU (d + 1) (.fv v) h lg e fun y u lg => fzLK (fzU (d + 1)) (l.map .fv) h lg e fun ys us lg => apK u us fun w => k (y :: ys) w lg) = _
    show (fzLK (fzU (d + 1)) (l.map .fv) h lg e fun ys us lg => apK [] us fun w => k (v :: ys) w lg) = _
    rw [fzl_fv d h lg e l]
    rfl
end
end Idl
end Go.Proofs.Ytbkdidonegggdaa
namespace Go.Proofs.Ytbkdidonegggdaa
namespace Idl
theorem flat_fv (l : List FV) : (l.map IV.fv).all flatV = true := by induction l with
  | nil => rfl
  | cons a l ih => rw [List.map_cons, List.all_cons, ih]; rfl
theorem names_fv (s : Nat) (l : List FV) : (l.map IV.fv).any (namesV s) = false := by induction l with
  | nil => rfl
  | cons a l ih => rw [List.map_cons, List.any_cons, ih]; rfl
def cellsF : List Tm → List FV
  | [] => []
  | .mk o n k :: l => .int .i64 o :: .int .i64 n :: .sl (k.map Tm.enc) :: cellsF l
def zeroT : Nat → List IV
  | 0 => []
  | n + 1 => iv 0 :: iv 0 :: .nils :: zeroT n
def cellsT (ts : List Tm) (r : Nat) : List IV := (cellsF ts).map .fv ++ zeroT r
theorem cellsF_len (ts : List Tm) : (cellsF ts).length = 3 * ts.length := by
  induction ts with
  | nil => rfl
  | cons t l ih => obtain ⟨o, n, k⟩ := t; simp only [cellsF, List.length_cons, ih]; omega
theorem cellsF_app (ts : List Tm) (t : Tm) : cellsF (ts ++ [t]) = cellsF ts ++ [.int .i64 t.op, .int .i64 t.n, .sl (t.kids.map Tm.enc)] := by
  induction ts with
  | nil => obtain ⟨o, n, k⟩ := t; rfl
  | cons a l ih => obtain ⟨o, n, k⟩ := a; simp only [List.cons_append, cellsF, ih]
theorem setFK_app {β : Type} : ∀ (A : List IV) (x y z : IV) (B : List IV) (a b c : FV) (k : List IV → Option β), setFK (A ++ x :: y :: z :: B) A.length [a, b, c] k = k (A ++ .fv a :: .fv b :: .fv c :: B)
  | [], x, y, z, B, a, b, c, k => rfl
  | w :: A, x, y, z, B, a, b, c, k => by
    show setFK (A ++ x :: y :: z :: B) A.length [a, b, c] (fun t => k (w :: t)) = _
    rw [setFK_app A]
    rfl
theorem set_t {β : Type} (done : List Tm) (r : Nat) (o n : Int) (ks : List Tm) (k : List IV → Option β) : setFK (cellsT done (r + 1)) (done.length * 3) [.int .i64 o, .int .i64 n, .sl (ks.map Tm.enc)] k = k (cellsT (done ++ [.mk o n ks]) r) := by
  have h := setFK_app (β := β) ((cellsF done).map .fv) (iv 0) (iv 0) .nils (zeroT r) (.int .i64 o) (.int .i64 n) (.sl (ks.map Tm.enc)) k
  rw [List.length_map, cellsF_len, Nat.mul_comm] at h
  refine h.trans ?_
  congr 1
  unfold cellsT
  rw [cellsF_app]
  simp [Tm.op, Tm.n, Tm.kids, iv]
theorem chk3 {β : Type} : ∀ (ts : List Tm) (k : List FV → Option β), chK 3 ts.length (cellsF ts) k = k (ts.map Tm.enc)
  | [], k => rfl
  | .mk o n ks :: l, k => by
    show (takK (cellsF (.mk o n ks :: l)) 3 fun a => drpK (cellsF (.mk o n ks :: l)) 3 fun b => elK2 a fun x => chK 3 l.length b fun xs => k (x :: xs)) = _
    rw [cellsF, t3, d3]
    show (chK 3 l.length (cellsF l) fun xs => k (.agg [.int .i64 o, .int .i64 n, .sl (ks.map Tm.enc)] :: xs)) = _
    rw [chk3 l, List.map_cons, enc_mk]
theorem rep_t (n : Nat) : rep n [iv 0, iv 0, .nils] = cellsT [] n := by
  induction n with
  | zero => rfl
  | succ n ih => rw [rep, ih]; rfl
theorem mk_t {n : Nat} (hn : n ≤ 1000) (s : Nat) (own : List (Nat × Blk)) (ext : List Blk) (k : IV → Hp → List Ref → List Ref → Option (IV × Hp)) :
    genS (pcMakeSlice EE s 29 (iv n) (iv n)) s ⟨own, ext⟩ k = freshK own s (putOwnK own s (.row (cellsT [] n) false) fun own => k (.slc (.own s) 3 n) ⟨own, ext⟩ [] [.own s]) := by
  have : pcMakeSlice EE s 29 (iv n) (iv n) = .ret { eff := { val := .slc (.own s) 3 n }, new := some (.row (cellsT [] n) false) } := by
    simp only [pcMakeSlice, tTms, tTm, iv_e]
    rw [if_pos ⟨by omega, by omega, by omega, by decide, by decide⟩, Int.toNat_natCast, rep_t]
  rw [this]
  unfold genS
  simp only [Rd.runLog, newK, fBk_eq, fV_eq]
  rfl
theorem ix_sl3 {β : Type} {n i : Nat} (h : i < n) (r : Ref) (k : IV → Option β) : ixS 3 (.slc r 3 n) (iv i) k = k (.ptr r (i * 3)) := by
  have e1 : Nat.ble (Nat.succ i) n = true := by rw [ble_dec]; exact decide_eq_true h
  show (cond (and (Nat.ble (Nat.succ i) n) (Nat.beq 3 3)) (fNat (i * 3) fun o => k (.ptr r o)) none) = _
  rw [e1]
  simp only [fNat_eq]
  rfl
theorem flat_t (ts : List Tm) (r : Nat) : (cellsT ts r).all flatV = true := by
  unfold cellsT
  rw [List.all_append, flat_fv, Bool.true_and]
  induction r with
  | zero => rfl
  | succ r ih => rw [zeroT, List.all_cons, List.all_cons, List.all_cons, ih]; rfl
theorem names_t (s : Nat) (ts : List Tm) (r : Nat) : (cellsT ts r).any (namesV s) = false := by
  unfold cellsT
  rw [List.any_append, names_fv, Bool.false_or]
  induction r with
  | zero => rfl
  | succ r ih => rw [zeroT, List.any_cons, List.any_cons, List.any_cons, ih]; rfl
theorem fz_slc3 {s d : Nat} {ts : List Tm} {ro : Bool} {own : List (Nat × Blk)} {ext : List Blk} (hl : lookupOwn s own = some (.row (cellsT ts 0) ro)) (hn : ts.length ≤ 100) (lg : List Ref) (e : Option (IV × Hp))
    (k : FV → List (Ref × Blk) → List Ref → Option (IV × Hp)) : fzU (d + 2) (.slc (.own s) 3 ts.length) ⟨own, ext⟩ lg e k = k (.sl (ts.map Tm.enc)) [(.own s, .row (cellsT ts 0) true)] (.own s :: lg) := by
  have hlen : (cellsT ts 0).length = 3 * ts.length := by simp [cellsT, zeroT, cellsF_len]
  show (getK (.own s) ⟨own, ext⟩ fun b => asRow b fun cells => cond (Nat.ble cells.length 300) (cond (or (Nat.beq 3 0) (not (Nat.ble (ts.length * 3) cells.length))) none
    (fzLK (fzU (d + 1)) cells ⟨own, ext⟩ (.own s :: lg) e fun cs u lg => chK 3 ts.length cs fun els => k (.sl els) ((.own s, .row cells true) :: u) lg)) e) = _
  rw [g_own, ownK_eq, hl]
  simp only [Option.bind_some, as_row]
  rw [hlen, ble_dec, decide_eq_true (by omega), c_t, ble_dec, decide_eq_true (by omega)]
  simp only [Bool.not_true]
  show (fzLK (fzU (d + 1)) (cellsT ts 0) ⟨own, ext⟩ (.own s :: lg) e fun cs u lg => chK 3 ts.length cs fun els => k (.sl els) ((.own s, .row (cellsT ts 0) true) :: u) lg) = _
  rw [show cellsT ts 0 = (cellsF ts).map .fv by simp [cellsT, zeroT], fzl_fv, chk3]
theorem fz_tm {s : Nat} {ts : List Tm} {ro : Bool} {a b : FV} {own : List (Nat × Blk)} {ext : List Blk} (hl : lookupOwn s own = some (.row (cellsT ts 0) ro)) (hn : ts.length ≤ 100) (lg : List Ref) (e : Option (IV × Hp))
    (k : FV → List (Ref × Blk) → List Ref → Option (IV × Hp)) : fzU 12 (.agg [.fv a, .fv b, .slc (.own s) 3 ts.length]) ⟨own, ext⟩ lg e k = k (.agg [a, b, .sl (ts.map Tm.enc)]) [(.own s, .row (cellsT ts 0) true)] (.own s :: lg) := by
  rw [fu_agg, show Nat.ble [IV.fv a, .fv b, .slc (.own s) 3 ts.length].length 300 = true from rfl, c_t, fl1, fv_fv, fl1, fv_fv, fl1, fz_slc3 (d := 9) hl hn, fl0]
  rfl
theorem ixt0 {β : Type} (o p : Int) (l : List FV) (r : List FV) (k : IV → Option β) : ixS 3 (.fv (.sl (.agg [.int .i64 o, .int .i64 p, .sl l] :: r))) (iv 0) k = k (.fv (.fp [.int .i64 o, .int .i64 p, .sl l] 0)) := by
  have h : (.agg [.int .i64 o, .int .i64 p, .sl l] :: r : List FV)[0]? = some (.agg [.int .i64 o, .int .i64 p, .sl l]) := rfl
  have := ix_f (β := β) h (agg3l _ _ _) k
  rw [agg3] at this
  exact this
theorem ixt1 {β : Type} (a : FV) (o p : Int) (l : List FV) (r : List FV) (k : IV → Option β) : ixS 3 (.fv (.sl (a :: .agg [.int .i64 o, .int .i64 p, .sl l] :: r))) (iv 1) k = k (.fv (.fp [.int .i64 o, .int .i64 p, .sl l] 0)) := by
  have h : (a :: .agg [.int .i64 o, .int .i64 p, .sl l] :: r : List FV)[1]? = some (.agg [.int .i64 o, .int .i64 p, .sl l]) := rfl
  have := ix_f (β := β) h (agg3l _ _ _) k
  rw [agg3] at this
  exact this
theorem ixt2 {β : Type} (a b : FV) (o p : Int) (l : List FV) (r : List FV) (k : IV → Option β) : ixS 3 (.fv (.sl (a :: b :: .agg [.int .i64 o, .int .i64 p, .sl l] :: r))) (iv 2) k = k (.fv (.fp [.int .i64 o, .int .i64 p, .sl l] 0)) := by
  have h : (a :: b :: .agg [.int .i64 o, .int .i64 p, .sl l] :: r : List FV)[2]? = some (.agg [.int .i64 o, .int .i64 p, .sl l]) := rfl
  have := ix_f (β := β) h (agg3l _ _ _) k
  rw [agg3] at this
  exact this
theorem ansf_fv (w : FV) (own : List (Nat × Blk)) : AnsF (some (.fv w, ⟨own, []⟩)) w := ⟨_, own, rfl, fz_fv w own⟩
theorem ansf {r : Option (IV × Hp)} {w : FV} (h : AnsF r w) : Ans r w := by
  obtain ⟨v, own, e, hz⟩ := h
  exact ⟨v, own, e, .inl hz⟩
noncomputable abbrev Hre (op m : Int) (ks : List Tm) (K : IV) (tok : List (Nat × Blk)) : Hp :=
  ⟨(48234496, .row [iv op, iv m, .fv (.sl (ks.map Tm.enc))] false) :: (48234497, .row [iv 0, iv 0, .nils] false) :: (48235525, .row [iv op, iv m, K] false) :: tok, []⟩
def doneE (op : Int) : Nat → List Tm → List Tm
  | _, [] => []
  | i, t :: l => (if i = 0 ∧ (op = 4 ∨ op = 7) then zeroTm else t.eta) :: doneE op (i + 1) l
theorem app0_g (o p : Int) (l : List FV) (s : Nat) (own : List (Nat × Blk)) (ext : List Blk) (k : IV → Hp → List Ref → List Ref → Option (IV × Hp)) :
    genS (builtinR EE s false .append [29, 29] [.nils, .clip [.agg [.int .i64 o, .int .i64 p, .sl l]]]) s ⟨own, ext⟩ k = freshK own s (putOwnK own s (.tok 1 3) fun own => k (.app (.own s) [.agg [.int .i64 o, .int .i64 p, .sl l]]) ⟨own, ext⟩ [] [.own s]) :=
  app_0 sTm (.clip _) rfl rfl (by simp) (.inl rfl) s own ext k
theorem doneE_app (op : Int) (x : Tm) : ∀ (i : Nat) (l : List Tm), doneE op i (l ++ [x]) = doneE op i l ++ [if i + l.length = 0 ∧ (op = 4 ∨ op = 7) then zeroTm else x.eta]
  | i, [] => by simp [doneE]
  | i, t :: l => by
    simp only [List.cons_append, doneE, doneE_app op x (i + 1) l, List.length_cons]
    rw [show i + 1 + l.length = i + (l.length + 1) by omega]
theorem doneE_len (op : Int) : ∀ (i : Nat) (l : List Tm), (doneE op i l).length = l.length
  | _, [] => rfl
  | i, t :: l => by simp only [doneE, List.length_cons, doneE_len op (i + 1) l]
set_option maxRecDepth 20000 in
set_option maxHeartbeats 1000000 in
theorem reta_loop {n : Nat} {op m : Int} {ks : List Tm} {w : FV} (h4 : ks.length ≤ 4) (hn : ks.length + 3 < n)
    (ih : ∀ x ∈ ks, Ans (SS dt n 46 [.fv x.enc] ⟨[], []⟩) x.eta.enc)
    (hend : ∀ (K : IV) (tok : List (Nat × Blk)) (rec : List IV → Hp → Option (IV × Hp)), ((ks = [] ∧ K = .nils ∧ tok = []) ∨ (ks ≠ [] ∧ K = .app (.own 48242692) ((doneE op 0 ks).map Tm.enc) ∧ tok = [(48242692, .tok ks.length 3)])) →
      Ans (S46_545 [.ptr (.own 48234496) 0, .ptr (.own 48234497) 0, .ptr (.own 48235525) 0, iv ks.length] (Hre op m ks K tok) (SS dt n) ⟨[], []⟩ rec) w) :
    Ans (SS dt (n + 1) 46 [.fv (Tm.mk op m ks).enc] ⟨[], []⟩) w := by
  rw [c46, enc_mk]
  simp only [S46_513, S46_514, S46_515, S46_516, S46_517, S46_518, S46_519, S46_520, S46_521, S46_522, S46_523, S46_524, S46_525, S46_526, S46_527, S46_528, S46_529, S46_530, S46_531, S46_532, S46_533, S46_534, S46_535, S46_536, S46_537, S46_538, S46_539, S46_540, S46_541, S46_542, S46_543, S46_544, S46_546, S46, ↓XX, XY, ↓reduceIte, Nat.reduceBEq, Nat.reduceAdd, Int.cast_ofNat_Int, Int.reduceEq, Int.reduceLT, Int.reduceLE, ↓drop_e, XD, heldB, flatD, XE]
  refine loop_run (Q := fun r => Ans r _) (fun j V H => ∃ (pre rest : List Tm) (K : IV) (tok : List (Nat × Blk)), ks = pre ++ rest ∧ rest.length = j ∧ V = [.ptr (.own 48234496) 0, .ptr (.own 48234497) 0, .ptr (.own 48235525) 0, iv pre.length] ∧ H = Hre op m ks K tok ∧
      ((pre = [] ∧ K = .nils ∧ tok = []) ∨ (pre ≠ [] ∧ K = .app (.own 48242692) ((doneE op 0 pre).map Tm.enc) ∧ tok = [(48242692, .tok pre.length 3)])))
    ?_ n ks.length _ _ (by omega) ⟨[], ks, .nils, [], rfl, rfl, rfl, rfl, .inl ⟨rfl, rfl, rfl⟩⟩
  rintro j V H rec ⟨pre, rest, K, tok, hks, hl, rfl, rfl, hK⟩ hrec
  have hkl : ks.length = pre.length + rest.length := by rw [hks]; simp
  cases rest with
  | nil =>
    rw [List.append_nil] at hks
    subst hks
    exact hend K tok rec hK
  | cons x rest =>
    have hi : (pre.length : Int) < ks.length := by rw [hkl]; simp; omega
    have hg2 := at_pre hks
    have hc := ih x (by rw [hks]; simp)
    have hwi : w64 ((pre.length : Int) + 1) = ((pre ++ [x]).length : Int) := (w64_id (by omega) (by omega)).trans (by simp)
    have h0 := t0_ok (n := n) (by omega) 11
    have hi0 : (0 : Int) < ks.length := by omega
    have hw01 : w64 (0 + 1) = 1 := by decide
    simp only [List.length_cons] at hl hkl
    rcases hK with ⟨rfl, rfl, rfl⟩ | ⟨hne, rfl, rfl⟩
    · have hz : ∀ y, ((op = 4 ∨ op = 7) → y = zeroTm) → (¬ (op = 4 ∨ op = 7) → y = x.eta) → doneE op 0 [x] = [y] := by
        intro y h1 h2
        by_cases h : op = 4 ∨ op = 7
        · simp [doneE, h, h1 h]
        · simp [doneE, h, h2 h]
      have h9 : ∀ y, doneE op 0 [x] = [y] → Ans (rec [.ptr (.own 48234496) 0, .ptr (.own 48234497) 0, .ptr (.own 48235525) 0, iv 1] (Hre op m ks (.app (.own 48242692) [y.enc]) [(48242692, .tok 1 3)])) w := by
        intro y hy
        exact hrec rest.length _ _ (by omega) ⟨[x], rest, _, _, by rw [hks]; simp, rfl, rfl, rfl, .inr ⟨by simp, by rw [List.nil_append] at *; rw [hy]; rfl, rfl⟩⟩
      by_cases hop : op = 4
      · have h8 := h9 zeroTm (hz _ (fun _ => rfl) (fun h => absurd (.inl hop) h))
        subst hop
        generalize x.eta = y at hc
        obtain ⟨o, p, l⟩ := x
        obtain ⟨o2, p2, l2⟩ := y
        rw [enc_mk, enc_mk] at hc
        rw [enc_mk] at h0
        have hze : zeroTm.enc = .agg [.int .i64 11, .int .i64 0, .sl []] := rfl
        rw [hze] at h8
        simp only [↓UU12, ↓XX, XY, ↓reduceIte, Nat.reduceBEq, Nat.reduceAdd, Int.cast_ofNat_Int, Int.reduceEq, Int.reduceLT, Int.reduceLE, hi, ↓ix_f (map_get hg2) (agg3l _ _ _), ↓agg3, ↓iso_1 hc, ↓iso_2 h0, hi0, hw01, ↓bs1_g, ↓app0_g, ↓drop_e, XD, heldB, flatD, XE]
        exact h8
      · by_cases hop7 : op = 7
        · have h8 := h9 zeroTm (hz _ (fun _ => rfl) (fun h => absurd (.inr hop7) h))
          subst hop7
          generalize x.eta = y at hc
          obtain ⟨o, p, l⟩ := x
          obtain ⟨o2, p2, l2⟩ := y
          rw [enc_mk, enc_mk] at hc
          rw [enc_mk] at h0
          have hze : zeroTm.enc = .agg [.int .i64 11, .int .i64 0, .sl []] := rfl
          rw [hze] at h8
          simp only [↓UU12, ↓XX, XY, ↓reduceIte, Nat.reduceBEq, Nat.reduceAdd, Int.cast_ofNat_Int, Int.reduceEq, Int.reduceLT, Int.reduceLE, hi, ↓ix_f (map_get hg2) (agg3l _ _ _), ↓agg3, ↓iso_1 hc, ↓iso_2 h0, hi0, hw01, ↓bs1_g, ↓app0_g, ↓drop_e, XD, heldB, flatD, XE]
          exact h8
        · have h8 := h9 x.eta (hz _ (fun h => absurd h (by omega)) (fun _ => rfl))
          generalize x.eta = y at hc h8
          obtain ⟨o, p, l⟩ := x
          obtain ⟨o2, p2, l2⟩ := y
          rw [enc_mk, enc_mk] at hc
          rw [enc_mk] at h8
          simp only [↓UU12, ↓XX, XY, ↓reduceIte, Nat.reduceBEq, Nat.reduceAdd, Int.cast_ofNat_Int, Int.reduceEq, Int.reduceLT, Int.reduceLE, hi, hop, hop7, ↓ix_f (map_get hg2) (agg3l _ _ _), ↓agg3, ↓iso_1 hc, hi0, hw01, ↓bs1_g, ↓app0_g, ↓drop_e, XD, heldB, flatD, XE]
          exact h8
    · have hp0 : ¬ (pre.length : Int) = 0 := by
        have := List.length_pos_iff.2 hne
        omega
      have h8 := hrec rest.length _ _ (by omega) ⟨pre ++ [x], rest, _, _, by rw [hks]; simp, rfl, rfl, rfl, .inr ⟨by simp, by rw [doneE_app, if_neg (by rintro ⟨h, _⟩; omega)], rfl⟩⟩
      have hlen := doneE_len op 0 pre
      generalize doneE op 0 pre = D at h8 hlen
      generalize x.eta = y at hc h8
      obtain ⟨o, p, l⟩ := x
      obtain ⟨o2, p2, l2⟩ := y
      have happ := fun {own : List (Nat × Blk)} {ext : List Blk} (r s : Nat) (k : IV → Hp → List Ref → List Ref → Option (IV × Hp)) => app1_tm (es := D) (by omega) (.mk o2 p2 l2) r s own ext k
      rw [hlen] at happ
      rw [enc_mk, enc_mk] at hc
      simp only [enc_mk] at happ
      simp only [↓UU12, ↓XX, XY, ↓reduceIte, Nat.reduceBEq, Nat.reduceAdd, Int.cast_ofNat_Int, Int.reduceEq, Int.reduceLT, Int.reduceLE, hi, hp0, ↓ix_f (map_get hg2) (agg3l _ _ _), ↓agg3, ↓iso_1 hc, hwi, ↓bs1_g, ↓happ, ↓tok_k, ↓drop_e, XD, heldB, flatD, XE]
      have e9 : (pre ++ [Tm.mk o p l]).length = pre.length + 1 := by simp
      rw [e9] at h8 ⊢
      exact h8
theorem ix_ap {β : Type} (r : Ref) (es : List FV) (x : IV) (k : IV → Option β) : ixS 3 (.app r es) x k = ixS 3 (.fv (.sl es)) x k := rfl
theorem doneE_z (op : Int) (h : op = 4 ∨ op = 7) : ∀ ks : List Tm, doneE op 0 ks = setZ (Tm.etaL ks)
  | [] => rfl
  | t :: l => by
    have : ∀ (i : Nat) (l : List Tm), doneE op (i + 1) l = Tm.etaL l := by
      intro i l
      induction l generalizing i with
      | nil => rfl
      | cons a l ih => rw [doneE, if_neg (by omega), ih, Tm.etaL]
    rw [doneE, if_pos ⟨rfl, h⟩, this 0, Tm.etaL, setZ]
theorem doneE_n (op : Int) (h : ¬ (op = 4 ∨ op = 7)) : ∀ (i : Nat) (ks : List Tm), doneE op i ks = Tm.etaL ks
  | _, [] => rfl
  | i, t :: l => by rw [doneE, if_neg (fun h' => h h'.2), doneE_n op h (i + 1) l, Tm.etaL]
set_option maxRecDepth 20000 in
set_option maxHeartbeats 1000000 in
theorem reta_other {n : Nat} {op m : Int} {ks : List Tm} (h : ¬ (op = 4 ∨ op = 7)) (rec : List IV → Hp → Option (IV × Hp)) {K : IV} {tok : List (Nat × Blk)}
    (hK : (ks = [] ∧ K = .nils ∧ tok = []) ∨ (ks ≠ [] ∧ K = .app (.own 48242692) ((doneE op 0 ks).map Tm.enc) ∧ tok = [(48242692, .tok ks.length 3)])) :
    Ans (S46_545 [.ptr (.own 48234496) 0, .ptr (.own 48234497) 0, .ptr (.own 48235525) 0, iv ks.length] (Hre op m ks K tok) (SS dt n) ⟨[], []⟩ rec) (Tm.mk op m (Tm.etaL ks)).enc := by
  have hno : ¬ ((ks.length : Int) < ks.length) := by omega
  have h4 : ¬ op = 4 := fun h' => h (.inl h')
  have h7 : ¬ op = 7 := fun h' => h (.inr h')
  rw [enc_mk]
  rcases hK with ⟨rfl, rfl, rfl⟩ | ⟨hne, rfl, rfl⟩
  · simp only [↓UU12, ↓XX, XY, ↓reduceIte, Nat.reduceBEq, Nat.reduceAdd, Int.cast_ofNat_Int, Int.reduceEq, Int.reduceLT, Int.reduceLE, hno, h4, h7]
    exact ans_p rfl _
  · rw [doneE_n op h]
    simp only [↓UU12, ↓XX, XY, ↓reduceIte, Nat.reduceBEq, Nat.reduceAdd, Int.cast_ofNat_Int, Int.reduceEq, Int.reduceLT, Int.reduceLE, hno, h4, h7]
    exact ans_p rfl _
set_option maxRecDepth 20000 in
set_option maxHeartbeats 1000000 in
theorem reta_7 {n : Nat} {m : Int} {ks : List Tm} {a b : Tm} (rec : List IV → Hp → Option (IV × Hp)) (h3 : ks.length = 3) (hn : a.wt + 10 < n) (haw : a.wt ≤ 100000000) (hka : a.op = 8 → ∃ x, a.kids = [x]) (hkb : b.op = 9 → ∃ y, b.kids = [y]) :
    Ans (S46_545 [.ptr (.own 48234496) 0, .ptr (.own 48234497) 0, .ptr (.own 48235525) 0, iv ks.length] (Hre 7 m ks (.app (.own 48242692) ([zeroTm, a, b].map Tm.enc)) [(48242692, .tok ks.length 3)]) (SS dt n) ⟨[], []⟩ rec) (prP (.mk 7 m [zeroTm, a, b])).enc := by
  have hno : ¬ ((ks.length : Int) < ks.length) := by omega
  have hze : zeroTm.enc = .agg [.int .i64 11, .int .i64 0, .sl []] := rfl
  obtain ⟨o1, n1, k1⟩ := a
  obtain ⟨o2, n2, k2⟩ := b
  by_cases h8 : o1 = 8
  · by_cases h9 : o2 = 9
    · subst h8 h9
      obtain ⟨x, hx⟩ := hka rfl
      obtain ⟨y, hy⟩ := hkb rfl
      simp only [Tm.kids] at hx hy
      subst hx hy
      simp only [Tm.wt, Tm.wtL] at hn haw
      have hs := same_ok n x y (by omega) (by omega)
      rw [prP]
      generalize x.same y = v at hs
      obtain ⟨o3, n3, k3⟩ := x
      obtain ⟨o4, n4, k4⟩ := y
      simp only [enc_mk] at hs
      cases v
      · rw [if_neg (by simp)]
        simp only [enc_mk, hze, List.map_cons, List.map_nil]
        simp only [↓UU12, ↓XX, XY, ↓reduceIte, Nat.reduceBEq, Nat.reduceAdd, Int.cast_ofNat_Int, Int.reduceEq, Int.reduceLT, Int.reduceLE, hno, ↓ix_ap, ↓ixt0, ↓ixt1, ↓ixt2, ↓iso_2 hs]
        exact ans_p rfl _
      · rw [if_pos ⟨rfl, rfl, rfl⟩]
        simp only [enc_mk, hze, List.map_cons, List.map_nil]
        simp only [↓UU12, ↓XX, XY, ↓reduceIte, Nat.reduceBEq, Nat.reduceAdd, Int.cast_ofNat_Int, Int.reduceEq, Int.reduceLT, Int.reduceLE, hno, ↓ix_ap, ↓ixt0, ↓ixt1, ↓ixt2, ↓iso_2 hs]
        exact ans_fv _ _
    · rw [prP_ne (by simp [Tm.op, h9])]
      simp only [enc_mk, hze, List.map_cons, List.map_nil]
      simp only [↓UU12, ↓XX, XY, ↓reduceIte, Nat.reduceBEq, Nat.reduceAdd, Int.cast_ofNat_Int, Int.reduceEq, Int.reduceLT, Int.reduceLE, hno, ↓ix_ap, ↓ixt0, ↓ixt1, ↓ixt2, h8, h9]
      exact ans_p rfl _
  · rw [prP_ne (by simp [Tm.op, h8])]
    simp only [enc_mk, hze, List.map_cons, List.map_nil]
    simp only [↓UU12, ↓XX, XY, ↓reduceIte, Nat.reduceBEq, Nat.reduceAdd, Int.cast_ofNat_Int, Int.reduceEq, Int.reduceLT, Int.reduceLE, hno, ↓ix_ap, ↓ixt0, ↓ixt1, ↓ixt2, h8]
    exact ans_p rfl _
set_option maxRecDepth 20000 in
set_option maxHeartbeats 1000000 in
theorem reta_4 {n : Nat} {m : Int} {ks : List Tm} {b : Tm} {K : Nat} (rec : List IV → Hp → Option (IV × Hp)) (h3 : ks.length = 2) (hn : b.wt + 20 < n) (hbw : b.wt ≤ 100000000) (hs : b.sc K) :
    Ans (S46_545 [.ptr (.own 48234496) 0, .ptr (.own 48234497) 0, .ptr (.own 48235525) 0, iv ks.length] (Hre 4 m ks (.app (.own 48242692) ([zeroTm, b].map Tm.enc)) [(48242692, .tok ks.length 3)]) (SS dt n) ⟨[], []⟩ rec) (fnP (.mk 4 m [zeroTm, b])).enc := by
  have hno : ¬ ((ks.length : Int) < ks.length) := by omega
  have hze : zeroTm.enc = .agg [.int .i64 11, .int .i64 0, .sl []] := rfl
  have hwk := sc_wk b K hs
  obtain ⟨o1, n1, k1⟩ := b
  by_cases h5 : o1 = 5
  · subst h5
    have hl2 := sc_kids hs rfl (show ar 5 = some 2 by decide)
    simp only [Tm.kids] at hl2
    match k1, hl2 with
    | [f, x], _ =>
    rw [Tm.sc] at hs
    have hsf := hs.2.2.1
    have hsx := hs.2.2.2.1
    simp only [Tm.wt, Tm.wtL] at hn hbw
    rw [Tm.wk] at hwk
    have hfw : f.wk := wk_mem hwk.2 (by simp)
    have hv0 := v_ok (n := n) (by omega) 0
    have hsame := same_ok n x (.mk 1 0 []) (by omega) (by omega)
    have hfree := free_ok n f 0 (by omega) (by omega) (by omega) (by omega)
    have h0 := t0_ok (n := n) (by omega) 11
    have hsub := Subst_ok (n := n) f zeroTm 0 (by simp [zeroTm, Tm.wk, Tm.wkL]) (by simp [zeroTm, Tm.wt, Tm.wtL]) (by simp only [zeroTm, Tm.wt, Tm.wtL]; omega) hfw (by omega) (by omega) (by omega)
    obtain ⟨o2, n2, k2⟩ := x
    have hx : (Tm.mk o2 n2 k2).same (.mk 1 0 []) = (decide (o2 = 1) && decide (n2 = 0)) := by
      rw [Tm.same]
      by_cases h1 : o2 = 1
      · subst h1
        have hk2 : k2.length = 0 := by
          have := sc_kids hsx rfl (show ar 1 = some 0 by decide)
          simpa [Tm.kids] using this
        have hk3 : k2 = [] := List.length_eq_zero_iff.1 hk2
        subst hk3
        simp [Tm.sameL]
      · simp [h1]
    rw [hx] at hsame
    rw [fnP]
    generalize hr : f.subst 0 0 zeroTm = u at hsub
    generalize f.free 0 = fr at hfree
    obtain ⟨o4, n4, k4⟩ := u
    obtain ⟨o3, n3, k3⟩ := f
    rw [hze] at hsub
    simp only [enc_mk, List.map_nil] at hfree hsub hv0 hsame h0
    by_cases h1 : o2 = 1
    · by_cases h2 : n2 = 0
      · rw [h1, h2] at hsame
        simp only [decide_true, Bool.and_self] at hsame
        cases fr
        · rw [if_pos ⟨rfl, h1, h2, rfl⟩]
          simp only [enc_mk, hze, List.map_cons, List.map_nil]
          simp only [↓UU12, ↓XX, XY, ↓reduceIte, Nat.reduceBEq, Nat.reduceAdd, Int.cast_ofNat_Int, Int.reduceEq, Int.reduceLT, Int.reduceLE, hno, ↓ix_ap, ↓ixt0, ↓ixt1, ↓ixt2, h1, h2, ↓iso_1 hv0, ↓iso_2 hsame, ↓iso_2 hfree, ↓iso_2 h0, ↓iso_3 hsub]
          exact ans_fv _ _
        · rw [if_neg (by simp)]
          simp only [enc_mk, hze, List.map_cons, List.map_nil]
          simp only [↓UU12, ↓XX, XY, ↓reduceIte, Nat.reduceBEq, Nat.reduceAdd, Int.cast_ofNat_Int, Int.reduceEq, Int.reduceLT, Int.reduceLE, hno, ↓ix_ap, ↓ixt0, ↓ixt1, ↓ixt2, h1, h2, ↓iso_1 hv0, ↓iso_2 hsame, ↓iso_2 hfree]
          exact ans_p rfl _
      · rw [if_neg (by simp [h2])]
        rw [h1, decide_eq_true (rfl : (1 : Int) = 1), decide_eq_false h2, Bool.and_false] at hsame
        simp only [enc_mk, hze, List.map_cons, List.map_nil]
        simp only [↓UU12, ↓XX, XY, ↓reduceIte, Nat.reduceBEq, Nat.reduceAdd, Int.cast_ofNat_Int, Int.reduceEq, Int.reduceLT, Int.reduceLE, hno, ↓ix_ap, ↓ixt0, ↓ixt1, ↓ixt2, h1, ↓iso_1 hv0, ↓iso_2 hsame]
        exact ans_p rfl _
    · rw [if_neg (by simp [h1])]
      rw [decide_eq_false h1, Bool.false_and] at hsame
      simp only [enc_mk, hze, List.map_cons, List.map_nil]
      simp only [↓UU12, ↓XX, XY, ↓reduceIte, Nat.reduceBEq, Nat.reduceAdd, Int.cast_ofNat_Int, Int.reduceEq, Int.reduceLT, Int.reduceLE, hno, ↓ix_ap, ↓ixt0, ↓ixt1, ↓ixt2, ↓iso_1 hv0, ↓iso_2 hsame]
      exact ans_p rfl _
  · rw [fnP_ne (by simpa [Tm.op] using h5)]
    simp only [enc_mk, hze, List.map_cons, List.map_nil]
    simp only [↓UU12, ↓XX, XY, ↓reduceIte, Nat.reduceBEq, Nat.reduceAdd, Int.cast_ofNat_Int, Int.reduceEq, Int.reduceLT, Int.reduceLE, hno, ↓ix_ap, ↓ixt0, ↓ixt1, ↓ixt2, h5]
    exact ans_p rfl _
theorem reta_ok : ∀ (n : Nat) (t : Tm) (k : Nat), t.sc k → 2 * t.wt + 40 < n → k + 2 * t.wt ≤ 90000000 → Ans (SS dt n 46 [.fv t.enc] ⟨[], []⟩) t.eta.enc := by
  intro n
  induction n with
  | zero => intro t k _ h; omega
  | succ n ih =>
    intro t k hs hn hw
    have hwk := sc_wk t k hs
    obtain ⟨op, m, ks⟩ := t
    rw [Tm.sc] at hs
    rw [Tm.wk] at hwk
    simp only [Tm.wt] at hn hw
    have hlen := wt_len ks
    have hkd := etaL_sc op 0 ks k hs.2.2 (by omega)
    have hdl := etaL_len ks
    refine reta_loop hwk.1 (by omega) (fun x hx => ?_) (fun K tok rec hK => ?_)
    · have hxw := wt_mem hx
      obtain ⟨i, hi⟩ := List.getElem?_of_mem hx
      have hxs := sc_get hs.2.2 hi
      have hble := bindN_le op (0 + i)
      exact ih x _ hxs (by omega) (by omega)
    · rw [Tm.eta]
      by_cases h4 : op = 4
      · subst h4
        rw [if_pos rfl]
        have h2 : ks.length = 2 := by have := hs.1; rw [show ar 4 = some 2 by decide] at this; simp only [Option.some.injEq] at this; omega
        have hne : ks ≠ [] := by intro h; rw [h] at h2; cases h2
        rw [doneE_z 4 (.inl rfl)] at hK
        rcases hK with ⟨h, _⟩ | ⟨_, rfl, rfl⟩
        · exact absurd h hne
        · generalize Tm.etaL ks = D at hkd hdl
          have hd2 : D.length = 2 := by omega
          match D, hd2, hkd with
          | [a, b], _, hkd =>
            simp only [Tm.scL, Tm.wtL] at hkd
            exact reta_4 rec h2 (by omega) (by omega) hkd.1.2.1
      · rw [if_neg h4]
        by_cases h7 : op = 7
        · subst h7
          rw [if_pos rfl]
          have h2 : ks.length = 3 := by have := hs.1; rw [show ar 7 = some 3 by decide] at this; simp only [Option.some.injEq] at this; omega
          have hne : ks ≠ [] := by intro h; rw [h] at h2; cases h2
          rw [doneE_z 7 (.inr rfl)] at hK
          rcases hK with ⟨h, _⟩ | ⟨_, rfl, rfl⟩
          · exact absurd h hne
          · generalize Tm.etaL ks = D at hkd hdl
            have hd2 : D.length = 3 := by omega
            match D, hd2, hkd with
            | [a, b, c], _, hkd =>
              simp only [Tm.scL, Tm.wtL] at hkd
              refine reta_7 rec h2 (by omega) (by omega) (fun h5 => ?_) (fun h5 => ?_)
              · have := sc_kids hkd.1.2.1 h5 (show ar 8 = some 1 by decide)
                match hbk : b.kids, this with
                | [f], _ => exact ⟨f, rfl⟩
              · have := sc_kids hkd.1.2.2.1 h5 (show ar 9 = some 1 by decide)
                match hbk : c.kids, this with
                | [f], _ => exact ⟨f, rfl⟩
        · rw [if_neg h7]
          exact reta_other (by omega) rec hK
mutual
def Tm.count : Tm → Int → Int
  | .mk _ _ l, most => Tm.countL l 1 most
def Tm.countL : List Tm → Int → Int → Int
  | [], n, _ => n
  | t :: l, n, most => if n < most then Tm.countL l (n + t.count (most - n)) most else n
end
mutual
theorem count_le : ∀ (t : Tm) (m : Int), 1 ≤ t.count m ∧ (1 ≤ m → t.count m ≤ m)
  | .mk _ _ l, m => by
    have := countL_le l 1 m
    simp only [Tm.count]
    omega
theorem countL_le : ∀ (l : List Tm) (n m : Int), n ≤ Tm.countL l n m ∧ (n ≤ m → Tm.countL l n m ≤ m)
  | [], n, m => by simp only [Tm.countL]; omega
  | t :: l, n, m => by
    simp only [Tm.countL]
    split
    · have h1 := count_le t (m - n)
      have h2 := countL_le l (n + t.count (m - n)) m
      omega
    · omega
end
theorem count_ok : ∀ (n : Nat) (t : Tm) (most : Int), t.wt < n → most ≤ 4611686018427387904 → -4611686018427387904 ≤ most → Ans (SS dt n 47 [.fv t.enc, iv most] ⟨[], []⟩) (.int .i64 (t.count most)) := by
  intro n
  induction n with
  | zero => intro t most h; omega
  | succ n ih =>
    intro t most h hm hm'
    obtain ⟨op, m, ks⟩ := t
    simp only [Tm.wt] at h
    rw [c47, enc_mk]
    simp only [S47_53, S47_54, S47_55, S47_56, S47, ↓XX, XY, ↓reduceIte, Nat.reduceBEq, Nat.reduceAdd, Int.cast_ofNat_Int, Int.reduceEq, Int.reduceLT, Int.reduceLE, Tm.count]
    refine loop_run (Q := fun r => Ans r _) (fun k V H => ∃ rest pre acc, ks = pre ++ rest ∧ rest.length = k ∧ (pre.length : Int) < acc ∧ (acc ≤ 1 ∨ acc ≤ most) ∧ V = [iv most, .ptr (.own 49283072) 0, iv acc, iv pre.length] ∧
      H = ⟨[(49283072, .row [iv op, iv m, .fv (.sl (ks.map Tm.enc))] false)], []⟩ ∧ Tm.countL rest acc most = Tm.countL ks 1 most) ?_ n ks.length _ _ (by have := wt_len ks; omega) ⟨ks, [], 1, rfl, rfl, by simp, .inl (by omega), rfl, rfl, rfl⟩
    rintro k V H rec ⟨rest, pre, acc, hk, hl, hpre, hacc, rfl, rfl, ht⟩ hrec
    have hlen : ks.length = pre.length + rest.length := by rw [hk]; simp
    cases rest with
    | nil =>
      rw [← ht]
      simp only [S47_53, S47_54, S47_55, S47_56, S47_57, S47, ↓XX, XY, ↓reduceIte, Nat.reduceBEq, Nat.reduceAdd, Int.cast_ofNat_Int, Int.reduceEq, Int.reduceLT, Int.reduceLE, List.length_map, show ¬ ((pre.length : Int) < ks.length) by simp [hlen], Tm.countL]
      exact ans_fv _ _
    | cons t rest =>
      have hi : (pre.length : Int) < ks.length := by rw [hlen]; simp; omega
      by_cases ha : acc < most
      · have hg := at_pre hk
        obtain ⟨o, p, l⟩ := t
        have hb := count_le (.mk o p l) (most - acc)
        have hc := ih (.mk o p l) (most - acc) (by have := wt_mem (t := .mk o p l) (l := ks) (by rw [hk]; simp); omega) (by omega) (by omega)
        rw [enc_mk] at hc
        simp only [S47_53, S47_54, S47_55, S47_56, S47_57, S47, ↓XX, XY, ↓reduceIte, Nat.reduceBEq, Nat.reduceAdd, Int.cast_ofNat_Int, Int.reduceEq, Int.reduceLT, Int.reduceLE, List.length_map, hi, ha, ↓ix_f (map_get hg) (agg3l _ _ _), ↓agg3, w64_id (show -9223372036854775808 ≤ most - acc by omega) (show most - acc ≤ 9223372036854775807 by omega), ↓iso_2 hc,
          w64_id (show -9223372036854775808 ≤ acc + (Tm.mk o p l).count (most - acc) by omega) (show acc + (Tm.mk o p l).count (most - acc) ≤ 9223372036854775807 by omega), w64_id (show -9223372036854775808 ≤ (pre.length : Int) + 1 by omega) (show (pre.length : Int) + 1 ≤ 9223372036854775807 by omega)]
        simp only [List.length_cons] at hl
        refine hrec rest.length _ _ (by omega) ?_
        refine ⟨rest, pre ++ [.mk o p l], acc + (Tm.mk o p l).count (most - acc), by rw [hk]; simp, rfl, by simp; omega, .inr (by omega), by simp, rfl, ?_⟩
        rw [← ht]
        simp only [Tm.countL, if_pos ha]
      · rw [← ht]
        simp only [S47_53, S47_54, S47_55, S47_56, S47_57, S47, ↓XX, XY, ↓reduceIte, Nat.reduceBEq, Nat.reduceAdd, Int.cast_ofNat_Int, Int.reduceEq, Int.reduceLT, Int.reduceLE, List.length_map, hi, ha, Tm.countL]
        exact ans_fv _ _
theorem few_ok {n : Nat} (t : Tm) (h : t.wt < n) : Ans (SS dt (n + 1) 16 [.fv t.enc] ⟨[], []⟩) (.bool (decide (t.count 300 < 300))) := by
  rw [c16]
  have hc := count_ok n t 300 h (by omega) (by omega)
  obtain ⟨op, m, ks⟩ := t
  rw [enc_mk] at hc ⊢
  simp only [S16, ↓XX, XY, ↓reduceIte, Nat.reduceBEq, Nat.reduceAdd, Int.cast_ofNat_Int, Int.reduceEq, Int.reduceLT, Int.reduceLE, ↓iso_2 hc]
  exact ans_fv _ _
def Tm.plainT : Nat → Tm → Tm
  | 0, _ => .mk 15 0 []
  | d + 1, r => if r.n % 4 < 2 then .mk 15 0 [] else .mk (16 + r.n % 4 - 2) 0 [plainT d (r.pick 0), plainT d (r.pick 1)]
theorem plainT_ok : ∀ (d n : Nat) (r : Tm), d + 1 < n → d ≤ 1000 → Ans (SS dt n 33 [.fv r.enc, iv d] ⟨[], []⟩) (r.plainT d).enc := by
  intro d
  induction d with
  | zero =>
    intro n r hn _
    obtain ⟨n, rfl⟩ : ∃ k, n = k + 1 := ⟨n - 1, by omega⟩
    rw [c33]
    have hw := within4_ok (n := n) (by omega) r.n (m := 4) (by omega) (by omega)
    obtain ⟨op, m, ks⟩ := r
    rw [enc_mk]
    simp only [Tm.n] at hw
    simp only [S33_75, S33_76, S33_77, S33_78, S33_79, S33_80, S33_81, S33, ↓XX, XY, ↓reduceIte, Nat.reduceBEq, Nat.reduceAdd, Int.cast_ofNat_Int, Int.reduceEq, Int.reduceLT, Int.reduceLE, ↓iso_2 hw, ↓iso_2 (t0_ok (n := n) (by omega) 15), Tm.plainT, enc_mk]
    exact ans_p rfl _
  | succ d ih =>
    intro n r hn hd
    obtain ⟨n, rfl⟩ : ∃ k, n = k + 1 := ⟨n - 1, by omega⟩
    rw [c33]
    have hw := within4_ok (n := n) (by omega) r.n (m := 4) (by omega) (by omega)
    have h0 := ih n (r.pick 0) (by omega) (by omega)
    have h1 := ih n (r.pick 1) (by omega) (by omega)
    have p0 := pick_ok (n := n) (by omega) r 0
    have p1 := pick_ok (n := n) (by omega) r 1
    have ht := t_ok (n := n) (by omega) (16 + r.n % 4 - 2) [(r.pick 0).plainT d, (r.pick 1).plainT d]
    have hb0 : ¬ ((d + 1 : Nat) : Int) ≤ 0 := by omega
    have hm : w64 (((d + 1 : Nat) : Int) - 1) = d := by rw [w64_id] <;> omega
    have hr := Int.emod_nonneg r.n (show (4 : Int) ≠ 0 by decide)
    have hr2 := Int.emod_lt_of_pos r.n (show (0 : Int) < 4 by decide)
    have e1 : w64 (16 + r.n % 4) = 16 + r.n % 4 := by rw [w64_id] <;> omega
    have e2 : w64 (16 + r.n % 4 - 2) = 16 + r.n % 4 - 2 := by rw [w64_id] <;> omega
    simp only [List.map_cons, List.map_nil] at ht
    rw [Tm.plainT]
    obtain ⟨op, m, ks⟩ := r
    rw [enc_mk] at p0 p1 ⊢
    simp only [Tm.n] at *
    by_cases hk : m % 4 < 2
    · simp only [S33_75, S33_76, S33_77, S33_78, S33_79, S33_80, S33_81, S33, ↓XX, XY, ↓reduceIte, Nat.reduceBEq, Nat.reduceAdd, Int.cast_ofNat_Int, Int.reduceEq, Int.reduceLT, Int.reduceLE, ↓iso_2 hw, Tm.n, ↓iso_2 (t0_ok (n := n) (by omega) 15), hb0, hk, enc_mk]
      exact ans_p rfl _
    · simp only [S33_75, S33_76, S33_77, S33_78, S33_79, S33_80, S33_81, S33, ↓XX, XY, ↓reduceIte, Nat.reduceBEq, Nat.reduceAdd, Int.cast_ofNat_Int, Int.reduceEq, Int.reduceLT, Int.reduceLE, ↓iso_2 hw, hb0, hk, e1, e2, hm, ↓iso_2 p0, ↓iso_2 p1, ↓iso_2 h0, ↓iso_2 h1, ↓bs2_tm, ↓iso_2 ht]
      simp only [↓XX, XY, ↓reduceIte, Nat.reduceBEq, Nat.reduceAdd, Int.cast_ofNat_Int, Int.reduceEq, Int.reduceLT, Int.reduceLE, enc_mk]
      exact ans_p rfl _
theorem plainT_wt : ∀ (d : Nat) (r : Tm), (r.plainT d).wt ≤ 2 ^ (d + 1) - 1
  | 0, r => by simp [Tm.plainT, Tm.wt, Tm.wtL]
  | d + 1, r => by
    have h1 := plainT_wt d (r.pick 0)
    have h2 := plainT_wt d (r.pick 1)
    have h3 : 0 < 2 ^ (d + 1) := Nat.pow_pos (by decide)
    simp only [Tm.plainT]
    split
    · simp only [Tm.wt, Tm.wtL, Nat.pow_succ] at *; omega
    · simp only [Tm.wt, Tm.wtL, Nat.pow_succ] at *; omega
theorem sc_mk0 {op n : Int} {k : Nat} (h : ar op = some 0) (h1 : op ≠ 1) (hn : numok op n) : (Tm.mk op n []).sc k := by
  rw [Tm.sc]; exact ⟨h, by rw [if_neg h1]; exact hn, trivial⟩
theorem sc_mk1 {op n : Int} {k : Nat} {a : Tm} (h : ar op = some 1) (h1 : op ≠ 1) (hn : numok op n) (ha : a.sc (k + bindN op 0)) : (Tm.mk op n [a]).sc k := by
  rw [Tm.sc]; exact ⟨h, by rw [if_neg h1]; exact hn, ha, trivial⟩
theorem sc_mk2 {op n : Int} {k : Nat} {a b : Tm} (h : ar op = some 2) (h1 : op ≠ 1) (hn : numok op n) (ha : a.sc (k + bindN op 0)) (hb : b.sc (k + bindN op 1)) : (Tm.mk op n [a, b]).sc k := by
  rw [Tm.sc]; exact ⟨h, by rw [if_neg h1]; exact hn, ha, hb, trivial⟩
theorem sc_mk3 {op n : Int} {k : Nat} {a b c : Tm} (h : ar op = some 3) (h1 : op ≠ 1) (hn : numok op n) (ha : a.sc (k + bindN op 0)) (hb : b.sc (k + bindN op 1)) (hc : c.sc (k + bindN op 2)) : (Tm.mk op n [a, b, c]).sc k := by
  rw [Tm.sc]; exact ⟨h, by rw [if_neg h1]; exact hn, ha, hb, hc, trivial⟩
theorem sc_mk4 {op n : Int} {k : Nat} {a b c d : Tm} (h : ar op = some 4) (h1 : op ≠ 1) (hn : numok op n) (ha : a.sc (k + bindN op 0)) (hb : b.sc (k + bindN op 1)) (hc : c.sc (k + bindN op 2)) (hd : d.sc (k + bindN op 3)) : (Tm.mk op n [a, b, c, d]).sc k := by
  rw [Tm.sc]; exact ⟨h, by rw [if_neg h1]; exact hn, ha, hb, hc, hd, trivial⟩
theorem sc_var {n : Int} {k : Nat} (h : 0 ≤ n) (h2 : n < k) : (Tm.mk 1 n []).sc k := by
  rw [Tm.sc]; exact ⟨by decide, by rw [if_pos rfl]; exact ⟨h, h2⟩, trivial⟩
theorem num0 {op : Int} (h2 : op ≠ 2) (h26 : op ≠ 26) (h25 : op ≠ 25) : numok op 0 := by
  rw [numok, if_neg h2, if_neg h26, if_neg h25]
theorem z_sc (k : Nat) : Tm.z.sc k := sc_mk0 (by decide) (by decide) (num0 (by decide) (by decide) (by decide))
theorem num_sc (k : Nat) : ∀ n, (tnum n).sc k
  | 0 => sc_mk0 (by decide) (by decide) (num0 (by decide) (by decide) (by decide))
  | n + 1 => sc_mk1 (by decide) (by decide) (num0 (by decide) (by decide) (by decide)) (num_sc _ n)
theorem plainT_sc (k : Nat) : ∀ (d : Nat) (r : Tm), (r.plainT d).sc k
  | 0, r => by rw [Tm.plainT]; exact sc_mk0 (by decide) (by decide) (num0 (by decide) (by decide) (by decide))
  | d + 1, r => by
    have h1 := Int.emod_nonneg r.n (show (4 : Int) ≠ 0 by decide)
    have h2 := Int.emod_lt_of_pos r.n (show (0 : Int) < 4 by decide)
    rw [Tm.plainT]
    split
    · exact sc_mk0 (by decide) (by decide) (num0 (by decide) (by decide) (by decide))
    · have h3 : 16 + r.n % 4 - 2 = 16 ∨ 16 + r.n % 4 - 2 = 17 := by omega
      rcases h3 with h3 | h3 <;> (rw [h3]; exact sc_mk2 (by decide) (by decide) (num0 (by decide) (by decide) (by decide)) (plainT_sc _ d _) (plainT_sc _ d _))
mutual
theorem dp_wt : ∀ t : Tm, t.dp ≤ t.wt
  | .mk op n l => by
    have := dpL_wt l
    simp only [Tm.dp, Tm.wt]; omega
theorem dpL_wt : ∀ l : List Tm, Tm.dpL l ≤ Tm.wtL l
  | [] => by simp [Tm.dpL]
  | t :: l => by
    have h1 := dp_wt t
    have h2 := dpL_wt l
    simp only [Tm.dpL, Tm.wtL]; omega
end
abbrev Ctx := List (Int × Tm)
def v1 (p : Int × Tm) : FV := .agg [.int .i64 p.1, .int .i64 p.2.op, .int .i64 p.2.n, .sl (p.2.kids.map Tm.enc)]
def gEnc (g : Ctx) : FV := .sl (g.map v1)
structure GOk (e : Nat) (g : Ctx) : Prop where
  len : g.length + 2 * e ≤ 60
  ok : ∀ (i : Nat) (p : Int × Tm), g[i]? = some p → p.2.sc i ∧ p.2.wt ≤ 100000000000 ∧ p.2.dp ≤ 6000
theorem gok_mono {e e' : Nat} {g : Ctx} (h : e' ≤ e) (hg : GOk e g) : GOk e' g := ⟨by have := hg.len; omega, hg.ok⟩
theorem gok_more {e : Nat} {g : Ctx} {s : Int} {a : Tm} (hg : GOk (e + 1) g) (h1 : a.sc g.length) (h2 : a.wt ≤ 100000000000) (h3 : a.dp ≤ 6000) : GOk e (g ++ [(s, a)]) := by
  refine ⟨by have := hg.len; simp; omega, ?_⟩
  intro i p hp
  by_cases hi : i < g.length
  · rw [List.getElem?_append_left hi] at hp
    exact hg.ok i p hp
  · rw [List.getElem?_append_right (by omega)] at hp
    have hi2 : i - g.length = 0 := by
      cases h : i - g.length with
      | zero => rfl
      | succ j => rw [h] at hp; simp at hp
    rw [hi2] at hp
    simp only [List.getElem?_cons_zero, Option.some.injEq] at hp
    subst hp
    rw [show i = g.length by omega]
    exact ⟨h1, h2, h3⟩
def Wg (e : Nat) : Nat := 8000 * 4 ^ e
def Dg (e : Nat) : Nat := 200 + 10 * e
theorem Wg_s (e : Nat) : Wg (e + 1) = 4 * Wg e := by unfold Wg; rw [Nat.pow_succ]; omega
theorem Wg_0 (e : Nat) : 8000 ≤ Wg e := by
  have : 1 ≤ 4 ^ e := Nat.one_le_pow _ _ (by decide)
  unfold Wg; omega
theorem Wg_mono {e e' : Nat} (h : e ≤ e') : Wg e ≤ Wg e' := by
  unfold Wg
  exact Nat.mul_le_mul_left _ (Nat.pow_le_pow_right (by decide) h)
theorem Wg_10 {e : Nat} (h : e ≤ 10) : Wg e ≤ 21000000000 := Nat.le_trans (Wg_mono h) (by decide)
structure TOk (k e : Nat) (t : Tm) : Prop where
  sc : t.sc k
  wt : t.wt ≤ Wg e
  dp : t.dp ≤ Dg e
theorem tok_mono {k e e' : Nat} {t : Tm} (h : e ≤ e') (ht : TOk k e t) : TOk k e' t := ⟨ht.sc, Nat.le_trans ht.wt (Wg_mono h), by have := ht.dp; unfold Dg at *; omega⟩
structure AOk (k : Nat) (a : Tm) : Prop where
  sc : a.sc k
  wt : a.wt ≤ 1000000000000000
  dp : a.dp ≤ 10000
structure NOk (k : Nat) (a : Tm) : Prop where
  sc : a.sc k
  wt : a.wt ≤ 3000
  dp : a.dp ≤ 120
theorem nok_aok {k : Nat} {a : Tm} (h : NOk k a) : AOk k a := ⟨h.sc, by have := h.wt; omega, by have := h.dp; omega⟩
theorem norm_ev {k : Nat} {a : Tm} (hk : k ≤ 1000) (h : a.sc k) (hd : a.dp ≤ 20000) : ∃ u e, Ev 18 [.fv a.enc] (.tuple [u.enc, .int .i64 e]) ∧ (e = 0 ∧ NOk k u ∨ (e = 5 ∨ e = 17) ∧ u = .z) := by
  obtain ⟨f, u, e, h1, h2⟩ := normal_tot (k := k) (by omega) h (by have := bd_dp a; omega)
  refine ⟨u, e, ⟨f + 2, fun n hn => normal_ok f a u e h1 n hn⟩, ?_⟩
  rcases h2 with ⟨h3, h4, h5, h6⟩ | h2
  · exact .inl ⟨h3, ⟨h4, h5, h6⟩⟩
  · exact .inr h2
theorem tV1s : EE.T 28 = some ⟨1, 24, .slice 89, [.nils]⟩ := by kernel_rfl
theorem tV1 : EE.T 89 = some ⟨4, 48, .struct [(0, 3), (1, 31)], [.fv (.int .i64 0), .fv (.int .i64 0), .fv (.int .i64 0), .nils]⟩ := by kernel_rfl
theorem sV1 : SliceT EE 28 4 := ⟨_, _, _, _, _, tV1s, tV1, rfl, by decide, by decide⟩
theorem bs0_v1 (s : Nat) (h : Hp) (k : IV → Hp → List Ref → List Ref → Option (IV × Hp)) : genS (pcBuildSlice EE 28 0 []) s h k = k (.clip []) h [] [] := bs_tm tV1s tV1 (by decide) (cells := []) rfl k
theorem bs1_v1 (s0 o n : Int) (ks : List FV) (s : Nat) (h : Hp) (k : IV → Hp → List Ref → List Ref → Option (IV × Hp)) : genS (pcBuildSlice EE 28 1 [(0, .fv (.agg [.int .i64 s0, .int .i64 o, .int .i64 n, .sl ks]))]) s h k = k (.clip [.agg [.int .i64 s0, .int .i64 o, .int .i64 n, .sl ks]]) h [] [] :=
  bs_tm tV1s tV1 (by decide) (cells := [.int .i64 s0, .int .i64 o, .int .i64 n, .sl ks]) rfl k
theorem head_v1 (g : Ctx) : headOk 4 (g.map v1) = true := by
  cases g with
  | nil => rfl
  | cons a l => simp only [List.map_cons, headOk, v1, FV.cells, List.length_cons, List.length_nil, beq_self_eq_true]
theorem one_v1 (g : Ctx) : ((g.map v1).all fun e => e.cells.all FV.one) = true := by
  rw [List.all_map, List.all_eq_true]
  intro p _
  rfl
theorem more_ok {n : Nat} (g : Ctx) (st : Int) (a : Tm) (hg : g.length ≤ 1000) (hn : 0 < n) : Ans (SS dt n 29 [.fv (gEnc g), iv st, .fv a.enc] ⟨[], []⟩) (gEnc (g ++ [(st, a)])) := by
  obtain ⟨n, rfl⟩ : ∃ k, n = k + 1 := ⟨n - 1, by omega⟩
  rw [c29]
  rw [gEnc, gEnc, List.map_append, List.map_cons, List.map_nil]
  cases g with
  | nil =>
    have h0 := fun {β : Type} => app_e (β := β) (E := EE) sV1 (.sl []) (s0 := .clip []) (.inr rfl)
    have happ := fun {β : Type} => app_0 (β := β) sV1 (.clip [v1 (st, a)]) (head_v1 [(st, a)]) rfl (by simp) (s0 := .clip []) (.inr rfl)
    obtain ⟨o, p, k⟩ := a
    simp only [v1, Tm.op, Tm.n, Tm.kids] at happ ⊢
    rw [enc_mk]
    simp only [S29_27, S29_28, S29, ↓XX, XY, ↓reduceIte, Nat.reduceBEq, Nat.reduceAdd, Int.cast_ofNat_Int, Int.reduceEq, Int.reduceLT, Int.reduceLE, ↓bs0_v1, ↓h0, ↓bs1_v1, ↓happ]
    exact ans_p rfl _
  | cons t g =>
    have h0 := fun {β : Type} => app_0 (β := β) sV1 (.sl ((t :: g).map v1)) (head_v1 (t :: g)) rfl (by simp at hg ⊢; omega) (s0 := .clip []) (.inr rfl)
    have happ := fun {β : Type} => app_1 (β := β) sV1 (es := (t :: g).map v1) (es2 := [v1 (st, a)]) (.clip _) (head_v1 [(st, a)]) (head_v1 (t :: g)) (one_v1 [(st, a)]) (by simp at hg ⊢; omega)
    obtain ⟨o, p, k⟩ := a
    simp only [List.map_cons, List.length_map, List.length_cons, List.length_nil, List.cons_append] at h0 happ ⊢
    simp only [v1, Tm.op, Tm.n, Tm.kids] at h0 happ ⊢
    rw [enc_mk]
    simp only [S29_27, S29_28, S29, ↓XX, XY, ↓reduceIte, Nat.reduceBEq, Nat.reduceAdd, Int.cast_ofNat_Int, Int.reduceEq, Int.reduceLT, Int.reduceLE, ↓bs0_v1, ↓h0, ↓bs1_v1, ↓happ, tok_k]
    exact ans_p rfl _
theorem nat4_ok {n : Nat} (hn : 1 < n) : Ans (SS dt n 56 [] ⟨[], []⟩) (Tm.mk 10 0 []).enc := by
  obtain ⟨n, rfl⟩ : ∃ k, n = k + 1 := ⟨n - 1, by omega⟩
  rw [c56]
  have t := t0_ok (n := n) (by omega) 10
  rw [enc_mk] at t ⊢
  simp only [S56, ↓XX, XY, ↓reduceIte, Nat.reduceBEq, Nat.reduceAdd, Int.cast_ofNat_Int, Int.reduceEq, Int.reduceLT, Int.reduceLE, ↓iso_2 t]; exact ans_fv _ _
theorem fin_ev {P : Nat → Nat → Prop} : ∀ m, (∀ i, i < m → ∃ N, ∀ n, N ≤ n → P i n) → ∃ N, ∀ i, i < m → ∀ n, N ≤ n → P i n := by
  intro m
  induction m with
  | zero => intro _; exact ⟨0, fun i hi => by omega⟩
  | succ m ih =>
    intro h
    obtain ⟨N1, h1⟩ := ih fun i hi => h i (by omega)
    obtain ⟨N2, h2⟩ := h m (by omega)
    refine ⟨N1 + N2, fun i hi n hn => ?_⟩
    by_cases him : i = m
    · subst him; exact h2 n (by omega)
    · exact h1 i (by omega) n (by omega)
theorem tInts : EE.T 108 = some ⟨1, 24, .slice 3, [.nils]⟩ := by kernel_rfl
theorem tInt : EE.T 3 = some ⟨1, 8, .int .i64, [.fv (.int .i64 0)]⟩ := by kernel_rfl
theorem sInt : SliceT EE 108 1 := ⟨_, _, _, _, _, tInts, tInt, rfl, by decide, by decide⟩
theorem bs1_i (a : Int) (s : Nat) (h : Hp) (k : IV → Hp → List Ref → List Ref → Option (IV × Hp)) : genS (pcBuildSlice EE 108 1 [(0, iv a)]) s h k = k (.clip [.int .i64 a]) h [] [] := bs_tm tInts tInt (by decide) (cells := [.int .i64 a]) rfl k
def iE (l : List Nat) : List FV := l.map fun (i : Nat) => FV.int .i64 (i : Int)
theorem head_i (l : List Nat) : headOk 1 (iE l) = true := by
  cases l with
  | nil => rfl
  | cons a l => rfl
theorem one_i (l : List Nat) : ((iE l).all fun e => e.cells.all FV.one) = true := by
  rw [iE, List.all_map, List.all_eq_true]; intro p _; rfl
def lV : List Nat → IV
  | [] => .nils
  | i :: l => .app (.own 61874179) (iE (i :: l))
def lH : List Nat → List (Nat × Blk)
  | [] => []
  | i :: l => [(61874179, .tok (i :: l).length 1)]
noncomputable abbrev Hvar (o m : Int) (ks : List Tm) (l : List Nat) : Hp :=
  ⟨[(61865984, .row [iv o, iv m, .fv (.sl (ks.map Tm.enc))] false), (61865985, .row [iv 0, iv 0, .nils] false)] ++ lH l, []⟩
theorem filt_succ (p : Nat → Bool) (i : Nat) : (List.range (i + 1)).filter p = (List.range i).filter p ++ (if p i then [i] else []) := by
  rw [List.range_succ, List.filter_append]
  cases h : p i <;> simp [h]
set_option maxRecDepth 20000 in
set_option maxHeartbeats 4000000 in
theorem variable_ev {e0 : Nat} {g : Ctx} (hg : GOk e0 g) (st : Int) {a : Tm} (ha : NOk g.length a) (x : Int) : ∃ t b, Ev 59 [.fv (gEnc g), iv st, .fv a.enc, iv x] (.tuple [Tm.enc t, .bool b]) ∧ TOk g.length 0 t := by
  have hlen := hg.len
  have hc : ∀ i : Nat, ∃ (p : Int × Tm) (u : Tm) (e : Int), i < g.length → g[g.length - 1 - i]? = some p ∧ p.2.wk ∧ p.2.wt ≤ 100000000000 ∧ Ev 18 [.fv (p.2.shift ((i : Int) + 1) 0).enc] (.tuple [u.enc, .int .i64 e]) ∧ (e = 0 ∧ NOk g.length u ∨ (e = 5 ∨ e = 17) ∧ u = .z) := by
    intro i
    by_cases hi : i < g.length
    · obtain ⟨p, hp⟩ : ∃ p, g[g.length - 1 - i]? = some p := ⟨_, List.getElem?_eq_getElem (by omega)⟩
      obtain ⟨h1, h2, h3⟩ := hg.ok _ _ hp
      have h4 := shift_sc p.2 (i + 1) 0 _ h1 (by omega)
      rw [show g.length - 1 - i + (i + 1) = g.length by omega] at h4
      obtain ⟨u, e, h5, h6⟩ := norm_ev (k := g.length) (by omega) h4 (by rw [shift_dp]; omega)
      exact ⟨p, u, e, fun _ => ⟨hp, sc_wk _ _ h1, h2, h5, h6⟩⟩
    · exact ⟨(0, .z), .z, 0, fun h => absurd h hi⟩
  obtain ⟨P, hP⟩ := Classical.axiomOfChoice hc
  obtain ⟨U, hP⟩ := Classical.axiomOfChoice hP
  obtain ⟨E, hU⟩ := Classical.axiomOfChoice hP
  clear hP hc
  obtain ⟨N, hN⟩ := fin_ev (P := fun i n => Ans (SS dt n 18 [.fv ((P i).2.shift ((i : Int) + 1) 0).enc] ⟨[], []⟩) (.tuple [(U i).enc, .int .i64 (E i)])) g.length (fun i hi => (hU i hi).2.2.2.1)
  obtain ⟨hit, hhit⟩ : ∃ h : Nat → Bool, ∀ i, h i = (decide ((P i).1 = st) && (decide (E i = 0) && (U i).eta.same a.eta)) := ⟨_, fun _ => rfl⟩
  obtain ⟨L, hL⟩ : ∃ L, L = (List.range g.length).filter hit := ⟨_, rfl⟩
  obtain ⟨tt, htt⟩ : ∃ tt : Tm, tt = if L = [] then .z else .mk 1 ((L.getD (x % (L.length : Int)).toNat 0 : Nat) : Int) [] := ⟨_, rfl⟩
  have hLlt : ∀ i ∈ L, i < g.length := fun i hi => by
    rw [hL] at hi
    exact List.mem_range.1 (List.mem_filter.1 hi).1
  refine ⟨tt, !decide (L = []), ⟨N + 200000000000 + 1, ?_⟩, ?_⟩
  · intro n hn
    obtain ⟨n, rfl⟩ : ∃ k, n = k + 1 := ⟨n - 1, by omega⟩
    have hka := reta_ok n a g.length ha.sc (by have := ha.wt; omega) (by have := ha.wt; omega)
    rw [c59]
    generalize hae : a.eta = ae at hka hhit
    obtain ⟨oa, ma, ka⟩ := a
    obtain ⟨oe, me, ke⟩ := ae
    simp only [enc_mk] at hka ⊢
    simp only [S59_133, S59_134, S59_135, S59_136, S59_137, S59_138, S59_139, S59_140, S59_141, S59_142, S59_143, S59_144, S59_145, S59_146, S59, ↓XX, XY, ↓reduceIte, Nat.reduceBEq, Nat.reduceAdd, Int.cast_ofNat_Int, Int.reduceEq, Int.reduceLT, Int.reduceLE, gEnc, ↓drop_e, XD, heldB, flatD, XE]
    refine loop_run (Q := fun r => Ans r _) (fun k V H => ∃ i : Nat, i + k = g.length ∧ ∃ l : List Nat, l = (List.range i).filter hit ∧ V = [.fv (.sl (g.map v1)), iv st, iv x, .ptr (.own 61865984) 0, .ptr (.own 61865985) 0, lV l, iv i] ∧ H = Hvar oa ma ka l)
      ?_ n g.length _ _ (by omega) ⟨0, by omega, [], rfl, rfl, rfl⟩
    rintro k V H rec ⟨i, hik, l, hl, rfl, rfl⟩ hrec
    cases k with
    | zero =>
      have hig : i = g.length := by omega
      rw [hig] at hl
      rw [← hL] at hl
      subst hl
      have hno : ¬ ((i : Int) < g.length) := by omega
      cases l with
      | nil =>
        rw [htt, if_pos rfl]
        simp only [lV, Tm.z, enc_mk]
        simp only [↓UU11, ↓XX, XY, ↓reduceIte, Nat.reduceBEq, Nat.reduceAdd, Int.cast_ofNat_Int, Int.reduceEq, Int.reduceLT, Int.reduceLE, hno]
        first | exact ans_fv _ _ | exact ans_t rfl (by simp) _
      | cons i0 l0 =>
        rw [htt, if_neg (by simp)]
        generalize hl1 : i0 :: l0 = l at *
        have hlp : 0 < l.length := by rw [← hl1]; simp
        have hll : l.length ≤ 100 := by
          have h1 := List.length_filter_le hit (List.range g.length)
          rw [← hL, List.length_range] at h1
          omega
        have hw := within4_ok (n := n) (by omega) x (m := (l.length : Int)) (by omega) (by omega)
        have h1 := Int.emod_nonneg x (show (l.length : Int) ≠ 0 by omega)
        have h2 := Int.emod_lt_of_pos x (show (0 : Int) < l.length by omega)
        obtain ⟨j, hj⟩ : ∃ j : Nat, x % (l.length : Int) = j := ⟨(x % (l.length : Int)).toNat, by omega⟩
        rw [hj] at hw h2 ⊢
        have hjl : j < l.length := by omega
        have hget : (iE l)[j]? = some (.int .i64 ((l.getD j 0 : Nat) : Int)) := by
          rw [iE, List.getElem?_map, List.getD_eq_getElem?_getD, List.getElem?_eq_getElem hjl]; rfl
        rw [Int.toNat_natCast]
        have hix := fun {β : Type} => ix_f (β := β) (size := 1) hget rfl
        have hv := v_ok (n := n) (by omega) ((l.getD j 0 : Nat) : Int)
        generalize ((l.getD j 0 : Nat) : Int) = q at hix hv ⊢
        have hln : ¬ ((l.length : Int) = 0) := by omega
        have hiel : (iE l).length = l.length := by rw [iE, List.length_map]
        have hap : ∀ (β : Type) (x : IV) (k : IV → Option β), ixS 1 (.app (.own 61874179) (iE l)) x k = ixS 1 (.fv (.sl (iE l))) x k := fun _ _ _ => rfl
        have hlV : lV l = .app (.own 61874179) (iE l) := by rw [← hl1]; rfl
        have hlH : lH l = [(61874179, .tok l.length 1)] := by rw [← hl1]; rfl
        have hne : decide (l = []) = false := by rw [← hl1]; simp
        rw [hlV, Hvar, hlH, hne]
        simp only [List.cons_append, List.nil_append]
        simp only [enc_mk, List.map_nil] at hv ⊢
        simp only [↓UU11, ↓XX, XY, ↓reduceIte, Nat.reduceBEq, Nat.reduceAdd, Int.cast_ofNat_Int, Int.reduceEq, Int.reduceLT, Int.reduceLE, hno, hiel, hln, ↓iso_2 hw, ↓hap, ↓hix, FV.cells, ↓iso_1 hv]
        first | exact ans_fv _ _ | exact ans_t rfl (by simp) _
    | succ k =>
      have hig : i < g.length := by omega
      have hlt : (i : Int) < g.length := by omega
      obtain ⟨hp, hwk, hwt, _, hN'⟩ := hU i hig
      have hget : (g.map v1)[g.length - 1 - i]? = some (v1 (P i)) := by rw [List.getElem?_map, hp]; rfl
      have hix := fun {β : Type} => ix_f (β := β) (size := 4) hget rfl
      have w1 : w64 ((g.length : Int) - 1) = (g.length : Int) - 1 := by rw [w64_id] <;> omega
      have w2 : w64 ((g.length : Int) - 1 - i) = ((g.length - 1 - i : Nat) : Int) := by rw [w64_id (by omega) (by omega)]; omega
      have wi : w64 ((i : Int) + 1) = (i : Int) + 1 := by rw [w64_id] <;> omega
      have hsh := shift_ok n (P i).2 ((i : Int) + 1) 0 (by omega) hwk (by omega) (by omega)
      have hNi := hN i hig n (by omega)
      have h9 := fun (l' : List Nat) (e : l' = l ++ if hit i then [i] else []) => hrec k [.fv (.sl (g.map v1)), iv st, iv x, .ptr (.own 61865984) 0, .ptr (.own 61865985) 0, lV l', iv (i + 1 : Nat)] (Hvar oa ma ka l') (by omega)
        ⟨i + 1, by omega, l', by rw [filt_succ, ← hl, e], rfl, rfl⟩
      have hi1 : ((i + 1 : Nat) : Int) = (i : Int) + 1 := by omega
      rw [hi1] at h9
      have hhi := hhit i
      generalize (P i).2.shift ((i : Int) + 1) 0 = ts at hsh hNi
      generalize P i = p at hp hget hix hsh hhi
      obtain ⟨sp, tp⟩ := p
      by_cases c1 : sp = st
      · by_cases c2 : E i = 0
        · have hUi : NOk g.length (U i) := by
            rcases hN' with ⟨_, h⟩ | ⟨h, _⟩
            · exact h
            · omega
          have hke := reta_ok n (U i) g.length hUi.sc (by have := hUi.wt; omega) (by have := hUi.wt; omega)
          have hew := (eta_sc (U i) g.length hUi.sc (by have := hUi.wt; omega)).2
          have hsm := same_ok n (U i).eta (.mk oe me ke) (by have := hUi.wt; omega) (by have := hUi.wt; omega)
          rw [c2] at hNi
          simp only [c1, c2, decide_true, Bool.true_and] at hhi
          rw [← hhi] at hsm
          generalize (U i).eta = ue at hke hsm
          generalize U i = ui at hNi hke
          obtain ⟨o1, n1, k1⟩ := tp
          obtain ⟨o2, n2, k2⟩ := ts
          obtain ⟨o3, n3, k3⟩ := ui
          obtain ⟨o4, n4, k4⟩ := ue
          subst c1
          simp only [enc_mk, v1, Tm.op, Tm.n, Tm.kids] at hsh hNi hke hsm hix
          cases hb : hit i
          · rw [hb] at hsm h9
            have h9 := h9 l (by simp)
            cases l with
            | nil =>
              simp only [lV, lH, Hvar, List.append_nil] at h9 ⊢
              simp only [↓UU11, ↓XX, XY, ↓reduceIte, Nat.reduceBEq, Nat.reduceAdd, Int.cast_ofNat_Int, Int.reduceEq, Int.reduceLT, Int.reduceLE, hlt, w1, w2, wi, ↓hix, FV.cells, ↓iso_3 hsh, ↓iso_1 hNi, ↓iso_1 hke, ↓iso_1 hka, ↓iso_2 hsm, ↓drop_e, XD, heldB, flatD, XE]
              exact h9
            | cons i0 l0 =>
              simp only [lV, lH, Hvar, List.cons_append, List.nil_append] at h9 ⊢
              simp only [↓UU11, ↓XX, XY, ↓reduceIte, Nat.reduceBEq, Nat.reduceAdd, Int.cast_ofNat_Int, Int.reduceEq, Int.reduceLT, Int.reduceLE, hlt, w1, w2, wi, ↓hix, FV.cells, ↓iso_3 hsh, ↓iso_1 hNi, ↓iso_1 hke, ↓iso_1 hka, ↓iso_2 hsm, ↓drop_e, XD, heldB, flatD, XE]
              exact h9
          · rw [hb] at hsm h9
            have h9 := h9 (l ++ [i]) (by simp)
            cases l with
            | nil =>
              have happ := fun {β : Type} => app_0 (β := β) sInt (.clip [.int .i64 (i : Int)]) (head_i [i]) rfl (by simp) (s0 := .nils) (.inl rfl)
              simp only [lV, lH, Hvar, List.cons_append, List.nil_append] at h9 ⊢
              simp only [↓UU11, ↓XX, XY, ↓reduceIte, Nat.reduceBEq, Nat.reduceAdd, Int.cast_ofNat_Int, Int.reduceEq, Int.reduceLT, Int.reduceLE, hlt, w1, w2, wi, ↓hix, FV.cells, ↓iso_3 hsh, ↓iso_1 hNi, ↓iso_1 hke, ↓iso_1 hka, ↓iso_2 hsm, ↓bs1_i, ↓happ, ↓drop_e, XD, heldB, flatD, XE]
              exact h9
            | cons i0 l0 =>
              have hll : (i0 :: l0).length ≤ 100 := by
                have h1 := List.length_filter_le hit (List.range i)
                rw [← hl, List.length_range] at h1
                omega
              have happ := fun {β : Type} => app_1 (β := β) sInt (es := iE (i0 :: l0)) (es2 := [.int .i64 (i : Int)]) (.clip _) (head_i [i]) (head_i _) (one_i [i]) (by rw [iE, List.length_map]; simp only [List.length_cons, List.length_nil] at hll ⊢; omega)
              have hil : (iE (i0 :: l0)).length = (i0 :: l0).length := by rw [iE, List.length_map]
              have hia : iE (i0 :: l0) ++ [.int .i64 (i : Int)] = iE (i0 :: (l0 ++ [i])) := by simp [iE]
              have hil2 : (i0 :: (l0 ++ [i])).length = (i0 :: l0).length + 1 := by simp
              simp only [hil, hia, List.length_cons, List.length_nil, Nat.zero_add] at happ
              simp only [lV, lH, Hvar, List.cons_append, List.nil_append, hil2] at h9 ⊢
              simp only [List.length_cons] at h9 ⊢
              simp only [↓UU11, ↓XX, XY, ↓reduceIte, Nat.reduceBEq, Nat.reduceAdd, Int.cast_ofNat_Int, Int.reduceEq, Int.reduceLT, Int.reduceLE, hlt, w1, w2, wi, ↓hix, FV.cells, ↓iso_3 hsh, ↓iso_1 hNi, ↓iso_1 hke, ↓iso_1 hka, ↓iso_2 hsm, ↓bs1_i, ↓happ, tok_k, ↓drop_e, XD, heldB, flatD, XE]
              exact h9
        · simp only [c2, decide_false, Bool.false_and, Bool.and_false] at hhi
          rw [hhi] at h9
          have h9 := h9 l (by simp)
          generalize E i = ei at hNi c2
          generalize U i = ui at hNi
          obtain ⟨o1, n1, k1⟩ := tp
          obtain ⟨o2, n2, k2⟩ := ts
          obtain ⟨o3, n3, k3⟩ := ui
          subst c1
          simp only [enc_mk, v1, Tm.op, Tm.n, Tm.kids] at hsh hNi hix
          cases l with
          | nil =>
            simp only [lV, lH, Hvar, List.append_nil] at h9 ⊢
            simp only [↓UU11, ↓XX, XY, ↓reduceIte, Nat.reduceBEq, Nat.reduceAdd, Int.cast_ofNat_Int, Int.reduceEq, Int.reduceLT, Int.reduceLE, hlt, w1, w2, wi, ↓hix, FV.cells, ↓iso_3 hsh, ↓iso_1 hNi, c2, ↓drop_e, XD, heldB, flatD, XE]
            exact h9
          | cons i0 l0 =>
            simp only [lV, lH, Hvar, List.cons_append, List.nil_append] at h9 ⊢
            simp only [↓UU11, ↓XX, XY, ↓reduceIte, Nat.reduceBEq, Nat.reduceAdd, Int.cast_ofNat_Int, Int.reduceEq, Int.reduceLT, Int.reduceLE, hlt, w1, w2, wi, ↓hix, FV.cells, ↓iso_3 hsh, ↓iso_1 hNi, c2, ↓drop_e, XD, heldB, flatD, XE]
            exact h9
      · simp only [c1, decide_false, Bool.false_and] at hhi
        rw [hhi] at h9
        have h9 := h9 l (by simp)
        obtain ⟨o1, n1, k1⟩ := tp
        simp only [v1, Tm.op, Tm.n, Tm.kids] at hix
        cases l with
        | nil =>
          simp only [lV, lH, Hvar, List.append_nil] at h9 ⊢
          simp only [↓UU11, ↓XX, XY, ↓reduceIte, Nat.reduceBEq, Nat.reduceAdd, Int.cast_ofNat_Int, Int.reduceEq, Int.reduceLT, Int.reduceLE, hlt, w1, w2, wi, ↓hix, FV.cells, c1, ↓drop_e, XD, heldB, flatD, XE]
          exact h9
        | cons i0 l0 =>
          simp only [lV, lH, Hvar, List.cons_append, List.nil_append] at h9 ⊢
          simp only [↓UU11, ↓XX, XY, ↓reduceIte, Nat.reduceBEq, Nat.reduceAdd, Int.cast_ofNat_Int, Int.reduceEq, Int.reduceLT, Int.reduceLE, hlt, w1, w2, wi, ↓hix, FV.cells, c1, ↓drop_e, XD, heldB, flatD, XE]
          exact h9
  · rw [htt]
    split
    · exact ⟨z_sc _, by have := Wg_0 0; simp [Tm.z, Tm.wt, Tm.wtL]; omega, by simp [Tm.z, Tm.dp, Tm.dpL, Dg]⟩
    · rename_i hne
      have h1 := Int.emod_nonneg x (show (L.length : Int) ≠ 0 by
        intro h; exact hne (List.eq_nil_of_length_eq_zero (by omega)))
      have h2 := Int.emod_lt_of_pos x (show (0 : Int) < L.length by
        have : L.length ≠ 0 := fun h => hne (List.eq_nil_of_length_eq_zero h)
        omega)
      have hj : (x % (L.length : Int)).toNat < L.length := by omega
      have := hLlt (L.getD (x % (L.length : Int)).toNat 0) (by rw [List.getD_eq_getElem?_getD, List.getElem?_eq_getElem hj]; exact List.getElem_mem hj)
      exact ⟨sc_var (by omega) (by omega), by have := Wg_0 0; simp [Tm.wt, Tm.wtL]; omega, by simp [Tm.dp, Tm.dpL, Dg]⟩
def GrowE (F : FuncId) (e : Nat) : Prop := ∀ (g : Ctx) (a r : Tm), GOk e g → AOk g.length a → ∃ t b, Ev F [.fv (gEnc g), .fv a.enc, .fv r.enc, iv ((e : Int) - 5)] (.tuple [Tm.enc t, .bool b]) ∧ TOk g.length e t
def GrowN (F : FuncId) (e : Nat) : Prop := ∀ (g : Ctx) (a r : Tm), GOk e g → NOk g.length a → ∃ t b, Ev F [.fv (gEnc g), .fv a.enc, .fv r.enc, iv ((e : Int) - 5)] (.tuple [Tm.enc t, .bool b]) ∧ TOk g.length e t
structure TyOk (k e : Nat) (t : Tm) : Prop where
  sc : t.sc k
  wt : t.wt ≤ Wg (e - 1) + 10
  dp : t.dp ≤ Dg (e - 1) + 3
def TypeE (e : Nat) : Prop := ∀ (g : Ctx) (r : Tm), GOk e g → ∃ t, Ev 25 [.fv (gEnc g), .fv r.enc, iv ((e : Int) - 5)] (Tm.enc t) ∧ TyOk g.length e t
theorem sh_nok {k : Nat} {a : Tm} (h : NOk k a) (hk : k ≤ 1000) (d : Nat) (hd : d ≤ 10) : NOk (k + d) (a.shift d 0) := ⟨shift_sc a d 0 k h.sc (by have := h.wt; omega), by rw [shift_wt]; exact h.wt, by rw [shift_dp]; exact h.dp⟩
theorem dp1 (op n : Int) (a : Tm) : (Tm.mk op n [a]).dp = 1 + a.dp := by simp only [Tm.dp, Tm.dpL]; omega
theorem dp2 (op n : Int) (a b : Tm) : (Tm.mk op n [a, b]).dp = 1 + max a.dp b.dp := by simp only [Tm.dp, Tm.dpL]; omega
theorem dp3 (op n : Int) (a b c : Tm) : (Tm.mk op n [a, b, c]).dp = 1 + max a.dp (max b.dp c.dp) := by simp only [Tm.dp, Tm.dpL]; omega
theorem dp4 (op n : Int) (a b c d : Tm) : (Tm.mk op n [a, b, c, d]).dp = 1 + max a.dp (max b.dp (max c.dp d.dp)) := by simp only [Tm.dp, Tm.dpL]; omega
theorem wt1 (op n : Int) (a : Tm) : (Tm.mk op n [a]).wt = 1 + a.wt := by simp only [Tm.wt, Tm.wtL]; omega
theorem wt2 (op n : Int) (a b : Tm) : (Tm.mk op n [a, b]).wt = 1 + a.wt + b.wt := by simp only [Tm.wt, Tm.wtL]; omega
theorem wt3 (op n : Int) (a b c : Tm) : (Tm.mk op n [a, b, c]).wt = 1 + a.wt + b.wt + c.wt := by simp only [Tm.wt, Tm.wtL]; omega
theorem wt4 (op n : Int) (a b c d : Tm) : (Tm.mk op n [a, b, c, d]).wt = 1 + a.wt + b.wt + c.wt + d.wt := by simp only [Tm.wt, Tm.wtL]; omega
set_option maxRecDepth 20000 in
set_option maxHeartbeats 4000000 in
theorem redex_ev {e : Nat} (h6 : 6 ≤ e) (he : e ≤ 10) (hT : TypeE 6) (hG : GrowE 26 (e - 2)) : GrowN 60 e := by
  intro g a r hg ha
  have hlen := hg.len
  have hW2 : Wg e = 16 * Wg (e - 2) := by
    obtain ⟨f, rfl⟩ : ∃ f, e = f + 2 := ⟨e - 2, by omega⟩
    rw [show f + 2 = (f + 1) + 1 by omega, Wg_s, Wg_s, show f + 1 + 1 - 2 = f by omega]; omega
  have hW20 := Wg_0 (e - 2)
  have hW5 : 4 * Wg 5 ≤ Wg e := by rw [← Wg_s]; exact Wg_mono (by omega)
  have hW10 := Wg_10 he
  have hDe : Dg e = Dg (e - 2) + 20 := by unfold Dg; omega
  have hD5 : Dg 5 + 10 ≤ Dg e := by unfold Dg; omega
  have hD2 : 200 ≤ Dg (e - 2) := by unfold Dg; omega
  have hDm : Dg e ≤ 300 := by unfold Dg; omega
  obtain ⟨b, ⟨N1, h1⟩, tb⟩ := hT g (r.pick 0) (gok_mono (by omega) hg)
  have bw := tb.wt
  have bd := tb.dp
  simp only [show 6 - 1 = 5 from rfl] at bw bd
  have hba : AOk g.length b := ⟨tb.sc, by omega, by omega⟩
  have hbm : GOk (e - 2) (g ++ [(1, b)]) := gok_more (gok_mono (by omega) hg) tb.sc (by omega) (by omega)
  obtain ⟨x, p, ⟨N2, h2⟩, tx⟩ := hG g b (r.pick 1) (gok_mono (by omega) hg) hba
  obtain ⟨c, q, ⟨N3, h3⟩, tc⟩ := hG g a (r.pick 2) (gok_mono (by omega) hg) (nok_aok ha)
  have hsa := sh_nok ha (by omega) 1 (by omega)
  obtain ⟨c2, q2, ⟨N4, h4⟩, tc2⟩ := hG (g ++ [(1, b)]) (a.shift 1 0) (r.pick 2) hbm (by simpa using nok_aok hsa)
  have we : w64 ((e : Int) - 5 - 2) = ((e - 2 : Nat) : Int) - 5 := by rw [w64_id (by omega) (by omega)]; omega
  have hd2 : (((e - 2 : Nat) : Int) - 5) = ((e - 2 : Nat) : Int) - 5 := rfl
  have aw := ha.wt
  have ad := ha.dp
  have xw := tx.wt
  have cw := tc.wt
  have c2w := tc2.wt
  have xd := tx.dp
  have cd := tc.dp
  have c2d := tc2.dp
  have c2s : c2.sc (g.length + 1) := by simpa using tc2.sc
  by_cases h0 : r.n % 3 = 0
  · refine ⟨.mk 8 0 [.mk 7 0 [.mk 6 0 [a, b.shift 1 0], c, x]], p && q, ⟨N1 + N2 + N3 + 200000000000 + 1, ?_⟩, ?_, ?_, ?_⟩
    · intro n hn
      obtain ⟨n, rfl⟩ : ∃ k, n = k + 1 := ⟨n - 1, by omega⟩
      have h1 := h1 n (by omega)
      have h2 := h2 n (by omega)
      have h3 := h3 n (by omega)
      rw [← we] at h2 h3
      have p0 := pick_ok (n := n) (by omega) r 0
      have p1 := pick_ok (n := n) (by omega) r 1
      have p2 := pick_ok (n := n) (by omega) r 2
      have hw := within4_ok (n := n) (by omega) r.n (m := 3) (by omega) (by omega)
      have hsh := shift_ok n b 1 0 (by omega) (sc_wk _ _ tb.sc) (by omega) (by omega)
      have t6 := t_ok (n := n) (by omega) 6 [a, b.shift 1 0]
      have t7 := t_ok (n := n) (by omega) 7 [.mk 6 0 [a, b.shift 1 0], c, x]
      have t8 := t_ok (n := n) (by omega) 8 [.mk 7 0 [.mk 6 0 [a, b.shift 1 0], c, x]]
      rw [h0] at hw
      rw [c60]
      clear h4 tb tx tc tc2 ha hg hG hT hba hbm hsa aw ad xw cw c2w bw xd cd c2d bd c2s
      generalize b.shift 1 0 = bs at hsh t6 t7 t8 ⊢
      generalize r.pick 0 = r0 at p0 h1
      generalize r.pick 1 = r1 at p1 h2
      generalize r.pick 2 = r2 at p2 h3
      obtain ⟨o1, m1, k1⟩ := a
      obtain ⟨o2, m2, k2⟩ := b
      obtain ⟨o3, m3, k3⟩ := r
      obtain ⟨o4, m4, k4⟩ := bs
      obtain ⟨o5, m5, k5⟩ := x
      obtain ⟨o6, m6, k6⟩ := c
      obtain ⟨o7, m7, k7⟩ := r0
      obtain ⟨o8, m8, k8⟩ := r1
      obtain ⟨o9, m9, k9⟩ := r2
      simp only [Tm.n, gEnc, List.map_cons, List.map_nil, enc_mk, Int.reduceSub, Int.cast_ofNat_Int] at h1 h2 h3 p0 p1 p2 hw hsh t6 t7 t8 ⊢
      cases p
      · simp (maxSteps := 1000000) only [S60_205, S60_206, S60_207, S60_208, S60_209, S60_210, S60_211, S60_212, S60_213, S60_214, S60_215, S60_216, S60_217, S60_218, S60_219, S60_220, S60_221, S60_222, S60_223, S60_224, S60_225, S60, ↓XX, XY, ↓reduceIte, Nat.reduceBEq, Nat.reduceAdd, Int.cast_ofNat_Int, Int.reduceEq, Int.reduceLT, Int.reduceLE, ↓iso_2 p0, ↓iso_2 p1, ↓iso_2 p2, ↓iso_3 h1, ↓iso_4 h2, ↓iso_2 hw, ↓iso_4 h3, ↓iso_3 hsh, ↓bs2_g, ↓iso_2 t6, ↓bs3_g, ↓iso_2 t7, ↓bs1_g, ↓iso_2 t8]
        first | exact ans_fv _ _ | exact ans_t rfl (by simp) _
      · simp (maxSteps := 1000000) only [S60_205, S60_206, S60_207, S60_208, S60_209, S60_210, S60_211, S60_212, S60_213, S60_214, S60_215, S60_216, S60_217, S60_218, S60_219, S60_220, S60_221, S60_222, S60_223, S60_224, S60_225, S60, ↓XX, XY, ↓reduceIte, Nat.reduceBEq, Nat.reduceAdd, Int.cast_ofNat_Int, Int.reduceEq, Int.reduceLT, Int.reduceLE, ↓iso_2 p0, ↓iso_2 p1, ↓iso_2 p2, ↓iso_3 h1, ↓iso_4 h2, ↓iso_2 hw, ↓iso_4 h3, ↓iso_3 hsh, ↓bs2_g, ↓iso_2 t6, ↓bs3_g, ↓iso_2 t7, ↓bs1_g, ↓iso_2 t8]
        first | exact ans_fv _ _ | exact ans_t rfl (by simp) _
    · exact sc_mk1 (by decide) (by decide) (num0 (by decide) (by decide) (by decide)) (sc_mk3 (by decide) (by decide) (num0 (by decide) (by decide) (by decide))
        (sc_mk2 (by decide) (by decide) (num0 (by decide) (by decide) (by decide)) ha.sc (shift_sc b 1 0 _ tb.sc (by simp only [show bindN 8 0 = 0 from rfl, show bindN 7 0 = 0 from rfl]; omega))) tc.sc tx.sc)
    · rw [wt1, wt3, wt2, shift_wt]; omega
    · rw [dp1, dp3, dp2, shift_dp]; omega
  · refine ⟨.mk 5 0 [.mk 4 0 [b, c2], x], p && q2, ⟨N1 + N2 + N4 + 200000000000 + 1, ?_⟩, ?_, ?_, ?_⟩
    · intro n hn
      obtain ⟨n, rfl⟩ : ∃ k, n = k + 1 := ⟨n - 1, by omega⟩
      have h1 := h1 n (by omega)
      have h2 := h2 n (by omega)
      have h4 := h4 n (by omega)
      rw [← we] at h2 h4
      have p0 := pick_ok (n := n) (by omega) r 0
      have p1 := pick_ok (n := n) (by omega) r 1
      have p2 := pick_ok (n := n) (by omega) r 2
      have hw := within4_ok (n := n) (by omega) r.n (m := 3) (by omega) (by omega)
      have hsh := shift_ok n a 1 0 (by omega) (sc_wk _ _ ha.sc) (by omega) (by omega)
      have hm := more_ok (n := n) g 1 b (by omega) (by omega)
      have t4 := t_ok (n := n) (by omega) 4 [b, c2]
      have t5 := t_ok (n := n) (by omega) 5 [.mk 4 0 [b, c2], x]
      rw [c60]
      clear h3 tb tx tc tc2 ha hg hG hT hba hbm hsa aw ad xw cw c2w bw xd cd c2d bd c2s
      generalize a.shift 1 0 = sa at hsh h4
      generalize r.pick 0 = r0 at p0 h1
      generalize r.pick 1 = r1 at p1 h2
      generalize r.pick 2 = r2 at p2 h4
      generalize r.n % 3 = w3 at hw h0
      obtain ⟨o1, m1, k1⟩ := a
      obtain ⟨o2, m2, k2⟩ := b
      obtain ⟨o3, m3, k3⟩ := r
      obtain ⟨o4, m4, k4⟩ := sa
      obtain ⟨o5, m5, k5⟩ := x
      obtain ⟨o6, m6, k6⟩ := c2
      obtain ⟨o7, m7, k7⟩ := r0
      obtain ⟨o8, m8, k8⟩ := r1
      obtain ⟨o9, m9, k9⟩ := r2
      simp only [Tm.n, gEnc, List.map_cons, List.map_nil, enc_mk, Int.reduceSub, Int.cast_ofNat_Int] at h1 h2 h4 p0 p1 p2 hw hsh hm t4 t5 ⊢
      cases p
      · simp (maxSteps := 1000000) only [S60_205, S60_206, S60_207, S60_208, S60_209, S60_210, S60_211, S60_212, S60_213, S60_214, S60_215, S60_216, S60_217, S60_218, S60_219, S60_220, S60_221, S60_222, S60_223, S60_224, S60_225, S60, ↓XX, XY, ↓reduceIte, Nat.reduceBEq, Nat.reduceAdd, Int.cast_ofNat_Int, Int.reduceEq, Int.reduceLT, Int.reduceLE, ↓iso_2 p0, ↓iso_2 p1, ↓iso_2 p2, ↓iso_3 h1, ↓iso_4 h2, ↓iso_2 hw, h0, ↓iso_4 h4, ↓iso_3 hsh, ↓iso_3 hm, ↓bs2_g, ↓iso_2 t4, ↓iso_2 t5]
        first | exact ans_fv _ _ | exact ans_t rfl (by simp) _
      · simp (maxSteps := 1000000) only [S60_205, S60_206, S60_207, S60_208, S60_209, S60_210, S60_211, S60_212, S60_213, S60_214, S60_215, S60_216, S60_217, S60_218, S60_219, S60_220, S60_221, S60_222, S60_223, S60_224, S60_225, S60, ↓XX, XY, ↓reduceIte, Nat.reduceBEq, Nat.reduceAdd, Int.cast_ofNat_Int, Int.reduceEq, Int.reduceLT, Int.reduceLE, ↓iso_2 p0, ↓iso_2 p1, ↓iso_2 p2, ↓iso_3 h1, ↓iso_4 h2, ↓iso_2 hw, h0, ↓iso_4 h4, ↓iso_3 hsh, ↓iso_3 hm, ↓bs2_g, ↓iso_2 t4, ↓iso_2 t5]
        first | exact ans_fv _ _ | exact ans_t rfl (by simp) _
    · exact sc_mk2 (by decide) (by decide) (num0 (by decide) (by decide) (by decide)) (sc_mk2 (by decide) (by decide) (num0 (by decide) (by decide) (by decide)) tb.sc c2s) tx.sc
    · rw [wt2, wt2]; omega
    · rw [dp2, dp2]; omega
set_option maxRecDepth 20000 in
set_option maxHeartbeats 4000000 in
theorem type_ev {e : Nat} (he : e ≤ 10) (hT : 6 ≤ e → TypeE (e - 1)) (hG : 6 ≤ e → GrowE 26 (e - 1)) : TypeE e := by
  intro g r hg
  have hlen := hg.len
  have hk1 := Int.emod_nonneg r.op (show (9 : Int) ≠ 0 by decide)
  have hk2 := Int.emod_lt_of_pos r.op (show (0 : Int) < 9 by decide)
  have hW0 := Wg_0 (e - 1)
  have hD0 : 200 ≤ Dg (e - 1) := by unfold Dg; omega
  have hleaf : ∀ op n : Int, ar op = some 0 → op ≠ 1 → numok op n → TyOk g.length e (.mk op n []) := fun op n h1 h2 h3 => ⟨sc_mk0 h1 h2 h3, by simp only [Tm.wt, Tm.wtL]; omega, by simp only [Tm.dp, Tm.dpL]; omega⟩
  have hpl := plainT_wt 1 r
  have hpd := dp_wt (r.plainT 1)
  have c0 : (r.op % 9 = 0 ∨ r.op % 9 = 1 ∨ e ≤ 5 ∧ (r.op % 9 = 5 ∨ r.op % 9 = 6)) → ∃ t, Ev 25 [.fv (gEnc g), .fv r.enc, iv ((e : Int) - 5)] (Tm.enc t) ∧ TyOk g.length e t := by
    intro hc
    refine ⟨.mk 10 0 [], ⟨100, fun n hn => ?_⟩, hleaf 10 0 (by decide) (by decide) (num0 (by decide) (by decide) (by decide))⟩
    obtain ⟨n, rfl⟩ : ∃ k, n = k + 1 := ⟨n - 1, by omega⟩
    have hw := within4_ok (n := n) (by omega) r.op (m := 9) (by omega) (by omega)
    have hn4 := nat4_ok (n := n) (by omega)
    rw [c25]
    obtain ⟨o, p, k⟩ := r
    simp only [Tm.op] at hw hc
    simp only [enc_mk, List.map_nil] at hn4 ⊢
    rcases hc with hc | hc | ⟨he5, hc | hc⟩
    · rw [hc] at hw
      by_cases hd : (e : Int) - 5 ≤ 0 <;> (simp (maxSteps := 1000000) only [↓UU10, ↓XX, XY, ↓reduceIte, Nat.reduceBEq, Nat.reduceAdd, Int.cast_ofNat_Int, Int.reduceEq, Int.reduceLT, Int.reduceLE, ↓iso_2 hw, hd, ↓iso_0 hn4]; first | exact ans_fv _ _ | exact ans_p rfl _)
    · rw [hc] at hw
      by_cases hd : (e : Int) - 5 ≤ 0 <;> (simp (maxSteps := 1000000) only [↓UU10, ↓XX, XY, ↓reduceIte, Nat.reduceBEq, Nat.reduceAdd, Int.cast_ofNat_Int, Int.reduceEq, Int.reduceLT, Int.reduceLE, ↓iso_2 hw, hd, ↓iso_0 hn4]; first | exact ans_fv _ _ | exact ans_p rfl _)
    · rw [hc] at hw
      have hd : (e : Int) - 5 ≤ 0 := by omega
      simp (maxSteps := 1000000) only [↓UU10, ↓XX, XY, ↓reduceIte, Nat.reduceBEq, Nat.reduceAdd, Int.cast_ofNat_Int, Int.reduceEq, Int.reduceLT, Int.reduceLE, ↓iso_2 hw, hd, ↓rem_s (show (5 : Int) ≠ 0 by decide), show (5 : Int).tmod 5 = 0 from rfl, ↓iso_0 hn4]; first | exact ans_fv _ _ | exact ans_p rfl _
    · rw [hc] at hw
      have hd : (e : Int) - 5 ≤ 0 := by omega
      simp (maxSteps := 1000000) only [↓UU10, ↓XX, XY, ↓reduceIte, Nat.reduceBEq, Nat.reduceAdd, Int.cast_ofNat_Int, Int.reduceEq, Int.reduceLT, Int.reduceLE, ↓iso_2 hw, hd, ↓rem_s (show (5 : Int) ≠ 0 by decide), show (6 : Int).tmod 5 = 1 from rfl, ↓iso_0 hn4]; first | exact ans_fv _ _ | exact ans_p rfl _
  have c2 : (r.op % 9 = 2 ∨ e ≤ 5 ∧ r.op % 9 = 7) → ∃ t, Ev 25 [.fv (gEnc g), .fv r.enc, iv ((e : Int) - 5)] (Tm.enc t) ∧ TyOk g.length e t := by
    intro hc
    refine ⟨.mk 14 0 [], ⟨100, fun n hn => ?_⟩, hleaf 14 0 (by decide) (by decide) (num0 (by decide) (by decide) (by decide))⟩
    obtain ⟨n, rfl⟩ : ∃ k, n = k + 1 := ⟨n - 1, by omega⟩
    have hw := within4_ok (n := n) (by omega) r.op (m := 9) (by omega) (by omega)
    have hn4 := t0_ok (n := n) (by omega) 14
    rw [c25]
    obtain ⟨o, p, k⟩ := r
    simp only [Tm.op] at hw hc
    simp only [enc_mk, List.map_nil] at hn4 ⊢
    rcases hc with hc | ⟨he5, hc⟩
    · rw [hc] at hw
      by_cases hd : (e : Int) - 5 ≤ 0 <;> (simp (maxSteps := 1000000) only [↓UU10, ↓XX, XY, ↓reduceIte, Nat.reduceBEq, Nat.reduceAdd, Int.cast_ofNat_Int, Int.reduceEq, Int.reduceLT, Int.reduceLE, ↓iso_2 hw, hd, ↓iso_2 hn4]; first | exact ans_fv _ _ | exact ans_p rfl _)
    · rw [hc] at hw
      have hd : (e : Int) - 5 ≤ 0 := by omega
      simp (maxSteps := 1000000) only [↓UU10, ↓XX, XY, ↓reduceIte, Nat.reduceBEq, Nat.reduceAdd, Int.cast_ofNat_Int, Int.reduceEq, Int.reduceLT, Int.reduceLE, ↓iso_2 hw, hd, ↓rem_s (show (5 : Int) ≠ 0 by decide), show (7 : Int).tmod 5 = 2 from rfl, ↓iso_2 hn4]; first | exact ans_fv _ _ | exact ans_p rfl _
  have c3 : (r.op % 9 = 3 ∨ e ≤ 5 ∧ r.op % 9 = 8) → ∃ t, Ev 25 [.fv (gEnc g), .fv r.enc, iv ((e : Int) - 5)] (Tm.enc t) ∧ TyOk g.length e t := by
    intro hc
    refine ⟨.mk 18 0 [r.plainT 1], ⟨100, fun n hn => ?_⟩, sc_mk1 (by decide) (by decide) (num0 (by decide) (by decide) (by decide)) (plainT_sc _ 1 r), by rw [wt1]; omega, by rw [dp1]; omega⟩
    obtain ⟨n, rfl⟩ : ∃ k, n = k + 1 := ⟨n - 1, by omega⟩
    have hw := within4_ok (n := n) (by omega) r.op (m := 9) (by omega) (by omega)
    have hp := plainT_ok 1 n r (by omega) (by omega)
    have ht := t_ok (n := n) (by omega) 18 [r.plainT 1]
    rw [c25]
    generalize r.plainT 1 = q at hp ht ⊢
    obtain ⟨o, p, k⟩ := r
    obtain ⟨o2, p2, k2⟩ := q
    simp only [Tm.op] at hw hc
    simp only [enc_mk, List.map_cons, List.map_nil] at hp ht ⊢
    rcases hc with hc | ⟨he5, hc⟩
    · rw [hc] at hw
      by_cases hd : (e : Int) - 5 ≤ 0 <;> (simp (maxSteps := 1000000) only [↓UU10, ↓XX, XY, ↓reduceIte, Nat.reduceBEq, Nat.reduceAdd, Int.cast_ofNat_Int, Int.reduceEq, Int.reduceLT, Int.reduceLE, ↓iso_2 hw, hd, ↓iso_2 hp, ↓bs1_g, ↓iso_2 ht]; first | exact ans_fv _ _ | exact ans_p rfl _)
    · rw [hc] at hw
      have hd : (e : Int) - 5 ≤ 0 := by omega
      simp (maxSteps := 1000000) only [↓UU10, ↓XX, XY, ↓reduceIte, Nat.reduceBEq, Nat.reduceAdd, Int.cast_ofNat_Int, Int.reduceEq, Int.reduceLT, Int.reduceLE, ↓iso_2 hw, hd, ↓rem_s (show (5 : Int) ≠ 0 by decide), show (8 : Int).tmod 5 = 3 from rfl, ↓iso_2 hp, ↓bs1_g, ↓iso_2 ht]; first | exact ans_fv _ _ | exact ans_p rfl _
  by_cases h4 : r.op % 9 = 4
  · refine ⟨.mk 2 0 [], ⟨100, fun n hn => ?_⟩, hleaf 2 0 (by decide) (by decide) (by rw [numok, if_pos rfl]; omega)⟩
    obtain ⟨n, rfl⟩ : ∃ k, n = k + 1 := ⟨n - 1, by omega⟩
    have hw := within4_ok (n := n) (by omega) r.op (m := 9) (by omega) (by omega)
    have hu := uni_ok (n := n) (by omega) 0
    rw [c25]
    obtain ⟨o, p, k⟩ := r
    simp only [Tm.op] at hw h4
    simp only [enc_mk, List.map_nil] at hu ⊢
    rw [h4] at hw
    by_cases hd : (e : Int) - 5 ≤ 0 <;> (simp (maxSteps := 1000000) only [↓UU10, ↓XX, XY, ↓reduceIte, Nat.reduceBEq, Nat.reduceAdd, Int.cast_ofNat_Int, Int.reduceEq, Int.reduceLT, Int.reduceLE, ↓iso_2 hw, hd, ↓iso_1 hu]; first | exact ans_fv _ _ | exact ans_p rfl _)
  by_cases hs : r.op % 9 ≤ 3 ∨ e ≤ 5
  · have h := hk1
    by_cases h0 : r.op % 9 = 0 ∨ r.op % 9 = 1 ∨ e ≤ 5 ∧ (r.op % 9 = 5 ∨ r.op % 9 = 6)
    · exact c0 h0
    by_cases h2 : r.op % 9 = 2 ∨ e ≤ 5 ∧ r.op % 9 = 7
    · exact c2 h2
    exact c3 (by omega)
  have he6 : 6 ≤ e := by omega
  have hd : ¬ (e : Int) - 5 ≤ 0 := by omega
  have we : w64 ((e : Int) - 5 - 1) = ((e - 1 : Nat) : Int) - 5 := by rw [w64_id (by omega) (by omega)]; omega
  have hW10 := Wg_10 (e := e - 1) (by omega)
  have hW1 : Wg (e - 1) = 4 * Wg (e - 2) := by
    obtain ⟨f, rfl⟩ : ∃ f, e = f + 2 := ⟨e - 2, by omega⟩
    rw [show f + 2 - 1 = f + 1 by omega, Wg_s, show f + 2 - 2 = f by omega]
  have hW2 := Wg_0 (e - 2)
  have hD1 : Dg (e - 1) = Dg (e - 2) + 10 := by unfold Dg; omega
  have hDm : Dg (e - 1) ≤ 300 := by unfold Dg; omega
  by_cases h8 : r.op % 9 = 8
  · obtain ⟨t, b, ⟨N1, h1⟩, tt⟩ := hG he6 g (.mk 14 0 []) (r.pick 0) (gok_mono (by omega) hg) ⟨sc_mk0 (by decide) (by decide) (num0 (by decide) (by decide) (by decide)), by simp [Tm.wt, Tm.wtL], by simp [Tm.dp, Tm.dpL]⟩
    refine ⟨if b = true then .mk 18 0 [t] else .mk 10 0 [], ⟨N1 + 100, fun n hn => ?_⟩, ?_⟩
    · obtain ⟨n, rfl⟩ : ∃ k, n = k + 1 := ⟨n - 1, by omega⟩
      have hw := within4_ok (n := n) (by omega) r.op (m := 9) (by omega) (by omega)
      have h1 := h1 n (by omega)
      rw [← we] at h1
      have p0 := pick_ok (n := n) (by omega) r 0
      have t14 := t0_ok (n := n) (by omega) 14
      have t18 := t_ok (n := n) (by omega) 18 [t]
      have hn4 := nat4_ok (n := n) (by omega)
      rw [c25]
      rw [h8] at hw
      clear hG hT tt c0 c2 c3 hleaf
      generalize r.pick 0 = r0 at p0 h1
      obtain ⟨o, p, k⟩ := r
      obtain ⟨o2, p2, k2⟩ := t
      obtain ⟨o3, p3, k3⟩ := r0
      simp only [Tm.op] at hw
      simp only [enc_mk, gEnc, List.map_cons, List.map_nil] at h1 p0 t14 t18 hn4 ⊢
      cases b
      · simp only [Bool.false_eq_true, if_false, enc_mk, List.map_nil]
        simp (maxSteps := 1000000) only [↓UU10, ↓XX, XY, ↓reduceIte, Nat.reduceBEq, Nat.reduceAdd, Int.cast_ofNat_Int, Int.reduceEq, Int.reduceLT, Int.reduceLE, ↓iso_2 hw, hd, ↓iso_2 t14, ↓iso_2 p0, ↓iso_4 h1, ↓iso_0 hn4]; first | exact ans_fv _ _ | exact ans_p rfl _
      · simp only [if_true, enc_mk, List.map_nil, List.map_cons]
        simp (maxSteps := 1000000) only [↓UU10, ↓XX, XY, ↓reduceIte, Nat.reduceBEq, Nat.reduceAdd, Int.cast_ofNat_Int, Int.reduceEq, Int.reduceLT, Int.reduceLE, ↓iso_2 hw, hd, ↓iso_2 t14, ↓iso_2 p0, ↓iso_4 h1, ↓bs1_g, ↓iso_2 t18]; first | exact ans_fv _ _ | exact ans_p rfl _
    · split
      · exact ⟨sc_mk1 (by decide) (by decide) (num0 (by decide) (by decide) (by decide)) tt.sc, by have := tt.wt; rw [wt1]; omega, by have := tt.dp; rw [dp1]; omega⟩
      · exact hleaf 10 0 (by decide) (by decide) (num0 (by decide) (by decide) (by decide))
  · obtain ⟨a, ⟨N1, h1⟩, ta⟩ := hT he6 g (r.pick 0) (gok_mono (by omega) hg)
    have aw := ta.wt
    have ad := ta.dp
    rw [show e - 1 - 1 = e - 2 by omega] at aw ad
    obtain ⟨b, ⟨N2, h2⟩, tb⟩ := hT he6 (g ++ [(1, a)]) (r.pick 1) (gok_more (by rw [show e - 1 + 1 = e by omega]; exact hg) ta.sc (by omega) (by omega))
    have bw := tb.wt
    have bd := tb.dp
    rw [show e - 1 - 1 = e - 2 by omega] at bw bd
    have bs : b.sc (g.length + 1) := by simpa using tb.sc
    have hop : ∀ op : Int, op = 3 ∨ op = 6 → TyOk g.length e (.mk op 0 [a, b]) := by
      rintro op (rfl | rfl)
      · exact ⟨sc_mk2 (by decide) (by decide) (num0 (by decide) (by decide) (by decide)) ta.sc bs, by rw [wt2]; omega, by rw [dp2]; omega⟩
      · exact ⟨sc_mk2 (by decide) (by decide) (num0 (by decide) (by decide) (by decide)) ta.sc bs, by rw [wt2]; omega, by rw [dp2]; omega⟩
    obtain ⟨oo, hoo⟩ : ∃ oo : Int, oo = 3 ∧ (r.op % 9 = 5 ∨ r.op % 9 = 6) ∨ oo = 6 ∧ r.op % 9 = 7 := by
      by_cases h7 : r.op % 9 = 7
      · exact ⟨6, .inr ⟨rfl, h7⟩⟩
      · exact ⟨3, .inl ⟨rfl, by omega⟩⟩
    refine ⟨.mk oo 0 [a, b], ⟨N1 + N2 + 100, fun n hn => ?_⟩, hop oo (by omega)⟩
    obtain ⟨n, rfl⟩ : ∃ k, n = k + 1 := ⟨n - 1, by omega⟩
    have hw := within4_ok (n := n) (by omega) r.op (m := 9) (by omega) (by omega)
    have h1 := h1 n (by omega)
    have h2 := h2 n (by omega)
    rw [← we] at h1 h2
    have p0 := pick_ok (n := n) (by omega) r 0
    have p1 := pick_ok (n := n) (by omega) r 1
    have t3 := t_ok (n := n) (by omega) 3 [a, b]
    have t6 := t_ok (n := n) (by omega) 6 [a, b]
    have hm := more_ok (n := n) g 1 a (by omega) (by omega)
    rw [c25]
    clear hG hT c0 c2 c3 hleaf ta tb hop bs aw ad bw bd
    generalize r.pick 0 = r0 at p0 h1
    generalize r.pick 1 = r1 at p1 h2
    obtain ⟨o, p, k⟩ := r
    obtain ⟨o2, p2, k2⟩ := a
    obtain ⟨o3, p3, k3⟩ := b
    obtain ⟨o4, p4, k4⟩ := r0
    obtain ⟨o5, p5, k5⟩ := r1
    simp only [Tm.op] at hw hoo
    simp only [enc_mk, gEnc, List.map_cons, List.map_nil] at h1 h2 p0 p1 t3 t6 hm ⊢
    rcases hoo with ⟨rfl, hk | hk⟩ | ⟨rfl, hk⟩
    · rw [hk] at hw
      simp (maxSteps := 1000000) only [↓UU10, ↓XX, XY, ↓reduceIte, Nat.reduceBEq, Nat.reduceAdd, Int.cast_ofNat_Int, Int.reduceEq, Int.reduceLT, Int.reduceLE, ↓iso_2 hw, hd, ↓iso_2 p0, ↓iso_2 p1, ↓iso_3 h1, ↓iso_3 hm, ↓iso_3 h2, ↓bs2_g, ↓iso_2 t3]; first | exact ans_fv _ _ | exact ans_p rfl _
    · rw [hk] at hw
      simp (maxSteps := 1000000) only [↓UU10, ↓XX, XY, ↓reduceIte, Nat.reduceBEq, Nat.reduceAdd, Int.cast_ofNat_Int, Int.reduceEq, Int.reduceLT, Int.reduceLE, ↓iso_2 hw, hd, ↓iso_2 p0, ↓iso_2 p1, ↓iso_3 h1, ↓iso_3 hm, ↓iso_3 h2, ↓bs2_g, ↓iso_2 t3]; first | exact ans_fv _ _ | exact ans_p rfl _
    · rw [hk] at hw
      simp (maxSteps := 1000000) only [↓UU10, ↓XX, XY, ↓reduceIte, Nat.reduceBEq, Nat.reduceAdd, Int.cast_ofNat_Int, Int.reduceEq, Int.reduceLT, Int.reduceLE, ↓iso_2 hw, hd, ↓iso_2 p0, ↓iso_2 p1, ↓iso_3 h1, ↓iso_3 hm, ↓iso_3 h2, ↓bs2_g, ↓iso_2 t6]; first | exact ans_fv _ _ | exact ans_p rfl _
theorem bs2_i (a b : Int) (s : Nat) (h : Hp) (k : IV → Hp → List Ref → List Ref → Option (IV × Hp)) : genS (pcBuildSlice EE 108 2 [(0, iv a), (1, iv b)]) s h k = k (.clip [.int .i64 a, .int .i64 b]) h [] [] := bs_tm tInts tInt (by decide) (cells := [.int .i64 a, .int .i64 b]) rfl k
theorem ix_cl {β : Type} (z : Nat) (es : List FV) (x : IV) (k : IV → Option β) : ixS z (.clip es) x k = ixS z (.fv (.sl es)) x k := rfl
theorem ixi0 {β : Type} (a : Int) (r : List FV) (k : IV → Option β) : ixS 1 (.fv (.sl (.int .i64 a :: r))) (iv 0) k = k (.fv (.fp [.int .i64 a] 0)) := ix_f (el := .int .i64 a) (n := 0) rfl rfl k
theorem ixi1 {β : Type} (a b : Int) (r : List FV) (k : IV → Option β) : ixS 1 (.fv (.sl (.int .i64 a :: .int .i64 b :: r))) (iv 1) k = k (.fv (.fp [.int .i64 b] 0)) := ix_f (el := .int .i64 b) (n := 1) rfl rfl k
def GrowP (F : FuncId) (e : Nat) : Prop := ∀ (g : Ctx) (a r : Tm), GOk e g → NOk g.length a → (a.op = 10 ∨ a.op = 14 ∨ a.op = 2) → ∃ t b, Ev F [.fv (gEnc g), .fv a.enc, .fv r.enc, iv ((e : Int) - 5)] (.tuple [Tm.enc t, .bool b]) ∧ TOk g.length e t
theorem leaf_of {a : Tm} {k : Nat} (h : a.sc k) (ho : a.op = 10 ∨ a.op = 14 ∨ a.op = 2) : ∃ n, a = .mk a.op n [] ∧ (a.op = 2 → 0 ≤ n ∧ n ≤ 2) ∧ (a.op ≠ 2 → n = 0) := by
  obtain ⟨o, n, l⟩ := a
  simp only [Tm.op] at ho ⊢
  rw [Tm.sc] at h
  obtain ⟨h1, h2, _⟩ := h
  have h3 : ar o = some 0 := by rcases ho with rfl | rfl | rfl <;> decide
  rw [h3] at h1
  have hl : l = [] := List.eq_nil_of_length_eq_zero (Option.some.inj h1).symm
  subst hl
  rw [if_neg (by omega)] at h2
  refine ⟨n, rfl, fun h => ?_, fun h => ?_⟩
  · subst h; rw [numok, if_pos rfl] at h2; exact h2
  · rw [numok, if_neg h, if_neg (by omega), if_neg (by omega)] at h2; exact h2
theorem num_wt' : ∀ k, (tnum k).wt = k + 1 := by
  intro k
  induction k with
  | zero => rfl
  | succ k ih => simp only [tnum, Tm.wt, Tm.wtL, ih]; omega
set_option maxRecDepth 20000 in
set_option maxHeartbeats 8000000 in
theorem plain_ev {e : Nat} (h1e : 1 ≤ e) (he : e ≤ 10) (hG : GrowE 26 (e - 1)) (hG2 : 6 ≤ e → GrowE 26 (e - 2)) : GrowP 61 e := by
  intro g a r hg ha hop
  have hlen := hg.len
  have hW1 : Wg e = 4 * Wg (e - 1) := by
    obtain ⟨f, rfl⟩ : ∃ f, e = f + 1 := ⟨e - 1, by omega⟩
    rw [Wg_s, Nat.add_sub_cancel]
  have hW0 := Wg_0 (e - 1)
  have hW10 := Wg_10 he
  have hD1 : Dg e = Dg (e - 1) + 10 := by unfold Dg; omega
  have hD0 : 200 ≤ Dg (e - 1) := by unfold Dg; omega
  have hDm : Dg e ≤ 300 := by unfold Dg; omega
  obtain ⟨an, hae, hu1, hu2⟩ := leaf_of ha.sc hop
  have we : w64 ((e : Int) - 5 - 1) = ((e - 1 : Nat) : Int) - 5 := by rw [w64_id (by omega) (by omega)]; omega
  have hk1 := Int.emod_nonneg r.op (show (5 : Int) ≠ 0 by decide)
  have hk2 := Int.emod_lt_of_pos r.op (show (0 : Int) < 5 by decide)
  have aw := ha.wt
  have ad := ha.dp
  have leafT : ∀ op n : Int, ar op = some 0 → op ≠ 1 → numok op n → TOk g.length e (.mk op n []) := fun op n h1 h2 h3 => ⟨sc_mk0 h1 h2 h3, by simp only [Tm.wt, Tm.wtL]; omega, by simp only [Tm.dp, Tm.dpL]; omega⟩
  have tint : TOk g.length e (.mk 18 0 [.mk 15 0 []]) := ⟨sc_mk1 (by decide) (by decide) (num0 (by decide) (by decide) (by decide)) (sc_mk0 (by decide) (by decide) (num0 (by decide) (by decide) (by decide))), by simp only [Tm.wt, Tm.wtL]; omega, by simp only [Tm.dp, Tm.dpL]; omega⟩
  by_cases hrec : 6 ≤ e ∧ r.op % 5 = 4 ∧ a.op ≠ 2
  · obtain ⟨h6, h4, hn2⟩ := hrec
    have hW2 : Wg e = 16 * Wg (e - 2) := by
      obtain ⟨f, rfl⟩ : ∃ f, e = f + 2 := ⟨e - 2, by omega⟩
      rw [show f + 2 = (f + 1) + 1 by omega, Wg_s, Wg_s, show f + 1 + 1 - 2 = f by omega]; omega
    have hD2 : Dg e = Dg (e - 2) + 20 := by unfold Dg; omega
    have hW20 := Wg_0 (e - 2)
    have we2 : w64 ((e : Int) - 5 - 2) = ((e - 2 : Nat) : Int) - 5 := by rw [w64_id (by omega) (by omega)]; omega
    have hnat : ∀ k, NOk k (.mk 10 0 []) := fun k => ⟨sc_mk0 (by decide) (by decide) (num0 (by decide) (by decide) (by decide)), by simp only [Tm.wt, Tm.wtL]; omega, by simp only [Tm.dp, Tm.dpL]; omega⟩
    have hs1 := sh_nok ha (by omega) 1 (by omega)
    have hs2 := sh_nok ha (by omega) 2 (by omega)
    obtain ⟨nn, p, ⟨N1, h1⟩, tn⟩ := hG2 h6 g (.mk 10 0 []) (r.pick 0) (gok_mono (by omega) hg) (nok_aok (hnat _))
    obtain ⟨z, q, ⟨N2, h2⟩, tz⟩ := hG2 h6 g a (r.pick 1) (gok_mono (by omega) hg) (nok_aok ha)
    have hg1 : GOk (e - 1) (g ++ [(1, Tm.mk 10 0 [])]) := gok_more (by rw [show e - 1 + 1 = e by omega]; exact hg) (hnat _).sc (by simp only [Tm.wt, Tm.wtL]; omega) (by simp only [Tm.dp, Tm.dpL]; omega)
    have hg2 : GOk (e - 2) ((g ++ [(1, Tm.mk 10 0 [])]) ++ [(1, a.shift 1 0)]) := gok_more (by rw [show e - 2 + 1 = e - 1 by omega]; exact hg1) (by simpa using hs1.sc) (by rw [shift_wt]; omega) (by rw [shift_dp]; omega)
    obtain ⟨s, f, ⟨N3, h3⟩, ts⟩ := hG2 h6 _ (a.shift 2 0) (r.pick 2) hg2 (by simpa using nok_aok hs2)
    have ss : s.sc (g.length + 2) := by simpa using ts.sc
    refine ⟨.mk 13 0 [a.shift 1 0, z, s, nn], p && (q && f), ⟨N1 + N2 + N3 + 100000, fun n hn => ?_⟩, ?_, ?_, ?_⟩
    · obtain ⟨n, rfl⟩ : ∃ k, n = k + 1 := ⟨n - 1, by omega⟩
      have h1 := h1 n (by omega)
      have h2 := h2 n (by omega)
      have h3 := h3 n (by omega)
      rw [← we2] at h1 h2 h3
      have hw := within4_ok (n := n) (by omega) r.op (m := 5) (by omega) (by omega)
      rw [h4] at hw
      have p0 := pick_ok (n := n) (by omega) r 0
      have p1 := pick_ok (n := n) (by omega) r 1
      have p2 := pick_ok (n := n) (by omega) r 2
      have n4 := nat4_ok (n := n) (by omega)
      have m1 := more_ok (n := n) g 1 (.mk 10 0 []) (by omega) (by omega)
      have m2 := more_ok (n := n) (g ++ [(1, Tm.mk 10 0 [])]) 1 (a.shift 1 0) (by simp; omega) (by omega)
      have s1 := shift_ok n a 1 0 (by omega) (sc_wk _ _ ha.sc) (by omega) (by omega)
      have s2 := shift_ok n a 2 0 (by omega) (sc_wk _ _ ha.sc) (by omega) (by omega)
      have t13 := t_ok (n := n) (by omega) 13 [a.shift 1 0, z, s, nn]
      have hd0 : (0 : Int) < (e : Int) - 5 := by omega
      rw [c61]
      clear hG hG2 tn tz ts hg hg1 hg2 ha hs1 hs2 hnat ss leafT tint hae hu1 hu2
      generalize a.shift 1 0 = a1 at s1 m2 t13 h3 ⊢
      generalize a.shift 2 0 = a2 at s2 h3
      generalize r.pick 0 = r0 at p0 h1
      generalize r.pick 1 = r1 at p1 h2
      generalize r.pick 2 = r2 at p2 h3
      obtain ⟨o1, x1, k1⟩ := a
      obtain ⟨o2, x2, k2⟩ := r
      obtain ⟨o3, x3, k3⟩ := a1
      obtain ⟨o4, x4, k4⟩ := a2
      obtain ⟨o5, x5, k5⟩ := nn
      obtain ⟨o6, x6, k6⟩ := z
      obtain ⟨o7, x7, k7⟩ := s
      obtain ⟨o8, x8, k8⟩ := r0
      obtain ⟨o9, x9, k9⟩ := r1
      obtain ⟨oa, xa, ka⟩ := r2
      simp only [Tm.op] at hw hn2
      simp only [gEnc, List.map_cons, List.map_nil, enc_mk] at h1 h2 h3 p0 p1 p2 n4 m1 m2 s1 s2 t13 ⊢
      cases p <;> cases q <;> (simp (maxSteps := 1000000) only [↓UU9, ↓XX, XY, ↓reduceIte, Nat.reduceBEq, Nat.reduceAdd, Int.cast_ofNat_Int, Int.reduceEq, Int.reduceLT, Int.reduceLE, hd0, ↓iso_2 hw, hn2, ↓iso_0 n4, ↓iso_2 p0, ↓iso_2 p1, ↓iso_2 p2, ↓iso_4 h1, ↓iso_4 h2, ↓iso_3 m1, ↓iso_3 m2, ↓iso_3 s1, ↓iso_3 s2, ↓iso_4 h3, ↓bs4_g, ↓iso_2 t13]; first | exact ans_fv _ _ | exact ans_t rfl (by simp) _)
    · exact sc_mk4 (by decide) (by decide) (num0 (by decide) (by decide) (by decide)) hs1.sc tz.sc ss tn.sc
    · have := tz.wt; have := ts.wt; have := tn.wt; rw [wt4, shift_wt]; omega
    · have := tz.dp; have := ts.dp; have := tn.dp; rw [dp4, shift_dp]; omega
  have hnr : ¬ (0 : Int) < (e : Int) - 5 ∨ ¬ r.op % 5 = 4 ∨ a.op = 2 := by omega
  by_cases o10 : a.op = 10
  · have hz := hu2 (by omega)
    rw [hz, o10] at hae
    by_cases hs : 6 ≤ e ∧ r.op % 2 = 1
    · obtain ⟨nn, p, ⟨N1, h1⟩, tn⟩ := hG g a (r.pick 0) (gok_mono (by omega) hg) (nok_aok ha)
      refine ⟨.mk 12 0 [nn], p, ⟨N1 + 100, fun n hn => ?_⟩, sc_mk1 (by decide) (by decide) (num0 (by decide) (by decide) (by decide)) tn.sc, by have := tn.wt; rw [wt1]; omega, by have := tn.dp; rw [dp1]; omega⟩
      obtain ⟨n, rfl⟩ : ∃ k, n = k + 1 := ⟨n - 1, by omega⟩
      have h1 := h1 n (by omega)
      rw [← we] at h1
      have hw := within4_ok (n := n) (by omega) r.op (m := 5) (by omega) (by omega)
      have hw2 := within4_ok (n := n) (by omega) r.op (m := 2) (by omega) (by omega)
      rw [hs.2] at hw2
      have p0 := pick_ok (n := n) (by omega) r 0
      have t12 := t_ok (n := n) (by omega) 12 [nn]
      have hd0 : (0 : Int) < (e : Int) - 5 := by omega
      have h45 : ¬ r.op % 5 = 4 := by omega
      rw [c61]
      rw [hae] at h1 ⊢
      clear hG hG2 tn hg ha leafT tint hae hu1 hu2 hop hnr
      generalize r.op % 5 = w5 at hw h45
      generalize r.pick 0 = r0 at p0 h1
      obtain ⟨o2, x2, k2⟩ := r
      obtain ⟨o5, x5, k5⟩ := nn
      obtain ⟨o8, x8, k8⟩ := r0
      simp only [Tm.op] at hw hw2
      simp only [gEnc, List.map_cons, List.map_nil, enc_mk] at h1 p0 t12 ⊢
      simp (maxSteps := 1000000) only [↓UU9, ↓XX, XY, ↓reduceIte, Nat.reduceBEq, Nat.reduceAdd, Int.cast_ofNat_Int, Int.reduceEq, Int.reduceLT, Int.reduceLE, hd0, ↓iso_2 hw, h45, ↓iso_2 hw2, ↓iso_2 p0, ↓iso_4 h1, ↓bs1_g, ↓iso_2 t12]
      first | exact ans_fv _ _ | exact ans_t rfl (by simp) _
    · have hj1 := Int.emod_nonneg r.n (show (4 : Int) ≠ 0 by decide)
      have hj2 := Int.emod_lt_of_pos r.n (show (0 : Int) < 4 by decide)
      obtain ⟨j, hj⟩ : ∃ j : Nat, r.n % 4 = j := ⟨(r.n % 4).toNat, by omega⟩
      refine ⟨tnum j, true, ⟨100, fun n hn => ?_⟩, num_sc _ j, by rw [num_wt']; omega, by have := dp_wt (tnum j); rw [num_wt'] at this; omega⟩
      obtain ⟨n, rfl⟩ : ∃ k, n = k + 1 := ⟨n - 1, by omega⟩
      have hw := within4_ok (n := n) (by omega) r.op (m := 5) (by omega) (by omega)
      have hw2 := within4_ok (n := n) (by omega) r.op (m := 2) (by omega) (by omega)
      have hw4 := within4_ok (n := n) (by omega) r.n (m := 4) (by omega) (by omega)
      rw [hj] at hw4
      have hnum := num_ok (n := n) j (by omega) (by omega)
      have h45 : (0 : Int) < (e : Int) - 5 → ¬ r.op % 5 = 4 := by omega
      have h21 : (0 : Int) < (e : Int) - 5 → ¬ r.op % 2 = 1 := by omega
      rw [c61]
      rw [hae]
      clear hG hG2 hg ha leafT tint hae hu1 hu2 hop hnr hs
      generalize r.op % 5 = w5 at hw h45
      generalize r.op % 2 = w2 at hw2 h21
      generalize tnum j = nm at hnum ⊢
      obtain ⟨o2, x2, k2⟩ := r
      obtain ⟨o5, x5, k5⟩ := nm
      simp only [Tm.op, Tm.n] at hw hw2 hw4
      simp only [gEnc, List.map_nil, enc_mk] at hnum ⊢
      by_cases hd0 : (0 : Int) < (e : Int) - 5
      · have h45 := h45 hd0
        have h21 := h21 hd0
        simp (maxSteps := 1000000) only [↓UU9, ↓XX, XY, ↓reduceIte, Nat.reduceBEq, Nat.reduceAdd, Int.cast_ofNat_Int, Int.reduceEq, Int.reduceLT, Int.reduceLE, hd0, ↓iso_2 hw, h45, ↓iso_2 hw2, h21, ↓iso_2 hw4, ↓iso_1 hnum]
        first | exact ans_fv _ _ | exact ans_t rfl (by simp) _
      · simp (maxSteps := 1000000) only [↓UU9, ↓XX, XY, ↓reduceIte, Nat.reduceBEq, Nat.reduceAdd, Int.cast_ofNat_Int, Int.reduceEq, Int.reduceLT, Int.reduceLE, hd0, ↓iso_2 hw4, ↓iso_1 hnum]
        first | exact ans_fv _ _ | exact ans_t rfl (by simp) _
  by_cases o14 : a.op = 14
  · have hz := hu2 (by omega)
    rw [hz, o14] at hae
    by_cases hs : 6 ≤ e ∧ 1 < r.op % 5
    · obtain ⟨x, p, ⟨N1, h1⟩, tx⟩ := hG g a (r.pick 0) (gok_mono (by omega) hg) (nok_aok ha)
      obtain ⟨y, q, ⟨N2, h2⟩, ty⟩ := hG g a (r.pick 1) (gok_mono (by omega) hg) (nok_aok ha)
      have hj1 := Int.emod_nonneg r.n (show (2 : Int) ≠ 0 by decide)
      have hj2 := Int.emod_lt_of_pos r.n (show (0 : Int) < 2 by decide)
      obtain ⟨oo, hoo, hoo2⟩ : ∃ oo : Int, oo = 16 + r.n % 2 ∧ (oo = 16 ∨ oo = 17) := ⟨_, rfl, by omega⟩
      have hsc : (Tm.mk oo 0 [x, y]).sc g.length := by
        rcases hoo2 with rfl | rfl <;> exact sc_mk2 (by decide) (by decide) (num0 (by decide) (by decide) (by decide)) tx.sc ty.sc
      refine ⟨.mk oo 0 [x, y], p && q, ⟨N1 + N2 + 100, fun n hn => ?_⟩, hsc, by have := tx.wt; have := ty.wt; rw [wt2]; omega, by have := tx.dp; have := ty.dp; rw [dp2]; omega⟩
      obtain ⟨n, rfl⟩ : ∃ k, n = k + 1 := ⟨n - 1, by omega⟩
      have h1 := h1 n (by omega)
      have h2 := h2 n (by omega)
      rw [← we] at h1 h2
      have hw := within4_ok (n := n) (by omega) r.op (m := 5) (by omega) (by omega)
      have hw2 := within4_ok (n := n) (by omega) r.n (m := 2) (by omega) (by omega)
      have wo : w64 (16 + r.n % 2) = oo := by rw [w64_id] <;> omega
      have p0 := pick_ok (n := n) (by omega) r 0
      have p1 := pick_ok (n := n) (by omega) r 1
      have t16 := t_ok (n := n) (by omega) oo [x, y]
      rw [← wo] at t16
      have hd0 : (0 : Int) < (e : Int) - 5 := by omega
      have h45 : ¬ r.op % 5 = 4 := by omega
      have h15 := hs.2
      rw [c61]
      rw [hae] at h1 h2 ⊢
      clear hG hG2 tx ty hg ha leafT tint hae hu1 hu2 hop hnr hs hoo2 hsc
      rw [← wo]
      clear wo hoo
      generalize r.op % 5 = w5 at hw h45 h15
      generalize r.n % 2 = w2 at hw2 t16 ⊢
      generalize r.pick 0 = r0 at p0 h1
      generalize r.pick 1 = r1 at p1 h2
      obtain ⟨o2, x2, k2⟩ := r
      obtain ⟨o5, x5, k5⟩ := x
      obtain ⟨o6, x6, k6⟩ := y
      obtain ⟨o8, x8, k8⟩ := r0
      obtain ⟨o9, x9, k9⟩ := r1
      simp only [Tm.op, Tm.n] at hw hw2
      simp only [gEnc, List.map_cons, List.map_nil, enc_mk] at h1 h2 p0 p1 t16 ⊢
      cases p <;> (simp (maxSteps := 1000000) only [↓UU9, ↓XX, XY, ↓reduceIte, Nat.reduceBEq, Nat.reduceAdd, Int.cast_ofNat_Int, Int.reduceEq, Int.reduceLT, Int.reduceLE, hd0, ↓iso_2 hw, h45, h15, ↓iso_2 hw2, ↓iso_2 p0, ↓iso_2 p1, ↓iso_4 h1, ↓iso_4 h2, ↓bs2_g, ↓iso_2 t16]; first | exact ans_fv _ _ | exact ans_t rfl (by simp) _)
    · refine ⟨.mk 15 0 [], true, ⟨100, fun n hn => ?_⟩, leafT 15 0 (by decide) (by decide) (num0 (by decide) (by decide) (by decide))⟩
      obtain ⟨n, rfl⟩ : ∃ k, n = k + 1 := ⟨n - 1, by omega⟩
      have hw := within4_ok (n := n) (by omega) r.op (m := 5) (by omega) (by omega)
      have t15 := t0_ok (n := n) (by omega) 15
      have h45 : (0 : Int) < (e : Int) - 5 → ¬ r.op % 5 = 4 ∧ ¬ 1 < r.op % 5 := by omega
      rw [c61]
      rw [hae]
      clear hG hG2 hg ha leafT tint hae hu1 hu2 hop hnr hs
      generalize r.op % 5 = w5 at hw h45
      obtain ⟨o2, x2, k2⟩ := r
      simp only [Tm.op] at hw
      simp only [gEnc, List.map_nil, enc_mk] at t15 ⊢
      by_cases hd0 : (0 : Int) < (e : Int) - 5
      · obtain ⟨h45, h15⟩ := h45 hd0
        simp (maxSteps := 1000000) only [↓UU9, ↓XX, XY, ↓reduceIte, Nat.reduceBEq, Nat.reduceAdd, Int.cast_ofNat_Int, Int.reduceEq, Int.reduceLT, Int.reduceLE, hd0, ↓iso_2 hw, h45, h15, ↓iso_2 t15]
        first | exact ans_fv _ _ | exact ans_t rfl (by simp) _
      · simp (maxSteps := 1000000) only [↓UU9, ↓XX, XY, ↓reduceIte, Nat.reduceBEq, Nat.reduceAdd, Int.cast_ofNat_Int, Int.reduceEq, Int.reduceLT, Int.reduceLE, hd0, ↓iso_2 t15]
        first | exact ans_fv _ _ | exact ans_t rfl (by simp) _
  have o2 : a.op = 2 := by omega
  obtain ⟨hu3, hu4⟩ := hu1 o2
  rw [o2] at hae
  by_cases hn0 : 0 < an
  · refine ⟨.mk 2 (an - 1) [], true, ⟨100, fun n hn => ?_⟩, leafT 2 (an - 1) (by decide) (by decide) (by rw [numok, if_pos rfl]; omega)⟩
    obtain ⟨n, rfl⟩ : ∃ k, n = k + 1 := ⟨n - 1, by omega⟩
    have hw := within4_ok (n := n) (by omega) r.op (m := 5) (by omega) (by omega)
    have wu : w64 (an - 1) = an - 1 := by rw [w64_id] <;> omega
    have hu := uni_ok (n := n) (by omega) (an - 1)
    rw [← wu] at hu
    rw [c61]
    rw [hae, ← wu]
    clear hG hG2 hg ha leafT tint hae hu1 hu2 hop hnr wu
    generalize r.op % 5 = w5 at hw
    obtain ⟨o2, x2, k2⟩ := r
    simp only [Tm.op] at hw
    simp only [gEnc, List.map_nil, enc_mk] at hu ⊢
    by_cases hd0 : (0 : Int) < (e : Int) - 5
    · by_cases h4 : w5 = 4
      · simp (maxSteps := 1000000) only [↓UU9, ↓XX, XY, ↓reduceIte, Nat.reduceBEq, Nat.reduceAdd, Int.cast_ofNat_Int, Int.reduceEq, Int.reduceLT, Int.reduceLE, hd0, ↓iso_2 hw, h4, hn0, ↓iso_1 hu]
        first | exact ans_fv _ _ | exact ans_t rfl (by simp) _
      · simp (maxSteps := 1000000) only [↓UU9, ↓XX, XY, ↓reduceIte, Nat.reduceBEq, Nat.reduceAdd, Int.cast_ofNat_Int, Int.reduceEq, Int.reduceLT, Int.reduceLE, hd0, ↓iso_2 hw, h4, hn0, ↓iso_1 hu]
        first | exact ans_fv _ _ | exact ans_t rfl (by simp) _
    · simp (maxSteps := 1000000) only [↓UU9, ↓XX, XY, ↓reduceIte, Nat.reduceBEq, Nat.reduceAdd, Int.cast_ofNat_Int, Int.reduceEq, Int.reduceLT, Int.reduceLE, hd0, hn0, ↓iso_1 hu]
      first | exact ans_fv _ _ | exact ans_t rfl (by simp) _
  have han : an = 0 := by omega
  subst han
  have hq1 := Int.emod_nonneg r.op (show (4 : Int) ≠ 0 by decide)
  have hq2 := Int.emod_lt_of_pos r.op (show (0 : Int) < 4 by decide)
  by_cases hs : 6 ≤ e ∧ 1 < r.op % 4
  · obtain ⟨x, p, ⟨N1, h1⟩, tx⟩ := hG g a (r.pick 0) (gok_mono (by omega) hg) (nok_aok ha)
    have hgx : GOk (e - 1) (g ++ [(1, x)]) := gok_more (by rw [show e - 1 + 1 = e by omega]; exact hg) tx.sc (by have := tx.wt; omega) (by have := tx.dp; omega)
    have hax : AOk (g ++ [(1, x)]).length a := ⟨by rw [hae]; exact sc_mk0 (by decide) (by decide) (by rw [numok, if_pos rfl]; omega), by omega, by omega⟩
    obtain ⟨y, q, ⟨N2, h2⟩, ty⟩ := hG (g ++ [(1, x)]) a (r.pick 1) hgx hax
    have ys : y.sc (g.length + 1) := by simpa using ty.sc
    obtain ⟨oo, hoo⟩ : ∃ oo : Int, oo = 3 ∧ r.op % 4 = 2 ∨ oo = 6 ∧ r.op % 4 = 3 := by
      by_cases h7 : r.op % 4 = 2
      · exact ⟨3, .inl ⟨rfl, h7⟩⟩
      · exact ⟨6, .inr ⟨rfl, by omega⟩⟩
    have hsc : (Tm.mk oo 0 [x, y]).sc g.length := by
      rcases hoo with ⟨rfl, _⟩ | ⟨rfl, _⟩ <;> exact sc_mk2 (by decide) (by decide) (num0 (by decide) (by decide) (by decide)) tx.sc ys
    refine ⟨.mk oo 0 [x, y], p && q, ⟨N1 + N2 + 100, fun n hn => ?_⟩, hsc, by have := tx.wt; have := ty.wt; rw [wt2]; omega, by have := tx.dp; have := ty.dp; rw [dp2]; omega⟩
    obtain ⟨n, rfl⟩ : ∃ k, n = k + 1 := ⟨n - 1, by omega⟩
    have h1 := h1 n (by omega)
    have h2 := h2 n (by omega)
    rw [← we] at h1 h2
    have hw := within4_ok (n := n) (by omega) r.op (m := 5) (by omega) (by omega)
    have hw4 := within4_ok (n := n) (by omega) r.op (m := 4) (by omega) (by omega)
    have p0 := pick_ok (n := n) (by omega) r 0
    have p1 := pick_ok (n := n) (by omega) r 1
    have hm := more_ok (n := n) g 1 x (by omega) (by omega)
    have t3 := t_ok (n := n) (by omega) oo [x, y]
    have hd0 : (0 : Int) < (e : Int) - 5 := by omega
    have w22 : w64 (2 - 2) = 0 := by rw [w64_id] <;> omega
    have w32 : w64 (3 - 2) = 1 := by rw [w64_id] <;> omega
    have w0 : w64 0 = 0 := by rw [w64_id] <;> omega
    have w1 : w64 1 = 1 := by rw [w64_id] <;> omega
    rw [c61]
    rw [hae] at h1 h2 ⊢
    clear hG hG2 tx ty hg ha leafT tint hae hu1 hu2 hop hnr hs hsc hgx hax ys
    generalize r.op % 5 = w5 at hw
    generalize r.op % 4 = w4 at hw4 hoo
    generalize r.pick 0 = r0 at p0 h1
    generalize r.pick 1 = r1 at p1 h2
    obtain ⟨o2, x2, k2⟩ := r
    obtain ⟨o5, x5, k5⟩ := x
    obtain ⟨o6, x6, k6⟩ := y
    obtain ⟨o8, x8, k8⟩ := r0
    obtain ⟨o9, x9, k9⟩ := r1
    simp only [Tm.op] at hw hw4
    simp only [gEnc, List.map_cons, List.map_nil, enc_mk] at h1 h2 p0 p1 hm t3 ⊢
    rcases hoo with ⟨rfl, rfl⟩ | ⟨rfl, rfl⟩
    · by_cases h4 : w5 = 4 <;> cases p <;> (simp (maxSteps := 1000000) only [↓UU9, ↓XX, XY, ↓reduceIte, Nat.reduceBEq, Nat.reduceAdd, Int.cast_ofNat_Int, Int.reduceEq, Int.reduceLT, Int.reduceLE, hd0, ↓iso_2 hw, h4, ↓iso_2 hw4, ↓iso_2 p0, ↓iso_2 p1, ↓iso_4 h1, ↓iso_3 hm, ↓iso_4 h2, ↓bs2_g, ↓bs2_i, ↓ix_cl, w22, w0, Int.reduceSub, ↓ixi0, ↓iso_2 t3]; first | exact ans_fv _ _ | exact ans_t rfl (by simp) _)
    · by_cases h4 : w5 = 4 <;> cases p <;> (simp (maxSteps := 1000000) only [↓UU9, ↓XX, XY, ↓reduceIte, Nat.reduceBEq, Nat.reduceAdd, Int.cast_ofNat_Int, Int.reduceEq, Int.reduceLT, Int.reduceLE, hd0, ↓iso_2 hw, h4, ↓iso_2 hw4, ↓iso_2 p0, ↓iso_2 p1, ↓iso_4 h1, ↓iso_3 hm, ↓iso_4 h2, ↓bs2_g, ↓bs2_i, ↓ix_cl, w32, w1, Int.reduceSub, ↓ixi1, ↓iso_2 t3]; first | exact ans_fv _ _ | exact ans_t rfl (by simp) _)
  · have hj1 := Int.emod_nonneg r.n (show (3 : Int) ≠ 0 by decide)
    have hj2 := Int.emod_lt_of_pos r.n (show (0 : Int) < 3 by decide)
    obtain ⟨t, ht, tt⟩ : ∃ t : Tm, (r.n % 3 = 0 ∧ t = .mk 10 0 [] ∨ r.n % 3 = 1 ∧ t = .mk 14 0 [] ∨ r.n % 3 = 2 ∧ t = .mk 18 0 [.mk 15 0 []]) ∧ TOk g.length e t := by
      have h : r.n % 3 = 0 ∨ r.n % 3 = 1 ∨ r.n % 3 = 2 := by omega
      rcases h with h | h | h
      · exact ⟨_, .inl ⟨h, rfl⟩, leafT 10 0 (by decide) (by decide) (num0 (by decide) (by decide) (by decide))⟩
      · exact ⟨_, .inr (.inl ⟨h, rfl⟩), leafT 14 0 (by decide) (by decide) (num0 (by decide) (by decide) (by decide))⟩
      · exact ⟨_, .inr (.inr ⟨h, rfl⟩), tint⟩
    refine ⟨t, true, ⟨100, fun n hn => ?_⟩, tt⟩
    obtain ⟨n, rfl⟩ : ∃ k, n = k + 1 := ⟨n - 1, by omega⟩
    have hw := within4_ok (n := n) (by omega) r.op (m := 5) (by omega) (by omega)
    have hw4 := within4_ok (n := n) (by omega) r.op (m := 4) (by omega) (by omega)
    have hw3 := within4_ok (n := n) (by omega) r.n (m := 3) (by omega) (by omega)
    have n4 := nat4_ok (n := n) (by omega)
    have t14 := t0_ok (n := n) (by omega) 14
    have t15 := t0_ok (n := n) (by omega) 15
    have t18 := t_ok (n := n) (by omega) 18 [.mk 15 0 []]
    have h41 : (0 : Int) < (e : Int) - 5 → ¬ 1 < r.op % 4 := by omega
    rw [c61]
    rw [hae]
    clear hG hG2 hg ha leafT tint hae hu1 hu2 hop hnr hs tt
    generalize r.op % 5 = w5 at hw
    generalize r.op % 4 = w4 at hw4 h41
    generalize r.n % 3 = w3 at hw3 ht
    obtain ⟨o2, x2, k2⟩ := r
    simp only [Tm.op, Tm.n] at hw hw4 hw3
    simp only [gEnc, List.map_cons, List.map_nil, enc_mk] at n4 t14 t15 t18 ⊢
    by_cases hd0 : (0 : Int) < (e : Int) - 5
    · have h41 := h41 hd0
      by_cases h4 : w5 = 4
      · rcases ht with ⟨rfl, rfl⟩ | ⟨rfl, rfl⟩ | ⟨rfl, rfl⟩ <;> (simp (maxSteps := 1000000) only [↓UU9, ↓XX, XY, ↓reduceIte, Nat.reduceBEq, Nat.reduceAdd, Int.cast_ofNat_Int, Int.reduceEq, Int.reduceLT, Int.reduceLE, hd0, ↓iso_2 hw, h4, ↓iso_2 hw4, h41, ↓iso_0 n4, ↓iso_2 t14, ↓iso_2 t15, ↓bs1_g, ↓iso_2 t18, ↓bs3_g, ↓iso_2 hw3, ↓ix_cl, ↓ixt0, ↓ixt1, ↓ixt2, enc_mk]; first | exact ans_fv _ _ | exact ans_t rfl (by simp) _)
      · rcases ht with ⟨rfl, rfl⟩ | ⟨rfl, rfl⟩ | ⟨rfl, rfl⟩ <;> (simp (maxSteps := 1000000) only [↓UU9, ↓XX, XY, ↓reduceIte, Nat.reduceBEq, Nat.reduceAdd, Int.cast_ofNat_Int, Int.reduceEq, Int.reduceLT, Int.reduceLE, hd0, ↓iso_2 hw, h4, ↓iso_2 hw4, h41, ↓iso_0 n4, ↓iso_2 t14, ↓iso_2 t15, ↓bs1_g, ↓iso_2 t18, ↓bs3_g, ↓iso_2 hw3, ↓ix_cl, ↓ixt0, ↓ixt1, ↓ixt2, enc_mk]; first | exact ans_fv _ _ | exact ans_t rfl (by simp) _)
    · rcases ht with ⟨rfl, rfl⟩ | ⟨rfl, rfl⟩ | ⟨rfl, rfl⟩ <;> (simp (maxSteps := 1000000) only [↓UU9, ↓XX, XY, ↓reduceIte, Nat.reduceBEq, Nat.reduceAdd, Int.cast_ofNat_Int, Int.reduceEq, Int.reduceLT, Int.reduceLE, hd0, ↓iso_2 hw4, ↓iso_0 n4, ↓iso_2 t14, ↓iso_2 t15, ↓bs1_g, ↓iso_2 t18, ↓bs3_g, ↓iso_2 hw3, ↓ix_cl, ↓ixt0, ↓ixt1, ↓ixt2, enc_mk]; first | exact ans_fv _ _ | exact ans_t rfl (by simp) _)
set_option maxRecDepth 20000 in
set_option maxHeartbeats 8000000 in
theorem around_ev {e : Nat} (h6 : 6 ≤ e) (he : e ≤ 10) (hO : GrowE 32 (e - 2)) (hG : GrowE 26 (e - 1)) : GrowN 64 e := by
  intro g a r hg ha
  have hlen := hg.len
  have hW1 : Wg e = 4 * Wg (e - 1) := by
    obtain ⟨f, rfl⟩ : ∃ f, e = f + 1 := ⟨e - 1, by omega⟩
    rw [Wg_s, Nat.add_sub_cancel]
  have hW2 : Wg e = 16 * Wg (e - 2) := by
    obtain ⟨f, rfl⟩ : ∃ f, e = f + 2 := ⟨e - 2, by omega⟩
    rw [show f + 2 = (f + 1) + 1 by omega, Wg_s, Wg_s, show f + 1 + 1 - 2 = f by omega]; omega
  have hW0 := Wg_0 (e - 2)
  have hW10 := Wg_10 he
  have hD1 : Dg e = Dg (e - 1) + 10 := by unfold Dg; omega
  have hD2 : Dg e = Dg (e - 2) + 20 := by unfold Dg; omega
  have hD0 : 200 ≤ Dg (e - 2) := by unfold Dg; omega
  have hDm : Dg e ≤ 300 := by unfold Dg; omega
  have we : w64 ((e : Int) - 5 - 1) = ((e - 1 : Nat) : Int) - 5 := by rw [w64_id (by omega) (by omega)]; omega
  have we2 : w64 ((e : Int) - 5 - 2) = ((e - 2 : Nat) : Int) - 5 := by rw [w64_id (by omega) (by omega)]; omega
  have aw := ha.wt
  have ad := ha.dp
  have hk1 := Int.emod_nonneg r.n (show (7 : Int) ≠ 0 by decide)
  have hk2 := Int.emod_lt_of_pos r.n (show (0 : Int) < 7 by decide)
  have hi : AOk g.length (.mk 15 0 []) := ⟨sc_mk0 (by decide) (by decide) (num0 (by decide) (by decide) (by decide)), by simp only [Tm.wt, Tm.wtL]; omega, by simp only [Tm.dp, Tm.dpL]; omega⟩
  have hs1 := sh_nok ha (by omega) 1 (by omega)
  by_cases c0 : r.n % 7 = 0
  · obtain ⟨c, p, ⟨N1, h1⟩, tc⟩ := hO g (.mk 15 0 []) (r.pick 0) (gok_mono (by omega) hg) hi
    obtain ⟨x, q, ⟨N2, h2⟩, tx⟩ := hO g a (r.pick 1) (gok_mono (by omega) hg) (nok_aok ha)
    obtain ⟨y, f, ⟨N3, h3⟩, ty⟩ := hO g a (r.pick 2) (gok_mono (by omega) hg) (nok_aok ha)
    refine ⟨.mk 27 0 [c, x, y], p && (q && f), ⟨N1 + N2 + N3 + 100000, fun n hn => ?_⟩, sc_mk3 (by decide) (by decide) (num0 (by decide) (by decide) (by decide)) tc.sc tx.sc ty.sc, by have := tc.wt; have := tx.wt; have := ty.wt; rw [wt3]; omega, by have := tc.dp; have := tx.dp; have := ty.dp; rw [dp3]; omega⟩
    · obtain ⟨n, rfl⟩ : ∃ k, n = k + 1 := ⟨n - 1, by omega⟩
      have h1 := h1 n (by omega)
      have h2 := h2 n (by omega)
      have h3 := h3 n (by omega)
      rw [← we2] at h1 h2 h3
      have hw := within4_ok (n := n) (by omega) r.n (m := 7) (by omega) (by omega)
      have t15 := t0_ok (n := n) (by omega) 15
      have p0 := pick_ok (n := n) (by omega) r 0
      have p1 := pick_ok (n := n) (by omega) r 1
      have p2 := pick_ok (n := n) (by omega) r 2
      rw [c0] at hw
      have t27 := t_ok (n := n) (by omega) 27 [c, x, y]
      rw [c64]
      clear hO hG tc tx ty hg ha hi hs1
      generalize r.pick 0 = r0 at p0 h1
      generalize r.pick 1 = r1 at p1 h2
      generalize r.pick 2 = r2 at p2 h3
      obtain ⟨o1, x1, k1⟩ := a
      obtain ⟨o2, x2, k2⟩ := r
      obtain ⟨o3, x3, k3⟩ := c
      obtain ⟨o4, x4, k4⟩ := x
      obtain ⟨o5, x5, k5⟩ := y
      obtain ⟨o6, x6, k6⟩ := r0
      obtain ⟨o7, x7, k7⟩ := r1
      obtain ⟨o8, x8, k8⟩ := r2
      simp only [Tm.n] at hw
      simp only [gEnc, List.map_cons, List.map_nil, enc_mk] at h1 h2 h3 t15 p0 p1 p2 t27 ⊢
      cases p
      · simp (maxSteps := 1000000) only [↓UU8, ↓XX, XY, ↓reduceIte, Nat.reduceBEq, Nat.reduceAdd, Int.cast_ofNat_Int, Int.reduceEq, Int.reduceLT, Int.reduceLE, ↓iso_2 hw, ↓iso_2 t15, ↓iso_2 p0, ↓iso_2 p1, ↓iso_2 p2, ↓iso_4 h1, ↓iso_4 h2, ↓iso_4 h3, ↓bs3_g, ↓iso_2 t27]; first | exact ans_fv _ _ | exact ans_t rfl (by simp) _
      · cases q
        · simp (maxSteps := 1000000) only [↓UU8, ↓XX, XY, ↓reduceIte, Nat.reduceBEq, Nat.reduceAdd, Int.cast_ofNat_Int, Int.reduceEq, Int.reduceLT, Int.reduceLE, ↓iso_2 hw, ↓iso_2 t15, ↓iso_2 p0, ↓iso_2 p1, ↓iso_2 p2, ↓iso_4 h1, ↓iso_4 h2, ↓iso_4 h3, ↓bs3_g, ↓iso_2 t27]; first | exact ans_fv _ _ | exact ans_t rfl (by simp) _
        · simp (maxSteps := 1000000) only [↓UU8, ↓XX, XY, ↓reduceIte, Nat.reduceBEq, Nat.reduceAdd, Int.cast_ofNat_Int, Int.reduceEq, Int.reduceLT, Int.reduceLE, ↓iso_2 hw, ↓iso_2 t15, ↓iso_2 p0, ↓iso_2 p1, ↓iso_2 p2, ↓iso_4 h1, ↓iso_4 h2, ↓iso_4 h3, ↓bs3_g, ↓iso_2 t27]; first | exact ans_fv _ _ | exact ans_t rfl (by simp) _
  by_cases c12 : r.n % 7 = 1 ∨ r.n % 7 = 2
  · have hb := plainT_sc g.length 1 (r.pick 0)
    have hbw := plainT_wt 1 (r.pick 0)
    have hbd := dp_wt ((r.pick 0).plainT 1)
    obtain ⟨b, hbe⟩ : ∃ b, b = (r.pick 0).plainT 1 := ⟨_, rfl⟩
    rw [← hbe] at hb hbw hbd
    obtain ⟨x, p, ⟨N1, h1⟩, tx⟩ := hO g b (r.pick 1) (gok_mono (by omega) hg) ⟨hb, by omega, by omega⟩
    have hgb : GOk (e - 2) (g ++ [(0, b)]) := gok_more (gok_mono (by omega) hg) hb (by omega) (by omega)
    obtain ⟨y, q, ⟨N2, h2⟩, ty⟩ := hO (g ++ [(0, b)]) (a.shift 1 0) (r.pick 2) hgb (by simpa using nok_aok hs1)
    have ys : y.sc (g.length + 1) := by simpa using ty.sc
    obtain ⟨tt, htt, hok⟩ : ∃ tt : Tm, (r.n % 7 = 1 ∧ tt = .mk 28 0 [x, y] ∨ r.n % 7 = 2 ∧ tt = .mk 21 0 [.mk 20 0 [b, y], x]) ∧ TOk g.length e tt := by
      rcases c12 with h | h
      · exact ⟨_, .inl ⟨h, rfl⟩, sc_mk2 (by decide) (by decide) (num0 (by decide) (by decide) (by decide)) tx.sc ys, by have := tx.wt; have := ty.wt; rw [wt2]; omega, by have := tx.dp; have := ty.dp; rw [dp2]; omega⟩
      · exact ⟨_, .inr ⟨h, rfl⟩, sc_mk2 (by decide) (by decide) (num0 (by decide) (by decide) (by decide)) (sc_mk2 (by decide) (by decide) (num0 (by decide) (by decide) (by decide)) hb ys) tx.sc, by have := tx.wt; have := ty.wt; rw [wt2, wt2]; omega, by have := tx.dp; have := ty.dp; rw [dp2, dp2]; omega⟩
    refine ⟨tt, p && q, ⟨N1 + N2 + 100000, fun n hn => ?_⟩, hok⟩
    · obtain ⟨n, rfl⟩ : ∃ k, n = k + 1 := ⟨n - 1, by omega⟩
      have h1 := h1 n (by omega)
      have h2 := h2 n (by omega)
      rw [← we2] at h1 h2
      have hw := within4_ok (n := n) (by omega) r.n (m := 7) (by omega) (by omega)
      have t15 := t0_ok (n := n) (by omega) 15
      have p0 := pick_ok (n := n) (by omega) r 0
      have p1 := pick_ok (n := n) (by omega) r 1
      have p2 := pick_ok (n := n) (by omega) r 2
      have hp := plainT_ok 1 n (r.pick 0) (by omega) (by omega)
      rw [← hbe] at hp
      have hm := more_ok (n := n) g 0 b (by omega) (by omega)
      have sh := shift_ok n a 1 0 (by omega) (sc_wk _ _ ha.sc) (by omega) (by omega)
      have t28 := t_ok (n := n) (by omega) 28 [x, y]
      have t20 := t_ok (n := n) (by omega) 20 [b, y]
      have t21 := t_ok (n := n) (by omega) 21 [.mk 20 0 [b, y], x]
      rw [c64]
      clear hO hG tx ty hg ha hi hs1 hbe hb hgb ys hok c12
      generalize r.n % 7 = w7 at hw htt
      generalize a.shift 1 0 = a1 at sh h2
      generalize r.pick 0 = r0 at p0 hp
      generalize r.pick 1 = r1 at p1 h1
      generalize r.pick 2 = r2 at p2 h2
      obtain ⟨o1, x1, k1⟩ := a
      obtain ⟨o2, x2, k2⟩ := r
      obtain ⟨o3, x3, k3⟩ := b
      obtain ⟨o4, x4, k4⟩ := x
      obtain ⟨o5, x5, k5⟩ := y
      obtain ⟨o6, x6, k6⟩ := r0
      obtain ⟨o7, x7, k7⟩ := r1
      obtain ⟨o8, x8, k8⟩ := r2
      obtain ⟨o9, x9, k9⟩ := a1
      simp only [Tm.n] at hw
      simp only [gEnc, List.map_cons, List.map_nil, enc_mk] at h1 h2 t15 p0 p1 p2 hp hm sh t28 t20 t21 ⊢
      rcases htt with ⟨rfl, rfl⟩ | ⟨rfl, rfl⟩
      · cases p <;> (simp (maxSteps := 1000000) only [↓UU8, ↓XX, XY, ↓reduceIte, Nat.reduceBEq, Nat.reduceAdd, Int.cast_ofNat_Int, Int.reduceEq, Int.reduceLT, Int.reduceLE, ↓iso_2 hw, ↓iso_2 t15, ↓iso_2 p0, ↓iso_2 p1, ↓iso_2 p2, ↓iso_2 hp, ↓iso_4 h1, ↓iso_3 hm, ↓iso_3 sh, ↓iso_4 h2, ↓bs2_g, ↓iso_2 t28, enc_mk, List.map_cons, List.map_nil]; first | exact ans_fv _ _ | exact ans_t rfl (by simp) _)
      · cases p <;> (simp (maxSteps := 1000000) only [↓UU8, ↓XX, XY, ↓reduceIte, Nat.reduceBEq, Nat.reduceAdd, Int.cast_ofNat_Int, Int.reduceEq, Int.reduceLT, Int.reduceLE, ↓iso_2 hw, ↓iso_2 t15, ↓iso_2 p0, ↓iso_2 p1, ↓iso_2 p2, ↓iso_2 hp, ↓iso_4 h1, ↓iso_3 hm, ↓iso_3 sh, ↓iso_4 h2, ↓bs2_g, ↓iso_2 t20, ↓iso_2 t21, enc_mk, List.map_cons, List.map_nil]; first | exact ans_fv _ _ | exact ans_t rfl (by simp) _)
  by_cases c3 : r.n % 7 = 3
  · obtain ⟨x, p, ⟨N1, h1⟩, tx⟩ := hO g a (r.pick 0) (gok_mono (by omega) hg) (nok_aok ha)
    obtain ⟨y, q, ⟨N2, h2⟩, ty⟩ := hO g (.mk 15 0 []) (r.pick 1) (gok_mono (by omega) hg) hi
    refine ⟨.mk 23 0 [.mk 22 0 [x, y]], p && q, ⟨N1 + N2 + 100000, fun n hn => ?_⟩, sc_mk1 (by decide) (by decide) (num0 (by decide) (by decide) (by decide)) (sc_mk2 (by decide) (by decide) (num0 (by decide) (by decide) (by decide)) tx.sc ty.sc), by have := tx.wt; have := ty.wt; rw [wt1, wt2]; omega, by have := tx.dp; have := ty.dp; rw [dp1, dp2]; omega⟩
    · obtain ⟨n, rfl⟩ : ∃ k, n = k + 1 := ⟨n - 1, by omega⟩
      have h1 := h1 n (by omega)
      have h2 := h2 n (by omega)
      rw [← we2] at h1 h2
      have hw := within4_ok (n := n) (by omega) r.n (m := 7) (by omega) (by omega)
      have t15 := t0_ok (n := n) (by omega) 15
      have p0 := pick_ok (n := n) (by omega) r 0
      have p1 := pick_ok (n := n) (by omega) r 1
      have p2 := pick_ok (n := n) (by omega) r 2
      rw [c3] at hw
      have t22 := t_ok (n := n) (by omega) 22 [x, y]
      have t23 := t_ok (n := n) (by omega) 23 [.mk 22 0 [x, y]]
      rw [c64]
      clear hO hG tx ty hg ha hi hs1
      generalize r.pick 0 = r0 at p0 h1
      generalize r.pick 1 = r1 at p1 h2
      obtain ⟨o1, x1, k1⟩ := a
      obtain ⟨o2, x2, k2⟩ := r
      obtain ⟨o4, x4, k4⟩ := x
      obtain ⟨o5, x5, k5⟩ := y
      obtain ⟨o6, x6, k6⟩ := r0
      obtain ⟨o7, x7, k7⟩ := r1
      simp only [Tm.n] at hw
      simp only [gEnc, List.map_cons, List.map_nil, enc_mk] at h1 h2 t15 p0 p1 t22 t23 ⊢
      cases p <;> (simp (maxSteps := 1000000) only [↓UU8, ↓XX, XY, ↓reduceIte, Nat.reduceBEq, Nat.reduceAdd, Int.cast_ofNat_Int, Int.reduceEq, Int.reduceLT, Int.reduceLE, ↓iso_2 hw, ↓iso_2 t15, ↓iso_2 p0, ↓iso_2 p1, ↓iso_4 h1, ↓iso_4 h2, ↓bs2_g, ↓bs1_g, ↓iso_2 t22, ↓iso_2 t23]; first | exact ans_fv _ _ | exact ans_t rfl (by simp) _)
  by_cases c4 : r.n % 7 = 4
  · have hga : GOk (e - 2) (g ++ [(0, a)]) := gok_more (gok_mono (by omega) hg) ha.sc (by omega) (by omega)
    obtain ⟨x, p, ⟨N1, h1⟩, tx⟩ := hO (g ++ [(0, a)]) (a.shift 1 0) (r.pick 0) hga (by simpa using nok_aok hs1)
    have xs : x.sc (g.length + 1) := by simpa using tx.sc
    refine ⟨.mk 29 0 [a, x], p, ⟨N1 + 100000, fun n hn => ?_⟩, sc_mk2 (by decide) (by decide) (num0 (by decide) (by decide) (by decide)) ha.sc xs, by have := tx.wt; rw [wt2]; omega, by have := tx.dp; rw [dp2]; omega⟩
    · obtain ⟨n, rfl⟩ : ∃ k, n = k + 1 := ⟨n - 1, by omega⟩
      have h1 := h1 n (by omega)
      rw [← we2] at h1
      have hw := within4_ok (n := n) (by omega) r.n (m := 7) (by omega) (by omega)
      have t15 := t0_ok (n := n) (by omega) 15
      have p0 := pick_ok (n := n) (by omega) r 0
      have p1 := pick_ok (n := n) (by omega) r 1
      have p2 := pick_ok (n := n) (by omega) r 2
      rw [c4] at hw
      have hm := more_ok (n := n) g 0 a (by omega) (by omega)
      have sh := shift_ok n a 1 0 (by omega) (sc_wk _ _ ha.sc) (by omega) (by omega)
      have t29 := t_ok (n := n) (by omega) 29 [a, x]
      rw [c64]
      clear hO hG tx hg ha hi hs1 hga xs
      generalize a.shift 1 0 = a1 at sh h1
      generalize r.pick 0 = r0 at p0 h1
      obtain ⟨o1, x1, k1⟩ := a
      obtain ⟨o2, x2, k2⟩ := r
      obtain ⟨o4, x4, k4⟩ := x
      obtain ⟨o6, x6, k6⟩ := r0
      obtain ⟨o9, x9, k9⟩ := a1
      simp only [Tm.n] at hw
      simp only [gEnc, List.map_cons, List.map_nil, enc_mk] at h1 t15 p0 hm sh t29 ⊢
      simp (maxSteps := 1000000) only [↓UU8, ↓XX, XY, ↓reduceIte, Nat.reduceBEq, Nat.reduceAdd, Int.cast_ofNat_Int, Int.reduceEq, Int.reduceLT, Int.reduceLE, ↓iso_2 hw, ↓iso_2 t15, ↓iso_2 p0, ↓iso_3 hm, ↓iso_3 sh, ↓iso_4 h1, ↓bs2_g, ↓iso_2 t29]; first | exact ans_fv _ _ | exact ans_t rfl (by simp) _
  · have hla : AOk g.length (.mk 18 0 [a]) := ⟨sc_mk1 (by decide) (by decide) (num0 (by decide) (by decide) (by decide)) ha.sc, by rw [wt1]; omega, by rw [dp1]; omega⟩
    obtain ⟨x, p, ⟨N1, h1⟩, tx⟩ := hG g (.mk 18 0 [a]) (r.pick 0) (gok_mono (by omega) hg) hla
    refine ⟨.mk 30 0 [x], p, ⟨N1 + 100000, fun n hn => ?_⟩, sc_mk1 (by decide) (by decide) (num0 (by decide) (by decide) (by decide)) tx.sc, by have := tx.wt; rw [wt1]; omega, by have := tx.dp; rw [dp1]; omega⟩
    · obtain ⟨n, rfl⟩ : ∃ k, n = k + 1 := ⟨n - 1, by omega⟩
      have h1 := h1 n (by omega)
      rw [← we] at h1
      have hw := within4_ok (n := n) (by omega) r.n (m := 7) (by omega) (by omega)
      have t15 := t0_ok (n := n) (by omega) 15
      have p0 := pick_ok (n := n) (by omega) r 0
      have p1 := pick_ok (n := n) (by omega) r 1
      have p2 := pick_ok (n := n) (by omega) r 2
      have c1 : ¬ r.n % 7 = 1 := fun h => c12 (.inl h)
      have c2 : ¬ r.n % 7 = 2 := fun h => c12 (.inr h)
      have t18 := t_ok (n := n) (by omega) 18 [a]
      have t30 := t_ok (n := n) (by omega) 30 [x]
      rw [c64]
      clear hO hG tx hg ha hi hs1 hla c12 hk1 hk2
      generalize r.n % 7 = w7 at hw c0 c1 c2 c3 c4
      generalize r.pick 0 = r0 at p0 h1
      obtain ⟨o1, x1, k1⟩ := a
      obtain ⟨o2, x2, k2⟩ := r
      obtain ⟨o4, x4, k4⟩ := x
      obtain ⟨o6, x6, k6⟩ := r0
      simp only [Tm.n] at hw
      simp only [gEnc, List.map_cons, List.map_nil, enc_mk] at h1 t15 p0 t18 t30 ⊢
      simp (maxSteps := 1000000) only [↓UU8, ↓XX, XY, ↓reduceIte, Nat.reduceBEq, Nat.reduceAdd, Int.cast_ofNat_Int, Int.reduceEq, Int.reduceLT, Int.reduceLE, ↓iso_2 hw, c0, c1, c2, c3, c4, ↓iso_2 t15, ↓iso_2 p0, ↓bs1_g, ↓iso_2 t18, ↓iso_4 h1, ↓iso_2 t30]; first | exact ans_fv _ _ | exact ans_t rfl (by simp) _
theorem nok_kids {k : Nat} {a : Tm} {r : Nat} (h : NOk k a) (hr : ar a.op = some r) : a.kids.length = r := sc_kids h.sc rfl hr
theorem kids2 {l : List Tm} (h : l.length = 2) : ∃ x y, l = [x, y] := by
  match l, h with
  | [x, y], _ => exact ⟨x, y, rfl⟩
theorem kids1 {l : List Tm} (h : l.length = 1) : ∃ x, l = [x] := by
  match l, h with
  | [x], _ => exact ⟨x, rfl⟩
theorem kids0 {l : List Tm} (h : l.length = 0) : l = [] := List.eq_nil_of_length_eq_zero h
set_option maxRecDepth 20000 in
set_option maxHeartbeats 8000000 in
theorem object_ev {e : Nat} (he : e ≤ 10) (hO : 1 ≤ e → GrowE 32 (e - 1)) (hA : 6 ≤ e → GrowN 64 e) : GrowE 32 e := by
  intro g a0 r hg ha0
  have hlen := hg.len
  have hW0 := Wg_0 e
  have hD0 : 200 ≤ Dg e := by unfold Dg; omega
  have hDm : Dg e ≤ 300 := by unfold Dg; omega
  have hW10 := Wg_10 he
  obtain ⟨a, er, ⟨N0, h0⟩, hcase⟩ := norm_ev (k := g.length) (by omega) ha0.sc (by have := ha0.dp; omega)
  rcases hcase with ⟨rfl, ha⟩ | ⟨her, rfl⟩
  case inr =>
    have hne : er ≠ 0 := by omega
    refine ⟨.z, false, ⟨N0 + 100, fun n hn => ?_⟩, z_sc _, by simp only [Tm.z, Tm.wt, Tm.wtL]; omega, by simp only [Tm.z, Tm.dp, Tm.dpL]; omega⟩
    obtain ⟨n, rfl⟩ : ∃ k, n = k + 1 := ⟨n - 1, by omega⟩
    have h0 := h0 n (by omega)
    rw [c32]
    clear hO hA hg ha0
    obtain ⟨o1, x1, k1⟩ := a0
    obtain ⟨o2, x2, k2⟩ := r
    simp only [gEnc, Tm.z, List.map_nil, enc_mk] at h0 ⊢
    simp (maxSteps := 1000000) only [↓UU7, ↓XX, XY, ↓reduceIte, Nat.reduceBEq, Nat.reduceAdd, Int.cast_ofNat_Int, Int.reduceEq, Int.reduceLT, Int.reduceLE, ↓iso_1 h0, hne]; first | exact ans_fv _ _ | exact ans_t rfl (by simp) _
  obtain ⟨v, is, ⟨N1, h1⟩, tv⟩ := variable_ev hg 0 ha r.n
  have aw := ha.wt
  have ad := ha.dp
  have hw3m := Int.emod_nonneg r.op (show (3 : Int) ≠ 0 by decide)
  by_cases cv : is = true ∧ r.op % 3 = 0 ∨ e = 0
  · refine ⟨v, is, ⟨N0 + N1 + 100, fun n hn => ?_⟩, tok_mono (Nat.zero_le _) tv⟩
    obtain ⟨n, rfl⟩ : ∃ k, n = k + 1 := ⟨n - 1, by omega⟩
    have h0 := h0 n (by omega)
    have h1 := h1 n (by omega)
    have hw := within4_ok (n := n) (by omega) r.op (m := 3) (by omega) (by omega)
    rw [c32]
    clear hO hA hg ha0 ha tv
    obtain ⟨o0, x0, k0⟩ := a0
    obtain ⟨o1, x1, k1⟩ := a
    obtain ⟨o2, x2, k2⟩ := r
    obtain ⟨o3, x3, k3⟩ := v
    simp only [Tm.n, Tm.op] at h1 hw cv
    simp only [gEnc, enc_mk] at h0 h1 ⊢
    generalize o2 % 3 = w3 at hw cv
    rcases cv with ⟨rfl, rfl⟩ | rfl
    · simp (maxSteps := 1000000) only [↓UU7, ↓XX, XY, ↓reduceIte, Nat.reduceBEq, Nat.reduceAdd, Int.cast_ofNat_Int, Int.reduceEq, Int.reduceLT, Int.reduceLE, ↓iso_1 h0, ↓iso_4 h1, ↓iso_2 hw]; first | exact ans_fv _ _ | exact ans_t rfl (by simp) _
    · have hd4 : ((0 : Nat) : Int) - 5 < -4 := by omega
      cases is
      · simp (maxSteps := 1000000) only [↓UU7, ↓XX, XY, ↓reduceIte, Nat.reduceBEq, Nat.reduceAdd, Int.cast_ofNat_Int, Int.reduceEq, Int.reduceLT, Int.reduceLE, ↓iso_1 h0, ↓iso_4 h1, ↓iso_2 hw, hd4, Int.reduceSub, Int.reduceLT, Int.reduceNeg]; first | exact ans_fv _ _ | exact ans_t rfl (by simp) _
      · by_cases h3 : w3 = 0
        · simp (maxSteps := 1000000) only [↓UU7, ↓XX, XY, ↓reduceIte, Nat.reduceBEq, Nat.reduceAdd, Int.cast_ofNat_Int, Int.reduceEq, Int.reduceLT, Int.reduceLE, ↓iso_1 h0, ↓iso_4 h1, ↓iso_2 hw, h3, hd4, Int.reduceSub, Int.reduceLT, Int.reduceNeg]; first | exact ans_fv _ _ | exact ans_t rfl (by simp) _
        · simp (maxSteps := 1000000) only [↓UU7, ↓XX, XY, ↓reduceIte, Nat.reduceBEq, Nat.reduceAdd, Int.cast_ofNat_Int, Int.reduceEq, Int.reduceLT, Int.reduceLE, ↓iso_1 h0, ↓iso_4 h1, ↓iso_2 hw, h3, hd4, Int.reduceSub, Int.reduceLT, Int.reduceNeg]; first | exact ans_fv _ _ | exact ans_t rfl (by simp) _
  have he1 : 1 ≤ e := by omega
  have hd4 : ¬ (e : Int) - 5 < -4 := by omega
  have hv : is = true → ¬ r.op % 3 = 0 := fun h1 h2 => cv (.inl ⟨h1, h2⟩)
  have hW1 : Wg e = 4 * Wg (e - 1) := by
    obtain ⟨f, rfl⟩ : ∃ f, e = f + 1 := ⟨e - 1, by omega⟩
    rw [Wg_s, Nat.add_sub_cancel]
  have hW01 := Wg_0 (e - 1)
  have hD1 : Dg e = Dg (e - 1) + 10 := by unfold Dg; omega
  have hD01 : 200 ≤ Dg (e - 1) := by unfold Dg; omega
  have we : w64 ((e : Int) - 5 - 1) = ((e - 1 : Nat) : Int) - 5 := by rw [w64_id (by omega) (by omega)]; omega
  have hO := hO he1
  by_cases ca : 6 ≤ e ∧ r.op % 3 = 1
  · obtain ⟨t, b, ⟨N2, h2⟩, tt⟩ := hA ca.1 g a r hg ha
    refine ⟨t, b, ⟨N0 + N1 + N2 + 100, fun n hn => ?_⟩, tt⟩
    obtain ⟨n, rfl⟩ : ∃ k, n = k + 1 := ⟨n - 1, by omega⟩
    have h0 := h0 n (by omega)
    have h1 := h1 n (by omega)
    have h2 := h2 n (by omega)
    have hw := within4_ok (n := n) (by omega) r.op (m := 3) (by omega) (by omega)
    rw [ca.2] at hw
    have hd0 : (0 : Int) < (e : Int) - 5 := by omega
    rw [c32]
    clear hO hA hg ha0 ha tv tt
    obtain ⟨o0, x0, k0⟩ := a0
    obtain ⟨o1, x1, k1⟩ := a
    obtain ⟨o2, x2, k2⟩ := r
    obtain ⟨o3, x3, k3⟩ := v
    obtain ⟨o4, x4, k4⟩ := t
    simp only [Tm.n, Tm.op] at h1 hw
    simp only [gEnc, enc_mk] at h0 h1 h2 ⊢
    cases is <;> (simp (maxSteps := 1000000) only [↓UU7, ↓XX, XY, ↓reduceIte, Nat.reduceBEq, Nat.reduceAdd, Int.cast_ofNat_Int, Int.reduceEq, Int.reduceLT, Int.reduceLE, ↓iso_1 h0, ↓iso_4 h1, ↓iso_2 hw, hd4, hd0, ↓iso_4 h2]; first | exact ans_fv _ _ | exact ans_t rfl (by simp) _)
  have hna : (0 : Int) < (e : Int) - 5 → ¬ r.op % 3 = 1 := by omega
  by_cases o15 : a.op = 15
  · have hl := kids0 (nok_kids ha (show ar a.op = some 0 by rw [o15]; decide))
    by_cases hs : 6 ≤ e ∧ r.op % 2 = 1
    · obtain ⟨x, p, ⟨N2, h2⟩, tx⟩ := hO g a (r.pick 0) (gok_mono (by omega) hg) (nok_aok ha)
      obtain ⟨y, q, ⟨N3, h3⟩, ty⟩ := hO g a (r.pick 1) (gok_mono (by omega) hg) (nok_aok ha)
      have hj1 := Int.emod_nonneg r.n (show (5 : Int) ≠ 0 by decide)
      have hj2 := Int.emod_lt_of_pos r.n (show (0 : Int) < 5 by decide)
      refine ⟨.mk 26 (r.n % 5) [x, y], p && q, ⟨N0 + N1 + N2 + N3 + 100, fun n hn => ?_⟩, sc_mk2 (by decide) (by decide) (by rw [numok, if_neg (by decide), if_pos rfl]; omega) tx.sc ty.sc, by have := tx.wt; have := ty.wt; rw [wt2]; omega, by have := tx.dp; have := ty.dp; rw [dp2]; omega⟩
      obtain ⟨n, rfl⟩ : ∃ k, n = k + 1 := ⟨n - 1, by omega⟩
      have h0 := h0 n (by omega)
      have h1 := h1 n (by omega)
      have h2 := h2 n (by omega)
      have h3 := h3 n (by omega)
      rw [← we] at h2 h3
      have hw := within4_ok (n := n) (by omega) r.op (m := 3) (by omega) (by omega)
      have hw2 := within4_ok (n := n) (by omega) r.op (m := 2) (by omega) (by omega)
      rw [hs.2] at hw2
      have hw5 := within4_ok (n := n) (by omega) r.n (m := 5) (by omega) (by omega)
      have p0 := pick_ok (n := n) (by omega) r 0
      have p1 := pick_ok (n := n) (by omega) r 1
      have hd0 : (0 : Int) < (e : Int) - 5 := by omega
      replace hna := hna hd0
      rw [c32]
      clear hO hA hg ha0 ha tv tx ty hj1 hj2
      generalize r.op % 3 = w3 at hw hv hna
      generalize r.n % 5 = w5 at hw5 ⊢
      generalize r.pick 0 = r0 at p0 h2
      generalize r.pick 1 = r1 at p1 h3
      obtain ⟨o0, x0, k0⟩ := a0
      obtain ⟨o1, x1, k1⟩ := a
      simp only [Tm.op, Tm.kids] at o15 hl
      subst o15 hl
      obtain ⟨o2, x2, k2⟩ := r
      obtain ⟨o3, x3, k3⟩ := v
      obtain ⟨o4, x4, k4⟩ := x
      obtain ⟨o5, x5, k5⟩ := y
      obtain ⟨o6, x6, k6⟩ := r0
      obtain ⟨o7, x7, k7⟩ := r1
      simp only [Tm.n, Tm.op] at h1 hw hw2 hw5
      simp only [gEnc, enc_mk, List.map_cons, List.map_nil] at h0 h1 h2 h3 p0 p1 ⊢
      cases is <;> cases p <;> (simp (maxSteps := 1000000) only [↓UU7, ↓XX, XY, ↓reduceIte, Nat.reduceBEq, Nat.reduceAdd, Int.cast_ofNat_Int, Int.reduceEq, Int.reduceLT, Int.reduceLE, ↓iso_1 h0, ↓iso_4 h1, ↓iso_2 hw, hv, hd4, hd0, hna, ↓iso_2 hw2, ↓iso_2 p0, ↓iso_2 p1, ↓iso_4 h2, ↓iso_4 h3, ↓iso_2 hw5, ↓bs2_g]; first | exact ans_fv _ _ | exact ans_t rfl (by simp) _)
    · have hj1 := Int.emod_nonneg r.n (show (20 : Int) ≠ 0 by decide)
      have hj2 := Int.emod_lt_of_pos r.n (show (0 : Int) < 20 by decide)
      refine ⟨.mk 25 (r.n % 20 - 5) [], true, ⟨N0 + N1 + 100, fun n hn => ?_⟩, sc_mk0 (by decide) (by decide) (by rw [numok, if_neg (by decide), if_neg (by decide), if_pos rfl]; omega), by simp only [Tm.wt, Tm.wtL]; omega, by simp only [Tm.dp, Tm.dpL]; omega⟩
      obtain ⟨n, rfl⟩ : ∃ k, n = k + 1 := ⟨n - 1, by omega⟩
      have h0 := h0 n (by omega)
      have h1 := h1 n (by omega)
      have hw := within4_ok (n := n) (by omega) r.op (m := 3) (by omega) (by omega)
      have hw2 := within4_ok (n := n) (by omega) r.op (m := 2) (by omega) (by omega)
      have hw20 := within4_ok (n := n) (by omega) r.n (m := 20) (by omega) (by omega)
      have w5 : w64 (r.n % 20 - 5) = r.n % 20 - 5 := by rw [w64_id] <;> omega
      have hin := int_ok (n := n) (by omega) (r.n % 20 - 5)
      rw [← w5] at hin
      have h21 : (0 : Int) < (e : Int) - 5 → ¬ r.op % 2 = 1 := by omega
      rw [c32, ← w5]
      clear hO hA hg ha0 ha tv hj1 hj2 w5 hs
      generalize r.op % 3 = w3 at hw hv hna
      generalize r.op % 2 = w2 at hw2 h21
      generalize r.n % 20 = w20 at hw20 hin ⊢
      obtain ⟨o0, x0, k0⟩ := a0
      obtain ⟨o1, x1, k1⟩ := a
      simp only [Tm.op, Tm.kids] at o15 hl
      subst o15 hl
      obtain ⟨o2, x2, k2⟩ := r
      obtain ⟨o3, x3, k3⟩ := v
      simp only [Tm.n, Tm.op] at h1 hw hw2 hw20
      simp only [gEnc, enc_mk, List.map_cons, List.map_nil] at h0 h1 hin ⊢
      cases is <;> by_cases hd0 : (0 : Int) < (e : Int) - 5 <;> (simp (maxSteps := 1000000) only [↓UU7, ↓XX, XY, ↓reduceIte, Nat.reduceBEq, Nat.reduceAdd, Int.cast_ofNat_Int, Int.reduceEq, Int.reduceLT, Int.reduceLE, ↓iso_1 h0, ↓iso_4 h1, ↓iso_2 hw, hv, hd4, hd0, hna, ↓iso_2 hw2, h21, ↓iso_2 hw20, ↓iso_1 hin]; first | exact ans_fv _ _ | exact ans_t rfl (by simp) _)
  by_cases o16 : a.op = 16
  · obtain ⟨d, c, hl⟩ := kids2 (nok_kids ha (show ar a.op = some 2 by rw [o16]; decide))
    have hd : NOk g.length d ∧ NOk g.length c := by
      obtain ⟨o1, x1, k1⟩ := a
      simp only [Tm.op, Tm.kids] at o16 hl
      subst o16 hl
      have hsc := ha.sc
      rw [Tm.sc] at hsc
      rw [wt2] at aw
      rw [dp2] at ad
      exact ⟨⟨hsc.2.2.1, by omega, by omega⟩, ⟨hsc.2.2.2.1, by omega, by omega⟩⟩
    obtain ⟨hd, hc⟩ := hd
    have hgd : GOk (e - 1) (g ++ [(0, d)]) := gok_more (by rw [show e - 1 + 1 = e by omega]; exact hg) hd.sc (by have := hd.wt; omega) (by have := hd.dp; omega)
    obtain ⟨x, p, ⟨N2, h2⟩, tx⟩ := hO (g ++ [(0, d)]) (c.shift 1 0) (r.pick 0) hgd (by simpa using nok_aok (sh_nok hc (by omega) 1 (by omega)))
    have xs : x.sc (g.length + 1) := by simpa using tx.sc
    refine ⟨.mk 20 0 [d, x], p, ⟨N0 + N1 + N2 + 100000, fun n hn => ?_⟩, sc_mk2 (by decide) (by decide) (num0 (by decide) (by decide) (by decide)) hd.sc xs, by have := tx.wt; have := hd.wt; rw [wt2]; omega, by have := tx.dp; have := hd.dp; rw [dp2]; omega⟩
    · obtain ⟨n, rfl⟩ : ∃ k, n = k + 1 := ⟨n - 1, by omega⟩
      have h0 := h0 n (by omega)
      have h1 := h1 n (by omega)
      have h2 := h2 n (by omega)
      rw [← we] at h2
      have hw := within4_ok (n := n) (by omega) r.op (m := 3) (by omega) (by omega)
      have p0 := pick_ok (n := n) (by omega) r 0
      have hm := more_ok (n := n) g 0 d (by omega) (by omega)
      have sh := shift_ok n c 1 0 (by have := hc.wt; omega) (sc_wk _ _ hc.sc) (by omega) (by have := hc.wt; omega)
      have t20 := t_ok (n := n) (by omega) 20 [d, x]
      rw [c32]
      clear hO hA hg ha0 ha tv tx hd hc hgd xs
      generalize r.op % 3 = w3 at hw hv hna
      generalize c.shift 1 0 = c1 at sh h2
      generalize r.pick 0 = r0 at p0 h2
      obtain ⟨o0, x0, k0⟩ := a0
      obtain ⟨o1, x1, k1⟩ := a
      simp only [Tm.op, Tm.kids] at o16 hl
      subst o16 hl
      obtain ⟨o2, x2, k2⟩ := r
      obtain ⟨o3, x3, k3⟩ := v
      obtain ⟨o4, x4, k4⟩ := x
      obtain ⟨o5, x5, k5⟩ := d
      obtain ⟨o6, x6, k6⟩ := c
      obtain ⟨o7, x7, k7⟩ := c1
      obtain ⟨o8, x8, k8⟩ := r0
      simp only [Tm.n, Tm.op] at h1 hw
      simp only [gEnc, enc_mk, List.map_cons, List.map_nil] at h0 h1 h2 p0 hm sh t20 ⊢
      cases is <;> by_cases hd0 : (0 : Int) < (e : Int) - 5 <;> (simp (maxSteps := 1000000) only [↓UU7, ↓XX, XY, ↓reduceIte, Nat.reduceBEq, Nat.reduceAdd, Int.cast_ofNat_Int, Int.reduceEq, Int.reduceLT, Int.reduceLE, ↓iso_1 h0, ↓iso_4 h1, ↓iso_2 hw, hv, hd4, hd0, hna, ↓ixt0, ↓ixt1, ↓iso_2 p0, ↓iso_3 hm, ↓iso_3 sh, ↓iso_4 h2, ↓bs2_g, ↓iso_2 t20]; first | exact ans_fv _ _ | exact ans_t rfl (by simp) _)
  by_cases o17 : a.op = 17
  · obtain ⟨d, c, hl⟩ := kids2 (nok_kids ha (show ar a.op = some 2 by rw [o17]; decide))
    have hd : NOk g.length d ∧ NOk g.length c := by
      obtain ⟨o1, x1, k1⟩ := a
      simp only [Tm.op, Tm.kids] at o17 hl
      subst o17 hl
      have hsc := ha.sc
      rw [Tm.sc] at hsc
      rw [wt2] at aw
      rw [dp2] at ad
      exact ⟨⟨hsc.2.2.1, by omega, by omega⟩, ⟨hsc.2.2.2.1, by omega, by omega⟩⟩
    obtain ⟨hd, hc⟩ := hd
    obtain ⟨x, p, ⟨N2, h2⟩, tx⟩ := hO g d (r.pick 0) (gok_mono (by omega) hg) (nok_aok hd)
    obtain ⟨y, q, ⟨N3, h3⟩, ty⟩ := hO g c (r.pick 1) (gok_mono (by omega) hg) (nok_aok hc)
    refine ⟨.mk 22 0 [x, y], p && q, ⟨N0 + N1 + N2 + N3 + 100, fun n hn => ?_⟩, sc_mk2 (by decide) (by decide) (num0 (by decide) (by decide) (by decide)) tx.sc ty.sc, by have := tx.wt; have := ty.wt; rw [wt2]; omega, by have := tx.dp; have := ty.dp; rw [dp2]; omega⟩
    · obtain ⟨n, rfl⟩ : ∃ k, n = k + 1 := ⟨n - 1, by omega⟩
      have h0 := h0 n (by omega)
      have h1 := h1 n (by omega)
      have h2 := h2 n (by omega)
      have h3 := h3 n (by omega)
      rw [← we] at h2 h3
      have hw := within4_ok (n := n) (by omega) r.op (m := 3) (by omega) (by omega)
      have p0 := pick_ok (n := n) (by omega) r 0
      have p1 := pick_ok (n := n) (by omega) r 1
      have t22 := t_ok (n := n) (by omega) 22 [x, y]
      rw [c32]
      clear hO hA hg ha0 ha tv tx ty hd hc
      generalize r.op % 3 = w3 at hw hv hna
      generalize r.pick 0 = r0 at p0 h2
      generalize r.pick 1 = r1 at p1 h3
      obtain ⟨o0, x0, k0⟩ := a0
      obtain ⟨o1, x1, k1⟩ := a
      simp only [Tm.op, Tm.kids] at o17 hl
      subst o17 hl
      obtain ⟨o2, x2, k2⟩ := r
      obtain ⟨o3, x3, k3⟩ := v
      obtain ⟨o4, x4, k4⟩ := x
      obtain ⟨o5, x5, k5⟩ := d
      obtain ⟨o6, x6, k6⟩ := c
      obtain ⟨o7, x7, k7⟩ := y
      obtain ⟨o8, x8, k8⟩ := r0
      obtain ⟨o9, x9, k9⟩ := r1
      simp only [Tm.n, Tm.op] at h1 hw
      simp only [gEnc, enc_mk, List.map_cons, List.map_nil] at h0 h1 h2 h3 p0 p1 t22 ⊢
      cases is <;> by_cases hd0 : (0 : Int) < (e : Int) - 5 <;> cases p <;> (simp (maxSteps := 1000000) only [↓UU7, ↓XX, XY, ↓reduceIte, Nat.reduceBEq, Nat.reduceAdd, Int.cast_ofNat_Int, Int.reduceEq, Int.reduceLT, Int.reduceLE, ↓iso_1 h0, ↓iso_4 h1, ↓iso_2 hw, hv, hd4, hd0, hna, ↓ixt0, ↓ixt1, ↓iso_2 p0, ↓iso_2 p1, ↓iso_4 h2, ↓iso_4 h3, ↓bs2_g, ↓iso_2 t22]; first | exact ans_fv _ _ | exact ans_t rfl (by simp) _)
  refine ⟨v, is, ⟨N0 + N1 + 100, fun n hn => ?_⟩, tok_mono (Nat.zero_le _) tv⟩
  · obtain ⟨n, rfl⟩ : ∃ k, n = k + 1 := ⟨n - 1, by omega⟩
    have h0 := h0 n (by omega)
    have h1 := h1 n (by omega)
    have hw := within4_ok (n := n) (by omega) r.op (m := 3) (by omega) (by omega)
    rw [c32]
    clear hO hA hg ha0 ha tv
    generalize r.op % 3 = w3 at hw hv hna
    obtain ⟨o0, x0, k0⟩ := a0
    obtain ⟨o1, x1, k1⟩ := a
    obtain ⟨o2, x2, k2⟩ := r
    obtain ⟨o3, x3, k3⟩ := v
    simp only [Tm.n, Tm.op] at h1 hw o15 o16 o17
    simp only [gEnc, enc_mk] at h0 h1 ⊢
    cases is <;> by_cases hd0 : (0 : Int) < (e : Int) - 5 <;> (simp (maxSteps := 1000000) only [↓UU7, ↓XX, XY, ↓reduceIte, Nat.reduceBEq, Nat.reduceAdd, Int.cast_ofNat_Int, Int.reduceEq, Int.reduceLT, Int.reduceLE, ↓iso_1 h0, ↓iso_4 h1, ↓iso_2 hw, hv, hd4, hd0, hna, o15, o16, o17]; first | exact ans_fv _ _ | exact ans_t rfl (by simp) _)
set_option maxRecDepth 20000 in
set_option maxHeartbeats 8000000 in
theorem grow_ev {e : Nat} (he : e ≤ 10) (hG : 1 ≤ e → GrowE 26 (e - 1)) (hO : 1 ≤ e → GrowE 32 (e - 1)) (hA : 6 ≤ e → GrowN 60 e) (hP : 1 ≤ e → GrowP 61 e) : GrowE 26 e := by
  intro g a0 r hg ha0
  have hlen := hg.len
  have hW0 := Wg_0 e
  have hD0 : 200 ≤ Dg e := by unfold Dg; omega
  have hDm : Dg e ≤ 300 := by unfold Dg; omega
  have hW10 := Wg_10 he
  obtain ⟨a, er, ⟨N0, h0⟩, hcase⟩ := norm_ev (k := g.length) (by omega) ha0.sc (by have := ha0.dp; omega)
  rcases hcase with ⟨rfl, ha⟩ | ⟨her, rfl⟩
  case inr =>
    have hne : er ≠ 0 := by omega
    refine ⟨.z, false, ⟨N0 + 100, fun n hn => ?_⟩, z_sc _, by simp only [Tm.z, Tm.wt, Tm.wtL]; omega, by simp only [Tm.z, Tm.dp, Tm.dpL]; omega⟩
    obtain ⟨n, rfl⟩ : ∃ k, n = k + 1 := ⟨n - 1, by omega⟩
    have h0 := h0 n (by omega)
    rw [c26]
    clear hG hO hA hP hg ha0
    obtain ⟨o1, x1, k1⟩ := a0
    obtain ⟨o2, x2, k2⟩ := r
    simp only [gEnc, Tm.z, List.map_nil, enc_mk] at h0 ⊢
    simp (maxSteps := 1000000) only [↓UU6, ↓XX, XY, ↓reduceIte, Nat.reduceBEq, Nat.reduceAdd, Int.cast_ofNat_Int, Int.reduceEq, Int.reduceLT, Int.reduceLE, ↓iso_1 h0, hne]; first | exact ans_fv _ _ | exact ans_t rfl (by simp) _
  obtain ⟨v, is, ⟨N1, h1⟩, tv⟩ := variable_ev hg 1 ha r.n
  have aw := ha.wt
  have ad := ha.dp
  have hw3m := Int.emod_nonneg r.op (show (3 : Int) ≠ 0 by decide)
  by_cases cv : is = true ∧ r.op % 3 = 0 ∨ e = 0
  · refine ⟨v, is, ⟨N0 + N1 + 100, fun n hn => ?_⟩, tok_mono (Nat.zero_le _) tv⟩
    obtain ⟨n, rfl⟩ : ∃ k, n = k + 1 := ⟨n - 1, by omega⟩
    have h0 := h0 n (by omega)
    have h1 := h1 n (by omega)
    have hw := within4_ok (n := n) (by omega) r.op (m := 3) (by omega) (by omega)
    rw [c26]
    clear hG hO hA hP hg ha0 ha tv
    obtain ⟨o0, x0, k0⟩ := a0
    obtain ⟨o1, x1, k1⟩ := a
    obtain ⟨o2, x2, k2⟩ := r
    obtain ⟨o3, x3, k3⟩ := v
    simp only [Tm.n, Tm.op] at h1 hw cv
    simp only [gEnc, enc_mk] at h0 h1 ⊢
    generalize o2 % 3 = w3 at hw cv
    rcases cv with ⟨rfl, rfl⟩ | rfl
    · simp (maxSteps := 1000000) only [↓UU6, ↓XX, XY, ↓reduceIte, Nat.reduceBEq, Nat.reduceAdd, Int.cast_ofNat_Int, Int.reduceEq, Int.reduceLT, Int.reduceLE, ↓iso_1 h0, ↓iso_4 h1, ↓iso_2 hw]; first | exact ans_fv _ _ | exact ans_t rfl (by simp) _
    · have hd4 : ((0 : Nat) : Int) - 5 < -4 := by omega
      cases is
      · simp (maxSteps := 1000000) only [↓UU6, ↓XX, XY, ↓reduceIte, Nat.reduceBEq, Nat.reduceAdd, Int.cast_ofNat_Int, Int.reduceEq, Int.reduceLT, Int.reduceLE, ↓iso_1 h0, ↓iso_4 h1, ↓iso_2 hw, hd4, Int.reduceSub, Int.reduceLT, Int.reduceNeg]; first | exact ans_fv _ _ | exact ans_t rfl (by simp) _
      · by_cases h3 : w3 = 0
        · simp (maxSteps := 1000000) only [↓UU6, ↓XX, XY, ↓reduceIte, Nat.reduceBEq, Nat.reduceAdd, Int.cast_ofNat_Int, Int.reduceEq, Int.reduceLT, Int.reduceLE, ↓iso_1 h0, ↓iso_4 h1, ↓iso_2 hw, h3, hd4, Int.reduceSub, Int.reduceLT, Int.reduceNeg]; first | exact ans_fv _ _ | exact ans_t rfl (by simp) _
        · simp (maxSteps := 1000000) only [↓UU6, ↓XX, XY, ↓reduceIte, Nat.reduceBEq, Nat.reduceAdd, Int.cast_ofNat_Int, Int.reduceEq, Int.reduceLT, Int.reduceLE, ↓iso_1 h0, ↓iso_4 h1, ↓iso_2 hw, h3, hd4, Int.reduceSub, Int.reduceLT, Int.reduceNeg]; first | exact ans_fv _ _ | exact ans_t rfl (by simp) _
  have he1 : 1 ≤ e := by omega
  have hd4 : ¬ (e : Int) - 5 < -4 := by omega
  have hv : is = true → ¬ r.op % 3 = 0 := fun h1 h2 => cv (.inl ⟨h1, h2⟩)
  have hW1 : Wg e = 4 * Wg (e - 1) := by
    obtain ⟨f, rfl⟩ : ∃ f, e = f + 1 := ⟨e - 1, by omega⟩
    rw [Wg_s, Nat.add_sub_cancel]
  have hW01 := Wg_0 (e - 1)
  have hD1 : Dg e = Dg (e - 1) + 10 := by unfold Dg; omega
  have hD01 : 200 ≤ Dg (e - 1) := by unfold Dg; omega
  have we : w64 ((e : Int) - 5 - 1) = ((e - 1 : Nat) : Int) - 5 := by rw [w64_id (by omega) (by omega)]; omega
  have hO := hO he1
  have hG := hG he1
  have hP := hP he1
  by_cases ca : 6 ≤ e ∧ r.op % 7 = 6
  · obtain ⟨t, b, ⟨N2, h2⟩, tt⟩ := hA ca.1 g a r hg ha
    refine ⟨t, b, ⟨N0 + N1 + N2 + 100, fun n hn => ?_⟩, tt⟩
    obtain ⟨n, rfl⟩ : ∃ k, n = k + 1 := ⟨n - 1, by omega⟩
    have h0 := h0 n (by omega)
    have h1 := h1 n (by omega)
    have h2 := h2 n (by omega)
    have hw := within4_ok (n := n) (by omega) r.op (m := 3) (by omega) (by omega)
    have hw7 := within4_ok (n := n) (by omega) r.op (m := 7) (by omega) (by omega)
    rw [ca.2] at hw7
    have hd0 : (0 : Int) < (e : Int) - 5 := by omega
    rw [c26]
    clear hG hO hA hP hg ha0 ha tv tt
    generalize r.op % 3 = w3 at hw hv
    obtain ⟨o0, x0, k0⟩ := a0
    obtain ⟨o1, x1, k1⟩ := a
    obtain ⟨o2, x2, k2⟩ := r
    obtain ⟨o3, x3, k3⟩ := v
    obtain ⟨o4, x4, k4⟩ := t
    simp only [Tm.n, Tm.op] at h1 hw hw7
    simp only [gEnc, enc_mk] at h0 h1 h2 ⊢
    cases is <;> (simp (maxSteps := 1000000) only [↓UU6, ↓XX, XY, ↓reduceIte, Nat.reduceBEq, Nat.reduceAdd, Int.cast_ofNat_Int, Int.reduceEq, Int.reduceLT, Int.reduceLE, ↓iso_1 h0, ↓iso_4 h1, ↓iso_2 hw, ↓iso_2 hw7, hv, hd4, hd0, ↓iso_4 h2]; first | exact ans_fv _ _ | exact ans_t rfl (by simp) _)
  have hna : (0 : Int) < (e : Int) - 5 → ¬ r.op % 7 = 6 := by omega
  by_cases hpl : a.op = 10 ∨ a.op = 14 ∨ a.op = 2
  · obtain ⟨t, b, ⟨N2, h2⟩, tt⟩ := hP g a r hg ha hpl
    refine ⟨t, b, ⟨N0 + N1 + N2 + 100, fun n hn => ?_⟩, tt⟩
    · obtain ⟨n, rfl⟩ : ∃ k, n = k + 1 := ⟨n - 1, by omega⟩
      have h0 := h0 n (by omega)
      have h1 := h1 n (by omega)
      have h2 := h2 n (by omega)
      have hw := within4_ok (n := n) (by omega) r.op (m := 3) (by omega) (by omega)
      have hw7 := within4_ok (n := n) (by omega) r.op (m := 7) (by omega) (by omega)
      rw [c26]
      clear hG hO hA hP hg ha0 ha tv tt
      generalize r.op % 3 = w3 at hw hv
      generalize r.op % 7 = w7 at hw7 hna
      obtain ⟨o0, x0, k0⟩ := a0
      obtain ⟨o1, x1, k1⟩ := a
      obtain ⟨o2, x2, k2⟩ := r
      obtain ⟨o3, x3, k3⟩ := v
      obtain ⟨o4, x4, k4⟩ := t
      simp only [Tm.n, Tm.op] at h1 hw hw7 hpl
      simp only [gEnc, enc_mk] at h0 h1 h2 ⊢
      rcases hpl with rfl | rfl | rfl
      · cases is <;> by_cases hd0 : (0 : Int) < (e : Int) - 5 <;> (simp (maxSteps := 1000000) only [↓UU6, ↓XX, XY, ↓reduceIte, Nat.reduceBEq, Nat.reduceAdd, Int.cast_ofNat_Int, Int.reduceEq, Int.reduceLT, Int.reduceLE, ↓iso_1 h0, ↓iso_4 h1, ↓iso_2 hw, ↓iso_2 hw7, hv, hd4, hd0, hna, ↓iso_4 h2]; first | exact ans_fv _ _ | exact ans_t rfl (by simp) _)
      · cases is <;> by_cases hd0 : (0 : Int) < (e : Int) - 5 <;> (simp (maxSteps := 1000000) only [↓UU6, ↓XX, XY, ↓reduceIte, Nat.reduceBEq, Nat.reduceAdd, Int.cast_ofNat_Int, Int.reduceEq, Int.reduceLT, Int.reduceLE, ↓iso_1 h0, ↓iso_4 h1, ↓iso_2 hw, ↓iso_2 hw7, hv, hd4, hd0, hna, ↓iso_4 h2]; first | exact ans_fv _ _ | exact ans_t rfl (by simp) _)
      · cases is <;> by_cases hd0 : (0 : Int) < (e : Int) - 5 <;> (simp (maxSteps := 1000000) only [↓UU6, ↓XX, XY, ↓reduceIte, Nat.reduceBEq, Nat.reduceAdd, Int.cast_ofNat_Int, Int.reduceEq, Int.reduceLT, Int.reduceLE, ↓iso_1 h0, ↓iso_4 h1, ↓iso_2 hw, ↓iso_2 hw7, hv, hd4, hd0, hna, ↓iso_4 h2]; first | exact ans_fv _ _ | exact ans_t rfl (by simp) _)
  by_cases o3 : a.op = 3
  · obtain ⟨d, c, hl⟩ := kids2 (nok_kids ha (show ar a.op = some 2 by rw [o3]; decide))
    have hd : NOk g.length d ∧ NOk (g.length + 1) c := by
      obtain ⟨o1, x1, k1⟩ := a
      simp only [Tm.op, Tm.kids] at o3 hl
      subst o3 hl
      have hsc := ha.sc
      rw [Tm.sc] at hsc
      rw [wt2] at aw
      rw [dp2] at ad
      exact ⟨⟨hsc.2.2.1, by omega, by omega⟩, ⟨hsc.2.2.2.1, by omega, by omega⟩⟩
    obtain ⟨hd, hc⟩ := hd
    have hgd : GOk (e - 1) (g ++ [(1, d)]) := gok_more (by rw [show e - 1 + 1 = e by omega]; exact hg) hd.sc (by have := hd.wt; omega) (by have := hd.dp; omega)
    obtain ⟨x, p, ⟨N2, h2⟩, tx⟩ := hG (g ++ [(1, d)]) c (r.pick 0) hgd (by simpa using nok_aok hc)
    have xs : x.sc (g.length + 1) := by simpa using tx.sc
    refine ⟨.mk 4 0 [d, x], p, ⟨N0 + N1 + N2 + 100000, fun n hn => ?_⟩, sc_mk2 (by decide) (by decide) (num0 (by decide) (by decide) (by decide)) hd.sc xs, by have := tx.wt; have := hd.wt; rw [wt2]; omega, by have := tx.dp; have := hd.dp; rw [dp2]; omega⟩
    · obtain ⟨n, rfl⟩ : ∃ k, n = k + 1 := ⟨n - 1, by omega⟩
      have h0 := h0 n (by omega)
      have h1 := h1 n (by omega)
      have h2 := h2 n (by omega)
      rw [← we] at h2
      have hw := within4_ok (n := n) (by omega) r.op (m := 3) (by omega) (by omega)
      have hw7 := within4_ok (n := n) (by omega) r.op (m := 7) (by omega) (by omega)
      have p0 := pick_ok (n := n) (by omega) r 0
      have hm := more_ok (n := n) g 1 d (by omega) (by omega)
      have t4 := t_ok (n := n) (by omega) 4 [d, x]
      rw [c26]
      clear hG hO hA hP hg ha0 ha tv tx hd hc hgd xs hpl
      generalize r.op % 3 = w3 at hw hv
      generalize r.op % 7 = w7 at hw7 hna
      generalize r.pick 0 = r0 at p0 h2
      obtain ⟨o0, x0, k0⟩ := a0
      obtain ⟨o1, x1, k1⟩ := a
      simp only [Tm.op, Tm.kids] at o3 hl
      subst o3 hl
      obtain ⟨o2, x2, k2⟩ := r
      obtain ⟨o3, x3, k3⟩ := v
      obtain ⟨o4, x4, k4⟩ := x
      obtain ⟨o5, x5, k5⟩ := d
      obtain ⟨o6, x6, k6⟩ := c
      obtain ⟨o8, x8, k8⟩ := r0
      simp only [Tm.n, Tm.op] at h1 hw hw7
      simp only [gEnc, enc_mk, List.map_cons, List.map_nil] at h0 h1 h2 p0 hm t4 ⊢
      cases is <;> by_cases hd0 : (0 : Int) < (e : Int) - 5 <;> (simp (maxSteps := 1000000) only [↓UU6, ↓XX, XY, ↓reduceIte, Nat.reduceBEq, Nat.reduceAdd, Int.cast_ofNat_Int, Int.reduceEq, Int.reduceLT, Int.reduceLE, ↓iso_1 h0, ↓iso_4 h1, ↓iso_2 hw, ↓iso_2 hw7, hv, hd4, hd0, hna, ↓ixt0, ↓ixt1, ↓iso_2 p0, ↓iso_3 hm, ↓iso_4 h2, ↓bs2_g, ↓iso_2 t4]; first | exact ans_fv _ _ | exact ans_t rfl (by simp) _)
  by_cases o6 : a.op = 6
  · obtain ⟨d, c, hl⟩ := kids2 (nok_kids ha (show ar a.op = some 2 by rw [o6]; decide))
    have hd : NOk g.length d ∧ NOk (g.length + 1) c := by
      obtain ⟨o1, x1, k1⟩ := a
      simp only [Tm.op, Tm.kids] at o6 hl
      subst o6 hl
      have hsc := ha.sc
      rw [Tm.sc] at hsc
      rw [wt2] at aw
      rw [dp2] at ad
      exact ⟨⟨hsc.2.2.1, by omega, by omega⟩, ⟨hsc.2.2.2.1, by omega, by omega⟩⟩
    obtain ⟨hd, hc⟩ := hd
    obtain ⟨x, p, ⟨N2, h2⟩, tx⟩ := hG g d (r.pick 0) (gok_mono (by omega) hg) (nok_aok hd)
    cases p
    · refine ⟨v, is, ⟨N0 + N1 + N2 + 100, fun n hn => ?_⟩, tok_mono (Nat.zero_le _) tv⟩
      obtain ⟨n, rfl⟩ : ∃ k, n = k + 1 := ⟨n - 1, by omega⟩
      have h0 := h0 n (by omega)
      have h1 := h1 n (by omega)
      have h2 := h2 n (by omega)
      rw [← we] at h2
      have hw := within4_ok (n := n) (by omega) r.op (m := 3) (by omega) (by omega)
      have hw7 := within4_ok (n := n) (by omega) r.op (m := 7) (by omega) (by omega)
      have p0 := pick_ok (n := n) (by omega) r 0
      rw [c26]
      clear hG hO hA hP hg ha0 ha tv tx hd hc hpl
      generalize r.op % 3 = w3 at hw hv
      generalize r.op % 7 = w7 at hw7 hna
      generalize r.pick 0 = r0 at p0 h2
      obtain ⟨o0, x0, k0⟩ := a0
      obtain ⟨o1, x1, k1⟩ := a
      simp only [Tm.op, Tm.kids] at o6 hl
      subst o6 hl
      obtain ⟨o2, x2, k2⟩ := r
      obtain ⟨o3, x3, k3⟩ := v
      obtain ⟨o4, x4, k4⟩ := x
      obtain ⟨o5, x5, k5⟩ := d
      obtain ⟨o6, x6, k6⟩ := c
      obtain ⟨o8, x8, k8⟩ := r0
      simp only [Tm.n, Tm.op] at h1 hw hw7
      simp only [gEnc, enc_mk, List.map_cons, List.map_nil] at h0 h1 h2 p0 ⊢
      cases is <;> by_cases hd0 : (0 : Int) < (e : Int) - 5 <;> (simp (maxSteps := 1000000) only [↓UU6, ↓XX, XY, ↓reduceIte, Nat.reduceBEq, Nat.reduceAdd, Int.cast_ofNat_Int, Int.reduceEq, Int.reduceLT, Int.reduceLE, ↓iso_1 h0, ↓iso_4 h1, ↓iso_2 hw, ↓iso_2 hw7, hv, hd4, hd0, hna, ↓ixt0, ↓ixt1, ↓iso_2 p0, ↓iso_4 h2]; first | exact ans_fv _ _ | exact ans_t rfl (by simp) _)
    · have hss : AOk g.length (c.subst 0 0 x) := by
        have xw := tx.wt
        have xd := tx.dp
        have cw := hc.wt
        have cd := hc.dp
        have h1 := subst_wt c x 0 0
        have h2 := subst_dp c x 0 0
        have h3 : c.wt * x.wt ≤ 3000 * 21000000000 := Nat.mul_le_mul cw (by omega)
        exact ⟨subst_sc c x 0 g.length hc.sc tx.sc (by omega), by omega, by omega⟩
      obtain ⟨y, q, ⟨N3, h3⟩, ty⟩ := hG g (c.subst 0 0 x) (r.pick 1) (gok_mono (by omega) hg) hss
      refine ⟨.mk 7 0 [a, x, y], q, ⟨N0 + N1 + N2 + N3 + 1000000000000, fun n hn => ?_⟩, sc_mk3 (by decide) (by decide) (num0 (by decide) (by decide) (by decide)) ha.sc tx.sc ty.sc, by have := tx.wt; have := ty.wt; rw [wt3]; omega, by have := tx.dp; have := ty.dp; rw [dp3]; omega⟩
      obtain ⟨n, rfl⟩ : ∃ k, n = k + 1 := ⟨n - 1, by omega⟩
      have h0 := h0 n (by omega)
      have h1 := h1 n (by omega)
      have h2 := h2 n (by omega)
      have h3 := h3 n (by omega)
      rw [← we] at h2 h3
      have hw := within4_ok (n := n) (by omega) r.op (m := 3) (by omega) (by omega)
      have hw7 := within4_ok (n := n) (by omega) r.op (m := 7) (by omega) (by omega)
      have p0 := pick_ok (n := n) (by omega) r 0
      have p1 := pick_ok (n := n) (by omega) r 1
      have hsb := Subst_ok (n := n) c x 0 (sc_wk _ _ tx.sc) (by have := tx.wt; omega) (by have := tx.wt; have := hc.wt; omega) (sc_wk _ _ hc.sc) (by have := hc.wt; omega) (by omega) (by have := hc.wt; omega)
      have t7 := t_ok (n := n) (by omega) 7 [a, x, y]
      rw [c26]
      clear hG hO hA hP hg ha0 ha tv tx ty hd hc hpl hss
      generalize r.op % 3 = w3 at hw hv
      generalize r.op % 7 = w7 at hw7 hna
      generalize c.subst 0 0 x = sb at hsb h3
      generalize r.pick 0 = r0 at p0 h2
      generalize r.pick 1 = r1 at p1 h3
      obtain ⟨o0, x0, k0⟩ := a0
      obtain ⟨o1, x1, k1⟩ := a
      simp only [Tm.op, Tm.kids] at o6 hl
      subst o6 hl
      obtain ⟨o2, x2, k2⟩ := r
      obtain ⟨o3, x3, k3⟩ := v
      obtain ⟨o4, x4, k4⟩ := x
      obtain ⟨o5, x5, k5⟩ := d
      obtain ⟨o6, x6, k6⟩ := c
      obtain ⟨o7, x7, k7⟩ := y
      obtain ⟨o8, x8, k8⟩ := r0
      obtain ⟨o9, x9, k9⟩ := r1
      obtain ⟨oa, xa, ka⟩ := sb
      simp only [Tm.n, Tm.op] at h1 hw hw7
      simp only [gEnc, enc_mk, List.map_cons, List.map_nil] at h0 h1 h2 h3 p0 p1 hsb t7 ⊢
      cases is <;> by_cases hd0 : (0 : Int) < (e : Int) - 5 <;> (simp (maxSteps := 1000000) only [↓UU6, ↓XX, XY, ↓reduceIte, Nat.reduceBEq, Nat.reduceAdd, Int.cast_ofNat_Int, Int.reduceEq, Int.reduceLT, Int.reduceLE, ↓iso_1 h0, ↓iso_4 h1, ↓iso_2 hw, ↓iso_2 hw7, hv, hd4, hd0, hna, ↓ixt0, ↓ixt1, ↓iso_2 p0, ↓iso_2 p1, ↓iso_4 h2, ↓iso_3 hsb, ↓iso_4 h3, ↓bs3_g, ↓iso_2 t7]; first | exact ans_fv _ _ | exact ans_t rfl (by simp) _)
  by_cases o18 : a.op = 18
  · obtain ⟨d, hl⟩ := kids1 (nok_kids ha (show ar a.op = some 1 by rw [o18]; decide))
    have hd : NOk g.length d := by
      obtain ⟨o1, x1, k1⟩ := a
      simp only [Tm.op, Tm.kids] at o18 hl
      subst o18 hl
      have hsc := ha.sc
      rw [Tm.sc] at hsc
      rw [wt1] at aw
      rw [dp1] at ad
      exact ⟨hsc.2.2.1, by omega, by omega⟩
    obtain ⟨x, p, ⟨N2, h2⟩, tx⟩ := hO g d (r.pick 0) (gok_mono (by omega) hg) (nok_aok hd)
    refine ⟨.mk 19 0 [x], p, ⟨N0 + N1 + N2 + 100, fun n hn => ?_⟩, sc_mk1 (by decide) (by decide) (num0 (by decide) (by decide) (by decide)) tx.sc, by have := tx.wt; rw [wt1]; omega, by have := tx.dp; rw [dp1]; omega⟩
    · obtain ⟨n, rfl⟩ : ∃ k, n = k + 1 := ⟨n - 1, by omega⟩
      have h0 := h0 n (by omega)
      have h1 := h1 n (by omega)
      have h2 := h2 n (by omega)
      rw [← we] at h2
      have hw := within4_ok (n := n) (by omega) r.op (m := 3) (by omega) (by omega)
      have hw7 := within4_ok (n := n) (by omega) r.op (m := 7) (by omega) (by omega)
      have p0 := pick_ok (n := n) (by omega) r 0
      have t19 := t_ok (n := n) (by omega) 19 [x]
      rw [c26]
      clear hG hO hA hP hg ha0 ha tv tx hd hpl
      generalize r.op % 3 = w3 at hw hv
      generalize r.op % 7 = w7 at hw7 hna
      generalize r.pick 0 = r0 at p0 h2
      obtain ⟨o0, x0, k0⟩ := a0
      obtain ⟨o1, x1, k1⟩ := a
      simp only [Tm.op, Tm.kids] at o18 hl
      subst o18 hl
      obtain ⟨o2, x2, k2⟩ := r
      obtain ⟨o3, x3, k3⟩ := v
      obtain ⟨o4, x4, k4⟩ := x
      obtain ⟨o5, x5, k5⟩ := d
      obtain ⟨o8, x8, k8⟩ := r0
      simp only [Tm.n, Tm.op] at h1 hw hw7
      simp only [gEnc, enc_mk, List.map_cons, List.map_nil] at h0 h1 h2 p0 t19 ⊢
      cases is <;> by_cases hd0 : (0 : Int) < (e : Int) - 5 <;> (simp (maxSteps := 1000000) only [↓UU6, ↓XX, XY, ↓reduceIte, Nat.reduceBEq, Nat.reduceAdd, Int.cast_ofNat_Int, Int.reduceEq, Int.reduceLT, Int.reduceLE, ↓iso_1 h0, ↓iso_4 h1, ↓iso_2 hw, ↓iso_2 hw7, hv, hd4, hd0, hna, ↓ixt0, ↓iso_2 p0, ↓iso_4 h2, ↓bs1_g, ↓iso_2 t19]; first | exact ans_fv _ _ | exact ans_t rfl (by simp) _)
  have q1 : a.op ≠ 10 := fun h => hpl (.inl h)
  have q2 : a.op ≠ 14 := fun h => hpl (.inr (.inl h))
  have q3 : a.op ≠ 2 := fun h => hpl (.inr (.inr h))
  refine ⟨v, is, ⟨N0 + N1 + 100, fun n hn => ?_⟩, tok_mono (Nat.zero_le _) tv⟩
  · obtain ⟨n, rfl⟩ : ∃ k, n = k + 1 := ⟨n - 1, by omega⟩
    have h0 := h0 n (by omega)
    have h1 := h1 n (by omega)
    have hw := within4_ok (n := n) (by omega) r.op (m := 3) (by omega) (by omega)
    have hw7 := within4_ok (n := n) (by omega) r.op (m := 7) (by omega) (by omega)
    rw [c26]
    clear hG hO hA hP hg ha0 ha tv hpl
    generalize r.op % 3 = w3 at hw hv
    generalize r.op % 7 = w7 at hw7 hna
    obtain ⟨o0, x0, k0⟩ := a0
    obtain ⟨o1, x1, k1⟩ := a
    obtain ⟨o2, x2, k2⟩ := r
    obtain ⟨o4, x3, k3⟩ := v
    simp only [Tm.n, Tm.op] at h1 hw hw7 o3 o6 o18 q1 q2 q3
    simp only [gEnc, enc_mk] at h0 h1 ⊢
    cases is <;> by_cases hd0 : (0 : Int) < (e : Int) - 5 <;> (simp (maxSteps := 1000000) only [↓UU6, ↓XX, XY, ↓reduceIte, Nat.reduceBEq, Nat.reduceAdd, Int.cast_ofNat_Int, Int.reduceEq, Int.reduceLT, Int.reduceLE, ↓iso_1 h0, ↓iso_4 h1, ↓iso_2 hw, ↓iso_2 hw7, hv, hd4, hd0, hna, o3, o6, o18, q1, q2, q3]; first | exact ans_fv _ _ | exact ans_t rfl (by simp) _)
theorem grow_all : ∀ e, e ≤ 10 → TypeE e ∧ GrowE 26 e ∧ GrowE 32 e := by
  intro e
  induction e using Nat.strongRecOn with
  | _ e ih =>
    intro he
    have hp : 1 ≤ e → TypeE (e - 1) ∧ GrowE 26 (e - 1) ∧ GrowE 32 (e - 1) := fun h => ih (e - 1) (by omega) (by omega)
    have hp2 : 2 ≤ e → TypeE (e - 2) ∧ GrowE 26 (e - 2) ∧ GrowE 32 (e - 2) := fun h => ih (e - 2) (by omega) (by omega)
    have hT : TypeE e := type_ev he (fun h => (hp (by omega)).1) (fun h => (hp (by omega)).2.1)
    have hT6 : 6 ≤ e → TypeE 6 := fun h => by
      by_cases h6 : e = 6
      · exact h6 ▸ hT
      · exact (ih 6 (by omega) (by omega)).1
    have hR : 6 ≤ e → GrowN 60 e := fun h => redex_ev h he (hT6 h) (hp2 (by omega)).2.1
    have hP : 1 ≤ e → GrowP 61 e := fun h => plain_ev h he (hp h).2.1 (fun h6 => (hp2 (by omega)).2.1)
    have hA : 6 ≤ e → GrowN 64 e := fun h => around_ev h he (hp2 (by omega)).2.2 (hp (by omega)).2.1
    have hO : GrowE 32 e := object_ev he (fun h => (hp h).2.2) hA
    exact ⟨hT, grow_ev he (fun h => (hp h).2.1) (fun h => (hp h).2.2) hR hP, hO⟩
def kidsN (op : Int) : Int := if op < 0 then -1 else ([-1, 0, 0, 2, 2, 2, 2, 3, 1, 1, 0, 0, 1, 4, 0, 0, 2, 2, 1, 1, 2, 2, 2, 1, 1, 0, 2, 3, 2, 2, 1] : List Int).getD op.toNat (-1)
theorem op_cases (op : Int) : (0 ≤ op ∧ op ≤ 30) ∨ op < 0 ∨ 30 < op := by omega
theorem kidsN_out {op : Int} (h : op < 0 ∨ 30 < op) : kidsN op = -1 := by
  unfold kidsN
  split
  · rfl
  · rw [List.getD_eq_getElem?_getD, List.getElem?_eq_none (by simp; omega)]; rfl
theorem op_in {P : Int → Prop} (h : ∀ k : Nat, k < 31 → P k) {op : Int} (h1 : 0 ≤ op ∧ op ≤ 30) : P op := by
  have := h op.toNat (by omega)
  rwa [Int.toNat_of_nonneg h1.1] at this
theorem arity_ok {n : Nat} (hn : 0 < n) (op : Int) : Ans (SS dt n 82 [iv op] ⟨[], []⟩) (.int .i64 (kidsN op)) := by
  obtain ⟨n, rfl⟩ : ∃ k, n = k + 1 := ⟨n - 1, by omega⟩
  rw [c82]
  rcases op_cases op with h | h
  · revert op
    refine fun op h => op_in (P := fun op => Ans (S82 (SS dt n) n (iv op) ⟨[], []⟩) (.int .i64 (kidsN op))) ?_ h
    intro k hk
    rcases k with _ | k
    · simp only [S82_44, S82_45, S82_46, S82_47, S82_48, S82_49, S82_50, S82_51, S82_52, S82_53, S82_54, S82_55, S82_56, S82_57, S82_58, S82_59, S82_60, S82_61, S82, ↓XX, XY, ↓reduceIte, Nat.reduceBEq, Nat.reduceAdd, Int.cast_ofNat_Int, Int.reduceEq, Int.reduceLT, Int.reduceLE]; exact ans_fv _ _
    iterate 30 (rcases k with _ | k; · simp only [S82_44, S82_45, S82_46, S82_47, S82_48, S82_49, S82_50, S82_51, S82_52, S82_53, S82_54, S82_55, S82_56, S82_57, S82_58, S82_59, S82_60, S82_61, S82, ↓XX, XY, ↓reduceIte, Nat.reduceBEq, Nat.reduceAdd, Int.cast_ofNat_Int, Int.reduceEq, Int.reduceLT, Int.reduceLE]; exact ans_fv _ _)
    omega
  · rw [kidsN_out h]
    have q1 : op ≠ 1 := by omega
    have q2 : op ≠ 2 := by omega
    have q3 : op ≠ 3 := by omega
    have q4 : op ≠ 4 := by omega
    have q5 : op ≠ 5 := by omega
    have q6 : op ≠ 6 := by omega
    have q7 : op ≠ 7 := by omega
    have q8 : op ≠ 8 := by omega
    have q9 : op ≠ 9 := by omega
    have q10 : op ≠ 10 := by omega
    have q11 : op ≠ 11 := by omega
    have q12 : op ≠ 12 := by omega
    have q13 : op ≠ 13 := by omega
    have q14 : op ≠ 14 := by omega
    have q15 : op ≠ 15 := by omega
    have q16 : op ≠ 16 := by omega
    have q17 : op ≠ 17 := by omega
    have q18 : op ≠ 18 := by omega
    have q19 : op ≠ 19 := by omega
    have q20 : op ≠ 20 := by omega
    have q21 : op ≠ 21 := by omega
    have q22 : op ≠ 22 := by omega
    have q23 : op ≠ 23 := by omega
    have q24 : op ≠ 24 := by omega
    have q25 : op ≠ 25 := by omega
    have q26 : op ≠ 26 := by omega
    have q27 : op ≠ 27 := by omega
    have q28 : op ≠ 28 := by omega
    have q29 : op ≠ 29 := by omega
    have q30 : op ≠ 30 := by omega
    simp only [S82_44, S82_45, S82_46, S82_47, S82_48, S82_49, S82_50, S82_51, S82_52, S82_53, S82_54, S82_55, S82_56, S82_57, S82_58, S82_59, S82_60, S82_61, S82, ↓XX, XY, ↓reduceIte, Nat.reduceBEq, Nat.reduceAdd, Int.cast_ofNat_Int, Int.reduceEq, Int.reduceLT, Int.reduceLE, q1, q2, q3, q4, q5, q6, q7, q8, q9, q10, q11, q12, q13, q14, q15, q16, q17, q18, q19, q20, q21, q22, q23, q24, q25, q26, q27, q28, q29, q30]
    exact ans_fv _ _
def numb (op n : Int) : Bool := if op = 1 then decide (0 ≤ n) && decide (n ≤ 3000) else if op = 2 then decide (0 ≤ n) && decide (n ≤ 2) else if op = 26 then decide (0 ≤ n) && decide (n ≤ 4) else if op = 25 then true else decide (n = 0)
theorem number_ok {n : Nat} (hn : 0 < n) (op m : Int) : Ans (SS dt n 83 [iv op, iv m] ⟨[], []⟩) (.bool (numb op m)) := by
  obtain ⟨n, rfl⟩ : ∃ k, n = k + 1 := ⟨n - 1, by omega⟩
  rw [c83]
  unfold numb
  by_cases h1 : op = 1
  · by_cases h0 : 0 ≤ m <;> simp only [↓UU17, ↓XX, XY, ↓reduceIte, Nat.reduceBEq, Nat.reduceAdd, Int.cast_ofNat_Int, Int.reduceEq, Int.reduceLT, Int.reduceLE, h0, h1] <;> exact ans_fv _ _
  by_cases h2 : op = 2
  · by_cases h0 : 0 ≤ m <;> simp only [↓UU17, ↓XX, XY, ↓reduceIte, Nat.reduceBEq, Nat.reduceAdd, Int.cast_ofNat_Int, Int.reduceEq, Int.reduceLT, Int.reduceLE, h0, h2] <;> exact ans_fv _ _
  by_cases h3 : op = 26
  · by_cases h0 : 0 ≤ m <;> simp only [↓UU17, ↓XX, XY, ↓reduceIte, Nat.reduceBEq, Nat.reduceAdd, Int.cast_ofNat_Int, Int.reduceEq, Int.reduceLT, Int.reduceLE, h0, h3] <;> exact ans_fv _ _
  by_cases h4 : op = 25
  · simp only [↓UU17, ↓XX, XY, ↓reduceIte, Nat.reduceBEq, Nat.reduceAdd, Int.cast_ofNat_Int, Int.reduceEq, Int.reduceLT, Int.reduceLE, h4]; exact ans_fv _ _
  simp only [↓UU17, ↓XX, XY, ↓reduceIte, Nat.reduceBEq, Nat.reduceAdd, Int.cast_ofNat_Int, Int.reduceEq, Int.reduceLT, Int.reduceLE, h1, h2, h3, h4]; exact ans_fv _ _
mutual
def Tm.chk : Tm → Int → Int → Int × Int
  | .mk op m l, n, d => if 3000 < n + 1 ∨ 120 < d then (n + 1, 5) else if kidsN op ≠ (l.length : Int) ∨ numb op m = false then (n + 1, 1) else Tm.chkL l (n + 1) (d + 1)
def Tm.chkL : List Tm → Int → Int → Int × Int
  | [], n, _ => (n, 0)
  | t :: l, n, d => if (t.chk n d).2 = 0 then Tm.chkL l (t.chk n d).1 d else t.chk n d
end
mutual
theorem chk_b : ∀ (t : Tm) (n d : Int), n ≤ 3000 → n ≤ (t.chk n d).1 ∧ (t.chk n d).1 ≤ 3001 ∧ ((t.chk n d).2 = 0 → (t.chk n d).1 = n + t.wt ∧ (t.chk n d).1 ≤ 3000 ∧ d ≤ 120)
  | .mk op m l, n, d, hn => by
    rw [Tm.chk]
    split
    · simp; omega
    · split
      · simp; omega
      · have := chkL_b l (n + 1) (d + 1) (by omega)
        simp only [Tm.wt]
        omega
theorem chkL_b : ∀ (l : List Tm) (n d : Int), n ≤ 3000 → n ≤ (Tm.chkL l n d).1 ∧ (Tm.chkL l n d).1 ≤ 3001 ∧ ((Tm.chkL l n d).2 = 0 → (Tm.chkL l n d).1 = n + Tm.wtL l ∧ (Tm.chkL l n d).1 ≤ 3000)
  | [], n, d, hn => by simp [Tm.chkL, Tm.wtL]; omega
  | t :: l, n, d, hn => by
    have h1 := chk_b t n d hn
    rw [Tm.chkL]
    split
    · rename_i h0
      have h2 := chkL_b l (t.chk n d).1 d (by omega)
      simp only [Tm.wtL]
      omega
    · rename_i h0
      simp only [Tm.wtL]
      omega
end
noncomputable abbrev HW (op m : Int) (ks : List Tm) (N E : Int) : Hp := ⟨[(56623104, .row [iv op, iv m, .fv (.sl (ks.map Tm.enc))] false)], [.row [iv N, iv E] false]⟩
theorem kidsN_le (op : Int) : kidsN op ≤ 4 := by
  rcases op_cases op with h | h
  · exact op_in (P := fun op => kidsN op ≤ 4) (by intro k hk; have : ∀ k : Fin 31, kidsN (k.val : Int) ≤ 4 := by decide
                                                  exact this ⟨k, hk⟩) h
  · rw [kidsN_out h]; omega
theorem walk_ok : ∀ (n : Nat) (t : Tm) (N d : Int), 2 * t.wt + 2 < n → 0 ≤ N → N ≤ 3000 → 0 ≤ d → d ≤ 121 →
    AnsX (SS dt n 54 [.ptr (.ext 0) 0, .fv t.enc, iv d] ⟨[], [.row [iv N, iv 0] false]⟩) (.tuple []) [.row [iv (t.chk N d).1, iv (t.chk N d).2] false] := by
  intro n
  induction n using Nat.strongRecOn with
  | ind n ih =>
    intro t N d hn h0 hN hd0 hd
    obtain ⟨op, m, ks⟩ := t
    simp only [Tm.wt] at hn
    obtain ⟨n, rfl⟩ : ∃ k, n = k + 1 := ⟨n - 1, by omega⟩
    rw [c54, enc_mk]
    have hlen := wt_len ks
    have hw : w64 (N + 1) = N + 1 := by rw [w64_id] <;> omega
    have hwd : w64 (d + 1) = d + 1 := by rw [w64_id] <;> omega
    have ha := arity_ok (n := n) (by omega) op
    have hb := number_ok (n := n) (by omega) op m
    have hl : ∀ (N' E' : Int) (r : Int × Int), N' ≤ 3000 ∨ E' ≠ 0 → 0 ≤ N' → (E' = 0 → ks.length ≤ 4 ∧ r = Tm.chkL ks N' (d + 1) ∧ d ≤ 120) → (E' ≠ 0 → r = (N', E')) →
        AnsX (loopS n (fun q20 l21 h22 => S54_160 l21 h22 (SS dt n) q20) [.ptr (.ext 0) 0, iv d, .ptr (.own 56623104) 0, iv 0] (HW op m ks N' E')) (.tuple []) [.row [iv r.1, iv r.2] false] := by
      intro N' E' r hN' hN0 h1 h2
      refine loop_run (Q := fun r' => AnsX r' _ _) (fun k V H => ∃ pre rest N2 E2, ks = pre ++ rest ∧ rest.length = k ∧ V = [.ptr (.ext 0) 0, iv d, .ptr (.own 56623104) 0, iv pre.length] ∧ H = HW op m ks N2 E2 ∧
        0 ≤ N2 ∧ (E2 = 0 → N2 ≤ 3000 ∧ ks.length ≤ 4 ∧ r = Tm.chkL rest N2 (d + 1) ∧ d ≤ 120) ∧ (E2 ≠ 0 → r = (N2, E2))) ?_ n ks.length _ _ (by omega) ⟨[], ks, N', E', rfl, rfl, rfl, rfl, hN0, fun e => ⟨by rcases hN' with h | h; exact h; exact absurd e h, h1 e⟩, h2⟩
      rintro k V H rec ⟨pre, rest, N2, E2, hk, hkl, rfl, rfl, hN2, hok, hbad⟩ hrec
      have hkk : ks.length = pre.length + rest.length := by rw [hk]; simp
      cases rest with
      | nil =>
        have hno : ¬ ((pre.length : Int) < ks.length) := by rw [hkk]; simp
        have : r = (N2, E2) := by
          by_cases he : E2 = 0
          · rw [(hok he).2.2.1, he]; rfl
          · exact hbad he
        rw [this]
        simp only [S54_156, S54_157, S54_158, S54_159, S54_160, S54_161, S54_162, S54_163, S54_164, S54_165, S54_166, S54_167, S54_168, S54_169, S54_170, S54, ↓XX, XY, ↓reduceIte, Nat.reduceBEq, Nat.reduceAdd, Int.cast_ofNat_Int, Int.reduceEq, Int.reduceLT, Int.reduceLE, hno]
        exact ansx_p rfl _ _
      | cons t rest =>
        have hi : (pre.length : Int) < ks.length := by rw [hkk]; simp; omega
        by_cases he : E2 = 0
        · subst he
          obtain ⟨hb1, hb2, hr, hd2⟩ := hok rfl
          have hg := at_pre hk
          have htw := wt_mem (t := t) (l := ks) (by rw [hk]; simp)
          have hc := ih n (by omega) t N2 (d + 1) (by omega) hN2 hb1 (by omega) (by omega)
          have hcb := chk_b t N2 (d + 1) hb1
          have hwi : w64 ((pre.length : Int) + 1) = ((pre ++ [t]).length : Int) := (w64_id (by omega) (by omega)).trans (by simp)
          rw [Tm.chkL] at hr
          have h9 := hrec rest.length [.ptr (.ext 0) 0, iv d, .ptr (.own 56623104) 0, iv (pre ++ [t]).length] (HW op m ks (t.chk N2 (d + 1)).1 (t.chk N2 (d + 1)).2) (by simp only [List.length_cons] at hkl; omega)
            ⟨pre ++ [t], rest, _, _, by rw [hk]; simp, rfl, rfl, rfl, by omega, fun e => ⟨(hcb.2.2 e).2.1, hb2, by rw [hr, if_pos e], hd2⟩, fun e => by rw [hr, if_neg e]⟩
          generalize t.chk N2 (d + 1) = q at hc h9
          obtain ⟨o, p, l⟩ := t
          rw [enc_mk] at hc
          simp only [S54_156, S54_157, S54_158, S54_159, S54_160, S54_161, S54_162, S54_163, S54_164, S54_165, S54_166, S54_167, S54_168, S54_169, S54_170, S54, ↓XX, XY, ↓reduceIte, Nat.reduceBEq, Nat.reduceAdd, Int.cast_ofNat_Int, Int.reduceEq, Int.reduceLT, Int.reduceLE, hi, ↓ix_f (map_get hg) (agg3l _ _ _), ↓agg3, hwd, ↓iso_m3 hc (onex2 _ _ _ _), hwi]
          exact h9
        · rw [hbad he]
          simp only [S54_156, S54_157, S54_158, S54_159, S54_160, S54_161, S54_162, S54_163, S54_164, S54_165, S54_166, S54_167, S54_168, S54_169, S54_170, S54, ↓XX, XY, ↓reduceIte, Nat.reduceBEq, Nat.reduceAdd, Int.cast_ofNat_Int, Int.reduceEq, Int.reduceLT, Int.reduceLE, hi, he]
          exact ansx_p rfl _ _
    rw [Tm.chk]
    by_cases c1 : 3000 < N + 1
    · have hx := hl (N + 1) 5 (N + 1, 5) (.inr (by decide)) (by omega) (fun e => absurd e (by decide)) (fun _ => rfl)
      rw [if_pos (.inl c1)]
      simp only [↓UU16, ↓XX, XY, ↓reduceIte, Nat.reduceBEq, Nat.reduceAdd, Int.cast_ofNat_Int, Int.reduceEq, Int.reduceLT, Int.reduceLE, hw, c1]
      exact hx
    · by_cases c2 : 120 < d
      · have hx := hl (N + 1) 5 (N + 1, 5) (.inr (by decide)) (by omega) (fun e => absurd e (by decide)) (fun _ => rfl)
        rw [if_pos (.inr c2)]
        simp only [↓UU16, ↓XX, XY, ↓reduceIte, Nat.reduceBEq, Nat.reduceAdd, Int.cast_ofNat_Int, Int.reduceEq, Int.reduceLT, Int.reduceLE, hw, c1, c2]
        exact hx
      · rw [if_neg (by omega)]
        by_cases c3 : kidsN op = (ks.length : Int)
        · have hx1 := hl (N + 1) 1 (N + 1, 1) (.inr (by decide)) (by omega) (fun e => absurd e (by decide)) (fun _ => rfl)
          have hk4 := kidsN_le op
          have hx0 := hl (N + 1) 0 (Tm.chkL ks (N + 1) (d + 1)) (.inl (by omega)) (by omega) (fun _ => ⟨by omega, rfl, by omega⟩) (fun e => absurd rfl e)
          cases hnb : numb op m
          · rw [hnb] at hb
            rw [if_pos (.inr rfl)]
            simp only [↓UU16, ↓XX, XY, ↓reduceIte, Nat.reduceBEq, Nat.reduceAdd, Int.cast_ofNat_Int, Int.reduceEq, Int.reduceLT, Int.reduceLE, hw, c1, c2, ↓iso_1 ha, c3, ↓iso_2 hb]
            exact hx1
          · rw [hnb] at hb
            rw [if_neg (by simp [c3])]
            simp only [↓UU16, ↓XX, XY, ↓reduceIte, Nat.reduceBEq, Nat.reduceAdd, Int.cast_ofNat_Int, Int.reduceEq, Int.reduceLT, Int.reduceLE, hw, c1, c2, ↓iso_1 ha, c3, ↓iso_2 hb]
            exact hx0
        · have hx1 := hl (N + 1) 1 (N + 1, 1) (.inr (by decide)) (by omega) (fun e => absurd e (by decide)) (fun _ => rfl)
          rw [if_pos (.inl c3)]
          simp only [↓UU16, ↓XX, XY, ↓reduceIte, Nat.reduceBEq, Nat.reduceAdd, Int.cast_ofNat_Int, Int.reduceEq, Int.reduceLT, Int.reduceLE, hw, c1, c2, ↓iso_1 ha, c3]
          exact hx1
theorem check_ok {n : Nat} (t : Tm) (hn : 2 * t.wt + 3 < n) : Ans (SS dt n 22 [.fv t.enc] ⟨[], []⟩) (.int .i64 (t.chk 0 1).2) := by
  obtain ⟨n, rfl⟩ : ∃ k, n = k + 1 := ⟨n - 1, by omega⟩
  rw [c22]
  have h := walk_ok n t 0 1 (by omega) (by omega) (by omega) (by omega) (by omega)
  generalize t.chk 0 1 = q at h
  obtain ⟨op, m, ks⟩ := t
  rw [enc_mk] at h ⊢
  have c2 := fun k => iso_o3b (k := k) h (x := .fv (.agg [.int .i64 op, .int .i64 m, .sl (ks.map Tm.enc)])) (y := iv 1) (s := 23069697) rfl rfl
    (own := [(23068672, .row [iv op, iv m, .fv (.sl (ks.map Tm.enc))] false), (23069697, .row [iv 0, iv 0] false)])
    (own' := [(23068672, .row [iv op, iv m, .fv (.sl (ks.map Tm.enc))] false), (23069697, .row [iv q.1, iv q.2] false)]) (by simp [lookupOwn]) (by simp [putOwn])
  simp only [S22_21, S22, ↓XX, XY, ↓reduceIte, Nat.reduceBEq, Nat.reduceAdd, Int.cast_ofNat_Int, Int.reduceEq, Int.reduceLT, Int.reduceLE, ↓c2]
  exact ans_fv _ _
end Idl
end Go.Proofs.Ytbkdidonegggdaa

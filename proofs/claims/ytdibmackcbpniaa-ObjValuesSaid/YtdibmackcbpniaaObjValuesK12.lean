/-
  Texts of a proof, part 12: an ideal semantics of the program, its functions in shallow form, contracts of them. No statement of the seat is proved here.
-/
import Derived.Test.YtdibmackcbpniaaObjValuesK11
set_option linter.all false
namespace Go.Proofs.Ytdibmackcbpniaa
namespace Idl
mutual
def Tm.fewV : Tm → Int → Bool
  | .mk _ _ l, d => if 8 < d then false else if 4 < (l.length : Int) then false else Tm.fewVL l d
def Tm.fewVL : List Tm → Int → Bool
  | [], _ => true
  | t :: l, d => t.fewV (d + 1) && Tm.fewVL l d
end
theorem fewV_ok : ∀ (n : Nat) (t : Tm) (d : Int), t.wt + 1 < n → 0 ≤ d → d ≤ 9 → Ans (SS dt n 35 [.fv t.enc, iv d] ⟨[], []⟩) (.bool (t.fewV d)) := by
  intro n
  induction n with
  | zero => intro t d h; omega
  | succ n ih =>
    intro t d hn h0 hd
    obtain ⟨op, m, ks⟩ := t
    simp only [Tm.wt] at hn
    rw [c35, enc_mk, Tm.fewV]
    have hlen := wt_len ks
    by_cases h1 : 8 < d
    · rw [if_pos h1]
      simp only [S35_61, S35_62, S35_63, S35_64, S35_65, S35, ↓XX, ↓reduceIte, Nat.reduceBEq, decide_true, decide_false, Bool.not_true, Bool.not_false, List.map_cons, List.map_nil, List.length_map, List.length_cons, List.length_nil, Nat.reduceAdd, Int.cast_ofNat_Int, Int.natCast_zero, Int.natCast_one, Bool.false_eq_true, Bool.true_eq_false, decide_eq_true_eq, eq_self, Int.reduceEq, Int.reduceLT, Int.reduceLE, Bool.and_true, Bool.true_and, Bool.and_false, Bool.false_and, Nat.zero_add, h1]; exact ans_fv _ _
    rw [if_neg h1]
    by_cases h2 : 4 < (ks.length : Int)
    · rw [if_pos h2]
      simp only [S35_61, S35_62, S35_63, S35_64, S35_65, S35, ↓XX, ↓reduceIte, Nat.reduceBEq, decide_true, decide_false, Bool.not_true, Bool.not_false, List.map_cons, List.map_nil, List.length_map, List.length_cons, List.length_nil, Nat.reduceAdd, Int.cast_ofNat_Int, Int.natCast_zero, Int.natCast_one, Bool.false_eq_true, Bool.true_eq_false, decide_eq_true_eq, eq_self, Int.reduceEq, Int.reduceLT, Int.reduceLE, Bool.and_true, Bool.true_and, Bool.and_false, Bool.false_and, Nat.zero_add, h1, h2]; exact ans_fv _ _
    rw [if_neg h2]
    simp only [S35_61, S35_62, S35_63, S35_65, S35, ↓XX, ↓reduceIte, Nat.reduceBEq, decide_true, decide_false, Bool.not_true, Bool.not_false, List.map_cons, List.map_nil, List.length_map, List.length_cons, List.length_nil, Nat.reduceAdd, Int.cast_ofNat_Int, Int.natCast_zero, Int.natCast_one, Bool.false_eq_true, Bool.true_eq_false, decide_eq_true_eq, eq_self, Int.reduceEq, Int.reduceLT, Int.reduceLE, Bool.and_true, Bool.true_and, Bool.and_false, Bool.false_and, Nat.zero_add, h1, h2]
    have hwd : w64 (d + 1) = d + 1 := by rw [w64_id] <;> omega
    refine loop_run (Q := fun r => Ans r _) (fun k V H => ∃ pre rest, ks = pre ++ rest ∧ rest.length = k ∧ V = [iv d, .ptr (.own 36700160) 0, iv pre.length] ∧ H = ⟨[(36700160, .row [iv op, iv m, .fv (.sl (ks.map Tm.enc))] false)], []⟩ ∧ Tm.fewVL rest d = Tm.fewVL ks d)
      ?_ n ks.length _ _ (by omega) ⟨[], ks, rfl, rfl, rfl, rfl, rfl⟩
    rintro k V H rec ⟨pre, rest, hk, hkl, rfl, rfl, hr⟩ hrec
    have hkk : ks.length = pre.length + rest.length := by rw [hk]; simp
    cases rest with
    | nil =>
      have hno : ¬ ((pre.length : Int) < ks.length) := by rw [hkk]; simp
      rw [← hr]
      simp only [S35_61, S35_62, S35_63, S35_64, S35_65, S35, ↓XX, ↓reduceIte, Nat.reduceBEq, decide_true, decide_false, Bool.not_true, Bool.not_false, List.map_cons, List.map_nil, List.length_map, List.length_cons, List.length_nil, Nat.reduceAdd, Int.cast_ofNat_Int, Int.natCast_zero, Int.natCast_one, Bool.false_eq_true, Bool.true_eq_false, decide_eq_true_eq, eq_self, Int.reduceEq, Int.reduceLT, Int.reduceLE, Bool.and_true, Bool.true_and, Bool.and_false, Bool.false_and, Nat.zero_add, hno, Tm.fewVL]; exact ans_fv _ _
    | cons t rest =>
      have hi : (pre.length : Int) < ks.length := by rw [hkk]; simp; omega
      have hg := at_pre hk
      have htw := wt_mem (t := t) (l := ks) (by rw [hk]; simp)
      have hc := ih t (d + 1) (by omega) (by omega) (by omega)
      have hwi : w64 ((pre.length : Int) + 1) = ((pre ++ [t]).length : Int) := (w64_id (by omega) (by omega)).trans (by simp)
      have h9 := fun e => hrec rest.length [iv d, .ptr (.own 36700160) 0, iv (pre ++ [t]).length] _ (by simp only [List.length_cons] at hkl; omega) ⟨pre ++ [t], rest, by rw [hk]; simp, rfl, rfl, rfl, e⟩
      rw [Tm.fewVL] at hr
      generalize t.fewV (d + 1) = b at hc hr
      cases b
      · rw [Bool.false_and] at hr
        rw [← hr]
        obtain ⟨o, p, l⟩ := t
        rw [enc_mk] at hc
        simp only [S35_61, S35_62, S35_63, S35_64, S35_65, S35, ↓XX, ↓reduceIte, Nat.reduceBEq, decide_true, decide_false, Bool.not_true, Bool.not_false, List.map_cons, List.map_nil, List.length_map, List.length_cons, List.length_nil, Nat.reduceAdd, Int.cast_ofNat_Int, Int.natCast_zero, Int.natCast_one, Bool.false_eq_true, Bool.true_eq_false, decide_eq_true_eq, eq_self, Int.reduceEq, Int.reduceLT, Int.reduceLE, Bool.and_true, Bool.true_and, Bool.and_false, Bool.false_and, Nat.zero_add, hi, ↓ix_f (map_get hg) (agg3l _ _ _), ↓agg3, hwd, ↓iso_2 hc]; exact ans_fv _ _
      · rw [Bool.true_and] at hr
        have h9 := h9 hr
        obtain ⟨o, p, l⟩ := t
        rw [enc_mk] at hc
        simp only [S35_61, S35_62, S35_63, S35_64, S35_65, S35, ↓XX, ↓reduceIte, Nat.reduceBEq, decide_true, decide_false, Bool.not_true, Bool.not_false, List.map_cons, List.map_nil, List.length_map, List.length_cons, List.length_nil, Nat.reduceAdd, Int.cast_ofNat_Int, Int.natCast_zero, Int.natCast_one, Bool.false_eq_true, Bool.true_eq_false, decide_eq_true_eq, eq_self, Int.reduceEq, Int.reduceLT, Int.reduceLE, Bool.and_true, Bool.true_and, Bool.and_false, Bool.false_and, Nat.zero_add, hi, ↓ix_f (map_get hg) (agg3l _ _ _), ↓agg3, hwd, ↓iso_2 hc, hwi]
        exact h9
theorem rfits_ok : ∀ (n : Nat) (v a : Tm), v.wt < n → a.typed = true → Ans (SS dt n 36 [.fv v.enc, .fv a.enc] ⟨[], []⟩) (.bool (v.fits a)) := by
  intro n
  induction n with
  | zero => intro v a h; omega
  | succ n ih =>
    intro v a h ht
    rw [c36]
    obtain ⟨k, m, l⟩ := v
    simp only [Tm.wt] at h
    by_cases h1 : k = 1
    · subst h1
      have e : (Tm.mk 1 m l).fits a = (decide (a.op = 15) && decide ((l.length : Int) = 0)) := by
        match l with
        | [] => simp [Tm.fits]
        | [_] => rw [fits1]; simp
        | [_, _] => simp [Tm.fits]
        | x :: y :: z :: l => rw [fits3]; have : ¬ ((l.length : Int) + 1 + 1 + 1 = 0) := by omega
                              simp [this]
      rw [e]
      obtain ⟨op, p, ks⟩ := a
      simp only [enc_mk, Tm.op]
      by_cases h2 : op = 15
      · simp only [S36_263, S36_264, S36_265, S36_266, S36_267, S36_268, S36_269, S36_270, S36_271, S36_272, S36_273, S36_274, S36_275, S36_276, S36, ↓XX, ↓reduceIte, Nat.reduceBEq, decide_true, decide_false, Bool.not_true, Bool.not_false, List.map_cons, List.map_nil, List.length_map, List.length_cons, List.length_nil, Nat.reduceAdd, Int.cast_ofNat_Int, Int.natCast_zero, Int.natCast_one, Bool.false_eq_true, Bool.true_eq_false, decide_eq_true_eq, eq_self, Int.reduceEq, Int.reduceLT, Int.reduceLE, Bool.and_true, Bool.true_and, Bool.and_false, Bool.false_and, Nat.zero_add, h2]; exact ans_fv _ _
      · simp only [S36_263, S36_264, S36_265, S36_266, S36_267, S36_268, S36_269, S36_270, S36_271, S36_272, S36_273, S36_274, S36_275, S36_276, S36, ↓XX, ↓reduceIte, Nat.reduceBEq, decide_true, decide_false, Bool.not_true, Bool.not_false, List.map_cons, List.map_nil, List.length_map, List.length_cons, List.length_nil, Nat.reduceAdd, Int.cast_ofNat_Int, Int.natCast_zero, Int.natCast_one, Bool.false_eq_true, Bool.true_eq_false, decide_eq_true_eq, eq_self, Int.reduceEq, Int.reduceLT, Int.reduceLE, Bool.and_true, Bool.true_and, Bool.and_false, Bool.false_and, Nat.zero_add, h2]; exact ans_fv _ _
    by_cases h3 : k = 3
    · subst h3
      have e : (Tm.mk 3 m l).fits a = (decide (a.op = 16) && (decide (m = 0) && decide ((l.length : Int) = 0))) := by
        match l with
        | [] => simp [Tm.fits]
        | [_] => rw [fits1]; simp
        | [_, _] => simp [Tm.fits]
        | x :: y :: z :: l => rw [fits3]; have : ¬ ((l.length : Int) + 1 + 1 + 1 = 0) := by omega
                              simp [this]
      rw [e]
      obtain ⟨op, p, ks⟩ := a
      simp only [enc_mk, Tm.op]
      by_cases h2 : op = 16
      · by_cases h4 : m = 0
        · simp only [S36_263, S36_264, S36_265, S36_266, S36_267, S36_268, S36_269, S36_270, S36_271, S36_272, S36_273, S36_274, S36_275, S36_276, S36, ↓XX, ↓reduceIte, Nat.reduceBEq, decide_true, decide_false, Bool.not_true, Bool.not_false, List.map_cons, List.map_nil, List.length_map, List.length_cons, List.length_nil, Nat.reduceAdd, Int.cast_ofNat_Int, Int.natCast_zero, Int.natCast_one, Bool.false_eq_true, Bool.true_eq_false, decide_eq_true_eq, eq_self, Int.reduceEq, Int.reduceLT, Int.reduceLE, Bool.and_true, Bool.true_and, Bool.and_false, Bool.false_and, Nat.zero_add, h2, h4]; exact ans_fv _ _
        · simp only [S36_263, S36_264, S36_265, S36_266, S36_267, S36_268, S36_269, S36_270, S36_271, S36_272, S36_273, S36_274, S36_275, S36_276, S36, ↓XX, ↓reduceIte, Nat.reduceBEq, decide_true, decide_false, Bool.not_true, Bool.not_false, List.map_cons, List.map_nil, List.length_map, List.length_cons, List.length_nil, Nat.reduceAdd, Int.cast_ofNat_Int, Int.natCast_zero, Int.natCast_one, Bool.false_eq_true, Bool.true_eq_false, decide_eq_true_eq, eq_self, Int.reduceEq, Int.reduceLT, Int.reduceLE, Bool.and_true, Bool.true_and, Bool.and_false, Bool.false_and, Nat.zero_add, h2, h4]; exact ans_fv _ _
      · simp only [S36_263, S36_264, S36_265, S36_266, S36_267, S36_268, S36_269, S36_270, S36_271, S36_272, S36_273, S36_274, S36_275, S36_276, S36, ↓XX, ↓reduceIte, Nat.reduceBEq, decide_true, decide_false, Bool.not_true, Bool.not_false, List.map_cons, List.map_nil, List.length_map, List.length_cons, List.length_nil, Nat.reduceAdd, Int.cast_ofNat_Int, Int.natCast_zero, Int.natCast_one, Bool.false_eq_true, Bool.true_eq_false, decide_eq_true_eq, eq_self, Int.reduceEq, Int.reduceLT, Int.reduceLE, Bool.and_true, Bool.true_and, Bool.and_false, Bool.false_and, Nat.zero_add, h2]; exact ans_fv _ _
    by_cases h2 : k = 2
    · subst h2
      by_cases h5 : a.op = 17
      · by_cases h4 : m = 0
        · subst h4
          rcases typed_op ht with ⟨h6, _⟩ | ⟨_, q, r, hq, tq, tr⟩
          · omega
          · obtain ⟨op, p, ks⟩ := a
            simp only [Tm.op, Tm.kids] at h5 hq
            subst h5 hq
            match l with
            | [] => simp only [enc_mk, Tm.fits]; simp only [S36_263, S36_264, S36_265, S36_266, S36_267, S36_268, S36_269, S36_270, S36_271, S36_272, S36_273, S36_274, S36_275, S36_276, S36, ↓XX, ↓reduceIte, Nat.reduceBEq, decide_true, decide_false, Bool.not_true, Bool.not_false, List.map_cons, List.map_nil, List.length_map, List.length_cons, List.length_nil, Nat.reduceAdd, Int.cast_ofNat_Int, Int.natCast_zero, Int.natCast_one, Bool.false_eq_true, Bool.true_eq_false, decide_eq_true_eq, eq_self, Int.reduceEq, Int.reduceLT, Int.reduceLE, Bool.and_true, Bool.true_and, Bool.and_false, Bool.false_and, Nat.zero_add]; exact ans_fv _ _
            | [_] => simp only [enc_mk, fits1]; simp only [S36_263, S36_264, S36_265, S36_266, S36_267, S36_268, S36_269, S36_270, S36_271, S36_272, S36_273, S36_274, S36_275, S36_276, S36, ↓XX, ↓reduceIte, Nat.reduceBEq, decide_true, decide_false, Bool.not_true, Bool.not_false, List.map_cons, List.map_nil, List.length_map, List.length_cons, List.length_nil, Nat.reduceAdd, Int.cast_ofNat_Int, Int.natCast_zero, Int.natCast_one, Bool.false_eq_true, Bool.true_eq_false, decide_eq_true_eq, eq_self, Int.reduceEq, Int.reduceLT, Int.reduceLE, Bool.and_true, Bool.true_and, Bool.and_false, Bool.false_and, Nat.zero_add]; exact ans_fv _ _
            | x :: y :: z :: l =>
              have : ¬ ((l.length : Int) + 1 + 1 + 1 = 2) := by omega
              simp only [enc_mk, fits3]; simp only [S36_263, S36_264, S36_265, S36_266, S36_267, S36_268, S36_269, S36_270, S36_271, S36_272, S36_273, S36_274, S36_275, S36_276, S36, ↓XX, ↓reduceIte, Nat.reduceBEq, decide_true, decide_false, Bool.not_true, Bool.not_false, List.map_cons, List.map_nil, List.length_map, List.length_cons, List.length_nil, Nat.reduceAdd, Int.cast_ofNat_Int, Int.natCast_zero, Int.natCast_one, Bool.false_eq_true, Bool.true_eq_false, decide_eq_true_eq, eq_self, Int.reduceEq, Int.reduceLT, Int.reduceLE, Bool.and_true, Bool.true_and, Bool.and_false, Bool.false_and, Nat.zero_add, Int.natCast_add, this]; exact ans_fv _ _
            | [x, y] =>
              simp only [Tm.wtL] at h
              have ha := ih x q (by omega) tq
              have hb := ih y r (by omega) tr
              have e : (Tm.mk 2 0 [x, y]).fits (.mk 17 p [q, r]) = (x.fits q && y.fits r) := by simp [Tm.fits, Tm.op, Tm.kids]
              rw [e]
              generalize x.fits q = u at ha ⊢
              generalize y.fits r = w at hb ⊢
              obtain ⟨o1, n1, k1⟩ := x
              obtain ⟨o2, n2, k2⟩ := y
              obtain ⟨o3, n3, k3⟩ := q
              obtain ⟨o4, n4, k4⟩ := r
              simp only [List.map_cons, List.map_nil, enc_mk] at ha hb ⊢
              cases u
              · simp only [S36_263, S36_264, S36_265, S36_266, S36_267, S36_268, S36_269, S36_270, S36_271, S36_272, S36_273, S36_274, S36_275, S36_276, S36, ↓XX, ↓reduceIte, Nat.reduceBEq, decide_true, decide_false, Bool.not_true, Bool.not_false, List.map_cons, List.map_nil, List.length_map, List.length_cons, List.length_nil, Nat.reduceAdd, Int.cast_ofNat_Int, Int.natCast_zero, Int.natCast_one, Bool.false_eq_true, Bool.true_eq_false, decide_eq_true_eq, eq_self, Int.reduceEq, Int.reduceLT, Int.reduceLE, Bool.and_true, Bool.true_and, Bool.and_false, Bool.false_and, Nat.zero_add, ↓ixt0, ↓iso_2 ha]; exact ans_fv _ _
              · simp only [S36_263, S36_264, S36_265, S36_266, S36_267, S36_268, S36_269, S36_270, S36_271, S36_272, S36_273, S36_274, S36_275, S36_276, S36, ↓XX, ↓reduceIte, Nat.reduceBEq, decide_true, decide_false, Bool.not_true, Bool.not_false, List.map_cons, List.map_nil, List.length_map, List.length_cons, List.length_nil, Nat.reduceAdd, Int.cast_ofNat_Int, Int.natCast_zero, Int.natCast_one, Bool.false_eq_true, Bool.true_eq_false, decide_eq_true_eq, eq_self, Int.reduceEq, Int.reduceLT, Int.reduceLE, Bool.and_true, Bool.true_and, Bool.and_false, Bool.false_and, Nat.zero_add, ↓ixt0, ↓ixt1, ↓iso_2 ha, ↓iso_2 hb]; exact ans_fv _ _
        · have e : (Tm.mk 2 m l).fits a = false := by
            match l with
            | [] => simp [Tm.fits]
            | [_] => exact fits1 ..
            | [_, _] => simp [Tm.fits, h4]
            | x :: y :: z :: l => exact fits3 ..
          rw [e]
          obtain ⟨op, p, ks⟩ := a
          simp only [Tm.op] at h5
          simp only [enc_mk]
          simp only [S36_263, S36_264, S36_265, S36_266, S36_267, S36_268, S36_269, S36_270, S36_271, S36_272, S36_273, S36_274, S36_275, S36_276, S36, ↓XX, ↓reduceIte, Nat.reduceBEq, decide_true, decide_false, Bool.not_true, Bool.not_false, List.map_cons, List.map_nil, List.length_map, List.length_cons, List.length_nil, Nat.reduceAdd, Int.cast_ofNat_Int, Int.natCast_zero, Int.natCast_one, Bool.false_eq_true, Bool.true_eq_false, decide_eq_true_eq, eq_self, Int.reduceEq, Int.reduceLT, Int.reduceLE, Bool.and_true, Bool.true_and, Bool.and_false, Bool.false_and, Nat.zero_add, h4, h5]; exact ans_fv _ _
      · have e : (Tm.mk 2 m l).fits a = false := by
          match l with
          | [] => simp [Tm.fits]
          | [_] => exact fits1 ..
          | [_, _] => simp [Tm.fits, h5]
          | x :: y :: z :: l => exact fits3 ..
        rw [e]
        obtain ⟨op, p, ks⟩ := a
        simp only [Tm.op] at h5
        simp only [enc_mk]
        simp only [S36_263, S36_264, S36_265, S36_266, S36_267, S36_268, S36_269, S36_270, S36_271, S36_272, S36_273, S36_274, S36_275, S36_276, S36, ↓XX, ↓reduceIte, Nat.reduceBEq, decide_true, decide_false, Bool.not_true, Bool.not_false, List.map_cons, List.map_nil, List.length_map, List.length_cons, List.length_nil, Nat.reduceAdd, Int.cast_ofNat_Int, Int.natCast_zero, Int.natCast_one, Bool.false_eq_true, Bool.true_eq_false, decide_eq_true_eq, eq_self, Int.reduceEq, Int.reduceLT, Int.reduceLE, Bool.and_true, Bool.true_and, Bool.and_false, Bool.false_and, Nat.zero_add, h5]; exact ans_fv _ _
    · have e : (Tm.mk k m l).fits a = false := by
        match l with
        | [] => simp [Tm.fits, h1, h3]
        | [_] => exact fits1 ..
        | [_, _] => simp [Tm.fits, h2]
        | x :: y :: z :: l => exact fits3 ..
      rw [e]
      obtain ⟨op, p, ks⟩ := a
      simp only [enc_mk]
      simp only [S36_263, S36_264, S36_265, S36_266, S36_267, S36_268, S36_269, S36_270, S36_271, S36_272, S36_273, S36_274, S36_275, S36_276, S36, ↓XX, ↓reduceIte, Nat.reduceBEq, decide_true, decide_false, Bool.not_true, Bool.not_false, List.map_cons, List.map_nil, List.length_map, List.length_cons, List.length_nil, Nat.reduceAdd, Int.cast_ofNat_Int, Int.natCast_zero, Int.natCast_one, Bool.false_eq_true, Bool.true_eq_false, decide_eq_true_eq, eq_self, Int.reduceEq, Int.reduceLT, Int.reduceLE, Bool.and_true, Bool.true_and, Bool.and_false, Bool.false_and, Nat.zero_add, h1, h2, h3]; exact ans_fv _ _
def Tm.quo : Tm → Tm × Bool
  | .mk k n l => if k = 1 then (.mk 25 n [], true) else if k = 2 then (match l with
    | [a, b] => if a.quo.2 = true then (if b.quo.2 = true then (.mk 22 0 [a.quo.1, b.quo.1], true) else (.z, false)) else (.z, false)
    | _ => (.z, false)) else (.z, false)
theorem pquo_ok : ∀ (n : Nat) (v : Tm), v.wt + 3 < n → Ans (SS dt n 37 [.fv v.enc] ⟨[], []⟩) (.tuple [v.quo.1.enc, .bool v.quo.2]) := by
  intro n
  induction n with
  | zero => intro v h; omega
  | succ n ih =>
    intro v h
    rw [c37]
    obtain ⟨k, m, l⟩ := v
    simp only [Tm.wt] at h
    have hint := True.intro
    by_cases h1 : k = 1
    · subst h1
      have e : (Tm.mk 1 m l).quo = (.mk 25 m [], true) := by rw [Tm.quo.eq_def]; simp
      simp only [e, enc_mk] 
      simp only [S37_129, S37_130, S37_131, S37_132, S37_133, S37_134, S37_135, S37_136, S37_137, S37_138, S37_139, S37, ↓XX, ↓reduceIte, Nat.reduceBEq, decide_true, decide_false, Bool.not_true, Bool.not_false, List.map_cons, List.map_nil, List.length_map, List.length_cons, List.length_nil, Nat.reduceAdd, Int.cast_ofNat_Int, Int.natCast_zero, Int.natCast_one, Bool.false_eq_true, Bool.true_eq_false, decide_eq_true_eq, eq_self, Int.reduceEq, Int.reduceLT, Int.reduceLE, Bool.and_true, Bool.true_and, Bool.and_false, Bool.false_and, Nat.zero_add]; first | exact ans_fv _ _ | exact ans_t rfl (by simp) _
    by_cases h2 : k = 2
    · subst h2
      by_cases hl : (l.length : Int) = 2
      · obtain ⟨a, b, rfl⟩ := len2 hl
        simp only [Tm.wtL] at h
        have ha := ih a (by omega)
        have hb := ih b (by omega)
        have hof := fun x y => of_ok (n := n) (by omega) 22 [x, y]
        have e : (Tm.mk 2 m [a, b]).quo = if a.quo.2 = true then (if b.quo.2 = true then (.mk 22 0 [a.quo.1, b.quo.1], true) else (.z, false)) else (.z, false) := by rw [Tm.quo.eq_def]; simp
        rw [e]
        generalize a.quo = q at ha ⊢
        generalize b.quo = r at hb ⊢
        obtain ⟨u, x⟩ := q
        obtain ⟨w, y⟩ := r
        have hof := hof u w
        simp only at ha hb ⊢
        obtain ⟨o1, n1, k1⟩ := a
        obtain ⟨o2, n2, k2⟩ := b
        obtain ⟨o3, n3, k3⟩ := u
        obtain ⟨o4, n4, k4⟩ := w
        simp only [List.map_cons, List.map_nil, enc_mk] at ha hb hof ⊢
        cases x
        · simp only [S37_129, S37_130, S37_131, S37_132, S37_133, S37_134, S37_135, S37_136, S37_137, S37_138, S37_139, S37, ↓XX, ↓reduceIte, Nat.reduceBEq, decide_true, decide_false, Bool.not_true, Bool.not_false, List.map_cons, List.map_nil, List.length_map, List.length_cons, List.length_nil, Nat.reduceAdd, Int.cast_ofNat_Int, Int.natCast_zero, Int.natCast_one, Bool.false_eq_true, Bool.true_eq_false, decide_eq_true_eq, eq_self, Int.reduceEq, Int.reduceLT, Int.reduceLE, Bool.and_true, Bool.true_and, Bool.and_false, Bool.false_and, Nat.zero_add, ↓ixt0, ↓ixt1, ↓iso_1 ha, ↓iso_1 hb, Tm.z, enc_mk]; first | exact ans_fv _ _ | exact ans_t rfl (by simp) _
        · cases y
          · simp only [S37_129, S37_130, S37_131, S37_132, S37_133, S37_134, S37_135, S37_136, S37_137, S37_138, S37_139, S37, ↓XX, ↓reduceIte, Nat.reduceBEq, decide_true, decide_false, Bool.not_true, Bool.not_false, List.map_cons, List.map_nil, List.length_map, List.length_cons, List.length_nil, Nat.reduceAdd, Int.cast_ofNat_Int, Int.natCast_zero, Int.natCast_one, Bool.false_eq_true, Bool.true_eq_false, decide_eq_true_eq, eq_self, Int.reduceEq, Int.reduceLT, Int.reduceLE, Bool.and_true, Bool.true_and, Bool.and_false, Bool.false_and, Nat.zero_add, ↓ixt0, ↓ixt1, ↓iso_1 ha, ↓iso_1 hb, Tm.z, enc_mk]; first | exact ans_fv _ _ | exact ans_t rfl (by simp) _
          · simp only [S37_129, S37_130, S37_131, S37_132, S37_133, S37_134, S37_135, S37_136, S37_137, S37_138, S37_139, S37, ↓XX, ↓reduceIte, Nat.reduceBEq, decide_true, decide_false, Bool.not_true, Bool.not_false, List.map_cons, List.map_nil, List.length_map, List.length_cons, List.length_nil, Nat.reduceAdd, Int.cast_ofNat_Int, Int.natCast_zero, Int.natCast_one, Bool.false_eq_true, Bool.true_eq_false, decide_eq_true_eq, eq_self, Int.reduceEq, Int.reduceLT, Int.reduceLE, Bool.and_true, Bool.true_and, Bool.and_false, Bool.false_and, Nat.zero_add, ↓ixt0, ↓ixt1, ↓iso_1 ha, ↓iso_1 hb, ↓bs2_g, ↓iso_2 hof, enc_mk, List.map_cons, List.map_nil]; first | exact ans_fv _ _ | exact ans_t rfl (by simp) _
      · have e : (Tm.mk 2 m l).quo = (.z, false) := by
          rw [Tm.quo.eq_def]
          match l, hl with
          | [], _ => simp
          | [_], _ => simp
          | [_, _], hl => simp at hl
          | x :: y :: z :: l, _ => simp
        simp only [e, enc_mk, Tm.z]
        simp only [S37_129, S37_130, S37_131, S37_132, S37_133, S37_134, S37_135, S37_136, S37_137, S37_138, S37_139, S37, ↓XX, ↓reduceIte, Nat.reduceBEq, decide_true, decide_false, Bool.not_true, Bool.not_false, List.map_cons, List.map_nil, List.length_map, List.length_cons, List.length_nil, Nat.reduceAdd, Int.cast_ofNat_Int, Int.natCast_zero, Int.natCast_one, Bool.false_eq_true, Bool.true_eq_false, decide_eq_true_eq, eq_self, Int.reduceEq, Int.reduceLT, Int.reduceLE, Bool.and_true, Bool.true_and, Bool.and_false, Bool.false_and, Nat.zero_add, hl]; first | exact ans_fv _ _ | exact ans_t rfl (by simp) _
    · have e : (Tm.mk k m l).quo = (.z, false) := by rw [Tm.quo.eq_def]; simp [h1, h2]
      simp only [e, enc_mk, Tm.z]
      simp only [S37_129, S37_130, S37_131, S37_132, S37_133, S37_134, S37_135, S37_136, S37_137, S37_138, S37_139, S37, ↓XX, ↓reduceIte, Nat.reduceBEq, decide_true, decide_false, Bool.not_true, Bool.not_false, List.map_cons, List.map_nil, List.length_map, List.length_cons, List.length_nil, Nat.reduceAdd, Int.cast_ofNat_Int, Int.natCast_zero, Int.natCast_one, Bool.false_eq_true, Bool.true_eq_false, decide_eq_true_eq, eq_self, Int.reduceEq, Int.reduceLT, Int.reduceLE, Bool.and_true, Bool.true_and, Bool.and_false, Bool.false_and, Nat.zero_add, h1, h2]; first | exact ans_fv _ _ | exact ans_t rfl (by simp) _
theorem rquo_ok : ∀ (n : Nat) (v : Tm), v.wt + 3 < n → Ans (SS dt n 38 [.fv v.enc] ⟨[], []⟩) (.tuple [v.quo.1.enc, .bool v.quo.2]) := by
  intro n
  induction n with
  | zero => intro v h; omega
  | succ n ih =>
    intro v h
    rw [c38]
    obtain ⟨k, m, l⟩ := v
    simp only [Tm.wt] at h
    have hint := int_ok (n := n) (by omega) m
    by_cases h1 : k = 1
    · subst h1
      have e : (Tm.mk 1 m l).quo = (.mk 25 m [], true) := by rw [Tm.quo.eq_def]; simp
      simp only [e, enc_mk] at hint ⊢
      simp only [S38_132, S38_133, S38_134, S38_135, S38_136, S38_137, S38_138, S38_139, S38_140, S38_141, S38_142, S38, ↓XX, ↓reduceIte, Nat.reduceBEq, decide_true, decide_false, Bool.not_true, Bool.not_false, List.map_cons, List.map_nil, List.length_map, List.length_cons, List.length_nil, Nat.reduceAdd, Int.cast_ofNat_Int, Int.natCast_zero, Int.natCast_one, Bool.false_eq_true, Bool.true_eq_false, decide_eq_true_eq, eq_self, Int.reduceEq, Int.reduceLT, Int.reduceLE, Bool.and_true, Bool.true_and, Bool.and_false, Bool.false_and, Nat.zero_add, ↓iso_1 hint]; first | exact ans_fv _ _ | exact ans_t rfl (by simp) _
    by_cases h2 : k = 2
    · subst h2
      by_cases hl : (l.length : Int) = 2
      · obtain ⟨a, b, rfl⟩ := len2 hl
        simp only [Tm.wtL] at h
        have ha := ih a (by omega)
        have hb := ih b (by omega)
        have hof := fun x y => t_ok (n := n) (by omega) 22 [x, y]
        have e : (Tm.mk 2 m [a, b]).quo = if a.quo.2 = true then (if b.quo.2 = true then (.mk 22 0 [a.quo.1, b.quo.1], true) else (.z, false)) else (.z, false) := by rw [Tm.quo.eq_def]; simp
        rw [e]
        generalize a.quo = q at ha ⊢
        generalize b.quo = r at hb ⊢
        obtain ⟨u, x⟩ := q
        obtain ⟨w, y⟩ := r
        have hof := hof u w
        simp only at ha hb ⊢
        obtain ⟨o1, n1, k1⟩ := a
        obtain ⟨o2, n2, k2⟩ := b
        obtain ⟨o3, n3, k3⟩ := u
        obtain ⟨o4, n4, k4⟩ := w
        simp only [List.map_cons, List.map_nil, enc_mk] at ha hb hof ⊢
        cases x
        · simp only [S38_132, S38_133, S38_134, S38_135, S38_136, S38_137, S38_138, S38_139, S38_140, S38_141, S38_142, S38, ↓XX, ↓reduceIte, Nat.reduceBEq, decide_true, decide_false, Bool.not_true, Bool.not_false, List.map_cons, List.map_nil, List.length_map, List.length_cons, List.length_nil, Nat.reduceAdd, Int.cast_ofNat_Int, Int.natCast_zero, Int.natCast_one, Bool.false_eq_true, Bool.true_eq_false, decide_eq_true_eq, eq_self, Int.reduceEq, Int.reduceLT, Int.reduceLE, Bool.and_true, Bool.true_and, Bool.and_false, Bool.false_and, Nat.zero_add, ↓ixt0, ↓ixt1, ↓iso_1 ha, ↓iso_1 hb, Tm.z, enc_mk]; first | exact ans_fv _ _ | exact ans_t rfl (by simp) _
        · cases y
          · simp only [S38_132, S38_133, S38_134, S38_135, S38_136, S38_137, S38_138, S38_139, S38_140, S38_141, S38_142, S38, ↓XX, ↓reduceIte, Nat.reduceBEq, decide_true, decide_false, Bool.not_true, Bool.not_false, List.map_cons, List.map_nil, List.length_map, List.length_cons, List.length_nil, Nat.reduceAdd, Int.cast_ofNat_Int, Int.natCast_zero, Int.natCast_one, Bool.false_eq_true, Bool.true_eq_false, decide_eq_true_eq, eq_self, Int.reduceEq, Int.reduceLT, Int.reduceLE, Bool.and_true, Bool.true_and, Bool.and_false, Bool.false_and, Nat.zero_add, ↓ixt0, ↓ixt1, ↓iso_1 ha, ↓iso_1 hb, Tm.z, enc_mk]; first | exact ans_fv _ _ | exact ans_t rfl (by simp) _
          · simp only [S38_132, S38_133, S38_134, S38_135, S38_136, S38_137, S38_138, S38_139, S38_140, S38_141, S38_142, S38, ↓XX, ↓reduceIte, Nat.reduceBEq, decide_true, decide_false, Bool.not_true, Bool.not_false, List.map_cons, List.map_nil, List.length_map, List.length_cons, List.length_nil, Nat.reduceAdd, Int.cast_ofNat_Int, Int.natCast_zero, Int.natCast_one, Bool.false_eq_true, Bool.true_eq_false, decide_eq_true_eq, eq_self, Int.reduceEq, Int.reduceLT, Int.reduceLE, Bool.and_true, Bool.true_and, Bool.and_false, Bool.false_and, Nat.zero_add, ↓ixt0, ↓ixt1, ↓iso_1 ha, ↓iso_1 hb, ↓bs2_g, ↓iso_2 hof, enc_mk, List.map_cons, List.map_nil]; first | exact ans_fv _ _ | exact ans_t rfl (by simp) _
      · have e : (Tm.mk 2 m l).quo = (.z, false) := by
          rw [Tm.quo.eq_def]
          match l, hl with
          | [], _ => simp
          | [_], _ => simp
          | [_, _], hl => simp at hl
          | x :: y :: z :: l, _ => simp
        simp only [e, enc_mk, Tm.z]
        simp only [S38_132, S38_133, S38_134, S38_135, S38_136, S38_137, S38_138, S38_139, S38_140, S38_141, S38_142, S38, ↓XX, ↓reduceIte, Nat.reduceBEq, decide_true, decide_false, Bool.not_true, Bool.not_false, List.map_cons, List.map_nil, List.length_map, List.length_cons, List.length_nil, Nat.reduceAdd, Int.cast_ofNat_Int, Int.natCast_zero, Int.natCast_one, Bool.false_eq_true, Bool.true_eq_false, decide_eq_true_eq, eq_self, Int.reduceEq, Int.reduceLT, Int.reduceLE, Bool.and_true, Bool.true_and, Bool.and_false, Bool.false_and, Nat.zero_add, hl]; first | exact ans_fv _ _ | exact ans_t rfl (by simp) _
    · have e : (Tm.mk k m l).quo = (.z, false) := by rw [Tm.quo.eq_def]; simp [h1, h2]
      simp only [e, enc_mk, Tm.z]
      simp only [S38_132, S38_133, S38_134, S38_135, S38_136, S38_137, S38_138, S38_139, S38_140, S38_141, S38_142, S38, ↓XX, ↓reduceIte, Nat.reduceBEq, decide_true, decide_false, Bool.not_true, Bool.not_false, List.map_cons, List.map_nil, List.length_map, List.length_cons, List.length_nil, Nat.reduceAdd, Int.cast_ofNat_Int, Int.natCast_zero, Int.natCast_one, Bool.false_eq_true, Bool.true_eq_false, decide_eq_true_eq, eq_self, Int.reduceEq, Int.reduceLT, Int.reduceLE, Bool.and_true, Bool.true_and, Bool.and_false, Bool.false_and, Nat.zero_add, h1, h2]; first | exact ans_fv _ _ | exact ans_t rfl (by simp) _
end Idl
end Go.Proofs.Ytdibmackcbpniaa

namespace Go.Proofs.Ytdibmackcbpniaa
namespace Idl
mutual
def Tm.okn : Tm → Bool
  | .mk op m l => decide (kidsN op = (l.length : Int)) && (numb op m && Tm.oknL l)
def Tm.oknL : List Tm → Bool
  | [] => true
  | t :: l => t.okn && Tm.oknL l
end
mutual
theorem chk_okn : ∀ (t : Tm) (n d : Int), t.okn = true → n + t.wt ≤ 3000 → d + t.wt ≤ 121 → t.chk n d = (n + t.wt, 0)
  | .mk op m l, n, d, h, h1, h2 => by
    simp only [Tm.okn, Bool.and_eq_true, decide_eq_true_eq] at h
    simp only [Tm.wt] at h1 h2 ⊢
    rw [Tm.chk, if_neg (by omega), if_neg (by simp [h.1, h.2.1]), chkL_okn l (n + 1) (d + 1) h.2.2 (by omega) (by omega)]
    simp only [Prod.mk.injEq, and_true]
    omega
theorem chkL_okn : ∀ (l : List Tm) (n d : Int), Tm.oknL l = true → n + Tm.wtL l ≤ 3000 → d + Tm.wtL l ≤ 121 → Tm.chkL l n d = (n + Tm.wtL l, 0)
  | [], n, d, _, _, _ => by simp [Tm.chkL, Tm.wtL]
  | t :: l, n, d, h, h1, h2 => by
    simp only [Tm.oknL, Bool.and_eq_true] at h
    simp only [Tm.wtL] at h1 h2 ⊢
    rw [Tm.chkL, chk_okn t n d h.1 (by omega) (by omega), if_pos rfl, chkL_okn l _ d h.2 (by simp only; omega) (by omega)]
    simp only [Prod.mk.injEq, and_true]
    omega
end
theorem plainT_okn : ∀ (d : Nat) (r : Tm), (r.plainT d).okn = true
  | 0, r => by simp [Tm.plainT]; decide
  | d + 1, r => by
    have h1 := Int.emod_nonneg r.n (show (4 : Int) ≠ 0 by decide)
    have h2 := Int.emod_lt_of_pos r.n (show (0 : Int) < 4 by decide)
    simp only [Tm.plainT]
    split
    · decide
    · have h3 : 16 + r.n % 4 - 2 = 16 ∨ 16 + r.n % 4 - 2 = 17 := by omega
      rcases h3 with h3 | h3 <;> (rw [h3]; simp only [Tm.okn, Tm.oknL, plainT_okn d, Bool.and_true, Bool.and_self]; rfl)
theorem alike_self : ∀ a : Tm, a.typed = true → a.alike a = true
  | .mk op m [], h => by simp [Tm.alike]
  | .mk op m [_], h => by rw [typed1] at h; cases h
  | .mk op m (_ :: _ :: _ :: _), h => by rw [typed3] at h; cases h
  | .mk op m [a, b], h => by
    simp only [Tm.typed, Bool.and_eq_true] at h
    rw [Tm.alike]
    split
    · rw [alike_self a h.2.1, alike_self b h.2.2]; rfl
    · simp
theorem quo_inf (ns : List Int) : ∀ (n : Nat) (a : Tm) (i : Int) (g : List Tm), a.wt < n → a.typed = true → a.okn = true → a.wt ≤ 100 → (a.valT ns i).quo.2 = true → (a.valT ns i).quo.1.inf g = (0, a) ∧ (a.valT ns i).quo.1.okn = true ∧ (a.valT ns i).quo.1.wt ≤ a.wt := by
  intro n
  induction n with
  | zero => intro a i g h; omega
  | succ n ih =>
    intro a i g hn ht ho hw hq
    rcases typed_op ht with ⟨h1, h2⟩ | ⟨h1, x, y, h2, tx, ty⟩
    · obtain ⟨op, m, l⟩ := a
      simp only [Tm.op, Tm.kids] at h1 h2
      subst h1 h2
      have hm : m = 0 := by have h := ho; simp [Tm.okn, numb, Tm.oknL] at h; exact h.2
      subst hm
      have e : ∀ k, (Tm.mk 1 k []).quo = (.mk 25 k [], true) := fun k => by rw [Tm.quo.eq_def]; simp
      obtain ⟨k, hk⟩ : ∃ k, (Tm.mk 15 0 []).valT ns i = .mk 1 k [] := by rw [Tm.valT.eq_def]; exact ⟨_, rfl⟩
      rw [hk, e]
      refine ⟨?_, ?_, ?_⟩
      · rw [Tm.inf, if_neg (by decide), if_pos rfl]; rfl
      · simp [Tm.okn, Tm.oknL, numb]; decide
      · simp [Tm.wt, Tm.wtL]
    · obtain ⟨op, m, l⟩ := a
      simp only [Tm.op, Tm.kids] at h1 h2
      subst h2
      simp only [Tm.okn, Tm.oknL, Bool.and_eq_true, decide_eq_true_eq, Bool.and_true] at ho
      simp only [Tm.wt, Tm.wtL] at hn hw ⊢
      by_cases h16 : op = 16
      · rw [Tm.valT, if_pos h16] at hq
        rw [Tm.quo.eq_def] at hq
        simp at hq
      · have h17 : op = 17 := by omega
        subst h17
        have hm : m = 0 := by simpa [numb] using ho.2.1
        subst hm
        have e : ∀ u w : Tm, (Tm.mk 2 0 [u, w]).quo = if u.quo.2 = true then (if w.quo.2 = true then (.mk 22 0 [u.quo.1, w.quo.1], true) else (.z, false)) else (.z, false) := fun u w => by rw [Tm.quo.eq_def]; simp
        rw [Tm.valT, if_neg (by decide), e] at hq ⊢
        by_cases hx : (x.valT ns (2 * i + 1)).quo.2 = true
        · by_cases hy : (y.valT ns (2 * i + 2)).quo.2 = true
          · obtain ⟨a1, a2, a3⟩ := ih x (2 * i + 1) g (by omega) tx ho.2.2.1 (by omega) hx
            obtain ⟨b1, b2, b3⟩ := ih y (2 * i + 2) g (by omega) ty ho.2.2.2 (by omega) hy
            rw [if_pos hx, if_pos hy]
            refine ⟨?_, ?_, ?_⟩
            · rw [Tm.inf]
              simp only [Int.reduceEq, if_false, if_true, a1, b1, madeM]
              rw [chk_okn _ 0 1 (by simp only [Tm.okn, Tm.oknL, ho.2.2.1, ho.2.2.2]; rfl) (by simp only [Tm.wt, Tm.wtL]; omega) (by simp only [Tm.wt, Tm.wtL]; omega)]
            · simp only [Tm.okn, Tm.oknL, a2, b2]; rfl
            · simp only [Tm.wt, Tm.wtL]; omega
          · rw [if_pos hx, if_neg hy] at hq; cases hq
        · rw [if_neg hx] at hq; cases hq
end Idl
end Go.Proofs.Ytdibmackcbpniaa

namespace Go.Proofs.Ytdibmackcbpniaa
namespace Idl
theorem fewV_wt : ∀ (k : Nat) (t : Tm) (d : Int), d + k = 8 → t.fewV d = true → t.wt ≤ 5 ^ k := by
  intro k
  induction k with
  | zero =>
    intro t d hd h
    obtain ⟨op, m, l⟩ := t
    rw [Tm.fewV, if_neg (by omega)] at h
    split at h
    · cases h
    · cases l with
      | nil => simp [Tm.wt, Tm.wtL]
      | cons x l =>
        obtain ⟨op, m, l⟩ := x
        rw [Tm.fewVL, Tm.fewV, if_pos (by omega)] at h
        simp at h
  | succ k ih =>
    intro t d hd h
    obtain ⟨op, m, l⟩ := t
    rw [Tm.fewV, if_neg (by omega)] at h
    split at h
    · cases h
    · rename_i hl
      have hL : ∀ l : List Tm, Tm.fewVL l d = true → Tm.wtL l ≤ l.length * 5 ^ k := by
        intro l
        induction l with
        | nil => intro _; simp [Tm.wtL]
        | cons x l ihl =>
          intro h
          rw [Tm.fewVL, Bool.and_eq_true] at h
          have h1 := ih x (d + 1) (by omega) h.1
          have h2 := ihl h.2
          simp only [Tm.wtL, List.length_cons, Nat.succ_mul]
          omega
      have h1 := hL l h
      have h2 : l.length * 5 ^ k ≤ 4 * 5 ^ k := Nat.mul_le_mul_right _ (by omega)
      have h3 : 0 < 5 ^ k := Nat.pow_pos (by decide)
      simp only [Tm.wt, Nat.pow_succ]
      omega
set_option maxRecDepth 20000 in
set_option maxHeartbeats 2000000 in
theorem objValues_ok (v q : Tm) (ns : List Int) : ∃ N, AnsV (SS dt N 9 [.fv v.enc, .fv q.enc, .fv (iEnc ns)] ⟨[], []⟩) (.bool true) := by
  refine ⟨v.wt + q.wt + 20000 + 1, ?_⟩
  rw [c9]
  generalize hn : v.wt + q.wt + 20000 = n
  have hk := known_ok (n := n) (by omega)
  obtain ⟨m, hm⟩ : ∃ m, n = m + 1 := ⟨n - 1, by omega⟩
  have fv := fewV_ok n v 0 (by omega) (by omega) (by omega)
  have fq := few_ok (n := m) q (by omega)
  rw [← hm] at fq
  have pq := plainT_ok 4 n q (by omega) (by omega)
  have ta := plainT_typed 4 q
  have wa := plainT_wt 4 q
  have oa := plainT_okn 4 q
  generalize q.plainT 4 = a at pq ta wa oa
  have hv := valT_ok ns n a 0 (by omega) ta (by omega) (by
    have h1 : (2 : Nat) ^ a.wt ≤ 2 ^ 31 := Nat.pow_le_pow_right (by decide) wa
    have h2 : ((2 : Int) ^ a.wt) ≤ 2 ^ 31 := by exact_mod_cast h1
    omega)
  have hvw : (a.valT ns 0).wt ≤ a.wt := valT_wt ns (a.wt + 1) _ 0 (by omega)
  have hf := fits_ok n (a.valT ns 0) a (by omega) ta
  rw [val_fits ns (a.wt + 1) _ _ 0 (by omega) ta ta, alike_self a ta] at hf
  have hfv := fits_ok n v a (by omega) ta
  have hfr := rfits_ok n v a (by omega) ta
  have hqi := quo_inf ns (a.wt + 1) a 0 [] (by omega) ta oa (by omega)
  have q1 := pquo_ok n v (by omega)
  have q2 := rquo_ok n v (by omega)
  have q3 := pquo_ok n (a.valT ns 0) (by omega)
  have q4 := rquo_ok n (a.valT ns 0) (by omega)
  have qw : ∀ (n : Nat) (t : Tm), t.wt < n → t.quo.1.wt ≤ t.wt := by
    intro n
    induction n with
    | zero => intro t h; omega
    | succ n ih =>
      intro t h
      obtain ⟨k, m, l⟩ := t
      simp only [Tm.wt] at h ⊢
      rw [Tm.quo.eq_def]
      simp only
      split
      · simp [Tm.wt, Tm.wtL]
      · split
        · split
          · simp only [Tm.wtL] at h ⊢
            rename_i x y
            have h1 := ih x (by omega)
            have h2 := ih y (by omega)
            split
            · split
              · simp only [Tm.wt, Tm.wtL]; omega
              · simp [Tm.z, Tm.wt, Tm.wtL]
            · simp [Tm.z, Tm.wt, Tm.wtL]
          · simp [Tm.z, Tm.wt, Tm.wtL]
        · simp [Tm.z, Tm.wt, Tm.wtL]
  have w1 := qw _ v (Nat.lt_succ_self _)
  have w2 := qw _ (a.valT ns 0) (Nat.lt_succ_self _)
  have s1 : v.quo.1.wt ≤ 1152921504606846976 → Ans (SS dt n 18 [.fv v.quo.1.enc, .fv v.quo.1.enc] ⟨[], []⟩) (.bool true) := fun h => by
    have := same_ok n v.quo.1 v.quo.1 (by omega) h
    rwa [(same_eq _ _).2 rfl] at this
  have s2 := same_ok n (a.valT ns 0).quo.1 (a.valT ns 0).quo.1 (by omega) (by omega)
  have s3 := same_ok n a a (by omega) (by omega)
  rw [(same_eq _ _).2 rfl] at s2 s3
  have hI : (a.valT ns 0).quo.2 = true → Ans (SS dt n 17 [.fv (.sl []), .fv (a.valT ns 0).quo.1.enc] ⟨[], []⟩) (.tuple [a.enc, .int .i64 0]) := fun h => by
    obtain ⟨i1, i2, i3⟩ := hqi h
    have := pInfer_ok 3000 (by omega) (by omega) n (a.valT ns 0).quo.1 [] (by omega) (by intro x hx; cases hx) (by simp; omega) (by simp; omega)
    unfold Tm.infer at this
    rw [chk_okn _ 0 1 i2 (by omega) (by omega), i1] at this
    exact this
  clear hqi qw hm
  cases h1 : v.fewV 0
  · rw [h1] at fv
    obtain ⟨o1, n1, k1⟩ := v
    obtain ⟨o2, n2, k2⟩ := q
    simp only [enc_mk, iEnc] at fv fq ⊢
    simp only [S9_260, S9_261, S9_262, S9_263, S9_264, S9_265, S9_266, S9_267, S9_268, S9_269, S9_270, S9_271, S9_272, S9_273, S9_274, S9_275, S9_276, S9_277, S9_278, S9_279, S9, ↓XX, ↓reduceIte, Nat.reduceBEq, decide_true, decide_false, Bool.not_true, Bool.not_false, List.map_cons, List.map_nil, List.length_map, List.length_cons, List.length_nil, Nat.reduceAdd, Int.cast_ofNat_Int, Int.natCast_zero, Int.natCast_one, Bool.false_eq_true, Bool.true_eq_false, decide_eq_true_eq, eq_self, Int.reduceEq, Int.reduceLT, Int.reduceLE, Bool.and_true, Bool.true_and, Bool.and_false, Bool.false_and, Nat.zero_add, ↓iso_0 hk, ↓iso_2 fv]
    exact ansv
  have hvw2 := fewV_wt 8 v 0 (by omega) h1
  have s1 := s1 (by have : (5 : Nat) ^ 8 ≤ 390625 := by decide
                    omega)
  rw [h1] at fv
  cases h2 : decide (q.count 300 < 300)
  · rw [h2] at fq
    obtain ⟨o1, n1, k1⟩ := v
    obtain ⟨o2, n2, k2⟩ := q
    simp only [enc_mk, iEnc] at fv fq ⊢
    simp only [S9_260, S9_261, S9_262, S9_263, S9_264, S9_265, S9_266, S9_267, S9_268, S9_269, S9_270, S9_271, S9_272, S9_273, S9_274, S9_275, S9_276, S9_277, S9_278, S9_279, S9, ↓XX, ↓reduceIte, Nat.reduceBEq, decide_true, decide_false, Bool.not_true, Bool.not_false, List.map_cons, List.map_nil, List.length_map, List.length_cons, List.length_nil, Nat.reduceAdd, Int.cast_ofNat_Int, Int.natCast_zero, Int.natCast_one, Bool.false_eq_true, Bool.true_eq_false, decide_eq_true_eq, eq_self, Int.reduceEq, Int.reduceLT, Int.reduceLE, Bool.and_true, Bool.true_and, Bool.and_false, Bool.false_and, Nat.zero_add, ↓iso_0 hk, ↓iso_2 fv, ↓iso_1 fq]
    exact ansv
  rw [h2] at fq
  generalize v.fits a = fb at hfv hfr
  generalize a.valT ns 0 = w at hv hf q3 q4 s2 hI
  generalize v.quo = p1 at q1 q2 s1
  generalize w.quo = p2 at q3 q4 s2 hI
  clear hvw w1 w2 hvw2 h1 h2
  obtain ⟨t1, b1⟩ := p1
  obtain ⟨t2, b2⟩ := p2
  simp only at q1 q2 s1 q3 q4 s2 hI
  obtain ⟨o1, n1, k1⟩ := v
  obtain ⟨o2, n2, k2⟩ := q
  obtain ⟨o3, n3, k3⟩ := a
  obtain ⟨o4, n4, k4⟩ := w
  obtain ⟨o5, n5, k5⟩ := t1
  obtain ⟨o6, n6, k6⟩ := t2
  simp only [enc_mk, iEnc] at fv fq pq hv hf hfv hfr q1 q2 q3 q4 s1 s2 s3 hI ⊢
  simp only [S9_260, S9_261, S9_262, S9_263, S9_264, S9_265, S9_266, S9_267, S9_268, S9_269, S9_271, S9_272, S9_273, S9_274, S9_275, S9_276, S9_277, S9_278, S9_279, S9, ↓XX, ↓reduceIte, Nat.reduceBEq, decide_true, decide_false, Bool.not_true, Bool.not_false, List.map_cons, List.map_nil, List.length_map, List.length_cons, List.length_nil, Nat.reduceAdd, Int.cast_ofNat_Int, Int.natCast_zero, Int.natCast_one, Bool.false_eq_true, Bool.true_eq_false, decide_eq_true_eq, eq_self, Int.reduceEq, Int.reduceLT, Int.reduceLE, Bool.and_true, Bool.true_and, Bool.and_false, Bool.false_and, Nat.zero_add, ↓iso_0 hk, ↓iso_2 fv, ↓iso_1 fq, ↓iso_2 pq, ↓iso_3 hv, ↓iso_2 hf, ↓iso_2 hfv, ↓iso_2 hfr, ↓ne_b, BEq.rfl, ↓bs2_vg, ↓drop_e, XD, heldB, flatD, List.any_cons, List.any_nil, List.all_cons, List.all_nil, List.filter_cons, List.filter_nil, List.contains_cons, List.contains_nil, Bool.or_false, Bool.or_true, Bool.false_or, Bool.true_or, Bool.and_self, Bool.not_eq_true, BEq.rfl, beq_self_eq_true]
  refine loop_run (Q := fun r => AnsV r _) (fun k V H => ∃ i : Nat, i + k = 2 ∧ V = [.ptr (.own 9442306) 0, .clip [.agg [.int .i64 o1, .int .i64 n1, .sl (k1.map Tm.enc)], .agg [.int .i64 o4, .int .i64 n4, .sl (k4.map Tm.enc)]], iv i] ∧
    H = ⟨[(9437184, .row [iv o1, iv n1, .fv (.sl (k1.map Tm.enc))] false), (9437185, .row [iv o2, iv n2, .fv (.sl (k2.map Tm.enc))] false), (9442306, .row [iv o3, iv n3, .fv (.sl (k3.map Tm.enc))] false), (9443331, .row [iv o4, iv n4, .fv (.sl (k4.map Tm.enc))] false)], []⟩) ?_ n 2 _ _ (by omega) ⟨0, by omega, rfl, rfl⟩
  rintro k V H rec ⟨i, hik, rfl, rfl⟩ hrec
  match i, hik with
  | 0, hik =>
    have w01 : w64 (0 + 1) = ((1 : Nat) : Int) := by rw [w64_id] <;> omega
    have h9 := hrec 1 [.ptr (.own 9442306) 0, .clip [.agg [.int .i64 o1, .int .i64 n1, .sl (k1.map Tm.enc)], .agg [.int .i64 o4, .int .i64 n4, .sl (k4.map Tm.enc)]], iv (1 : Nat)] _ (by omega) ⟨1, by omega, rfl, rfl⟩
    simp only [S9_260, S9_261, S9_262, S9_263, S9_264, S9_265, S9_266, S9_267, S9_268, S9_269, S9_270, S9_271, S9_272, S9_273, S9_274, S9_275, S9_276, S9_277, S9_278, S9_279, S9, ↓XX, ↓reduceIte, Nat.reduceBEq, decide_true, decide_false, Bool.not_true, Bool.not_false, List.map_cons, List.map_nil, List.length_map, List.length_cons, List.length_nil, Nat.reduceAdd, Int.cast_ofNat_Int, Int.natCast_zero, Int.natCast_one, Bool.false_eq_true, Bool.true_eq_false, decide_eq_true_eq, eq_self, Int.reduceEq, Int.reduceLT, Int.reduceLE, Bool.and_true, Bool.true_and, Bool.and_false, Bool.false_and, Nat.zero_add, ↓ix_cl, ↓ixt0, ↓iso_1 q1, ↓iso_1 q2, ↓ne_b, BEq.rfl, ↓iso_2 s1, w01, ↓drop_e, XD, heldB, flatD, List.any_cons, List.any_nil, List.all_cons, List.all_nil, List.filter_cons, List.filter_nil, List.contains_cons, List.contains_nil, Bool.or_false, Bool.or_true, Bool.false_or, Bool.true_or, Bool.and_self, Bool.not_eq_true, BEq.rfl, beq_self_eq_true]
    exact h9
  | 1, hik =>
    have w11 : w64 (1 + 1) = ((2 : Nat) : Int) := by rw [w64_id] <;> omega
    have h9 := hrec 0 [.ptr (.own 9442306) 0, .clip [.agg [.int .i64 o1, .int .i64 n1, .sl (k1.map Tm.enc)], .agg [.int .i64 o4, .int .i64 n4, .sl (k4.map Tm.enc)]], iv (2 : Nat)] _ (by omega) ⟨2, by omega, rfl, rfl⟩
    cases b2
    · simp only [S9_260, S9_261, S9_262, S9_263, S9_264, S9_265, S9_266, S9_267, S9_268, S9_269, S9_270, S9_271, S9_272, S9_273, S9_274, S9_275, S9_276, S9_277, S9_278, S9_279, S9, ↓XX, ↓reduceIte, Nat.reduceBEq, decide_true, decide_false, Bool.not_true, Bool.not_false, List.map_cons, List.map_nil, List.length_map, List.length_cons, List.length_nil, Nat.reduceAdd, Int.cast_ofNat_Int, Int.natCast_zero, Int.natCast_one, Bool.false_eq_true, Bool.true_eq_false, decide_eq_true_eq, eq_self, Int.reduceEq, Int.reduceLT, Int.reduceLE, Bool.and_true, Bool.true_and, Bool.and_false, Bool.false_and, Nat.zero_add, ↓ix_cl, ↓ixt1, ↓iso_1 q3, ↓iso_1 q4, ↓ne_b, BEq.rfl, ↓iso_2 s2, w11, ↓drop_e, XD, heldB, flatD, List.any_cons, List.any_nil, List.all_cons, List.all_nil, List.filter_cons, List.filter_nil, List.contains_cons, List.contains_nil, Bool.or_false, Bool.or_true, Bool.false_or, Bool.true_or, Bool.and_self, Bool.not_eq_true, BEq.rfl, beq_self_eq_true]
      exact h9
    · have hI := hI rfl
      simp only [S9_260, S9_261, S9_262, S9_263, S9_264, S9_265, S9_266, S9_267, S9_268, S9_269, S9_270, S9_271, S9_272, S9_273, S9_274, S9_275, S9_276, S9_277, S9_278, S9_279, S9, ↓XX, ↓reduceIte, Nat.reduceBEq, decide_true, decide_false, Bool.not_true, Bool.not_false, List.map_cons, List.map_nil, List.length_map, List.length_cons, List.length_nil, Nat.reduceAdd, Int.cast_ofNat_Int, Int.natCast_zero, Int.natCast_one, Bool.false_eq_true, Bool.true_eq_false, decide_eq_true_eq, eq_self, Int.reduceEq, Int.reduceLT, Int.reduceLE, Bool.and_true, Bool.true_and, Bool.and_false, Bool.false_and, Nat.zero_add, ↓ix_cl, ↓ixt1, ↓iso_1 q3, ↓iso_1 q4, ↓ne_b, BEq.rfl, ↓iso_2 s2, ↓iso_2 hI, ↓iso_2 s3, w11, ↓drop_e, XD, heldB, flatD, List.any_cons, List.any_nil, List.all_cons, List.all_nil, List.filter_cons, List.filter_nil, List.contains_cons, List.contains_nil, Bool.or_false, Bool.or_true, Bool.false_or, Bool.true_or, Bool.and_self, Bool.not_eq_true, BEq.rfl, beq_self_eq_true]
      exact h9
  | 2, hik =>
    simp only [S9_260, S9_261, S9_262, S9_263, S9_264, S9_265, S9_266, S9_267, S9_268, S9_269, S9_270, S9_271, S9_272, S9_273, S9_274, S9_275, S9_276, S9_277, S9_278, S9_279, S9, ↓XX, ↓reduceIte, Nat.reduceBEq, decide_true, decide_false, Bool.not_true, Bool.not_false, List.map_cons, List.map_nil, List.length_map, List.length_cons, List.length_nil, Nat.reduceAdd, Int.cast_ofNat_Int, Int.natCast_zero, Int.natCast_one, Bool.false_eq_true, Bool.true_eq_false, decide_eq_true_eq, eq_self, Int.reduceEq, Int.reduceLT, Int.reduceLE, Bool.and_true, Bool.true_and, Bool.and_false, Bool.false_and, Nat.zero_add]
    exact ansv
  | i + 3, hik => omega
end Idl
end Go.Proofs.Ytdibmackcbpniaa


/-
  Texts of a proof, part 12: an ideal semantics of the program, its functions in shallow form, contracts of them. No statement of the seat is proved here.
-/
import Derived.Test.YtdibmackcbpniaaObjDeepK11
set_option linter.all false
namespace Go.Proofs.Ytdibmackcbpniaa
namespace Idl
mutual
def Tm.chk : Tm → Int → Int → Int × Int
  | .mk op m l, n, d => if 3000 < n + 1 ∨ 120 < d then (n + 1, 5) else if kidsN op ≠ (l.length : Int) ∨ numb op m = false then (n + 1, 1) else Tm.chkL l (n + 1) (d + 1)
def Tm.chkL : List Tm → Int → Int → Int × Int
  | [], n, _ => (n, 0)
  | t :: l, n, d => if (t.chk n d).2 = 0 then Tm.chkL l (t.chk n d).1 d else t.chk n d
end
mutual
theorem chk_b : ∀ (t : Tm) (n d : Int), n ≤ 3000 → n ≤ (t.chk n d).1 ∧ (t.chk n d).1 ≤ 3001 ∧ ((t.chk n d).2 = 0 → (t.chk n d).1 = n + t.wt ∧ (t.chk n d).1 ≤ 3000 ∧ d ≤ 120)
  | .mk op m l, n, d, hn => by
    rw [Tm.chk]
    split
    · simp; omega
    · split
      · simp; omega
      · have := chkL_b l (n + 1) (d + 1) (by omega)
        simp only [Tm.wt]
        omega
theorem chkL_b : ∀ (l : List Tm) (n d : Int), n ≤ 3000 → n ≤ (Tm.chkL l n d).1 ∧ (Tm.chkL l n d).1 ≤ 3001 ∧ ((Tm.chkL l n d).2 = 0 → (Tm.chkL l n d).1 = n + Tm.wtL l ∧ (Tm.chkL l n d).1 ≤ 3000)
  | [], n, d, hn => by simp [Tm.chkL, Tm.wtL]; omega
  | t :: l, n, d, hn => by
    have h1 := chk_b t n d hn
    rw [Tm.chkL]
    split
    · rename_i h0
      have h2 := chkL_b l (t.chk n d).1 d (by omega)
      simp only [Tm.wtL]
      omega
    · rename_i h0
      simp only [Tm.wtL]
      omega
end
noncomputable abbrev HW (op m : Int) (ks : List Tm) (N E : Int) : Hp := ⟨[(58720256, .row [iv op, iv m, .fv (.sl (ks.map Tm.enc))] false)], [.row [iv N, iv E] false]⟩
theorem kidsN_le (op : Int) : kidsN op ≤ 4 := by
  rcases op_cases op with h | h
  · exact op_in (P := fun op => kidsN op ≤ 4) (by intro k hk; have : ∀ k : Fin 31, kidsN (k.val : Int) ≤ 4 := by decide
                                                  exact this ⟨k, hk⟩) h
  · rw [kidsN_out h]; omega
theorem walk_ok : ∀ (n : Nat) (t : Tm) (N d : Int), 2 * t.wt + 2 < n → 0 ≤ N → N ≤ 3000 → 0 ≤ d → d ≤ 121 →
    AnsX (SS dt n 56 [.ptr (.ext 0) 0, .fv t.enc, iv d] ⟨[], [.row [iv N, iv 0] false]⟩) (.tuple []) [.row [iv (t.chk N d).1, iv (t.chk N d).2] false] := by
  intro n
  induction n using Nat.strongRecOn with
  | ind n ih =>
    intro t N d hn h0 hN hd0 hd
    obtain ⟨op, m, ks⟩ := t
    simp only [Tm.wt] at hn
    obtain ⟨n, rfl⟩ : ∃ k, n = k + 1 := ⟨n - 1, by omega⟩
    rw [c56, enc_mk]
    have hlen := wt_len ks
    have hw : w64 (N + 1) = N + 1 := by rw [w64_id] <;> omega
    have hwd : w64 (d + 1) = d + 1 := by rw [w64_id] <;> omega
    have ha := arity_ok (n := n) (by omega) op
    have hb := number_ok (n := n) (by omega) op m
    have hl : ∀ (N' E' : Int) (r : Int × Int), N' ≤ 3000 ∨ E' ≠ 0 → 0 ≤ N' → (E' = 0 → ks.length ≤ 4 ∧ r = Tm.chkL ks N' (d + 1) ∧ d ≤ 120) → (E' ≠ 0 → r = (N', E')) →
        AnsX (loopS n (fun q20 l21 h22 => S56_160 l21 h22 (SS dt n) q20) [.ptr (.ext 0) 0, iv d, .ptr (.own 58720256) 0, iv 0] (HW op m ks N' E')) (.tuple []) [.row [iv r.1, iv r.2] false] := by
      intro N' E' r hN' hN0 h1 h2
      refine loop_run (Q := fun r' => AnsX r' _ _) (fun k V H => ∃ pre rest N2 E2, ks = pre ++ rest ∧ rest.length = k ∧ V = [.ptr (.ext 0) 0, iv d, .ptr (.own 58720256) 0, iv pre.length] ∧ H = HW op m ks N2 E2 ∧
        0 ≤ N2 ∧ (E2 = 0 → N2 ≤ 3000 ∧ ks.length ≤ 4 ∧ r = Tm.chkL rest N2 (d + 1) ∧ d ≤ 120) ∧ (E2 ≠ 0 → r = (N2, E2))) ?_ n ks.length _ _ (by omega) ⟨[], ks, N', E', rfl, rfl, rfl, rfl, hN0, fun e => ⟨by rcases hN' with h | h; exact h; exact absurd e h, h1 e⟩, h2⟩
      rintro k V H rec ⟨pre, rest, N2, E2, hk, hkl, rfl, rfl, hN2, hok, hbad⟩ hrec
      have hkk : ks.length = pre.length + rest.length := by rw [hk]; simp
      cases rest with
      | nil =>
        have hno : ¬ ((pre.length : Int) < ks.length) := by rw [hkk]; simp
        have : r = (N2, E2) := by
          by_cases he : E2 = 0
          · rw [(hok he).2.2.1, he]; rfl
          · exact hbad he
        rw [this]
        simp only [S56_156, S56_157, S56_158, S56_159, S56_160, S56_161, S56_162, S56_163, S56_164, S56_165, S56_166, S56_167, S56_168, S56_169, S56_170, S56, ↓XX, ↓reduceIte, Nat.reduceBEq, decide_true, decide_false, Bool.not_true, Bool.not_false, List.map_cons, List.map_nil, List.length_map, List.length_cons, List.length_nil, Nat.reduceAdd, Int.cast_ofNat_Int, Int.natCast_zero, Int.natCast_one, Bool.false_eq_true, Bool.true_eq_false, decide_eq_true_eq, eq_self, Int.reduceEq, Int.reduceLT, Int.reduceLE, Bool.and_true, Bool.true_and, Bool.and_false, Bool.false_and, Nat.zero_add, hno]
        exact ansx_p rfl _ _
      | cons t rest =>
        have hi : (pre.length : Int) < ks.length := by rw [hkk]; simp; omega
        by_cases he : E2 = 0
        · subst he
          obtain ⟨hb1, hb2, hr, hd2⟩ := hok rfl
          have hg := at_pre hk
          have htw := wt_mem (t := t) (l := ks) (by rw [hk]; simp)
          have hc := ih n (by omega) t N2 (d + 1) (by omega) hN2 hb1 (by omega) (by omega)
          have hcb := chk_b t N2 (d + 1) hb1
          have hwi : w64 ((pre.length : Int) + 1) = ((pre ++ [t]).length : Int) := (w64_id (by omega) (by omega)).trans (by simp)
          rw [Tm.chkL] at hr
          have h9 := hrec rest.length [.ptr (.ext 0) 0, iv d, .ptr (.own 58720256) 0, iv (pre ++ [t]).length] (HW op m ks (t.chk N2 (d + 1)).1 (t.chk N2 (d + 1)).2) (by simp only [List.length_cons] at hkl; omega)
            ⟨pre ++ [t], rest, _, _, by rw [hk]; simp, rfl, rfl, rfl, by omega, fun e => ⟨(hcb.2.2 e).2.1, hb2, by rw [hr, if_pos e], hd2⟩, fun e => by rw [hr, if_neg e]⟩
          generalize t.chk N2 (d + 1) = q at hc h9
          obtain ⟨o, p, l⟩ := t
          rw [enc_mk] at hc
          simp only [S56_156, S56_157, S56_158, S56_159, S56_160, S56_161, S56_162, S56_163, S56_164, S56_165, S56_166, S56_167, S56_168, S56_169, S56_170, S56, ↓XX, ↓reduceIte, Nat.reduceBEq, decide_true, decide_false, Bool.not_true, Bool.not_false, List.map_cons, List.map_nil, List.length_map, List.length_cons, List.length_nil, Nat.reduceAdd, Int.cast_ofNat_Int, Int.natCast_zero, Int.natCast_one, Bool.false_eq_true, Bool.true_eq_false, decide_eq_true_eq, eq_self, Int.reduceEq, Int.reduceLT, Int.reduceLE, Bool.and_true, Bool.true_and, Bool.and_false, Bool.false_and, Nat.zero_add, hi, ↓ix_f (map_get hg) (agg3l _ _ _), ↓agg3, hwd, ↓iso_m3 hc (onex2 _ _ _ _), hwi]
          exact h9
        · rw [hbad he]
          simp only [S56_156, S56_157, S56_158, S56_159, S56_160, S56_161, S56_162, S56_163, S56_164, S56_165, S56_166, S56_167, S56_168, S56_169, S56_170, S56, ↓XX, ↓reduceIte, Nat.reduceBEq, decide_true, decide_false, Bool.not_true, Bool.not_false, List.map_cons, List.map_nil, List.length_map, List.length_cons, List.length_nil, Nat.reduceAdd, Int.cast_ofNat_Int, Int.natCast_zero, Int.natCast_one, Bool.false_eq_true, Bool.true_eq_false, decide_eq_true_eq, eq_self, Int.reduceEq, Int.reduceLT, Int.reduceLE, Bool.and_true, Bool.true_and, Bool.and_false, Bool.false_and, Nat.zero_add, hi, he]
          exact ansx_p rfl _ _
    rw [Tm.chk]
    by_cases c1 : 3000 < N + 1
    · have hx := hl (N + 1) 5 (N + 1, 5) (.inr (by decide)) (by omega) (fun e => absurd e (by decide)) (fun _ => rfl)
      rw [if_pos (.inl c1)]
      simp only [S56_156, S56_157, S56_158, S56_159, S56_161, S56_162, S56_163, S56_164, S56_165, S56_166, S56_167, S56_168, S56_169, S56_170, S56, ↓XX, ↓reduceIte, Nat.reduceBEq, decide_true, decide_false, Bool.not_true, Bool.not_false, List.map_cons, List.map_nil, List.length_map, List.length_cons, List.length_nil, Nat.reduceAdd, Int.cast_ofNat_Int, Int.natCast_zero, Int.natCast_one, Bool.false_eq_true, Bool.true_eq_false, decide_eq_true_eq, eq_self, Int.reduceEq, Int.reduceLT, Int.reduceLE, Bool.and_true, Bool.true_and, Bool.and_false, Bool.false_and, Nat.zero_add, hw, c1]
      exact hx
    · by_cases c2 : 120 < d
      · have hx := hl (N + 1) 5 (N + 1, 5) (.inr (by decide)) (by omega) (fun e => absurd e (by decide)) (fun _ => rfl)
        rw [if_pos (.inr c2)]
        simp only [S56_156, S56_157, S56_158, S56_159, S56_161, S56_162, S56_163, S56_164, S56_165, S56_166, S56_167, S56_168, S56_169, S56_170, S56, ↓XX, ↓reduceIte, Nat.reduceBEq, decide_true, decide_false, Bool.not_true, Bool.not_false, List.map_cons, List.map_nil, List.length_map, List.length_cons, List.length_nil, Nat.reduceAdd, Int.cast_ofNat_Int, Int.natCast_zero, Int.natCast_one, Bool.false_eq_true, Bool.true_eq_false, decide_eq_true_eq, eq_self, Int.reduceEq, Int.reduceLT, Int.reduceLE, Bool.and_true, Bool.true_and, Bool.and_false, Bool.false_and, Nat.zero_add, hw, c1, c2]
        exact hx
      · rw [if_neg (by omega)]
        by_cases c3 : kidsN op = (ks.length : Int)
        · have hx1 := hl (N + 1) 1 (N + 1, 1) (.inr (by decide)) (by omega) (fun e => absurd e (by decide)) (fun _ => rfl)
          have hk4 := kidsN_le op
          have hx0 := hl (N + 1) 0 (Tm.chkL ks (N + 1) (d + 1)) (.inl (by omega)) (by omega) (fun _ => ⟨by omega, rfl, by omega⟩) (fun e => absurd rfl e)
          cases hnb : numb op m
          · rw [hnb] at hb
            rw [if_pos (.inr rfl)]
            simp only [S56_156, S56_157, S56_158, S56_159, S56_161, S56_162, S56_163, S56_164, S56_165, S56_166, S56_167, S56_168, S56_169, S56_170, S56, ↓XX, ↓reduceIte, Nat.reduceBEq, decide_true, decide_false, Bool.not_true, Bool.not_false, List.map_cons, List.map_nil, List.length_map, List.length_cons, List.length_nil, Nat.reduceAdd, Int.cast_ofNat_Int, Int.natCast_zero, Int.natCast_one, Bool.false_eq_true, Bool.true_eq_false, decide_eq_true_eq, eq_self, Int.reduceEq, Int.reduceLT, Int.reduceLE, Bool.and_true, Bool.true_and, Bool.and_false, Bool.false_and, Nat.zero_add, hw, c1, c2, ↓iso_1 ha, c3, ↓iso_2 hb]
            exact hx1
          · rw [hnb] at hb
            rw [if_neg (by simp [c3])]
            simp only [S56_156, S56_157, S56_158, S56_159, S56_161, S56_162, S56_163, S56_164, S56_165, S56_166, S56_167, S56_168, S56_169, S56_170, S56, ↓XX, ↓reduceIte, Nat.reduceBEq, decide_true, decide_false, Bool.not_true, Bool.not_false, List.map_cons, List.map_nil, List.length_map, List.length_cons, List.length_nil, Nat.reduceAdd, Int.cast_ofNat_Int, Int.natCast_zero, Int.natCast_one, Bool.false_eq_true, Bool.true_eq_false, decide_eq_true_eq, eq_self, Int.reduceEq, Int.reduceLT, Int.reduceLE, Bool.and_true, Bool.true_and, Bool.and_false, Bool.false_and, Nat.zero_add, hw, c1, c2, ↓iso_1 ha, c3, ↓iso_2 hb]
            exact hx0
        · have hx1 := hl (N + 1) 1 (N + 1, 1) (.inr (by decide)) (by omega) (fun e => absurd e (by decide)) (fun _ => rfl)
          rw [if_pos (.inl c3)]
          simp only [S56_156, S56_157, S56_158, S56_159, S56_161, S56_162, S56_163, S56_164, S56_165, S56_166, S56_167, S56_168, S56_169, S56_170, S56, ↓XX, ↓reduceIte, Nat.reduceBEq, decide_true, decide_false, Bool.not_true, Bool.not_false, List.map_cons, List.map_nil, List.length_map, List.length_cons, List.length_nil, Nat.reduceAdd, Int.cast_ofNat_Int, Int.natCast_zero, Int.natCast_one, Bool.false_eq_true, Bool.true_eq_false, decide_eq_true_eq, eq_self, Int.reduceEq, Int.reduceLT, Int.reduceLE, Bool.and_true, Bool.true_and, Bool.and_false, Bool.false_and, Nat.zero_add, hw, c1, c2, ↓iso_1 ha, c3]
          exact hx1
theorem check_ok {n : Nat} (t : Tm) (hn : 2 * t.wt + 3 < n) : Ans (SS dt n 25 [.fv t.enc] ⟨[], []⟩) (.int .i64 (t.chk 0 1).2) := by
  obtain ⟨n, rfl⟩ : ∃ k, n = k + 1 := ⟨n - 1, by omega⟩
  rw [c25]
  have h := walk_ok n t 0 1 (by omega) (by omega) (by omega) (by omega) (by omega)
  generalize t.chk 0 1 = q at h
  obtain ⟨op, m, ks⟩ := t
  rw [enc_mk] at h ⊢
  have c2 := fun k => iso_o3b (k := k) h (x := .fv (.agg [.int .i64 op, .int .i64 m, .sl (ks.map Tm.enc)])) (y := iv 1) (s := 26215425) rfl rfl
    (own := [(26214400, .row [iv op, iv m, .fv (.sl (ks.map Tm.enc))] false), (26215425, .row [iv 0, iv 0] false)])
    (own' := [(26214400, .row [iv op, iv m, .fv (.sl (ks.map Tm.enc))] false), (26215425, .row [iv q.1, iv q.2] false)]) (by simp [lookupOwn]) (by simp [putOwn])
  simp only [S25_21, S25, ↓XX, ↓reduceIte, Nat.reduceBEq, decide_true, decide_false, Bool.not_true, Bool.not_false, List.map_cons, List.map_nil, List.length_map, List.length_cons, List.length_nil, Nat.reduceAdd, Int.cast_ofNat_Int, Int.natCast_zero, Int.natCast_one, Bool.false_eq_true, Bool.true_eq_false, decide_eq_true_eq, eq_self, Int.reduceEq, Int.reduceLT, Int.reduceLE, Bool.and_true, Bool.true_and, Bool.and_false, Bool.false_and, Nat.zero_add, ↓c2]
  exact ans_fv _ _
theorem kids_bld (s : Nat) (h : Hp) (k : IV → Hp → List Ref → List Ref → Option (IV × Hp)) : genS (pcBuild EE 136 [(0, .fv (.int .i64 (-1))), (1, .fv (.int .i64 0)), (2, .fv (.int .i64 0)), (3, .fv (.int .i64 2)), (4, .fv (.int .i64 2)), (5, .fv (.int .i64 2)), (6, .fv (.int .i64 2)), (7, .fv (.int .i64 3)), (8, .fv (.int .i64 1)), (9, .fv (.int .i64 1)), (10, .fv (.int .i64 0)), (11, .fv (.int .i64 0)), (12, .fv (.int .i64 1)), (13, .fv (.int .i64 4)), (14, .fv (.int .i64 0)), (15, .fv (.int .i64 0)), (16, .fv (.int .i64 2)), (17, .fv (.int .i64 2)), (18, .fv (.int .i64 1)), (19, .fv (.int .i64 1)), (20, .fv (.int .i64 2)), (21, .fv (.int .i64 2)), (22, .fv (.int .i64 2)), (23, .fv (.int .i64 1)), (24, .fv (.int .i64 1)), (25, .fv (.int .i64 0)), (26, .fv (.int .i64 2)), (27, .fv (.int .i64 3)), (28, .fv (.int .i64 2)), (29, .fv (.int .i64 2)), (30, .fv (.int .i64 1))]) s h k = k (.fv (.agg [.int .i64 (-1), .int .i64 0, .int .i64 0, .int .i64 2, .int .i64 2, .int .i64 2, .int .i64 2, .int .i64 3, .int .i64 1, .int .i64 1, .int .i64 0, .int .i64 0, .int .i64 1, .int .i64 4, .int .i64 0, .int .i64 0, .int .i64 2, .int .i64 2, .int .i64 1, .int .i64 1, .int .i64 2, .int .i64 2, .int .i64 2, .int .i64 1, .int .i64 1, .int .i64 0, .int .i64 2, .int .i64 3, .int .i64 2, .int .i64 2, .int .i64 1])) h [] [] := by
  have : pcBuild EE 136 [(0, .fv (.int .i64 (-1))), (1, .fv (.int .i64 0)), (2, .fv (.int .i64 0)), (3, .fv (.int .i64 2)), (4, .fv (.int .i64 2)), (5, .fv (.int .i64 2)), (6, .fv (.int .i64 2)), (7, .fv (.int .i64 3)), (8, .fv (.int .i64 1)), (9, .fv (.int .i64 1)), (10, .fv (.int .i64 0)), (11, .fv (.int .i64 0)), (12, .fv (.int .i64 1)), (13, .fv (.int .i64 4)), (14, .fv (.int .i64 0)), (15, .fv (.int .i64 0)), (16, .fv (.int .i64 2)), (17, .fv (.int .i64 2)), (18, .fv (.int .i64 1)), (19, .fv (.int .i64 1)), (20, .fv (.int .i64 2)), (21, .fv (.int .i64 2)), (22, .fv (.int .i64 2)), (23, .fv (.int .i64 1)), (24, .fv (.int .i64 1)), (25, .fv (.int .i64 0)), (26, .fv (.int .i64 2)), (27, .fv (.int .i64 3)), (28, .fv (.int .i64 2)), (29, .fv (.int .i64 2)), (30, .fv (.int .i64 1))] = Idl.val (.fv (.agg [.int .i64 (-1), .int .i64 0, .int .i64 0, .int .i64 2, .int .i64 2, .int .i64 2, .int .i64 2, .int .i64 3, .int .i64 1, .int .i64 1, .int .i64 0, .int .i64 0, .int .i64 1, .int .i64 4, .int .i64 0, .int .i64 0, .int .i64 2, .int .i64 2, .int .i64 1, .int .i64 1, .int .i64 2, .int .i64 2, .int .i64 2, .int .i64 1, .int .i64 1, .int .i64 0, .int .i64 2, .int .i64 3, .int .i64 2, .int .i64 2, .int .i64 1])) := by kernel_rfl
  rw [this]
  exact gen_val' _ _ _ _
theorem kids_out {n : Nat} {op : Int} (h : op < 0 ∨ 30 < op) : Ans (SS dt (n + 1) 102 [iv op] ⟨[], []⟩) (.int .i64 (-1)) := by
  rw [c102]
  by_cases h1 : op < 0
  · simp only [S102_29, S102, ↓XX, ↓reduceIte, Nat.reduceBEq, decide_true, decide_false, Bool.not_true, Bool.not_false, List.map_cons, List.map_nil, List.length_map, List.length_cons, List.length_nil, Nat.reduceAdd, Int.cast_ofNat_Int, Int.natCast_zero, Int.natCast_one, Bool.false_eq_true, Bool.true_eq_false, decide_eq_true_eq, eq_self, Int.reduceEq, Int.reduceLT, Int.reduceLE, Bool.and_true, Bool.true_and, Bool.and_false, Bool.false_and, Nat.zero_add, ↓kids_bld, h1]; exact ans_fv _ _
  · have h2 : 31 ≤ op := by omega
    simp only [S102_29, S102, ↓XX, ↓reduceIte, Nat.reduceBEq, decide_true, decide_false, Bool.not_true, Bool.not_false, List.map_cons, List.map_nil, List.length_map, List.length_cons, List.length_nil, Nat.reduceAdd, Int.cast_ofNat_Int, Int.natCast_zero, Int.natCast_one, Bool.false_eq_true, Bool.true_eq_false, decide_eq_true_eq, eq_self, Int.reduceEq, Int.reduceLT, Int.reduceLE, Bool.and_true, Bool.true_and, Bool.and_false, Bool.false_and, Nat.zero_add, ↓kids_bld, h1, h2]; exact ans_fv _ _
def isKids (k : Int) (o : Option (IV × Hp)) : Bool := match o with
  | some (.fv (.int .i64 m), ⟨_, []⟩) => decide (m = k)
  | _ => false
theorem ans_kids {k : Int} {o : Option (IV × Hp)} (h : isKids k o = true) : Ans o (.int .i64 k) := by
  unfold isKids at h
  split at h
  · have := of_decide_eq_true h
    subst this
    exact ans_fv _ _
  · cases h
theorem pkids_ok {n : Nat} (hn : 0 < n) (op : Int) : Ans (SS dt n 102 [iv op] ⟨[], []⟩) (.int .i64 (kidsN op)) := by
  obtain ⟨n, rfl⟩ : ∃ k, n = k + 1 := ⟨n - 1, by omega⟩
  rcases op_cases op with h | h
  · revert op
    refine fun op h => op_in (P := fun op => Ans (SS dt (n + 1) 102 [iv op] ⟨[], []⟩) (.int .i64 (kidsN op))) ?_ h
    intro k hk
    iterate 31 (rcases k with _ | k; · exact ans_kids (by kernel_rfl))
    omega
  · rw [kidsN_out h]
    exact kids_out h
noncomputable abbrev HC (op m : Int) (ks : List Tm) (N : Int) : Hp := ⟨[(74448896, .row [iv op, iv m, .fv (.sl (ks.map Tm.enc))] false)], [.row [iv N] false]⟩
theorem drop_r1 {base rm : List Nat} {vals : List IV} {own : List (Nat × Blk)} {a : FV} (hb : rm.any base.contains = false) (hf : flatD rm vals own [] = true) (k : Hp → Option (IV × Hp)) :
    dropS base rm vals ⟨own, [.row [.fv a] false]⟩ k = k ⟨stays rm vals own [], [.row [.fv a] false]⟩ := drop_x (by intro s; simp [Blk.refs, IV.refs.refsL, IV.refs]) hb hf k
theorem pcheck_ok : ∀ (n : Nat) (t : Tm) (N d : Int), 2 * t.wt + 2 < n → 0 ≤ N → N ≤ 3000 → 0 ≤ d → d ≤ 121 →
    AnsX (SS dt n 71 [.fv t.enc, .ptr (.ext 0) 0, iv d] ⟨[], [.row [iv N] false]⟩) (.int .i64 (t.chk N d).2) [.row [iv (t.chk N d).1] false] := by
  intro n
  induction n using Nat.strongRecOn with
  | ind n ih =>
    intro t N d hn h0 hN hd0 hd
    obtain ⟨op, m, ks⟩ := t
    simp only [Tm.wt] at hn
    obtain ⟨n, rfl⟩ : ∃ k, n = k + 1 := ⟨n - 1, by omega⟩
    rw [c71, enc_mk]
    have hlen := wt_len ks
    have hw : w64 (N + 1) = N + 1 := by rw [w64_id] <;> omega
    have hwd : w64 (d + 1) = d + 1 := by rw [w64_id] <;> omega
    have ha := pkids_ok (n := n) (by omega) op
    have hb := pnumber_ok (n := n) (by omega) op m
    rw [Tm.chk]
    by_cases c1 : 3000 < N + 1
    · rw [if_pos (.inl c1)]
      simp only [S71_121, S71_122, S71_123, S71_124, S71_125, S71_126, S71_127, S71_128, S71_129, S71_130, S71_131, S71, ↓XX, ↓reduceIte, Nat.reduceBEq, decide_true, decide_false, Bool.not_true, Bool.not_false, List.map_cons, List.map_nil, List.length_map, List.length_cons, List.length_nil, Nat.reduceAdd, Int.cast_ofNat_Int, Int.natCast_zero, Int.natCast_one, Bool.false_eq_true, Bool.true_eq_false, decide_eq_true_eq, eq_self, Int.reduceEq, Int.reduceLT, Int.reduceLE, Bool.and_true, Bool.true_and, Bool.and_false, Bool.false_and, Nat.zero_add, hw, c1]
      exact ansx_fv _ _ _
    by_cases c2 : 120 < d
    · rw [if_pos (.inr c2)]
      simp only [S71_121, S71_122, S71_123, S71_124, S71_125, S71_126, S71_127, S71_128, S71_129, S71_130, S71_131, S71, ↓XX, ↓reduceIte, Nat.reduceBEq, decide_true, decide_false, Bool.not_true, Bool.not_false, List.map_cons, List.map_nil, List.length_map, List.length_cons, List.length_nil, Nat.reduceAdd, Int.cast_ofNat_Int, Int.natCast_zero, Int.natCast_one, Bool.false_eq_true, Bool.true_eq_false, decide_eq_true_eq, eq_self, Int.reduceEq, Int.reduceLT, Int.reduceLE, Bool.and_true, Bool.true_and, Bool.and_false, Bool.false_and, Nat.zero_add, hw, c1, c2]
      exact ansx_fv _ _ _
    rw [if_neg (by omega)]
    by_cases c3 : kidsN op = (ks.length : Int)
    · cases hnb : numb op m
      · rw [hnb] at hb
        rw [if_pos (.inr rfl)]
        simp only [S71_121, S71_122, S71_123, S71_124, S71_125, S71_126, S71_127, S71_128, S71_129, S71_130, S71_131, S71, ↓XX, ↓reduceIte, Nat.reduceBEq, decide_true, decide_false, Bool.not_true, Bool.not_false, List.map_cons, List.map_nil, List.length_map, List.length_cons, List.length_nil, Nat.reduceAdd, Int.cast_ofNat_Int, Int.natCast_zero, Int.natCast_one, Bool.false_eq_true, Bool.true_eq_false, decide_eq_true_eq, eq_self, Int.reduceEq, Int.reduceLT, Int.reduceLE, Bool.and_true, Bool.true_and, Bool.and_false, Bool.false_and, Nat.zero_add, hw, c1, c2, ↓iso_1 ha, c3, ↓iso_2 hb]
        exact ansx_fv _ _ _
      · rw [hnb] at hb
        have hk4 := kidsN_le op
        rw [if_neg (by simp [c3])]
        simp only [S71_121, S71_122, S71_123, S71_125, S71_126, S71_127, S71_128, S71_129, S71_130, S71_131, S71, ↓XX, ↓reduceIte, Nat.reduceBEq, decide_true, decide_false, Bool.not_true, Bool.not_false, List.map_cons, List.map_nil, List.length_map, List.length_cons, List.length_nil, Nat.reduceAdd, Int.cast_ofNat_Int, Int.natCast_zero, Int.natCast_one, Bool.false_eq_true, Bool.true_eq_false, decide_eq_true_eq, eq_self, Int.reduceEq, Int.reduceLT, Int.reduceLE, Bool.and_true, Bool.true_and, Bool.and_false, Bool.false_and, Nat.zero_add, hw, c1, c2, ↓iso_1 ha, c3, ↓iso_2 hb, ↓drop_r1, ↓drop_e, XD, heldB, flatD, List.any_cons, List.any_nil, List.all_cons, List.all_nil, List.filter_cons, List.filter_nil, List.contains_cons, List.contains_nil, Bool.or_false, Bool.or_true, Bool.false_or, Bool.true_or, Bool.and_self, Bool.not_eq_true, BEq.rfl, beq_self_eq_true]
        refine loop_run (Q := fun r' => AnsX r' _ _) (fun k V H => ∃ pre rest N2, ks = pre ++ rest ∧ rest.length = k ∧ V = [.ptr (.ext 0) 0, iv d, .fv (.sl (ks.map Tm.enc)), iv ks.length, iv pre.length] ∧ H = HC op m ks N2 ∧
          0 ≤ N2 ∧ N2 ≤ 3000 ∧ Tm.chkL rest N2 (d + 1) = Tm.chkL ks (N + 1) (d + 1)) ?_ n ks.length _ _ (by omega) ⟨[], ks, N + 1, rfl, rfl, rfl, rfl, by omega, by omega, rfl⟩
        rintro k V H rec ⟨pre, rest, N2, hk, hkl, rfl, rfl, hN2, hN3, hr⟩ hrec
        have hkk : ks.length = pre.length + rest.length := by rw [hk]; simp
        cases rest with
        | nil =>
          have hno : ¬ ((pre.length : Int) < ks.length) := by rw [hkk]; simp
          rw [← hr]
          simp only [S71_121, S71_122, S71_123, S71_124, S71_125, S71_126, S71_127, S71_128, S71_129, S71_130, S71_131, S71, ↓XX, ↓reduceIte, Nat.reduceBEq, decide_true, decide_false, Bool.not_true, Bool.not_false, List.map_cons, List.map_nil, List.length_map, List.length_cons, List.length_nil, Nat.reduceAdd, Int.cast_ofNat_Int, Int.natCast_zero, Int.natCast_one, Bool.false_eq_true, Bool.true_eq_false, decide_eq_true_eq, eq_self, Int.reduceEq, Int.reduceLT, Int.reduceLE, Bool.and_true, Bool.true_and, Bool.and_false, Bool.false_and, Nat.zero_add, hno, Tm.chkL]
          exact ansx_fv _ _ _
        | cons t rest =>
          have hi : (pre.length : Int) < ks.length := by rw [hkk]; simp; omega
          have hg := at_pre hk
          have htw := wt_mem (t := t) (l := ks) (by rw [hk]; simp)
          have hc := ih n (by omega) t N2 (d + 1) (by omega) hN2 hN3 (by omega) (by omega)
          have hcb := chk_b t N2 (d + 1) hN3
          have hwi : w64 ((pre.length : Int) + 1) = ((pre ++ [t]).length : Int) := (w64_id (by omega) (by omega)).trans (by simp)
          rw [Tm.chkL] at hr
          rw [← hr]
          have h9 := fun e => hrec rest.length [.ptr (.ext 0) 0, iv d, .fv (.sl (ks.map Tm.enc)), iv ks.length, iv (pre ++ [t]).length] (HC op m ks (t.chk N2 (d + 1)).1) (by simp only [List.length_cons] at hkl; omega)
            ⟨pre ++ [t], rest, _, by rw [hk]; simp, rfl, rfl, rfl, by omega, (hcb.2.2 e).2.1, by rw [← hr, if_pos e]⟩
          rw [← hr] at h9
          generalize t.chk N2 (d + 1) = q at hc h9 ⊢
          obtain ⟨q1, q2⟩ := q
          simp only at hc h9 ⊢
          obtain ⟨o, p, l⟩ := t
          rw [enc_mk] at hc
          by_cases he : q2 = 0
          · subst he
            simp only [if_true] at h9 ⊢
            simp only [S71_121, S71_122, S71_123, S71_124, S71_125, S71_126, S71_127, S71_128, S71_129, S71_130, S71_131, S71, ↓XX, ↓reduceIte, Nat.reduceBEq, decide_true, decide_false, Bool.not_true, Bool.not_false, List.map_cons, List.map_nil, List.length_map, List.length_cons, List.length_nil, Nat.reduceAdd, Int.cast_ofNat_Int, Int.natCast_zero, Int.natCast_one, Bool.false_eq_true, Bool.true_eq_false, decide_eq_true_eq, eq_self, Int.reduceEq, Int.reduceLT, Int.reduceLE, Bool.and_true, Bool.true_and, Bool.and_false, Bool.false_and, Nat.zero_add, hi, ↓ix_f (map_get hg) (agg3l _ _ _), ↓agg3, hwd, ↓iso_mm3 hc (onex1 _ _), hwi, ↓drop_r1, ↓drop_e, XD, heldB, flatD, List.any_cons, List.any_nil, List.all_cons, List.all_nil, List.filter_cons, List.filter_nil, List.contains_cons, List.contains_nil, Bool.or_false, Bool.or_true, Bool.false_or, Bool.true_or, Bool.and_self, Bool.not_eq_true, BEq.rfl, beq_self_eq_true]
            exact h9 trivial
          · rw [if_neg he]
            simp only [S71_121, S71_122, S71_123, S71_124, S71_125, S71_126, S71_127, S71_128, S71_129, S71_130, S71_131, S71, ↓XX, ↓reduceIte, Nat.reduceBEq, decide_true, decide_false, Bool.not_true, Bool.not_false, List.map_cons, List.map_nil, List.length_map, List.length_cons, List.length_nil, Nat.reduceAdd, Int.cast_ofNat_Int, Int.natCast_zero, Int.natCast_one, Bool.false_eq_true, Bool.true_eq_false, decide_eq_true_eq, eq_self, Int.reduceEq, Int.reduceLT, Int.reduceLE, Bool.and_true, Bool.true_and, Bool.and_false, Bool.false_and, Nat.zero_add, hi, ↓ix_f (map_get hg) (agg3l _ _ _), ↓agg3, hwd, ↓iso_mm3 hc (onex1 _ _), he]
            exact ansx_fv _ _ _
    · rw [if_pos (.inl c3)]
      simp only [S71_121, S71_122, S71_123, S71_124, S71_125, S71_126, S71_127, S71_128, S71_129, S71_130, S71_131, S71, ↓XX, ↓reduceIte, Nat.reduceBEq, decide_true, decide_false, Bool.not_true, Bool.not_false, List.map_cons, List.map_nil, List.length_map, List.length_cons, List.length_nil, Nat.reduceAdd, Int.cast_ofNat_Int, Int.natCast_zero, Int.natCast_one, Bool.false_eq_true, Bool.true_eq_false, decide_eq_true_eq, eq_self, Int.reduceEq, Int.reduceLT, Int.reduceLE, Bool.and_true, Bool.true_and, Bool.and_false, Bool.false_and, Nat.zero_add, hw, c1, c2, ↓iso_1 ha, c3]
      exact ansx_fv _ _ _
theorem pCheck_ok {n : Nat} (t : Tm) (hn : 2 * t.wt + 3 < n) : Ans (SS dt n 49 [.fv t.enc] ⟨[], []⟩) (.int .i64 (t.chk 0 1).2) := by
  obtain ⟨n, rfl⟩ : ∃ k, n = k + 1 := ⟨n - 1, by omega⟩
  rw [c49]
  have h := pcheck_ok n t 0 1 (by omega) (by omega) (by omega) (by omega) (by omega)
  generalize t.chk 0 1 = q at h
  obtain ⟨op, m, ks⟩ := t
  rw [enc_mk] at h ⊢
  have c2 := fun k => iso_oo3 (k := k) h (x := .fv (.agg [.int .i64 op, .int .i64 m, .sl (ks.map Tm.enc)])) (y := iv 1) (s := 51381249) rfl rfl
    (own := [(51380224, .row [iv op, iv m, .fv (.sl (ks.map Tm.enc))] false), (51381249, .row [iv 0] false)])
    (own' := [(51380224, .row [iv op, iv m, .fv (.sl (ks.map Tm.enc))] false), (51381249, .row [iv q.1] false)]) (by simp [lookupOwn]) (by simp [putOwn])
  simp only [S49, ↓XX, ↓reduceIte, Nat.reduceBEq, decide_true, decide_false, Bool.not_true, Bool.not_false, List.map_cons, List.map_nil, List.length_map, List.length_cons, List.length_nil, Nat.reduceAdd, Int.cast_ofNat_Int, Int.natCast_zero, Int.natCast_one, Bool.false_eq_true, Bool.true_eq_false, decide_eq_true_eq, eq_self, Int.reduceEq, Int.reduceLT, Int.reduceLE, Bool.and_true, Bool.true_and, Bool.and_false, Bool.false_and, Nat.zero_add, ↓c2]
  exact ans_fv _ _
end Idl
end Go.Proofs.Ytdibmackcbpniaa
namespace Go.Proofs.Ytdibmackcbpniaa
namespace Idl
mutual
def Tm.count : Tm → Int → Int
  | .mk _ _ l, most => Tm.countL l 1 most
def Tm.countL : List Tm → Int → Int → Int
  | [], n, _ => n
  | t :: l, n, most => if n < most then Tm.countL l (n + t.count (most - n)) most else n
end
mutual
theorem count_le : ∀ (t : Tm) (m : Int), 1 ≤ t.count m ∧ (1 ≤ m → t.count m ≤ m)
  | .mk _ _ l, m => by
    have := countL_le l 1 m
    simp only [Tm.count]
    omega
theorem countL_le : ∀ (l : List Tm) (n m : Int), n ≤ Tm.countL l n m ∧ (n ≤ m → Tm.countL l n m ≤ m)
  | [], n, m => by simp only [Tm.countL]; omega
  | t :: l, n, m => by
    simp only [Tm.countL]
    split
    · have h1 := count_le t (m - n)
      have h2 := countL_le l (n + t.count (m - n)) m
      omega
    · omega
end
theorem count_ok : ∀ (n : Nat) (t : Tm) (most : Int), t.wt < n → most ≤ 4611686018427387904 → -4611686018427387904 ≤ most → Ans (SS dt n 40 [.fv t.enc, iv most] ⟨[], []⟩) (.int .i64 (t.count most)) := by
  intro n
  induction n with
  | zero => intro t most h; omega
  | succ n ih =>
    intro t most h hm hm'
    obtain ⟨op, m, ks⟩ := t
    simp only [Tm.wt] at h
    rw [c40, enc_mk]
    simp only [S40_53, S40_54, S40_55, S40_56, S40, ↓XX, ↓reduceIte, Nat.reduceBEq, decide_true, decide_false, Bool.not_true, Bool.not_false, List.map_cons, List.map_nil, List.length_map, List.length_cons, List.length_nil, Nat.reduceAdd, Int.cast_ofNat_Int, Int.natCast_zero, Int.natCast_one, Bool.false_eq_true, Bool.true_eq_false, decide_eq_true_eq, eq_self, Int.reduceEq, Int.reduceLT, Int.reduceLE, Bool.and_true, Bool.true_and, Bool.and_false, Bool.false_and, Nat.zero_add, Tm.count]
    refine loop_run (Q := fun r => Ans r _) (fun k V H => ∃ rest pre acc, ks = pre ++ rest ∧ rest.length = k ∧ (pre.length : Int) < acc ∧ (acc ≤ 1 ∨ acc ≤ most) ∧ V = [iv most, .ptr (.own 41943040) 0, iv acc, iv pre.length] ∧
      H = ⟨[(41943040, .row [iv op, iv m, .fv (.sl (ks.map Tm.enc))] false)], []⟩ ∧ Tm.countL rest acc most = Tm.countL ks 1 most) ?_ n ks.length _ _ (by have := wt_len ks; omega) ⟨ks, [], 1, rfl, rfl, by simp, .inl (by omega), rfl, rfl, rfl⟩
    rintro k V H rec ⟨rest, pre, acc, hk, hl, hpre, hacc, rfl, rfl, ht⟩ hrec
    have hlen : ks.length = pre.length + rest.length := by rw [hk]; simp
    cases rest with
    | nil =>
      rw [← ht]
      simp only [S40_53, S40_54, S40_55, S40_56, S40_57, S40, ↓XX, ↓reduceIte, Nat.reduceBEq, decide_true, decide_false, Bool.not_true, Bool.not_false, List.map_cons, List.map_nil, List.length_map, List.length_cons, List.length_nil, Nat.reduceAdd, Int.cast_ofNat_Int, Int.natCast_zero, Int.natCast_one, Bool.false_eq_true, Bool.true_eq_false, decide_eq_true_eq, eq_self, Int.reduceEq, Int.reduceLT, Int.reduceLE, Bool.and_true, Bool.true_and, Bool.and_false, Bool.false_and, Nat.zero_add, List.length_map, show ¬ ((pre.length : Int) < ks.length) by simp [hlen], Tm.countL]
      exact ans_fv _ _
    | cons t rest =>
      have hi : (pre.length : Int) < ks.length := by rw [hlen]; simp; omega
      by_cases ha : acc < most
      · have hg := at_pre hk
        obtain ⟨o, p, l⟩ := t
        have hb := count_le (.mk o p l) (most - acc)
        have hc := ih (.mk o p l) (most - acc) (by have := wt_mem (t := .mk o p l) (l := ks) (by rw [hk]; simp); omega) (by omega) (by omega)
        rw [enc_mk] at hc
        simp only [S40_53, S40_54, S40_55, S40_56, S40_57, S40, ↓XX, ↓reduceIte, Nat.reduceBEq, decide_true, decide_false, Bool.not_true, Bool.not_false, List.map_cons, List.map_nil, List.length_map, List.length_cons, List.length_nil, Nat.reduceAdd, Int.cast_ofNat_Int, Int.natCast_zero, Int.natCast_one, Bool.false_eq_true, Bool.true_eq_false, decide_eq_true_eq, eq_self, Int.reduceEq, Int.reduceLT, Int.reduceLE, Bool.and_true, Bool.true_and, Bool.and_false, Bool.false_and, Nat.zero_add, List.length_map, hi, ha, ↓ix_f (map_get hg) (agg3l _ _ _), ↓agg3, w64_id (show -9223372036854775808 ≤ most - acc by omega) (show most - acc ≤ 9223372036854775807 by omega), ↓iso_2 hc,
          w64_id (show -9223372036854775808 ≤ acc + (Tm.mk o p l).count (most - acc) by omega) (show acc + (Tm.mk o p l).count (most - acc) ≤ 9223372036854775807 by omega), w64_id (show -9223372036854775808 ≤ (pre.length : Int) + 1 by omega) (show (pre.length : Int) + 1 ≤ 9223372036854775807 by omega)]
        simp only [List.length_cons] at hl
        refine hrec rest.length _ _ (by omega) ?_
        refine ⟨rest, pre ++ [.mk o p l], acc + (Tm.mk o p l).count (most - acc), by rw [hk]; simp, rfl, by simp; omega, .inr (by omega), by simp, rfl, ?_⟩
        rw [← ht]
        simp only [Tm.countL, if_pos ha]
      · rw [← ht]
        simp only [S40_53, S40_54, S40_55, S40_56, S40_57, S40, ↓XX, ↓reduceIte, Nat.reduceBEq, decide_true, decide_false, Bool.not_true, Bool.not_false, List.map_cons, List.map_nil, List.length_map, List.length_cons, List.length_nil, Nat.reduceAdd, Int.cast_ofNat_Int, Int.natCast_zero, Int.natCast_one, Bool.false_eq_true, Bool.true_eq_false, decide_eq_true_eq, eq_self, Int.reduceEq, Int.reduceLT, Int.reduceLE, Bool.and_true, Bool.true_and, Bool.and_false, Bool.false_and, Nat.zero_add, List.length_map, hi, ha, Tm.countL]
        exact ans_fv _ _
end Idl
end Go.Proofs.Ytdibmackcbpniaa
namespace Go.Proofs.Ytdibmackcbpniaa
namespace Idl
theorem few_ok {n : Nat} (t : Tm) (h : t.wt < n) : Ans (SS dt (n + 1) 12 [.fv t.enc] ⟨[], []⟩) (.bool (decide (t.count 300 < 300))) := by
  rw [c12]
  have hc := count_ok n t 300 h (by omega) (by omega)
  obtain ⟨op, m, ks⟩ := t
  rw [enc_mk] at hc ⊢
  simp only [S12, ↓XX, ↓reduceIte, Nat.reduceBEq, decide_true, decide_false, Bool.not_true, Bool.not_false, List.map_cons, List.map_nil, List.length_map, List.length_cons, List.length_nil, Nat.reduceAdd, Int.cast_ofNat_Int, Int.natCast_zero, Int.natCast_one, Bool.false_eq_true, Bool.true_eq_false, decide_eq_true_eq, eq_self, Int.reduceEq, Int.reduceLT, Int.reduceLE, Bool.and_true, Bool.true_and, Bool.and_false, Bool.false_and, Nat.zero_add, ↓iso_2 hc]
  exact ans_fv _ _
def Tm.plainT : Nat → Tm → Tm
  | 0, _ => .mk 15 0 []
  | d + 1, r => if r.n % 4 < 2 then .mk 15 0 [] else .mk (16 + r.n % 4 - 2) 0 [plainT d (r.pick 0), plainT d (r.pick 1)]
theorem plainT_ok : ∀ (d n : Nat) (r : Tm), d + 1 < n → d ≤ 1000 → Ans (SS dt n 14 [.fv r.enc, iv d] ⟨[], []⟩) (r.plainT d).enc := by
  intro d
  induction d with
  | zero =>
    intro n r hn _
    obtain ⟨n, rfl⟩ : ∃ k, n = k + 1 := ⟨n - 1, by omega⟩
    rw [c14]
    have hw := within4_ok (n := n) (by omega) r.n (m := 4) (by omega) (by omega)
    obtain ⟨op, m, ks⟩ := r
    rw [enc_mk]
    simp only [Tm.n] at hw
    simp only [S14_75, S14_76, S14_77, S14_78, S14_79, S14_80, S14_81, S14, ↓XX, ↓reduceIte, Nat.reduceBEq, decide_true, decide_false, Bool.not_true, Bool.not_false, List.map_cons, List.map_nil, List.length_map, List.length_cons, List.length_nil, Nat.reduceAdd, Int.cast_ofNat_Int, Int.natCast_zero, Int.natCast_one, Bool.false_eq_true, Bool.true_eq_false, decide_eq_true_eq, eq_self, Int.reduceEq, Int.reduceLT, Int.reduceLE, Bool.and_true, Bool.true_and, Bool.and_false, Bool.false_and, Nat.zero_add, ↓iso_2 hw, ↓iso_2 (t0_ok (n := n) (by omega) 15), Tm.plainT, enc_mk]
    exact ans_p rfl _
  | succ d ih =>
    intro n r hn hd
    obtain ⟨n, rfl⟩ : ∃ k, n = k + 1 := ⟨n - 1, by omega⟩
    rw [c14]
    have hw := within4_ok (n := n) (by omega) r.n (m := 4) (by omega) (by omega)
    have h0 := ih n (r.pick 0) (by omega) (by omega)
    have h1 := ih n (r.pick 1) (by omega) (by omega)
    have p0 := pick_ok (n := n) (by omega) r 0
    have p1 := pick_ok (n := n) (by omega) r 1
    have ht := t_ok (n := n) (by omega) (16 + r.n % 4 - 2) [(r.pick 0).plainT d, (r.pick 1).plainT d]
    have hb0 : ¬ ((d + 1 : Nat) : Int) ≤ 0 := by omega
    have hm : w64 (((d + 1 : Nat) : Int) - 1) = d := by rw [w64_id] <;> omega
    have hr := Int.emod_nonneg r.n (show (4 : Int) ≠ 0 by decide)
    have hr2 := Int.emod_lt_of_pos r.n (show (0 : Int) < 4 by decide)
    have e1 : w64 (16 + r.n % 4) = 16 + r.n % 4 := by rw [w64_id] <;> omega
    have e2 : w64 (16 + r.n % 4 - 2) = 16 + r.n % 4 - 2 := by rw [w64_id] <;> omega
    simp only [List.map_cons, List.map_nil] at ht
    rw [Tm.plainT]
    obtain ⟨op, m, ks⟩ := r
    rw [enc_mk] at p0 p1 ⊢
    simp only [Tm.n] at *
    by_cases hk : m % 4 < 2
    · simp only [S14_75, S14_76, S14_77, S14_78, S14_79, S14_80, S14_81, S14, ↓XX, ↓reduceIte, Nat.reduceBEq, decide_true, decide_false, Bool.not_true, Bool.not_false, List.map_cons, List.map_nil, List.length_map, List.length_cons, List.length_nil, Nat.reduceAdd, Int.cast_ofNat_Int, Int.natCast_zero, Int.natCast_one, Bool.false_eq_true, Bool.true_eq_false, decide_eq_true_eq, eq_self, Int.reduceEq, Int.reduceLT, Int.reduceLE, Bool.and_true, Bool.true_and, Bool.and_false, Bool.false_and, Nat.zero_add, ↓iso_2 hw, Tm.n, ↓iso_2 (t0_ok (n := n) (by omega) 15), hb0, hk, enc_mk]
      exact ans_p rfl _
    · simp only [S14_75, S14_76, S14_77, S14_78, S14_79, S14_80, S14_81, S14, ↓XX, ↓reduceIte, Nat.reduceBEq, decide_true, decide_false, Bool.not_true, Bool.not_false, List.map_cons, List.map_nil, List.length_map, List.length_cons, List.length_nil, Nat.reduceAdd, Int.cast_ofNat_Int, Int.natCast_zero, Int.natCast_one, Bool.false_eq_true, Bool.true_eq_false, decide_eq_true_eq, eq_self, Int.reduceEq, Int.reduceLT, Int.reduceLE, Bool.and_true, Bool.true_and, Bool.and_false, Bool.false_and, Nat.zero_add, ↓iso_2 hw, hb0, hk, e1, e2, hm, ↓iso_2 p0, ↓iso_2 p1, ↓iso_2 h0, ↓iso_2 h1, ↓bs2_tm, ↓iso_2 ht]
      simp only [↓XX, ↓reduceIte, Nat.reduceBEq, decide_true, decide_false, Bool.not_true, Bool.not_false, List.map_cons, List.map_nil, List.length_map, List.length_cons, List.length_nil, Nat.reduceAdd, Int.cast_ofNat_Int, Int.natCast_zero, Int.natCast_one, Bool.false_eq_true, Bool.true_eq_false, decide_eq_true_eq, eq_self, Int.reduceEq, Int.reduceLT, Int.reduceLE, Bool.and_true, Bool.true_and, Bool.and_false, Bool.false_and, Nat.zero_add, enc_mk]
      exact ans_p rfl _
end Idl
end Go.Proofs.Ytdibmackcbpniaa
namespace Go.Proofs.Ytdibmackcbpniaa
namespace Idl
def isTrueE (o : Option (IV × Hp)) : Bool := match o with
  | some (.fv (.bool b), ⟨_, []⟩) => b
  | _ => false
theorem ans_true {o : Option (IV × Hp)} (h : isTrueE o = true) : Ans o (.bool true) := by
  unfold isTrueE at h
  split at h
  · subst h; exact ans_fv _ _
  · cases h
def Tm.typed : Tm → Bool
  | .mk op _ [] => decide (op = 15)
  | .mk op _ [a, b] => (decide (op = 16) || decide (op = 17)) && (a.typed && b.typed)
  | _ => false
theorem typed1 (op m : Int) (a : Tm) : (Tm.mk op m [a]).typed = false := by rw [Tm.typed] <;> simp
theorem typed3 (op m : Int) (a b c : Tm) (l : List Tm) : (Tm.mk op m (a :: b :: c :: l)).typed = false := by rw [Tm.typed] <;> simp
theorem typed_ok : ∀ (n : Nat) (t : Tm), t.wt < n → Ans (SS dt n 52 [.fv t.enc] ⟨[], []⟩) (.bool t.typed) := by
  intro n
  induction n with
  | zero => intro t h; omega
  | succ n ih =>
    intro t h
    rw [c52]
    obtain ⟨op, m, ks⟩ := t
    simp only [Tm.wt] at h
    rw [enc_mk]
    by_cases h1 : op = 15
    · subst h1
      match ks with
      | [] => simp only [S52_89, S52_90, S52_91, S52_92, S52_93, S52_94, S52, ↓XX, ↓reduceIte, Nat.reduceBEq, decide_true, decide_false, Bool.not_true, Bool.not_false, List.map_cons, List.map_nil, List.length_map, List.length_cons, List.length_nil, Nat.reduceAdd, Int.cast_ofNat_Int, Int.natCast_zero, Int.natCast_one, Bool.false_eq_true, Bool.true_eq_false, decide_eq_true_eq, eq_self, Int.reduceEq, Int.reduceLT, Int.reduceLE, Bool.and_true, Bool.true_and, Bool.and_false, Bool.false_and, Nat.zero_add, Tm.typed]; exact ans_fv _ _
      | [_] => simp only [S52_89, S52_90, S52_91, S52_92, S52_93, S52_94, S52, ↓XX, ↓reduceIte, Nat.reduceBEq, decide_true, decide_false, Bool.not_true, Bool.not_false, List.map_cons, List.map_nil, List.length_map, List.length_cons, List.length_nil, Nat.reduceAdd, Int.cast_ofNat_Int, Int.natCast_zero, Int.natCast_one, Bool.false_eq_true, Bool.true_eq_false, decide_eq_true_eq, eq_self, Int.reduceEq, Int.reduceLT, Int.reduceLE, Bool.and_true, Bool.true_and, Bool.and_false, Bool.false_and, Nat.zero_add, typed1]; exact ans_fv _ _
      | [a, b] => simp only [S52_89, S52_90, S52_91, S52_92, S52_93, S52_94, S52, ↓XX, ↓reduceIte, Nat.reduceBEq, decide_true, decide_false, Bool.not_true, Bool.not_false, List.map_cons, List.map_nil, List.length_map, List.length_cons, List.length_nil, Nat.reduceAdd, Int.cast_ofNat_Int, Int.natCast_zero, Int.natCast_one, Bool.false_eq_true, Bool.true_eq_false, decide_eq_true_eq, eq_self, Int.reduceEq, Int.reduceLT, Int.reduceLE, Bool.and_true, Bool.true_and, Bool.and_false, Bool.false_and, Nat.zero_add, Tm.typed]; exact ans_fv _ _
      | a :: b :: c :: l =>
        have : ¬ ((l.length : Int) + 1 + 1 + 1 = 0) := by omega
        simp only [S52_89, S52_90, S52_91, S52_92, S52_93, S52_94, S52, ↓XX, ↓reduceIte, Nat.reduceBEq, decide_true, decide_false, Bool.not_true, Bool.not_false, List.map_cons, List.map_nil, List.length_map, List.length_cons, List.length_nil, Nat.reduceAdd, Int.cast_ofNat_Int, Int.natCast_zero, Int.natCast_one, Bool.false_eq_true, Bool.true_eq_false, decide_eq_true_eq, eq_self, Int.reduceEq, Int.reduceLT, Int.reduceLE, Bool.and_true, Bool.true_and, Bool.and_false, Bool.false_and, Nat.zero_add, Int.natCast_add, typed3, this]; exact ans_fv _ _
    · by_cases h2 : op = 16 ∨ op = 17
      · match ks with
        | [] => rcases h2 with rfl | rfl <;> (simp only [S52_89, S52_90, S52_91, S52_92, S52_93, S52_94, S52, ↓XX, ↓reduceIte, Nat.reduceBEq, decide_true, decide_false, Bool.not_true, Bool.not_false, List.map_cons, List.map_nil, List.length_map, List.length_cons, List.length_nil, Nat.reduceAdd, Int.cast_ofNat_Int, Int.natCast_zero, Int.natCast_one, Bool.false_eq_true, Bool.true_eq_false, decide_eq_true_eq, eq_self, Int.reduceEq, Int.reduceLT, Int.reduceLE, Bool.and_true, Bool.true_and, Bool.and_false, Bool.false_and, Nat.zero_add, Tm.typed]; exact ans_fv _ _)
        | [_] => rcases h2 with rfl | rfl <;> (simp only [S52_89, S52_90, S52_91, S52_92, S52_93, S52_94, S52, ↓XX, ↓reduceIte, Nat.reduceBEq, decide_true, decide_false, Bool.not_true, Bool.not_false, List.map_cons, List.map_nil, List.length_map, List.length_cons, List.length_nil, Nat.reduceAdd, Int.cast_ofNat_Int, Int.natCast_zero, Int.natCast_one, Bool.false_eq_true, Bool.true_eq_false, decide_eq_true_eq, eq_self, Int.reduceEq, Int.reduceLT, Int.reduceLE, Bool.and_true, Bool.true_and, Bool.and_false, Bool.false_and, Nat.zero_add, typed1]; exact ans_fv _ _)
        | [a, b] =>
          simp only [Tm.wtL] at h
          have ha := ih a (by omega)
          have hb := ih b (by omega)
          rw [Tm.typed]
          generalize a.typed = x at ha ⊢
          generalize b.typed = y at hb ⊢
          obtain ⟨o1, n1, k1⟩ := a
          obtain ⟨o2, n2, k2⟩ := b
          simp only [enc_mk] at ha hb
          cases x
          · rcases h2 with rfl | rfl <;> (simp only [S52_89, S52_90, S52_91, S52_92, S52_93, S52_94, S52, ↓XX, ↓reduceIte, Nat.reduceBEq, decide_true, decide_false, Bool.not_true, Bool.not_false, List.map_cons, List.map_nil, List.length_map, List.length_cons, List.length_nil, Nat.reduceAdd, Int.cast_ofNat_Int, Int.natCast_zero, Int.natCast_one, Bool.false_eq_true, Bool.true_eq_false, decide_eq_true_eq, eq_self, Int.reduceEq, Int.reduceLT, Int.reduceLE, Bool.and_true, Bool.true_and, Bool.and_false, Bool.false_and, Nat.zero_add, enc_mk, ↓iso_1 ha]; exact ans_fv _ _)
          · rcases h2 with rfl | rfl <;> (simp only [S52_89, S52_90, S52_91, S52_92, S52_93, S52_94, S52, ↓XX, ↓reduceIte, Nat.reduceBEq, decide_true, decide_false, Bool.not_true, Bool.not_false, List.map_cons, List.map_nil, List.length_map, List.length_cons, List.length_nil, Nat.reduceAdd, Int.cast_ofNat_Int, Int.natCast_zero, Int.natCast_one, Bool.false_eq_true, Bool.true_eq_false, decide_eq_true_eq, eq_self, Int.reduceEq, Int.reduceLT, Int.reduceLE, Bool.and_true, Bool.true_and, Bool.and_false, Bool.false_and, Nat.zero_add, enc_mk, ↓iso_1 ha, ↓iso_1 hb]; exact ans_fv _ _)
        | a :: b :: c :: l =>
          have : ¬ ((l.length : Int) + 1 + 1 + 1 = 2) := by omega
          rcases h2 with rfl | rfl <;> (simp only [S52_89, S52_90, S52_91, S52_92, S52_93, S52_94, S52, ↓XX, ↓reduceIte, Nat.reduceBEq, decide_true, decide_false, Bool.not_true, Bool.not_false, List.map_cons, List.map_nil, List.length_map, List.length_cons, List.length_nil, Nat.reduceAdd, Int.cast_ofNat_Int, Int.natCast_zero, Int.natCast_one, Bool.false_eq_true, Bool.true_eq_false, decide_eq_true_eq, eq_self, Int.reduceEq, Int.reduceLT, Int.reduceLE, Bool.and_true, Bool.true_and, Bool.and_false, Bool.false_and, Nat.zero_add, Int.natCast_add, typed3, this]; exact ans_fv _ _)
      · have h3 : op ≠ 16 := fun e => h2 (.inl e)
        have h4 : op ≠ 17 := fun e => h2 (.inr e)
        have : (Tm.mk op m ks).typed = false := by
          match ks with
          | [] => simp [Tm.typed, h1]
          | [_] => exact typed1 ..
          | [a, b] => simp [Tm.typed, h3, h4]
          | a :: b :: c :: l => exact typed3 ..
        rw [this]
        simp only [S52_89, S52_90, S52_91, S52_92, S52_93, S52_94, S52, ↓XX, ↓reduceIte, Nat.reduceBEq, decide_true, decide_false, Bool.not_true, Bool.not_false, List.map_cons, List.map_nil, List.length_map, List.length_cons, List.length_nil, Nat.reduceAdd, Int.cast_ofNat_Int, Int.natCast_zero, Int.natCast_one, Bool.false_eq_true, Bool.true_eq_false, decide_eq_true_eq, eq_self, Int.reduceEq, Int.reduceLT, Int.reduceLE, Bool.and_true, Bool.true_and, Bool.and_false, Bool.false_and, Nat.zero_add, h1, h3, h4]
        exact ans_fv _ _
def Tm.fits : Tm → Tm → Bool
  | .mk k n [], a => (decide (k = 1) && decide (a.op = 15)) || (decide (k = 3) && (decide (a.op = 16) && decide (n = 0)))
  | .mk k n [x, y], a => (decide (k = 2) && (decide (n = 0) && decide (a.op = 17))) && (match a.kids with
    | [p, q] => x.fits p && y.fits q
    | _ => false)
  | _, _ => false
theorem fits1 (k n : Int) (x a : Tm) : (Tm.mk k n [x]).fits a = false := by rw [Tm.fits] <;> simp
theorem fits3 (k n : Int) (x y z : Tm) (l : List Tm) (a : Tm) : (Tm.mk k n (x :: y :: z :: l)).fits a = false := by rw [Tm.fits] <;> simp
theorem fits_ok : ∀ (n : Nat) (v a : Tm), v.wt + a.wt < n → a.typed = true → Ans (SS dt n 32 [.fv v.enc, .fv a.enc] ⟨[], []⟩) (.bool (v.fits a)) := by
  intro n
  induction n with
  | zero => intro v a h; omega
  | succ n ih =>
    intro v a h ht
    rw [c32]
    have hty := typed_ok n a (by have := wt_pos v; omega)
    rw [ht] at hty
    obtain ⟨k, m, l⟩ := v
    obtain ⟨op, p, ks⟩ := a
    simp only [Tm.wt] at h
    rw [enc_mk] at hty ⊢
    rw [enc_mk]
    by_cases h1 : k = 1
    · subst h1
      have : ∀ (b : Bool), (Tm.mk 1 m l).fits (.mk op p ks) = b → b = (decide (op = 15) && decide ((l.length : Int) = 0)) := by
        intro b hb
        subst hb
        match l with
        | [] => simp [Tm.fits, Tm.op]; rfl
        | [_] => rw [fits1]; simp
        | [_, _] => simp [Tm.fits]
        | x :: y :: z :: l => rw [fits3]; have : ¬ ((l.length : Int) + 1 + 1 + 1 = 0) := by omega
                              simp [this]
      rw [this _ rfl]
      by_cases h2 : op = 15
      · simp only [S32_250, S32_251, S32_252, S32_253, S32_254, S32_255, S32_256, S32_257, S32_258, S32_259, S32_260, S32_261, S32_262, S32_263, S32_264, S32_265, S32_266, S32, ↓XX, ↓reduceIte, Nat.reduceBEq, decide_true, decide_false, Bool.not_true, Bool.not_false, List.map_cons, List.map_nil, List.length_map, List.length_cons, List.length_nil, Nat.reduceAdd, Int.cast_ofNat_Int, Int.natCast_zero, Int.natCast_one, Bool.false_eq_true, Bool.true_eq_false, decide_eq_true_eq, eq_self, Int.reduceEq, Int.reduceLT, Int.reduceLE, Bool.and_true, Bool.true_and, Bool.and_false, Bool.false_and, Nat.zero_add, ↓iso_1 hty, h2]; exact ans_fv _ _
      · simp only [S32_250, S32_251, S32_252, S32_253, S32_254, S32_255, S32_256, S32_257, S32_258, S32_259, S32_260, S32_261, S32_262, S32_263, S32_264, S32_265, S32_266, S32, ↓XX, ↓reduceIte, Nat.reduceBEq, decide_true, decide_false, Bool.not_true, Bool.not_false, List.map_cons, List.map_nil, List.length_map, List.length_cons, List.length_nil, Nat.reduceAdd, Int.cast_ofNat_Int, Int.natCast_zero, Int.natCast_one, Bool.false_eq_true, Bool.true_eq_false, decide_eq_true_eq, eq_self, Int.reduceEq, Int.reduceLT, Int.reduceLE, Bool.and_true, Bool.true_and, Bool.and_false, Bool.false_and, Nat.zero_add, ↓iso_1 hty, h2]; exact ans_fv _ _
    · by_cases h3 : k = 3
      · subst h3
        have : ∀ (b : Bool), (Tm.mk 3 m l).fits (.mk op p ks) = b → b = (decide (op = 16) && (decide (m = 0) && decide ((l.length : Int) = 0))) := by
          intro b hb
          subst hb
          match l with
          | [] => simp [Tm.fits, Tm.op]; rfl
          | [_] => rw [fits1]; simp
          | [_, _] => simp [Tm.fits]
          | x :: y :: z :: l => rw [fits3]; have : ¬ ((l.length : Int) + 1 + 1 + 1 = 0) := by omega
                                simp [this]
        rw [this _ rfl]
        by_cases h2 : op = 16
        · by_cases h4 : m = 0
          · simp only [S32_250, S32_251, S32_252, S32_253, S32_254, S32_255, S32_256, S32_257, S32_258, S32_259, S32_260, S32_261, S32_262, S32_263, S32_264, S32_265, S32_266, S32, ↓XX, ↓reduceIte, Nat.reduceBEq, decide_true, decide_false, Bool.not_true, Bool.not_false, List.map_cons, List.map_nil, List.length_map, List.length_cons, List.length_nil, Nat.reduceAdd, Int.cast_ofNat_Int, Int.natCast_zero, Int.natCast_one, Bool.false_eq_true, Bool.true_eq_false, decide_eq_true_eq, eq_self, Int.reduceEq, Int.reduceLT, Int.reduceLE, Bool.and_true, Bool.true_and, Bool.and_false, Bool.false_and, Nat.zero_add, ↓iso_1 hty, h2, h4]; exact ans_fv _ _
          · simp only [S32_250, S32_251, S32_252, S32_253, S32_254, S32_255, S32_256, S32_257, S32_258, S32_259, S32_260, S32_261, S32_262, S32_263, S32_264, S32_265, S32_266, S32, ↓XX, ↓reduceIte, Nat.reduceBEq, decide_true, decide_false, Bool.not_true, Bool.not_false, List.map_cons, List.map_nil, List.length_map, List.length_cons, List.length_nil, Nat.reduceAdd, Int.cast_ofNat_Int, Int.natCast_zero, Int.natCast_one, Bool.false_eq_true, Bool.true_eq_false, decide_eq_true_eq, eq_self, Int.reduceEq, Int.reduceLT, Int.reduceLE, Bool.and_true, Bool.true_and, Bool.and_false, Bool.false_and, Nat.zero_add, ↓iso_1 hty, h2, h4]; exact ans_fv _ _
        · simp only [S32_250, S32_251, S32_252, S32_253, S32_254, S32_255, S32_256, S32_257, S32_258, S32_259, S32_260, S32_261, S32_262, S32_263, S32_264, S32_265, S32_266, S32, ↓XX, ↓reduceIte, Nat.reduceBEq, decide_true, decide_false, Bool.not_true, Bool.not_false, List.map_cons, List.map_nil, List.length_map, List.length_cons, List.length_nil, Nat.reduceAdd, Int.cast_ofNat_Int, Int.natCast_zero, Int.natCast_one, Bool.false_eq_true, Bool.true_eq_false, decide_eq_true_eq, eq_self, Int.reduceEq, Int.reduceLT, Int.reduceLE, Bool.and_true, Bool.true_and, Bool.and_false, Bool.false_and, Nat.zero_add, ↓iso_1 hty, h2]; exact ans_fv _ _
      · have hno : (Tm.mk k m l).fits (.mk op p ks) = false → Ans (S32 (SS dt n) n (IV.fv (FV.agg [FV.int IntKind.i64 k, FV.int IntKind.i64 m, FV.sl (List.map Tm.enc l)])) (IV.fv (FV.agg [FV.int IntKind.i64 op, FV.int IntKind.i64 p, FV.sl (List.map Tm.enc ks)])) ⟨[], []⟩) (.bool false) →
            Ans (S32 (SS dt n) n (IV.fv (FV.agg [FV.int IntKind.i64 k, FV.int IntKind.i64 m, FV.sl (List.map Tm.enc l)])) (IV.fv (FV.agg [FV.int IntKind.i64 op, FV.int IntKind.i64 p, FV.sl (List.map Tm.enc ks)])) ⟨[], []⟩) (.bool ((Tm.mk k m l).fits (.mk op p ks))) := fun h1 h2 => by rw [h1]; exact h2
        by_cases h2 : k = 2
        · by_cases h4 : m = 0
          · match l with
            | [] => exact hno (by simp [Tm.fits, h1, h3]) (by simp only [S32_250, S32_251, S32_252, S32_253, S32_254, S32_255, S32_256, S32_257, S32_258, S32_259, S32_260, S32_261, S32_262, S32_263, S32_264, S32_265, S32_266, S32, ↓XX, ↓reduceIte, Nat.reduceBEq, decide_true, decide_false, Bool.not_true, Bool.not_false, List.map_cons, List.map_nil, List.length_map, List.length_cons, List.length_nil, Nat.reduceAdd, Int.cast_ofNat_Int, Int.natCast_zero, Int.natCast_one, Bool.false_eq_true, Bool.true_eq_false, decide_eq_true_eq, eq_self, Int.reduceEq, Int.reduceLT, Int.reduceLE, Bool.and_true, Bool.true_and, Bool.and_false, Bool.false_and, Nat.zero_add, ↓iso_1 hty, h1, h2, h3, h4]; exact ans_fv _ _)
            | [_] => exact hno (fits1 ..) (by simp only [S32_250, S32_251, S32_252, S32_253, S32_254, S32_255, S32_256, S32_257, S32_258, S32_259, S32_260, S32_261, S32_262, S32_263, S32_264, S32_265, S32_266, S32, ↓XX, ↓reduceIte, Nat.reduceBEq, decide_true, decide_false, Bool.not_true, Bool.not_false, List.map_cons, List.map_nil, List.length_map, List.length_cons, List.length_nil, Nat.reduceAdd, Int.cast_ofNat_Int, Int.natCast_zero, Int.natCast_one, Bool.false_eq_true, Bool.true_eq_false, decide_eq_true_eq, eq_self, Int.reduceEq, Int.reduceLT, Int.reduceLE, Bool.and_true, Bool.true_and, Bool.and_false, Bool.false_and, Nat.zero_add, ↓iso_1 hty, h1, h2, h3, h4]; exact ans_fv _ _)
            | x :: y :: z :: l =>
              have : ¬ ((l.length : Int) + 1 + 1 + 1 = 2) := by omega
              exact hno (fits3 ..) (by simp only [S32_250, S32_251, S32_252, S32_253, S32_254, S32_255, S32_256, S32_257, S32_258, S32_259, S32_260, S32_261, S32_262, S32_263, S32_264, S32_265, S32_266, S32, ↓XX, ↓reduceIte, Nat.reduceBEq, decide_true, decide_false, Bool.not_true, Bool.not_false, List.map_cons, List.map_nil, List.length_map, List.length_cons, List.length_nil, Nat.reduceAdd, Int.cast_ofNat_Int, Int.natCast_zero, Int.natCast_one, Bool.false_eq_true, Bool.true_eq_false, decide_eq_true_eq, eq_self, Int.reduceEq, Int.reduceLT, Int.reduceLE, Bool.and_true, Bool.true_and, Bool.and_false, Bool.false_and, Nat.zero_add, ↓iso_1 hty, h1, h2, h3, h4, Int.natCast_add, this]; exact ans_fv _ _)
            | [x, y] =>
              by_cases h5 : op = 17
              · subst h5
                match ks, ht with
                | [], ht => simp [Tm.typed] at ht
                | [_], ht => rw [typed1] at ht; cases ht
                | x :: y :: z :: l, ht => rw [typed3] at ht; cases ht
                | [q, r], ht =>
                  simp only [Tm.typed, Bool.and_eq_true] at ht
                  simp only [Tm.wtL] at h
                  have ha := ih x q (by omega) ht.2.1
                  have hb := ih y r (by omega) ht.2.2
                  rw [Tm.fits]
                  simp only [Tm.kids, Tm.op]
                  generalize x.fits q = u at ha ⊢
                  generalize y.fits r = w at hb ⊢
                  obtain ⟨o1, n1, k1⟩ := x
                  obtain ⟨o2, n2, k2⟩ := y
                  obtain ⟨o3, n3, k3⟩ := q
                  obtain ⟨o4, n4, k4⟩ := r
                  subst h2 h4
                  simp only [List.map_cons, List.map_nil, enc_mk] at ha hb hty
                  cases u
                  · simp only [S32_250, S32_251, S32_252, S32_253, S32_254, S32_255, S32_256, S32_257, S32_258, S32_259, S32_260, S32_261, S32_262, S32_263, S32_264, S32_265, S32_266, S32, ↓XX, ↓reduceIte, Nat.reduceBEq, decide_true, decide_false, Bool.not_true, Bool.not_false, List.map_cons, List.map_nil, List.length_map, List.length_cons, List.length_nil, Nat.reduceAdd, Int.cast_ofNat_Int, Int.natCast_zero, Int.natCast_one, Bool.false_eq_true, Bool.true_eq_false, decide_eq_true_eq, eq_self, Int.reduceEq, Int.reduceLT, Int.reduceLE, Bool.and_true, Bool.true_and, Bool.and_false, Bool.false_and, Nat.zero_add, enc_mk, ↓iso_1 hty, ↓iso_2 ha]; exact ans_fv _ _
                  · simp only [S32_250, S32_251, S32_252, S32_253, S32_254, S32_255, S32_256, S32_257, S32_258, S32_259, S32_260, S32_261, S32_262, S32_263, S32_264, S32_265, S32_266, S32, ↓XX, ↓reduceIte, Nat.reduceBEq, decide_true, decide_false, Bool.not_true, Bool.not_false, List.map_cons, List.map_nil, List.length_map, List.length_cons, List.length_nil, Nat.reduceAdd, Int.cast_ofNat_Int, Int.natCast_zero, Int.natCast_one, Bool.false_eq_true, Bool.true_eq_false, decide_eq_true_eq, eq_self, Int.reduceEq, Int.reduceLT, Int.reduceLE, Bool.and_true, Bool.true_and, Bool.and_false, Bool.false_and, Nat.zero_add, enc_mk, ↓iso_1 hty, ↓iso_2 ha, ↓iso_2 hb]; exact ans_fv _ _
              · exact hno (by simp [Tm.fits, Tm.op, h5]) (by simp only [S32_250, S32_251, S32_252, S32_253, S32_254, S32_255, S32_256, S32_257, S32_258, S32_259, S32_260, S32_261, S32_262, S32_263, S32_264, S32_265, S32_266, S32, ↓XX, ↓reduceIte, Nat.reduceBEq, decide_true, decide_false, Bool.not_true, Bool.not_false, List.map_cons, List.map_nil, List.length_map, List.length_cons, List.length_nil, Nat.reduceAdd, Int.cast_ofNat_Int, Int.natCast_zero, Int.natCast_one, Bool.false_eq_true, Bool.true_eq_false, decide_eq_true_eq, eq_self, Int.reduceEq, Int.reduceLT, Int.reduceLE, Bool.and_true, Bool.true_and, Bool.and_false, Bool.false_and, Nat.zero_add, ↓iso_1 hty, h1, h2, h3, h4, h5]; exact ans_fv _ _)
          · have : (Tm.mk k m l).fits (.mk op p ks) = false := by
              match l with
              | [] => simp [Tm.fits, h1, h3]
              | [_] => exact fits1 ..
              | [_, _] => simp [Tm.fits, h4]
              | x :: y :: z :: l => exact fits3 ..
            exact hno this (by simp only [S32_250, S32_251, S32_252, S32_253, S32_254, S32_255, S32_256, S32_257, S32_258, S32_259, S32_260, S32_261, S32_262, S32_263, S32_264, S32_265, S32_266, S32, ↓XX, ↓reduceIte, Nat.reduceBEq, decide_true, decide_false, Bool.not_true, Bool.not_false, List.map_cons, List.map_nil, List.length_map, List.length_cons, List.length_nil, Nat.reduceAdd, Int.cast_ofNat_Int, Int.natCast_zero, Int.natCast_one, Bool.false_eq_true, Bool.true_eq_false, decide_eq_true_eq, eq_self, Int.reduceEq, Int.reduceLT, Int.reduceLE, Bool.and_true, Bool.true_and, Bool.and_false, Bool.false_and, Nat.zero_add, ↓iso_1 hty, h1, h2, h3, h4]; exact ans_fv _ _)
        · have : (Tm.mk k m l).fits (.mk op p ks) = false := by
            match l with
            | [] => simp [Tm.fits, h1, h3]
            | [_] => exact fits1 ..
            | [_, _] => simp [Tm.fits, h2]
            | x :: y :: z :: l => exact fits3 ..
          exact hno this (by simp only [S32_250, S32_251, S32_252, S32_253, S32_254, S32_255, S32_256, S32_257, S32_258, S32_259, S32_260, S32_261, S32_262, S32_263, S32_264, S32_265, S32_266, S32, ↓XX, ↓reduceIte, Nat.reduceBEq, decide_true, decide_false, Bool.not_true, Bool.not_false, List.map_cons, List.map_nil, List.length_map, List.length_cons, List.length_nil, Nat.reduceAdd, Int.cast_ofNat_Int, Int.natCast_zero, Int.natCast_one, Bool.false_eq_true, Bool.true_eq_false, decide_eq_true_eq, eq_self, Int.reduceEq, Int.reduceLT, Int.reduceLE, Bool.and_true, Bool.true_and, Bool.and_false, Bool.false_and, Nat.zero_add, ↓iso_1 hty, h1, h2, h3]; exact ans_fv _ _)
end Idl
end Go.Proofs.Ytdibmackcbpniaa
namespace Go.Proofs.Ytdibmackcbpniaa
namespace Idl
/-- The reference's values. -/
inductive RV where
  | mk (op n : Int) (k env : List RV) (b : Tm)
def Tm.z : Tm := .mk 0 0 []
def RV.enc : RV → FV
  | .mk op n k env (.mk bo bn bk) => .fp [.int .i64 op, .int .i64 n, .sl (encL k), .sl (encL env), .int .i64 bo, .int .i64 bn, .sl (bk.map Tm.enc)] 0
where
  encL : List RV → List FV
    | [] => []
    | v :: l => v.enc :: encL l
theorem rencL_eq (l : List RV) : RV.enc.encL l = l.map RV.enc := by
  induction l with
  | nil => rfl
  | cons t l ih => simp [RV.enc.encL, ih]
theorem renc_mk (op n : Int) (k env : List RV) (bo bn : Int) (bk : List Tm) : (RV.mk op n k env (.mk bo bn bk)).enc =
    .fp [.int .i64 op, .int .i64 n, .sl (k.map RV.enc), .sl (env.map RV.enc), .int .i64 bo, .int .i64 bn, .sl (bk.map Tm.enc)] 0 := by simp only [RV.enc, rencL_eq]
def RV.op : RV → Int
  | .mk op _ _ _ _ => op
def RV.n : RV → Int
  | .mk _ n _ _ _ => n
def RV.k : RV → List RV
  | .mk _ _ k _ _ => k
def RV.env : RV → List RV
  | .mk _ _ _ env _ => env
def RV.b : RV → Tm
  | .mk _ _ _ _ b => b
def RV.var (n : Int) : RV := .mk 1 n [] [] .z
def RV.clo (env : List RV) (b : Tm) : RV := .mk 0 0 [] env b
def RV.zero : RV := .mk 11 0 [] [] .z
def RV.node (op n : Int) (k : List RV) : RV := .mk op n k [] .z
theorem renc_eq (v : RV) : v.enc = .fp [.int .i64 v.op, .int .i64 v.n, .sl (v.k.map RV.enc), .sl (v.env.map RV.enc), .int .i64 v.b.op, .int .i64 v.b.n, .sl (v.b.kids.map Tm.enc)] 0 := by
  obtain ⟨op, n, k, env, ⟨bo, bn, bk⟩⟩ := v
  exact renc_mk ..
theorem tm_eta (t : Tm) : Tm.enc t = .agg [.int .i64 t.op, .int .i64 t.n, .sl (t.kids.map Tm.enc)] := by cases t; exact enc_mk ..
theorem renc_cells (v : RV) : v.enc.cells.length = 1 := by obtain ⟨op, n, k, env, ⟨bo, bn, bk⟩⟩ := v; rfl
theorem renc_one (v : RV) : v.enc.cells.all FV.one = true := by obtain ⟨op, n, k, env, ⟨bo, bn, bk⟩⟩ := v; rfl
theorem renc_self (v : RV) : v.enc.cells = [v.enc] := by obtain ⟨op, n, k, env, ⟨bo, bn, bk⟩⟩ := v; rfl
theorem tVs : EE.T 129 = some ⟨1, 24, .slice 110, [.nils]⟩ := by kernel_rfl
theorem tVp : EE.T 110 = some ⟨1, 8, .ptr, [.fv .nilp]⟩ := by kernel_rfl
theorem sV : SliceT EE 129 1 := ⟨_, _, _, _, _, tVs, tVp, rfl, by decide, by decide⟩
theorem head_v (l : List RV) : headOk 1 (l.map RV.enc) = true := by
  cases l with
  | nil => rfl
  | cons a l => simp only [List.map_cons, headOk, renc_cells, beq_self_eq_true]
theorem bs0_v (s : Nat) (h : Hp) (k : IV → Hp → List Ref → List Ref → Option (IV × Hp)) : genS (pcBuildSlice EE 129 0 []) s h k = k (.clip []) h [] [] :=
  bs_tm tVs tVp (by decide) (cells := []) rfl k
theorem bs1_v (a : RV) (s : Nat) (h : Hp) (k : IV → Hp → List Ref → List Ref → Option (IV × Hp)) : genS (pcBuildSlice EE 129 1 [(0, .fv a.enc)]) s h k = k (.clip [a.enc]) h [] [] := by
  obtain ⟨op, n, kk, env, ⟨bo, bn, bk⟩⟩ := a
  rw [renc_mk]
  exact bs_tm tVs tVp (by decide) (cells := [.fp [.int .i64 op, .int .i64 n, .sl (kk.map RV.enc), .sl (env.map RV.enc), .int .i64 bo, .int .i64 bn, .sl (bk.map Tm.enc)] 0]) rfl k
theorem bs2_v (a b : RV) (s : Nat) (h : Hp) (k : IV → Hp → List Ref → List Ref → Option (IV × Hp)) : genS (pcBuildSlice EE 129 2 [(0, .fv a.enc), (1, .fv b.enc)]) s h k = k (.clip [a.enc, b.enc]) h [] [] := by
  obtain ⟨op, n, kk, env, ⟨bo, bn, bk⟩⟩ := a
  obtain ⟨op', n', kk', env', ⟨bo', bn', bk'⟩⟩ := b
  rw [renc_mk, renc_mk]
  exact bs_tm tVs tVp (by decide) (cells := [.fp [.int .i64 op, .int .i64 n, .sl (kk.map RV.enc), .sl (env.map RV.enc), .int .i64 bo, .int .i64 bn, .sl (bk.map Tm.enc)] 0, .fp [.int .i64 op', .int .i64 n', .sl (kk'.map RV.enc), .sl (env'.map RV.enc), .int .i64 bo', .int .i64 bn', .sl (bk'.map Tm.enc)] 0]) rfl k
theorem bs4_v (a b c d : RV) (s : Nat) (h : Hp) (k : IV → Hp → List Ref → List Ref → Option (IV × Hp)) : genS (pcBuildSlice EE 129 4 [(0, .fv a.enc), (1, .fv b.enc), (2, .fv c.enc), (3, .fv d.enc)]) s h k =
    k (.clip [a.enc, b.enc, c.enc, d.enc]) h [] [] := by
  have key : ∀ x : RV, ∃ l, x.enc = .fp l 0 := fun x => ⟨_, renc_eq x⟩
  obtain ⟨la, ha⟩ := key a
  obtain ⟨lb, hb⟩ := key b
  obtain ⟨lc, hc⟩ := key c
  obtain ⟨ld, hd⟩ := key d
  rw [ha, hb, hc, hd]
  exact bs_tm tVs tVp (by decide) (cells := [.fp la 0, .fp lb 0, .fp lc 0, .fp ld 0]) rfl k
theorem app0_v (e : RV) (s : Nat) (own : List (Nat × Blk)) (ext : List Blk) (k : IV → Hp → List Ref → List Ref → Option (IV × Hp)) :
    genS (builtinR EE s false .append [129, 129] [.nils, .clip [e.enc]]) s ⟨own, ext⟩ k = freshK own s (putOwnK own s (.tok 1 1) fun own => k (.app (.own s) [e.enc]) ⟨own, ext⟩ [] [.own s]) :=
  app_0 sV (.clip _) (head_v [e]) rfl (by simp) (.inl rfl) s own ext k
theorem app1_v {es : List RV} (hb : es.length + 1 ≤ 1000000) (e : RV) (r s : Nat) (own : List (Nat × Blk)) (ext : List Blk) (k : IV → Hp → List Ref → List Ref → Option (IV × Hp)) :
    genS (builtinR EE s false .append [129, 129] [.app (.own r) (es.map RV.enc), .clip [e.enc]]) s ⟨own, ext⟩ k =
      ownK own r fun b => tokK b es.length 1 (putOwnK own r (.tok (es.length + 1) 1) fun own => k (.app (.own r) ((es ++ [e]).map RV.enc)) ⟨own, ext⟩ [.own r] [.own r]) := by
  rw [app_1 sV (.clip [e.enc]) (head_v [e]) (head_v es) (by simp [renc_one]) (by simpa using hb) r s own ext k]
  simp only [List.length_map, List.map_append, List.map_cons, List.map_nil, List.length_cons, List.length_nil, Nat.zero_add]
theorem plus_ok {n : Nat} (hn : 0 < n) (env vs : List RV) (hv : vs ≠ []) (hb : env.length + vs.length ≤ 1000000) : Ans (SS dt n 109 [.fv (.sl (env.map RV.enc)), .fv (.sl (vs.map RV.enc))] ⟨[], []⟩) (.sl ((env ++ vs).map RV.enc)) := by
  obtain ⟨n, rfl⟩ : ∃ k, n = k + 1 := ⟨n - 1, by omega⟩
  rw [c109]
  have hvs : (vs.map RV.enc).isEmpty = false := by cases vs with
    | nil => exact absurd rfl hv
    | cons _ _ => rfl
  cases env with
  | nil =>
    simp only [S109, ↓XX, ↓reduceIte, Nat.reduceBEq, decide_true, decide_false, Bool.not_true, Bool.not_false, List.map_cons, List.map_nil, List.length_map, List.length_cons, List.length_nil, Nat.reduceAdd, Int.cast_ofNat_Int, Int.natCast_zero, Int.natCast_one, Bool.false_eq_true, Bool.true_eq_false, decide_eq_true_eq, eq_self, Int.reduceEq, Int.reduceLT, Int.reduceLE, Bool.and_true, Bool.true_and, Bool.and_false, Bool.false_and, Nat.zero_add, ↓bs0_v, ↓app_e sV (.sl []) (.inr rfl), ↓app_0 sV (.sl (vs.map RV.enc)) (head_v vs) hvs (by simp; simp at hb; omega) (.inr rfl), List.nil_append]
    exact ans_p rfl _
  | cons a env =>
    simp only [S109, ↓XX, ↓reduceIte, Nat.reduceBEq, decide_true, decide_false, Bool.not_true, Bool.not_false, List.map_cons, List.map_nil, List.length_map, List.length_cons, List.length_nil, Nat.reduceAdd, Int.cast_ofNat_Int, Int.natCast_zero, Int.natCast_one, Bool.false_eq_true, Bool.true_eq_false, decide_eq_true_eq, eq_self, Int.reduceEq, Int.reduceLT, Int.reduceLE, Bool.and_true, Bool.true_and, Bool.and_false, Bool.false_and, Nat.zero_add, ↓bs0_v]
    have h1 : ((a :: env).map RV.enc).isEmpty = false := rfl
    have h0 := fun {β : Type} => app_0 (β := β) sV (.sl ((a :: env).map RV.enc)) (head_v (a :: env)) h1 (by simp only [List.length_map]; omega) (.inr rfl : IV.clip [] = .nils ∨ IV.clip [] = .clip [])
    have h2 := fun {β : Type} => app_1 (β := β) sV (.sl (vs.map RV.enc)) (head_v vs) (head_v (a :: env)) (by simp [renc_one]) (by simp only [List.length_map]; omega)
    simp only [List.map_cons] at h0 h2
    simp only [↓XX, ↓reduceIte, Nat.reduceBEq, decide_true, decide_false, Bool.not_true, Bool.not_false, List.map_cons, List.map_nil, List.length_map, List.length_cons, List.length_nil, Nat.reduceAdd, Int.cast_ofNat_Int, Int.natCast_zero, Int.natCast_one, Bool.false_eq_true, Bool.true_eq_false, decide_eq_true_eq, eq_self, Int.reduceEq, Int.reduceLT, Int.reduceLE, Bool.and_true, Bool.true_and, Bool.and_false, Bool.false_and, Nat.zero_add, ↓h0, ↓h2, ↓tok_k, List.map_append, List.cons_append]
    exact ans_p rfl _
/-! Steps. -/
theorem mstep_ok {n : Nat} (hn : 0 < n) (s nd : Int) (h1 : s ≤ 1000000) (h0 : 0 ≤ s) : AnsX (SS dt n 117 [.ptr (.ext 0) 0] ⟨[], [.row [iv s, iv nd, iv 0] false]⟩) (.bool (decide (s + 1 ≤ 1000)))
    [.row [iv (s + 1), iv nd, iv (if s + 1 ≤ 1000 then 0 else 17)] false] := by
  obtain ⟨n, rfl⟩ : ∃ k, n = k + 1 := ⟨n - 1, by omega⟩
  rw [c117]
  have hw : w64 (s + 1) = s + 1 := by rw [w64_id] <;> omega
  by_cases h : s + 1 ≤ 1000
  · have h' : ¬ 1000 < s + 1 := by omega
    simp only [S117_29, S117_30, S117_31, S117_32, S117, ↓XX, ↓reduceIte, Nat.reduceBEq, decide_true, decide_false, Bool.not_true, Bool.not_false, List.map_cons, List.map_nil, List.length_map, List.length_cons, List.length_nil, Nat.reduceAdd, Int.cast_ofNat_Int, Int.natCast_zero, Int.natCast_one, Bool.false_eq_true, Bool.true_eq_false, decide_eq_true_eq, eq_self, Int.reduceEq, Int.reduceLT, Int.reduceLE, Bool.and_true, Bool.true_and, Bool.and_false, Bool.false_and, Nat.zero_add, hw, h, h']
    exact ansx_fv _ _ _
  · have h' : 1000 < s + 1 := by omega
    simp only [S117_29, S117_30, S117_31, S117_32, S117, ↓XX, ↓reduceIte, Nat.reduceBEq, decide_true, decide_false, Bool.not_true, Bool.not_false, List.map_cons, List.map_nil, List.length_map, List.length_cons, List.length_nil, Nat.reduceAdd, Int.cast_ofNat_Int, Int.natCast_zero, Int.natCast_one, Bool.false_eq_true, Bool.true_eq_false, decide_eq_true_eq, eq_self, Int.reduceEq, Int.reduceLT, Int.reduceLE, Bool.and_true, Bool.true_and, Bool.and_false, Bool.false_and, Nat.zero_add, hw, h, h']
    exact ansx_fv _ _ _
end Idl
end Go.Proofs.Ytdibmackcbpniaa
namespace Go.Proofs.Ytdibmackcbpniaa
namespace Idl
def tI : Tm := .mk 15 0 []
def chkT (r : Int × Tm) (a : Tm) : Int := if r.1 = 0 then (if a.same r.2 then 0 else 11) else r.1
def madeM (op : Int) (a : Tm) (r : Int × Tm) : Int × Tm := if r.1 = 0 then (((Tm.mk op 0 [a, r.2]).chk 0 1).2, .mk op 0 [a, r.2]) else (r.1, .z)
def Tm.kid (t : Tm) (i : Nat) : Tm := t.kids.getD i .z
/-- What is wrong with a term (0: nothing), and its type. -/
def Tm.inf : Tm → List Tm → Int × Tm
  | .mk op n [], g => if op = 1 then (if (g.length : Int) ≤ n then (8, .z) else (0, g.getD (g.length - 1 - n.toNat) .z)) else if op = 25 then (0, tI) else (10, .z)
  | .mk op _ [a], g => if op = 23 then (if (a.inf g).1 = 0 then (if (a.inf g).2.op = 17 then (0, (a.inf g).2.kid 0) else (12, .z)) else ((a.inf g).1, .z))
    else if op = 24 then (if (a.inf g).1 = 0 then (if (a.inf g).2.op = 17 then (0, (a.inf g).2.kid 1) else (12, .z)) else ((a.inf g).1, .z)) else (10, .z)
  | .mk op _ [a, b], g =>
    if op = 26 then (if chkT (a.inf g) tI = 0 then (chkT (b.inf g) tI, tI) else (chkT (a.inf g) tI, .z))
    else if op = 20 then (if a.typed then madeM 16 a (b.inf (g ++ [a])) else (10, .z))
    else if op = 29 then (if a.typed then (chkT (b.inf (g ++ [a])) a, a) else (10, .z))
    else if op = 28 then (if (a.inf g).1 = 0 then b.inf (g ++ [(a.inf g).2]) else ((a.inf g).1, .z))
    else if op = 22 then (if (a.inf g).1 = 0 then madeM 17 (a.inf g).2 (b.inf g) else ((a.inf g).1, .z))
    else if op = 21 then (if (a.inf g).1 = 0 then (if (a.inf g).2.op = 16 then (chkT (b.inf g) ((a.inf g).2.kid 0), (a.inf g).2.kid 1) else (12, .z)) else ((a.inf g).1, .z))
    else (10, .z)
  | .mk op _ [a, b, c], g => if op = 27 then (if chkT (a.inf g) tI = 0 then (if (b.inf g).1 = 0 then (chkT (c.inf g) (b.inf g).2, (b.inf g).2) else ((b.inf g).1, .z)) else (chkT (a.inf g) tI, .z)) else (10, .z)
  | _, _ => (10, .z)
mutual
def Tm.shp : Tm → Prop
  | .mk op n l => (l.length : Int) = kidsN op ∧ (op = 1 → 0 ≤ n) ∧ Tm.shpL l
def Tm.shpL : List Tm → Prop
  | [] => True
  | t :: l => t.shp ∧ Tm.shpL l
end
mutual
theorem chk_shp : ∀ (t : Tm) (n d : Int), (t.chk n d).2 = 0 → t.shp
  | .mk op m l, n, d, h => by
    rw [Tm.chk] at h
    split at h
    · cases h
    · split at h
      · cases h
      · rename_i h1 h2
        rw [Tm.shp]
        have h3 : kidsN op = (l.length : Int) := Classical.byContradiction fun e => h2 (.inl e)
        have h4 : numb op m = true := by cases hb : numb op m with
          | true => rfl
          | false => exact absurd (.inr hb) h2
        refine ⟨h3.symm, ?_, chkL_shp l _ _ h⟩
        rintro rfl
        simp [numb] at h4
        exact h4.1
theorem chkL_shp : ∀ (l : List Tm) (n d : Int), (Tm.chkL l n d).2 = 0 → Tm.shpL l
  | [], _, _, _ => trivial
  | t :: l, n, d, h => by
    rw [Tm.chkL] at h
    split at h
    · rename_i h1
      exact ⟨chk_shp t _ _ h1, chkL_shp l _ _ h⟩
    · rename_i h1
      exact absurd h h1
end
theorem chk_wt {t : Tm} (h : (t.chk 0 1).2 = 0) : t.wt ≤ 3000 := by
  have := (chk_b t 0 1 (by omega)).2.2 h
  omega
theorem typed_op {t : Tm} (h : t.typed = true) : (t.op = 15 ∧ t.kids = []) ∨ ((t.op = 16 ∨ t.op = 17) ∧ ∃ a b, t.kids = [a, b] ∧ a.typed = true ∧ b.typed = true) := by
  obtain ⟨op, m, l⟩ := t
  match l, h with
  | [], h => exact .inl ⟨by simpa [Tm.typed, Tm.op] using h, rfl⟩
  | [_], h => rw [typed1] at h; cases h
  | x :: y :: z :: l, h => rw [typed3] at h; cases h
  | [a, b], h =>
    simp only [Tm.typed, Bool.and_eq_true, Bool.or_eq_true, decide_eq_true_eq] at h
    exact .inr ⟨h.1, a, b, rfl, h.2.1, h.2.2⟩
theorem tI_typed : tI.typed = true := by simp [tI, Tm.typed]
theorem chkT_0 {r : Int × Tm} {a : Tm} (h : chkT r a = 0) : r.1 = 0 ∧ a = r.2 := by
  unfold chkT at h
  split at h
  · rename_i h1
    split at h
    · rename_i h2; exact ⟨h1, (same_eq _ _).1 h2⟩
    · cases h
  · rename_i h1; exact absurd h h1
/-- Whatever is told is a type, and not too great. -/
theorem inf_typed (M : Nat) (hM : 3000 ≤ M) : ∀ (n : Nat) (t : Tm) (g : List Tm), t.wt < n → t.wt ≤ M → (∀ x ∈ g, x.typed = true ∧ x.wt ≤ M) → t.shp → (t.inf g).1 = 0 → (t.inf g).2.typed = true ∧ (t.inf g).2.wt ≤ M := by
  intro n
  induction n with
  | zero => intro t g h; omega
  | succ n ih =>
    intro t g hn hw hg hs h
    obtain ⟨op, m, l⟩ := t
    simp only [Tm.wt] at hn hw
    have hp : ∀ {x a : Tm}, x ∈ g ++ [a] → a.typed = true ∧ a.wt ≤ M → x.typed = true ∧ x.wt ≤ M := by
      intro x a hx ha
      rcases List.mem_append.1 hx with h | h
      · exact hg x h
      · rw [List.mem_singleton.1 h]; exact ha
    rw [Tm.shp] at hs
    obtain ⟨_, hv, hs⟩ := hs
    match l, hs with
    | [], _ =>
      unfold Tm.inf at h ⊢
      by_cases h1 : op = 1
      · rw [if_pos h1] at h ⊢
        by_cases h2 : (g.length : Int) ≤ m
        · rw [if_pos h2] at h; cases h
        · rw [if_neg h2]
          have := hv h1
          have hlt : g.length - 1 - m.toNat < g.length := by omega
          rw [List.getD_eq_getElem?_getD, List.getElem?_eq_getElem hlt]
          exact hg _ (List.getElem_mem hlt)
      · rw [if_neg h1] at h ⊢
        by_cases h2 : op = 25
        · rw [if_pos h2]
          exact ⟨tI_typed, by simp [tI, Tm.wt, Tm.wtL]; omega⟩
        · rw [if_neg h2] at h; cases h
    | [a], hs =>
      simp only [Tm.wtL] at hn hw
      have key : (a.inf g).1 = 0 → (a.inf g).2.op = 17 → ∀ i, i < 2 → ((a.inf g).2.kid i).typed = true ∧ ((a.inf g).2.kid i).wt ≤ M := by
        intro h1 h2 i hi
        obtain ⟨h3, h4⟩ := ih a g (by omega) (by omega) hg hs.1 h1
        rcases typed_op h3 with ⟨h5, _⟩ | ⟨_, x, y, h6, h7, h8⟩
        · omega
        · generalize (a.inf g).2 = r at *
          obtain ⟨o, p, k⟩ := r
          simp only [Tm.kids] at h6
          subst h6
          simp only [Tm.wt, Tm.wtL] at h4
          match i, hi with
          | 0, _ => exact ⟨h7, by show x.wt ≤ M; omega⟩
          | 1, _ => exact ⟨h8, by show y.wt ≤ M; omega⟩
      unfold Tm.inf at h ⊢
      by_cases h1 : op = 23
      · rw [if_pos h1] at h ⊢
        by_cases h2 : (a.inf g).1 = 0
        · rw [if_pos h2] at h ⊢
          by_cases h3 : (a.inf g).2.op = 17
          · rw [if_pos h3]; exact key h2 h3 0 (by decide)
          · rw [if_neg h3] at h; cases h
        · rw [if_neg h2] at h; exact absurd h h2
      · rw [if_neg h1] at h ⊢
        by_cases h1 : op = 24
        · rw [if_pos h1] at h ⊢
          by_cases h2 : (a.inf g).1 = 0
          · rw [if_pos h2] at h ⊢
            by_cases h3 : (a.inf g).2.op = 17
            · rw [if_pos h3]; exact key h2 h3 1 (by decide)
            · rw [if_neg h3] at h; cases h
          · rw [if_neg h2] at h; exact absurd h h2
        · rw [if_neg h1] at h; cases h
    | [a, b], hs =>
      simp only [Tm.wtL] at hn hw
      have hmade : ∀ (o : Int) (x : Tm) (r : Int × Tm), (o = 16 ∨ o = 17) → x.typed = true → (r.1 = 0 → r.2.typed = true) → (madeM o x r).1 = 0 → (madeM o x r).2.typed = true ∧ (madeM o x r).2.wt ≤ M := by
        intro o x r ho hx hr hz
        unfold madeM at hz ⊢
        by_cases h1 : r.1 = 0
        · rw [if_pos h1] at hz ⊢
          refine ⟨?_, Nat.le_trans (chk_wt hz) hM⟩
          simp only [Tm.typed, hx, hr h1, Bool.and_true, Bool.or_eq_true, decide_eq_true_eq]
          exact ho
        · rw [if_neg h1] at hz; exact absurd hz h1
      unfold Tm.inf at h ⊢
      by_cases h1 : op = 26
      · rw [if_pos h1] at h ⊢
        by_cases h2 : chkT (a.inf g) tI = 0
        · rw [if_pos h2]; exact ⟨tI_typed, by simp [tI, Tm.wt, Tm.wtL]; omega⟩
        · rw [if_neg h2] at h; exact absurd h h2
      rw [if_neg h1] at h ⊢
      by_cases h1 : op = 20
      · rw [if_pos h1] at h ⊢
        by_cases h2 : a.typed = true
        · rw [if_pos h2] at h ⊢
          exact hmade 16 a _ (.inl rfl) h2 (fun e => (ih b (g ++ [a]) (by omega) (by omega) (fun x hx => hp hx ⟨h2, by omega⟩) hs.2.1 e).1) h
        · rw [if_neg h2] at h; cases h
      rw [if_neg h1] at h ⊢
      by_cases h1 : op = 29
      · rw [if_pos h1] at h ⊢
        by_cases h2 : a.typed = true
        · rw [if_pos h2]; exact ⟨h2, by show a.wt ≤ M; omega⟩
        · rw [if_neg h2] at h; cases h
      rw [if_neg h1] at h ⊢
      by_cases h1 : op = 28
      · rw [if_pos h1] at h ⊢
        by_cases h2 : (a.inf g).1 = 0
        · rw [if_pos h2] at h ⊢
          have ha := ih a g (by omega) (by omega) hg hs.1 h2
          exact ih b _ (by omega) (by omega) (fun x hx => hp hx ha) hs.2.1 h
        · rw [if_neg h2] at h; exact absurd h h2
      rw [if_neg h1] at h ⊢
      by_cases h1 : op = 22
      · rw [if_pos h1] at h ⊢
        by_cases h2 : (a.inf g).1 = 0
        · rw [if_pos h2] at h ⊢
          exact hmade 17 _ _ (.inr rfl) (ih a g (by omega) (by omega) hg hs.1 h2).1 (fun e => (ih b g (by omega) (by omega) hg hs.2.1 e).1) h
        · rw [if_neg h2] at h; exact absurd h h2
      rw [if_neg h1] at h ⊢
      by_cases h1 : op = 21
      · rw [if_pos h1] at h ⊢
        by_cases h2 : (a.inf g).1 = 0
        · rw [if_pos h2] at h ⊢
          by_cases h3 : (a.inf g).2.op = 16
          · rw [if_pos h3]
            obtain ⟨h5, h4⟩ := ih a g (by omega) (by omega) hg hs.1 h2
            rcases typed_op h5 with ⟨h5, _⟩ | ⟨_, x, y, h6, h7, h8⟩
            · omega
            · generalize (a.inf g).2 = r at *
              obtain ⟨o, p, k⟩ := r
              simp only [Tm.kids] at h6
              subst h6
              simp only [Tm.wt, Tm.wtL] at h4
              exact ⟨h8, by show y.wt ≤ M; omega⟩
          · rw [if_neg h3] at h; cases h
        · rw [if_neg h2] at h; exact absurd h h2
      · rw [if_neg h1] at h; cases h
    | [a, b, c], hs =>
      simp only [Tm.wtL] at hn hw
      unfold Tm.inf at h ⊢
      by_cases h1 : op = 27
      · rw [if_pos h1] at h ⊢
        by_cases h2 : chkT (a.inf g) tI = 0
        · rw [if_pos h2] at h ⊢
          by_cases h3 : (b.inf g).1 = 0
          · rw [if_pos h3]
            exact ih b g (by omega) (by omega) hg hs.2.1 h3
          · rw [if_neg h3] at h; exact absurd h h3
        · rw [if_neg h2] at h; exact absurd h h2
      · rw [if_neg h1] at h; cases h
    | a :: b :: c :: d :: l, _ =>
      rw [Tm.inf] at h
      · cases h
      all_goals simp
/-- What is told beside an error is of no account. -/
def AnsT (r : Option (IV × Hp)) (q : Int × Tm) : Prop := ∃ u, Ans r (.tuple [Tm.enc u, .int .i64 q.1]) ∧ (q.1 = 0 → u = q.2)
theorem ansT {r : Option (IV × Hp)} {e : Int} {u : Tm} (h : Ans r (.tuple [u.enc, .int .i64 e])) : AnsT r (e, u) := ⟨u, h, fun _ => rfl⟩
theorem ansTe {r : Option (IV × Hp)} {e : Int} {u v : Tm} (h : Ans r (.tuple [u.enc, .int .i64 e])) (he : e ≠ 0) : AnsT r (e, v) := ⟨u, h, fun h => absurd h he⟩
theorem inf_other {op m : Int} {l : List Tm} {g : List Tm} (h : op ≠ 1 ∧ op ≠ 25 ∧ op ≠ 23 ∧ op ≠ 24 ∧ op ≠ 26 ∧ op ≠ 20 ∧ op ≠ 29 ∧ op ≠ 28 ∧ op ≠ 22 ∧ op ≠ 21 ∧ op ≠ 27) : (Tm.mk op m l).inf g = (10, .z) := by
  obtain ⟨h1, h2, h3, h4, h5, h6, h7, h8, h9, h10, h11⟩ := h
  match l with
  | [] => rw [Tm.inf, if_neg h1, if_neg h2]
  | [_] => rw [Tm.inf, if_neg h3, if_neg h4]
  | [_, _] => rw [Tm.inf, if_neg h5, if_neg h6, if_neg h7, if_neg h8, if_neg h9, if_neg h10]
  | [_, _, _] => rw [Tm.inf, if_neg h11]
  | a :: b :: c :: d :: l =>
    rw [Tm.inf]
    all_goals simp
end Idl
end Go.Proofs.Ytdibmackcbpniaa
namespace Go.Proofs.Ytdibmackcbpniaa
namespace Idl
section
variable {β : Type} {E : Env}
theorem app_c {t : TypeId} {size : Nat} (T : SliceT E t size) {x : IV} {es es2 : List FV} (hx : Plain2 x es2) (h1 : headOk size es2 = true) (h2 : headOk size es = true) (hne : es2.isEmpty = false) (hb : es.length + es2.length ≤ 1000000) (s : Nat) (own : List (Nat × Blk)) (ext : List Blk)
    (k : IV → Hp → List Ref → List Ref → Option β) : genS (builtinR E s false .append [t, t] [.clip es, x]) s ⟨own, ext⟩ k = freshK own s (putOwnK own s (.tok (es.length + es2.length) size) fun own => k (.app (.own s) (es ++ es2)) ⟨own, ext⟩ [] [.own s]) := by
  obtain ⟨a, b, e, z, ei, hT, he, rfl, h0, hby⟩ := T.h
  have hlen : ¬ (headOk ei.size es = false ∨ (es.length + es2.length) * ei.bytes > 140737488355328 ∨ es.length + es2.length > 1073741824) := by
    have : (es.length + es2.length) * ei.bytes ≤ 1000000 * 100000 := Nat.mul_le_mul hb hby
    rw [h2]
    rintro (h | h | h)
    · cases h
    · omega
    · omega
  have key : builtinR E s false .append [t, t] [.clip es, x] = .ret { eff := { val := .app (.own s) (es ++ es2), upd := [] }, new := some (.tok (es ++ es2).length ei.size) } := by
    show appendR E s t (some t) false (.clip es) x = _
    simp only [appendR, hT, Option.bind_some, he, p2_frz hx, Rd.bind, h0, h1, false_or, Bool.true_eq_false, if_false]
    simp only [elemsOf, if_neg hlen, hne, Bool.false_eq_true, if_false]
  rw [key, List.length_append]
  unfold genS
  simp only [Rd.runLog]
  show (newK (some (.tok (es.length + es2.length) ei.size)) s ⟨own, ext⟩ fun h => fV 3 (.app (.own s) (es ++ es2)) fun v => k v h [] ([] ++ [.own s])) = _
  simp only [newK, fBk_eq, fV_eq]
  rfl
theorem app_row {t : TypeId} {size : Nat} (T : SliceT E t size) {x : IV} {es2 : List FV} (hx : Plain2 x es2) (h1 : headOk size es2 = true) (hne : es2.isEmpty = false) (hb : es2.length ≤ 1000000) (s : Nat) (own : List (Nat × Blk)) (ext : List Blk)
    (k : IV → Hp → List Ref → List Ref → Option β) : genS (builtinR E s true .append [t, t] [.clip [], x]) s ⟨own, ext⟩ k = freshK own s (putOwnK own s (.row ((es2.flatMap FV.cells).map .fv) false) fun own => k (.slc (.own s) size es2.length) ⟨own, ext⟩ [] [.own s]) := by
  obtain ⟨a, b, e, z, ei, hT, he, rfl, h0, hby⟩ := T.h
  have hlen : ¬ (headOk ei.size [] = false ∨ (([] : List FV).length + es2.length) * ei.bytes > 140737488355328 ∨ ([] : List FV).length + es2.length > 1073741824) := by
    have : es2.length * ei.bytes ≤ 1000000 * 100000 := Nat.mul_le_mul hb hby
    rintro (h | h | h)
    · cases h
    · simp only [List.length_nil, Nat.zero_add] at h; omega
    · simp only [List.length_nil, Nat.zero_add] at h; omega
  have key : builtinR E s true .append [t, t] [.clip [], x] = .ret { eff := { val := .slc (.own s) ei.size es2.length, upd := [] }, new := some (.row ((es2.flatMap FV.cells).map .fv) false) } := by
    show appendR E s t (some t) true (.clip []) x = _
    simp only [appendR, hT, Option.bind_some, he, p2_frz hx, Rd.bind, h0, h1, false_or, Bool.true_eq_false, if_false]
    simp only [elemsOf, if_neg hlen, hne, List.nil_append, Bool.false_eq_true, if_false, if_true]
  rw [key]
  unfold genS
  simp only [Rd.runLog]
  show (newK (some (.row ((es2.flatMap FV.cells).map .fv) false)) s ⟨own, ext⟩ fun h => fV 3 (.slc (.own s) ei.size es2.length) fun v => k v h [] ([] ++ [.own s])) = _
  simp only [newK, fBk_eq, fV_eq]
  rfl
theorem app_re {t : TypeId} {size : Nat} (T : SliceT E t size) {x : IV} (hx : Plain2 x []) (s : Nat) (h : Hp) (k : IV → Hp → List Ref → List Ref → Option β) :
    genS (builtinR E s true .append [t, t] [.clip [], x]) s h k = k (.clip []) h [] [] := by
  obtain ⟨a, b, e, z, ei, hT, he, rfl, h0, hby⟩ := T.h
  have hlen : ¬ (headOk ei.size [] = false ∨ (([] : List FV).length + ([] : List FV).length) * ei.bytes > 140737488355328 ∨ ([] : List FV).length + ([] : List FV).length > 1073741824) := by
    rintro (h | h | h)
    · cases h
    · simp at h
    · simp at h
  have key : builtinR E s true .append [t, t] [.clip [], x] = .ret { eff := { val := .clip [], upd := [] } } := by
    show appendR E s t (some t) true (.clip []) x = _
    have h1 : headOk ei.size [] = true := rfl
    simp only [appendR, hT, Option.bind_some, he, p2_frz hx, Rd.bind, h0, h1, false_or, Bool.true_eq_false, if_false]
    simp only [elemsOf]
    rw [if_neg hlen]
    simp
  rw [key]
  exact gen_val _ s h k
theorem eq_nl {t a b e : TypeId} {z : List IV} (hT : E.T t = some ⟨a, b, .slice e, z⟩) (x : FV) (l : List FV) (k : IV → Option β) : eqS E t (.fv (.sl (x :: l))) .nils k = k (.fv (.bool false)) := by
  show binS E t .eql _ _ k = _
  rw [binS, optS_eq]
  have : binR E .eql t (.fv (.sl (x :: l))) .nils = some (.fv (.bool false)) := by
    simp only [binR, hT, isNilS, eqOp, Option.bind_some]
  rw [this]; rfl
theorem slice_c {t : TypeId} {size : Nat} (T : SliceT E t size) {es : List FV} (h1 : headOk size es = true) (s : Nat) (h : Hp) (k : IV → Hp → List Ref → List Ref → Option β) :
    genS (sliceR E t (.fv (.sl es)) none (some (iv es.length)) (some (iv es.length))) s h k = k (.clip es) h [] [] := by
  obtain ⟨a, b, e, z, ei, hT, he, rfl, h0, hby⟩ := T.h
  have key : sliceR E t (.fv (.sl es)) none (some (iv es.length)) (some (iv es.length)) = .ret { eff := { val := .clip es, upd := [] } } := by
    have hn : natIn (iv es.length) es.length = some es.length := by
      simp [natIn, iv]
    simp only [sliceR, hT, he]
    rw [show frz 4096 (.fv (.sl es)) = .ret (.sl es, []) from rfl]
    simp [Rd.bind, h1, hn, optIn]
  rw [key]
  exact gen_val _ s h k
end
theorem iso_sp {ih : Handler} {f : FuncId} {a : IV} {x w : FV} (hr : Ans (askedD true ih f [.fv x] []) w) (ha : frzP a = some x) (h : Hp) (k : IV → Hp → List Ref → List Ref → Option (IV × Hp)) : isoS [] true false ih f [a] h k = k (.fv w) h [] [] := by
  obtain ⟨v, own, e, hv⟩ := hr
  have hu : ∃ u, (frz 4096 v).run ⟨own, []⟩ = some (w, u) := by
    rcases hv with ⟨u', lg', hf⟩ | ⟨hf, hu⟩
    · exact ansx_frz ⟨u', lg', hf⟩
    · exact hu
  obtain ⟨u, hu⟩ := hu
  show isoD [] true false ih f [a] h k = _
  unfold isoD
  have hz := frz_args [a] (zl_1 ha)
  simp only [hz, Rd.runLog, gather, renL_fv, List.map_nil, renBlks, fL_eq (fV_eq 3), fL_eq fBk_eq, List.map_cons, e, hu, Option.map_some, IV.ren, IV.ren.renL, Bool.false_eq_true, if_false, Option.bind_some]
  show (match laid h ([] ++ (keys []).zip []) with | none => none | some h' => fH h' fun h' => fV 3 (.fv w) fun res => k res h' [] _) = _
  simp only [keys, List.map_nil, List.zip_nil_left, List.append_nil, laid, fH_eq, fV_eq]
theorem iso_rw {ih : Handler} {f : FuncId} {a : IV} {x : FV} {es : List FV} {own : List (Nat × Blk)} (hr : ih f [.fv x] ⟨[], []⟩ = some (.clip es, ⟨own, []⟩)) (ha : frzP a = some x) (h : Hp) (k : IV → Hp → List Ref → List Ref → Option (IV × Hp)) : isoS [] false true ih f [a] h k = k (.clip es) h [] [] := by
  show isoD [] false true ih f [a] h k = _
  unfold isoD
  have hz := frz_args [a] (zl_1 ha)
  simp only [hz, Rd.runLog, gather, renL_fv, List.map_nil, renBlks, fL_eq (fV_eq 3), fL_eq fBk_eq, List.map_cons, askedD, hr, Option.map_some, IV.ren, IV.ren.renL, Bool.false_eq_true, if_false, if_true, Option.bind_some]
  show (match laid h ([] ++ (keys []).zip []) with | none => none | some h' => fH h' fun h' => fV 3 (.clip es) fun res => k res h' [] _) = _
  simp only [keys, List.map_nil, List.zip_nil_left, List.append_nil, laid, fH_eq, fV_eq]
end Idl
end Go.Proofs.Ytdibmackcbpniaa
namespace Go.Proofs.Ytdibmackcbpniaa
namespace Idl
theorem kp_same (ih : Handler) (xs : List IV) (h0 : Hp) (k : IV → Hp → List Ref → List Ref → Option (IV × Hp)) : dynS EE ih (.fv (.func (.func 104) [] [])) xs h0 k = isoS [] false false ih 104 xs h0 k :=
  keep0 (by kernel_rfl) (by kernel_rfl) (by kernel_rfl) (by kernel_rfl) ..
theorem eqf_ok {n : Nat} (ka kb : List Tm) (hn : ka.length < n) (hl : ka.length ≤ 1000000000) (ih : ∀ a ∈ ka, ∀ b ∈ kb, Ans (SS dt n 104 [.fv a.enc, .fv b.enc] ⟨[], []⟩) (.bool (a.same b))) :
    Ans (SS dt (n + 1) 116 [.fv (.sl (ka.map Tm.enc)), .fv (.sl (kb.map Tm.enc)), .fv (.func (.func 104) [] [])] ⟨[], []⟩) (.bool (decide (ka.length = kb.length) && Tm.sameL ka kb)) := by
  rw [c116]
  by_cases h : ka.length = kb.length
  · have h' : (ka.length : Int) = kb.length := by omega
    rw [decide_eq_true h, Bool.true_and]
    simp only [S116_54, S116_55, S116_56, S116_57, S116_59, S116, ↓XX, ↓reduceIte, Nat.reduceBEq, decide_true, decide_false, Bool.not_true, Bool.not_false, List.map_cons, List.map_nil, List.length_map, List.length_cons, List.length_nil, Nat.reduceAdd, Int.cast_ofNat_Int, Int.natCast_zero, Int.natCast_one, Bool.false_eq_true, Bool.true_eq_false, decide_eq_true_eq, eq_self, Int.reduceEq, Int.reduceLT, Int.reduceLE, Bool.and_true, Bool.true_and, Bool.and_false, Bool.false_and, Nat.zero_add, h', ↓drop_e, XD, heldB, flatD, List.any_cons, List.any_nil, List.all_cons, List.all_nil, List.filter_cons, List.filter_nil, List.contains_cons, List.contains_nil, Bool.or_false, Bool.or_true, Bool.false_or, Bool.true_or, Bool.and_self, Bool.not_eq_true, BEq.rfl, beq_self_eq_true]
    refine loop_run (Q := fun r => Ans r _) (fun k V H => ∃ pa ra pb rb, ka = pa ++ ra ∧ kb = pb ++ rb ∧ pa.length = pb.length ∧ ra.length = k ∧ V = [.fv (.sl (kb.map Tm.enc)), .fv (.func (.func 104) [] []), .fv (.sl (ka.map Tm.enc)), iv ka.length, iv pa.length] ∧ H = ⟨[], []⟩ ∧ Tm.sameL ra rb = Tm.sameL ka kb)
      ?_ n ka.length _ _ hn ⟨[], ka, [], kb, rfl, rfl, rfl, rfl, by rw [h]; rfl, rfl, rfl⟩
    rintro k V H rec ⟨pa, ra, pb, rb, hka, hkb, hpl, hk, rfl, rfl, hs⟩ hrec
    have hal : ka.length = pa.length + ra.length := by rw [hka]; simp
    have hbl : kb.length = pb.length + rb.length := by rw [hkb]; simp
    cases ra with
    | nil =>
      have hno : ¬ ((pa.length : Int) < ka.length) := by rw [hal]; simp
      rw [← hs]
      simp only [S116_54, S116_55, S116_56, S116_57, S116_58, S116_59, S116, ↓XX, ↓reduceIte, Nat.reduceBEq, decide_true, decide_false, Bool.not_true, Bool.not_false, List.map_cons, List.map_nil, List.length_map, List.length_cons, List.length_nil, Nat.reduceAdd, Int.cast_ofNat_Int, Int.natCast_zero, Int.natCast_one, Bool.false_eq_true, Bool.true_eq_false, decide_eq_true_eq, eq_self, Int.reduceEq, Int.reduceLT, Int.reduceLE, Bool.and_true, Bool.true_and, Bool.and_false, Bool.false_and, Nat.zero_add, hno, Tm.sameL]
      exact ans_fv _ _
    | cons a ra =>
      simp only [List.length_cons] at hal hk
      cases rb with
      | nil => simp only [List.length_nil] at hbl; omega
      | cons b rb =>
        have hi : (pa.length : Int) < ka.length := by omega
        have hga := at_pre hka
        have hgb := at_pre hkb
        rw [← hpl] at hgb
        have hc := ih a (by rw [hka]; simp) b (by rw [hkb]; simp)
        have hwi : w64 ((pa.length : Int) + 1) = ((pa ++ [a]).length : Int) := (w64_id (by omega) (by omega)).trans (by simp)
        simp only [Tm.sameL] at hs
        generalize a.same b = v at hc hs
        obtain ⟨o, p, l⟩ := a
        obtain ⟨o2, p2, l2⟩ := b
        simp only [enc_mk] at hc
        cases v
        · rw [← hs]
          simp only [S116_54, S116_55, S116_56, S116_57, S116_58, S116_59, S116, ↓XX, ↓reduceIte, Nat.reduceBEq, decide_true, decide_false, Bool.not_true, Bool.not_false, List.map_cons, List.map_nil, List.length_map, List.length_cons, List.length_nil, Nat.reduceAdd, Int.cast_ofNat_Int, Int.natCast_zero, Int.natCast_one, Bool.false_eq_true, Bool.true_eq_false, decide_eq_true_eq, eq_self, Int.reduceEq, Int.reduceLT, Int.reduceLE, Bool.and_true, Bool.true_and, Bool.and_false, Bool.false_and, Nat.zero_add, hi, ↓ix_f (map_get hga) (agg3l _ _ _), ↓ix_f (map_get hgb) (agg3l _ _ _), ↓agg3, ↓kp_same, ↓iso_2 hc]
          exact ans_fv _ _
        · simp only [S116_54, S116_55, S116_56, S116_57, S116_58, S116_59, S116, ↓XX, ↓reduceIte, Nat.reduceBEq, decide_true, decide_false, Bool.not_true, Bool.not_false, List.map_cons, List.map_nil, List.length_map, List.length_cons, List.length_nil, Nat.reduceAdd, Int.cast_ofNat_Int, Int.natCast_zero, Int.natCast_one, Bool.false_eq_true, Bool.true_eq_false, decide_eq_true_eq, eq_self, Int.reduceEq, Int.reduceLT, Int.reduceLE, Bool.and_true, Bool.true_and, Bool.and_false, Bool.false_and, Nat.zero_add, hi, ↓ix_f (map_get hga) (agg3l _ _ _), ↓ix_f (map_get hgb) (agg3l _ _ _), ↓agg3, ↓kp_same, ↓iso_2 hc, hwi, ↓drop_e, XD, heldB, flatD, List.any_cons, List.any_nil, List.all_cons, List.all_nil, List.filter_cons, List.filter_nil, List.contains_cons, List.contains_nil, Bool.or_false, Bool.or_true, Bool.false_or, Bool.true_or, Bool.and_self, Bool.not_eq_true, BEq.rfl, beq_self_eq_true]
          exact hrec ra.length _ _ (by omega) ⟨pa ++ [.mk o p l], ra, pb ++ [.mk o2 p2 l2], rb, by rw [hka]; simp, by rw [hkb]; simp, by simp [hpl], rfl, rfl, rfl, by simpa using hs⟩
  · have h' : ¬ (ka.length : Int) = kb.length := by omega
    rw [decide_eq_false h, Bool.false_and]
    simp only [S116_54, S116_55, S116_56, S116_57, S116_58, S116_59, S116, ↓XX, ↓reduceIte, Nat.reduceBEq, decide_true, decide_false, Bool.not_true, Bool.not_false, List.map_cons, List.map_nil, List.length_map, List.length_cons, List.length_nil, Nat.reduceAdd, Int.cast_ofNat_Int, Int.natCast_zero, Int.natCast_one, Bool.false_eq_true, Bool.true_eq_false, decide_eq_true_eq, eq_self, Int.reduceEq, Int.reduceLT, Int.reduceLE, Bool.and_true, Bool.true_and, Bool.and_false, Bool.false_and, Nat.zero_add, h']
    exact ans_fv _ _
theorem psame_ok : ∀ (n : Nat) (a b : Tm), 2 * a.wt + 2 < n → a.wt ≤ 100000000 → Ans (SS dt n 104 [.fv a.enc, .fv b.enc] ⟨[], []⟩) (.bool (a.same b)) := by
  intro n
  induction n using Nat.strongRecOn with
  | ind n ih =>
    intro a b hn hw
    obtain ⟨o, m, ka⟩ := a
    obtain ⟨o', m', kb⟩ := b
    simp only [Tm.wt] at hn hw
    obtain ⟨n, rfl⟩ : ∃ k, n = k + 1 + 1 := ⟨n - 2, by omega⟩
    have hlen := wt_len ka
    have hq := eqf_ok (n := n) ka kb (by omega) (by omega) (fun a ha b _ => ih n (by omega) a b (by have := wt_mem ha; omega) (by have := wt_mem ha; omega))
    rw [c104, enc_mk, enc_mk, Tm.same]
    generalize (decide (ka.length = kb.length) && Tm.sameL ka kb) = v at hq
    by_cases h1 : o = o'
    · by_cases h2 : m = m'
      · subst h1 h2
        simp only [S104_83, S104_84, S104_85, S104, ↓XX, ↓reduceIte, Nat.reduceBEq, decide_true, decide_false, Bool.not_true, Bool.not_false, List.map_cons, List.map_nil, List.length_map, List.length_cons, List.length_nil, Nat.reduceAdd, Int.cast_ofNat_Int, Int.natCast_zero, Int.natCast_one, Bool.false_eq_true, Bool.true_eq_false, decide_eq_true_eq, eq_self, Int.reduceEq, Int.reduceLT, Int.reduceLE, Bool.and_true, Bool.true_and, Bool.and_false, Bool.false_and, Nat.zero_add, ↓iso_3 hq]
        exact ans_fv _ _
      · have h2' := decide_eq_false h2
        subst h1
        simp only [S104_83, S104_84, S104_85, S104, ↓XX, ↓reduceIte, Nat.reduceBEq, decide_true, decide_false, Bool.not_true, Bool.not_false, List.map_cons, List.map_nil, List.length_map, List.length_cons, List.length_nil, Nat.reduceAdd, Int.cast_ofNat_Int, Int.natCast_zero, Int.natCast_one, Bool.false_eq_true, Bool.true_eq_false, decide_eq_true_eq, eq_self, Int.reduceEq, Int.reduceLT, Int.reduceLE, Bool.and_true, Bool.true_and, Bool.and_false, Bool.false_and, Nat.zero_add, h2]
        exact ans_fv _ _
    · simp only [S104_83, S104_84, S104_85, S104, ↓XX, ↓reduceIte, Nat.reduceBEq, decide_true, decide_false, Bool.not_true, Bool.not_false, List.map_cons, List.map_nil, List.length_map, List.length_cons, List.length_nil, Nat.reduceAdd, Int.cast_ofNat_Int, Int.natCast_zero, Int.natCast_one, Bool.false_eq_true, Bool.true_eq_false, decide_eq_true_eq, eq_self, Int.reduceEq, Int.reduceLT, Int.reduceLE, Bool.and_true, Bool.true_and, Bool.and_false, Bool.false_and, Nat.zero_add, h1]
      exact ans_fv _ _
end Idl
end Go.Proofs.Ytdibmackcbpniaa
namespace Go.Proofs.Ytdibmackcbpniaa
namespace Idl
theorem tSc : EE.T 78 = some ⟨1, 24, .slice 30, [.nils]⟩ := by kernel_rfl
theorem sSc : SliceT EE 78 3 := ⟨_, _, _, _, _, tSc, tTm, rfl, by decide, by decide⟩
theorem bs0_sc (s : Nat) (h : Hp) (k : IV → Hp → List Ref → List Ref → Option (IV × Hp)) : genS (pcBuildSlice EE 78 0 []) s h k = k (.clip []) h [] [] := bs_tm tSc tTm (by decide) (cells := []) rfl k
theorem bs1_sc (o1 n1 : Int) (k1 : List FV) (s : Nat) (h : Hp) (k : IV → Hp → List Ref → List Ref → Option (IV × Hp)) : genS (pcBuildSlice EE 78 1 [(0, .fv (.agg [.int .i64 o1, .int .i64 n1, .sl k1]))]) s h k = k (.clip [.agg [.int .i64 o1, .int .i64 n1, .sl k1]]) h [] [] :=
  bs_tm tSc tTm (by decide) (cells := [.int .i64 o1, .int .i64 n1, .sl k1]) rfl k
theorem clone_ok {n : Nat} (g : List Tm) (hg : g.length ≤ 900000) : Ans (askedD true (SS dt (n + 1)) 107 [.fv (.sl (g.map Tm.enc))] []) (.sl (g.map Tm.enc)) := by
  cases g with
  | nil =>
    have h1 : isEmptySl (SS dt (n + 1) 107 [.nils] ⟨[], []⟩) = true := by kernel_rfl
    have h2 : isEmptySl (SS dt (n + 1) 107 [.emp] ⟨[], []⟩) = true := by kernel_rfl
    simp only [askedD, List.map_nil, h1, h2, Bool.and_self, if_true]
    exact ans_fv _ _
  | cons t g =>
    have e : askedD true (SS dt (n + 1)) 107 [.fv (.sl ((t :: g).map Tm.enc))] [] = SS dt (n + 1) 107 [.fv (.sl ((t :: g).map Tm.enc))] ⟨[], []⟩ := by
      simp [askedD]
    rw [e, c107]
    have happ := fun {β : Type} => app_0 (β := β) sSc (.sl ((t :: g).map Tm.enc)) (head_tm (t :: g)) rfl (by simp at hg ⊢; omega) (s0 := .clip []) (.inr rfl)
    simp only [List.map_cons] at happ ⊢
    simp only [S107, ↓XX, ↓reduceIte, Nat.reduceBEq, decide_true, decide_false, Bool.not_true, Bool.not_false, List.map_cons, List.map_nil, List.length_map, List.length_cons, List.length_nil, Nat.reduceAdd, Int.cast_ofNat_Int, Int.natCast_zero, Int.natCast_one, Bool.false_eq_true, Bool.true_eq_false, decide_eq_true_eq, eq_self, Int.reduceEq, Int.reduceLT, Int.reduceLE, Bool.and_true, Bool.true_and, Bool.and_false, Bool.false_and, Nat.zero_add, ↓eq_nl tSc, ↓bs0_sc, ↓happ]
    exact ans_p rfl _
theorem clip_ok {n : Nat} (g : List Tm) : ∃ own, SS dt (n + 1) 106 [.fv (.sl (g.map Tm.enc))] ⟨[], []⟩ = some (.clip (g.map Tm.enc), ⟨own, []⟩) := by
  rw [c106]
  have hs := fun {β : Type} => slice_c (β := β) (E := EE) sSc (es := g.map Tm.enc) (head_tm g)
  simp only [List.length_map] at hs
  simp only [S106, ↓XX, ↓reduceIte, Nat.reduceBEq, decide_true, decide_false, Bool.not_true, Bool.not_false, List.map_cons, List.map_nil, List.length_map, List.length_cons, List.length_nil, Nat.reduceAdd, Int.cast_ofNat_Int, Int.natCast_zero, Int.natCast_one, Bool.false_eq_true, Bool.true_eq_false, decide_eq_true_eq, eq_self, Int.reduceEq, Int.reduceLT, Int.reduceLE, Bool.and_true, Bool.true_and, Bool.and_false, Bool.false_and, Nat.zero_add, ↓hs]
  exact ⟨_, rfl⟩
theorem with_ok {n : Nat} (g : List Tm) (a : Tm) (hg : g.length ≤ 900000) (hn : 1 < n) : Ans (SS dt n 75 [.fv (.sl (g.map Tm.enc)), .fv a.enc] ⟨[], []⟩) (.sl ((g ++ [a]).map Tm.enc)) := by
  obtain ⟨n, rfl⟩ : ∃ k, n = k + 1 + 1 := ⟨n - 2, by omega⟩
  rw [c75]
  have h1 := clone_ok (n := n) g hg
  obtain ⟨o2, h2⟩ := clip_ok (n := n) g
  have happ := fun {β : Type} => app_c (β := β) sSc (.clip [a.enc]) (head_tm [a]) (head_tm g) rfl (by simp; omega)
  rw [List.map_append, List.map_cons, List.map_nil]
  obtain ⟨o, p, k⟩ := a
  rw [enc_mk] at happ ⊢
  simp only [S75_25, S75, ↓XX, ↓reduceIte, Nat.reduceBEq, decide_true, decide_false, Bool.not_true, Bool.not_false, List.map_cons, List.map_nil, List.length_map, List.length_cons, List.length_nil, Nat.reduceAdd, Int.cast_ofNat_Int, Int.natCast_zero, Int.natCast_one, Bool.false_eq_true, Bool.true_eq_false, decide_eq_true_eq, eq_self, Int.reduceEq, Int.reduceLT, Int.reduceLE, Bool.and_true, Bool.true_and, Bool.and_false, Bool.false_and, Nat.zero_add, ↓iso_sp h1, ↓iso_rw h2, ↓bs1_sc, ↓happ]
  exact ans_p rfl _
theorem of_ok {n : Nat} (hn : 0 < n) (op : Int) (l : List Tm) : Ans (SS dt n 64 [iv op, .fv (.sl (l.map Tm.enc))] ⟨[], []⟩) (Tm.mk op 0 l).enc := by
  obtain ⟨n, rfl⟩ : ∃ k, n = k + 1 := ⟨n - 1, by omega⟩
  rw [c64]
  simp only [S64, ↓XX, ↓reduceIte, Nat.reduceBEq, decide_true, decide_false, Bool.not_true, Bool.not_false, List.map_cons, List.map_nil, List.length_map, List.length_cons, List.length_nil, Nat.reduceAdd, Int.cast_ofNat_Int, Int.natCast_zero, Int.natCast_one, Bool.false_eq_true, Bool.true_eq_false, decide_eq_true_eq, eq_self, Int.reduceEq, Int.reduceLT, Int.reduceLE, Bool.and_true, Bool.true_and, Bool.and_false, Bool.false_and, Nat.zero_add, enc_mk]
  exact ans_fv _ _
theorem of0_ok {n : Nat} (hn : 0 < n) (op : Int) : Ans (SS dt n 64 [iv op, .fv (.sl [])] ⟨[], []⟩) (.agg [.int .i64 op, .int .i64 0, .sl []]) := of_ok hn op []
theorem made_ok {n : Nat} (a : Tm) (e : Int) (hn : 0 < n) (hn : e = 0 → 2 * a.wt + 4 < n) : Ans (SS dt n 105 [.fv a.enc, iv e] ⟨[], []⟩) (.tuple [a.enc, .int .i64 (if e = 0 then (a.chk 0 1).2 else e)]) := by
  obtain ⟨n, rfl⟩ : ∃ k, n = k + 1 := ⟨n - 1, by omega⟩
  rw [c105]
  by_cases he : e = 0
  · have h := pCheck_ok (n := n) a (by have := hn he; omega)
    generalize (a.chk 0 1).2 = c at h ⊢
    obtain ⟨o, p, k⟩ := a
    rw [enc_mk] at h ⊢
    simp only [S105_27, S105_28, S105, ↓XX, ↓reduceIte, Nat.reduceBEq, decide_true, decide_false, Bool.not_true, Bool.not_false, List.map_cons, List.map_nil, List.length_map, List.length_cons, List.length_nil, Nat.reduceAdd, Int.cast_ofNat_Int, Int.natCast_zero, Int.natCast_one, Bool.false_eq_true, Bool.true_eq_false, decide_eq_true_eq, eq_self, Int.reduceEq, Int.reduceLT, Int.reduceLE, Bool.and_true, Bool.true_and, Bool.and_false, Bool.false_and, Nat.zero_add, he, ↓iso_1 h]; first | exact ans_fv _ _ | exact ans_t rfl (by simp) _
  · obtain ⟨o, p, k⟩ := a
    rw [enc_mk]
    simp only [S105_27, S105_28, S105, ↓XX, ↓reduceIte, Nat.reduceBEq, decide_true, decide_false, Bool.not_true, Bool.not_false, List.map_cons, List.map_nil, List.length_map, List.length_cons, List.length_nil, Nat.reduceAdd, Int.cast_ofNat_Int, Int.natCast_zero, Int.natCast_one, Bool.false_eq_true, Bool.true_eq_false, decide_eq_true_eq, eq_self, Int.reduceEq, Int.reduceLT, Int.reduceLE, Bool.and_true, Bool.true_and, Bool.and_false, Bool.false_and, Nat.zero_add, he]; first | exact ans_fv _ _ | exact ans_t rfl (by simp) _
theorem pchk_ok {n : Nat} {g : List Tm} {t a : Tm} {q : Int × Tm} (h : AnsT (SS dt n 53 [.fv (.sl (g.map Tm.enc)), .fv t.enc] ⟨[], []⟩) q) (hw : 2 * a.wt + 2 < n) (ha : a.wt ≤ 100000000) :
    Ans (SS dt (n + 1) 73 [.fv (.sl (g.map Tm.enc)), .fv t.enc, .fv a.enc] ⟨[], []⟩) (.int .i64 (chkT q a)) := by
  obtain ⟨u, hu, he⟩ := h
  obtain ⟨e, r⟩ := q
  simp only at hu he
  rw [c73]
  have hs := psame_ok n a u hw ha
  unfold chkT
  simp only
  by_cases h0 : e = 0
  · have hur := he h0
    subst hur h0
    rw [if_pos rfl]
    generalize a.same u = b at hs ⊢
    obtain ⟨o1, n1, k1⟩ := t
    obtain ⟨o2, n2, k2⟩ := a
    obtain ⟨o3, n3, k3⟩ := u
    simp only [enc_mk] at hu hs ⊢
    cases b
    · simp only [S73_57, S73_58, S73, ↓XX, ↓reduceIte, Nat.reduceBEq, decide_true, decide_false, Bool.not_true, Bool.not_false, List.map_cons, List.map_nil, List.length_map, List.length_cons, List.length_nil, Nat.reduceAdd, Int.cast_ofNat_Int, Int.natCast_zero, Int.natCast_one, Bool.false_eq_true, Bool.true_eq_false, decide_eq_true_eq, eq_self, Int.reduceEq, Int.reduceLT, Int.reduceLE, Bool.and_true, Bool.true_and, Bool.and_false, Bool.false_and, Nat.zero_add, ↓iso_2 hu, ↓iso_2 hs]; exact ans_fv _ _
    · simp only [S73_57, S73_58, S73, ↓XX, ↓reduceIte, Nat.reduceBEq, decide_true, decide_false, Bool.not_true, Bool.not_false, List.map_cons, List.map_nil, List.length_map, List.length_cons, List.length_nil, Nat.reduceAdd, Int.cast_ofNat_Int, Int.natCast_zero, Int.natCast_one, Bool.false_eq_true, Bool.true_eq_false, decide_eq_true_eq, eq_self, Int.reduceEq, Int.reduceLT, Int.reduceLE, Bool.and_true, Bool.true_and, Bool.and_false, Bool.false_and, Nat.zero_add, ↓iso_2 hu, ↓iso_2 hs]; exact ans_fv _ _
  · rw [if_neg h0]
    obtain ⟨o1, n1, k1⟩ := t
    obtain ⟨o2, n2, k2⟩ := a
    obtain ⟨o3, n3, k3⟩ := u
    simp only [enc_mk] at hu hs ⊢
    simp only [S73_57, S73_58, S73, ↓XX, ↓reduceIte, Nat.reduceBEq, decide_true, decide_false, Bool.not_true, Bool.not_false, List.map_cons, List.map_nil, List.length_map, List.length_cons, List.length_nil, Nat.reduceAdd, Int.cast_ofNat_Int, Int.natCast_zero, Int.natCast_one, Bool.false_eq_true, Bool.true_eq_false, decide_eq_true_eq, eq_self, Int.reduceEq, Int.reduceLT, Int.reduceLE, Bool.and_true, Bool.true_and, Bool.and_false, Bool.false_and, Nat.zero_add, ↓iso_2 hu, h0]; exact ans_fv _ _
/-- A type's two parts. -/
def AnsS (r : Option (IV × Hp)) (q : Int × Tm) (op : Int) : Prop := ∃ u v e, Ans r (.tuple [Tm.enc u, Tm.enc v, .int .i64 e]) ∧ (q.1 ≠ 0 → e = q.1) ∧ (q.1 = 0 → q.2.op ≠ op → e = 12) ∧ (q.1 = 0 → q.2.op = op → e = 0 ∧ u = q.2.kid 0 ∧ v = q.2.kid 1)
theorem shape_ok {n : Nat} {g : List Tm} {t : Tm} {op : Int} {q : Int × Tm} (h : AnsT (SS dt n 53 [.fv (.sl (g.map Tm.enc)), .fv t.enc] ⟨[], []⟩) q) (ht : q.1 = 0 → q.2.op = op → ∃ x y, q.2.kids = [x, y]) :
    AnsS (SS dt (n + 1) 108 [.fv (.sl (g.map Tm.enc)), .fv t.enc, iv op] ⟨[], []⟩) q op := by
  obtain ⟨u, hu, he⟩ := h
  obtain ⟨e, r⟩ := q
  simp only at hu he ht
  rw [c108]
  by_cases h0 : e = 0
  · have hur := he h0
    subst hur h0
    obtain ⟨o1, n1, k1⟩ := t
    obtain ⟨o3, n3, k3⟩ := u
    simp only [enc_mk, Tm.op, Tm.kids] at hu ht ⊢
    by_cases h1 : o3 = op
    · obtain ⟨x, y, rfl⟩ := ht trivial h1
      refine ⟨x, y, 0, ?_, fun h => absurd rfl h, fun _ h => absurd h1 h, fun _ _ => ⟨rfl, rfl, rfl⟩⟩
      subst h1
      obtain ⟨o4, n4, k4⟩ := x
      obtain ⟨o5, n5, k5⟩ := y
      simp only [List.map_cons, List.map_nil, enc_mk] at hu ⊢
      simp only [S108_76, S108_77, S108_78, S108_79, S108_80, S108_81, S108_82, S108_83, S108_84, S108, ↓XX, ↓reduceIte, Nat.reduceBEq, decide_true, decide_false, Bool.not_true, Bool.not_false, List.map_cons, List.map_nil, List.length_map, List.length_cons, List.length_nil, Nat.reduceAdd, Int.cast_ofNat_Int, Int.natCast_zero, Int.natCast_one, Bool.false_eq_true, Bool.true_eq_false, decide_eq_true_eq, eq_self, Int.reduceEq, Int.reduceLT, Int.reduceLE, Bool.and_true, Bool.true_and, Bool.and_false, Bool.false_and, Nat.zero_add, ↓iso_2 hu, ↓ixt0, ↓ixt1]; first | exact ans_fv _ _ | exact ans_t rfl (by simp) _
    · refine ⟨.z, .z, 12, ?_, fun h => absurd rfl h, fun _ _ => rfl, fun _ h => absurd h h1⟩
      simp only [S108_76, S108_77, S108_78, S108_79, S108_80, S108_81, S108_82, S108_83, S108_84, S108, ↓XX, ↓reduceIte, Nat.reduceBEq, decide_true, decide_false, Bool.not_true, Bool.not_false, List.map_cons, List.map_nil, List.length_map, List.length_cons, List.length_nil, Nat.reduceAdd, Int.cast_ofNat_Int, Int.natCast_zero, Int.natCast_one, Bool.false_eq_true, Bool.true_eq_false, decide_eq_true_eq, eq_self, Int.reduceEq, Int.reduceLT, Int.reduceLE, Bool.and_true, Bool.true_and, Bool.and_false, Bool.false_and, Nat.zero_add, ↓iso_2 hu, h1, Tm.z, enc_mk]; first | exact ans_fv _ _ | exact ans_t rfl (by simp) _
  · obtain ⟨o1, n1, k1⟩ := t
    obtain ⟨o3, n3, k3⟩ := u
    simp only [enc_mk] at hu ⊢
    refine ⟨.z, .z, e, ?_, fun h => rfl, fun h => absurd h h0, fun h => absurd h h0⟩
    simp only [S108_76, S108_77, S108_78, S108_79, S108_80, S108_81, S108_82, S108_83, S108_84, S108, ↓XX, ↓reduceIte, Nat.reduceBEq, decide_true, decide_false, Bool.not_true, Bool.not_false, List.map_cons, List.map_nil, List.length_map, List.length_cons, List.length_nil, Nat.reduceAdd, Int.cast_ofNat_Int, Int.natCast_zero, Int.natCast_one, Bool.false_eq_true, Bool.true_eq_false, decide_eq_true_eq, eq_self, Int.reduceEq, Int.reduceLT, Int.reduceLE, Bool.and_true, Bool.true_and, Bool.and_false, Bool.false_and, Nat.zero_add, ↓iso_2 hu, h0, Tm.z, enc_mk]; first | exact ans_fv _ _ | exact ans_t rfl (by simp) _
end Idl
end Go.Proofs.Ytdibmackcbpniaa
namespace Go.Proofs.Ytdibmackcbpniaa
namespace Idl
theorem kp_parts (ih : Handler) (xs : List IV) (h0 : Hp) (k : IV → Hp → List Ref → List Ref → Option (IV × Hp)) : dynS EE ih (.fv (.func (.func 76) [] [])) xs h0 k = isoS [] false false ih 76 xs h0 k :=
  keep0 (by kernel_rfl) (by kernel_rfl) (by kernel_rfl) (by kernel_rfl) ..
abbrev InfAt (n : Nat) (g : List Tm) (t : Tm) : Prop := AnsT (SS dt n 53 [.fv (.sl (g.map Tm.enc)), .fv t.enc] ⟨[], []⟩) (t.inf g)
set_option maxRecDepth 20000 in
theorem binder_ok {n : Nat} {g : List Tm} {op m : Int} {a b : Tm} (ho : op = 20 ∨ op = 29) (hg : g.length ≤ 900000) (hn : a.wt + 3 < n) (ih : a.typed = true → InfAt n (g ++ [a]) b)
    (ihc : a.typed = true → Ans (SS dt n 73 [.fv (.sl ((g ++ [a]).map Tm.enc)), .fv b.enc, .fv a.enc] ⟨[], []⟩) (.int .i64 (chkT (b.inf (g ++ [a])) a)))
    (hb : a.typed = true → (b.inf (g ++ [a])).1 = 0 → 2 * (2 + a.wt + (b.inf (g ++ [a])).2.wt) + 4 < n) :
    AnsT (SS dt (n + 1) 74 [.fv (.sl (g.map Tm.enc)), .fv (Tm.mk op m [a, b]).enc] ⟨[], []⟩) ((Tm.mk op m [a, b]).inf g) := by
  rw [c74, Tm.inf]
  have hty := typed_ok n a (by omega)
  have hw := with_ok (n := n) g a hg (by omega)
  cases hta : a.typed
  · rw [hta] at hty
    have : (Tm.mk op m [a, b]).inf g = (10, .z) := by rcases ho with rfl | rfl <;> simp [Tm.inf, hta]
    rw [Tm.inf] at this
    simp only [hta] at this
    simp only [this]
    refine ansTe (u := .z) ?_ (by decide)
    obtain ⟨o1, n1, k1⟩ := a
    obtain ⟨o2, n2, k2⟩ := b
    simp only [enc_mk, Tm.z, List.map_cons, List.map_nil] at hty ⊢
    simp only [S74_116, S74_117, S74_118, S74_119, S74_120, S74_121, S74_122, S74_123, S74_124, S74_125, S74_126, S74_127, S74_128, S74_129, S74, ↓XX, ↓reduceIte, Nat.reduceBEq, decide_true, decide_false, Bool.not_true, Bool.not_false, List.map_cons, List.map_nil, List.length_map, List.length_cons, List.length_nil, Nat.reduceAdd, Int.cast_ofNat_Int, Int.natCast_zero, Int.natCast_one, Bool.false_eq_true, Bool.true_eq_false, decide_eq_true_eq, eq_self, Int.reduceEq, Int.reduceLT, Int.reduceLE, Bool.and_true, Bool.true_and, Bool.and_false, Bool.false_and, Nat.zero_add, ↓ixt0, ↓ixt1, ↓iso_1 hty]; first | exact ans_fv _ _ | exact ans_t rfl (by simp) _
  · rw [hta] at hty
    rcases ho with rfl | rfl
    · obtain ⟨u, hu, he⟩ := ih hta
      have hbb := hb hta
      simp only [if_true, Int.reduceEq, if_false, madeM]
      generalize b.inf (g ++ [a]) = q at hu he hbb ⊢
      obtain ⟨e, r⟩ := q
      simp only at hu he hbb ⊢
      have hof := of_ok (n := n) (by omega) 16 [a, u]
      have hm := made_ok (n := n) (.mk 16 0 [a, u]) e (by omega) (fun h => by have := he h; subst this; have := hbb h; simp only [Tm.wt, Tm.wtL]; omega)
      refine ⟨.mk 16 0 [a, u], ?_, fun h0 => ?_⟩
      · have e1 : (if e = 0 then (((Tm.mk 16 0 [a, r]).chk 0 1).2, Tm.mk 16 0 [a, r]) else (e, .z)).1 = (if e = 0 then ((Tm.mk 16 0 [a, u]).chk 0 1).2 else e) := by
          by_cases h : e = 0
          · rw [if_pos h, if_pos h, he h]
          · rw [if_neg h, if_neg h]
        rw [e1]
        generalize (if e = 0 then ((Tm.mk 16 0 [a, u]).chk 0 1).2 else e) = w at hm ⊢
        obtain ⟨o1, n1, k1⟩ := a
        obtain ⟨o2, n2, k2⟩ := b
        obtain ⟨o3, n3, k3⟩ := u
        simp only [enc_mk, List.map_cons, List.map_nil, List.map_append] at hty hw hu hof hm ⊢
        simp only [S74_116, S74_117, S74_118, S74_119, S74_120, S74_121, S74_122, S74_123, S74_124, S74_125, S74_126, S74_127, S74_128, S74_129, S74, ↓XX, ↓reduceIte, Nat.reduceBEq, decide_true, decide_false, Bool.not_true, Bool.not_false, List.map_cons, List.map_nil, List.length_map, List.length_cons, List.length_nil, Nat.reduceAdd, Int.cast_ofNat_Int, Int.natCast_zero, Int.natCast_one, Bool.false_eq_true, Bool.true_eq_false, decide_eq_true_eq, eq_self, Int.reduceEq, Int.reduceLT, Int.reduceLE, Bool.and_true, Bool.true_and, Bool.and_false, Bool.false_and, Nat.zero_add, ↓ixt0, ↓ixt1, ↓iso_1 hty, ↓iso_2 hw, ↓iso_2 hu, ↓bs2_g, ↓iso_2 hof, ↓iso_2 hm]; first | exact ans_fv _ _ | exact ans_t rfl (by simp) _
      · by_cases h : e = 0
        · rw [if_pos h, he h]
        · rw [if_neg h] at h0; exact absurd h0 h
    · have hc := ihc hta
      simp only [if_true, Int.reduceEq, if_false]
      refine ansT ?_
      generalize chkT (b.inf (g ++ [a])) a = w at hc ⊢
      obtain ⟨o1, n1, k1⟩ := a
      obtain ⟨o2, n2, k2⟩ := b
      simp only [enc_mk, List.map_cons, List.map_nil, List.map_append] at hty hw hc ⊢
      simp only [S74_116, S74_117, S74_118, S74_119, S74_120, S74_121, S74_122, S74_123, S74_124, S74_125, S74_126, S74_127, S74_128, S74_129, S74, ↓XX, ↓reduceIte, Nat.reduceBEq, decide_true, decide_false, Bool.not_true, Bool.not_false, List.map_cons, List.map_nil, List.length_map, List.length_cons, List.length_nil, Nat.reduceAdd, Int.cast_ofNat_Int, Int.natCast_zero, Int.natCast_one, Bool.false_eq_true, Bool.true_eq_false, decide_eq_true_eq, eq_self, Int.reduceEq, Int.reduceLT, Int.reduceLE, Bool.and_true, Bool.true_and, Bool.and_false, Bool.false_and, Nat.zero_add, ↓ixt0, ↓ixt1, ↓iso_1 hty, ↓iso_2 hw, ↓iso_3 hc]; first | exact ans_fv _ _ | exact ans_t rfl (by simp) _
theorem parts_o {n : Nat} {g : List Tm} {op m : Int} {l : List Tm} (h1 : op ≠ 22) (h2 : op ≠ 21) (h3 : op ≠ 23) (h4 : op ≠ 24) : Ans (SS dt (n + 1) 76 [.fv (.sl (g.map Tm.enc)), .fv (Tm.mk op m l).enc] ⟨[], []⟩) (.tuple [Tm.z.enc, .int .i64 10]) := by
  rw [c76, enc_mk]
  simp only [S76_191, S76_192, S76_193, S76_194, S76_195, S76_196, S76_197, S76_198, S76_199, S76_200, S76_201, S76_202, S76_203, S76_204, S76_205, S76_206, S76_207, S76_208, S76_209, S76_210, S76_211, S76, ↓XX, ↓reduceIte, Nat.reduceBEq, decide_true, decide_false, Bool.not_true, Bool.not_false, List.map_cons, List.map_nil, List.length_map, List.length_cons, List.length_nil, Nat.reduceAdd, Int.cast_ofNat_Int, Int.natCast_zero, Int.natCast_one, Bool.false_eq_true, Bool.true_eq_false, decide_eq_true_eq, eq_self, Int.reduceEq, Int.reduceLT, Int.reduceLE, Bool.and_true, Bool.true_and, Bool.and_false, Bool.false_and, Nat.zero_add, h1, h2, h3, h4, Tm.z, enc_mk]; first | exact ans_fv _ _ | exact ans_t rfl (by simp) _
theorem parts_f {n : Nat} {g : List Tm} {op m : Int} {a : Tm} (ho : op = 23 ∨ op = 24) (hs : AnsS (SS dt n 108 [.fv (.sl (g.map Tm.enc)), .fv a.enc, iv 17] ⟨[], []⟩) (a.inf g) 17) :
    AnsT (SS dt (n + 1) 76 [.fv (.sl (g.map Tm.enc)), .fv (Tm.mk op m [a]).enc] ⟨[], []⟩) ((Tm.mk op m [a]).inf g) := by
  rw [c76, Tm.inf]
  obtain ⟨u, v, e, hu, he1, he2, he3⟩ := hs
  generalize a.inf g = q at he1 he2 he3 ⊢
  obtain ⟨e', r⟩ := q
  simp only at he1 he2 he3 ⊢
  rcases ho with rfl | rfl
  · simp only [if_true]
    refine ⟨u, ?_, ?_⟩
    · have : (if e' = 0 then if r.op = 17 then ((0 : Int), r.kid 0) else (12, .z) else (e', .z)).1 = e := by
        by_cases h : e' = 0
        · rw [if_pos h]
          by_cases h2 : r.op = 17
          · rw [if_pos h2, (he3 h h2).1]
          · rw [if_neg h2, he2 h h2]
        · rw [if_neg h, he1 h]
      rw [this]
      obtain ⟨o1, n1, k1⟩ := a
      obtain ⟨o2, n2, k2⟩ := u
      obtain ⟨o3, n3, k3⟩ := v
      simp only [enc_mk, List.map_cons, List.map_nil] at hu ⊢
      simp only [S76_191, S76_192, S76_193, S76_194, S76_195, S76_196, S76_197, S76_198, S76_199, S76_200, S76_201, S76_202, S76_203, S76_204, S76_205, S76_206, S76_207, S76_208, S76_209, S76_210, S76_211, S76, ↓XX, ↓reduceIte, Nat.reduceBEq, decide_true, decide_false, Bool.not_true, Bool.not_false, List.map_cons, List.map_nil, List.length_map, List.length_cons, List.length_nil, Nat.reduceAdd, Int.cast_ofNat_Int, Int.natCast_zero, Int.natCast_one, Bool.false_eq_true, Bool.true_eq_false, decide_eq_true_eq, eq_self, Int.reduceEq, Int.reduceLT, Int.reduceLE, Bool.and_true, Bool.true_and, Bool.and_false, Bool.false_and, Nat.zero_add, ↓ixt0, ↓iso_3 hu]; first | exact ans_fv _ _ | exact ans_t rfl (by simp) _
    · intro h0
      by_cases h : e' = 0
      · rw [if_pos h] at h0 ⊢
        by_cases h2 : r.op = 17
        · rw [if_pos h2, (he3 h h2).2.1]
        · rw [if_neg h2] at h0; cases h0
      · rw [if_neg h] at h0; exact absurd h0 h
  · simp only [Int.reduceEq, if_false, if_true]
    refine ⟨v, ?_, ?_⟩
    · have : (if e' = 0 then if r.op = 17 then ((0 : Int), r.kid 1) else (12, .z) else (e', .z)).1 = e := by
        by_cases h : e' = 0
        · rw [if_pos h]
          by_cases h2 : r.op = 17
          · rw [if_pos h2, (he3 h h2).1]
          · rw [if_neg h2, he2 h h2]
        · rw [if_neg h, he1 h]
      rw [this]
      obtain ⟨o1, n1, k1⟩ := a
      obtain ⟨o2, n2, k2⟩ := u
      obtain ⟨o3, n3, k3⟩ := v
      simp only [enc_mk, List.map_cons, List.map_nil] at hu ⊢
      simp only [S76_191, S76_192, S76_193, S76_194, S76_195, S76_196, S76_197, S76_198, S76_199, S76_200, S76_201, S76_202, S76_203, S76_204, S76_205, S76_206, S76_207, S76_208, S76_209, S76_210, S76_211, S76, ↓XX, ↓reduceIte, Nat.reduceBEq, decide_true, decide_false, Bool.not_true, Bool.not_false, List.map_cons, List.map_nil, List.length_map, List.length_cons, List.length_nil, Nat.reduceAdd, Int.cast_ofNat_Int, Int.natCast_zero, Int.natCast_one, Bool.false_eq_true, Bool.true_eq_false, decide_eq_true_eq, eq_self, Int.reduceEq, Int.reduceLT, Int.reduceLE, Bool.and_true, Bool.true_and, Bool.and_false, Bool.false_and, Nat.zero_add, ↓ixt0, ↓iso_3 hu]; first | exact ans_fv _ _ | exact ans_t rfl (by simp) _
    · intro h0
      by_cases h : e' = 0
      · rw [if_pos h] at h0 ⊢
        by_cases h2 : r.op = 17
        · rw [if_pos h2, (he3 h h2).2.2]
        · rw [if_neg h2] at h0; cases h0
      · rw [if_neg h] at h0; exact absurd h0 h
set_option maxRecDepth 20000 in
theorem parts_a {n : Nat} {g : List Tm} {m : Int} {a b : Tm} (hs : AnsS (SS dt n 108 [.fv (.sl (g.map Tm.enc)), .fv a.enc, iv 16] ⟨[], []⟩) (a.inf g) 16)
    (hc : (a.inf g).1 = 0 → (a.inf g).2.op = 16 → Ans (SS dt n 73 [.fv (.sl (g.map Tm.enc)), .fv b.enc, .fv ((a.inf g).2.kid 0).enc] ⟨[], []⟩) (.int .i64 (chkT (b.inf g) ((a.inf g).2.kid 0)))) :
    AnsT (SS dt (n + 1) 76 [.fv (.sl (g.map Tm.enc)), .fv (Tm.mk 21 m [a, b]).enc] ⟨[], []⟩) ((Tm.mk 21 m [a, b]).inf g) := by
  rw [c76, Tm.inf]
  obtain ⟨u, v, e, hu, he1, he2, he3⟩ := hs
  simp only [Int.reduceEq, if_false, if_true]
  generalize a.inf g = q at he1 he2 he3 hc ⊢
  obtain ⟨e', r⟩ := q
  simp only at he1 he2 he3 hc ⊢
  have hfail : e ≠ 0 → AnsT (S76 (SS dt n) n (.fv (.sl (g.map Tm.enc))) (.fv (Tm.mk 21 m [a, b]).enc) ⟨[], []⟩) (e, .z) := by
    intro h0
    refine ansTe (u := .z) ?_ h0
    obtain ⟨o1, n1, k1⟩ := a
    obtain ⟨o2, n2, k2⟩ := u
    obtain ⟨o3, n3, k3⟩ := v
    simp only [enc_mk, List.map_cons, List.map_nil] at hu ⊢
    simp only [S76_191, S76_192, S76_193, S76_194, S76_195, S76_196, S76_197, S76_198, S76_199, S76_200, S76_201, S76_202, S76_203, S76_204, S76_205, S76_206, S76_207, S76_208, S76_209, S76_210, S76_211, S76, ↓XX, ↓reduceIte, Nat.reduceBEq, decide_true, decide_false, Bool.not_true, Bool.not_false, List.map_cons, List.map_nil, List.length_map, List.length_cons, List.length_nil, Nat.reduceAdd, Int.cast_ofNat_Int, Int.natCast_zero, Int.natCast_one, Bool.false_eq_true, Bool.true_eq_false, decide_eq_true_eq, eq_self, Int.reduceEq, Int.reduceLT, Int.reduceLE, Bool.and_true, Bool.true_and, Bool.and_false, Bool.false_and, Nat.zero_add, ↓ixt0, ↓iso_3 hu, h0, Tm.z, enc_mk]; first | exact ans_fv _ _ | exact ans_t rfl (by simp) _
  by_cases h : e' = 0
  · rw [if_pos h]
    by_cases h2 : r.op = 16
    · rw [if_pos h2]
      have hcc := hc h h2
      obtain ⟨h3, h4, h5⟩ := he3 h h2
      rw [← h4] at hcc ⊢
      rw [← h5]
      subst h3
      refine ansT ?_
      generalize chkT (b.inf g) u = w at hcc ⊢
      obtain ⟨o1, n1, k1⟩ := a
      obtain ⟨o2, n2, k2⟩ := u
      obtain ⟨o3, n3, k3⟩ := v
      obtain ⟨o4, n4, k4⟩ := b
      simp only [enc_mk, List.map_cons, List.map_nil] at hu hcc ⊢
      simp only [S76_191, S76_192, S76_193, S76_194, S76_195, S76_196, S76_197, S76_198, S76_199, S76_200, S76_201, S76_202, S76_203, S76_204, S76_205, S76_206, S76_207, S76_208, S76_209, S76_210, S76_211, S76, ↓XX, ↓reduceIte, Nat.reduceBEq, decide_true, decide_false, Bool.not_true, Bool.not_false, List.map_cons, List.map_nil, List.length_map, List.length_cons, List.length_nil, Nat.reduceAdd, Int.cast_ofNat_Int, Int.natCast_zero, Int.natCast_one, Bool.false_eq_true, Bool.true_eq_false, decide_eq_true_eq, eq_self, Int.reduceEq, Int.reduceLT, Int.reduceLE, Bool.and_true, Bool.true_and, Bool.and_false, Bool.false_and, Nat.zero_add, ↓ixt0, ↓ixt1, ↓iso_3 hu, ↓iso_3 hcc]; first | exact ans_fv _ _ | exact ans_t rfl (by simp) _
    · rw [if_neg h2]
      have := he2 h h2
      subst this
      exact hfail (by decide)
  · rw [if_neg h]
    have := he1 h
    subst this
    exact hfail h
set_option maxRecDepth 20000 in
theorem parts_p {n : Nat} {g : List Tm} {m : Int} {a b : Tm} (hn : 3 < n) (ha : InfAt n g a) (hb : (a.inf g).1 = 0 → InfAt n g b) (hw : (a.inf g).1 = 0 → (b.inf g).1 = 0 → 2 * (2 + (a.inf g).2.wt + (b.inf g).2.wt) + 4 < n) :
    AnsT (SS dt (n + 1) 76 [.fv (.sl (g.map Tm.enc)), .fv (Tm.mk 22 m [a, b]).enc] ⟨[], []⟩) ((Tm.mk 22 m [a, b]).inf g) := by
  rw [c76, Tm.inf]
  obtain ⟨u, hu, he⟩ := ha
  simp only [Int.reduceEq, if_false, if_true]
  generalize a.inf g = q at hu he hw hb ⊢
  obtain ⟨e, r⟩ := q
  simp only at hu he hw hb ⊢
  by_cases h : e = 0
  · rw [if_pos h]
    have := he h
    subst this
    subst h
    obtain ⟨v, hv, hve⟩ := hb rfl
    have hw := hw rfl
    unfold madeM
    generalize b.inf g = q at hv hve hw ⊢
    obtain ⟨e, r⟩ := q
    simp only at hv hve hw ⊢
    have hof := of_ok (n := n) (by omega) 17 [u, v]
    have hm := made_ok (n := n) (.mk 17 0 [u, v]) e (by omega) (fun h => by have := hve h; subst this; have := hw h; simp only [Tm.wt, Tm.wtL]; omega)
    refine ⟨.mk 17 0 [u, v], ?_, fun h0 => ?_⟩
    · have e1 : (if e = 0 then (((Tm.mk 17 0 [u, r]).chk 0 1).2, Tm.mk 17 0 [u, r]) else (e, .z)).1 = (if e = 0 then ((Tm.mk 17 0 [u, v]).chk 0 1).2 else e) := by
        by_cases h : e = 0
        · rw [if_pos h, if_pos h, hve h]
        · rw [if_neg h, if_neg h]
      rw [e1]
      generalize (if e = 0 then ((Tm.mk 17 0 [u, v]).chk 0 1).2 else e) = w at hm ⊢
      obtain ⟨o1, n1, k1⟩ := a
      obtain ⟨o2, n2, k2⟩ := b
      obtain ⟨o3, n3, k3⟩ := u
      obtain ⟨o4, n4, k4⟩ := v
      simp only [enc_mk, List.map_cons, List.map_nil] at hu hv hof hm ⊢
      simp only [S76_191, S76_192, S76_193, S76_194, S76_195, S76_196, S76_197, S76_198, S76_199, S76_200, S76_201, S76_202, S76_203, S76_204, S76_205, S76_206, S76_207, S76_208, S76_209, S76_210, S76_211, S76, ↓XX, ↓reduceIte, Nat.reduceBEq, decide_true, decide_false, Bool.not_true, Bool.not_false, List.map_cons, List.map_nil, List.length_map, List.length_cons, List.length_nil, Nat.reduceAdd, Int.cast_ofNat_Int, Int.natCast_zero, Int.natCast_one, Bool.false_eq_true, Bool.true_eq_false, decide_eq_true_eq, eq_self, Int.reduceEq, Int.reduceLT, Int.reduceLE, Bool.and_true, Bool.true_and, Bool.and_false, Bool.false_and, Nat.zero_add, ↓ixt0, ↓ixt1, ↓iso_2 hu, ↓iso_2 hv, ↓bs2_g, ↓iso_2 hof, ↓iso_2 hm]; first | exact ans_fv _ _ | exact ans_t rfl (by simp) _
    · by_cases h : e = 0
      · rw [if_pos h, hve h]
      · rw [if_neg h] at h0; exact absurd h0 h
  · rw [if_neg h]
    refine ansTe (u := .z) ?_ h
    obtain ⟨o1, n1, k1⟩ := a
    obtain ⟨o2, n2, k2⟩ := b
    obtain ⟨o3, n3, k3⟩ := u
    simp only [enc_mk, List.map_cons, List.map_nil] at hu ⊢
    simp only [S76_191, S76_192, S76_193, S76_194, S76_195, S76_196, S76_197, S76_198, S76_199, S76_200, S76_201, S76_202, S76_203, S76_204, S76_205, S76_206, S76_207, S76_208, S76_209, S76_210, S76_211, S76, ↓XX, ↓reduceIte, Nat.reduceBEq, decide_true, decide_false, Bool.not_true, Bool.not_false, List.map_cons, List.map_nil, List.length_map, List.length_cons, List.length_nil, Nat.reduceAdd, Int.cast_ofNat_Int, Int.natCast_zero, Int.natCast_one, Bool.false_eq_true, Bool.true_eq_false, decide_eq_true_eq, eq_self, Int.reduceEq, Int.reduceLT, Int.reduceLE, Bool.and_true, Bool.true_and, Bool.and_false, Bool.false_and, Nat.zero_add, ↓ixt0, ↓ixt1, ↓iso_2 hu, h, Tm.z, enc_mk]; first | exact ans_fv _ _ | exact ans_t rfl (by simp) _
end Idl
end Go.Proofs.Ytdibmackcbpniaa
namespace Go.Proofs.Ytdibmackcbpniaa
namespace Idl
theorem len0 {l : List Tm} (h : (l.length : Int) = 0) : l = [] := List.eq_nil_of_length_eq_zero (by omega)
theorem len1 {l : List Tm} (h : (l.length : Int) = 1) : ∃ a, l = [a] := by
  match l, h with
  | [a], _ => exact ⟨a, rfl⟩
  | [], h => simp at h
  | a :: b :: l, h => simp only [List.length_cons] at h; omega
theorem len2 {l : List Tm} (h : (l.length : Int) = 2) : ∃ a b, l = [a, b] := by
  match l, h with
  | [a, b], _ => exact ⟨a, b, rfl⟩
  | [], h => simp at h
  | [_], h => simp at h
  | a :: b :: c :: l, h => simp only [List.length_cons] at h; omega
theorem len3 {l : List Tm} (h : (l.length : Int) = 3) : ∃ a b c, l = [a, b, c] := by
  match l, h with
  | [a, b, c], _ => exact ⟨a, b, c, rfl⟩
  | [], h => simp at h
  | [_], h => simp at h
  | [_, _], h => simp at h
  | a :: b :: c :: d :: l, h => simp only [List.length_cons] at h; omega
theorem fun_parts {op : Int} (ho : op = 16 ∨ op = 17) {t : Tm} (h : t.typed = true) (h1 : t.op = op) : ∃ x y, t.kids = [x, y] := by
  rcases typed_op h with ⟨h2, _⟩ | ⟨_, a, b, h2, _⟩
  · omega
  · exact ⟨a, b, h2⟩
theorem part_wt {t x y : Tm} (h : t.kids = [x, y]) : (t.kid 0).wt < t.wt := by
  obtain ⟨o, p, k⟩ := t
  simp only [Tm.kids] at h
  subst h
  show x.wt < _
  simp only [Tm.wt, Tm.wtL]
  omega
set_option maxRecDepth 20000 in
theorem inf_ok (M : Nat) (hM : 3000 ≤ M) (hM2 : M ≤ 1000000) : ∀ (n : Nat) (t : Tm) (g : List Tm), t.shp → t.wt ≤ M → (∀ x ∈ g, x.typed = true ∧ x.wt ≤ M) → g.length + t.wt ≤ 900000 → 4 * t.wt + 6 * M + 60 < n → InfAt n g t := by
  intro n
  induction n using Nat.strongRecOn with
  | ind n ih =>
    intro t g hs hw hg hl hn
    obtain ⟨n, rfl⟩ : ∃ k, n = k + 1 := ⟨n - 1, by omega⟩
    obtain ⟨op, m, l⟩ := t
    have hs0 := hs
    rw [Tm.shp] at hs
    obtain ⟨hk, hv, hsl⟩ := hs
    simp only [Tm.wt] at hw hl hn
    have hof := of0_ok (n := n) (by omega) 15
    have hti := fun (k : Nat) => inf_typed M hM k
    have hgx : ∀ a : Tm, a.typed = true ∧ a.wt ≤ M → ∀ x ∈ g ++ [a], x.typed = true ∧ x.wt ≤ M := by
      intro a ha x hx
      rcases List.mem_append.1 hx with h | h
      · exact hg x h
      · rw [List.mem_singleton.1 h]; exact ha
    have hck : ∀ (c a : Tm) (g' : List Tm) (k : Nat), k + 1 ≤ n → c.shp → c.wt ≤ M → (∀ x ∈ g', x.typed = true ∧ x.wt ≤ M) → g'.length + c.wt ≤ 900000 → 4 * c.wt + 6 * M + 60 < k → a.wt ≤ M →
        Ans (SS dt (k + 1) 73 [.fv (.sl (g'.map Tm.enc)), .fv c.enc, .fv a.enc] ⟨[], []⟩) (.int .i64 (chkT (c.inf g') a)) :=
      fun c a g' k hk h1 h2 h3 h4 h5 h6 => pchk_ok (ih k (by omega) c g' h1 h2 h3 h4 h5) (by omega) (by omega)
    show AnsT _ _
    rw [c53]
    by_cases o1 : op = 1
    · subst o1
      have := len0 hk
      subst this
      have hm := hv rfl
      rw [Tm.inf, if_pos rfl, enc_mk]
      by_cases h2 : (g.length : Int) ≤ m
      · rw [if_pos h2]
        refine ansTe (u := .z) ?_ (by decide)
        simp only [S53_213, S53_214, S53_215, S53_216, S53_217, S53_218, S53_219, S53_220, S53_221, S53_222, S53_223, S53_224, S53_225, S53_226, S53_227, S53_228, S53_229, S53_230, S53_231, S53_232, S53_233, S53_234, S53_235, S53_236, S53_237, S53_238, S53_239, S53_240, S53_241, S53_242, S53_243, S53, ↓XX, ↓reduceIte, Nat.reduceBEq, decide_true, decide_false, Bool.not_true, Bool.not_false, List.map_cons, List.map_nil, List.length_map, List.length_cons, List.length_nil, Nat.reduceAdd, Int.cast_ofNat_Int, Int.natCast_zero, Int.natCast_one, Bool.false_eq_true, Bool.true_eq_false, decide_eq_true_eq, eq_self, Int.reduceEq, Int.reduceLT, Int.reduceLE, Bool.and_true, Bool.true_and, Bool.and_false, Bool.false_and, Nat.zero_add, h2, Tm.z, enc_mk]; first | exact ans_fv _ _ | exact ans_t rfl (by simp) _
      · rw [if_neg h2]
        have hlt : g.length - 1 - m.toNat < g.length := by omega
        have hget : g[g.length - 1 - m.toNat]? = some (g.getD (g.length - 1 - m.toNat) .z) := by
          rw [List.getD_eq_getElem?_getD, List.getElem?_eq_getElem hlt]; rfl
        have w1 : w64 ((g.length : Int) - 1) = (g.length : Int) - 1 := by rw [w64_id] <;> omega
        have w2 : w64 ((g.length : Int) - 1 - m) = ((g.length - 1 - m.toNat : Nat) : Int) := by rw [w64_id (by omega) (by omega)]; omega
        refine ansT ?_
        generalize g.getD (g.length - 1 - m.toNat) .z = x at hget ⊢
        obtain ⟨o, p, k⟩ := x
        simp only [S53_213, S53_214, S53_215, S53_216, S53_217, S53_218, S53_219, S53_220, S53_221, S53_222, S53_223, S53_224, S53_225, S53_226, S53_227, S53_228, S53_229, S53_230, S53_231, S53_232, S53_233, S53_234, S53_235, S53_236, S53_237, S53_238, S53_239, S53_240, S53_241, S53_242, S53_243, S53, ↓XX, ↓reduceIte, Nat.reduceBEq, decide_true, decide_false, Bool.not_true, Bool.not_false, List.map_cons, List.map_nil, List.length_map, List.length_cons, List.length_nil, Nat.reduceAdd, Int.cast_ofNat_Int, Int.natCast_zero, Int.natCast_one, Bool.false_eq_true, Bool.true_eq_false, decide_eq_true_eq, eq_self, Int.reduceEq, Int.reduceLT, Int.reduceLE, Bool.and_true, Bool.true_and, Bool.and_false, Bool.false_and, Nat.zero_add, h2, w1, w2, ↓ix_f (map_get hget) (agg3l _ _ _), ↓agg3, enc_mk]; first | exact ans_fv _ _ | exact ans_t rfl (by simp) _
    by_cases o2 : op = 25
    · subst o2
      have := len0 hk
      subst this
      rw [Tm.inf, if_neg (by decide), if_pos rfl, enc_mk]
      refine ansT ?_
      simp only [S53_213, S53_214, S53_215, S53_216, S53_217, S53_218, S53_219, S53_220, S53_221, S53_222, S53_223, S53_224, S53_225, S53_226, S53_227, S53_228, S53_229, S53_230, S53_231, S53_232, S53_233, S53_234, S53_235, S53_236, S53_237, S53_238, S53_239, S53_240, S53_241, S53_242, S53_243, S53, ↓XX, ↓reduceIte, Nat.reduceBEq, decide_true, decide_false, Bool.not_true, Bool.not_false, List.map_cons, List.map_nil, List.length_map, List.length_cons, List.length_nil, Nat.reduceAdd, Int.cast_ofNat_Int, Int.natCast_zero, Int.natCast_one, Bool.false_eq_true, Bool.true_eq_false, decide_eq_true_eq, eq_self, Int.reduceEq, Int.reduceLT, Int.reduceLE, Bool.and_true, Bool.true_and, Bool.and_false, Bool.false_and, Nat.zero_add, ↓iso_2 hof, tI, enc_mk]; first | exact ans_fv _ _ | exact ans_t rfl (by simp) _
    by_cases o3 : op = 26
    · subst o3
      obtain ⟨a, b, rfl⟩ := len2 hk
      simp only [Tm.wtL] at hw hl hn
      obtain ⟨k, rfl⟩ : ∃ k, n = k + 1 := ⟨n - 1, by omega⟩
      have htw : tI.wt ≤ M := by simp [tI, Tm.wt, Tm.wtL]; omega
      have ha := hck a tI g k (by omega) hsl.1 (by omega) hg (by omega) (by omega) htw
      have hb := hck b tI g k (by omega) hsl.2.1 (by omega) hg (by omega) (by omega) htw
      rw [Tm.inf, if_pos rfl]
      generalize chkT (a.inf g) tI = x at ha ⊢
      generalize chkT (b.inf g) tI = y at hb ⊢
      by_cases h : x = 0
      · rw [if_pos h]
        refine ansT ?_
        subst h
        obtain ⟨o1, n1, k1⟩ := a
        obtain ⟨o2, n2, k2⟩ := b
        simp only [enc_mk, tI, List.map_cons, List.map_nil] at ha hb ⊢
        simp only [S53_213, S53_214, S53_215, S53_216, S53_217, S53_218, S53_219, S53_220, S53_221, S53_222, S53_223, S53_224, S53_225, S53_226, S53_227, S53_228, S53_229, S53_230, S53_231, S53_232, S53_233, S53_234, S53_235, S53_236, S53_237, S53_238, S53_239, S53_240, S53_241, S53_242, S53_243, S53, ↓XX, ↓reduceIte, Nat.reduceBEq, decide_true, decide_false, Bool.not_true, Bool.not_false, List.map_cons, List.map_nil, List.length_map, List.length_cons, List.length_nil, Nat.reduceAdd, Int.cast_ofNat_Int, Int.natCast_zero, Int.natCast_one, Bool.false_eq_true, Bool.true_eq_false, decide_eq_true_eq, eq_self, Int.reduceEq, Int.reduceLT, Int.reduceLE, Bool.and_true, Bool.true_and, Bool.and_false, Bool.false_and, Nat.zero_add, ↓iso_2 hof, ↓ixt0, ↓ixt1, ↓iso_3 ha, ↓iso_3 hb]; first | exact ans_fv _ _ | exact ans_t rfl (by simp) _
      · rw [if_neg h]
        refine ansTe (u := .z) ?_ h
        obtain ⟨o1, n1, k1⟩ := a
        obtain ⟨o2, n2, k2⟩ := b
        simp only [enc_mk, tI, List.map_cons, List.map_nil] at ha hb ⊢
        simp only [S53_213, S53_214, S53_215, S53_216, S53_217, S53_218, S53_219, S53_220, S53_221, S53_222, S53_223, S53_224, S53_225, S53_226, S53_227, S53_228, S53_229, S53_230, S53_231, S53_232, S53_233, S53_234, S53_235, S53_236, S53_237, S53_238, S53_239, S53_240, S53_241, S53_242, S53_243, S53, ↓XX, ↓reduceIte, Nat.reduceBEq, decide_true, decide_false, Bool.not_true, Bool.not_false, List.map_cons, List.map_nil, List.length_map, List.length_cons, List.length_nil, Nat.reduceAdd, Int.cast_ofNat_Int, Int.natCast_zero, Int.natCast_one, Bool.false_eq_true, Bool.true_eq_false, decide_eq_true_eq, eq_self, Int.reduceEq, Int.reduceLT, Int.reduceLE, Bool.and_true, Bool.true_and, Bool.and_false, Bool.false_and, Nat.zero_add, ↓iso_2 hof, ↓ixt0, ↓ixt1, ↓iso_3 ha, h, Tm.z, enc_mk]; first | exact ans_fv _ _ | exact ans_t rfl (by simp) _
    by_cases o4 : op = 20 ∨ op = 29
    · have hk2 : kidsN op = 2 := by rcases o4 with rfl | rfl <;> rfl
      obtain ⟨a, b, rfl⟩ := len2 (hk.trans hk2)
      simp only [Tm.wtL] at hw hl hn
      obtain ⟨k, rfl⟩ : ∃ k, n = k + 1 + 1 := ⟨n - 2, by omega⟩
      obtain ⟨u, hu, hue⟩ := binder_ok (n := k + 1) (g := g) (op := op) (m := m) (a := a) (b := b) o4 (by omega) (by omega) (fun h => ih (k + 1) (by omega) b (g ++ [a]) hsl.2.1 (by omega) (hgx a ⟨h, by omega⟩) (by simp; omega) (by omega))
        (fun h => hck b a (g ++ [a]) k (by omega) hsl.2.1 (by omega) (hgx a ⟨h, by omega⟩) (by simp; omega) (by omega) (by omega))
        (fun h h0 => by have := (hti _ b (g ++ [a]) (Nat.lt_succ_self _) (by omega) (hgx a ⟨h, by omega⟩) hsl.2.1 h0).2; omega)
      refine ⟨u, ?_, hue⟩
      generalize (Tm.mk op m [a, b]).inf g = q at hu ⊢
      obtain ⟨e, r⟩ := q
      obtain ⟨o1, n1, k1⟩ := u
      simp only [enc_mk] at hu ⊢
      rcases o4 with rfl | rfl <;> (simp only [S53_213, S53_214, S53_215, S53_216, S53_217, S53_218, S53_219, S53_220, S53_221, S53_222, S53_223, S53_224, S53_225, S53_226, S53_227, S53_228, S53_229, S53_230, S53_231, S53_232, S53_233, S53_234, S53_235, S53_236, S53_237, S53_238, S53_239, S53_240, S53_241, S53_242, S53_243, S53, ↓XX, ↓reduceIte, Nat.reduceBEq, decide_true, decide_false, Bool.not_true, Bool.not_false, List.map_cons, List.map_nil, List.length_map, List.length_cons, List.length_nil, Nat.reduceAdd, Int.cast_ofNat_Int, Int.natCast_zero, Int.natCast_one, Bool.false_eq_true, Bool.true_eq_false, decide_eq_true_eq, eq_self, Int.reduceEq, Int.reduceLT, Int.reduceLE, Bool.and_true, Bool.true_and, Bool.and_false, Bool.false_and, Nat.zero_add, ↓iso_2 hu]; first | exact ans_fv _ _ | exact ans_t rfl (by simp) _)
    by_cases o5 : op = 28
    · subst o5
      obtain ⟨a, b, rfl⟩ := len2 hk
      simp only [Tm.wtL] at hw hl hn
      have hpa := wt_pos a
      have hpb := wt_pos b
      have hta := hti _ a g (Nat.lt_succ_self _) (by omega) hg hsl.1
      obtain ⟨u, hu, he⟩ := ih n (by omega) a g hsl.1 (by omega) hg (by omega) (by omega)
      rw [Tm.inf, if_neg (by decide), if_neg (by decide), if_neg (by decide), if_pos rfl]
      generalize a.inf g = q at hu he hta ⊢
      obtain ⟨e, r⟩ := q
      simp only at hu he hta ⊢
      by_cases h : e = 0
      · have := he h
        subst this h
        rw [if_pos rfl]
        have hwi := with_ok (n := n) g u (by omega) (by omega)
        obtain ⟨v, hv2, hve⟩ := ih n (by omega) b (g ++ [u]) hsl.2.1 (by omega) (hgx u (hta rfl)) (by simp; omega) (by omega)
        refine ⟨v, ?_, hve⟩
        generalize b.inf (g ++ [u]) = q at hv2 ⊢
        obtain ⟨o1, n1, k1⟩ := a
        obtain ⟨o2, n2, k2⟩ := b
        obtain ⟨o3, n3, k3⟩ := u
        obtain ⟨o4, n4, k4⟩ := v
        simp only [enc_mk, List.map_cons, List.map_nil, List.map_append] at hu hv2 hwi ⊢
        simp only [S53_213, S53_214, S53_215, S53_216, S53_217, S53_218, S53_219, S53_220, S53_221, S53_222, S53_223, S53_224, S53_225, S53_226, S53_227, S53_228, S53_229, S53_230, S53_231, S53_232, S53_233, S53_234, S53_235, S53_236, S53_237, S53_238, S53_239, S53_240, S53_241, S53_242, S53_243, S53, ↓XX, ↓reduceIte, Nat.reduceBEq, decide_true, decide_false, Bool.not_true, Bool.not_false, List.map_cons, List.map_nil, List.length_map, List.length_cons, List.length_nil, Nat.reduceAdd, Int.cast_ofNat_Int, Int.natCast_zero, Int.natCast_one, Bool.false_eq_true, Bool.true_eq_false, decide_eq_true_eq, eq_self, Int.reduceEq, Int.reduceLT, Int.reduceLE, Bool.and_true, Bool.true_and, Bool.and_false, Bool.false_and, Nat.zero_add, ↓ixt0, ↓ixt1, ↓iso_2 hu, ↓iso_2 hwi, ↓iso_2 hv2]; first | exact ans_fv _ _ | exact ans_t rfl (by simp) _
      · rw [if_neg h]
        refine ansTe (u := .z) ?_ h
        obtain ⟨o1, n1, k1⟩ := a
        obtain ⟨o2, n2, k2⟩ := b
        obtain ⟨o3, n3, k3⟩ := u
        simp only [enc_mk, List.map_cons, List.map_nil] at hu ⊢
        simp only [S53_213, S53_214, S53_215, S53_216, S53_217, S53_218, S53_219, S53_220, S53_221, S53_222, S53_223, S53_224, S53_225, S53_226, S53_227, S53_228, S53_229, S53_230, S53_231, S53_232, S53_233, S53_234, S53_235, S53_236, S53_237, S53_238, S53_239, S53_240, S53_241, S53_242, S53_243, S53, ↓XX, ↓reduceIte, Nat.reduceBEq, decide_true, decide_false, Bool.not_true, Bool.not_false, List.map_cons, List.map_nil, List.length_map, List.length_cons, List.length_nil, Nat.reduceAdd, Int.cast_ofNat_Int, Int.natCast_zero, Int.natCast_one, Bool.false_eq_true, Bool.true_eq_false, decide_eq_true_eq, eq_self, Int.reduceEq, Int.reduceLT, Int.reduceLE, Bool.and_true, Bool.true_and, Bool.and_false, Bool.false_and, Nat.zero_add, ↓ixt0, ↓ixt1, ↓iso_2 hu, h, Tm.z, enc_mk]; first | exact ans_fv _ _ | exact ans_t rfl (by simp) _
    by_cases o6 : op = 27
    · subst o6
      obtain ⟨a, b, c, rfl⟩ := len3 hk
      simp only [Tm.wtL] at hw hl hn
      obtain ⟨k, rfl⟩ : ∃ k, n = k + 1 := ⟨n - 1, by omega⟩
      have htw : tI.wt ≤ M := by simp [tI, Tm.wt, Tm.wtL]; omega
      have ha := hck a tI g k (by omega) hsl.1 (by omega) hg (by omega) (by omega) htw
      rw [Tm.inf, if_pos rfl]
      generalize chkT (a.inf g) tI = x at ha ⊢
      by_cases h : x = 0
      · subst h
        rw [if_pos rfl]
        obtain ⟨u, hu, he⟩ := ih (k + 1) (by omega) b g hsl.2.1 (by omega) hg (by omega) (by omega)
        have htb := hti _ b g (Nat.lt_succ_self _) (by omega) hg hsl.2.1
        have hc := fun (y : Tm) (hy : y.wt ≤ M) => hck c y g k (by omega) hsl.2.2.1 (by omega) hg (by omega) (by omega) hy
        generalize b.inf g = q at hu he htb ⊢
        obtain ⟨e, r⟩ := q
        simp only at hu he htb ⊢
        by_cases h : e = 0
        · have := he h
          subst this h
          rw [if_pos rfl]
          have hc := hc u (htb rfl).2
          refine ansT ?_
          generalize chkT (c.inf g) u = w at hc ⊢
          obtain ⟨o1, n1, k1⟩ := a
          obtain ⟨o2, n2, k2⟩ := b
          obtain ⟨o3, n3, k3⟩ := c
          obtain ⟨o4, n4, k4⟩ := u
          simp only [enc_mk, tI, List.map_cons, List.map_nil] at ha hu hc ⊢
          simp only [S53_213, S53_214, S53_215, S53_216, S53_217, S53_218, S53_219, S53_220, S53_221, S53_222, S53_223, S53_224, S53_225, S53_226, S53_227, S53_228, S53_229, S53_230, S53_231, S53_232, S53_233, S53_234, S53_235, S53_236, S53_237, S53_238, S53_239, S53_240, S53_241, S53_242, S53_243, S53, ↓XX, ↓reduceIte, Nat.reduceBEq, decide_true, decide_false, Bool.not_true, Bool.not_false, List.map_cons, List.map_nil, List.length_map, List.length_cons, List.length_nil, Nat.reduceAdd, Int.cast_ofNat_Int, Int.natCast_zero, Int.natCast_one, Bool.false_eq_true, Bool.true_eq_false, decide_eq_true_eq, eq_self, Int.reduceEq, Int.reduceLT, Int.reduceLE, Bool.and_true, Bool.true_and, Bool.and_false, Bool.false_and, Nat.zero_add, ↓iso_2 hof, ↓ixt0, ↓ixt1, ↓ixt2, ↓iso_3 ha, ↓iso_2 hu, ↓iso_3 hc]; first | exact ans_fv _ _ | exact ans_t rfl (by simp) _
        · rw [if_neg h]
          refine ansTe (u := .z) ?_ h
          obtain ⟨o1, n1, k1⟩ := a
          obtain ⟨o2, n2, k2⟩ := b
          obtain ⟨o3, n3, k3⟩ := c
          obtain ⟨o4, n4, k4⟩ := u
          simp only [enc_mk, tI, List.map_cons, List.map_nil] at ha hu ⊢
          simp only [S53_213, S53_214, S53_215, S53_216, S53_217, S53_218, S53_219, S53_220, S53_221, S53_222, S53_223, S53_224, S53_225, S53_226, S53_227, S53_228, S53_229, S53_230, S53_231, S53_232, S53_233, S53_234, S53_235, S53_236, S53_237, S53_238, S53_239, S53_240, S53_241, S53_242, S53_243, S53, ↓XX, ↓reduceIte, Nat.reduceBEq, decide_true, decide_false, Bool.not_true, Bool.not_false, List.map_cons, List.map_nil, List.length_map, List.length_cons, List.length_nil, Nat.reduceAdd, Int.cast_ofNat_Int, Int.natCast_zero, Int.natCast_one, Bool.false_eq_true, Bool.true_eq_false, decide_eq_true_eq, eq_self, Int.reduceEq, Int.reduceLT, Int.reduceLE, Bool.and_true, Bool.true_and, Bool.and_false, Bool.false_and, Nat.zero_add, ↓iso_2 hof, ↓ixt0, ↓ixt1, ↓ixt2, ↓iso_3 ha, ↓iso_2 hu, h, Tm.z, enc_mk]; first | exact ans_fv _ _ | exact ans_t rfl (by simp) _
      · rw [if_neg h]
        refine ansTe (u := .z) ?_ h
        obtain ⟨o1, n1, k1⟩ := a
        obtain ⟨o2, n2, k2⟩ := b
        obtain ⟨o3, n3, k3⟩ := c
        simp only [enc_mk, tI, List.map_cons, List.map_nil] at ha ⊢
        simp only [S53_213, S53_214, S53_215, S53_216, S53_217, S53_218, S53_219, S53_220, S53_221, S53_222, S53_223, S53_224, S53_225, S53_226, S53_227, S53_228, S53_229, S53_230, S53_231, S53_232, S53_233, S53_234, S53_235, S53_236, S53_237, S53_238, S53_239, S53_240, S53_241, S53_242, S53_243, S53, ↓XX, ↓reduceIte, Nat.reduceBEq, decide_true, decide_false, Bool.not_true, Bool.not_false, List.map_cons, List.map_nil, List.length_map, List.length_cons, List.length_nil, Nat.reduceAdd, Int.cast_ofNat_Int, Int.natCast_zero, Int.natCast_one, Bool.false_eq_true, Bool.true_eq_false, decide_eq_true_eq, eq_self, Int.reduceEq, Int.reduceLT, Int.reduceLE, Bool.and_true, Bool.true_and, Bool.and_false, Bool.false_and, Nat.zero_add, ↓iso_2 hof, ↓ixt0, ↓ixt1, ↓ixt2, ↓iso_3 ha, h, Tm.z, enc_mk]; first | exact ans_fv _ _ | exact ans_t rfl (by simp) _
    have o7 : op ≠ 20 := fun h => o4 (.inl h)
    have o8 : op ≠ 29 := fun h => o4 (.inr h)
    have hpart : AnsT (SS dt n 76 [.fv (.sl (g.map Tm.enc)), .fv (Tm.mk op m l).enc] ⟨[], []⟩) ((Tm.mk op m l).inf g) := by
      obtain ⟨n, rfl⟩ : ∃ k, n = k + 1 + 1 := ⟨n - 2, by omega⟩
      by_cases p1 : op = 23 ∨ op = 24
      · have hk2 : kidsN op = 1 := by rcases p1 with rfl | rfl <;> rfl
        obtain ⟨a, rfl⟩ := len1 (hk.trans hk2)
        simp only [Tm.wtL] at hw hl hn
        refine parts_f p1 (shape_ok (ih n (by omega) a g hsl.1 (by omega) hg (by omega) (by omega)) fun h h2 => ?_)
        exact fun_parts (.inr rfl) (hti _ a g (Nat.lt_succ_self _) (by omega) hg hsl.1 h).1 h2
      by_cases p2 : op = 21
      · subst p2
        obtain ⟨a, b, rfl⟩ := len2 hk
        simp only [Tm.wtL] at hw hl hn
        have hta := hti _ a g (Nat.lt_succ_self _) (by omega) hg hsl.1
        refine parts_a (shape_ok (ih n (by omega) a g hsl.1 (by omega) hg (by omega) (by omega)) fun h h2 => fun_parts (.inl rfl) (hta h).1 h2) fun h h2 => ?_
        obtain ⟨x, y, hxy⟩ := fun_parts (.inl rfl) (hta h).1 h2
        exact hck b _ g n (by omega) hsl.2.1 (by omega) hg (by omega) (by omega) (by have := part_wt hxy; have := (hta h).2; omega)
      by_cases p3 : op = 22
      · subst p3
        obtain ⟨a, b, rfl⟩ := len2 hk
        simp only [Tm.wtL] at hw hl hn
        have hta := hti _ a g (Nat.lt_succ_self _) (by omega) hg hsl.1
        have htb := hti _ b g (Nat.lt_succ_self _) (by omega) hg hsl.2.1
        exact parts_p (by omega) (ih (n + 1) (by omega) a g hsl.1 (by omega) hg (by omega) (by omega)) (fun _ => ih (n + 1) (by omega) b g hsl.2.1 (by omega) hg (by omega) (by omega)) (fun h h2 => by have := (hta h).2; have := (htb h2).2; omega)
      rw [inf_other ⟨o1, o2, fun h => p1 (.inl h), fun h => p1 (.inr h), o3, o7, o8, o5, p3, p2, o6⟩]
      exact ansT (parts_o p3 p2 (fun h => p1 (.inl h)) (fun h => p1 (.inr h)))
    obtain ⟨u, hu, hue⟩ := hpart
    refine ⟨u, ?_, hue⟩
    generalize (Tm.mk op m l).inf g = q at hu ⊢
    obtain ⟨e, r⟩ := q
    obtain ⟨p1, p2, p3⟩ := u
    simp only [enc_mk] at hu ⊢
    simp only [S53_213, S53_214, S53_215, S53_216, S53_217, S53_218, S53_219, S53_220, S53_221, S53_222, S53_223, S53_224, S53_225, S53_226, S53_227, S53_228, S53_229, S53_230, S53_231, S53_232, S53_233, S53_234, S53_235, S53_236, S53_237, S53_238, S53_239, S53_240, S53_241, S53_242, S53_243, S53, ↓XX, ↓reduceIte, Nat.reduceBEq, decide_true, decide_false, Bool.not_true, Bool.not_false, List.map_cons, List.map_nil, List.length_map, List.length_cons, List.length_nil, Nat.reduceAdd, Int.cast_ofNat_Int, Int.natCast_zero, Int.natCast_one, Bool.false_eq_true, Bool.true_eq_false, decide_eq_true_eq, eq_self, Int.reduceEq, Int.reduceLT, Int.reduceLE, Bool.and_true, Bool.true_and, Bool.and_false, Bool.false_and, Nat.zero_add, o1, o2, o3, o5, o6, o7, o8, ↓kp_parts, ↓iso_2 hu]; first | exact ans_fv _ _ | exact ans_t rfl (by simp) _
end Idl
end Go.Proofs.Ytdibmackcbpniaa
namespace Go.Proofs.Ytdibmackcbpniaa
namespace Idl
noncomputable abbrev Hown (op m : Int) (ks done : List Tm) (r : Nat) : Hp :=
  ⟨[(56623104, .row [iv op, iv m, .fv (.sl (ks.map Tm.enc))] false), (56623105, .row [iv 0, iv 0, .nils] false), (56624131, .row (cellsT done r) false)], []⟩
set_option maxRecDepth 20000 in
set_option maxHeartbeats 1000000 in
theorem own_ok : ∀ (n : Nat) (t : Tm), t.wt + 1 < n → t.shp → AnsF (SS dt n 54 [.fv t.enc] ⟨[], []⟩) t.enc := by
  intro n
  induction n with
  | zero => intro t h; omega
  | succ n ih =>
    intro t hn hs
    obtain ⟨op, m, ks⟩ := t
    simp only [Tm.wt] at hn
    rw [Tm.shp] at hs
    obtain ⟨hk, _, hsl⟩ := hs
    have hk4 := kidsN_le op
    rw [c54]
    have hlen := wt_len ks
    rw [enc_mk]
    simp only [S54_72, S54_73, S54_74, S54_75, S54_76, S54_78, S54, ↓XX, ↓reduceIte, Nat.reduceBEq, decide_true, decide_false, Bool.not_true, Bool.not_false, List.map_cons, List.map_nil, List.length_map, List.length_cons, List.length_nil, Nat.reduceAdd, Int.cast_ofNat_Int, Int.natCast_zero, Int.natCast_one, Bool.false_eq_true, Bool.true_eq_false, decide_eq_true_eq, eq_self, Int.reduceEq, Int.reduceLT, Int.reduceLE, Bool.and_true, Bool.true_and, Bool.and_false, Bool.false_and, Nat.zero_add, ↓mk_t (show ks.length ≤ 1000 by omega), ↓drop_e, XD, heldB, flatD, List.any_cons, List.any_nil, List.all_cons, List.all_nil, List.filter_cons, List.filter_nil, List.contains_cons, List.contains_nil, Bool.or_false, Bool.or_true, Bool.false_or, Bool.true_or, Bool.and_self, Bool.not_eq_true, BEq.rfl, beq_self_eq_true, flat_t, names_t]
    refine loop_run (Q := fun r => AnsF r _) (fun k V H => ∃ (pre rest : List Tm), ks = pre ++ rest ∧ rest.length = k ∧ Tm.shpL rest ∧
        V = [.ptr (.own 56623104) 0, .ptr (.own 56623105) 0, .slc (.own 56624131) 3 ks.length, .fv (.sl (ks.map Tm.enc)), iv ks.length, iv pre.length] ∧ H = Hown op m ks pre rest.length)
      ?_ n ks.length _ _ (by omega) ⟨[], ks, rfl, rfl, hsl, rfl, rfl⟩
    rintro k V H rec ⟨pre, rest, hks, hl, hsr, rfl, rfl⟩ hrec
    have hkl : ks.length = pre.length + rest.length := by rw [hks]; simp
    cases rest with
    | nil =>
      have hno : ¬ ((pre.length : Int) < ks.length) := by rw [hkl]; simp
      have hpk : ks = pre := by rw [hks, List.append_nil]
      subst hpk
      simp only [S54_72, S54_73, S54_74, S54_75, S54_76, S54_77, S54_78, S54, ↓XX, ↓reduceIte, Nat.reduceBEq, decide_true, decide_false, Bool.not_true, Bool.not_false, List.map_cons, List.map_nil, List.length_map, List.length_cons, List.length_nil, Nat.reduceAdd, Int.cast_ofNat_Int, Int.natCast_zero, Int.natCast_one, Bool.false_eq_true, Bool.true_eq_false, decide_eq_true_eq, eq_self, Int.reduceEq, Int.reduceLT, Int.reduceLE, Bool.and_true, Bool.true_and, Bool.and_false, Bool.false_and, Nat.zero_add, hno]
      exact ⟨_, _, rfl, _, _, fun e0 K => fz_tm (by rfl) (by omega) [] e0 K⟩
    | cons x rest =>
      have hi : (pre.length : Int) < ks.length := by rw [hkl]; simp; omega
      have hg2 := at_pre hks
      have hxw := wt_mem (t := x) (l := ks) (by rw [hks]; simp)
      have hs := ih x (by omega) hsr.1
      have hwi : w64 ((pre.length : Int) + 1) = ((pre ++ [x]).length : Int) := (w64_id (by omega) (by omega)).trans (by simp)
      have hin : pre.length < ks.length := by omega
      have hst := fun {β : Type} => set_t (β := β) pre rest.length x.op x.n x.kids
      obtain ⟨o, p, l⟩ := x
      simp only [Tm.op, Tm.n, Tm.kids] at hst
      rw [enc_mk] at hs
      simp only [List.length_cons] at hl
      simp only [S54_72, S54_73, S54_74, S54_75, S54_76, S54_77, S54_78, S54, ↓XX, ↓reduceIte, Nat.reduceBEq, decide_true, decide_false, Bool.not_true, Bool.not_false, List.map_cons, List.map_nil, List.length_map, List.length_cons, List.length_nil, Nat.reduceAdd, Int.cast_ofNat_Int, Int.natCast_zero, Int.natCast_one, Bool.false_eq_true, Bool.true_eq_false, decide_eq_true_eq, eq_self, Int.reduceEq, Int.reduceLT, Int.reduceLE, Bool.and_true, Bool.true_and, Bool.and_false, Bool.false_and, Nat.zero_add, hi, ↓ix_f (map_get hg2) (agg3l _ _ _), ↓agg3, hwi, ↓iso_1 (ansf hs), ↓ix_sl3 hin, ↓hst, ↓drop_e, XD, heldB, flatD, List.any_cons, List.any_nil, List.all_cons, List.all_nil, List.filter_cons, List.filter_nil, List.contains_cons, List.contains_nil, Bool.or_false, Bool.or_true, Bool.false_or, Bool.true_or, Bool.and_self, Bool.not_eq_true, BEq.rfl, beq_self_eq_true, flat_t, names_t]
      exact hrec rest.length _ _ (by omega) ⟨pre ++ [.mk o p l], rest, by rw [hks]; simp, rfl, hsr.2, rfl, rfl⟩
theorem kp_inf1 (ih : Handler) (xs : List IV) (h0 : Hp) (k : IV → Hp → List Ref → List Ref → Option (IV × Hp)) : dynS EE ih (.fv (.func (.func 51) [] [])) xs h0 k = isoS [] false false ih 51 xs h0 k :=
  keep0 (by kernel_rfl) (by kernel_rfl) (by kernel_rfl) (by kernel_rfl) ..
theorem notty_ok {n : Nat} (t : Tm) (hn : t.wt + 1 < n) (ht : t.typed = true) : Ans (SS dt n 51 [.fv t.enc] ⟨[], []⟩) (.bool false) := by
  obtain ⟨n, rfl⟩ : ∃ k, n = k + 1 := ⟨n - 1, by omega⟩
  rw [c51]
  have h := typed_ok n t (by omega)
  rw [ht] at h
  obtain ⟨o, p, l⟩ := t
  rw [enc_mk] at h ⊢
  simp only [S51, ↓XX, ↓reduceIte, Nat.reduceBEq, decide_true, decide_false, Bool.not_true, Bool.not_false, List.map_cons, List.map_nil, List.length_map, List.length_cons, List.length_nil, Nat.reduceAdd, Int.cast_ofNat_Int, Int.natCast_zero, Int.natCast_one, Bool.false_eq_true, Bool.true_eq_false, decide_eq_true_eq, eq_self, Int.reduceEq, Int.reduceLT, Int.reduceLE, Bool.and_true, Bool.true_and, Bool.and_false, Bool.false_and, Nat.zero_add, ↓iso_1 h]; exact ans_fv _ _
theorem index_ok {n : Nat} (M : Nat) (g : List Tm) (hg : ∀ x ∈ g, x.typed = true ∧ x.wt ≤ M) (hl : g.length ≤ 900000) (hn : g.length + M + 2 < n) : Ans (SS dt n 72 [.fv (.sl (g.map Tm.enc)), .fv (.func (.func 51) [] [])] ⟨[], []⟩) (.int .i64 (-1)) := by
  obtain ⟨n, rfl⟩ : ∃ k, n = k + 1 := ⟨n - 1, by omega⟩
  rw [c72]
  simp only [S72_24, S72_25, S72, ↓XX, ↓reduceIte, Nat.reduceBEq, decide_true, decide_false, Bool.not_true, Bool.not_false, List.map_cons, List.map_nil, List.length_map, List.length_cons, List.length_nil, Nat.reduceAdd, Int.cast_ofNat_Int, Int.natCast_zero, Int.natCast_one, Bool.false_eq_true, Bool.true_eq_false, decide_eq_true_eq, eq_self, Int.reduceEq, Int.reduceLT, Int.reduceLE, Bool.and_true, Bool.true_and, Bool.and_false, Bool.false_and, Nat.zero_add]
  refine loop_run (Q := fun r => Ans r _) (fun k V H => ∃ (pre rest : List Tm), g = pre ++ rest ∧ rest.length = k ∧
      V = [.fv (.sl (g.map Tm.enc)), .fv (.func (.func 51) [] []), iv g.length, iv pre.length] ∧ H = ⟨[], []⟩)
    ?_ n g.length _ _ (by omega) ⟨[], g, rfl, rfl, rfl, rfl⟩
  rintro k V H rec ⟨pre, rest, hks, hl, rfl, rfl⟩ hrec
  have hkl : g.length = pre.length + rest.length := by rw [hks]; simp
  cases rest with
  | nil =>
    have hno : ¬ ((pre.length : Int) < g.length) := by rw [hkl]; simp
    simp only [S72_24, S72_25, S72_26, S72, ↓XX, ↓reduceIte, Nat.reduceBEq, decide_true, decide_false, Bool.not_true, Bool.not_false, List.map_cons, List.map_nil, List.length_map, List.length_cons, List.length_nil, Nat.reduceAdd, Int.cast_ofNat_Int, Int.natCast_zero, Int.natCast_one, Bool.false_eq_true, Bool.true_eq_false, decide_eq_true_eq, eq_self, Int.reduceEq, Int.reduceLT, Int.reduceLE, Bool.and_true, Bool.true_and, Bool.and_false, Bool.false_and, Nat.zero_add, hno]; exact ans_fv _ _
  | cons x rest =>
    have hi : (pre.length : Int) < g.length := by rw [hkl]; simp; omega
    have hg2 := at_pre hks
    have hx := hg x (by rw [hks]; simp)
    have hs := notty_ok (n := n) x (by omega) hx.1
    have hwi : w64 ((pre.length : Int) + 1) = ((pre ++ [x]).length : Int) := (w64_id (by omega) (by omega)).trans (by simp)
    obtain ⟨o, p, l⟩ := x
    rw [enc_mk] at hs
    simp only [List.length_cons] at hl
    simp only [S72_24, S72_25, S72_26, S72, ↓XX, ↓reduceIte, Nat.reduceBEq, decide_true, decide_false, Bool.not_true, Bool.not_false, List.map_cons, List.map_nil, List.length_map, List.length_cons, List.length_nil, Nat.reduceAdd, Int.cast_ofNat_Int, Int.natCast_zero, Int.natCast_one, Bool.false_eq_true, Bool.true_eq_false, decide_eq_true_eq, eq_self, Int.reduceEq, Int.reduceLT, Int.reduceLE, Bool.and_true, Bool.true_and, Bool.and_false, Bool.false_and, Nat.zero_add, hi, ↓ix_f (map_get hg2) (agg3l _ _ _), ↓agg3, ↓kp_inf1, ↓iso_1 hs, hwi]
    exact hrec rest.length _ _ (by omega) ⟨pre ++ [.mk o p l], rest, by rw [hks]; simp, rfl, rfl, rfl⟩
theorem contains_ok {n : Nat} (M : Nat) (g : List Tm) (hg : ∀ x ∈ g, x.typed = true ∧ x.wt ≤ M) (hl : g.length ≤ 900000) (hn : g.length + M + 3 < n) : Ans (SS dt n 50 [.fv (.sl (g.map Tm.enc)), .fv (.func (.func 51) [] [])] ⟨[], []⟩) (.bool false) := by
  obtain ⟨n, rfl⟩ : ∃ k, n = k + 1 := ⟨n - 1, by omega⟩
  rw [c50]
  have h := index_ok (n := n) M g hg hl (by omega)
  simp only [S50, ↓XX, ↓reduceIte, Nat.reduceBEq, decide_true, decide_false, Bool.not_true, Bool.not_false, List.map_cons, List.map_nil, List.length_map, List.length_cons, List.length_nil, Nat.reduceAdd, Int.cast_ofNat_Int, Int.natCast_zero, Int.natCast_one, Bool.false_eq_true, Bool.true_eq_false, decide_eq_true_eq, eq_self, Int.reduceEq, Int.reduceLT, Int.reduceLE, Bool.and_true, Bool.true_and, Bool.and_false, Bool.false_and, Nat.zero_add, ↓iso_2 h]; exact ans_fv _ _
/-- What Infer tells. -/
def Tm.infer (t : Tm) (g : List Tm) : Tm × Int := if (t.chk 0 1).2 = 0 then (if (t.inf g).1 = 0 then ((t.inf g).2, 0) else (.z, (t.inf g).1)) else (.z, 1)
mutual
theorem typed_shp : ∀ (t : Tm), t.typed = true → t.shp
  | .mk op m [], h => by
    have h1 : op = 15 := by simpa [Tm.typed] using h
    subst h1
    rw [Tm.shp]
    exact ⟨rfl, (fun h => by cases h), trivial⟩
  | .mk op m [_], h => by rw [typed1] at h; cases h
  | .mk op m (_ :: _ :: _ :: _), h => by rw [typed3] at h; cases h
  | .mk op m [a, b], h => by
    simp only [Tm.typed, Bool.and_eq_true, Bool.or_eq_true, decide_eq_true_eq] at h
    rw [Tm.shp]
    exact ⟨(by rcases h.1 with rfl | rfl <;> rfl), (fun h1 => by omega), typed_shp a h.2.1, typed_shp b h.2.2, trivial⟩
end
theorem pInfer_ok (M : Nat) (hM : 3000 ≤ M) (hM2 : M ≤ 1000000) (n : Nat) (t : Tm) (g : List Tm) (h2 : t.wt ≤ M) (h3 : ∀ x ∈ g, x.typed = true ∧ x.wt ≤ M) (h4 : g.length + t.wt ≤ 900000) (h5 : 4 * t.wt + 6 * M + g.length + 61 < n) :
    Ans (SS dt n 17 [.fv (.sl (g.map Tm.enc)), .fv t.enc] ⟨[], []⟩) (.tuple [(t.infer g).1.enc, .int .i64 (t.infer g).2]) := by
  obtain ⟨n, rfl⟩ : ∃ k, n = k + 1 := ⟨n - 1, by omega⟩
  rw [c17]
  have hc := pCheck_ok (n := n) t (by omega)
  have hcf := contains_ok (n := n) M g h3 (by omega) (by omega)
  unfold Tm.infer
  by_cases h0 : (t.chk 0 1).2 = 0
  · rw [if_pos h0]
    rw [h0] at hc
    have hs := chk_shp t 0 1 h0
    obtain ⟨u, hu, he⟩ := inf_ok M hM hM2 n t g hs h2 h3 h4 (by omega)
    have hty := inf_typed M hM _ t g (Nat.lt_succ_self _) h2 h3 hs
    generalize t.inf g = q at hu he hty ⊢
    obtain ⟨e, r⟩ := q
    simp only at hu he hty ⊢
    by_cases h1 : e = 0
    · have := he h1
      subst this h1
      rw [if_pos rfl]
      have hy := hty rfl
      have ho := own_ok n u (by omega) (typed_shp u hy.1)
      obtain ⟨o1, n1, k1⟩ := t
      obtain ⟨o2, n2, k2⟩ := u
      simp only [enc_mk] at hc hu ho ⊢
      simp only [S17_65, S17_66, S17_67, S17_68, S17_69, S17_70, S17, ↓XX, ↓reduceIte, Nat.reduceBEq, decide_true, decide_false, Bool.not_true, Bool.not_false, List.map_cons, List.map_nil, List.length_map, List.length_cons, List.length_nil, Nat.reduceAdd, Int.cast_ofNat_Int, Int.natCast_zero, Int.natCast_one, Bool.false_eq_true, Bool.true_eq_false, decide_eq_true_eq, eq_self, Int.reduceEq, Int.reduceLT, Int.reduceLE, Bool.and_true, Bool.true_and, Bool.and_false, Bool.false_and, Nat.zero_add, ↓iso_1 hc, ↓iso_2 hcf, ↓iso_2 hu, ↓iso_1 (ansf ho)]; first | exact ans_fv _ _ | exact ans_t rfl (by simp) _
    · rw [if_neg h1]
      obtain ⟨o1, n1, k1⟩ := t
      obtain ⟨o2, n2, k2⟩ := u
      simp only [enc_mk, Tm.z] at hc hu ⊢
      simp only [S17_65, S17_66, S17_67, S17_68, S17_69, S17_70, S17, ↓XX, ↓reduceIte, Nat.reduceBEq, decide_true, decide_false, Bool.not_true, Bool.not_false, List.map_cons, List.map_nil, List.length_map, List.length_cons, List.length_nil, Nat.reduceAdd, Int.cast_ofNat_Int, Int.natCast_zero, Int.natCast_one, Bool.false_eq_true, Bool.true_eq_false, decide_eq_true_eq, eq_self, Int.reduceEq, Int.reduceLT, Int.reduceLE, Bool.and_true, Bool.true_and, Bool.and_false, Bool.false_and, Nat.zero_add, ↓iso_1 hc, ↓iso_2 hcf, ↓iso_2 hu, h1]; first | exact ans_fv _ _ | exact ans_t rfl (by simp) _
  · rw [if_neg h0]
    generalize (t.chk 0 1).2 = e at hc h0
    obtain ⟨o1, n1, k1⟩ := t
    simp only [enc_mk, Tm.z] at hc ⊢
    simp only [S17_65, S17_66, S17_67, S17_68, S17_69, S17_70, S17, ↓XX, ↓reduceIte, Nat.reduceBEq, decide_true, decide_false, Bool.not_true, Bool.not_false, List.map_cons, List.map_nil, List.length_map, List.length_cons, List.length_nil, Nat.reduceAdd, Int.cast_ofNat_Int, Int.natCast_zero, Int.natCast_one, Bool.false_eq_true, Bool.true_eq_false, decide_eq_true_eq, eq_self, Int.reduceEq, Int.reduceLT, Int.reduceLE, Bool.and_true, Bool.true_and, Bool.and_false, Bool.false_and, Nat.zero_add, ↓iso_1 hc, h0]; first | exact ans_fv _ _ | exact ans_t rfl (by simp) _
end Idl
end Go.Proofs.Ytdibmackcbpniaa
namespace Go.Proofs.Ytdibmackcbpniaa
namespace Idl
theorem tVals : EE.T 58 = some ⟨1, 24, .slice 60, [.nils]⟩ := by kernel_rfl
theorem tVal : EE.T 60 = some ⟨3, 40, .struct [(0, 3), (1, 3), (2, 58)], [.fv (.int .i64 0), .fv (.int .i64 0), .nils]⟩ := by kernel_rfl
theorem bs2_val (a b : Tm) (s : Nat) (h : Hp) (k : IV → Hp → List Ref → List Ref → Option (IV × Hp)) : genS (pcBuildSlice EE 58 2 [(0, .fv a.enc), (1, .fv b.enc)]) s h k = k (.clip [a.enc, b.enc]) h [] [] := by
  obtain ⟨o1, n1, k1⟩ := a
  obtain ⟨o2, n2, k2⟩ := b
  exact bs_tm tVals tVal (by decide) (cells := [.int .i64 o1, .int .i64 n1, .sl (Tm.enc.encL k1), .int .i64 o2, .int .i64 n2, .sl (Tm.enc.encL k2)]) rfl k
theorem within11_nn {n : Nat} (hn : 0 < n) {x m : Int} (h0 : 0 ≤ x) (h1 : 0 < m) : Ans (SS dt n 23 [iv x, iv m] ⟨[], []⟩) (.int .i64 (x % m)) := by
  obtain ⟨n, rfl⟩ : ∃ k, n = k + 1 := ⟨n - 1, by omega⟩
  rw [c23]
  have e : x.tmod m = x % m := Int.tmod_eq_emod_of_nonneg h0
  have e2 : ¬ x % m < 0 := by have := Int.emod_nonneg x (show m ≠ 0 by omega); omega
  simp only [S23, ↓XX, ↓reduceIte, Nat.reduceBEq, decide_true, decide_false, Bool.not_true, Bool.not_false, List.map_cons, List.map_nil, List.length_map, List.length_cons, List.length_nil, Nat.reduceAdd, Int.cast_ofNat_Int, Int.natCast_zero, Int.natCast_one, Bool.false_eq_true, Bool.true_eq_false, decide_eq_true_eq, eq_self, Int.reduceEq, Int.reduceLT, Int.reduceLE, Bool.and_true, Bool.true_and, Bool.and_false, Bool.false_and, Nat.zero_add, ↓rem_s (show m ≠ 0 by omega), e, e2]
  exact ans_fv _ _
def iEnc (ns : List Int) : FV := .sl (ns.map (FV.int .i64))
def Tm.valT : Tm → List Int → Int → Tm
  | .mk _ _ [], ns, i => .mk 1 (match ns with
    | [] => i
    | _ => ns.getD (i % ns.length).toNat 0) []
  | .mk op _ [a, b], ns, i => if op = 16 then .mk 3 0 [] else .mk 2 0 [a.valT ns (2 * i + 1), b.valT ns (2 * i + 2)]
  | _, _, _ => .mk 0 0 []
theorem valT_ok (ns : List Int) : ∀ (n : Nat) (a : Tm) (i : Int), a.wt + 1 < n → a.typed = true → 0 ≤ i → (i + 2) * 2 ^ a.wt ≤ 1000000000000 → Ans (SS dt n 33 [.fv a.enc, .fv (iEnc ns), iv i] ⟨[], []⟩) (a.valT ns i).enc := by
  intro n
  induction n with
  | zero => intro a i h; omega
  | succ n ih =>
    intro a i h ht h0 hb
    rw [c33]
    obtain ⟨op, p, ks⟩ := a
    simp only [Tm.wt] at h hb
    rw [enc_mk]
    match ks, ht with
    | [], ht =>
      have h1 : op = 15 := by simpa [Tm.typed] using ht
      subst h1
      match ns with
      | [] =>
        simp only [S33_75, S33_76, S33_77, S33_78, S33_79, S33_80, S33_81, S33_82, S33_83, S33_84, S33_85, S33, ↓XX, ↓reduceIte, Nat.reduceBEq, decide_true, decide_false, Bool.not_true, Bool.not_false, List.map_cons, List.map_nil, List.length_map, List.length_cons, List.length_nil, Nat.reduceAdd, Int.cast_ofNat_Int, Int.natCast_zero, Int.natCast_one, Bool.false_eq_true, Bool.true_eq_false, decide_eq_true_eq, eq_self, Int.reduceEq, Int.reduceLT, Int.reduceLE, Bool.and_true, Bool.true_and, Bool.and_false, Bool.false_and, Nat.zero_add, iEnc, Tm.valT, enc_mk]
        exact ans_p rfl _
      | x :: l =>
        have hl : ¬ (((l.length + 1 : Nat) : Int) = 0) := by omega
        have hw := within11_nn (n := n) (by omega) (x := i) (m := ((x :: l).length : Int)) h0 (by simp)
        have h3 : i % ((x :: l).length : Int) < ((x :: l).length : Int) := Int.emod_lt_of_pos _ (by simp)
        have h4 : 0 ≤ i % ((x :: l).length : Int) := Int.emod_nonneg _ (by simp; omega)
        obtain ⟨j, hj⟩ : ∃ j : Nat, i % ((x :: l).length : Int) = j := ⟨_, (Int.toNat_of_nonneg h4).symm⟩
        have hjl : j < (x :: l).length := by omega
        have hg : ((x :: l).map (FV.int .i64))[j]? = some (FV.int .i64 ((x :: l).getD j 0)) := by
          rw [List.getElem?_map, List.getD_eq_getElem?_getD, List.getElem?_eq_getElem hjl]; rfl
        rw [hj] at hw
        have hix := fun {β : Type} => ix_f (β := β) (size := 1) hg rfl
        simp only [Tm.valT, hj, Int.toNat_natCast]
        generalize (x :: l).getD j 0 = g at hg hix ⊢
        simp only [List.map_cons, List.length_cons] at hix hw
        simp only [S33_75, S33_76, S33_77, S33_78, S33_79, S33_80, S33_81, S33_82, S33_83, S33_84, S33_85, S33, ↓XX, ↓reduceIte, Nat.reduceBEq, decide_true, decide_false, Bool.not_true, Bool.not_false, List.map_cons, List.map_nil, List.length_map, List.length_cons, List.length_nil, Nat.reduceAdd, Int.cast_ofNat_Int, Int.natCast_zero, Int.natCast_one, Bool.false_eq_true, Bool.true_eq_false, decide_eq_true_eq, eq_self, Int.reduceEq, Int.reduceLT, Int.reduceLE, Bool.and_true, Bool.true_and, Bool.and_false, Bool.false_and, Nat.zero_add, iEnc, hl, ↓iso_2 hw, ↓hix, FV.cells, enc_mk]
        exact ans_p rfl _
    | [_], ht => rw [typed1] at ht; cases ht
    | x :: y :: z :: l, ht => rw [typed3] at ht; cases ht
    | [a, b], ht =>
      simp only [Tm.typed, Bool.and_eq_true, Bool.or_eq_true, decide_eq_true_eq] at ht
      have h15 : op ≠ 15 := by omega
      by_cases h16 : op = 16
      · simp only [S33_75, S33_76, S33_77, S33_78, S33_79, S33_80, S33_81, S33_82, S33_83, S33_84, S33_85, S33, ↓XX, ↓reduceIte, Nat.reduceBEq, decide_true, decide_false, Bool.not_true, Bool.not_false, List.map_cons, List.map_nil, List.length_map, List.length_cons, List.length_nil, Nat.reduceAdd, Int.cast_ofNat_Int, Int.natCast_zero, Int.natCast_one, Bool.false_eq_true, Bool.true_eq_false, decide_eq_true_eq, eq_self, Int.reduceEq, Int.reduceLT, Int.reduceLE, Bool.and_true, Bool.true_and, Bool.and_false, Bool.false_and, Nat.zero_add, h15, h16, Tm.valT, if_true, enc_mk]
        exact ans_p rfl _
      · simp only [Tm.wtL] at h hb
        have hp : ∀ k l : Nat, k ≤ l → (0 : Int) < 2 ^ k ∧ (2 : Int) ^ k ≤ 2 ^ l := fun k l hk => ⟨Int.pow_pos (by decide), by
          have := Nat.pow_le_pow_right (show 2 > 0 by decide) hk
          exact_mod_cast this⟩
        have hi : i ≤ 1000000000000 := by
          have h1 := (hp 0 (1 + (a.wt + (b.wt + 0))) (by omega)).2
          have h2 : (i + 2) * 1 ≤ (i + 2) * 2 ^ (1 + (a.wt + (b.wt + 0))) := Int.mul_le_mul_of_nonneg_left (by simpa using h1) (by omega)
          omega
        have e0 : w64 (2 * i) = 2 * i := by rw [w64_id] <;> omega
        have e1 : w64 (2 * i + 1) = 2 * i + 1 := by rw [w64_id] <;> omega
        have e2 : w64 (2 * i + 2) = 2 * i + 2 := by rw [w64_id] <;> omega
        have hk : ∀ (c : Tm) (j : Int), c.wt ≤ a.wt + b.wt → j ≤ 2 * i + 2 → 0 ≤ j → (j + 2) * 2 ^ c.wt ≤ 1000000000000 := by
          intro c j hc hj hj0
          have h1 := hp c.wt (a.wt + b.wt) hc
          have h2 : (j + 2) * 2 ^ c.wt ≤ (2 * i + 4) * 2 ^ c.wt := Int.mul_le_mul_of_nonneg_right (by omega) (by omega)
          have h3 : (2 * i + 4) * 2 ^ c.wt ≤ (2 * i + 4) * 2 ^ (a.wt + b.wt) := Int.mul_le_mul_of_nonneg_left h1.2 (by omega)
          have h4 : (i + 2) * 2 ^ (1 + (a.wt + (b.wt + 0))) = (2 * i + 4) * 2 ^ (a.wt + b.wt) := by
            rw [show 1 + (a.wt + (b.wt + 0)) = (a.wt + b.wt) + 1 by omega, Int.pow_succ, show (2 * i + 4) = (i + 2) * 2 by omega, Int.mul_assoc, Int.mul_comm (2 : Int)]
          omega
        have ha := ih a (2 * i + 1) (by have := wt_pos b; omega) ht.2.1 (by omega) (hk a _ (by omega) (by omega) (by omega))
        have hv := ih b (2 * i + 2) (by have := wt_pos a; omega) ht.2.2 (by omega) (hk b _ (by omega) (by omega) (by omega))
        simp only [Tm.valT, if_neg h16]
        generalize a.valT ns (2 * i + 1) = u at ha ⊢
        generalize b.valT ns (2 * i + 2) = v at hv ⊢
        obtain ⟨o1, n1, k1⟩ := a
        obtain ⟨o2, n2, k2⟩ := b
        simp only [enc_mk] at ha hv
        simp only [S33_75, S33_76, S33_77, S33_78, S33_79, S33_80, S33_81, S33_82, S33_83, S33_84, S33_85, S33, ↓XX, ↓reduceIte, Nat.reduceBEq, decide_true, decide_false, Bool.not_true, Bool.not_false, List.map_cons, List.map_nil, List.length_map, List.length_cons, List.length_nil, Nat.reduceAdd, Int.cast_ofNat_Int, Int.natCast_zero, Int.natCast_one, Bool.false_eq_true, Bool.true_eq_false, decide_eq_true_eq, eq_self, Int.reduceEq, Int.reduceLT, Int.reduceLE, Bool.and_true, Bool.true_and, Bool.and_false, Bool.false_and, Nat.zero_add, h15, h16, e0, e1, e2, enc_mk, ↓iso_3 ha, ↓iso_3 hv, ↓bs2_val]
        exact ans_p rfl _
def Tm.alike : Tm → Tm → Bool
  | .mk o _ [a, b], .mk o' _ [c, d] => if o = o' ∧ o = 17 then a.alike c && b.alike d else decide (o = o')
  | .mk o _ _, .mk o' _ _ => decide (o = o')
theorem alike_ok : ∀ (n : Nat) (a b : Tm), a.wt < n → a.typed = true → b.typed = true → Ans (SS dt n 34 [.fv a.enc, .fv b.enc] ⟨[], []⟩) (.bool (a.alike b)) := by
  intro n
  induction n with
  | zero => intro a b h; omega
  | succ n ih =>
    intro a b h ha hb
    rw [c34]
    obtain ⟨o, p, ks⟩ := a
    obtain ⟨o', p', ks'⟩ := b
    simp only [Tm.wt] at h
    rw [enc_mk, enc_mk]
    by_cases h1 : o = o' ∧ o = 17
    · obtain ⟨rfl, rfl⟩ := h1
      match ks, ha, ks', hb with
      | [a, b], ha, [c, d], hb =>
        simp only [Tm.typed, Bool.and_eq_true] at ha hb
        simp only [Tm.wtL] at h
        have h1 := ih a c (by omega) ha.2.1 hb.2.1
        have h2 := ih b d (by omega) ha.2.2 hb.2.2
        rw [Tm.alike, if_pos ⟨rfl, rfl⟩]
        generalize a.alike c = u at h1 ⊢
        generalize b.alike d = w at h2 ⊢
        obtain ⟨o1, n1, k1⟩ := a
        obtain ⟨o2, n2, k2⟩ := b
        obtain ⟨o3, n3, k3⟩ := c
        obtain ⟨o4, n4, k4⟩ := d
        simp only [enc_mk] at h1 h2
        cases u
        · simp only [S34_119, S34_120, S34_121, S34_122, S34_123, S34_124, S34_125, S34_126, S34_127, S34, ↓XX, ↓reduceIte, Nat.reduceBEq, decide_true, decide_false, Bool.not_true, Bool.not_false, List.map_cons, List.map_nil, List.length_map, List.length_cons, List.length_nil, Nat.reduceAdd, Int.cast_ofNat_Int, Int.natCast_zero, Int.natCast_one, Bool.false_eq_true, Bool.true_eq_false, decide_eq_true_eq, eq_self, Int.reduceEq, Int.reduceLT, Int.reduceLE, Bool.and_true, Bool.true_and, Bool.and_false, Bool.false_and, Nat.zero_add, enc_mk, ↓iso_2 h1]; exact ans_fv _ _
        · simp only [S34_119, S34_120, S34_121, S34_122, S34_123, S34_124, S34_125, S34_126, S34_127, S34, ↓XX, ↓reduceIte, Nat.reduceBEq, decide_true, decide_false, Bool.not_true, Bool.not_false, List.map_cons, List.map_nil, List.length_map, List.length_cons, List.length_nil, Nat.reduceAdd, Int.cast_ofNat_Int, Int.natCast_zero, Int.natCast_one, Bool.false_eq_true, Bool.true_eq_false, decide_eq_true_eq, eq_self, Int.reduceEq, Int.reduceLT, Int.reduceLE, Bool.and_true, Bool.true_and, Bool.and_false, Bool.false_and, Nat.zero_add, enc_mk, ↓iso_2 h1, ↓iso_2 h2]; exact ans_fv _ _
      | [], ha, _, _ => simp [Tm.typed] at ha
      | [_], ha, _, _ => rw [typed1] at ha; cases ha
      | _ :: _ :: _ :: _, ha, _, _ => rw [typed3] at ha; cases ha
      | [_, _], _, [], hb => simp [Tm.typed] at hb
      | [_, _], _, [_], hb => rw [typed1] at hb; cases hb
      | [_, _], _, _ :: _ :: _ :: _, hb => rw [typed3] at hb; cases hb
    · have e : (Tm.mk o p ks).alike (.mk o' p' ks') = decide (o = o') := by
        unfold Tm.alike
        split
        · rename_i e1 e2; cases e1; cases e2; rw [if_neg h1]
        · rename_i e2 e3; cases e2; cases e3; rfl
      rw [e]
      by_cases h2 : o = o'
      · have h3 : ¬ o = 17 := fun e => h1 ⟨h2, e⟩
        subst h2
        simp only [S34_119, S34_120, S34_121, S34_122, S34_123, S34_124, S34_125, S34_126, S34_127, S34, ↓XX, ↓reduceIte, Nat.reduceBEq, decide_true, decide_false, Bool.not_true, Bool.not_false, List.map_cons, List.map_nil, List.length_map, List.length_cons, List.length_nil, Nat.reduceAdd, Int.cast_ofNat_Int, Int.natCast_zero, Int.natCast_one, Bool.false_eq_true, Bool.true_eq_false, decide_eq_true_eq, eq_self, Int.reduceEq, Int.reduceLT, Int.reduceLE, Bool.and_true, Bool.true_and, Bool.and_false, Bool.false_and, Nat.zero_add, h3]; exact ans_fv _ _
      · simp only [S34_119, S34_120, S34_121, S34_122, S34_123, S34_124, S34_125, S34_126, S34_127, S34, ↓XX, ↓reduceIte, Nat.reduceBEq, decide_true, decide_false, Bool.not_true, Bool.not_false, List.map_cons, List.map_nil, List.length_map, List.length_cons, List.length_nil, Nat.reduceAdd, Int.cast_ofNat_Int, Int.natCast_zero, Int.natCast_one, Bool.false_eq_true, Bool.true_eq_false, decide_eq_true_eq, eq_self, Int.reduceEq, Int.reduceLT, Int.reduceLE, Bool.and_true, Bool.true_and, Bool.and_false, Bool.false_and, Nat.zero_add, h2]; exact ans_fv _ _
end Idl
end Go.Proofs.Ytdibmackcbpniaa
namespace Go.Proofs.Ytdibmackcbpniaa
namespace Idl
theorem eq_b (a b : Bool) (k : IV → Option (IV × Hp)) : eqS EE 4 (.fv (.bool a)) (.fv (.bool b)) k = k (.fv (.bool (a == b))) := eq_sb a b (by kernel_rfl) k
theorem known_run (n : Nat) : isTrueE (SS dt (n + 60) 11 [] ⟨[], []⟩) = true := by kernel_rfl
theorem known_ok {n : Nat} (h : 60 ≤ n) : Ans (SS dt n 11 [] ⟨[], []⟩) (.bool true) := by
  obtain ⟨k, rfl⟩ : ∃ k, n = k + 60 := ⟨n - 60, by omega⟩
  exact ans_true (known_run k)
theorem plainT_typed : ∀ (d : Nat) (r : Tm), (r.plainT d).typed = true
  | 0, r => by simp [Tm.plainT, Tm.typed]
  | d + 1, r => by
    have h1 := Int.emod_nonneg r.n (show (4 : Int) ≠ 0 by decide)
    have h2 := Int.emod_lt_of_pos r.n (show (0 : Int) < 4 by decide)
    simp only [Tm.plainT]
    split
    · simp [Tm.typed]
    · simp only [Tm.typed, plainT_typed d, Bool.and_self, Bool.and_true, Bool.or_eq_true, decide_eq_true_eq]
      omega
theorem plainT_wt : ∀ (d : Nat) (r : Tm), (r.plainT d).wt ≤ 2 ^ (d + 1) - 1
  | 0, r => by simp [Tm.plainT, Tm.wt, Tm.wtL]
  | d + 1, r => by
    have h1 := plainT_wt d (r.pick 0)
    have h2 := plainT_wt d (r.pick 1)
    have h3 : 0 < 2 ^ (d + 1) := Nat.pow_pos (by decide)
    simp only [Tm.plainT]
    split
    · simp only [Tm.wt, Tm.wtL, Nat.pow_succ] at *; omega
    · simp only [Tm.wt, Tm.wtL, Nat.pow_succ] at *; omega
theorem val_fits (ns : List Int) : ∀ (n : Nat) (a b : Tm) (i : Int), a.wt < n → a.typed = true → b.typed = true → (a.valT ns i).fits b = a.alike b := by
  intro n
  induction n with
  | zero => intro a b i h; omega
  | succ n ih =>
    intro a b i h ha hb
    obtain ⟨op, p, ks⟩ := a
    obtain ⟨op', p', ks'⟩ := b
    simp only [Tm.wt] at h
    match ks, ha with
    | [], ha =>
      have h1 : op = 15 := by simpa [Tm.typed] using ha
      subst h1
      simp [Tm.valT, Tm.fits, Tm.op, Tm.alike, eq_comm]; rfl
    | [_], ha => rw [typed1] at ha; cases ha
    | x :: y :: z :: l, ha => rw [typed3] at ha; cases ha
    | [a, b], ha =>
      simp only [Tm.typed, Bool.and_eq_true, Bool.or_eq_true, decide_eq_true_eq] at ha
      simp only [Tm.wtL] at h
      by_cases h16 : op = 16
      · subst h16
        match ks', hb with
        | [], hb => simp [Tm.valT, Tm.fits, Tm.op, Tm.alike, eq_comm]; rfl
        | [_], hb => rw [typed1] at hb; cases hb
        | x :: y :: z :: l, hb => rw [typed3] at hb; cases hb
        | [c, d], hb => simp [Tm.valT, Tm.fits, Tm.op, Tm.alike, eq_comm]; rfl
      · have h17 : op = 17 := by omega
        subst h17
        match ks', hb with
        | [], hb =>
          have h1 : op' = 15 := by simpa [Tm.typed] using hb
          subst h1
          simp [Tm.valT, Tm.fits, Tm.op, Tm.alike]
        | [_], hb => rw [typed1] at hb; cases hb
        | x :: y :: z :: l, hb => rw [typed3] at hb; cases hb
        | [c, d], hb =>
          simp only [Tm.typed, Bool.and_eq_true, Bool.or_eq_true, decide_eq_true_eq] at hb
          have e1 := ih a c (2 * i + 1) (by omega) ha.2.1 hb.2.1
          have e2 := ih b d (2 * i + 2) (by omega) ha.2.2 hb.2.2
          by_cases ho : op' = 17
          · subst ho
            simp [Tm.valT, Tm.fits, Tm.op, Tm.kids, Tm.alike, e1, e2]
          · simp [Tm.valT, Tm.fits, Tm.op, Tm.alike, ho, Ne.symm ho]
theorem valT_wt (ns : List Int) : ∀ (n : Nat) (a : Tm) (i : Int), a.wt < n → (a.valT ns i).wt ≤ a.wt := by
  intro n
  induction n with
  | zero => intro a i h; omega
  | succ n ih =>
    intro a i h
    obtain ⟨op, p, ks⟩ := a
    simp only [Tm.wt] at h
    match ks with
    | [] => simp [Tm.valT, Tm.wt, Tm.wtL]
    | [_] => rw [Tm.valT] <;> simp [Tm.wt, Tm.wtL]
    | _ :: _ :: _ :: _ => rw [Tm.valT] <;> simp [Tm.wt, Tm.wtL]
    | [a, b] =>
      simp only [Tm.wtL] at h
      have h1 := ih a (2 * i + 1) (by omega)
      have h2 := ih b (2 * i + 2) (by omega)
      simp only [Tm.valT]
      split <;> simp only [Tm.wt, Tm.wtL] <;> omega
theorem objFits_ok (q s : Tm) (ns : List Int) : ∃ N, AnsV (SS dt N 8 [.fv q.enc, .fv s.enc, .fv (iEnc ns)] ⟨[], []⟩) (.bool true) := by
  refine ⟨q.wt + s.wt + 200 + 1, ?_⟩
  rw [c8]
  generalize hn : q.wt + s.wt + 200 = n
  have hk := known_ok (n := n) (by omega)
  obtain ⟨m, hm⟩ : ∃ m, n = m + 1 := ⟨n - 1, by omega⟩
  have fq := few_ok (n := m) q (by omega)
  have fs := few_ok (n := m) s (by omega)
  rw [← hm] at fq fs
  have pq := plainT_ok 3 n q (by omega) (by omega)
  have ps := plainT_ok 3 n s (by omega) (by omega)
  have ta := plainT_typed 3 q
  have tb := plainT_typed 3 s
  have wa := plainT_wt 3 q
  have wb := plainT_wt 3 s
  have hv := valT_ok ns n (q.plainT 3) 0 (by omega) ta (by omega) (by
    have h1 : (2 : Nat) ^ (q.plainT 3).wt ≤ 2 ^ 15 := Nat.pow_le_pow_right (by decide) wa
    have h2 : ((2 : Int) ^ (q.plainT 3).wt) ≤ 2 ^ 15 := by exact_mod_cast h1
    omega)
  have hvw : ((q.plainT 3).valT ns 0).wt ≤ (q.plainT 3).wt := valT_wt ns ((q.plainT 3).wt + 1) _ 0 (by omega)
  have hf := fits_ok n ((q.plainT 3).valT ns 0) (s.plainT 3) (by omega) tb
  have hl := alike_ok n (q.plainT 3) (s.plainT 3) (by omega) ta tb
  rw [val_fits ns ((q.plainT 3).wt + 1) _ _ 0 (by omega) ta tb] at hf
  generalize (q.plainT 3).alike (s.plainT 3) = b at hf hl
  generalize (q.plainT 3).valT ns 0 = v at hv hf
  generalize q.plainT 3 = x at pq hv hl
  generalize s.plainT 3 = y at ps hf hl
  cases h1 : decide (q.count 300 < 300)
  · rw [h1] at fq
    obtain ⟨o1, n1, k1⟩ := q
    obtain ⟨o2, n2, k2⟩ := s
    simp only [enc_mk] at fq fs ⊢
    simp only [S8_90, S8_91, S8_92, S8_93, S8_94, S8_95, S8_96, S8_97, S8, ↓XX, ↓reduceIte, Nat.reduceBEq, decide_true, decide_false, Bool.not_true, Bool.not_false, List.map_cons, List.map_nil, List.length_map, List.length_cons, List.length_nil, Nat.reduceAdd, Int.cast_ofNat_Int, Int.natCast_zero, Int.natCast_one, Bool.false_eq_true, Bool.true_eq_false, decide_eq_true_eq, eq_self, Int.reduceEq, Int.reduceLT, Int.reduceLE, Bool.and_true, Bool.true_and, Bool.and_false, Bool.false_and, Nat.zero_add, iEnc, ↓iso_0 hk, ↓iso_1 fq]
    exact ansv
  · rw [h1] at fq
    cases h2 : decide (s.count 300 < 300)
    · rw [h2] at fs
      obtain ⟨o1, n1, k1⟩ := q
      obtain ⟨o2, n2, k2⟩ := s
      simp only [enc_mk] at fq fs ⊢
      simp only [S8_90, S8_91, S8_92, S8_93, S8_94, S8_95, S8_96, S8_97, S8, ↓XX, ↓reduceIte, Nat.reduceBEq, decide_true, decide_false, Bool.not_true, Bool.not_false, List.map_cons, List.map_nil, List.length_map, List.length_cons, List.length_nil, Nat.reduceAdd, Int.cast_ofNat_Int, Int.natCast_zero, Int.natCast_one, Bool.false_eq_true, Bool.true_eq_false, decide_eq_true_eq, eq_self, Int.reduceEq, Int.reduceLT, Int.reduceLE, Bool.and_true, Bool.true_and, Bool.and_false, Bool.false_and, Nat.zero_add, iEnc, ↓iso_0 hk, ↓iso_1 fq, ↓iso_1 fs]
      exact ansv
    · rw [h2] at fs
      obtain ⟨o1, n1, k1⟩ := q
      obtain ⟨o2, n2, k2⟩ := s
      obtain ⟨o3, n3, k3⟩ := x
      obtain ⟨o4, n4, k4⟩ := y
      simp only [enc_mk, iEnc] at fq fs pq ps hv hf hl ⊢
      simp only [S8_90, S8_91, S8_92, S8_93, S8_94, S8_95, S8_96, S8_97, S8, ↓XX, ↓reduceIte, Nat.reduceBEq, decide_true, decide_false, Bool.not_true, Bool.not_false, List.map_cons, List.map_nil, List.length_map, List.length_cons, List.length_nil, Nat.reduceAdd, Int.cast_ofNat_Int, Int.natCast_zero, Int.natCast_one, Bool.false_eq_true, Bool.true_eq_false, decide_eq_true_eq, eq_self, Int.reduceEq, Int.reduceLT, Int.reduceLE, Bool.and_true, Bool.true_and, Bool.and_false, Bool.false_and, Nat.zero_add, ↓iso_0 hk, ↓iso_1 fq, ↓iso_1 fs, ↓iso_2 pq, ↓iso_2 ps, ↓iso_3 hv, ↓iso_2 hf, ↓iso_2 hl, ↓eq_b, beq_self_eq_true]
      exact ansv
end Idl
end Go.Proofs.Ytdibmackcbpniaa
namespace Go.Proofs.Ytdibmackcbpniaa
namespace Idl
theorem num_ok {n : Nat} (k : Nat) (hn : k + 3 < n) (hk : k ≤ 1000000) : Ans (SS dt n 115 [iv k] ⟨[], []⟩) (tnum k).enc := by
  obtain ⟨n, rfl⟩ : ∃ j, n = j + 1 := ⟨n - 1, by omega⟩
  rw [c115]
  have h0 := t0_ok (n := n) (by omega) 11
  rw [enc_mk] at h0
  simp only [S115_49, S115_50, S115_51, S115, ↓XX, ↓reduceIte, Nat.reduceBEq, decide_true, decide_false, Bool.not_true, Bool.not_false, List.map_cons, List.map_nil, List.length_map, List.length_cons, List.length_nil, Nat.reduceAdd, Int.cast_ofNat_Int, Int.natCast_zero, Int.natCast_one, Bool.false_eq_true, Bool.true_eq_false, decide_eq_true_eq, eq_self, Int.reduceEq, Int.reduceLT, Int.reduceLE, Bool.and_true, Bool.true_and, Bool.and_false, Bool.false_and, Nat.zero_add, ↓iso_2 h0]
  refine loop_run (Q := fun r => Ans r _) (fun j V H => ∃ (i : Nat), i + j = k ∧ V = [iv k, .ptr (.own 120586240) 0, .ptr (.own 120587265) 0, iv i] ∧
      H = ⟨[(120586240, .row [iv 0, iv 0, .nils] false), (120587265, .row [iv (tnum i).op, iv (tnum i).n, .fv (.sl ((tnum i).kids.map Tm.enc))] false)], []⟩) ?_ n k _ _ (by omega) ⟨0, by omega, rfl, rfl⟩
  rintro j V H rec ⟨i, hi, rfl, rfl⟩ hrec
  cases j with
  | zero =>
    have : i = k := by omega
    subst this
    have hno : ¬ ((i : Int) < i) := by omega
    generalize tnum i = t
    obtain ⟨o, p, l⟩ := t
    rw [enc_mk]
    simp only [S115_49, S115_50, S115_51, S115_52, S115, ↓XX, ↓reduceIte, Nat.reduceBEq, decide_true, decide_false, Bool.not_true, Bool.not_false, List.map_cons, List.map_nil, List.length_map, List.length_cons, List.length_nil, Nat.reduceAdd, Int.cast_ofNat_Int, Int.natCast_zero, Int.natCast_one, Bool.false_eq_true, Bool.true_eq_false, decide_eq_true_eq, eq_self, Int.reduceEq, Int.reduceLT, Int.reduceLE, Bool.and_true, Bool.true_and, Bool.and_false, Bool.false_and, Nat.zero_add, hno, Tm.op, Tm.n, Tm.kids]
    exact ans_fv _ _
  | succ j =>
    have hlt : (i : Int) < k := by omega
    have hw : w64 ((i : Int) + 1) = ((i + 1 : Nat) : Int) := (w64_id (by omega) (by omega)).trans (by simp)
    have ht := t_ok (n := n) (by omega) 12 [tnum i]
    have h9 := hrec j ([iv k, .ptr (.own 120586240) 0, .ptr (.own 120587265) 0, iv (i + 1 : Nat)]) (⟨[(120586240, .row [iv 0, iv 0, .nils] false), (120587265, .row [iv 12, iv 0, .fv (.sl ([tnum i].map Tm.enc))] false)], []⟩) (by omega) ⟨i + 1, by omega, rfl, rfl⟩
    generalize tnum i = t at *
    obtain ⟨o, p, l⟩ := t
    simp only [List.map_cons, List.map_nil, enc_mk] at ht h9
    simp only [S115_49, S115_50, S115_51, S115_52, S115, ↓XX, ↓reduceIte, Nat.reduceBEq, decide_true, decide_false, Bool.not_true, Bool.not_false, List.map_cons, List.map_nil, List.length_map, List.length_cons, List.length_nil, Nat.reduceAdd, Int.cast_ofNat_Int, Int.natCast_zero, Int.natCast_one, Bool.false_eq_true, Bool.true_eq_false, decide_eq_true_eq, eq_self, Int.reduceEq, Int.reduceLT, Int.reduceLE, Bool.and_true, Bool.true_and, Bool.and_false, Bool.false_and, Nat.zero_add, hlt, Tm.op, Tm.n, Tm.kids, ↓bs1_tm', ↓iso_2 ht, hw]
    exact h9
theorem tsize_ok : ∀ (n : Nat) (t : Tm), t.wt < n → t.wt ≤ 1152921504606846976 → Ans (SS dt n 24 [.fv t.enc] ⟨[], []⟩) (.int .i64 t.wt) := by
  intro n
  induction n with
  | zero => intro t h; omega
  | succ n ih =>
    intro t h hw
    obtain ⟨op, m, ks⟩ := t
    simp only [Tm.wt] at h hw ⊢
    rw [c24, enc_mk]
    have hlen := wt_len ks
    simp only [S24_32, S24_33, S24_34, S24, ↓XX, ↓reduceIte, Nat.reduceBEq, decide_true, decide_false, Bool.not_true, Bool.not_false, List.map_cons, List.map_nil, List.length_map, List.length_cons, List.length_nil, Nat.reduceAdd, Int.cast_ofNat_Int, Int.natCast_zero, Int.natCast_one, Bool.false_eq_true, Bool.true_eq_false, decide_eq_true_eq, eq_self, Int.reduceEq, Int.reduceLT, Int.reduceLE, Bool.and_true, Bool.true_and, Bool.and_false, Bool.false_and, Nat.zero_add]
    refine loop_run (Q := fun r => Ans r _) (fun k V H => ∃ (pre rest : List Tm) (acc : Nat), ks = pre ++ rest ∧ rest.length = k ∧ V = [.ptr (.own 25165824) 0, iv acc, iv pre.length] ∧ H = ⟨[(25165824, .row [iv op, iv m, .fv (.sl (ks.map Tm.enc))] false)], []⟩ ∧ acc + Tm.wtL rest = 1 + Tm.wtL ks)
      ?_ n ks.length _ _ (by omega) ⟨[], ks, 1, rfl, rfl, rfl, rfl, rfl⟩
    rintro k V H rec ⟨pre, rest, acc, hk, hl, rfl, rfl, ht⟩ hrec
    have hkl : ks.length = pre.length + rest.length := by rw [hk]; simp
    cases rest with
    | nil =>
      have hno : ¬ ((pre.length : Int) < ks.length) := by rw [hkl]; simp
      simp only [Tm.wtL] at ht
      rw [← ht]
      simp only [S24_32, S24_33, S24_34, S24_35, S24, ↓XX, ↓reduceIte, Nat.reduceBEq, decide_true, decide_false, Bool.not_true, Bool.not_false, List.map_cons, List.map_nil, List.length_map, List.length_cons, List.length_nil, Nat.reduceAdd, Int.cast_ofNat_Int, Int.natCast_zero, Int.natCast_one, Bool.false_eq_true, Bool.true_eq_false, decide_eq_true_eq, eq_self, Int.reduceEq, Int.reduceLT, Int.reduceLE, Bool.and_true, Bool.true_and, Bool.and_false, Bool.false_and, Nat.zero_add, hno]
      exact ans_fv _ _
    | cons t rest =>
      have hi : (pre.length : Int) < ks.length := by rw [hkl]; simp; omega
      have hg := at_pre hk
      have htw := wt_mem (t := t) (l := ks) (by rw [hk]; simp)
      have hs := ih t (by omega) (by omega)
      simp only [Tm.wtL] at ht
      have hwi : w64 ((pre.length : Int) + 1) = ((pre ++ [t]).length : Int) := (w64_id (by omega) (by omega)).trans (by simp)
      have hwa : w64 ((acc : Int) + (t.wt : Int)) = ((acc + t.wt : Nat) : Int) := (w64_id (by omega) (by omega)).trans (by simp)
      have h9 := hrec rest.length ([.ptr (.own 25165824) 0, iv (acc + t.wt : Nat), iv (pre ++ [t]).length]) _ (by simp only [List.length_cons] at hl; omega) ⟨pre ++ [t], rest, acc + t.wt, by rw [hk]; simp, rfl, rfl, rfl, by omega⟩
      generalize t.wt = v at hs hwa h9
      obtain ⟨o, p, l⟩ := t
      rw [enc_mk] at hs
      simp only [S24_32, S24_33, S24_34, S24_35, S24, ↓XX, ↓reduceIte, Nat.reduceBEq, decide_true, decide_false, Bool.not_true, Bool.not_false, List.map_cons, List.map_nil, List.length_map, List.length_cons, List.length_nil, Nat.reduceAdd, Int.cast_ofNat_Int, Int.natCast_zero, Int.natCast_one, Bool.false_eq_true, Bool.true_eq_false, decide_eq_true_eq, eq_self, Int.reduceEq, Int.reduceLT, Int.reduceLE, Bool.and_true, Bool.true_and, Bool.and_false, Bool.false_and, Nat.zero_add, hi, ↓ix_f (map_get hg) (agg3l _ _ _), ↓agg3, ↓iso_1 hs, hwi, hwa]
      exact h9
end Idl
end Go.Proofs.Ytdibmackcbpniaa
namespace Go.Proofs.Ytdibmackcbpniaa
namespace Idl
def letsT : Nat → Tm
  | 0 => .mk 1 0 []
  | k + 1 => .mk 28 0 [.mk 22 0 [.mk 1 0 [], .mk 1 0 []], letsT k]
def oD (n : Nat) (f : Bool) : Tm := bif f then .mk 20 0 [tI, .mk 28 0 [.mk 25 1 [], letsT n]] else .mk 28 0 [.mk 25 1 [], letsT n]
def dbT : Nat → Tm
  | 0 => tI
  | j + 1 => .mk 17 0 [dbT j, dbT j]
theorem dchk : ∀ j : Fin 11, ((dbT j).chk 0 1).2 = 0 := by decide +kernel
theorem dchk11 : ((dbT 11).chk 0 1).2 = 5 := by decide +kernel
theorem fchk : ∀ j : Fin 11, ((Tm.mk 16 0 [tI, dbT j]).chk 0 1).2 = 0 := by decide +kernel
theorem ochk : ∀ j : Fin 40, ∀ f : Bool, ((oD j f).chk 0 1).2 = 0 := by decide +kernel
theorem dbT_wt : ∀ j : Nat, (dbT j).wt + 1 = 2 ^ (j + 1)
  | 0 => rfl
  | j + 1 => by
    have := dbT_wt j
    simp only [dbT, Tm.wt, Tm.wtL]
    rw [Nat.pow_succ]
    omega
theorem dbT_typed : ∀ j : Nat, (dbT j).typed = true
  | 0 => tI_typed
  | j + 1 => by simp only [dbT, Tm.typed, dbT_typed j]; rfl
theorem lets_wt : ∀ k : Nat, (letsT k).wt = 4 * k + 1
  | 0 => rfl
  | k + 1 => by simp only [letsT, Tm.wt, Tm.wtL, lets_wt k]; omega
theorem var_inf (g : List Tm) (a : Tm) : (Tm.mk 1 0 []).inf (g ++ [a]) = (0, a) := by
  rw [Tm.inf, if_pos rfl, if_neg (by simp)]
  simp
theorem lets_inf : ∀ (k j : Nat) (g : List Tm), j ≤ 10 → (letsT k).inf (g ++ [dbT j]) = if j + k ≤ 10 then (0, dbT (j + k)) else (5, .z)
  | 0, j, g, hj => by rw [letsT, var_inf, if_pos (by omega)]; rfl
  | k + 1, j, g, hj => by
    have e : (Tm.mk 22 0 [.mk 1 0 [], .mk 1 0 []]).inf (g ++ [dbT j]) = (((dbT (j + 1)).chk 0 1).2, dbT (j + 1)) := by
      rw [Tm.inf, var_inf]
      simp only [Int.reduceEq, if_false, if_true, madeM]
      rfl
    rw [letsT, Tm.inf, e]
    simp only [Int.reduceEq, if_false, if_true]
    by_cases h : j + 1 ≤ 10
    · have := dchk ⟨j + 1, by omega⟩
      simp only at this
      rw [if_pos this, lets_inf k (j + 1) _ h, show j + 1 + k = j + (k + 1) by omega]
    · have hj10 : j = 10 := by omega
      subst hj10
      rw [dchk11, if_neg (by decide), if_neg (by omega)]
theorem oD_infer (j : Nat) (hj : j < 40) (f : Bool) : (oD j f).infer [] = if j ≤ 10 then ((bif f then .mk 16 0 [tI, dbT j] else dbT j), 0) else (.z, 5) := by
  unfold Tm.infer
  have := ochk ⟨j, hj⟩ f
  simp only at this
  rw [if_pos this]
  have h5 : (Tm.mk 25 1 []).inf [] = (0, tI) := by rw [Tm.inf, if_neg (by decide), if_pos rfl]
  have h6 : (Tm.mk 25 1 []).inf [tI] = (0, tI) := by rw [Tm.inf, if_neg (by decide), if_pos rfl]
  have l1 := lets_inf j 0 [] (by omega)
  have l2 := lets_inf j 0 [tI] (by omega)
  rw [Nat.zero_add] at l1 l2
  cases f
  · have e : (oD j false).inf [] = if j ≤ 10 then (0, dbT j) else (5, .z) := by
      simp only [oD, cond_false]
      rw [Tm.inf, h5]
      simp only [Int.reduceEq, if_false, if_true]
      exact l1
    rw [e]
    by_cases h : j ≤ 10
    · simp only [if_pos h, if_true, cond_false]
    · simp only [if_neg h]; rfl
  · have e : (oD j true).inf [] = if j ≤ 10 then (0, .mk 16 0 [tI, dbT j]) else (5, .z) := by
      have e1 : (Tm.mk 28 0 [.mk 25 1 [], letsT j]).inf ([] ++ [tI]) = if j ≤ 10 then (0, dbT j) else (5, .z) := by
        rw [Tm.inf, List.nil_append, h6]
        simp only [Int.reduceEq, if_false, if_true]
        exact l2
      simp only [oD, cond_true]
      rw [Tm.inf, e1]
      simp only [Int.reduceEq, if_false, if_true, tI_typed, madeM]
      by_cases h : j ≤ 10
      · have := fchk ⟨j, by omega⟩
        simp only at this
        simp only [if_pos h, if_true, this]
      · simp only [if_neg h]; rfl
    rw [e]
    by_cases h : j ≤ 10
    · simp only [if_pos h, if_true, cond_true]
    · simp only [if_neg h]; rfl
theorem within11_ok {n : Nat} (hn : 0 < n) (x : Int) {m : Int} (h1 : 0 < m) (h2 : m ≤ 4611686018427387904) : Ans (SS dt n 23 [iv x, iv m] ⟨[], []⟩) (.int .i64 (x % m)) := by
  obtain ⟨n, rfl⟩ := Nat.exists_eq_add_of_lt hn
  rw [Nat.zero_add, c23]
  simp only [S23, ↓XX, ↓reduceIte, Nat.reduceBEq, decide_true, decide_false, Bool.not_true, Bool.not_false, List.map_cons, List.map_nil, List.length_map, List.length_cons, List.length_nil, Nat.reduceAdd, Int.cast_ofNat_Int, Int.natCast_zero, Int.natCast_one, Bool.false_eq_true, Bool.true_eq_false, decide_eq_true_eq, eq_self, Int.reduceEq, Int.reduceLT, Int.reduceLE, Bool.and_true, Bool.true_and, Bool.and_false, Bool.false_and, Nat.zero_add, ↓rem_s (show m ≠ 0 by omega)]
  rw [← emod_w h1 h2]
  by_cases hc : x.tmod m < 0 <;> simp only [hc, if_true, if_false] <;> exact ans_fv _ _
theorem pType_ok {n : Nat} (t : Tm) (hn : t.wt + 1 < n) : Ans (SS dt n 20 [.fv t.enc] ⟨[], []⟩) (.bool t.typed) := by
  obtain ⟨n, rfl⟩ : ∃ k, n = k + 1 := ⟨n - 1, by omega⟩
  rw [c20]
  have h := typed_ok n t (by omega)
  obtain ⟨o, p, l⟩ := t
  rw [enc_mk] at h ⊢
  simp only [S20, ↓XX, ↓reduceIte, Nat.reduceBEq, decide_true, decide_false, Bool.not_true, Bool.not_false, List.map_cons, List.map_nil, List.length_map, List.length_cons, List.length_nil, Nat.reduceAdd, Int.cast_ofNat_Int, Int.natCast_zero, Int.natCast_one, Bool.false_eq_true, Bool.true_eq_false, decide_eq_true_eq, eq_self, Int.reduceEq, Int.reduceLT, Int.reduceLE, Bool.and_true, Bool.true_and, Bool.and_false, Bool.false_and, Nat.zero_add, ↓iso_1 h]; exact ans_fv _ _
theorem cv_j : ∀ j : Nat, j ≤ 20 → convR EE 3 55 (iv ((j + 1 : Nat) : Int)) = some (.fv (.int .u64 ((j + 1 : Nat) : Int))) ∧ binR EE .shl 3 (iv 1) (.fv (.int .u64 ((j + 1 : Nat) : Int))) = some (iv ((2 ^ (j + 1) : Nat) : Int)) := by
  intro j hj
  have h : j = 0 ∨ j = 1 ∨ j = 2 ∨ j = 3 ∨ j = 4 ∨ j = 5 ∨ j = 6 ∨ j = 7 ∨ j = 8 ∨ j = 9 ∨ j = 10 ∨ j = 11 ∨ j = 12 ∨ j = 13 ∨ j = 14 ∨ j = 15 ∨ j = 16 ∨ j = 17 ∨ j = 18 ∨ j = 19 ∨ j = 20 := by omega
  rcases h with rfl | rfl | rfl | rfl | rfl | rfl | rfl | rfl | rfl | rfl | rfl | rfl | rfl | rfl | rfl | rfl | rfl | rfl | rfl | rfl | rfl <;> exact ⟨by kernel_rfl, by kernel_rfl⟩
theorem min_i (s : Nat) (a b : Int) (h : Hp) (k : IV → Hp → List Ref → List Ref → Option (IV × Hp)) : genS (builtinR EE s false .min [3, 3] [iv a, iv b]) s h k = k (iv (if b < a then b else a)) h [] [] :=
  gen_val' _ _ _ _
noncomputable abbrev HD (t : Tm) : Hp := ⟨[(7344130, .row [iv t.op, iv t.n, .fv (.sl (t.kids.map Tm.enc))] false), (7344131, .row [iv 15, iv 0, .fv (.sl [])] false)], []⟩
set_option maxRecDepth 20000 in
set_option maxHeartbeats 2000000 in
theorem objDeep_ok (x : Int) (f : Bool) : ∃ N, AnsV (SS dt N 7 [.fv (.int .i64 x), .fv (.bool f)] ⟨[], []⟩) (.bool true) := by
  refine ⟨40000 + 1, ?_⟩
  generalize hn : 40000 = n
  rw [c7]
  have hk := known_ok (n := n) (by omega)
  have hw := within11_ok (n := n) (by omega) x (m := 40) (by decide) (by decide)
  have hj1 := Int.emod_nonneg x (show (40 : Int) ≠ 0 by decide)
  have hj2 := Int.emod_lt_of_pos x (show (0 : Int) < 40 by decide)
  obtain ⟨j, hj⟩ : ∃ j : Nat, x % 40 = j := ⟨(x % 40).toNat, by omega⟩
  rw [hj] at hw
  have hj40 : j < 40 := by omega
  have t15 := t0_ok (n := n) (by omega) 15
  have v0 := v_ok (n := n) (by omega) 0
  have i1 := int_ok (n := n) (by omega) 1
  have t22 := t_ok (n := n) (by omega) 22 [.mk 1 0 [], .mk 1 0 []]
  simp only [List.map_cons, List.map_nil, enc_mk] at t15 v0 i1 t22
  simp only [S7_197, S7_198, S7_199, S7_200, S7_201, S7_202, S7_203, S7_204, S7_205, S7_206, S7_207, S7_208, S7_209, S7_210, S7_212, S7_213, S7, ↓XX, ↓reduceIte, Nat.reduceBEq, decide_true, decide_false, Bool.not_true, Bool.not_false, List.map_cons, List.map_nil, List.length_map, List.length_cons, List.length_nil, Nat.reduceAdd, Int.cast_ofNat_Int, Int.natCast_zero, Int.natCast_one, Bool.false_eq_true, Bool.true_eq_false, decide_eq_true_eq, eq_self, Int.reduceEq, Int.reduceLT, Int.reduceLE, Bool.and_true, Bool.true_and, Bool.and_false, Bool.false_and, Nat.zero_add, ↓iso_0 hk, ↓iso_2 hw, ↓iso_1 v0, ↓iso_2 t15]
  refine loop_run (Q := fun r => AnsV r _) (fun k V H => ∃ i : Nat, i + k = j ∧ V = [iv j, .fv (.bool f), .ptr (.own 7344130) 0, .ptr (.own 7344131) 0, iv i] ∧ H = HD (letsT i)) ?_ n j _ _ (by omega) ⟨0, by omega, rfl, rfl⟩
  rintro k V H rec ⟨i, hik, rfl, rfl⟩ hrec
  cases k with
  | succ k =>
    have hlt : (i : Int) < j := by omega
    have hwi : w64 ((i : Int) + 1) = ((i + 1 : Nat) : Int) := (w64_id (by omega) (by omega)).trans (by simp)
    have t28 := t_ok (n := n) (by omega) 28 [.mk 22 0 [.mk 1 0 [], .mk 1 0 []], letsT i]
    have h9 := hrec k [iv j, .fv (.bool f), .ptr (.own 7344130) 0, .ptr (.own 7344131) 0, iv (i + 1 : Nat)] _ (by omega) ⟨i + 1, by omega, rfl, rfl⟩
    simp only [HD, letsT, Tm.op, Tm.n, Tm.kids] at h9
    generalize letsT i = t at t28 h9 ⊢
    obtain ⟨o, p, l⟩ := t
    simp only [List.map_cons, List.map_nil, enc_mk] at t28 h9
    simp only [S7_197, S7_198, S7_199, S7_200, S7_201, S7_202, S7_203, S7_204, S7_205, S7_206, S7_207, S7_208, S7_209, S7_210, S7_211, S7_212, S7_213, S7, ↓XX, ↓reduceIte, Nat.reduceBEq, decide_true, decide_false, Bool.not_true, Bool.not_false, List.map_cons, List.map_nil, List.length_map, List.length_cons, List.length_nil, Nat.reduceAdd, Int.cast_ofNat_Int, Int.natCast_zero, Int.natCast_one, Bool.false_eq_true, Bool.true_eq_false, decide_eq_true_eq, eq_self, Int.reduceEq, Int.reduceLT, Int.reduceLE, Bool.and_true, Bool.true_and, Bool.and_false, Bool.false_and, Nat.zero_add, hlt, ↓iso_1 v0, ↓bs2_g, ↓iso_2 t22, Tm.op, Tm.n, Tm.kids, ↓iso_2 t28, hwi]
    exact h9
  | zero =>
    have hij : i = j := by omega
    subst hij
    have hno : ¬ (i : Int) < i := by omega
    obtain ⟨mn, hmn, hmn2⟩ : ∃ mn : Nat, (if (20 : Int) < (i : Int) then (20 : Int) else (i : Int)) = (mn : Int) ∧ mn = min i 20 := by
      refine ⟨min i 20, ?_, rfl⟩
      by_cases h : i ≤ 20
      · rw [if_neg (by omega), Nat.min_eq_left h]
      · rw [if_pos (by omega), Nat.min_eq_right (by omega)]; rfl
    have hmin := fun (s : Nat) (h : Hp) (k : IV → Hp → List Ref → List Ref → Option (IV × Hp)) => min_i s (i : Int) 20 h k
    rw [hmn] at hmin
    have wmn : w64 ((mn : Int) + 1) = ((mn + 1 : Nat) : Int) := (w64_id (by omega) (by omega)).trans (by simp)
    obtain ⟨cv, sh⟩ := cv_j mn (by omega)
    have hp1 := Nat.one_le_two_pow (n := mn + 1)
    have hp2 : 2 ^ (mn + 1) ≤ 2 ^ 21 := Nat.pow_le_pow_right (by decide) (by omega)
    have wsub : w64 (((2 ^ (mn + 1) : Nat) : Int) - 1) = ((2 ^ (mn + 1) - 1 : Nat) : Int) := (w64_id (by omega) (by omega)).trans (by omega)
    have wadd : w64 (((2 ^ (mn + 1) - 1 : Nat) : Int) + 2) = ((2 ^ (mn + 1) + 1 : Nat) : Int) := (w64_id (by omega) (by omega)).trans (by omega)
    have t28 := t_ok (n := n) (by omega) 28 [.mk 25 1 [], letsT i]
    have t20 := t_ok (n := n) (by omega) 20 [tI, .mk 28 0 [.mk 25 1 [], letsT i]]
    have hod := oD_infer i hj40 f
    have hwt : (oD i f).wt ≤ 4 * i + 6 := by cases f <;> (simp only [oD, cond_true, cond_false, tI, Tm.wt, Tm.wtL, lets_wt]; omega)
    have hI := pInfer_ok 3000 (by omega) (by omega) n (oD i f) [] (by omega) (by intro x hx; cases hx) (by simp; omega) (by simp; omega)
    rw [hod] at hI
    by_cases h10 : i ≤ 10
    · have hmi : mn = i := by omega
      subst hmi
      rw [if_pos h10] at hI
      have hp3 : 2 ^ (mn + 1) ≤ 2 ^ 11 := Nat.pow_le_pow_right (by decide) (by omega)
      have hdw := dbT_wt mn
      have hdt := dbT_typed mn
      cases f
      · have hsz := tsize_ok n (dbT mn) (by omega) (by omega)
        have hty := pType_ok (n := n) (dbT mn) (by omega)
        rw [hdt] at hty
        have hle : ¬ (3000 : Int) < ((2 ^ (mn + 1) - 1 : Nat) : Int) := by omega
        have hsw : ((dbT mn).wt : Int) = ((2 ^ (mn + 1) - 1 : Nat) : Int) := by omega
        rw [hsw] at hsz
        clear hod
        simp only [oD, cond_false] at hI
        generalize 2 ^ (mn + 1) - 1 = q at hsz wsub wadd hle
        generalize 2 ^ (mn + 1) = p at sh wsub wadd
        generalize dbT mn = u at hI hsz hty
        generalize letsT mn = t at t28 t20 hI ⊢
        obtain ⟨o1, n1, k1⟩ := u
        obtain ⟨o2, n2, k2⟩ := t
        simp only [tI, List.map_cons, List.map_nil, enc_mk] at t28 t20 hI hsz hty
        simp only [S7_197, S7_198, S7_199, S7_200, S7_201, S7_202, S7_203, S7_204, S7_205, S7_206, S7_207, S7_208, S7_209, S7_210, S7_211, S7_212, S7_213, S7, ↓XX, ↓reduceIte, Nat.reduceBEq, decide_true, decide_false, Bool.not_true, Bool.not_false, List.map_cons, List.map_nil, List.length_map, List.length_cons, List.length_nil, Nat.reduceAdd, Int.cast_ofNat_Int, Int.natCast_zero, Int.natCast_one, Bool.false_eq_true, Bool.true_eq_false, decide_eq_true_eq, eq_self, Int.reduceEq, Int.reduceLT, Int.reduceLE, Bool.and_true, Bool.true_and, Bool.and_false, Bool.false_and, Nat.zero_add, hno, ↓hmin, wmn, ↓opt_some cv, ↓bin_some sh, wsub, ↓iso_1 i1, ↓bs2_g, Tm.op, Tm.n, Tm.kids, ↓iso_2 t28, ↓iso_2 t20, wadd, ↓iso_2 hI, hle, ↓iso_1 hsz, ↓iso_1 hty]
        exact ansv
      · have hsz := tsize_ok n (.mk 16 0 [tI, dbT mn]) (by simp only [tI, Tm.wt, Tm.wtL]; omega) (by simp only [tI, Tm.wt, Tm.wtL]; omega)
        have hty := pType_ok (n := n) (.mk 16 0 [tI, dbT mn]) (by simp only [tI, Tm.wt, Tm.wtL]; omega)
        have htt : (Tm.mk 16 0 [tI, dbT mn]).typed = true := by simp only [Tm.typed, hdt, tI_typed]; rfl
        rw [htt] at hty
        have hle : ¬ (3000 : Int) < ((2 ^ (mn + 1) + 1 : Nat) : Int) := by omega
        have hsw : ((Tm.mk 16 0 [tI, dbT mn]).wt : Int) = ((2 ^ (mn + 1) + 1 : Nat) : Int) := by simp only [tI, Tm.wt, Tm.wtL]; omega
        rw [hsw] at hsz
        clear hod
        simp only [oD, cond_true] at hI
        generalize 2 ^ (mn + 1) + 1 = q2 at hsz wadd hle
        generalize 2 ^ (mn + 1) - 1 = q at wsub wadd
        generalize 2 ^ (mn + 1) = p at sh wsub
        generalize dbT mn = u at hI hsz hty
        generalize letsT mn = t at t28 t20 hI ⊢
        obtain ⟨o1, n1, k1⟩ := u
        obtain ⟨o2, n2, k2⟩ := t
        simp only [tI, List.map_cons, List.map_nil, enc_mk] at t28 t20 hI hsz hty
        simp only [S7_197, S7_198, S7_199, S7_200, S7_201, S7_202, S7_203, S7_204, S7_205, S7_206, S7_207, S7_208, S7_209, S7_210, S7_211, S7_212, S7_213, S7, ↓XX, ↓reduceIte, Nat.reduceBEq, decide_true, decide_false, Bool.not_true, Bool.not_false, List.map_cons, List.map_nil, List.length_map, List.length_cons, List.length_nil, Nat.reduceAdd, Int.cast_ofNat_Int, Int.natCast_zero, Int.natCast_one, Bool.false_eq_true, Bool.true_eq_false, decide_eq_true_eq, eq_self, Int.reduceEq, Int.reduceLT, Int.reduceLE, Bool.and_true, Bool.true_and, Bool.and_false, Bool.false_and, Nat.zero_add, hno, ↓hmin, wmn, ↓opt_some cv, ↓bin_some sh, wsub, ↓iso_1 i1, ↓bs2_g, Tm.op, Tm.n, Tm.kids, ↓iso_2 t28, ↓iso_2 t20, wadd, ↓iso_2 hI, hle, ↓iso_1 hsz, ↓iso_1 hty]
        exact ansv
    · rw [if_neg h10] at hI
      have hp3 : 2 ^ 12 ≤ 2 ^ (mn + 1) := Nat.pow_le_pow_right (by decide) (by omega)
      clear hod
      cases f
      · have hle : (3000 : Int) < ((2 ^ (mn + 1) - 1 : Nat) : Int) := by omega
        simp only [oD, cond_false] at hI
        generalize 2 ^ (mn + 1) - 1 = q at wsub wadd hle
        generalize 2 ^ (mn + 1) = p at sh wsub wadd
        generalize letsT i = t at t28 t20 hI ⊢
        obtain ⟨o2, n2, k2⟩ := t
        simp only [tI, Tm.z, List.map_cons, List.map_nil, enc_mk] at t28 t20 hI
        simp only [S7_197, S7_198, S7_199, S7_200, S7_201, S7_202, S7_203, S7_204, S7_205, S7_206, S7_207, S7_208, S7_209, S7_210, S7_211, S7_212, S7_213, S7, ↓XX, ↓reduceIte, Nat.reduceBEq, decide_true, decide_false, Bool.not_true, Bool.not_false, List.map_cons, List.map_nil, List.length_map, List.length_cons, List.length_nil, Nat.reduceAdd, Int.cast_ofNat_Int, Int.natCast_zero, Int.natCast_one, Bool.false_eq_true, Bool.true_eq_false, decide_eq_true_eq, eq_self, Int.reduceEq, Int.reduceLT, Int.reduceLE, Bool.and_true, Bool.true_and, Bool.and_false, Bool.false_and, Nat.zero_add, hno, ↓hmin, wmn, ↓opt_some cv, ↓bin_some sh, wsub, ↓iso_1 i1, ↓bs2_g, Tm.op, Tm.n, Tm.kids, ↓iso_2 t28, ↓iso_2 t20, wadd, ↓iso_2 hI, hle]
        exact ansv
      · have hle : (3000 : Int) < ((2 ^ (mn + 1) + 1 : Nat) : Int) := by omega
        simp only [oD, cond_true] at hI
        generalize 2 ^ (mn + 1) + 1 = q2 at wadd hle
        generalize 2 ^ (mn + 1) - 1 = q at wsub wadd
        generalize 2 ^ (mn + 1) = p at sh wsub
        generalize letsT i = t at t28 t20 hI ⊢
        obtain ⟨o2, n2, k2⟩ := t
        simp only [tI, Tm.z, List.map_cons, List.map_nil, enc_mk] at t28 t20 hI
        simp only [S7_197, S7_198, S7_199, S7_200, S7_201, S7_202, S7_203, S7_204, S7_205, S7_206, S7_207, S7_208, S7_209, S7_210, S7_211, S7_212, S7_213, S7, ↓XX, ↓reduceIte, Nat.reduceBEq, decide_true, decide_false, Bool.not_true, Bool.not_false, List.map_cons, List.map_nil, List.length_map, List.length_cons, List.length_nil, Nat.reduceAdd, Int.cast_ofNat_Int, Int.natCast_zero, Int.natCast_one, Bool.false_eq_true, Bool.true_eq_false, decide_eq_true_eq, eq_self, Int.reduceEq, Int.reduceLT, Int.reduceLE, Bool.and_true, Bool.true_and, Bool.and_false, Bool.false_and, Nat.zero_add, hno, ↓hmin, wmn, ↓opt_some cv, ↓bin_some sh, wsub, ↓iso_1 i1, ↓bs2_g, Tm.op, Tm.n, Tm.kids, ↓iso_2 t28, ↓iso_2 t20, wadd, ↓iso_2 hI, hle]
        exact ansv
end Idl
end Go.Proofs.Ytdibmackcbpniaa

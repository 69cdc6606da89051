/-
  Texts of a proof, part 12: an ideal semantics of the program, its functions in shallow form, contracts of them. No statement of the seat is proved here.
-/
import Derived.Test.YtbkdidonegggdaaNormEtaK11
set_option linter.all false
namespace Go.Proofs.Ytbkdidonegggdaa
namespace Idl
def nextG (T1 T2 : Ctx → Tm → Tm) (B1 : Ctx → Tm → Bool) (g : Ctx) (r : Tm) : Ctx := if r.n % 3 = 0 then (if B1 g r then g ++ [(0, T1 g r)] else g) else g ++ [(1, T2 g r)]
def ctxG (f : Ctx → Tm → Ctx) (l : List Tm) : Nat → Ctx
  | 0 => []
  | i + 1 => match l[i]? with
    | some r => f (ctxG f l i) r
    | none => ctxG f l i
def gV : Ctx → IV
  | [] => .nils
  | p :: g => .fv (gEnc (p :: g))
theorem gV_ne {g : Ctx} (h : g ≠ []) : gV g = .fv (gEnc g) := by
  cases g with
  | nil => exact absurd rfl h
  | cons p g => rfl
theorem gV_two (g : Ctx) : gV g = .nils ∨ ∃ x, gV g = .fv x := by
  cases g with
  | nil => exact .inl rfl
  | cons p g => exact .inr ⟨_, rfl⟩
theorem gV_ans (g : Ctx) (own : List (Nat × Blk)) : Ans (outS1 [gV g] ⟨own, []⟩) (gEnc g) := by
  cases g with
  | nil => exact ans_p rfl _
  | cons p g => exact ans_fv _ _
theorem gV_frz (g : Ctx) : frzP (gV g) = some (gEnc g) := by
  cases g with
  | nil => rfl
  | cons p g => rfl
set_option maxRecDepth 20000 in
set_option maxHeartbeats 4000000 in
theorem context_ev (l : List Tm) (hll : l.length ≤ 9223372036854775807) : ∃ g, Ev 24 [.fv (.sl (l.map Tm.enc))] (gEnc g) ∧ GOk 10 g ∧ g.length ≤ 4 := by
  have hc : ∀ p : Ctx × Tm, ∃ (t1 t2 : Tm) (b1 : Bool), GOk 10 p.1 → Ev 26 [.fv (gEnc p.1), .fv (Tm.mk 14 0 []).enc, .fv p.2.enc, iv 2] (.tuple [Tm.enc t1, .bool b1]) ∧ TOk p.1.length 7 t1 ∧ Ev 25 [.fv (gEnc p.1), .fv p.2.enc, iv 2] (Tm.enc t2) ∧ TyOk p.1.length 7 t2 := by
    rintro ⟨g, r⟩
    by_cases hg : GOk 10 g
    · obtain ⟨hT, hG, _⟩ := grow_all 7 (by omega)
      obtain ⟨t1, b1, h1, h2⟩ := hG g (.mk 14 0 []) r (gok_mono (by omega) hg) ⟨sc_mk0 (by decide) (by decide) (num0 (by decide) (by decide) (by decide)), by simp [Tm.wt, Tm.wtL], by simp [Tm.dp, Tm.dpL]⟩
      obtain ⟨t2, h3, h4⟩ := hT g r (gok_mono (by omega) hg)
      exact ⟨t1, t2, b1, fun _ => ⟨h1, h2, h3, h4⟩⟩
    · exact ⟨.z, .z, false, fun h => absurd h hg⟩
  obtain ⟨T1, hc⟩ := Classical.axiomOfChoice hc
  obtain ⟨T2, hc⟩ := Classical.axiomOfChoice hc
  obtain ⟨B1, hc⟩ := Classical.axiomOfChoice hc
  obtain ⟨f, hf⟩ : ∃ f, f = nextG (fun g r => T1 (g, r)) (fun g r => T2 (g, r)) (fun g r => B1 (g, r)) := ⟨_, rfl⟩
  have hD7 : Dg 7 = 270 := rfl
  have hD6 : Dg 6 = 260 := rfl
  have hW7 : Wg 7 = 131072000 := rfl
  have hW6 : Wg 6 = 32768000 := rfl
  have hstep : ∀ i, i ≤ 4 → GOk 10 (ctxG f l i) ∧ (ctxG f l i).length ≤ i := by
    intro i
    induction i with
    | zero => intro _; exact ⟨⟨by simp [ctxG], fun i p h => by simp [ctxG] at h⟩, by simp [ctxG]⟩
    | succ i ih =>
      intro h
      obtain ⟨h1, h2⟩ := ih (by omega)
      rw [ctxG]
      cases hr : l[i]? with
      | none => simp only; exact ⟨h1, by omega⟩
      | some r =>
        simp only
        generalize ctxG f l i = g at h1 h2
        obtain ⟨_, h4, _, h6⟩ := hc (g, r) h1
        simp only at h4 h6
        have h4s := h4.sc
        have h4w := h4.wt
        have h4d := h4.dp
        have h6s := h6.sc
        have h6w := h6.wt
        have h6d := h6.dp
        rw [show 7 - 1 = 6 from rfl] at h6w h6d
        have big : ∀ (s : Int) (t : Tm), t.sc g.length → t.wt ≤ 100000000000 → t.dp ≤ 6000 → GOk 10 (g ++ [(s, t)]) := by
          intro s t q1 q2 q3
          have h11 : GOk 11 g := ⟨by omega, h1.ok⟩
          exact gok_more h11 q1 q2 q3
        rw [hf, nextG]
        split
        · split
          · exact ⟨big _ _ h4s (by omega) (by omega), by simp; omega⟩
          · exact ⟨h1, by omega⟩
        · exact ⟨big _ _ h6s (by omega) (by omega), by simp; omega⟩
  obtain ⟨m, hm⟩ : ∃ m, m = min l.length 4 := ⟨_, rfl⟩
  obtain ⟨N, hN⟩ := fin_ev (P := fun i n => ∀ r, l[i]? = some r → Ans (SS dt n 26 [.fv (gEnc (ctxG f l i)), .fv (Tm.mk 14 0 []).enc, .fv r.enc, iv 2] ⟨[], []⟩) (.tuple [Tm.enc (T1 (ctxG f l i, r)), .bool (B1 (ctxG f l i, r))]) ∧ Ans (SS dt n 25 [.fv (gEnc (ctxG f l i)), .fv r.enc, iv 2] ⟨[], []⟩) (Tm.enc (T2 (ctxG f l i, r)))) m (fun i hi => by
    have hil : i < l.length := by omega
    obtain ⟨⟨N1, h1⟩, _, ⟨N2, h2⟩, _⟩ := hc (ctxG f l i, l[i]) (hstep i (by omega)).1
    refine ⟨N1 + N2, fun n hn r hr => ?_⟩
    rw [List.getElem?_eq_getElem hil, Option.some.injEq] at hr
    subst hr
    exact ⟨h1 n (by omega), h2 n (by omega)⟩)
  have hm4 := hstep m (by omega)
  refine ⟨ctxG f l m, ⟨N + 100, fun n hn => ?_⟩, hm4.1, by omega⟩
  obtain ⟨n, rfl⟩ : ∃ k, n = k + 1 := ⟨n - 1, by omega⟩
  rw [c24]
  simp only [S24_80, S24_81, S24_82, S24_83, S24_84, S24_85, S24_86, S24_87, S24_88, S24, ↓XX, XY, ↓reduceIte, Nat.reduceBEq, Nat.reduceAdd, Int.cast_ofNat_Int, Int.reduceEq, Int.reduceLT, Int.reduceLE, ↓drop_e, XD, heldB, flatD, XE]
  refine loop_run (Q := fun r => Ans r _) (fun k V H => ∃ i : Nat, i + k = m ∧ V = [.fv (.sl (l.map Tm.enc)), gV (ctxG f l i), iv i] ∧ H = ⟨[], []⟩)
    ?_ n m _ _ (by omega) ⟨0, by omega, rfl, rfl⟩
  rintro k V H rec ⟨i, hik, rfl, rfl⟩ hrec
  have hi4 := hstep i (by omega)
  cases k with
  | zero =>
    have him : i = m := by omega
    subst him
    have ha := fun own => gV_ans (ctxG f l i) own
    generalize gV (ctxG f l i) = gv at ha
    by_cases h1 : (i : Int) < l.length
    · have h4 : ¬ ((i : Int) < 4) := by omega
      simp only [↓UU5, ↓XX, XY, ↓reduceIte, Nat.reduceBEq, Nat.reduceAdd, Int.cast_ofNat_Int, Int.reduceEq, Int.reduceLT, Int.reduceLE, h1, h4]
      exact ha _
    · simp only [↓UU5, ↓XX, XY, ↓reduceIte, Nat.reduceBEq, Nat.reduceAdd, Int.cast_ofNat_Int, Int.reduceEq, Int.reduceLT, Int.reduceLE, h1]
      exact ha _
  | succ k =>
    have hil : i < l.length := by omega
    have h1 : (i : Int) < l.length := by omega
    have h4 : (i : Int) < 4 := by omega
    have wi : w64 ((i : Int) + 1) = (i : Int) + 1 := by rw [w64_id] <;> omega
    obtain ⟨r, hr⟩ : ∃ r, l[i]? = some r := ⟨_, List.getElem?_eq_getElem hil⟩
    obtain ⟨g1, g2⟩ := hN i (by omega) n (by omega) r hr
    have hw := within4_ok (n := n) (by omega) r.n (m := 3) (by omega) (by omega)
    have t14 := t0_ok (n := n) (by omega) 14
    have h9 := hrec k [.fv (.sl (l.map Tm.enc)), gV (ctxG f l (i + 1)), iv (i + 1 : Nat)] ⟨[], []⟩ (by omega) ⟨i + 1, by omega, rfl, rfl⟩
    have hi1 : ((i + 1 : Nat) : Int) = (i : Int) + 1 := by omega
    rw [hi1, ctxG, hr] at h9
    simp only [hf, nextG] at h9
    rw [← hf] at h9
    have hfz := gV_frz (ctxG f l i)
    have htw := gV_two (ctxG f l i)
    have m1 := more_ok (n := n) (ctxG f l i) 0 (T1 (ctxG f l i, r)) (by omega) (by omega)
    have m2 := more_ok (n := n) (ctxG f l i) 1 (T2 (ctxG f l i, r)) (by omega) (by omega)
    have n1 := gV_ne (g := ctxG f l i ++ [((0 : Int), T1 (ctxG f l i, r))]) (by simp)
    have n2 := gV_ne (g := ctxG f l i ++ [((1 : Int), T2 (ctxG f l i, r))]) (by simp)
    generalize gEnc (ctxG f l i ++ [((0 : Int), T1 (ctxG f l i, r))]) = e1 at m1 n1
    generalize gEnc (ctxG f l i ++ [((1 : Int), T2 (ctxG f l i, r))]) = e2 at m2 n2
    clear hc hstep hN hi4 hm4
    by_cases c0 : r.n % 3 = 0
    · rw [if_pos c0] at h9
      rw [c0] at hw
      cases hb : B1 (ctxG f l i, r)
      · rw [hb] at g1 h9
        simp only [Bool.false_eq_true, if_false] at h9
        generalize T1 (ctxG f l i, r) = t1 at g1
        generalize gV (ctxG f l i) = gv at hfz h9 htw
        generalize gEnc (ctxG f l i) = ge at hfz g1
        obtain ⟨o, p, ks⟩ := r
        obtain ⟨o1, p1, k1⟩ := t1
        simp only [Tm.n] at hw
        simp only [enc_mk, List.map_nil] at g1 t14
        have g1 := iso_4 (a := gv) (b := .fv (.agg [.int .i64 14, .int .i64 0, .sl []])) (c := .fv (.agg [.int .i64 o, .int .i64 p, .sl (ks.map Tm.enc)])) (d := iv 2) g1 hfz rfl rfl rfl
        rcases htw with rfl | ⟨x0, rfl⟩
        · simp (maxSteps := 1000000) only [↓UU5, ↓XX, XY, ↓reduceIte, Nat.reduceBEq, Nat.reduceAdd, Int.cast_ofNat_Int, Int.reduceEq, Int.reduceLT, Int.reduceLE, h1, h4, wi, ↓ix_f (map_get hr) (agg3l _ _ _), ↓agg3, ↓iso_2 hw, ↓iso_2 t14, ↓g1, ↓drop_e, XD, heldB, flatD, XE]
          exact h9
        · simp (maxSteps := 1000000) only [↓UU5, ↓XX, XY, ↓reduceIte, Nat.reduceBEq, Nat.reduceAdd, Int.cast_ofNat_Int, Int.reduceEq, Int.reduceLT, Int.reduceLE, h1, h4, wi, ↓ix_f (map_get hr) (agg3l _ _ _), ↓agg3, ↓iso_2 hw, ↓iso_2 t14, ↓g1, ↓drop_e, XD, heldB, flatD, XE]
          exact h9
      · rw [hb] at g1 h9
        simp only [if_true] at h9
        rw [n1] at h9
        generalize T1 (ctxG f l i, r) = t1 at g1 m1
        generalize gV (ctxG f l i) = gv at hfz htw
        generalize gEnc (ctxG f l i) = ge at hfz g1 m1
        obtain ⟨o, p, ks⟩ := r
        obtain ⟨o1, p1, k1⟩ := t1
        simp only [Tm.n] at hw
        simp only [enc_mk, List.map_nil] at g1 t14 m1
        have g1 := iso_4 (a := gv) (b := .fv (.agg [.int .i64 14, .int .i64 0, .sl []])) (c := .fv (.agg [.int .i64 o, .int .i64 p, .sl (ks.map Tm.enc)])) (d := iv 2) g1 hfz rfl rfl rfl
        have m1 := iso_3 (a := gv) (b := iv 0) (c := .fv (.agg [.int .i64 o1, .int .i64 p1, .sl (k1.map Tm.enc)])) m1 hfz rfl rfl
        rcases htw with rfl | ⟨x0, rfl⟩
        · simp (maxSteps := 1000000) only [↓UU5, ↓XX, XY, ↓reduceIte, Nat.reduceBEq, Nat.reduceAdd, Int.cast_ofNat_Int, Int.reduceEq, Int.reduceLT, Int.reduceLE, h1, h4, wi, ↓ix_f (map_get hr) (agg3l _ _ _), ↓agg3, ↓iso_2 hw, ↓iso_2 t14, ↓g1, ↓m1, ↓drop_e, XD, heldB, flatD, XE]
          exact h9
        · simp (maxSteps := 1000000) only [↓UU5, ↓XX, XY, ↓reduceIte, Nat.reduceBEq, Nat.reduceAdd, Int.cast_ofNat_Int, Int.reduceEq, Int.reduceLT, Int.reduceLE, h1, h4, wi, ↓ix_f (map_get hr) (agg3l _ _ _), ↓agg3, ↓iso_2 hw, ↓iso_2 t14, ↓g1, ↓m1, ↓drop_e, XD, heldB, flatD, XE]
          exact h9
    · rw [if_neg c0, n2] at h9
      generalize T2 (ctxG f l i, r) = t2 at g2 m2
      generalize gV (ctxG f l i) = gv at hfz htw
      generalize gEnc (ctxG f l i) = ge at hfz g2 m2
      obtain ⟨o, p, ks⟩ := r
      obtain ⟨o1, p1, k1⟩ := t2
      simp only [Tm.n] at hw c0
      generalize p % 3 = w3 at hw c0
      simp only [enc_mk, List.map_nil] at g2 m2
      have g2 := iso_3 (a := gv) (b := .fv (.agg [.int .i64 o, .int .i64 p, .sl (ks.map Tm.enc)])) (c := iv 2) g2 hfz rfl rfl
      have m2 := iso_3 (a := gv) (b := iv 1) (c := .fv (.agg [.int .i64 o1, .int .i64 p1, .sl (k1.map Tm.enc)])) m2 hfz rfl rfl
      rcases htw with rfl | ⟨x0, rfl⟩
      · simp (maxSteps := 1000000) only [↓UU5, ↓XX, XY, ↓reduceIte, Nat.reduceBEq, Nat.reduceAdd, Int.cast_ofNat_Int, Int.reduceEq, Int.reduceLT, Int.reduceLE, h1, h4, wi, c0, ↓ix_f (map_get hr) (agg3l _ _ _), ↓agg3, ↓iso_2 hw, ↓g2, ↓m2, ↓drop_e, XD, heldB, flatD, XE]
        exact h9
      · simp (maxSteps := 1000000) only [↓UU5, ↓XX, XY, ↓reduceIte, Nat.reduceBEq, Nat.reduceAdd, Int.cast_ofNat_Int, Int.reduceEq, Int.reduceLT, Int.reduceLE, h1, h4, wi, c0, ↓ix_f (map_get hr) (agg3l _ _ _), ↓agg3, ↓iso_2 hw, ↓g2, ↓m2, ↓drop_e, XD, heldB, flatD, XE]
        exact h9
def manyT (l : List Tm) : Bool := l.all (fun t => decide (t.count 300 < 300)) && decide ((l.length : Int) ≤ 6)
set_option maxHeartbeats 1000000 in
theorem many_ok (l : List Tm) (hll : l.length ≤ 9223372036854775807) {n : Nat} (hn : Tm.wtL l + 10 < n) : Ans (SS dt n 15 [.fv (.sl (l.map Tm.enc))] ⟨[], []⟩) (.bool (manyT l)) := by
  obtain ⟨n, rfl⟩ : ∃ k, n = k + 1 := ⟨n - 1, by omega⟩
  rw [c15]
  simp only [S15_22, S15_23, S15_24, S15, ↓XX, XY, ↓reduceIte, Nat.reduceBEq, Nat.reduceAdd, Int.cast_ofNat_Int, Int.reduceEq, Int.reduceLT, Int.reduceLE, ↓drop_e, XD, heldB, flatD, XE]
  have hlw := wt_len l
  refine loop_run (Q := fun r => Ans r _) (fun k V H => ∃ pre rest, l = pre ++ rest ∧ rest.length = k ∧ V = [.fv (.sl (l.map Tm.enc)), iv pre.length] ∧ H = ⟨[], []⟩ ∧ manyT l = (rest.all (fun t => decide (t.count 300 < 300)) && decide ((l.length : Int) ≤ 6)))
    ?_ n l.length _ _ (by omega) ⟨[], l, rfl, rfl, rfl, rfl, rfl⟩
  rintro k V H rec ⟨pre, rest, hk, hl, rfl, rfl, ht⟩ hrec
  have hkl : l.length = pre.length + rest.length := by rw [hk]; simp
  cases rest with
  | nil =>
    have hno : ¬ ((pre.length : Int) < l.length) := by rw [hkl]; simp
    rw [ht, List.all_nil, Bool.true_and]
    by_cases h6 : (l.length : Int) ≤ 6
    · simp only [S15_22, S15_23, S15_24, S15_25, S15, ↓XX, XY, ↓reduceIte, Nat.reduceBEq, Nat.reduceAdd, Int.cast_ofNat_Int, Int.reduceEq, Int.reduceLT, Int.reduceLE, hno, h6]; exact ans_fv _ _
    · simp only [S15_22, S15_23, S15_24, S15_25, S15, ↓XX, XY, ↓reduceIte, Nat.reduceBEq, Nat.reduceAdd, Int.cast_ofNat_Int, Int.reduceEq, Int.reduceLT, Int.reduceLE, hno, h6]; exact ans_fv _ _
  | cons x rest =>
    have hi : (pre.length : Int) < l.length := by rw [hkl]; simp; omega
    have hg2 := at_pre hk
    have hxw := wt_mem (t := x) (l := l) (by rw [hk]; simp)
    obtain ⟨n, rfl⟩ : ∃ k, n = k + 1 := ⟨n - 1, by omega⟩
    have hf := few_ok (n := n) x (by omega)
    have hwi : w64 ((pre.length : Int) + 1) = ((pre ++ [x]).length : Int) := (w64_id (by omega) (by simp at hkl; omega)).trans (by simp)
    rw [ht, List.all_cons]
    cases hx : decide (x.count 300 < 300)
    · rw [hx] at hf
      obtain ⟨o, p, ks⟩ := x
      rw [enc_mk] at hf
      simp only [S15_22, S15_23, S15_24, S15_25, S15, ↓XX, XY, ↓reduceIte, Nat.reduceBEq, Nat.reduceAdd, Int.cast_ofNat_Int, Int.reduceEq, Int.reduceLT, Int.reduceLE, hi, ↓ix_f (map_get hg2) (agg3l _ _ _), ↓agg3, ↓iso_1 hf]; exact ans_fv _ _
    · rw [hx] at hf
      have h9 := hrec rest.length _ _ (by simp at hl; omega) ⟨pre ++ [x], rest, by rw [hk]; simp, rfl, rfl, rfl, by rw [ht, List.all_cons, hx, Bool.true_and]⟩
      rw [Bool.true_and]
      rw [ht, List.all_cons, hx, Bool.true_and] at h9
      obtain ⟨o, p, ks⟩ := x
      rw [enc_mk] at hf
      simp only [S15_22, S15_23, S15_24, S15_25, S15, ↓XX, XY, ↓reduceIte, Nat.reduceBEq, Nat.reduceAdd, Int.cast_ofNat_Int, Int.reduceEq, Int.reduceLT, Int.reduceLE, hi, ↓ix_f (map_get hg2) (agg3l _ _ _), ↓agg3, ↓iso_1 hf, hwi]
      exact h9
structure CaseOk (g : Ctx) (a t : Tm) (is : Bool) : Prop where
  gok : GOk 10 g
  len : g.length ≤ 4
  asc : a.sc g.length
  awt : a.wt ≤ 32768010
  adp : a.dp ≤ 300
  tsc : t.sc g.length
  tdp : t.dp ≤ 300
  chk : is = true → (t.chk 0 1).2 = 0
set_option maxRecDepth 20000 in
set_option maxHeartbeats 4000000 in
theorem case_ev (l : List Tm) (hll : l.length ≤ 9223372036854775807) (r q : Tm) (object : Bool) : ∃ g a t is, Ev 17 [.fv (.sl (l.map Tm.enc)), .fv r.enc, .fv q.enc, .fv (.bool object)] (.tuple [gEnc g, a.enc, t.enc, .bool is]) ∧ CaseOk g a t is ∧ (object = true → a = q.plainT 2) := by
  obtain ⟨g, ⟨N0, h0⟩, hg, hg4⟩ := context_ev l hll
  have hW6 : Wg 6 = 32768000 := rfl
  have hD6 : Dg 6 = 260 := rfl
  have hW10 : Wg 10 = 8388608000 := rfl
  have hD10 : Dg 10 = 300 := rfl
  obtain ⟨_, hG, hO⟩ := grow_all 10 (by omega)
  cases object
  · obtain ⟨hT, _, _⟩ := grow_all 7 (by omega)
    obtain ⟨a, ⟨N1, h1⟩, ta⟩ := hT g q (gok_mono (by omega) hg)
    have aw := ta.wt
    have ad := ta.dp
    have asc := ta.sc
    rw [show 7 - 1 = 6 from rfl] at aw ad
    obtain ⟨t, b, ⟨N2, h2⟩, tt⟩ := hG g a r hg ⟨asc, by omega, by omega⟩
    have tw := tt.wt
    have ts := tt.sc
    have body : ∀ (t' : Tm) (is : Bool), (is = true ∧ t' = t ∧ b = true ∧ (t.chk 0 1).2 = 0 ∨ is = false ∧ t' = zeroTm ∧ (b = false ∨ b = true ∧ (t.chk 0 1).2 ≠ 0)) → Ev 17 [.fv (.sl (l.map Tm.enc)), .fv r.enc, .fv q.enc, .fv (.bool false)] (.tuple [gEnc g, a.enc, t'.enc, .bool is]) := by
      intro t' is hd
      refine ⟨N0 + N1 + N2 + 100000000000 + 1, fun n hn => ?_⟩
      obtain ⟨n, rfl⟩ : ∃ k, n = k + 1 := ⟨n - 1, by omega⟩
      have h0 := h0 n (by omega)
      have h1 := h1 n (by omega)
      have h2 := h2 n (by omega)
      have hk := check_ok (n := n) t (by omega)
      have t11 := t0_ok (n := n) (by omega) 11
      rw [c17]
      clear ta tt
      generalize (t.chk 0 1).2 = ck at hk hd
      rw [show ((10 : Nat) : Int) - 5 = 5 from rfl] at h2
      rw [show ((7 : Nat) : Int) - 5 = 2 from rfl] at h1
      generalize gEnc g = ge at *
      generalize (FV.sl (l.map Tm.enc)) = le at *
      rcases hd with ⟨rfl, rfl, rfl, rfl⟩ | ⟨rfl, rfl, hd⟩
      · obtain ⟨o1, p1, k1⟩ := r
        obtain ⟨o2, p2, k2⟩ := q
        obtain ⟨o3, p3, k3⟩ := a
        obtain ⟨o4, p4, k4⟩ := t'
        simp only [enc_mk] at h1 h2 hk ⊢
        simp (maxSteps := 1000000) only [↓UU4, ↓XX, XY, ↓reduceIte, Nat.reduceBEq, Nat.reduceAdd, Int.cast_ofNat_Int, Int.reduceEq, Int.reduceLT, Int.reduceLE, ↓iso_1 h0, ↓iso_3 h1, ↓iso_4 h2, ↓iso_1 hk]; first | exact ans_fv _ _ | exact ans_t rfl (by simp) _
      · rw [zeroTm]
        rcases hd with rfl | ⟨rfl, hd⟩
        · obtain ⟨o1, p1, k1⟩ := r
          obtain ⟨o2, p2, k2⟩ := q
          obtain ⟨o3, p3, k3⟩ := a
          obtain ⟨o4, p4, k4⟩ := t
          simp only [enc_mk, List.map_nil] at h1 h2 hk t11 ⊢
          simp (maxSteps := 1000000) only [↓UU4, ↓XX, XY, ↓reduceIte, Nat.reduceBEq, Nat.reduceAdd, Int.cast_ofNat_Int, Int.reduceEq, Int.reduceLT, Int.reduceLE, ↓iso_1 h0, ↓iso_3 h1, ↓iso_4 h2, ↓iso_1 hk, ↓iso_2 t11]; first | exact ans_fv _ _ | exact ans_t rfl (by simp) _
        · obtain ⟨o1, p1, k1⟩ := r
          obtain ⟨o2, p2, k2⟩ := q
          obtain ⟨o3, p3, k3⟩ := a
          obtain ⟨o4, p4, k4⟩ := t
          simp only [enc_mk, List.map_nil] at h1 h2 hk t11 ⊢
          simp (maxSteps := 1000000) only [↓UU4, ↓XX, XY, ↓reduceIte, Nat.reduceBEq, Nat.reduceAdd, Int.cast_ofNat_Int, Int.reduceEq, Int.reduceLT, Int.reduceLE, hd, ↓iso_1 h0, ↓iso_3 h1, ↓iso_4 h2, ↓iso_1 hk, ↓iso_2 t11]; first | exact ans_fv _ _ | exact ans_t rfl (by simp) _
    by_cases hb : b = true
    · by_cases hc : (t.chk 0 1).2 = 0
      · exact ⟨g, a, t, true, body t true (.inl ⟨rfl, rfl, hb, hc⟩), ⟨hg, hg4, asc, by omega, by omega, ts, by have := tt.dp; omega, fun _ => hc⟩, fun h => by cases h⟩
      · exact ⟨g, a, zeroTm, false, body zeroTm false (.inr ⟨rfl, rfl, .inr ⟨hb, hc⟩⟩), ⟨hg, hg4, asc, by omega, by omega, zero_sc _, by decide, fun h => by cases h⟩, fun h => by cases h⟩
    · exact ⟨g, a, zeroTm, false, body zeroTm false (.inr ⟨rfl, rfl, .inl (by simpa using hb)⟩), ⟨hg, hg4, asc, by omega, by omega, zero_sc _, by decide, fun h => by cases h⟩, fun h => by cases h⟩
  · obtain ⟨a, ha⟩ : ∃ a, a = q.plainT 2 := ⟨_, rfl⟩
    have asc : a.sc g.length := ha ▸ plainT_sc _ 2 q
    have aw : a.wt ≤ 20 := by have := plainT_wt 2 q; rw [← ha] at this; simpa using Nat.le_trans this (by decide)
    have ad : a.dp ≤ 300 := Nat.le_trans (dp_wt a) (by omega)
    obtain ⟨t, b, ⟨N2, h2⟩, tt⟩ := hO g a r hg ⟨asc, by omega, by omega⟩
    have tw := tt.wt
    have ts := tt.sc
    have body : ∀ (t' : Tm) (is : Bool), (is = true ∧ t' = t ∧ b = true ∧ (t.chk 0 1).2 = 0 ∨ is = false ∧ t' = .mk 25 0 [] ∧ (b = false ∨ b = true ∧ (t.chk 0 1).2 ≠ 0)) → Ev 17 [.fv (.sl (l.map Tm.enc)), .fv r.enc, .fv q.enc, .fv (.bool true)] (.tuple [gEnc g, a.enc, t'.enc, .bool is]) := by
      intro t' is hd
      refine ⟨N0 + N2 + 100000000000 + 1, fun n hn => ?_⟩
      obtain ⟨n, rfl⟩ : ∃ k, n = k + 1 := ⟨n - 1, by omega⟩
      have h0 := h0 n (by omega)
      have h1 := plainT_ok 2 n q (by omega) (by omega)
      have h2 := h2 n (by omega)
      have hk := check_ok (n := n) t (by omega)
      have t25 := int_ok (n := n) (by omega) 0
      rw [c17]
      rw [← ha] at h1
      clear tt ha
      generalize (t.chk 0 1).2 = ck at hk hd
      rw [show ((10 : Nat) : Int) - 5 = 5 from rfl] at h2
      generalize gEnc g = ge at *
      generalize (FV.sl (l.map Tm.enc)) = le at *
      rcases hd with ⟨rfl, rfl, rfl, rfl⟩ | ⟨rfl, rfl, hd⟩
      · obtain ⟨o1, p1, k1⟩ := r
        obtain ⟨o2, p2, k2⟩ := q
        obtain ⟨o3, p3, k3⟩ := a
        obtain ⟨o4, p4, k4⟩ := t'
        simp only [enc_mk, Int.cast_ofNat_Int] at h1 h2 hk ⊢
        simp (maxSteps := 1000000) only [↓UU4, ↓XX, XY, ↓reduceIte, Nat.reduceBEq, Nat.reduceAdd, Int.cast_ofNat_Int, Int.reduceEq, Int.reduceLT, Int.reduceLE, ↓iso_1 h0, ↓iso_2 h1, ↓iso_4 h2, ↓iso_1 hk]; first | exact ans_fv _ _ | exact ans_t rfl (by simp) _
      · rcases hd with rfl | ⟨rfl, hd⟩
        · obtain ⟨o1, p1, k1⟩ := r
          obtain ⟨o2, p2, k2⟩ := q
          obtain ⟨o3, p3, k3⟩ := a
          obtain ⟨o4, p4, k4⟩ := t
          simp only [enc_mk, List.map_nil, Int.cast_ofNat_Int] at h1 h2 hk t25 ⊢
          simp (maxSteps := 1000000) only [↓UU4, ↓XX, XY, ↓reduceIte, Nat.reduceBEq, Nat.reduceAdd, Int.cast_ofNat_Int, Int.reduceEq, Int.reduceLT, Int.reduceLE, ↓iso_1 h0, ↓iso_2 h1, ↓iso_4 h2, ↓iso_1 hk, ↓iso_1 t25]; first | exact ans_fv _ _ | exact ans_t rfl (by simp) _
        · obtain ⟨o1, p1, k1⟩ := r
          obtain ⟨o2, p2, k2⟩ := q
          obtain ⟨o3, p3, k3⟩ := a
          obtain ⟨o4, p4, k4⟩ := t
          simp only [enc_mk, List.map_nil, Int.cast_ofNat_Int] at h1 h2 hk t25 ⊢
          simp (maxSteps := 1000000) only [↓UU4, ↓XX, XY, ↓reduceIte, Nat.reduceBEq, Nat.reduceAdd, Int.cast_ofNat_Int, Int.reduceEq, Int.reduceLT, Int.reduceLE, hd, ↓iso_1 h0, ↓iso_2 h1, ↓iso_4 h2, ↓iso_1 hk, ↓iso_1 t25]; first | exact ans_fv _ _ | exact ans_t rfl (by simp) _
    have is25 : ∀ k, (Tm.mk 25 0 []).sc k := fun k => sc_mk0 (by decide) (by decide) (by rw [numok]; simp)
    by_cases hb : b = true
    · by_cases hc : (t.chk 0 1).2 = 0
      · exact ⟨g, a, t, true, body t true (.inl ⟨rfl, rfl, hb, hc⟩), ⟨hg, hg4, asc, by omega, by omega, ts, by have := tt.dp; omega, fun _ => hc⟩, fun _ => ha⟩
      · exact ⟨g, a, _, false, body _ false (.inr ⟨rfl, rfl, .inr ⟨hb, hc⟩⟩), ⟨hg, hg4, asc, by omega, by omega, is25 _, by decide, fun h => by cases h⟩, fun _ => ha⟩
    · exact ⟨g, a, _, false, body _ false (.inr ⟨rfl, rfl, .inl (by simpa using hb)⟩), ⟨hg, hg4, asc, by omega, by omega, is25 _, by decide, fun h => by cases h⟩, fun _ => ha⟩
theorem kp_same (ih : Handler) (xs : List IV) (h0 : Hp) (k : IV → Hp → List Ref → List Ref → Option (IV × Hp)) : dynS EE ih (.fv (.func (.func 92) [] [])) xs h0 k = isoS [] false false ih 92 xs h0 k :=
  keep0 (by kernel_rfl) (by kernel_rfl) (by kernel_rfl) (by kernel_rfl) ..
theorem eqf_ok {n : Nat} (ka kb : List Tm) (hn : ka.length < n) (hl : ka.length ≤ 1000000000) (ih : ∀ a ∈ ka, ∀ b ∈ kb, Ans (SS dt n 92 [.fv a.enc, .fv b.enc] ⟨[], []⟩) (.bool (a.same b))) :
    Ans (SS dt (n + 1) 99 [.fv (.sl (ka.map Tm.enc)), .fv (.sl (kb.map Tm.enc)), .fv (.func (.func 92) [] [])] ⟨[], []⟩) (.bool (decide (ka.length = kb.length) && Tm.sameL ka kb)) := by
  rw [c99]
  by_cases h : ka.length = kb.length
  · have h' : (ka.length : Int) = kb.length := by omega
    rw [decide_eq_true h, Bool.true_and]
    simp only [S99_54, S99_55, S99_56, S99_57, S99_59, S99, ↓XX, XY, ↓reduceIte, Nat.reduceBEq, Nat.reduceAdd, Int.cast_ofNat_Int, Int.reduceEq, Int.reduceLT, Int.reduceLE, h', ↓drop_e, XD, heldB, flatD, XE]
    refine loop_run (Q := fun r => Ans r _) (fun k V H => ∃ pa ra pb rb, ka = pa ++ ra ∧ kb = pb ++ rb ∧ pa.length = pb.length ∧ ra.length = k ∧ V = [.fv (.sl (kb.map Tm.enc)), .fv (.func (.func 92) [] []), .fv (.sl (ka.map Tm.enc)), iv ka.length, iv pa.length] ∧ H = ⟨[], []⟩ ∧ Tm.sameL ra rb = Tm.sameL ka kb)
      ?_ n ka.length _ _ hn ⟨[], ka, [], kb, rfl, rfl, rfl, rfl, by rw [h]; rfl, rfl, rfl⟩
    rintro k V H rec ⟨pa, ra, pb, rb, hka, hkb, hpl, hk, rfl, rfl, hs⟩ hrec
    have hal : ka.length = pa.length + ra.length := by rw [hka]; simp
    have hbl : kb.length = pb.length + rb.length := by rw [hkb]; simp
    cases ra with
    | nil =>
      have hno : ¬ ((pa.length : Int) < ka.length) := by rw [hal]; simp
      rw [← hs]
      simp only [S99_54, S99_55, S99_56, S99_57, S99_58, S99_59, S99, ↓XX, XY, ↓reduceIte, Nat.reduceBEq, Nat.reduceAdd, Int.cast_ofNat_Int, Int.reduceEq, Int.reduceLT, Int.reduceLE, hno, Tm.sameL]
      exact ans_fv _ _
    | cons a ra =>
      simp only [List.length_cons] at hal hk
      cases rb with
      | nil => simp only [List.length_nil] at hbl; omega
      | cons b rb =>
        have hi : (pa.length : Int) < ka.length := by omega
        have hga := at_pre hka
        have hgb := at_pre hkb
        rw [← hpl] at hgb
        have hc := ih a (by rw [hka]; simp) b (by rw [hkb]; simp)
        have hwi : w64 ((pa.length : Int) + 1) = ((pa ++ [a]).length : Int) := (w64_id (by omega) (by omega)).trans (by simp)
        simp only [Tm.sameL] at hs
        generalize a.same b = v at hc hs
        obtain ⟨o, p, l⟩ := a
        obtain ⟨o2, p2, l2⟩ := b
        simp only [enc_mk] at hc
        cases v
        · rw [← hs]
          simp only [S99_54, S99_55, S99_56, S99_57, S99_58, S99_59, S99, ↓XX, XY, ↓reduceIte, Nat.reduceBEq, Nat.reduceAdd, Int.cast_ofNat_Int, Int.reduceEq, Int.reduceLT, Int.reduceLE, hi, ↓ix_f (map_get hga) (agg3l _ _ _), ↓ix_f (map_get hgb) (agg3l _ _ _), ↓agg3, ↓kp_same, ↓iso_2 hc]
          exact ans_fv _ _
        · simp only [S99_54, S99_55, S99_56, S99_57, S99_58, S99_59, S99, ↓XX, XY, ↓reduceIte, Nat.reduceBEq, Nat.reduceAdd, Int.cast_ofNat_Int, Int.reduceEq, Int.reduceLT, Int.reduceLE, hi, ↓ix_f (map_get hga) (agg3l _ _ _), ↓ix_f (map_get hgb) (agg3l _ _ _), ↓agg3, ↓kp_same, ↓iso_2 hc, hwi, ↓drop_e, XD, heldB, flatD, XE]
          exact hrec ra.length _ _ (by omega) ⟨pa ++ [.mk o p l], ra, pb ++ [.mk o2 p2 l2], rb, by rw [hka]; simp, by rw [hkb]; simp, by simp [hpl], rfl, rfl, rfl, by simpa using hs⟩
  · have h' : ¬ (ka.length : Int) = kb.length := by omega
    rw [decide_eq_false h, Bool.false_and]
    simp only [S99_54, S99_55, S99_56, S99_57, S99_58, S99_59, S99, ↓XX, XY, ↓reduceIte, Nat.reduceBEq, Nat.reduceAdd, Int.cast_ofNat_Int, Int.reduceEq, Int.reduceLT, Int.reduceLE, h']
    exact ans_fv _ _
theorem psame_ok : ∀ (n : Nat) (a b : Tm), 2 * a.wt + 2 < n → a.wt ≤ 100000000 → Ans (SS dt n 92 [.fv a.enc, .fv b.enc] ⟨[], []⟩) (.bool (a.same b)) := by
  intro n
  induction n using Nat.strongRecOn with
  | ind n ih =>
    intro a b hn hw
    obtain ⟨o, m, ka⟩ := a
    obtain ⟨o', m', kb⟩ := b
    simp only [Tm.wt] at hn hw
    obtain ⟨n, rfl⟩ : ∃ k, n = k + 1 + 1 := ⟨n - 2, by omega⟩
    have hlen := wt_len ka
    have hq := eqf_ok (n := n) ka kb (by omega) (by omega) (fun a ha b _ => ih n (by omega) a b (by have := wt_mem ha; omega) (by have := wt_mem ha; omega))
    rw [c92, enc_mk, enc_mk, Tm.same]
    generalize (decide (ka.length = kb.length) && Tm.sameL ka kb) = v at hq
    by_cases h1 : o = o'
    · by_cases h2 : m = m'
      · subst h1 h2
        simp only [S92_83, S92_84, S92_85, S92, ↓XX, XY, ↓reduceIte, Nat.reduceBEq, Nat.reduceAdd, Int.cast_ofNat_Int, Int.reduceEq, Int.reduceLT, Int.reduceLE, ↓iso_3 hq]
        exact ans_fv _ _
      · have h2' := decide_eq_false h2
        subst h1
        simp only [S92_83, S92_84, S92_85, S92, ↓XX, XY, ↓reduceIte, Nat.reduceBEq, Nat.reduceAdd, Int.cast_ofNat_Int, Int.reduceEq, Int.reduceLT, Int.reduceLE, h2]
        exact ans_fv _ _
    · simp only [S92_83, S92_84, S92_85, S92, ↓XX, XY, ↓reduceIte, Nat.reduceBEq, Nat.reduceAdd, Int.cast_ofNat_Int, Int.reduceEq, Int.reduceLT, Int.reduceLE, h1]
      exact ans_fv _ _
inductive PV where
  | nil
  | mk (op n : Int) (k : List PV) (t : Tm) (e : List PV)
def PV.enc : PV → FV
  | .nil => .nilp
  | .mk op n k (.mk to tn tk) e => .fp [.int .i64 op, .int .i64 n, .sl (encL k), .int .i64 to, .int .i64 tn, .sl (tk.map Tm.enc), encE e] 0
where
  encL : List PV → List FV
    | [] => []
    | v :: l => v.enc :: encL l
  encE : List PV → FV
    | [] => .nilp
    | v :: l => .fp [v.enc, encE l] 0
section
variable {ih : Handler} {f : FuncId} {w : FV} {s u r e s' u' r' e' : Int} (own : List (Nat × Blk)) (k : IV → Hp → List Ref → List Ref → Option (IV × Hp))
end
structure M3 where
  s : Int
  w : Int
  e : Int
end Idl
end Go.Proofs.Ytbkdidonegggdaa
namespace Go.Proofs.Ytbkdidonegggdaa
namespace Idl
def PV.op : PV → Int
  | .nil => 0
  | .mk op _ _ _ _ => op
section
variable {β : Type} (a b c : FV) (l : List FV) (cs : List FV) (o : Nat) (v : PV) (k : IV → Option β)
end
end Idl
end Go.Proofs.Ytbkdidonegggdaa
namespace Go.Proofs.Ytbkdidonegggdaa
namespace Idl
theorem kp_bind (ih : Handler) (xs : List IV) (h0 : Hp) (k : IV → Hp → List Ref → List Ref → Option (IV × Hp)) : dynS EE ih (.fv (.func (.func 88) [] [])) xs h0 k = isoS [] false false ih 88 xs h0 k :=
  keep0 (by kernel_rfl) (by kernel_rfl) (by kernel_rfl) (by kernel_rfl) ..
theorem opbind_ok {n : Nat} (hn : 0 < n) (op : Int) (i : Nat) : Ans (SS dt n 88 [iv op, iv i] ⟨[], []⟩) (.int .i64 (bindN op i)) := by
  obtain ⟨n, rfl⟩ : ∃ k, n = k + 1 := ⟨n - 1, by omega⟩
  rw [c88]
  unfold bindN
  by_cases h : op = 3 ∨ op = 4 ∨ op = 6 ∨ op = 20 ∨ op = 28 ∨ op = 29
  · rw [if_pos h]
    by_cases hi : i = 1
    · subst hi
      rcases h with rfl | rfl | rfl | rfl | rfl | rfl <;> (simp only [↓UU21, ↓XX, XY, ↓reduceIte, Nat.reduceBEq, Nat.reduceAdd, Int.cast_ofNat_Int, Int.reduceEq, Int.reduceLT, Int.reduceLE]; exact ans_fv _ _)
    · have hi' : ¬ (i : Int) = 1 := by omega
      rcases h with rfl | rfl | rfl | rfl | rfl | rfl <;> (simp only [↓UU21, ↓XX, XY, ↓reduceIte, Nat.reduceBEq, Nat.reduceAdd, Int.cast_ofNat_Int, Int.reduceEq, Int.reduceLT, Int.reduceLE, hi', hi]; exact ans_fv _ _)
  · rw [if_neg h]
    have h3 : ¬ op = 3 := fun e => h (by simp [e])
    have h4 : ¬ op = 4 := fun e => h (by simp [e])
    have h6 : ¬ op = 6 := fun e => h (by simp [e])
    have h20 : ¬ op = 20 := fun e => h (by simp [e])
    have h28 : ¬ op = 28 := fun e => h (by simp [e])
    have h29 : ¬ op = 29 := fun e => h (by simp [e])
    by_cases h13 : op = 13
    · subst h13
      by_cases h0 : i = 0
      · subst h0; simp only [↓UU21, ↓XX, XY, ↓reduceIte, Nat.reduceBEq, Nat.reduceAdd, Int.cast_ofNat_Int, Int.reduceEq, Int.reduceLT, Int.reduceLE]; exact ans_fv _ _
      · have h0' : ¬ (i : Int) = 0 := by omega
        by_cases h2 : i = 2
        · subst h2; simp only [↓UU21, ↓XX, XY, ↓reduceIte, Nat.reduceBEq, Nat.reduceAdd, Int.cast_ofNat_Int, Int.reduceEq, Int.reduceLT, Int.reduceLE]; exact ans_fv _ _
        · have h2' : ¬ (i : Int) = 2 := by omega
          simp only [↓UU21, ↓XX, XY, ↓reduceIte, Nat.reduceBEq, Nat.reduceAdd, Int.cast_ofNat_Int, Int.reduceEq, Int.reduceLT, Int.reduceLE, h0, h0', h2, h2']; exact ans_fv _ _
    · simp only [↓UU21, ↓XX, XY, ↓reduceIte, Nat.reduceBEq, Nat.reduceAdd, Int.cast_ofNat_Int, Int.reduceEq, Int.reduceLT, Int.reduceLE, h3, h4, h6, h20, h28, h29, h13]; exact ans_fv _ _
theorem pbind_ok {n : Nat} (hn : 1 < n) (op : Int) (i : Nat) : Ans (SS dt n 79 [iv op, iv i] ⟨[], []⟩) (.int .i64 (bindN op i)) := by
  obtain ⟨n, rfl⟩ : ∃ k, n = k + 1 := ⟨n - 1, by omega⟩
  rw [c79]
  have h := opbind_ok (n := n) (by omega) op i
  simp only [S79, ↓XX, XY, ↓reduceIte, Nat.reduceBEq, Nat.reduceAdd, Int.cast_ofNat_Int, Int.reduceEq, Int.reduceLT, Int.reduceLE, ↓kp_bind, ↓iso_2 h]
  exact ans_fv _ _
def nils (n : Nat) : List PV := List.replicate n .nil
def knum (op : Int) : Int := if op = 8 ∨ op = 9 ∨ op = 12 ∨ op = 19 ∨ op = 30 then 1 else if op = 4 ∨ op = 5 then 2 else if op = 7 then 3 else if op = 13 then 4 else -1
theorem kids_ok {n : Nat} (hn : 0 < n) (op : Int) : Ans (SS dt n 71 [iv op] ⟨[], []⟩) (.int .i64 (knum op)) := by
  obtain ⟨n, rfl⟩ : ∃ k, n = k + 1 := ⟨n - 1, by omega⟩
  rw [c71]
  unfold knum
  by_cases h : op = 8 ∨ op = 9 ∨ op = 12 ∨ op = 19 ∨ op = 30
  · rw [if_pos h]
    rcases h with rfl | rfl | rfl | rfl | rfl <;> (simp only [↓UU19, ↓XX, XY, ↓reduceIte, Nat.reduceBEq, Nat.reduceAdd, Int.cast_ofNat_Int, Int.reduceEq, Int.reduceLT, Int.reduceLE]; exact ans_fv _ _)
  · rw [if_neg h]
    have h8 : ¬ op = 8 := fun e => h (by simp [e])
    have h9 : ¬ op = 9 := fun e => h (by simp [e])
    have h12 : ¬ op = 12 := fun e => h (by simp [e])
    have h19 : ¬ op = 19 := fun e => h (by simp [e])
    have h30 : ¬ op = 30 := fun e => h (by simp [e])
    by_cases h2 : op = 4 ∨ op = 5
    · rw [if_pos h2]
      rcases h2 with rfl | rfl <;> (simp only [↓UU19, ↓XX, XY, ↓reduceIte, Nat.reduceBEq, Nat.reduceAdd, Int.cast_ofNat_Int, Int.reduceEq, Int.reduceLT, Int.reduceLE]; exact ans_fv _ _)
    · rw [if_neg h2]
      have h4 : ¬ op = 4 := fun e => h2 (by simp [e])
      have h5 : ¬ op = 5 := fun e => h2 (by simp [e])
      by_cases h7 : op = 7
      · subst h7; simp only [↓UU19, ↓XX, XY, ↓reduceIte, Nat.reduceBEq, Nat.reduceAdd, Int.cast_ofNat_Int, Int.reduceEq, Int.reduceLT, Int.reduceLE]; exact ans_fv _ _
      · by_cases h13 : op = 13
        · subst h13; simp only [↓UU19, ↓XX, XY, ↓reduceIte, Nat.reduceBEq, Nat.reduceAdd, Int.cast_ofNat_Int, Int.reduceEq, Int.reduceLT, Int.reduceLE]; exact ans_fv _ _
        · simp only [↓UU19, ↓XX, XY, ↓reduceIte, Nat.reduceBEq, Nat.reduceAdd, Int.cast_ofNat_Int, Int.reduceEq, Int.reduceLT, Int.reduceLE, h4, h5, h7, h8, h9, h12, h13, h19, h30]; exact ans_fv _ _
mutual
def Tm.shaped : Tm → Bool
  | .mk op n ks => !(decide (0 ≤ knum op ∧ knum op ≠ ks.length) || decide (op = 1 ∧ n < 0)) && Tm.shapedL ks
def Tm.shapedL : List Tm → Bool
  | [] => true
  | t :: l => t.shaped && Tm.shapedL l
end
set_option maxHeartbeats 1000000 in
theorem shaped_ok : ∀ (n : Nat) (t : Tm), t.wt + 1 < n → t.wt ≤ 1152921504606846976 → Ans (SS dt n 50 [.fv t.enc] ⟨[], []⟩) (.bool t.shaped) := by
  intro n
  induction n with
  | zero => intro t h; omega
  | succ n ih =>
    intro t h hw
    obtain ⟨op, m, ks⟩ := t
    simp only [Tm.wt] at h hw
    rw [c50, enc_mk]
    have hlen := wt_len ks
    have hk := kids_ok (n := n) (by omega) op
    rw [Tm.shaped]
    have wl : ∀ j : Nat, j ≤ ks.length → w64 (j : Int) = j := fun j hj => w64_id (by omega) (by omega)
    have loop : Ans (loopS n (fun q99 l100 h101 => S50_132 l100 h101 (SS dt n) ⟨[], []⟩ q99) [.fv (.sl (ks.map Tm.enc)), iv ks.length, iv 0] ⟨[(52428800, .row [iv op, iv m, .fv (.sl (ks.map Tm.enc))] false)], []⟩) (.bool (Tm.shapedL ks)) := by
      refine loop_run (Q := fun r => Ans r _) (fun k V H => ∃ pre rest, ks = pre ++ rest ∧ rest.length = k ∧ V = [.fv (.sl (ks.map Tm.enc)), iv ks.length, iv pre.length] ∧ H = ⟨[(52428800, .row [iv op, iv m, .fv (.sl (ks.map Tm.enc))] false)], []⟩ ∧ Tm.shapedL rest = Tm.shapedL ks)
        ?_ n ks.length _ _ (by omega) ⟨[], ks, rfl, rfl, rfl, rfl, rfl⟩
      rintro k V H rec ⟨pre, rest, hk, hl, rfl, rfl, ht⟩ hrec
      have hkl : ks.length = pre.length + rest.length := by rw [hk]; simp
      cases rest with
      | nil =>
        have hno : ¬ ((pre.length : Int) < ks.length) := by rw [hkl]; simp
        rw [← ht]
        simp only [S50_129, S50_130, S50_131, S50_132, S50_133, S50_134, S50_135, S50_136, S50, ↓XX, XY, ↓reduceIte, Nat.reduceBEq, Nat.reduceAdd, Int.cast_ofNat_Int, Int.reduceEq, Int.reduceLT, Int.reduceLE, hno, Tm.shapedL]
        exact ans_fv _ _
      | cons t rest =>
        have hi : (pre.length : Int) < ks.length := by rw [hkl]; simp; omega
        have hg := at_pre hk
        have htw := wt_mem (t := t) (l := ks) (by rw [hk]; simp)
        have hs := ih t (by omega) (by omega)
        have hwi : w64 ((pre.length : Int) + 1) = ((pre ++ [t]).length : Int) := (w64_id (by omega) (by omega)).trans (by simp)
        simp only [Tm.shapedL] at ht
        generalize t.shaped = v at hs ht
        obtain ⟨o, p, l⟩ := t
        simp only [List.length_cons] at hl
        rw [enc_mk] at hs
        cases v
        · rw [← ht]
          simp only [S50_129, S50_130, S50_131, S50_132, S50_133, S50_134, S50_135, S50_136, S50, ↓XX, XY, ↓reduceIte, Nat.reduceBEq, Nat.reduceAdd, Int.cast_ofNat_Int, Int.reduceEq, Int.reduceLT, Int.reduceLE, hi, ↓ix_f (map_get hg) (agg3l _ _ _), ↓agg3, hwi, ↓iso_1 hs, Bool.false_and]
          exact ans_fv _ _
        · simp only [S50_129, S50_130, S50_131, S50_132, S50_133, S50_134, S50_135, S50_136, S50, ↓XX, XY, ↓reduceIte, Nat.reduceBEq, Nat.reduceAdd, Int.cast_ofNat_Int, Int.reduceEq, Int.reduceLT, Int.reduceLE, hi, ↓ix_f (map_get hg) (agg3l _ _ _), ↓agg3, hwi, ↓iso_1 hs, ↓drop_e, XD, heldB, flatD, XE]
          refine hrec rest.length _ _ (by omega) ?_
          exact ⟨pre ++ [.mk o p l], rest, by rw [hk]; simp, rfl, rfl, rfl, by simpa using ht⟩
    by_cases h0 : 0 ≤ knum op
    · by_cases h1 : knum op = ks.length
      · by_cases h2 : op = 1
        · exfalso; subst h2; revert h0; decide
        · have e1 : (!(decide (0 ≤ knum op ∧ knum op ≠ ks.length) || decide (op = 1 ∧ m < 0)) && Tm.shapedL ks) = Tm.shapedL ks := by simp [h1, h2]
          rw [e1]
          have h0' : (0 : Int) ≤ ks.length := by omega
          rw [h1] at hk
          simp only [↓UU20, ↓XX, XY, ↓reduceIte, Nat.reduceBEq, Nat.reduceAdd, Int.cast_ofNat_Int, Int.reduceEq, Int.reduceLT, Int.reduceLE, ↓iso_1 hk, h0', h2, ↓drop_e, XD, heldB, flatD, XE]
          exact loop
      · have e1 : (!(decide (0 ≤ knum op ∧ knum op ≠ ks.length) || decide (op = 1 ∧ m < 0)) && Tm.shapedL ks) = false := by simp [h0, h1]
        rw [e1]
        simp only [↓UU20, ↓XX, XY, ↓reduceIte, Nat.reduceBEq, Nat.reduceAdd, Int.cast_ofNat_Int, Int.reduceEq, Int.reduceLT, Int.reduceLE, ↓iso_1 hk, h0, h1]
        exact ans_fv _ _
    · by_cases h2 : op = 1
      · subst h2
        by_cases h3 : m < 0
        · have e1 : (!(decide (0 ≤ knum 1 ∧ knum 1 ≠ ks.length) || decide ((1 : Int) = 1 ∧ m < 0)) && Tm.shapedL ks) = false := by simp [h3]
          rw [e1]
          simp only [↓UU20, ↓XX, XY, ↓reduceIte, Nat.reduceBEq, Nat.reduceAdd, Int.cast_ofNat_Int, Int.reduceEq, Int.reduceLT, Int.reduceLE, ↓iso_1 hk, h0, h3]
          exact ans_fv _ _
        · have e1 : (!(decide (0 ≤ knum 1 ∧ knum 1 ≠ ks.length) || decide ((1 : Int) = 1 ∧ m < 0)) && Tm.shapedL ks) = Tm.shapedL ks := by simp [h0, h3]
          rw [e1]
          simp only [↓UU20, ↓XX, XY, ↓reduceIte, Nat.reduceBEq, Nat.reduceAdd, Int.cast_ofNat_Int, Int.reduceEq, Int.reduceLT, Int.reduceLE, ↓iso_1 hk, h0, h3, ↓drop_e, XD, heldB, flatD, XE]
          exact loop
      · have e1 : (!(decide (0 ≤ knum op ∧ knum op ≠ ks.length) || decide (op = 1 ∧ m < 0)) && Tm.shapedL ks) = Tm.shapedL ks := by simp [h0, h2]
        rw [e1]
        simp only [↓UU20, ↓XX, XY, ↓reduceIte, Nat.reduceBEq, Nat.reduceAdd, Int.cast_ofNat_Int, Int.reduceEq, Int.reduceLT, Int.reduceLE, ↓iso_1 hk, h0, h2, ↓drop_e, XD, heldB, flatD, XE]
        exact loop
section
variable {ih : Handler} {f : FuncId} {w : FV} {a b : Blk} {s u r e s' u' r' e' : Int} (k : IV → Hp → List Ref → List Ref → Option (IV × Hp))
end
end Idl
end Go.Proofs.Ytbkdidonegggdaa
namespace Go.Proofs.Ytbkdidonegggdaa
namespace Idl
theorem moved_ok {n : Nat} (hn : 0 < n) (o m : Int) (ks : List Tm) (d : Int) (h1 : -4611686018427387904 ≤ m + d) (h2 : m + d ≤ 4611686018427387904) : Ans (SS dt n 97 [.fv (Tm.mk o m ks).enc, iv d] ⟨[], []⟩) (Tm.mk 1 (m + d) []).enc := by
  obtain ⟨n, rfl⟩ : ∃ k, n = k + 1 := ⟨n - 1, by omega⟩
  rw [c97, enc_mk, enc_mk]
  have hw : w64 (m + d) = m + d := by rw [w64_id] <;> omega
  simp only [S97_20, S97, ↓XX, XY, ↓reduceIte, Nat.reduceBEq, Nat.reduceAdd, Int.cast_ofNat_Int, Int.reduceEq, Int.reduceLT, Int.reduceLE, hw]
  exact ans_p rfl _
theorem iso_gf {ks : List Bool} {ih : Handler} {f : FuncId} {args : List IV} {vs : List FV} {w : FV} {u : List (Ref × Blk)} {lg : List Ref} {own own' : List (Nat × Blk)}
    (hz : ∀ (e : Option (IV × Hp)) (k : List IV → List Ref → List (Ref × Blk) → List Ref → Option (IV × Hp)), fzA args ks ⟨own, []⟩ [] e k = k (vs.map .fv) [] u lg)
    (hr : AnsF (ih f (vs.map .fv) ⟨[], []⟩) w) (hlay : ∀ k : Hp → Option (IV × Hp), layU u ⟨own, []⟩ k = k ⟨own', []⟩) (k : IV → Hp → List Ref → List Ref → Option (IV × Hp)) :
    isoS ks false false ih f args ⟨own, []⟩ k = k (.fv w) ⟨own', []⟩ lg (keys u) := by
  rw [iso_e, hz, iso_c hr, hlay]
theorem keepc {g : FuncId} (h : EE.pol.inl g = false) (h1 : EE.pol.keep g = []) (h2 : EE.pol.split g = false) (h3 : EE.pol.raw g = false) (caps : List FV) (ih : Handler) (xs : List IV) (h0 : Hp) (k : IV → Hp → List Ref → List Ref → Option (IV × Hp)) :
    dynS EE ih (.fv (.func (.func g) [] caps)) xs h0 k = isoS [] false false ih g (xs ++ caps.map .fv) h0 k := by
  unfold dynS
  simp only [callee, h, cond_false, sp_e, h1, h2, h3, List.map_nil, List.nil_append]
theorem po_hit (s : Nat) (b c : Blk) (l : List (Nat × Blk)) : putOwn s b ((s, c) :: l) = (s, b) :: l := by simp only [putOwn, if_true]
theorem po_miss {s j : Nat} (h : (s == j) = false) (b c : Blk) (l : List (Nat × Blk)) : putOwn s b ((j, c) :: l) = (j, c) :: putOwn s b l := by
  have : ¬ s = j := by simpa using h
  simp only [putOwn, if_neg this]
theorem mkf_c (fn : Fn) (r r' : Ref) (o o' : Nat) : mkFunc fn [] [.ptr r o, .ptr r' o'] = .func fn [] [.ptr r o, .ptr r' o'] := rfl
theorem mkf_c1 (fn : Fn) (r : Ref) (o : Nat) : mkFunc fn [] [.ptr r o] = .func fn [] [.ptr r o] := rfl
theorem fz_pt {d s : Nat} {cs : List FV} {ro : Bool} {own : List (Nat × Blk)} {ext : List Blk} (hl : lookupOwn s own = some (.row (cs.map .fv) ro)) (hn : cs.length ≤ 300) (lg : List Ref) (e : Option (IV × Hp)) (k : FV → List (Ref × Blk) → List Ref → Option (IV × Hp)) :
    fzU (d + 2) (.ptr (.own s) 0) ⟨own, ext⟩ lg e k = k (.fp cs 0) [(.own s, .row (cs.map .fv) true)] (.own s :: lg) := by
  show (getK (.own s) ⟨own, ext⟩ fun b => asRow b fun cells => cond (Nat.ble cells.length 300) (fzLK (fzU (d + 1)) cells ⟨own, ext⟩ (.own s :: lg) e fun cs u lg => k (.fp cs 0) ((.own s, .row cells true) :: u) lg) e) = _
  rw [g_own, ownK_eq, hl]
  simp only [Option.bind_some, as_row, List.length_map]
  rw [ble_dec, decide_eq_true hn, c_t, fzl_fv]
theorem fz_fn2 {s1 s2 : Nat} {c1 c2 : List FV} {r1 r2 : Bool} {fn : Fn} {own : List (Nat × Blk)} {ext : List Blk} (h1 : lookupOwn s1 own = some (.row (c1.map .fv) r1)) (h2 : lookupOwn s2 own = some (.row (c2.map .fv) r2)) (n1 : c1.length ≤ 300) (n2 : c2.length ≤ 300)
    (lg : List Ref) (e : Option (IV × Hp)) (k : FV → List (Ref × Blk) → List Ref → Option (IV × Hp)) :
    fzU 12 (.func fn [] [.ptr (.own s1) 0, .ptr (.own s2) 0]) ⟨own, ext⟩ lg e k = k (.func fn [] [.fp c1 0, .fp c2 0]) [(.own s1, .row (c1.map .fv) true), (.own s2, .row (c2.map .fv) true)] (.own s2 :: .own s1 :: lg) := by
  show (fzLK (fzU 11) [] ⟨own, ext⟩ lg e fun x u lg => fzLK (fzU 11) [.ptr (.own s1) 0, .ptr (.own s2) 0] ⟨own, ext⟩ lg e fun y v lg => apK u v fun w => k (.func fn x y) w lg) = _
  rw [fl0, fl1, fz_pt (d := 9) h1 n1, fl1, fz_pt (d := 9) h2 n2, fl0]
  rfl
theorem fz_fn1 {s1 : Nat} {c1 : List FV} {r1 : Bool} {fn : Fn} {own : List (Nat × Blk)} {ext : List Blk} (h1 : lookupOwn s1 own = some (.row (c1.map .fv) r1)) (n1 : c1.length ≤ 300)
    (lg : List Ref) (e : Option (IV × Hp)) (k : FV → List (Ref × Blk) → List Ref → Option (IV × Hp)) :
    fzU 12 (.func fn [] [.ptr (.own s1) 0]) ⟨own, ext⟩ lg e k = k (.func fn [] [.fp c1 0]) [(.own s1, .row (c1.map .fv) true)] (.own s1 :: lg) := by
  show (fzLK (fzU 11) [] ⟨own, ext⟩ lg e fun x u lg => fzLK (fzU 11) [.ptr (.own s1) 0] ⟨own, ext⟩ lg e fun y v lg => apK u v fun w => k (.func fn x y) w lg) = _
  rw [fl0, fl1, fz_pt (d := 9) h1 n1, fl0]
  rfl
theorem iso_fn2 {ih : Handler} {f : FuncId} {x y w : FV} {a b : IV} {fn : Fn} {s1 s2 : Nat} {c1 c2 : List FV} {r1 r2 : Bool} {own own' : List (Nat × Blk)} (hr : AnsF (ih f [.fv x, .fv y, .fv (.func fn [] [.fp c1 0, .fp c2 0])] ⟨[], []⟩) w) (ha : frzP a = some x) (hb : frzP b = some y)
    (h1 : lookupOwn s1 own = some (.row (c1.map .fv) r1)) (h2 : lookupOwn s2 own = some (.row (c2.map .fv) r2)) (h2' : lookupOwn s2 (putOwn s1 (.row (c1.map .fv) true) own) = some (.row (c2.map .fv) r2)) (n1 : c1.length ≤ 300) (n2 : c2.length ≤ 300)
    (ho : putOwn s2 (.row (c2.map .fv) true) (putOwn s1 (.row (c1.map .fv) true) own) = own') (k : IV → Hp → List Ref → List Ref → Option (IV × Hp)) :
    isoS [] false false ih f [a, b, .func fn [] [.ptr (.own s1) 0, .ptr (.own s2) 0]] ⟨own, []⟩ k = k (.fv w) ⟨own', []⟩ [.own s2, .own s1] [.own s1, .own s2] := by
  subst ho
  refine iso_gf (vs := [x, y, .func fn [] [.fp c1 0, .fp c2 0]]) (u := [(.own s1, .row (c1.map .fv) true), (.own s2, .row (c2.map .fv) true)]) (lg := [.own s2, .own s1]) ?_ hr ?_ k
  · intro e k
    rw [fz1, fzp_u _ _ e _ ha, fz1, fzp_u _ _ e _ hb, fz1, fz_fn2 h1 h2 n1 n2, fz0]
    rfl
  · intro k
    show (ownK own s1 fun _ => putOwnK own s1 (.row (c1.map .fv) true) fun own => ownK own s2 fun _ => putOwnK own s2 (.row (c2.map .fv) true) fun own => k ⟨own, _⟩) = _
    rw [ownK_eq, h1, Option.bind_some, putOwnK_eq, ownK_eq, h2', Option.bind_some, putOwnK_eq]
theorem iso_fn1 {ih : Handler} {f : FuncId} {x y w : FV} {a b : IV} {fn : Fn} {s1 : Nat} {c1 : List FV} {r1 : Bool} {own own' : List (Nat × Blk)} (hr : AnsF (ih f [.fv x, .fv y, .fv (.func fn [] [.fp c1 0])] ⟨[], []⟩) w) (ha : frzP a = some x) (hb : frzP b = some y)
    (h1 : lookupOwn s1 own = some (.row (c1.map .fv) r1)) (n1 : c1.length ≤ 300) (ho : putOwn s1 (.row (c1.map .fv) true) own = own') (k : IV → Hp → List Ref → List Ref → Option (IV × Hp)) :
    isoS [] false false ih f [a, b, .func fn [] [.ptr (.own s1) 0]] ⟨own, []⟩ k = k (.fv w) ⟨own', []⟩ [.own s1] [.own s1] := by
  subst ho
  refine iso_gf (vs := [x, y, .func fn [] [.fp c1 0]]) (u := [(.own s1, .row (c1.map .fv) true)]) (lg := [.own s1]) ?_ hr ?_ k
  · intro e k
    rw [fz1, fzp_u _ _ e _ ha, fz1, fzp_u _ _ e _ hb, fz1, fz_fn1 h1 n1, fz0]
    rfl
  · intro k
    show (ownK own s1 fun _ => putOwnK own s1 (.row (c1.map .fv) true) fun own => k ⟨own, _⟩) = _
    rw [ownK_eq, h1, Option.bind_some, putOwnK_eq]
mutual
def Tm.each (g : Tm → Int → Tm) : Tm → Int → Tm
  | .mk op m ks, a => if op = 1 then g (.mk op m ks) a else .mk op m (Tm.eachL g op 0 ks a)
def Tm.eachL (g : Tm → Int → Tm) : Int → Nat → List Tm → Int → List Tm
  | _, _, [], _ => []
  | op, i, t :: l, a => t.each g (a + bindN op i) :: Tm.eachL g op (i + 1) l a
end
noncomputable abbrev Heach (op m : Int) (ks done : List Tm) (r : Nat) : Hp :=
  ⟨[(99614720, .row [iv op, iv m, .fv (.sl (ks.map Tm.enc))] false), (99614721, .row [iv 0, iv 0, .nils] false), (99617795, .row (cellsT done r) false)], []⟩
set_option maxRecDepth 20000 in
set_option maxHeartbeats 1000000 in
theorem each_ok {F : FuncId} {caps : List FV} {g : Tm → Int → Tm} {c : Nat} (hd : ∀ (ih : Handler) (xs : List IV) (h0 : Hp) (k : IV → Hp → List Ref → List Ref → Option (IV × Hp)), dynS EE ih (.fv (.func (.func F) [] caps)) xs h0 k = isoS [] false false ih F (xs ++ caps.map .fv) h0 k)
    (P : Tm → Int → Prop) (hP : ∀ op m ks a i t, P (.mk op m ks) a → ks[i]? = some t → op ≠ 1 → P t (a + bindN op i))
    (hg : ∀ n, c < n → ∀ m ks a, P (.mk 1 m ks) a → Ans (SS dt n F (.fv (Tm.mk 1 m ks).enc :: iv a :: caps.map .fv) ⟨[], []⟩) (g (.mk 1 m ks) a).enc) :
    ∀ (n : Nat) (t : Tm) (a : Int), t.wt + c + 3 < n → t.wk → 0 ≤ a → a + 2 * t.wt ≤ 1000000000 → P t a → AnsF (SS dt n 95 [.fv t.enc, iv a, .fv (.func (.func F) [] caps)] ⟨[], []⟩) (t.each g a).enc := by
  intro n
  induction n with
  | zero => intro t a h; omega
  | succ n ih =>
    intro t a hn hk ha ha2 hPt
    obtain ⟨op, m, ks⟩ := t
    simp only [Tm.wt] at hn ha2
    rw [c95]
    have hlen := wt_len ks
    rw [Tm.wk] at hk
    by_cases h1 : op = 1
    · subst h1
      rw [Tm.each, if_pos rfl]
      have hc := hg n (by omega) m ks a hPt
      generalize g (.mk 1 m ks) a = u at hc
      obtain ⟨o, p, l⟩ := u
      rw [enc_mk] at hc ⊢
      rw [enc_mk] at hc ⊢
      have hi : ∀ (own : List (Nat × Blk)) (k : IV → Hp → List Ref → List Ref → Option (IV × Hp)), isoS [] false false (SS dt n) F ([.fv (.agg [.int .i64 1, .int .i64 m, .sl (ks.map Tm.enc)]), iv a] ++ caps.map .fv) ⟨own, []⟩ k = k (.fv (.agg [.int .i64 o, .int .i64 p, .sl (l.map Tm.enc)])) ⟨own, []⟩ [] [] := by
        intro own k
        refine iso_p (vs := .agg [.int .i64 1, .int .i64 m, .sl (ks.map Tm.enc)] :: .int .i64 a :: caps) ?_ hc ⟨own, []⟩ k
        have hcaps : ∀ l : List FV, frzPL (l.map .fv) = some l := by
          intro l
          induction l with
          | nil => rfl
          | cons x l ih => simp [frzPL, ih, frzP, frz1]
        simp [frzPL, hcaps, frzP, frz1, iv]
      simp only [S95_100, S95_101, S95_102, S95_103, S95_104, S95_105, S95_106, S95_107, S95_109, S95_110, S95, ↓XX, XY, ↓reduceIte, Nat.reduceBEq, Nat.reduceAdd, Int.cast_ofNat_Int, Int.reduceEq, Int.reduceLT, Int.reduceLE, ↓hd, ↓hi]
      exact ansf_fv _ _
    · rw [Tm.each, if_neg h1, enc_mk, enc_mk]
      simp only [S95_100, S95_101, S95_102, S95_103, S95_104, S95_105, S95_106, S95_107, S95_109, S95_110, S95, ↓XX, XY, ↓reduceIte, Nat.reduceBEq, Nat.reduceAdd, Int.cast_ofNat_Int, Int.reduceEq, Int.reduceLT, Int.reduceLE, h1, ↓mk_t (show ks.length ≤ 1000 by omega), ↓drop_e, XD, heldB, flatD, XE, flat_t, names_t]
      refine loop_run (Q := fun r => AnsF r _) (fun k V H => ∃ (pre rest done : List Tm), ks = pre ++ rest ∧ rest.length = k ∧ done.length = pre.length ∧
          V = [iv a, .fv (.func (.func F) [] caps), .ptr (.own 99614720) 0, .ptr (.own 99614721) 0, .slc (.own 99617795) 3 ks.length, .fv (.sl (ks.map Tm.enc)), iv ks.length, iv pre.length] ∧
          H = Heach op m ks done rest.length ∧ done ++ Tm.eachL g op pre.length rest a = Tm.eachL g op 0 ks a)
        ?_ n ks.length _ _ (by omega) ⟨[], ks, [], rfl, rfl, rfl, rfl, rfl, rfl⟩
      rintro k V H rec ⟨pre, rest, done, hks, hl, hdl, rfl, rfl, hts⟩ hrec
      have hkl : ks.length = pre.length + rest.length := by rw [hks]; simp
      cases rest with
      | nil =>
        have hno : ¬ ((pre.length : Int) < ks.length) := by rw [hkl]; simp
        rw [Tm.eachL, List.append_nil] at hts
        rw [← hts]
        simp only [S95_100, S95_101, S95_102, S95_103, S95_104, S95_105, S95_106, S95_107, S95_108, S95_109, S95_110, S95, ↓XX, XY, ↓reduceIte, Nat.reduceBEq, Nat.reduceAdd, Int.cast_ofNat_Int, Int.reduceEq, Int.reduceLT, Int.reduceLE, hno]
        rw [show ks.length = done.length by rw [hdl, hkl]; simp]
        exact ⟨_, _, rfl, _, _, fun e0 K => fz_tm (by rfl) (by simp only [List.length_nil] at hkl; omega) [] e0 K⟩
      | cons x rest =>
        have hi : (pre.length : Int) < ks.length := by rw [hkl]; simp; omega
        have hg2 := at_pre hks
        have hxw := wt_mem (t := x) (l := ks) (by rw [hks]; simp)
        have hb := pbind_ok (n := n) (by omega) op pre.length
        have hble := bindN_le op pre.length
        have hs := ih x (a + bindN op pre.length) (by omega) (wk_mem hk.2 (by rw [hks]; simp)) (by omega) (by omega) (hP _ _ _ _ _ _ hPt hg2 h1)
        have hwa : w64 (a + bindN op pre.length) = a + bindN op pre.length := by rw [w64_id] <;> omega
        have hwi : w64 ((pre.length : Int) + 1) = ((pre ++ [x]).length : Int) := (w64_id (by omega) (by omega)).trans (by simp)
        have hin : pre.length < ks.length := by omega
        rw [Tm.eachL] at hts
        generalize x.each g (a + bindN op pre.length) = y at hs hts
        have hst := fun {β : Type} => set_t (β := β) done rest.length y.op y.n y.kids
        rw [hdl] at hst
        obtain ⟨o, p, l⟩ := x
        obtain ⟨o2, p2, l2⟩ := y
        simp only [Tm.op, Tm.n, Tm.kids] at hst
        rw [enc_mk, enc_mk] at hs
        simp only [List.length_cons] at hl
        simp only [S95_100, S95_101, S95_102, S95_103, S95_104, S95_105, S95_106, S95_107, S95_108, S95_109, S95_110, S95, ↓XX, XY, ↓reduceIte, Nat.reduceBEq, Nat.reduceAdd, Int.cast_ofNat_Int, Int.reduceEq, Int.reduceLT, Int.reduceLE, hi, ↓ix_f (map_get hg2) (agg3l _ _ _), ↓agg3, ↓iso_2 hb, hwa, hwi, ↓iso_3 (ansf hs), ↓ix_sl3 hin, ↓hst, ↓drop_e, XD, heldB, flatD, XE, flat_t, names_t]
        exact hrec rest.length _ _ (by omega) ⟨pre ++ [.mk o p l], rest, done ++ [.mk o2 p2 l2], by rw [hks]; simp, rfl, by simp [hdl], rfl, rfl, by rw [← hts]; simp⟩
def gShift (d c : Int) : Tm → Int → Tm
  | .mk _ m _, a => .mk 1 (if c ≤ m - a then m + d else m) []
def scP (K : Nat) (t : Tm) (a : Int) : Prop := 0 ≤ a ∧ ∃ k : Nat, t.sc k ∧ (k : Int) ≤ K + a
theorem scP_kid {K : Nat} (op m : Int) (ks : List Tm) (a : Int) (i : Nat) (t : Tm) (h : scP K (.mk op m ks) a) (hg : ks[i]? = some t) (_ : op ≠ 1) : scP K t (a + bindN op i) := by
  obtain ⟨h0, k, hk, hl⟩ := h
  rw [Tm.sc] at hk
  have := sc_get hk.2.2 hg
  rw [Nat.zero_add] at this
  exact ⟨by omega, _, this, by omega⟩
theorem scP_var {K : Nat} {m a : Int} {ks : List Tm} (h : scP K (.mk 1 m ks) a) : ks = [] ∧ 0 ≤ m ∧ m < K + a ∧ 0 ≤ a := by
  obtain ⟨h0, k, hk, hl⟩ := h
  rw [Tm.sc, if_pos rfl] at hk
  have h1 : ar 1 = some 0 := by decide
  rw [h1] at hk
  have h2 : ks.length = 0 := by have := hk.1; simp only [Option.some.injEq] at this; omega
  exact ⟨List.length_eq_zero_iff.1 h2, hk.2.1.1, by omega, h0⟩
theorem kp_shift (caps : List FV) (ih : Handler) (xs : List IV) (h0 : Hp) (k : IV → Hp → List Ref → List Ref → Option (IV × Hp)) : dynS EE ih (.fv (.func (.func 100) [] caps)) xs h0 k = isoS [] false false ih 100 (xs ++ caps.map .fv) h0 k :=
  keepc (by kernel_rfl) (by kernel_rfl) (by kernel_rfl) (by kernel_rfl) caps ..
theorem shift1_ok {n : Nat} (hn : 1 < n) (d c m a : Int) (ks : List Tm) (hm1 : 0 ≤ m) (hm2 : m ≤ 100000000000) (ha : 0 ≤ a) (ha2 : a ≤ 100000000000) (hd1 : -100000000000 ≤ d) (hd2 : d ≤ 100000000000) :
    Ans (SS dt n 100 [.fv (Tm.mk 1 m ks).enc, iv a, .fv (.fp [.int .i64 c] 0), .fv (.fp [.int .i64 d] 0)] ⟨[], []⟩) (gShift d c (.mk 1 m ks) a).enc := by
  obtain ⟨n, rfl⟩ : ∃ k, n = k + 1 := ⟨n - 1, by omega⟩
  rw [c100]
  have hw : w64 (m - a) = m - a := by rw [w64_id] <;> omega
  have h1 := moved_ok (n := n) (by omega) 1 m ks d (by omega) (by omega)
  have h0 := moved_ok (n := n) (by omega) 1 m ks 0 (by omega) (by omega)
  rw [enc_mk] at h1 h0 ⊢
  rw [gShift]
  by_cases h : c ≤ m - a
  · rw [if_pos h]
    rw [enc_mk] at h1 ⊢
    simp only [S100_42, S100_43, S100_44, S100, ↓XX, XY, ↓reduceIte, Nat.reduceBEq, Nat.reduceAdd, Int.cast_ofNat_Int, Int.reduceEq, Int.reduceLT, Int.reduceLE, hw, h, ↓iso_2 h1]
    exact ans_fv _ _
  · rw [if_neg h]
    rw [Int.add_zero, enc_mk] at h0
    rw [enc_mk]
    simp only [S100_42, S100_43, S100_44, S100, ↓XX, XY, ↓reduceIte, Nat.reduceBEq, Nat.reduceAdd, Int.cast_ofNat_Int, Int.reduceEq, Int.reduceLT, Int.reduceLE, hw, h, ↓iso_2 h0]
    exact ans_fv _ _
theorem pshift_e {n : Nat} {t : Tm} {d c : Int} {K : Nat} (hn : t.wt + 6 < n) (hw : t.wk) (h2 : 2 * t.wt ≤ 1000000000) (hs : t.sc K) (hK : K ≤ 1000000000) (hd1 : -1000000000 ≤ d) (hd2 : d ≤ 1000000000) :
    Ans (SS dt n 98 [.fv t.enc, iv d, iv c] ⟨[], []⟩) (t.each (gShift d c) 0).enc := by
  obtain ⟨n, rfl⟩ : ∃ k, n = k + 1 := ⟨n - 1, by omega⟩
  rw [c98]
  have hc := each_ok (F := 100) (caps := [.fp [.int .i64 c] 0, .fp [.int .i64 d] 0]) (g := gShift d c) (c := 1) (kp_shift _) (fun t a => scP K t a ∧ a ≤ 1000000000 ∧ a + 2 * t.wt ≤ 1000000000)
    (fun op m ks a i t h hg ho => ⟨scP_kid op m ks a i t h.1 hg ho, by
      have hb := bindN_le op i
      have hwm := wt_mem (List.mem_of_getElem? hg)
      have := h.2.2
      simp only [Tm.wt] at this
      omega, by
      have hb := bindN_le op i
      have hwm := wt_mem (List.mem_of_getElem? hg)
      have := h.2.2
      simp only [Tm.wt] at this
      omega⟩)
    (fun n hn m ks a h => by
      obtain ⟨rfl, h1, h2, h3⟩ := scP_var h.1
      exact shift1_ok hn d c m a [] h1 (by omega) h3 (by omega) (by omega) (by omega))
    n t 0 (by omega) hw (by omega) (by omega) ⟨⟨by omega, K, hs, by omega⟩, by omega, by omega⟩
  generalize t.each (gShift d c) 0 = y at hc
  obtain ⟨o2, p2, l2⟩ := y
  obtain ⟨o, p, l⟩ := t
  rw [enc_mk, enc_mk] at hc
  rw [enc_mk, enc_mk]
  simp only [S98_34, S98, ↓XX, XY, ↓reduceIte, Nat.reduceBEq, Nat.reduceAdd, Int.cast_ofNat_Int, Int.reduceEq, Int.reduceLT, Int.reduceLE, ↓gen_val', ↓mkf_c]
  rw [iso_fn2 hc rfl rfl (by rfl) (by rfl) (by rfl) (by simp) (by simp) rfl]
  simp only [↓XX, XY, ↓reduceIte, Nat.reduceBEq, Nat.reduceAdd, Int.cast_ofNat_Int, Int.reduceEq, Int.reduceLT, Int.reduceLE, ↓po_hit, ↓po_miss]
  exact ans_fv _ _
mutual
theorem each_shift (d c : Int) : ∀ (t : Tm) (k : Nat) (a : Int), t.sc k → k + 2 * t.wt ≤ 2000000000 → -1000000000 ≤ d → d ≤ 1000000000 → t.each (gShift d c) a = t.shift d (c + a)
  | .mk op m ks, k, a, h, hk, h1, h2 => by
    rw [Tm.sc] at h
    rw [Tm.wt] at hk
    by_cases ho : op = 1
    · subst ho
      have h3 : ar 1 = some 0 := by decide
      rw [h3, if_pos rfl] at h
      have h4 : ks = [] := List.length_eq_zero_iff.1 (by have := h.1; simp only [Option.some.injEq] at this; omega)
      subst h4
      rw [Tm.each, if_pos rfl, gShift, Tm.shift, Tm.shiftL]
      have hw : w64 (m + d) = m + d := by
        have := h.2.1
        rw [w64_id] <;> omega
      rw [hw]
      by_cases hc : c ≤ m - a
      · rw [if_pos hc, if_pos ⟨rfl, by omega⟩]
      · rw [if_neg hc, if_neg (fun h => hc (by omega))]
    · rw [Tm.each, if_neg ho, Tm.shift, if_neg (fun h => ho h.1)]
      congr 1
      have := eachL_shift d c op 0 ks k a h.2.2 (by omega) h1 h2
      exact this
theorem eachL_shift (d c : Int) : ∀ (op : Int) (i : Nat) (l : List Tm) (k : Nat) (a : Int), Tm.scL op i l k → k + 2 + 2 * Tm.wtL l ≤ 2000000000 → -1000000000 ≤ d → d ≤ 1000000000 → Tm.eachL (gShift d c) op i l a = Tm.shiftL op i l d (c + a)
  | _, _, [], _, _, _, _, _, _ => by rw [Tm.eachL, Tm.shiftL]
  | op, i, t :: l, k, a, h, hk, h1, h2 => by
    rw [Tm.scL] at h
    rw [Tm.eachL, Tm.shiftL]
    have hb := bindN_le op i
    rw [Tm.wtL] at hk
    rw [each_shift d c t (k + bindN op i) (a + bindN op i) h.1 (by omega) h1 h2, eachL_shift d c op (i + 1) l k a h.2 (by omega) h1 h2, Int.add_assoc]
end
def gSubst (n : Int) (u : Tm) : Tm → Int → Tm
  | .mk _ m _, a => if n < m - a then .mk 1 (m + -1) [] else if m - a = n then u.each (gShift a 0) 0 else .mk 1 (m + 0) []
theorem kp_sub (caps : List FV) (ih : Handler) (xs : List IV) (h0 : Hp) (k : IV → Hp → List Ref → List Ref → Option (IV × Hp)) : dynS EE ih (.fv (.func (.func 96) [] caps)) xs h0 k = isoS [] false false ih 96 (xs ++ caps.map .fv) h0 k :=
  keepc (by kernel_rfl) (by kernel_rfl) (by kernel_rfl) (by kernel_rfl) caps ..
theorem sub1_ok {n : Nat} {v : Int} {u : Tm} {K : Nat} (m a : Int) (ks : List Tm) (hn : u.wt + 8 < n) (hw : u.wk) (h2 : 2 * u.wt ≤ 1000000000) (hs : u.sc K) (hK : K ≤ 1000000000) (hm1 : 0 ≤ m) (hm2 : m ≤ 100000000000) (ha : 0 ≤ a) (ha2 : a ≤ 1000000000) :
    Ans (SS dt n 96 [.fv (Tm.mk 1 m ks).enc, iv a, .fv (.fp [.int .i64 v] 0), .fv (.fp [.int .i64 u.op, .int .i64 u.n, .sl (u.kids.map Tm.enc)] 0)] ⟨[], []⟩) (gSubst v u (.mk 1 m ks) a).enc := by
  obtain ⟨n, rfl⟩ : ∃ k, n = k + 1 := ⟨n - 1, by omega⟩
  rw [c96]
  have hw1 : w64 (m - a) = m - a := by rw [w64_id] <;> omega
  have h1 := moved_ok (n := n) (by omega) 1 m ks (-1) (by omega) (by omega)
  have h0 := moved_ok (n := n) (by omega) 1 m ks 0 (by omega) (by omega)
  have hsh := pshift_e (n := n) (d := a) (c := 0) (by omega) hw h2 hs hK (by omega) (by omega)
  rw [enc_mk] at h1 h0 ⊢
  rw [gSubst]
  by_cases h : v < m - a
  · rw [if_pos h]
    rw [enc_mk] at h1 ⊢
    simp only [S96_53, S96_54, S96_55, S96_56, S96_57, S96, ↓XX, XY, ↓reduceIte, Nat.reduceBEq, Nat.reduceAdd, Int.cast_ofNat_Int, Int.reduceEq, Int.reduceLT, Int.reduceLE, hw1, h, ↓iso_2 h1]
    exact ans_fv _ _
  · rw [if_neg h]
    by_cases he : m - a = v
    · have hwv : w64 v = v := by rw [← he]; exact hw1
      rw [if_pos he]
      generalize u.each (gShift a 0) 0 = y at hsh
      obtain ⟨o2, p2, l2⟩ := y
      obtain ⟨o, p, l⟩ := u
      rw [enc_mk, enc_mk] at hsh
      rw [enc_mk]
      simp only [S96_53, S96_54, S96_55, S96_56, S96_57, S96, ↓XX, XY, ↓reduceIte, Nat.reduceBEq, Nat.reduceAdd, Int.cast_ofNat_Int, Int.reduceEq, Int.reduceLT, Int.reduceLE, hw1, hwv, h, he, Tm.op, Tm.n, Tm.kids, ↓iso_3 hsh, Int.lt_irrefl]
      exact ans_fv _ _
    · rw [if_neg he]
      rw [enc_mk] at h0 ⊢
      simp only [S96_53, S96_54, S96_55, S96_56, S96_57, S96, ↓XX, XY, ↓reduceIte, Nat.reduceBEq, Nat.reduceAdd, Int.cast_ofNat_Int, Int.reduceEq, Int.reduceLT, Int.reduceLE, hw1, h, he, ↓iso_2 h0]
      exact ans_fv _ _
theorem psub_e {n : Nat} {t u : Tm} {v : Int} {K : Nat} (hn : t.wt + u.wt + 14 < n) (hw : t.wk) (h2 : 2 * t.wt ≤ 1000000000) (hs : t.sc K) (hwu : u.wk) (hu2 : 2 * u.wt ≤ 1000000000) (hsu : u.sc K) (hK : K ≤ 1000000000) :
    Ans (SS dt n 91 [.fv t.enc, iv v, .fv u.enc] ⟨[], []⟩) (t.each (gSubst v u) 0).enc := by
  obtain ⟨n, rfl⟩ : ∃ k, n = k + 1 := ⟨n - 1, by omega⟩
  rw [c91]
  have hc := each_ok (F := 96) (caps := [.fp [.int .i64 v] 0, .fp [.int .i64 u.op, .int .i64 u.n, .sl (u.kids.map Tm.enc)] 0]) (g := gSubst v u) (c := u.wt + 8) (kp_sub _) (fun t a => scP K t a ∧ a ≤ 1000000000 ∧ a + 2 * t.wt ≤ 1000000000)
    (fun op m ks a i t h hg ho => ⟨scP_kid op m ks a i t h.1 hg ho, by
      have hb := bindN_le op i
      have hwm := wt_mem (List.mem_of_getElem? hg)
      have := h.2.2
      simp only [Tm.wt] at this
      omega, by
      have hb := bindN_le op i
      have hwm := wt_mem (List.mem_of_getElem? hg)
      have := h.2.2
      simp only [Tm.wt] at this
      omega⟩)
    (fun n hn m ks a h => by
      obtain ⟨rfl, h1, h2, h3⟩ := scP_var h.1
      exact sub1_ok m a [] hn hwu hu2 hsu hK h1 (by omega) h3 (by omega))
    n t 0 (by omega) hw (by omega) (by omega) ⟨⟨by omega, K, hs, by omega⟩, by omega, by omega⟩
  generalize t.each (gSubst v u) 0 = y at hc
  obtain ⟨o2, p2, l2⟩ := y
  obtain ⟨o, p, l⟩ := t
  obtain ⟨o3, p3, l3⟩ := u
  rw [enc_mk, enc_mk] at hc
  rw [enc_mk, enc_mk, enc_mk]
  simp only [Tm.op, Tm.n, Tm.kids] at hc
  simp only [S91_34, S91, ↓XX, XY, ↓reduceIte, Nat.reduceBEq, Nat.reduceAdd, Int.cast_ofNat_Int, Int.reduceEq, Int.reduceLT, Int.reduceLE, ↓gen_val', ↓mkf_c]
  rw [iso_fn2 hc rfl rfl (by rfl) (by rfl) (by rfl) (by simp) (by simp) rfl]
  simp only [↓XX, XY, ↓reduceIte, Nat.reduceBEq, Nat.reduceAdd, Int.cast_ofNat_Int, Int.reduceEq, Int.reduceLT, Int.reduceLE, ↓po_hit, ↓po_miss]
  exact ans_fv _ _
mutual
def Tm.some1 (g : Int → Int → Bool) : Tm → Int → Bool
  | .mk op m ks, a => if op = 1 then g m a else Tm.someL g op 0 ks a
def Tm.someL (g : Int → Int → Bool) : Int → Nat → List Tm → Int → Bool
  | _, _, [], _ => false
  | op, i, t :: l, a => t.some1 g (a + bindN op i) || Tm.someL g op (i + 1) l a
end
def gFree (v : Int) (m a : Int) : Bool := decide (m - a = v) && decide (a ≤ m)
theorem kp_free (caps : List FV) (ih : Handler) (xs : List IV) (h0 : Hp) (k : IV → Hp → List Ref → List Ref → Option (IV × Hp)) : dynS EE ih (.fv (.func (.func 94) [] caps)) xs h0 k = isoS [] false false ih 94 (xs ++ caps.map .fv) h0 k :=
  keepc (by kernel_rfl) (by kernel_rfl) (by kernel_rfl) (by kernel_rfl) caps ..
theorem free1_ok {n : Nat} (hn : 0 < n) (v m a : Int) (hm1 : 0 ≤ m) (hm2 : m ≤ 100000000000) (ha : 0 ≤ a) (ha2 : a ≤ 1000000000) : Ans (SS dt n 94 [iv m, iv a, .fv (.fp [.int .i64 v] 0)] ⟨[], []⟩) (.bool (gFree v m a)) := by
  obtain ⟨n, rfl⟩ : ∃ k, n = k + 1 := ⟨n - 1, by omega⟩
  rw [c94]
  have hw1 : w64 (m - a) = m - a := by rw [w64_id] <;> omega
  unfold gFree
  by_cases h : m - a = v
  · have hwv : w64 v = v := by rw [← h]; exact hw1
    rw [decide_eq_true h]
    by_cases h' : a ≤ m
    · rw [decide_eq_true h']
      simp only [S94_25, S94, ↓XX, XY, ↓reduceIte, Nat.reduceBEq, Nat.reduceAdd, Int.cast_ofNat_Int, Int.reduceEq, Int.reduceLT, Int.reduceLE, hw1, hwv, h, h']
      exact ans_fv _ _
    · rw [decide_eq_false h']
      simp only [S94_25, S94, ↓XX, XY, ↓reduceIte, Nat.reduceBEq, Nat.reduceAdd, Int.cast_ofNat_Int, Int.reduceEq, Int.reduceLT, Int.reduceLE, hw1, hwv, h, h']
      exact ans_fv _ _
  · rw [decide_eq_false h]
    simp only [S94_25, S94, ↓XX, XY, ↓reduceIte, Nat.reduceBEq, Nat.reduceAdd, Int.cast_ofNat_Int, Int.reduceEq, Int.reduceLT, Int.reduceLE, hw1, h]
    exact ans_fv _ _
set_option maxRecDepth 20000 in
theorem some_ok {F : FuncId} {caps : List FV} {g : Int → Int → Bool} {c : Nat} (hd : ∀ (ih : Handler) (xs : List IV) (h0 : Hp) (k : IV → Hp → List Ref → List Ref → Option (IV × Hp)), dynS EE ih (.fv (.func (.func F) [] caps)) xs h0 k = isoS [] false false ih F (xs ++ caps.map .fv) h0 k)
    (P : Tm → Int → Prop) (hP : ∀ op m ks a i t, P (.mk op m ks) a → ks[i]? = some t → op ≠ 1 → P t (a + bindN op i))
    (hg : ∀ n, c < n → ∀ m ks a, P (.mk 1 m ks) a → Ans (SS dt n F (iv m :: iv a :: caps.map .fv) ⟨[], []⟩) (.bool (g m a))) :
    ∀ (n : Nat) (t : Tm) (a : Int), t.wt + c + 3 < n → 0 ≤ a → a + 2 * t.wt ≤ 1000000000 → P t a → AnsF (SS dt n 93 [.fv t.enc, iv a, .fv (.func (.func F) [] caps)] ⟨[], []⟩) (.bool (t.some1 g a)) := by
  intro n
  induction n with
  | zero => intro t a h; omega
  | succ n ih =>
    intro t a hn ha ha2 hPt
    obtain ⟨op, m, ks⟩ := t
    simp only [Tm.wt] at hn ha2
    rw [c93, enc_mk]
    have hlen := wt_len ks
    by_cases h1 : op = 1
    · subst h1
      rw [Tm.some1, if_pos rfl]
      have hc := hg n (by omega) m ks a hPt
      have hi : ∀ (own : List (Nat × Blk)) (k : IV → Hp → List Ref → List Ref → Option (IV × Hp)), isoS [] false false (SS dt n) F ([iv m, iv a] ++ caps.map .fv) ⟨own, []⟩ k = k (.fv (.bool (g m a))) ⟨own, []⟩ [] [] := by
        intro own k
        refine iso_p (vs := .int .i64 m :: .int .i64 a :: caps) ?_ hc ⟨own, []⟩ k
        have hcaps : ∀ l : List FV, frzPL (l.map .fv) = some l := by
          intro l
          induction l with
          | nil => rfl
          | cons x l ih => simp [frzPL, ih, frzP, frz1]
        simp [frzPL, hcaps, frzP, frz1, iv]
      simp only [S93_66, S93_67, S93_68, S93_69, S93_70, S93_71, S93_73, S93, ↓XX, XY, ↓reduceIte, Nat.reduceBEq, Nat.reduceAdd, Int.cast_ofNat_Int, Int.reduceEq, Int.reduceLT, Int.reduceLE, ↓hd, ↓hi]
      exact ansf_fv _ _
    · rw [Tm.some1, if_neg h1]
      simp only [S93_66, S93_67, S93_68, S93_69, S93_70, S93_71, S93_73, S93, ↓XX, XY, ↓reduceIte, Nat.reduceBEq, Nat.reduceAdd, Int.cast_ofNat_Int, Int.reduceEq, Int.reduceLT, Int.reduceLE, h1, ↓drop_e, XD, heldB, flatD, XE]
      refine loop_run (Q := fun r => AnsF r _) (fun k V H => ∃ (pre rest : List Tm), ks = pre ++ rest ∧ rest.length = k ∧
          V = [iv a, .fv (.func (.func F) [] caps), .ptr (.own 97517568) 0, .fv (.sl (ks.map Tm.enc)), iv ks.length, iv pre.length] ∧
          H = ⟨[(97517568, .row [iv op, iv m, .fv (.sl (ks.map Tm.enc))] false)], []⟩ ∧ Tm.someL g op pre.length rest a = Tm.someL g op 0 ks a)
        ?_ n ks.length _ _ (by omega) ⟨[], ks, rfl, rfl, rfl, rfl, rfl⟩
      rintro k V H rec ⟨pre, rest, hks, hl, rfl, rfl, hts⟩ hrec
      have hkl : ks.length = pre.length + rest.length := by rw [hks]; simp
      cases rest with
      | nil =>
        have hno : ¬ ((pre.length : Int) < ks.length) := by rw [hkl]; simp
        rw [Tm.someL] at hts
        rw [← hts]
        simp only [S93_66, S93_67, S93_68, S93_69, S93_70, S93_71, S93_72, S93_73, S93, ↓XX, XY, ↓reduceIte, Nat.reduceBEq, Nat.reduceAdd, Int.cast_ofNat_Int, Int.reduceEq, Int.reduceLT, Int.reduceLE, hno]
        exact ansf_fv _ _
      | cons x rest =>
        have hi : (pre.length : Int) < ks.length := by rw [hkl]; simp; omega
        have hg2 := at_pre hks
        have hxw := wt_mem (t := x) (l := ks) (by rw [hks]; simp)
        have hb := pbind_ok (n := n) (by omega) op pre.length
        have hble := bindN_le op pre.length
        have hs := ih x (a + bindN op pre.length) (by omega) (by omega) (by omega) (hP _ _ _ _ _ _ hPt hg2 h1)
        have hwa : w64 (a + bindN op pre.length) = a + bindN op pre.length := by rw [w64_id] <;> omega
        have hwi : w64 ((pre.length : Int) + 1) = ((pre ++ [x]).length : Int) := (w64_id (by omega) (by omega)).trans (by simp)
        rw [Tm.someL] at hts
        generalize x.some1 g (a + bindN op pre.length) = y at hs hts
        obtain ⟨o, p, l⟩ := x
        rw [enc_mk] at hs
        simp only [List.length_cons] at hl
        cases y
        · simp only [S93_66, S93_67, S93_68, S93_69, S93_70, S93_71, S93_72, S93_73, S93, ↓XX, XY, ↓reduceIte, Nat.reduceBEq, Nat.reduceAdd, Int.cast_ofNat_Int, Int.reduceEq, Int.reduceLT, Int.reduceLE, hi, ↓ix_f (map_get hg2) (agg3l _ _ _), ↓agg3, ↓iso_2 hb, hwa, hwi, ↓iso_3 (ansf hs), ↓drop_e, XD, heldB, flatD, XE]
          exact hrec rest.length _ _ (by omega) ⟨pre ++ [.mk o p l], rest, by rw [hks]; simp, rfl, rfl, rfl, by simpa using hts⟩
        · rw [← hts]
          simp only [S93_66, S93_67, S93_68, S93_69, S93_70, S93_71, S93_72, S93_73, S93, ↓XX, XY, ↓reduceIte, Nat.reduceBEq, Nat.reduceAdd, Int.cast_ofNat_Int, Int.reduceEq, Int.reduceLT, Int.reduceLE, hi, ↓ix_f (map_get hg2) (agg3l _ _ _), ↓agg3, ↓iso_2 hb, hwa, hwi, ↓iso_3 (ansf hs), Bool.true_or]
          exact ansf_fv _ _
theorem pfree_e {n : Nat} {t : Tm} {v : Int} {K : Nat} (hn : t.wt + 6 < n) (h2 : 2 * t.wt ≤ 1000000000) (hs : t.sc K) (hK : K ≤ 1000000000) : Ans (SS dt n 90 [.fv t.enc, iv v] ⟨[], []⟩) (.bool (t.some1 (gFree v) 0)) := by
  obtain ⟨n, rfl⟩ : ∃ k, n = k + 1 := ⟨n - 1, by omega⟩
  rw [c90]
  have hc := some_ok (F := 94) (caps := [.fp [.int .i64 v] 0]) (g := gFree v) (c := 0) (kp_free _) (fun t a => scP K t a ∧ a ≤ 1000000000 ∧ a + 2 * t.wt ≤ 1000000000)
    (fun op m ks a i t h hg ho => ⟨scP_kid op m ks a i t h.1 hg ho, by
      have hb := bindN_le op i
      have hwm := wt_mem (List.mem_of_getElem? hg)
      have := h.2.2
      simp only [Tm.wt] at this
      omega, by
      have hb := bindN_le op i
      have hwm := wt_mem (List.mem_of_getElem? hg)
      have := h.2.2
      simp only [Tm.wt] at this
      omega⟩)
    (fun n hn m ks a h => by
      obtain ⟨rfl, h1, h2, h3⟩ := scP_var h.1
      exact free1_ok hn v m a h1 (by omega) h3 (by omega))
    n t 0 (by omega) (by omega) (by omega) ⟨⟨by omega, K, hs, by omega⟩, by omega, by omega⟩
  obtain ⟨o, p, l⟩ := t
  rw [enc_mk] at hc ⊢
  simp only [S90, ↓XX, XY, ↓reduceIte, Nat.reduceBEq, Nat.reduceAdd, Int.cast_ofNat_Int, Int.reduceEq, Int.reduceLT, Int.reduceLE, ↓gen_val', ↓mkf_c1]
  rw [iso_fn1 hc rfl rfl (by rfl) (by simp) rfl]
  exact ans_fv _ _
mutual
theorem each_subst (v : Int) (u : Tm) {K : Nat} (hu : u.sc K) (huw : K + 2 * u.wt ≤ 1000000000) : ∀ (t : Tm) (k : Nat) (a : Int), t.sc k → k + 2 * t.wt ≤ 1000000000 → 0 ≤ a → a + 2 * t.wt ≤ 1000000000 → t.each (gSubst v u) a = t.subst (v + a) a u
  | .mk op m ks, k, a, h, hk, h1, h2 => by
    rw [Tm.sc] at h
    rw [Tm.wt] at hk h2
    by_cases ho : op = 1
    · subst ho
      have h3 : ar 1 = some 0 := by decide
      rw [h3, if_pos rfl] at h
      have h4 : ks = [] := List.length_eq_zero_iff.1 (by have := h.1; simp only [Option.some.injEq] at this; omega)
      subst h4
      rw [Tm.each, if_pos rfl, gSubst, Tm.subst, if_pos rfl]
      have hm := h.2.1
      by_cases hc : v < m - a
      · rw [if_pos hc, if_neg (by omega), if_pos (by omega), w64_id (by omega) (by omega)]
        rfl
      · rw [if_neg hc]
        by_cases he : m - a = v
        · rw [if_pos he, if_pos (by omega), each_shift a 0 u K 0 hu (by omega) (by omega) (by omega)]
          rfl
        · rw [if_neg he, if_neg (by omega), if_neg (by omega), Int.add_zero]
    · rw [Tm.each, if_neg ho, Tm.subst, if_neg ho]
      rw [eachL_subst v u hu huw op 0 ks k a h.2.2 (by omega) h1 (by omega)]
theorem eachL_subst (v : Int) (u : Tm) {K : Nat} (hu : u.sc K) (huw : K + 2 * u.wt ≤ 1000000000) : ∀ (op : Int) (i : Nat) (l : List Tm) (k : Nat) (a : Int), Tm.scL op i l k → k + 2 + 2 * Tm.wtL l ≤ 1000000000 → 0 ≤ a → a + 2 + 2 * Tm.wtL l ≤ 1000000000 → Tm.eachL (gSubst v u) op i l a = Tm.substL op i l (v + a) a u
  | _, _, [], _, _, _, _, _, _ => by rw [Tm.eachL, Tm.substL]
  | op, i, t :: l, k, a, h, hk, h1, h2 => by
    rw [Tm.scL] at h
    rw [Tm.eachL, Tm.substL]
    have hb := bindN_le op i
    rw [Tm.wtL] at hk h2
    rw [each_subst v u hu huw t (k + bindN op i) (a + bindN op i) h.1 (by omega) (by omega) (by omega), eachL_subst v u hu huw op (i + 1) l k a h.2 (by omega) h1 (by omega), Int.add_assoc]
end
mutual
theorem some_free (v : Int) (hv : 0 ≤ v) : ∀ (t : Tm) (a : Int), 0 ≤ a → t.some1 (gFree v) a = t.free (v + a)
  | .mk op m ks, a, h1 => by
    by_cases ho : op = 1
    · subst ho
      rw [Tm.some1, if_pos rfl, Tm.free, if_pos rfl, gFree]
      by_cases h : m = v + a
      · rw [decide_eq_true h, decide_eq_true (by omega : m - a = v), decide_eq_true (by omega : a ≤ m)]; rfl
      · rw [decide_eq_false h, decide_eq_false (by omega : ¬ m - a = v)]; rfl
    · rw [Tm.some1, if_neg ho, Tm.free, if_neg ho, someL_free v hv op 0 ks a h1]
theorem someL_free (v : Int) (hv : 0 ≤ v) : ∀ (op : Int) (i : Nat) (l : List Tm) (a : Int), 0 ≤ a → Tm.someL (gFree v) op i l a = Tm.freeL op i l (v + a)
  | _, _, [], _, _ => by rw [Tm.someL, Tm.freeL]
  | op, i, t :: l, a, h1 => by
    rw [Tm.someL, Tm.freeL, some_free v hv t (a + bindN op i) (by omega), someL_free v hv op (i + 1) l a h1, Int.add_assoc]
end
set_option maxRecDepth 20000 in
theorem function_ok {n : Nat} {K : Nat} {op m : Int} {z b : Tm} (hn : b.wt + 20 < n) (hk : b.op = 5 → ∃ f x, b.kids = [f, x]) (hw : b.wk) (h2 : 2 * b.wt ≤ 100000000) (hs : b.sc K) (hK : K ≤ 100000000) :
    AnsF (SS dt n 84 [.fv (Tm.mk op m [z, b]).enc] ⟨[], []⟩) (fnP (.mk op m [z, b])).enc := by
  obtain ⟨n, rfl⟩ : ∃ k, n = k + 1 := ⟨n - 1, by omega⟩
  rw [c84]
  obtain ⟨o1, n1, k1⟩ := b
  by_cases h5 : o1 = 5
  · subst h5
    obtain ⟨f, x, hkk⟩ := hk rfl
    simp only [Tm.kids] at hkk
    subst hkk
    obtain ⟨o2, n2, k2⟩ := x
    rw [Tm.sc] at hs
    have hf : f.sc K := by
      have := hs.2.2
      rw [Tm.scL] at this
      exact this.1
    have hwf : f.wk := by
      rw [Tm.wk] at hw
      exact wk_mem hw.2 (by simp)
    simp only [Tm.wt, Tm.wtL] at hn h2
    have hfree := pfree_e (n := n) (t := f) (v := 0) (K := K) (by omega) (by omega) hf (by omega)
    rw [some_free 0 (by omega) f 0 (by omega)] at hfree
    have hsub := psub_e (n := n) (t := f) (u := zeroTm) (v := 0) (K := K) (by simp only [zeroTm, Tm.wt, Tm.wtL]; omega) hwf (by omega) hf (by simp [zeroTm, Tm.wk, Tm.wkL]) (by simp [zeroTm, Tm.wt, Tm.wtL]) (zero_sc K) (by omega)
    rw [each_subst 0 zeroTm (K := K) (zero_sc K) (by simp only [zeroTm, Tm.wt, Tm.wtL]; omega) f K 0 hf (by omega) (by omega) (by omega)] at hsub
    simp only [Int.add_zero] at hfree hsub
    rw [fnP]
    generalize hr : f.subst 0 0 zeroTm = u at hsub
    generalize f.free 0 = fr at hfree
    obtain ⟨o4, n4, k4⟩ := u
    obtain ⟨o3, n3, k3⟩ := f
    obtain ⟨oz, nz, kz⟩ := z
    rw [zeroTm] at hsub
    simp only [enc_mk, List.map_nil] at hfree hsub
    by_cases h1 : o2 = 1
    · by_cases h0 : n2 = 0
      · cases fr
        · rw [if_pos ⟨rfl, h1, h0, rfl⟩]
          have hs3 := fun (own : List (Nat × Blk)) (k : IV → Hp → List Ref → List Ref → Option (IV × Hp)) => iso_3 (a := .fv (.agg [.int .i64 o3, .int .i64 n3, .sl (k3.map Tm.enc)])) (b := iv 0) (c := .agg [iv 11, iv 0, .nils]) hsub rfl rfl rfl ⟨own, []⟩ k
          simp only [enc_mk, List.map_cons, List.map_nil]
          simp only [↓UU18, ↓XX, XY, ↓reduceIte, Nat.reduceBEq, Nat.reduceAdd, Int.cast_ofNat_Int, Int.reduceEq, Int.reduceLT, Int.reduceLE, ↓ixt0, ↓ixt1, ↓ixt2, h1, h0, ↓iso_2 hfree, ↓hs3]
          exact ansf_fv _ _
        · rw [if_neg (by simp)]
          simp only [enc_mk, List.map_cons, List.map_nil]
          simp only [↓UU18, ↓XX, XY, ↓reduceIte, Nat.reduceBEq, Nat.reduceAdd, Int.cast_ofNat_Int, Int.reduceEq, Int.reduceLT, Int.reduceLE, ↓ixt0, ↓ixt1, ↓ixt2, h1, h0, ↓iso_2 hfree]
          exact ansf_fv _ _
      · rw [if_neg (by simp [h0])]
        simp only [enc_mk, List.map_cons, List.map_nil]
        simp only [↓UU18, ↓XX, XY, ↓reduceIte, Nat.reduceBEq, Nat.reduceAdd, Int.cast_ofNat_Int, Int.reduceEq, Int.reduceLT, Int.reduceLE, ↓ixt0, ↓ixt1, ↓ixt2, h1, h0]
        exact ansf_fv _ _
    · rw [if_neg (by simp [h1])]
      simp only [enc_mk, List.map_cons, List.map_nil]
      simp only [↓UU18, ↓XX, XY, ↓reduceIte, Nat.reduceBEq, Nat.reduceAdd, Int.cast_ofNat_Int, Int.reduceEq, Int.reduceLT, Int.reduceLE, ↓ixt0, ↓ixt1, ↓ixt2, h1]
      exact ansf_fv _ _
  · rw [fnP_ne (by simpa [Tm.op] using h5)]
    obtain ⟨oz, nz, kz⟩ := z
    simp only [enc_mk, List.map_cons, List.map_nil]
    simp only [↓UU18, ↓XX, XY, ↓reduceIte, Nat.reduceBEq, Nat.reduceAdd, Int.cast_ofNat_Int, Int.reduceEq, Int.reduceLT, Int.reduceLE, ↓ixt0, ↓ixt1, ↓ixt2, h5]
    exact ansf_fv _ _
set_option maxRecDepth 20000 in
theorem pair_ok {n : Nat} {op m : Int} {z a b : Tm} (hn : 2 * a.wt + 10 < n) (hka : a.op = 8 → ∃ x, a.kids = [x]) (hkb : b.op = 9 → ∃ y, b.kids = [y]) (h2 : a.wt ≤ 100000000) :
    AnsF (SS dt n 85 [.fv (Tm.mk op m [z, a, b]).enc] ⟨[], []⟩) (prP (.mk op m [z, a, b])).enc := by
  obtain ⟨n, rfl⟩ : ∃ k, n = k + 1 := ⟨n - 1, by omega⟩
  rw [c85]
  obtain ⟨o1, n1, k1⟩ := a
  obtain ⟨o2, n2, k2⟩ := b
  obtain ⟨oz, nz, kz⟩ := z
  by_cases h8 : o1 = 8
  · by_cases h9 : o2 = 9
    · subst h8 h9
      obtain ⟨x, hx⟩ := hka rfl
      obtain ⟨y, hy⟩ := hkb rfl
      simp only [Tm.kids] at hx hy
      subst hx hy
      simp only [Tm.wt, Tm.wtL] at hn h2
      have hs := psame_ok n x y (by omega) (by omega)
      rw [prP]
      generalize x.same y = v at hs
      obtain ⟨o3, n3, k3⟩ := x
      obtain ⟨o4, n4, k4⟩ := y
      simp only [enc_mk] at hs
      cases v
      · rw [if_neg (by simp)]
        simp only [enc_mk, List.map_cons, List.map_nil]
        simp only [S85_140, S85_141, S85_142, S85_143, S85_144, S85_145, S85_146, S85_147, S85_148, S85_149, S85_150, S85, ↓XX, XY, ↓reduceIte, Nat.reduceBEq, Nat.reduceAdd, Int.cast_ofNat_Int, Int.reduceEq, Int.reduceLT, Int.reduceLE, ↓ixt0, ↓ixt1, ↓ixt2, ↓iso_2 hs]
        exact ansf_fv _ _
      · rw [if_pos ⟨rfl, rfl, rfl⟩]
        simp only [enc_mk, List.map_cons, List.map_nil]
        simp only [S85_140, S85_141, S85_142, S85_143, S85_144, S85_145, S85_146, S85_147, S85_148, S85_149, S85_150, S85, ↓XX, XY, ↓reduceIte, Nat.reduceBEq, Nat.reduceAdd, Int.cast_ofNat_Int, Int.reduceEq, Int.reduceLT, Int.reduceLE, ↓ixt0, ↓ixt1, ↓ixt2, ↓iso_2 hs]
        exact ansf_fv _ _
    · rw [prP_ne (by simp [Tm.op, h9])]
      simp only [enc_mk, List.map_cons, List.map_nil]
      simp only [S85_140, S85_141, S85_142, S85_143, S85_144, S85_145, S85_146, S85_147, S85_148, S85_149, S85_150, S85, ↓XX, XY, ↓reduceIte, Nat.reduceBEq, Nat.reduceAdd, Int.cast_ofNat_Int, Int.reduceEq, Int.reduceLT, Int.reduceLE, ↓ixt0, ↓ixt1, ↓ixt2, h8, h9]
      exact ansf_fv _ _
  · rw [prP_ne (by simp [Tm.op, h8])]
    simp only [enc_mk, List.map_cons, List.map_nil]
    simp only [S85_140, S85_141, S85_142, S85_143, S85_144, S85_145, S85_146, S85_147, S85_148, S85_149, S85_150, S85, ↓XX, XY, ↓reduceIte, Nat.reduceBEq, Nat.reduceAdd, Int.cast_ofNat_Int, Int.reduceEq, Int.reduceLT, Int.reduceLE, ↓ixt0, ↓ixt1, ↓ixt2, h8]
    exact ansf_fv _ _
theorem fzl_z {d : Nat} {l : List FV} (h : Hp) (lg : List Ref) (e : Option (IV × Hp)) (k : List FV → List (Ref × Blk) → List Ref → Option (IV × Hp)) :
    fzLK (fzU (d + 1)) (iv 11 :: iv 0 :: .nils :: l.map .fv) h lg e k = k (.int .i64 11 :: .int .i64 0 :: .sl [] :: l) [] lg := by
  show (fzLK (fzU (d + 1)) (l.map .fv) h lg e fun ys us lg => apK [] us fun w => apK [] w fun w => apK [] w fun w => k (.int .i64 11 :: .int .i64 0 :: .sl [] :: ys) w lg) = _
  rw [fzl_fv]
  rfl
theorem fz_tmz {s : Nat} {l : List Tm} {ro : Bool} {a b : FV} {own : List (Nat × Blk)} {ext : List Blk} (hl : lookupOwn s own = some (.row (iv 11 :: iv 0 :: .nils :: (cellsF l).map .fv) ro)) (hn : l.length ≤ 90) (lg : List Ref) (e : Option (IV × Hp))
    (k : FV → List (Ref × Blk) → List Ref → Option (IV × Hp)) : fzU 12 (.agg [.fv a, .fv b, .slc (.own s) 3 (l.length + 1)]) ⟨own, ext⟩ lg e k =
      k (.agg [a, b, .sl ((zeroTm :: l).map Tm.enc)]) [(.own s, .row (iv 11 :: iv 0 :: .nils :: (cellsF l).map .fv) true)] (.own s :: lg) := by
  have hz : ∀ (lg : List Ref) (k : FV → List (Ref × Blk) → List Ref → Option (IV × Hp)), fzU 11 (.slc (.own s) 3 (l.length + 1)) ⟨own, ext⟩ lg e k = k (.sl ((zeroTm :: l).map Tm.enc)) [(.own s, .row (iv 11 :: iv 0 :: .nils :: (cellsF l).map .fv) true)] (.own s :: lg) := by
    intro lg k
    have hlen : (iv 11 :: iv 0 :: .nils :: (cellsF l).map IV.fv).length = 3 * l.length + 3 := by simp [cellsF_len]
    show (getK (.own s) ⟨own, ext⟩ fun b => asRow b fun cells => cond (Nat.ble cells.length 300) (cond (or (Nat.beq 3 0) (not (Nat.ble ((l.length + 1) * 3) cells.length))) none
      (fzLK (fzU 10) cells ⟨own, ext⟩ (.own s :: lg) e fun cs u lg => chK 3 (l.length + 1) cs fun els => k (.sl els) ((.own s, .row cells true) :: u) lg)) e) = _
    rw [g_own, ownK_eq, hl]
    simp only [Option.bind_some, as_row]
    rw [hlen, ble_dec, decide_eq_true (by omega), c_t, ble_dec, decide_eq_true (by omega)]
    simp only [Bool.not_true]
    show (fzLK (fzU (9 + 1)) (iv 11 :: iv 0 :: .nils :: (cellsF l).map IV.fv) ⟨own, ext⟩ (.own s :: lg) e fun cs u lg => chK 3 (l.length + 1) cs fun els => k (.sl els) ((.own s, .row (iv 11 :: iv 0 :: .nils :: (cellsF l).map IV.fv) true) :: u) lg) = _
    rw [fzl_z]
    exact chk3 (zeroTm :: l) _
  rw [fu_agg, show Nat.ble [IV.fv a, .fv b, .slc (.own s) 3 (l.length + 1)].length 300 = true from rfl, c_t, fl1, fv_fv, fl1, fv_fv, fl1, hz, fl0]
  rfl
theorem iso_1z {ih : Handler} {f : FuncId} {w a b : FV} {s : Nat} {l : List Tm} {ro : Bool} {own own' : List (Nat × Blk)} (hr : AnsF (ih f [.fv (.agg [a, b, .sl ((zeroTm :: l).map Tm.enc)])] ⟨[], []⟩) w) (hl : lookupOwn s own = some (.row (iv 11 :: iv 0 :: .nils :: (cellsF l).map .fv) ro)) (hn : l.length ≤ 90)
    (ho : putOwn s (.row (iv 11 :: iv 0 :: .nils :: (cellsF l).map .fv) true) own = own') (k : IV → Hp → List Ref → List Ref → Option (IV × Hp)) :
    isoS [] false false ih f [.agg [.fv a, .fv b, .slc (.own s) 3 (l.length + 1)]] ⟨own, []⟩ k = k (.fv w) ⟨own', []⟩ [.own s] [.own s] := by
  subst ho
  refine iso_gf (vs := [.agg [a, b, .sl ((zeroTm :: l).map Tm.enc)]]) (u := [(.own s, .row (iv 11 :: iv 0 :: .nils :: (cellsF l).map .fv) true)]) (lg := [.own s]) ?_ hr ?_ k
  · intro e k
    rw [fz1, fz_tmz hl hn, fz0]
    rfl
  · intro k
    show (ownK own s fun _ => putOwnK own s (.row (iv 11 :: iv 0 :: .nils :: (cellsF l).map .fv) true) fun own => k ⟨own, _⟩) = _
    rw [ownK_eq, hl, Option.bind_some, putOwnK_eq]
theorem ix_sl30 {β : Type} {n : Nat} (h : 0 < n) (r : Ref) (k : IV → Option β) : ixS 3 (.slc r 3 n) (iv 0) k = k (.ptr r 0) := ix_sl3 (i := 0) h r k
theorem scz (x : Tm) (l : List Tm) : setCells (cellsT (x :: l) 0) 0 [iv 11, iv 0, .nils] = iv 11 :: iv 0 :: .nils :: (cellsF l).map .fv := by
  obtain ⟨o, p, k⟩ := x
  simp [cellsT, cellsF, zeroT, setCells]
theorem blz (x : Tm) (l : List Tm) : Nat.ble 3 (cellsT (x :: l) 0).length = true := by
  rw [ble_dec]
  apply decide_eq_true
  simp [cellsT, zeroT, cellsF_len]
  omega
noncomputable abbrev Heta (op m : Int) (ks done : List Tm) (r : Nat) : Hp :=
  ⟨[(70254592, .row [iv op, iv m, .fv (.sl (ks.map Tm.enc))] false), (70254593, .row [iv 0, iv 0, .nils] false), (70255623, .row (cellsT done r) false), (70255625, .row [iv op, iv m, .slc (.own 70255623) 3 ks.length] false)], []⟩
set_option maxRecDepth 20000 in
set_option maxHeartbeats 1000000 in
theorem eta_ok : ∀ (n : Nat) (t : Tm) (k : Nat), t.sc k → 2 * t.wt + 25 < n → k + 2 * t.wt ≤ 90000000 → AnsF (SS dt n 67 [.fv t.enc] ⟨[], []⟩) t.eta.enc := by
  intro n
  induction n with
  | zero => intro t k _ h; omega
  | succ n ih =>
    intro t k hs hn hw
    have hes := eta_sc t k hs (by omega)
    have hwk := sc_wk t k hs
    obtain ⟨op, m, ks⟩ := t
    rw [Tm.sc] at hs
    rw [Tm.wk] at hwk
    simp only [Tm.wt] at hn hw
    rw [c67, enc_mk]
    have hlen := wt_len ks
    have hkd := etaL_sc op 0 ks k hs.2.2 (by omega)
    simp only [S67_125, S67_126, S67_127, S67_128, S67_129, S67_130, S67_131, S67_132, S67_133, S67_134, S67_135, S67_137, S67_138, S67_139, S67_140, S67, ↓XX, XY, ↓reduceIte, Nat.reduceBEq, Nat.reduceAdd, Int.cast_ofNat_Int, Int.reduceEq, Int.reduceLT, Int.reduceLE, ↓mk_t (show ks.length ≤ 1000 by omega), ↓drop_e, XD, heldB, flatD, XE, flat_t, names_t]
    have hR : (Tm.mk op m ks).eta = if op = 4 then fnP (.mk 4 m (setZ (Tm.etaL ks))) else if op = 7 then prP (.mk 7 m (setZ (Tm.etaL ks))) else .mk op m (Tm.etaL ks) := by rw [Tm.eta]
    rw [hR]
    refine loop_run (Q := fun r => AnsF r _) (fun j V H => ∃ (pre rest done : List Tm), ks = pre ++ rest ∧ rest.length = j ∧ done.length = pre.length ∧
        V = [.ptr (.own 70254592) 0, .ptr (.own 70254593) 0, .ptr (.own 70255625) 0, .fv (.sl (ks.map Tm.enc)), iv ks.length, iv pre.length] ∧
        H = Heta op m ks done rest.length ∧ done ++ Tm.etaL rest = Tm.etaL ks)
      ?_ n ks.length _ _ (by omega) ⟨[], ks, [], rfl, rfl, rfl, rfl, rfl, rfl⟩
    rintro j V H rec ⟨pre, rest, done, hks, hl, hdl, rfl, rfl, hts⟩ hrec
    have hkl : ks.length = pre.length + rest.length := by rw [hks]; simp
    cases rest with
    | nil =>
      have hno : ¬ ((pre.length : Int) < ks.length) := by rw [hkl]; simp
      rw [Tm.etaL, List.append_nil] at hts
      have hdk : ks.length = done.length := by rw [hdl, hkl]; simp
      rw [← hts] at hkd ⊢
      rw [List.length_nil]
      by_cases h4 : op = 4
      · subst h4
        rw [if_pos rfl]
        have h2 : ks.length = 2 := by have := hs.1; rw [show ar 4 = some 2 by decide] at this; simp only [Option.some.injEq] at this; omega
        have hd2 : done.length = 2 := by omega
        match done, hd2, hdk, hkd with
        | [a, b], _, hdk, hkd =>
          simp only [Tm.scL, Tm.wtL] at hkd
          have hb1 : bindN 4 1 = 1 := by decide
          have hbs := hkd.1.2.1
          rw [hb1] at hbs
          have hfn := function_ok (n := n) (K := k + 1) (op := 4) (m := m) (z := zeroTm) (b := b) (by omega) (fun h5 => by
            have := sc_kids hbs h5 (show ar 5 = some 2 by decide)
            match hbk : b.kids, this with
            | [f, x], _ => exact ⟨f, x, rfl⟩) (sc_wk b _ hbs) (by omega) hbs (by omega)
          rw [setZ]
          rw [enc_mk] at hfn
          generalize fnP (.mk 4 m [zeroTm, b]) = y at hfn
          obtain ⟨o5, p5, k5⟩ := y
          rw [enc_mk] at hfn
          rw [enc_mk]
          have h02 : 0 < ks.length := by omega
          have hi := fun (own own' : List (Nat × Blk)) (hlk : lookupOwn 70255623 own = some (.row (iv 11 :: iv 0 :: .nils :: (cellsF [b]).map .fv) false)) (ho : putOwn 70255623 (.row (iv 11 :: iv 0 :: .nils :: (cellsF [b]).map .fv) true) own = own') => iso_1z hfn hlk (by simp) ho
          simp only [S67_125, S67_126, S67_127, S67_128, S67_129, S67_130, S67_131, S67_132, S67_133, S67_134, S67_135, S67_136, S67_137, S67_138, S67_139, S67_140, S67, ↓XX, XY, ↓reduceIte, Nat.reduceBEq, Nat.reduceAdd, Int.cast_ofNat_Int, Int.reduceEq, Int.reduceLT, Int.reduceLE, hno, ↓ix_sl30 h02, ↓blz, ↓scz]
          rw [show ks.length = [b].length + 1 by rw [h2]; rfl]
          rw [hi _ _ (by rfl) (by rfl)]
          simp only [↓XX, XY, ↓reduceIte, Nat.reduceBEq, Nat.reduceAdd, Int.cast_ofNat_Int, Int.reduceEq, Int.reduceLT, Int.reduceLE, ↓po_hit, ↓po_miss]
          exact ansf_fv _ _
      · rw [if_neg h4]
        by_cases h7 : op = 7
        · subst h7
          rw [if_pos rfl]
          have h2 : ks.length = 3 := by have := hs.1; rw [show ar 7 = some 3 by decide] at this; simp only [Option.some.injEq] at this; omega
          have hd2 : done.length = 3 := by omega
          match done, hd2, hdk, hkd with
          | [a, b, c], _, hdk, hkd =>
            simp only [Tm.scL, Tm.wtL] at hkd
            have hb1 : bindN 7 1 = 0 := by decide
            have hb2 : bindN 7 2 = 0 := by decide
            have hbs := hkd.1.2.1
            have hcs := hkd.1.2.2.1
            rw [hb1] at hbs
            rw [hb2] at hcs
            have hfn := pair_ok (n := n) (op := 7) (m := m) (z := zeroTm) (a := b) (b := c) (by omega) (fun h5 => by
              have := sc_kids hbs h5 (show ar 8 = some 1 by decide)
              match hbk : b.kids, this with
              | [f], _ => exact ⟨f, rfl⟩) (fun h5 => by
              have := sc_kids hcs h5 (show ar 9 = some 1 by decide)
              match hbk : c.kids, this with
              | [f], _ => exact ⟨f, rfl⟩) (by omega)
            rw [setZ]
            rw [enc_mk] at hfn
            generalize prP (.mk 7 m [zeroTm, b, c]) = y at hfn
            obtain ⟨o5, p5, k5⟩ := y
            rw [enc_mk] at hfn
            rw [enc_mk]
            have h02 : 0 < ks.length := by omega
            have hi := fun (own own' : List (Nat × Blk)) (hlk : lookupOwn 70255623 own = some (.row (iv 11 :: iv 0 :: .nils :: (cellsF [b, c]).map .fv) false)) (ho : putOwn 70255623 (.row (iv 11 :: iv 0 :: .nils :: (cellsF [b, c]).map .fv) true) own = own') => iso_1z hfn hlk (by simp) ho
            simp only [S67_125, S67_126, S67_127, S67_128, S67_129, S67_130, S67_131, S67_132, S67_133, S67_134, S67_135, S67_136, S67_137, S67_138, S67_139, S67_140, S67, ↓XX, XY, ↓reduceIte, Nat.reduceBEq, Nat.reduceAdd, Int.cast_ofNat_Int, Int.reduceEq, Int.reduceLT, Int.reduceLE, hno, ↓ix_sl30 h02, ↓blz, ↓scz]
            rw [show ks.length = [b, c].length + 1 by rw [h2]; rfl]
            rw [hi _ _ (by rfl) (by rfl)]
            simp only [↓XX, XY, ↓reduceIte, Nat.reduceBEq, Nat.reduceAdd, Int.cast_ofNat_Int, Int.reduceEq, Int.reduceLT, Int.reduceLE, ↓po_hit, ↓po_miss]
            exact ansf_fv _ _
        · rw [if_neg h7, enc_mk]
          simp only [S67_125, S67_126, S67_127, S67_128, S67_129, S67_130, S67_131, S67_132, S67_133, S67_134, S67_135, S67_136, S67_137, S67_138, S67_139, S67_140, S67, ↓XX, XY, ↓reduceIte, Nat.reduceBEq, Nat.reduceAdd, Int.cast_ofNat_Int, Int.reduceEq, Int.reduceLT, Int.reduceLE, hno, h4, h7]
          rw [hdk]
          exact ⟨_, _, rfl, _, _, fun e0 K => fz_tm (by rfl) (by omega) [] e0 K⟩
    | cons x rest =>
      have hi : (pre.length : Int) < ks.length := by rw [hkl]; simp; omega
      have hg2 := at_pre hks
      have hxw := wt_mem (t := x) (l := ks) (by rw [hks]; simp)
      have hxs := sc_get hs.2.2 hg2
      rw [Nat.zero_add] at hxs
      have hble := bindN_le op pre.length
      have hs5 := ih x _ hxs (by omega) (by omega)
      have hwi : w64 ((pre.length : Int) + 1) = ((pre ++ [x]).length : Int) := (w64_id (by omega) (by omega)).trans (by simp)
      have hin : pre.length < ks.length := by omega
      rw [Tm.etaL] at hts
      generalize x.eta = y at hs5 hts
      have hst := fun {β : Type} => set_t (β := β) done rest.length y.op y.n y.kids
      rw [hdl] at hst
      obtain ⟨o, p, l⟩ := x
      obtain ⟨o2, p2, l2⟩ := y
      simp only [Tm.op, Tm.n, Tm.kids] at hst
      rw [enc_mk, enc_mk] at hs5
      simp only [List.length_cons] at hl
      simp only [S67_125, S67_126, S67_127, S67_128, S67_129, S67_130, S67_131, S67_132, S67_133, S67_134, S67_135, S67_136, S67_137, S67_138, S67_139, S67_140, S67, ↓XX, XY, ↓reduceIte, Nat.reduceBEq, Nat.reduceAdd, Int.cast_ofNat_Int, Int.reduceEq, Int.reduceLT, Int.reduceLE, hi, ↓ix_f (map_get hg2) (agg3l _ _ _), ↓agg3, hwi, ↓iso_1 (ansf hs5), ↓ix_sl3 hin, ↓hst, ↓drop_e, XD, heldB, flatD, XE, flat_t, names_t]
      exact hrec rest.length _ _ (by omega) ⟨pre ++ [.mk o p l], rest, done ++ [.mk o2 p2 l2], by rw [hks]; simp, rfl, by simp [hdl], rfl, rfl, by rw [← hts]; simp⟩
theorem knum_ar {op : Int} {r : Nat} (h : ar op = some r) : ¬ (0 ≤ knum op ∧ knum op ≠ (r : Int)) := by
  unfold knum
  by_cases h1 : op = 8 ∨ op = 9 ∨ op = 12 ∨ op = 19 ∨ op = 30
  · rw [if_pos h1]
    rcases h1 with rfl | rfl | rfl | rfl | rfl <;> (cases (show r = 1 from by have := h; revert this; simp [ar]; omega); decide)
  · rw [if_neg h1]
    by_cases h2 : op = 4 ∨ op = 5
    · rw [if_pos h2]
      rcases h2 with rfl | rfl <;> (cases (show r = 2 from by have := h; revert this; simp [ar]; omega); decide)
    · rw [if_neg h2]
      by_cases h7 : op = 7
      · subst h7
        cases (show r = 3 from by have := h; revert this; simp [ar]; omega); decide
      · rw [if_neg h7]
        by_cases h13 : op = 13
        · subst h13
          cases (show r = 4 from by have := h; revert this; simp [ar]; omega); decide
        · rw [if_neg h13]; omega
mutual
theorem sc_shaped : ∀ (t : Tm) (k : Nat), t.sc k → t.shaped = true
  | .mk op n ks, k, h => by
    rw [Tm.sc] at h
    rw [Tm.shaped, scL_shaped op 0 ks k h.2.2]
    have h1 := knum_ar h.1
    have h2 : ¬ (op = 1 ∧ n < 0) := by
      rintro ⟨rfl, h3⟩
      have := h.2.1
      rw [if_pos rfl] at this
      omega
    rw [decide_eq_false h1, decide_eq_false h2]
    rfl
theorem scL_shaped : ∀ (op : Int) (i : Nat) (l : List Tm) (k : Nat), Tm.scL op i l k → Tm.shapedL l = true
  | _, _, [], _, _ => by rw [Tm.shapedL]
  | op, i, t :: l, k, h => by
    rw [Tm.scL] at h
    rw [Tm.shapedL, sc_shaped t _ h.1, scL_shaped op (i + 1) l k h.2]
    rfl
end
theorem peta_ok {n : Nat} {t : Tm} {k : Nat} (hs : t.sc k) (hn : 2 * t.wt + 26 < n) (hw : k + 2 * t.wt ≤ 90000000) : Ans (SS dt n 45 [.fv t.enc] ⟨[], []⟩) t.eta.enc := by
  obtain ⟨n, rfl⟩ : ∃ k, n = k + 1 := ⟨n - 1, by omega⟩
  rw [c45]
  have h1 := shaped_ok n t (by omega) (by omega)
  rw [sc_shaped t k hs] at h1
  have h2 := ansf (eta_ok n t k hs (by omega) hw)
  generalize t.eta = y at h2
  obtain ⟨o, p, l⟩ := t
  obtain ⟨o2, p2, l2⟩ := y
  rw [enc_mk] at h1
  rw [enc_mk, enc_mk] at h2 ⊢
  simp only [S45_37, S45_38, S45, ↓XX, XY, ↓reduceIte, Nat.reduceBEq, Nat.reduceAdd, Int.cast_ofNat_Int, Int.reduceEq, Int.reduceLT, Int.reduceLE, ↓iso_1 h1, ↓iso_1 h2]
  exact ans_fv _ _
mutual
def Tm.up : Tm → Int → Tm
  | .mk op n ks, c => .mk op (if op = 1 ∧ c ≤ n then n + 1 else n) (Tm.upL op 0 ks c)
def Tm.upL : Int → Nat → List Tm → Int → List Tm
  | _, _, [], _ => []
  | op, i, t :: l, c => t.up (c + bindN op i) :: Tm.upL op (i + 1) l c
end
mutual
def Tm.dn : Tm → Int → Tm
  | .mk op n ks, c => .mk op (if op = 1 ∧ c < n then n - 1 else n) (Tm.dnL op 0 ks c)
def Tm.dnL : Int → Nat → List Tm → Int → List Tm
  | _, _, [], _ => []
  | op, i, t :: l, c => t.dn (c + bindN op i) :: Tm.dnL op (i + 1) l c
end
mutual
theorem dn_up : ∀ (t : Tm) (c : Int), (t.up c).dn c = t
  | .mk op n ks, c => by
    rw [Tm.up, Tm.dn, dnL_up ks op 0 c]
    congr 1
    by_cases h1 : op = 1
    · by_cases h2 : c ≤ n
      · rw [show (if op = 1 ∧ c ≤ n then n + 1 else n) = n + 1 from if_pos ⟨h1, h2⟩, if_pos ⟨h1, by omega⟩]; omega
      · rw [show (if op = 1 ∧ c ≤ n then n + 1 else n) = n from if_neg (fun h => h2 h.2), if_neg (by omega)]
    · rw [if_neg (fun h => h1 h.1), if_neg (fun h => h1 h.1)]
theorem dnL_up : ∀ (l : List Tm) (op : Int) (i : Nat) (c : Int), Tm.dnL op i (Tm.upL op i l c) c = l
  | [], _, _, _ => rfl
  | t :: l, op, i, c => by rw [Tm.upL, Tm.dnL, dn_up t, dnL_up l]
end
theorem up_inj {a b : Tm} {c : Int} (h : a.up c = b.up c) : a = b := by rw [← dn_up a c, ← dn_up b c, h]
theorem sc_var_nil {n : Int} {ks : List Tm} {k : Nat} (h : (Tm.mk 1 n ks).sc k) : ks = [] := by
  rw [Tm.sc] at h
  have := h.1
  rw [show ar 1 = some 0 by decide, Option.some.injEq] at this
  exact List.eq_nil_of_length_eq_zero this.symm
mutual
theorem up_dn : ∀ (t : Tm) (c : Int) (k : Nat), t.sc k → t.free c = false → (t.dn c).up c = t
  | .mk op n ks, c, k, hs, hf => by
    by_cases h1 : op = 1
    · subst h1
      have hk := sc_var_nil hs
      subst hk
      rw [Tm.free, if_pos rfl] at hf
      have hne : n ≠ c := by simpa using hf
      rw [Tm.dn, Tm.up, Tm.dnL, Tm.upL]
      congr 1
      by_cases h2 : c < n
      · rw [show (if (1 : Int) = 1 ∧ c < n then n - 1 else n) = n - 1 from if_pos ⟨rfl, h2⟩, if_pos ⟨rfl, by omega⟩]; omega
      · rw [show (if (1 : Int) = 1 ∧ c < n then n - 1 else n) = n from if_neg (fun h => h2 h.2), if_neg (by omega)]
    · rw [Tm.free, if_neg h1] at hf
      rw [Tm.sc] at hs
      rw [Tm.dn, Tm.up, upL_dn ks op 0 c k hs.2.2 hf, if_neg (fun h => h1 h.1), if_neg (fun h => h1 h.1)]
theorem upL_dn : ∀ (l : List Tm) (op : Int) (i : Nat) (c : Int) (k : Nat), Tm.scL op i l k → Tm.freeL op i l c = false → Tm.upL op i (Tm.dnL op i l c) c = l
  | [], _, _, _, _, _, _ => rfl
  | t :: l, op, i, c, k, hs, hf => by
    rw [Tm.scL] at hs
    rw [Tm.freeL, Bool.or_eq_false_iff] at hf
    rw [Tm.dnL, Tm.upL, up_dn t _ _ hs.1 hf.1, upL_dn l op (i + 1) c k hs.2 hf.2]
end
mutual
theorem subst_dn : ∀ (t : Tm) (c d : Int) (k : Nat), t.sc k → k + 2 * t.wt ≤ 1000000000 → 0 ≤ c → t.free c = false → t.subst c d zeroTm = t.dn c
  | .mk op n ks, c, d, k, hs, hw, hc, hf => by
    by_cases h1 : op = 1
    · subst h1
      have hk := sc_var_nil hs
      subst hk
      rw [Tm.free, if_pos rfl] at hf
      have hne : n ≠ c := by simpa using hf
      rw [Tm.sc] at hs
      have hn := hs.2.1
      rw [if_pos rfl] at hn
      rw [Tm.subst, if_pos rfl, if_neg hne, Tm.dn, Tm.dnL]
      by_cases h2 : c < n
      · rw [if_pos h2, if_pos ⟨rfl, h2⟩, w64_id (by omega) (by omega)]
      · rw [if_neg h2, if_neg (fun h => h2 h.2)]
    · rw [Tm.free, if_neg h1] at hf
      rw [Tm.sc] at hs
      rw [Tm.wt] at hw
      rw [Tm.subst, if_neg h1, Tm.dn, if_neg (fun h => h1 h.1), substL_dn ks op 0 c d k hs.2.2 (by omega) hc hf]
theorem substL_dn : ∀ (l : List Tm) (op : Int) (i : Nat) (c d : Int) (k : Nat), Tm.scL op i l k → k + 2 + 2 * Tm.wtL l ≤ 1000000000 → 0 ≤ c → Tm.freeL op i l c = false → Tm.substL op i l c d zeroTm = Tm.dnL op i l c
  | [], _, _, _, _, _, _, _, _, _ => rfl
  | t :: l, op, i, c, d, k, hs, hw, hc, hf => by
    rw [Tm.scL] at hs
    rw [Tm.wtL] at hw
    have hb := bindN_le op i
    rw [Tm.freeL, Bool.or_eq_false_iff] at hf
    rw [Tm.substL, Tm.dnL, subst_dn t _ _ _ hs.1 (by omega) (by omega) hf.1, substL_dn l op (i + 1) c d k hs.2 (by omega) hc hf.2]
end
mutual
theorem shift_up : ∀ (t : Tm) (c : Int) (k : Nat), t.sc k → k + 2 * t.wt ≤ 1000000000 → t.shift 1 c = t.up c
  | .mk op n ks, c, k, hs, hw => by
    rw [Tm.sc] at hs
    rw [Tm.wt] at hw
    rw [Tm.shift, Tm.up, shiftL_up ks op 0 c k hs.2.2 (by omega)]
    by_cases h1 : op = 1 ∧ c ≤ n
    · have hn := hs.2.1
      rw [if_pos h1.1] at hn
      rw [if_pos h1, if_pos h1, w64_id (by omega) (by omega)]
    · rw [if_neg h1, if_neg h1]
theorem shiftL_up : ∀ (l : List Tm) (op : Int) (i : Nat) (c : Int) (k : Nat), Tm.scL op i l k → k + 2 + 2 * Tm.wtL l ≤ 1000000000 → Tm.shiftL op i l 1 c = Tm.upL op i l c
  | [], _, _, _, _, _, _ => rfl
  | t :: l, op, i, c, k, hs, hw => by
    rw [Tm.scL] at hs
    rw [Tm.wtL] at hw
    have hb := bindN_le op i
    rw [Tm.shiftL, Tm.upL, shift_up t _ _ hs.1 (by omega), shiftL_up l op (i + 1) c k hs.2 (by omega)]
end
mutual
theorem free_up : ∀ (t : Tm) (a c : Int), a < c → (t.up c).free a = t.free a
  | .mk op n ks, a, c, h => by
    rw [Tm.up, Tm.free, Tm.free]
    by_cases h1 : op = 1
    · rw [if_pos h1, if_pos h1]
      by_cases h2 : c ≤ n
      · rw [if_pos ⟨h1, h2⟩, decide_eq_false (by omega), decide_eq_false (by omega)]
      · rw [if_neg (fun h => h2 h.2)]
    · rw [if_neg h1, if_neg h1, freeL_up ks op 0 a c h]
theorem freeL_up : ∀ (l : List Tm) (op : Int) (i : Nat) (a c : Int), a < c → Tm.freeL op i (Tm.upL op i l c) a = Tm.freeL op i l a
  | [], _, _, _, _, _ => rfl
  | t :: l, op, i, a, c, h => by rw [Tm.upL, Tm.freeL, Tm.freeL, free_up t _ _ (by omega), freeL_up l op (i + 1) a c h]
end
mutual
theorem free_up0 : ∀ (t : Tm) (c : Int), (t.up c).free c = false
  | .mk op n ks, c => by
    rw [Tm.up, Tm.free]
    by_cases h1 : op = 1
    · rw [if_pos h1]
      by_cases h2 : c ≤ n
      · rw [if_pos ⟨h1, h2⟩, decide_eq_false (by omega)]
      · rw [if_neg (fun h => h2 h.2), decide_eq_false (by omega)]
    · rw [if_neg h1, freeL_up0 ks op 0 c]
theorem freeL_up0 : ∀ (l : List Tm) (op : Int) (i : Nat) (c : Int), Tm.freeL op i (Tm.upL op i l c) c = false
  | [], _, _, _ => rfl
  | t :: l, op, i, c => by rw [Tm.upL, Tm.freeL, free_up0 t, freeL_up0 l op (i + 1) c]; rfl
end
mutual
theorem dn_up1 : ∀ (t : Tm) (a c : Int) (k : Nat), t.sc k → a ≤ c → t.free a = false → (t.up (c + 1)).dn a = (t.dn a).up c
  | .mk op n ks, a, c, k, hs, h, hf => by
    by_cases h1 : op = 1
    · subst h1
      have hk := sc_var_nil hs
      subst hk
      rw [Tm.free, if_pos rfl] at hf
      have hne : n ≠ a := by simpa using hf
      rw [Tm.up, Tm.dn, Tm.dn, Tm.up, Tm.upL, Tm.dnL, Tm.upL]
      congr 1
      by_cases h2 : a < n
      · by_cases h3 : c + 1 ≤ n
        · rw [show (if (1 : Int) = 1 ∧ c + 1 ≤ n then n + 1 else n) = n + 1 from if_pos ⟨rfl, h3⟩, show (if (1 : Int) = 1 ∧ a < n then n - 1 else n) = n - 1 from if_pos ⟨rfl, h2⟩, if_pos ⟨rfl, by omega⟩, if_pos ⟨rfl, by omega⟩]; omega
        · rw [show (if (1 : Int) = 1 ∧ c + 1 ≤ n then n + 1 else n) = n from if_neg (fun h => h3 h.2), show (if (1 : Int) = 1 ∧ a < n then n - 1 else n) = n - 1 from if_pos ⟨rfl, h2⟩, if_neg (by omega)]
      · rw [show (if (1 : Int) = 1 ∧ c + 1 ≤ n then n + 1 else n) = n from if_neg (by omega), show (if (1 : Int) = 1 ∧ a < n then n - 1 else n) = n from if_neg (fun h => h2 h.2), if_neg (by omega)]
    · rw [Tm.free, if_neg h1] at hf
      rw [Tm.sc] at hs
      rw [Tm.up, Tm.dn, Tm.dn, Tm.up, dnL_up1 ks op 0 a c k hs.2.2 h hf, if_neg (fun h => h1 h.1), if_neg (fun h => h1 h.1), if_neg (fun h => h1 h.1), if_neg (fun h => h1 h.1)]
theorem dnL_up1 : ∀ (l : List Tm) (op : Int) (i : Nat) (a c : Int) (k : Nat), Tm.scL op i l k → a ≤ c → Tm.freeL op i l a = false → Tm.dnL op i (Tm.upL op i l (c + 1)) a = Tm.upL op i (Tm.dnL op i l a) c
  | [], _, _, _, _, _, _, _, _ => rfl
  | t :: l, op, i, a, c, k, hs, h, hf => by
    rw [Tm.scL] at hs
    rw [Tm.freeL, Bool.or_eq_false_iff] at hf
    rw [Tm.upL, Tm.dnL, Tm.dnL, Tm.upL, show c + 1 + (bindN op i : Int) = c + (bindN op i : Int) + 1 by omega, dn_up1 t _ _ _ hs.1 (by omega) hf.1, dnL_up1 l op (i + 1) a c k hs.2 h hf.2]
end
theorem up_op (t : Tm) (c : Int) : (t.up c).op = t.op := by cases t; rfl
theorem zero_up (c : Int) : zeroTm.up c = zeroTm := by rw [zeroTm, Tm.up, if_neg (fun h => absurd h.1 (by decide)), Tm.upL]
theorem fnP_no {m : Int} {z b : Tm} (h : ∀ n1 f, b = .mk 5 n1 [f, .mk 1 0 []] → f.free 0 = false → False) (hb : ∀ n1 f n2 k2, b = .mk 5 n1 [f, .mk 1 n2 k2] → k2 = []) : fnP (.mk 4 m [z, b]) = .mk 4 m [z, b] := by
  unfold fnP
  split
  · rename_i h1
    simp only [Tm.mk.injEq, List.cons.injEq, and_true] at h1
    obtain ⟨_, _, _, rfl⟩ := h1
    rename_i n1 f o2 n2 k2
    split
    · rename_i hc
      obtain ⟨rfl, rfl, rfl, hf⟩ := hc
      have := hb _ _ _ _ rfl
      subst this
      exact absurd hf (fun hf => h _ _ rfl hf)
    · rfl
  · rfl
theorem fnP_yes (m : Int) (z : Tm) (n1 : Int) (f : Tm) (hf : f.free 0 = false) : fnP (.mk 4 m [z, .mk 5 n1 [f, .mk 1 0 []]]) = f.subst 0 0 zeroTm := by
  rw [fnP, if_pos ⟨rfl, rfl, rfl, hf⟩]
theorem fn_cases (b : Tm) (k : Nat) (hs : b.sc k) : (∃ n1 f, b = .mk 5 n1 [f, .mk 1 0 []] ∧ f.free 0 = false) ∨ (∀ m z, fnP (.mk 4 m [z, b]) = .mk 4 m [z, b]) ∧ (∀ n1 f, b = .mk 5 n1 [f, .mk 1 0 []] → f.free 0 = false → False) := by
  by_cases h : ∃ n1 f, b = .mk 5 n1 [f, .mk 1 0 []] ∧ f.free 0 = false
  · exact .inl h
  · have h2 : ∀ n1 f, b = .mk 5 n1 [f, .mk 1 0 []] → f.free 0 = false → False := fun n1 f h1 h2 => h ⟨n1, f, h1, h2⟩
    refine .inr ⟨fun m z => fnP_no h2 ?_, h2⟩
    intro n1 f n2 k2 he
    subst he
    rw [Tm.sc] at hs
    have := hs.2.2.2.1
    exact sc_var_nil this
theorem prP_yes (m : Int) (z : Tm) (n1 n2 : Int) (x : Tm) : prP (.mk 7 m [z, .mk 8 n1 [x], .mk 9 n2 [x]]) = x := by
  rw [prP, if_pos ⟨rfl, rfl, (same_eq x x).2 rfl⟩]
theorem pr_cases (a b : Tm) : (∃ n1 n2 x, a = .mk 8 n1 [x] ∧ b = .mk 9 n2 [x]) ∨ (∀ m z, prP (.mk 7 m [z, a, b]) = .mk 7 m [z, a, b]) ∧ (∀ n1 n2 x, a = .mk 8 n1 [x] → b = .mk 9 n2 [x] → False) := by
  by_cases h : ∃ n1 n2 x, a = .mk 8 n1 [x] ∧ b = .mk 9 n2 [x]
  · exact .inl h
  · refine .inr ⟨fun m z => ?_, fun n1 n2 x h1 h2 => h ⟨n1, n2, x, h1, h2⟩⟩
    unfold prP
    split
    · rename_i h1
      simp only [Tm.mk.injEq, List.cons.injEq, and_true] at h1
      obtain ⟨_, _, _, rfl, rfl⟩ := h1
      split
      · rename_i hc
        obtain ⟨rfl, rfl, hs⟩ := hc
        rw [(same_eq _ _).1 hs] at h
        exact absurd ⟨_, _, _, rfl, rfl⟩ h
      · rfl
    · rfl
theorem sck2 {op m : Int} {ks : List Tm} {k : Nat} (hs : (Tm.mk op m ks).sc k) (h : ar op = some 2) : ∃ a b, ks = [a, b] := by
  rw [Tm.sc] at hs
  have := hs.1
  rw [h, Option.some.injEq] at this
  match ks, this with
  | [a, b], _ => exact ⟨a, b, rfl⟩
theorem sck3 {op m : Int} {ks : List Tm} {k : Nat} (hs : (Tm.mk op m ks).sc k) (h : ar op = some 3) : ∃ a b c, ks = [a, b, c] := by
  rw [Tm.sc] at hs
  have := hs.1
  rw [h, Option.some.injEq] at this
  match ks, this with
  | [a, b, c], _ => exact ⟨a, b, c, rfl⟩
theorem up5 (n1 : Int) (f x : Tm) (c : Int) : (Tm.mk 5 n1 [f, x]).up c = .mk 5 n1 [f.up c, x.up c] := by
  rw [Tm.up, if_neg (fun h => absurd h.1 (by decide)), Tm.upL, Tm.upL, Tm.upL, show bindN 5 0 = 0 by decide, show bindN 5 (0 + 1) = 0 by decide, Int.natCast_zero, Int.add_zero]
theorem up4 (m : Int) (a b : Tm) (c : Int) : (Tm.mk 4 m [a, b]).up c = .mk 4 m [a.up c, b.up (c + 1)] := by
  rw [Tm.up, if_neg (fun h => absurd h.1 (by decide)), Tm.upL, Tm.upL, Tm.upL, show bindN 4 0 = 0 by decide, show bindN 4 (0 + 1) = 1 by decide, Int.natCast_zero, Int.add_zero]; rfl
theorem up1k {op : Int} (h1 : op ≠ 1) (hb : bindN op 0 = 0) (n1 : Int) (x : Tm) (c : Int) : (Tm.mk op n1 [x]).up c = .mk op n1 [x.up c] := by
  rw [Tm.up, if_neg (fun h => h1 h.1), Tm.upL, Tm.upL, hb, Int.natCast_zero, Int.add_zero]
theorem up7 (m : Int) (a b d : Tm) (c : Int) : (Tm.mk 7 m [a, b, d]).up c = .mk 7 m [a.up c, b.up c, d.up c] := by
  rw [Tm.up, if_neg (fun h => absurd h.1 (by decide)), Tm.upL, Tm.upL, Tm.upL, Tm.upL, show bindN 7 0 = 0 by decide, show bindN 7 (0 + 1) = 0 by decide, show bindN 7 (0 + 1 + 1) = 0 by decide, Int.natCast_zero, Int.add_zero]
theorem upv0 {c : Int} (hc : 0 < c) : (Tm.mk 1 0 []).up c = .mk 1 0 [] := by
  rw [Tm.up, if_neg (by omega), Tm.upL]
theorem up_v0 {x : Tm} {c : Int} (hc : 0 < c) (h : x.up c = .mk 1 0 []) : x = .mk 1 0 [] := by
  apply up_inj (c := c)
  rw [h, upv0 hc]
theorem eta5 (n1 : Int) (f x : Tm) : (Tm.mk 5 n1 [f, x]).eta = .mk 5 n1 [f.eta, x.eta] := by
  rw [Tm.eta, if_neg (by decide), if_neg (by decide), Tm.etaL, Tm.etaL, Tm.etaL]
theorem eta4 (m : Int) (a b : Tm) : (Tm.mk 4 m [a, b]).eta = fnP (.mk 4 m [zeroTm, b.eta]) := by
  rw [Tm.eta, if_pos rfl, Tm.etaL, Tm.etaL, Tm.etaL, setZ]
theorem eta7 (m : Int) (a b d : Tm) : (Tm.mk 7 m [a, b, d]).eta = prP (.mk 7 m [zeroTm, b.eta, d.eta]) := by
  rw [Tm.eta, if_neg (by decide), if_pos rfl, Tm.etaL, Tm.etaL, Tm.etaL, Tm.etaL, setZ]
theorem eta_v0 : (Tm.mk 1 0 []).eta = .mk 1 0 [] := by rw [Tm.eta, if_neg (by decide), if_neg (by decide), Tm.etaL]
theorem fnP_up {m : Int} {b : Tm} {c : Int} {k : Nat} (hc : 0 ≤ c) (hs : b.sc k) (hw : k + 2 * b.wt ≤ 900000000) : fnP (.mk 4 m [zeroTm, b.up (c + 1)]) = (fnP (.mk 4 m [zeroTm, b])).up c := by
  rcases fn_cases b k hs with ⟨n1, f, rfl, hf⟩ | ⟨h, hno⟩
  · rw [up5, upv0 (by omega), fnP_yes _ _ _ _ hf, fnP_yes _ _ _ _ (by rw [free_up _ _ _ (by omega)]; exact hf)]
    have hsf : f.sc k := by rw [Tm.sc] at hs; have := hs.2.2.1; rwa [show bindN 5 0 = 0 by decide] at this
    simp only [Tm.wt, Tm.wtL] at hw
    have hsu : (f.up (c + 1)).sc (k + 1) := by
      obtain ⟨c', hc'⟩ : ∃ c' : Nat, c + 1 = c' := ⟨(c + 1).toNat, by omega⟩
      rw [← shift_up f (c + 1) k hsf (by omega), hc']
      exact shift_sc f 1 c' k hsf (by omega)
    have hwu : (f.up (c + 1)).wt = f.wt := by rw [← shift_up f (c + 1) k hsf (by omega), shift_wt]
    rw [subst_dn f 0 0 k hsf (by omega) (by omega) hf, subst_dn (f.up (c + 1)) 0 0 (k + 1) hsu (by omega) (by omega) (by rw [free_up _ _ _ (by omega)]; exact hf), dn_up1 f 0 c k hsf hc hf]
  · rw [h, up4, zero_up]
    have h2 : ∀ n1 f, b.up (c + 1) = .mk 5 n1 [f, .mk 1 0 []] → f.free 0 = false → False := by
      intro n1 f he hf
      obtain ⟨op, n, ks⟩ := b
      have h5 : op = 5 := by have := up_op (.mk op n ks) (c + 1); rw [he] at this; exact this.symm
      subst h5
      obtain ⟨g, x, rfl⟩ := sck2 hs (by decide)
      rw [up5] at he
      simp only [Tm.mk.injEq, List.cons.injEq, and_true, true_and] at he
      obtain ⟨_, hg, hx⟩ := he
      have hx := up_v0 (by omega) hx
      subst hx hg
      exact hno n g rfl (by rwa [free_up _ _ _ (by omega)] at hf)
    refine fnP_no h2 ?_
    intro n1 f n2 k2 he
    obtain ⟨op, n, ks⟩ := b
    have h5 : op = 5 := by have := up_op (.mk op n ks) (c + 1); rw [he] at this; exact this.symm
    subst h5
    obtain ⟨g, x, rfl⟩ := sck2 hs (by decide)
    rw [up5] at he
    simp only [Tm.mk.injEq, List.cons.injEq, and_true, true_and] at he
    obtain ⟨_, hg, hx⟩ := he
    have hxo : x.op = 1 := by rw [← up_op x (c + 1), hx]; rfl
    obtain ⟨o, p, kx⟩ := x
    simp only [Tm.op] at hxo
    subst hxo
    rw [Tm.sc] at hs
    have := sc_var_nil hs.2.2.2.1
    subst this
    rw [Tm.up, Tm.upL] at hx
    simp only [Tm.mk.injEq] at hx
    exact hx.2.2.symm
theorem prP_up (m : Int) (a b : Tm) (c : Int) (k : Nat) (ha : a.sc k) (hb : b.sc k) : prP (.mk 7 m [zeroTm, a.up c, b.up c]) = (prP (.mk 7 m [zeroTm, a, b])).up c := by
  rcases pr_cases a b with ⟨n1, n2, x, rfl, rfl⟩ | ⟨h, hno⟩
  · rw [prP_yes, up1k (by decide) (by decide), up1k (by decide) (by decide), prP_yes]
  · rw [h, up7, zero_up]
    rcases pr_cases (a.up c) (b.up c) with ⟨n1, n2, x, h1, h2⟩ | ⟨h', _⟩
    · exfalso
      have o1 : a.op = 8 := by rw [← up_op a c, h1]; rfl
      have o2 : b.op = 9 := by rw [← up_op b c, h2]; rfl
      obtain ⟨oa, na, ka⟩ := a
      obtain ⟨ob, nb, kb⟩ := b
      simp only [Tm.op] at o1 o2
      subst o1 o2
      have l1 := sc_kids ha rfl (show ar 8 = some 1 by decide)
      have l2 := sc_kids hb rfl (show ar 9 = some 1 by decide)
      simp only [Tm.kids] at l1 l2
      match ka, l1, kb, l2 with
      | [y], _, [z], _ =>
        rw [up1k (by decide) (by decide)] at h1 h2
        simp only [Tm.mk.injEq, List.cons.injEq, and_true, true_and] at h1 h2
        have : y = z := up_inj (h1.2.trans h2.2.symm)
        subst this
        exact hno _ _ _ rfl rfl
    · exact h' _ _
mutual
theorem eta_up : ∀ (t : Tm) (c : Int) (k : Nat), 0 ≤ c → t.sc k → k + 2 * t.wt ≤ 800000000 → (t.up c).eta = (t.eta).up c
  | .mk op m ks, c, k, hc, hs, hw => by
    have hs0 := hs
    rw [Tm.sc] at hs
    simp only [Tm.wt] at hw
    have hl := etaL_up ks op 0 c k hc hs.2.2 (by omega)
    have hel := etaL_sc op 0 ks k hs.2.2 (by omega)
    by_cases h4 : op = 4
    · subst h4
      obtain ⟨a, b, rfl⟩ := sck2 hs0 (by decide)
      simp only [Tm.upL, Tm.etaL, List.cons.injEq, and_true] at hl
      simp only [Tm.etaL, Tm.scL, Tm.wtL] at hel
      rw [show bindN 4 (0 + 1) = 1 by decide] at hl hel
      simp only [Tm.wtL] at hw
      rw [up4, eta4, eta4, ← fnP_up hc hel.1.2.1 (by omega)]
      have := hl.2
      rw [show ((1 : Nat) : Int) = 1 from rfl] at this
      rw [this]
    · by_cases h7 : op = 7
      · subst h7
        obtain ⟨a, b, d, rfl⟩ := sck3 hs0 (by decide)
        simp only [Tm.upL, Tm.etaL, List.cons.injEq, and_true] at hl
        simp only [Tm.etaL, Tm.scL, Tm.wtL] at hel
        rw [show bindN 7 (0 + 1) = 0 by decide, show bindN 7 (0 + 1 + 1) = 0 by decide] at hl hel
        simp only [Int.natCast_zero, Int.add_zero] at hl
        rw [up7, eta7, eta7, ← prP_up _ _ _ _ _ hel.1.2.1 hel.1.2.2.1, hl.2.1, hl.2.2]
      · rw [Tm.up, Tm.eta, if_neg h4, if_neg h7, Tm.eta, if_neg h4, if_neg h7, Tm.up, hl]
theorem etaL_up : ∀ (l : List Tm) (op : Int) (i : Nat) (c : Int) (k : Nat), 0 ≤ c → Tm.scL op i l k → k + 2 + 2 * Tm.wtL l ≤ 800000000 → Tm.etaL (Tm.upL op i l c) = Tm.upL op i (Tm.etaL l) c
  | [], _, _, _, _, _, _, _ => rfl
  | t :: l, op, i, c, k, hc, hs, hw => by
    rw [Tm.scL] at hs
    rw [Tm.wtL] at hw
    have hb := bindN_le op i
    rw [Tm.upL, Tm.etaL, Tm.etaL, Tm.upL, eta_up t _ _ (by omega) hs.1 (by omega), etaL_up l op (i + 1) c k hc hs.2 (by omega)]
end
mutual
theorem eta_eta : ∀ (t : Tm) (k : Nat), t.sc k → k + 2 * t.wt ≤ 700000000 → t.eta.eta = t.eta
  | .mk op m ks, k, hs, hw => by
    have hs0 := hs
    rw [Tm.sc] at hs
    simp only [Tm.wt] at hw
    have hl := etaL_eta ks op 0 k hs.2.2 (by omega)
    have hel := etaL_sc op 0 ks k hs.2.2 (by omega)
    by_cases h4 : op = 4
    · subst h4
      obtain ⟨a, b, rfl⟩ := sck2 hs0 (by decide)
      simp only [Tm.etaL, List.cons.injEq, and_true] at hl
      simp only [Tm.etaL, Tm.scL, Tm.wtL] at hel
      rw [show bindN 4 (0 + 1) = 1 by decide] at hel
      simp only [Tm.wtL] at hw
      have hbs := hel.1.2.1
      have hbe := hl.2
      have hbw : b.eta.wt ≤ 1 + a.wt + b.wt := by have := hel.2; have := wt_pos a; have := wt_pos a.eta; omega
      rw [eta4]
      generalize b.eta = e at hbs hbe hbw
      rcases fn_cases e (k + 1) hbs with ⟨n1, f, rfl, hf⟩ | ⟨h, _⟩
      · rw [fnP_yes _ _ _ _ hf]
        have hsf : f.sc (k + 1) := by rw [Tm.sc] at hbs; have := hbs.2.2.1; rwa [show bindN 5 0 = 0 by decide] at this
        simp only [Tm.wt, Tm.wtL] at hbw
        rw [eta5] at hbe
        simp only [Tm.mk.injEq, List.cons.injEq, and_true, true_and] at hbe
        rw [subst_dn f 0 0 (k + 1) hsf (by omega) (by omega) hf]
        have hud := up_dn f 0 (k + 1) hsf hf
        have hds : (f.dn 0).sc k := by
          rw [← subst_dn f 0 0 (k + 1) hsf (by omega) (by omega) hf]
          exact subst_sc f zeroTm 0 k hsf (zero_sc k) (by simp only [zeroTm, Tm.wt, Tm.wtL]; omega)
        have hdw : (f.dn 0).wt ≤ f.wt := by
          rw [← subst_dn f 0 0 (k + 1) hsf (by omega) (by omega) hf]
          have := subst_wt f zeroTm 0 0
          rwa [show zeroTm.wt = 1 from rfl, Nat.mul_one] at this
        apply up_inj (c := 0)
        rw [← eta_up (f.dn 0) 0 k (by omega) hds (by omega), hud, hbe.1]
      · rw [h, eta4, hbe, h]
    · by_cases h7 : op = 7
      · subst h7
        obtain ⟨a, b, d, rfl⟩ := sck3 hs0 (by decide)
        simp only [Tm.etaL, List.cons.injEq, and_true] at hl
        rw [eta7]
        have h1 := hl.2.1
        have h2 := hl.2.2
        generalize b.eta = x at h1
        generalize d.eta = y at h2
        rcases pr_cases x y with ⟨n1, n2, z, rfl, rfl⟩ | ⟨h, _⟩
        · rw [prP_yes]
          rw [Tm.eta, if_neg (by decide), if_neg (by decide), Tm.etaL, Tm.etaL] at h1
          simp only [Tm.mk.injEq, List.cons.injEq, and_true, true_and] at h1
          exact h1
        · rw [h, eta7, h1, h2, h]
      · rw [Tm.eta, if_neg h4, if_neg h7, Tm.eta, if_neg h4, if_neg h7, hl]
theorem etaL_eta : ∀ (l : List Tm) (op : Int) (i : Nat) (k : Nat), Tm.scL op i l k → k + 2 + 2 * Tm.wtL l ≤ 700000000 → Tm.etaL (Tm.etaL l) = Tm.etaL l
  | [], _, _, _, _, _ => rfl
  | t :: l, op, i, k, hs, hw => by
    rw [Tm.scL] at hs
    rw [Tm.wtL] at hw
    have hb := bindN_le op i
    rw [Tm.etaL, Tm.etaL, eta_eta t _ hs.1 (by omega), etaL_eta l op (i + 1) k hs.2 (by omega)]
end
theorem eta_fun (n d : Tm) (k : Nat) (hs : n.sc k) (hw : k + 2 * n.wt ≤ 700000000) : (Tm.mk 4 0 [d, .mk 5 0 [n.shift 1 0, .mk 1 0 []]]).eta = n.eta := by
  have he := eta_sc n k hs (by omega)
  have hu : (n.eta.up 0).sc (k + 1) := by
    rw [← shift_up n.eta 0 k he.1 (by omega)]
    exact shift_sc n.eta 1 0 k he.1 (by omega)
  have hwu : (n.eta.up 0).wt = n.eta.wt := by rw [← shift_up n.eta 0 k he.1 (by omega), shift_wt]
  rw [eta4, eta5, eta_v0, shift_up n 0 k hs (by omega), eta_up n 0 k (by omega) hs (by omega), fnP_yes _ _ _ _ (free_up0 _ _), subst_dn _ 0 0 (k + 1) hu (by omega) (by omega) (free_up0 _ _), dn_up]
theorem eta_pair (n a : Tm) : (Tm.mk 7 0 [a, .mk 8 0 [n], .mk 9 0 [n]]).eta = n.eta := by
  have h8 : (Tm.mk 8 0 [n]).eta = .mk 8 0 [n.eta] := by rw [Tm.eta, if_neg (by decide), if_neg (by decide), Tm.etaL, Tm.etaL]
  have h9 : (Tm.mk 9 0 [n]).eta = .mk 9 0 [n.eta] := by rw [Tm.eta, if_neg (by decide), if_neg (by decide), Tm.etaL, Tm.etaL]
  rw [eta7, h8, h9, prP_yes]
set_option maxRecDepth 20000 in
set_option maxHeartbeats 8000000 in
theorem normEta_ok (l : List Tm) (hll : l.length ≤ 9223372036854775807) (r q : Tm) : ∃ N, AnsV (SS dt N 13 [.fv (.sl (l.map Tm.enc)), .fv r.enc, .fv q.enc] ⟨[], []⟩) (.bool true) := by
  obtain ⟨g, a, t, is, ⟨N0, h0⟩, hC, _⟩ := case_ev l hll r q false
  have hg4 := hC.len
  obtain ⟨u, e, ⟨N1, h1⟩, hN⟩ := norm_ev (k := g.length) (by omega) hC.tsc (by have := hC.tdp; omega)
  obtain ⟨n, hn⟩ : ∃ n, n = N0 + N1 + Tm.wtL l + r.wt + q.wt + 10000000000 := ⟨_, rfl⟩
  refine ⟨n + 1, ?_⟩
  have h0 := h0 n (by omega)
  have h1 := h1 n (by omega)
  have hk := known5_ok (n := n) (by omega)
  have hm := many_ok l hll (n := n) (by omega)
  obtain ⟨m, hmn⟩ : ∃ m, n = m + 1 := ⟨n - 1, by omega⟩
  have fr := few_ok (n := m) r (by omega)
  have fq := few_ok (n := m) q (by omega)
  rw [← hmn] at fr fq
  have hv := heavy_ok (n := n) (by omega) e
  rw [c13]
  generalize (FV.sl (l.map Tm.enc)) = le at *
  generalize manyT l = ml at hm
  generalize decide (r.count 300 < 300) = br at fr
  generalize decide (q.count 300 < 300) = bq at fq
  generalize gEnc g = ge at *
  cases ml
  · clear h0 h1 hC hN fr fq
    obtain ⟨o1, p1, k1⟩ := r
    obtain ⟨o2, p2, k2⟩ := q
    simp only [enc_mk]
    simp (maxSteps := 1000000) only [↓UU1, ↓XX, XY, ↓reduceIte, Nat.reduceBEq, Nat.reduceAdd, Int.cast_ofNat_Int, Int.reduceEq, Int.reduceLT, Int.reduceLE, ↓iso_0 hk, ↓iso_1 hm]; exact ansv
  cases br
  · clear h0 h1 hC hN fq
    obtain ⟨o1, p1, k1⟩ := r
    obtain ⟨o2, p2, k2⟩ := q
    simp only [enc_mk] at fr ⊢
    simp (maxSteps := 1000000) only [↓UU1, ↓XX, XY, ↓reduceIte, Nat.reduceBEq, Nat.reduceAdd, Int.cast_ofNat_Int, Int.reduceEq, Int.reduceLT, Int.reduceLE, ↓iso_0 hk, ↓iso_1 hm, ↓iso_1 fr]; exact ansv
  cases bq
  · clear h0 h1 hC hN
    obtain ⟨o1, p1, k1⟩ := r
    obtain ⟨o2, p2, k2⟩ := q
    simp only [enc_mk] at fr fq ⊢
    simp (maxSteps := 1000000) only [↓UU1, ↓XX, XY, ↓reduceIte, Nat.reduceBEq, Nat.reduceAdd, Int.cast_ofNat_Int, Int.reduceEq, Int.reduceLT, Int.reduceLE, ↓iso_0 hk, ↓iso_1 hm, ↓iso_1 fr, ↓iso_1 fq]; exact ansv
  cases is
  · clear hC hN hv
    obtain ⟨o1, p1, k1⟩ := r
    obtain ⟨o2, p2, k2⟩ := q
    obtain ⟨o3, p3, k3⟩ := a
    obtain ⟨o4, p4, k4⟩ := t
    obtain ⟨o5, p5, k5⟩ := u
    simp only [enc_mk] at fr fq h0 h1 ⊢
    simp (maxSteps := 1000000) only [↓UU1, ↓XX, XY, ↓reduceIte, Nat.reduceBEq, Nat.reduceAdd, Int.cast_ofNat_Int, Int.reduceEq, Int.reduceLT, Int.reduceLE, ↓iso_0 hk, ↓iso_1 hm, ↓iso_1 fr, ↓iso_1 fq, ↓iso_4 h0, ↓iso_1 h1]; exact ansv
  rcases hN with ⟨rfl, hu⟩ | ⟨he, _⟩
  case inr =>
    have hv' : (decide (e = 17) || decide (e = 5)) = true := by
      rcases he with rfl | rfl <;> rfl
    rw [hv'] at hv
    clear hC he hv'
    obtain ⟨o1, p1, k1⟩ := r
    obtain ⟨o2, p2, k2⟩ := q
    obtain ⟨o3, p3, k3⟩ := a
    obtain ⟨o4, p4, k4⟩ := t
    obtain ⟨o5, p5, k5⟩ := u
    simp only [enc_mk] at fr fq h0 h1 ⊢
    simp (maxSteps := 1000000) only [↓UU1, ↓XX, XY, ↓reduceIte, Nat.reduceBEq, Nat.reduceAdd, Int.cast_ofNat_Int, Int.reduceEq, Int.reduceLT, Int.reduceLE, ↓iso_0 hk, ↓iso_1 hm, ↓iso_1 fr, ↓iso_1 fq, ↓iso_4 h0, ↓iso_1 h1, ↓iso_1 hv]; exact ansv
  have hv' : (decide ((0 : Int) = 17) || decide ((0 : Int) = 5)) = false := rfl
  rw [hv'] at hv
  have us := hu.sc
  have uw := hu.wt
  have aw := hC.awt
  have asc := hC.asc
  have hx := peta_ok (n := n) (t := u) us (by omega) (by omega)
  have hrx := reta_ok n u g.length us (by omega) (by omega)
  have hes := eta_sc u g.length us (by omega)
  have hee := eta_eta u g.length us (by omega)
  have hxx := peta_ok (n := n) (t := u.eta) hes.1 (by omega) (by omega)
  rw [hee] at hxx
  have hsm := same_ok n u.eta u.eta (by omega) (by omega)
  rw [(same_eq u.eta u.eta).2 rfl] at hsm
  by_cases a3 : a.op = 3 ∧ u.op ≠ 4
  · obtain ⟨d, c, hl⟩ : ∃ d c, a = .mk 3 0 [d, c] := by
      obtain ⟨oa, na, ka⟩ := a
      have h3 := a3.1
      simp only [Tm.op] at h3
      subst h3
      obtain ⟨d, c, rfl⟩ := sck2 asc (by decide)
      have : na = 0 := by
        rw [Tm.sc] at asc
        have := asc.2.1
        rw [if_neg (by decide), numok, if_neg (by decide), if_neg (by decide), if_neg (by decide)] at this
        exact this
      subst this
      exact ⟨d, c, rfl⟩
    subst hl
    have hsh := shift_ok n u 1 0 (by omega) (sc_wk _ _ us) (by omega) (by omega)
    have hv0 := v_ok (n := n) (by omega) 0
    have ht5 := t_ok (n := n) (by omega) 5 [u.shift 1 0, .mk 1 0 []]
    have ht4 := t_ok (n := n) (by omega) 4 [d, .mk 5 0 [u.shift 1 0, .mk 1 0 []]]
    have hds : d.sc g.length := by
      rw [Tm.sc] at asc
      exact asc.2.2.1
    have hss := shift_sc u 1 0 g.length us (by omega)
    have hsw := shift_wt u 1 0
    have hdw : d.wt ≤ 32768010 := by simp only [Tm.wt, Tm.wtL] at aw; omega
    have hLs : (Tm.mk 4 0 [d, .mk 5 0 [u.shift 1 0, .mk 1 0 []]]).sc g.length := by
      refine sc_mk2 (by decide) (by decide) (num0 (by decide) (by decide) (by decide)) hds (sc_mk2 (by decide) (by decide) (num0 (by decide) (by decide) (by decide)) hss (sc_var (by omega) ?_))
      rw [show bindN 4 1 = 1 by decide, show bindN 5 1 = 0 by decide]; omega
    have hp := peta_ok (n := n) (t := .mk 4 0 [d, .mk 5 0 [u.shift 1 0, .mk 1 0 []]]) hLs (by simp only [Tm.wt, Tm.wtL]; rw [shift_wt]; omega) (by simp only [Tm.wt, Tm.wtL]; rw [shift_wt]; omega)
    rw [eta_fun u d g.length us (by omega)] at hp
    have hu4 := a3.2
    clear hC hu us uw aw asc hes hee hds hss hsw hdw hLs a3
    generalize u.shift 1 0 = su at hsh ht5 ht4 hp
    generalize u.eta = x at hx hrx hxx hsm hp
    obtain ⟨o1, p1, k1⟩ := r
    obtain ⟨o2, p2, k2⟩ := q
    obtain ⟨o3, p3, k3⟩ := d
    obtain ⟨o4, p4, k4⟩ := t
    obtain ⟨o5, p5, k5⟩ := u
    obtain ⟨o6, p6, k6⟩ := x
    obtain ⟨o7, p7, k7⟩ := su
    obtain ⟨o8, p8, k8⟩ := c
    simp only [Tm.op] at hu4
    simp only [enc_mk, List.map_cons, List.map_nil] at fr fq h0 h1 hx hrx hxx hsm hsh hv0 ht5 ht4 hp ⊢
    simp (maxSteps := 1000000) only [↓UU1, ↓XX, XY, ↓reduceIte, Nat.reduceBEq, Nat.reduceAdd, Int.cast_ofNat_Int, Int.reduceEq, Int.reduceLT, Int.reduceLE, ↓iso_0 hk, ↓iso_1 hm, ↓iso_1 fr, ↓iso_1 fq, ↓iso_4 h0, ↓iso_1 h1, ↓iso_1 hv, ↓iso_1 hx, ↓iso_1 hrx, ↓iso_1 hxx, ↓iso_2 hsm, hu4, ↓ixt0, ↓iso_3 hsh, ↓iso_1 hv0, ↓bs2_g, ↓iso_2 ht5, ↓iso_2 ht4, ↓iso_1 hp]
    exact ansv
  · by_cases a6 : a.op = 6 ∧ u.op ≠ 7
    · have ht8 := t_ok (n := n) (by omega) 8 [u]
      have ht9 := t_ok (n := n) (by omega) 9 [u]
      have ht7 := t_ok (n := n) (by omega) 7 [a, .mk 8 0 [u], .mk 9 0 [u]]
      have hLs : (Tm.mk 7 0 [a, .mk 8 0 [u], .mk 9 0 [u]]).sc g.length := by
        refine sc_mk3 (by decide) (by decide) (num0 (by decide) (by decide) (by decide)) asc (sc_mk1 (by decide) (by decide) (num0 (by decide) (by decide) (by decide)) us) (sc_mk1 (by decide) (by decide) (num0 (by decide) (by decide) (by decide)) us)
      have hp := peta_ok (n := n) (t := .mk 7 0 [a, .mk 8 0 [u], .mk 9 0 [u]]) hLs (by simp only [Tm.wt, Tm.wtL]; omega) (by simp only [Tm.wt, Tm.wtL]; omega)
      rw [eta_pair u a] at hp
      have hu4 := a6.2
      have ha6 := a6.1
      clear hC hu us uw aw asc hes hee hLs a3 a6
      generalize u.eta = x at hx hrx hxx hsm hp
      obtain ⟨o1, p1, k1⟩ := r
      obtain ⟨o2, p2, k2⟩ := q
      obtain ⟨o3, p3, k3⟩ := a
      obtain ⟨o4, p4, k4⟩ := t
      obtain ⟨o5, p5, k5⟩ := u
      obtain ⟨o6, p6, k6⟩ := x
      simp only [Tm.op] at hu4 ha6
      subst ha6
      simp only [enc_mk, List.map_cons, List.map_nil] at fr fq h0 h1 hx hrx hxx hsm ht8 ht9 ht7 hp ⊢
      simp (maxSteps := 1000000) only [↓UU1, ↓XX, XY, ↓reduceIte, Nat.reduceBEq, Nat.reduceAdd, Int.cast_ofNat_Int, Int.reduceEq, Int.reduceLT, Int.reduceLE, ↓iso_0 hk, ↓iso_1 hm, ↓iso_1 fr, ↓iso_1 fq, ↓iso_4 h0, ↓iso_1 h1, ↓iso_1 hv, ↓iso_1 hx, ↓iso_1 hrx, ↓iso_1 hxx, ↓iso_2 hsm, hu4, ↓bs1_g, ↓bs3_g, ↓iso_2 ht8, ↓iso_2 ht9, ↓iso_2 ht7, ↓iso_1 hp]
      exact ansv
    · clear hC hu us uw aw asc hes hee
      generalize u.eta = x at hx hrx hxx hsm
      obtain ⟨o1, p1, k1⟩ := r
      obtain ⟨o2, p2, k2⟩ := q
      obtain ⟨o3, p3, k3⟩ := a
      obtain ⟨o4, p4, k4⟩ := t
      obtain ⟨o5, p5, k5⟩ := u
      obtain ⟨o6, p6, k6⟩ := x
      simp only [Tm.op] at a3 a6
      simp only [enc_mk, List.map_cons, List.map_nil] at fr fq h0 h1 hx hrx hxx hsm ⊢
      by_cases c3 : o3 = 3
      · have c4 : o5 = 4 := by
          by_cases h : o5 = 4
          · exact h
          · exact absurd ⟨c3, h⟩ a3
        have c6 : ¬ o3 = 6 := by omega
        simp (maxSteps := 1000000) only [↓UU1, ↓XX, XY, ↓reduceIte, Nat.reduceBEq, Nat.reduceAdd, Int.cast_ofNat_Int, Int.reduceEq, Int.reduceLT, Int.reduceLE, ↓iso_0 hk, ↓iso_1 hm, ↓iso_1 fr, ↓iso_1 fq, ↓iso_4 h0, ↓iso_1 h1, ↓iso_1 hv, ↓iso_1 hx, ↓iso_1 hrx, ↓iso_1 hxx, ↓iso_2 hsm, c3, c4]
        exact ansv
      · by_cases c6 : o3 = 6
        · have c7 : o5 = 7 := by
            by_cases h : o5 = 7
            · exact h
            · exact absurd ⟨c6, h⟩ a6
          simp (maxSteps := 1000000) only [↓UU1, ↓XX, XY, ↓reduceIte, Nat.reduceBEq, Nat.reduceAdd, Int.cast_ofNat_Int, Int.reduceEq, Int.reduceLT, Int.reduceLE, ↓iso_0 hk, ↓iso_1 hm, ↓iso_1 fr, ↓iso_1 fq, ↓iso_4 h0, ↓iso_1 h1, ↓iso_1 hv, ↓iso_1 hx, ↓iso_1 hrx, ↓iso_1 hxx, ↓iso_2 hsm, c3, c6, c7]
          exact ansv
        · simp (maxSteps := 1000000) only [↓UU1, ↓XX, XY, ↓reduceIte, Nat.reduceBEq, Nat.reduceAdd, Int.cast_ofNat_Int, Int.reduceEq, Int.reduceLT, Int.reduceLE, ↓iso_0 hk, ↓iso_1 hm, ↓iso_1 fr, ↓iso_1 fq, ↓iso_4 h0, ↓iso_1 h1, ↓iso_1 hv, ↓iso_1 hx, ↓iso_1 hrx, ↓iso_1 hxx, ↓iso_2 hsm, c3, c6]
          exact ansv
end Idl
end Go.Proofs.Ytbkdidonegggdaa

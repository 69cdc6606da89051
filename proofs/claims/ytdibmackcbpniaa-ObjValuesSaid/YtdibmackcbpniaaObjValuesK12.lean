/-
  Texts of a proof, part 12: an ideal semantics of the program, its functions in shallow form, contracts of them. No statement of the seat is proved here.
-/
import Derived.Test.YtdibmackcbpniaaObjValuesK11
set_option linter.all false
namespace Go.Proofs.Ytdibmackcbpniaa
namespace Idl
set_option maxRecDepth 20000 in
theorem inf_ok (M : Nat) (hM : 3000 ≤ M) (hM2 : M ≤ 1000000) : ∀ (n : Nat) (t : Tm) (g : List Tm), t.shp → t.wt ≤ M → (∀ x ∈ g, x.typed = true ∧ x.wt ≤ M) → g.length + t.wt ≤ 900000 → 4 * t.wt + 6 * M + 60 < n → InfAt n g t := by
  intro n
  induction n using Nat.strongRecOn with
  | ind n ih =>
    intro t g hs hw hg hl hn
    obtain ⟨n, rfl⟩ : ∃ k, n = k + 1 := ⟨n - 1, by omega⟩
    obtain ⟨op, m, l⟩ := t
    have hs0 := hs
    rw [Tm.shp] at hs
    obtain ⟨hk, hv, hsl⟩ := hs
    simp only [Tm.wt] at hw hl hn
    have hof := of0_ok (n := n) (by omega) 15
    have hti := fun (k : Nat) => inf_typed M hM k
    have hgx : ∀ a : Tm, a.typed = true ∧ a.wt ≤ M → ∀ x ∈ g ++ [a], x.typed = true ∧ x.wt ≤ M := by
      intro a ha x hx
      rcases List.mem_append.1 hx with h | h
      · exact hg x h
      · rw [List.mem_singleton.1 h]; exact ha
    have hck : ∀ (c a : Tm) (g' : List Tm) (k : Nat), k + 1 ≤ n → c.shp → c.wt ≤ M → (∀ x ∈ g', x.typed = true ∧ x.wt ≤ M) → g'.length + c.wt ≤ 900000 → 4 * c.wt + 6 * M + 60 < k → a.wt ≤ M →
        Ans (SS dt (k + 1) 73 [.fv (.sl (g'.map Tm.enc)), .fv c.enc, .fv a.enc] ⟨[], []⟩) (.int .i64 (chkT (c.inf g') a)) :=
      fun c a g' k hk h1 h2 h3 h4 h5 h6 => pchk_ok (ih k (by omega) c g' h1 h2 h3 h4 h5) (by omega) (by omega)
    show AnsT _ _
    rw [c53]
    by_cases o1 : op = 1
    · subst o1
      have := len0 hk
      subst this
      have hm := hv rfl
      rw [Tm.inf, if_pos rfl, enc_mk]
      by_cases h2 : (g.length : Int) ≤ m
      · rw [if_pos h2]
        refine ansTe (u := .z) ?_ (by decide)
        simp only [S53_213, S53_214, S53_215, S53_216, S53_217, S53_218, S53_219, S53_220, S53_221, S53_222, S53_223, S53_224, S53_225, S53_226, S53_227, S53_228, S53_229, S53_230, S53_231, S53_232, S53_233, S53_234, S53_235, S53_236, S53_237, S53_238, S53_239, S53_240, S53_241, S53_242, S53_243, S53, ↓XX, ↓reduceIte, Nat.reduceBEq, decide_true, decide_false, Bool.not_true, Bool.not_false, List.map_cons, List.map_nil, List.length_map, List.length_cons, List.length_nil, Nat.reduceAdd, Int.cast_ofNat_Int, Int.natCast_zero, Int.natCast_one, Bool.false_eq_true, Bool.true_eq_false, decide_eq_true_eq, eq_self, Int.reduceEq, Int.reduceLT, Int.reduceLE, Bool.and_true, Bool.true_and, Bool.and_false, Bool.false_and, Nat.zero_add, h2, Tm.z, enc_mk]; first | exact ans_fv _ _ | exact ans_t rfl (by simp) _
      · rw [if_neg h2]
        have hlt : g.length - 1 - m.toNat < g.length := by omega
        have hget : g[g.length - 1 - m.toNat]? = some (g.getD (g.length - 1 - m.toNat) .z) := by
          rw [List.getD_eq_getElem?_getD, List.getElem?_eq_getElem hlt]; rfl
        have w1 : w64 ((g.length : Int) - 1) = (g.length : Int) - 1 := by rw [w64_id] <;> omega
        have w2 : w64 ((g.length : Int) - 1 - m) = ((g.length - 1 - m.toNat : Nat) : Int) := by rw [w64_id (by omega) (by omega)]; omega
        refine ansT ?_
        generalize g.getD (g.length - 1 - m.toNat) .z = x at hget ⊢
        obtain ⟨o, p, k⟩ := x
        simp only [S53_213, S53_214, S53_215, S53_216, S53_217, S53_218, S53_219, S53_220, S53_221, S53_222, S53_223, S53_224, S53_225, S53_226, S53_227, S53_228, S53_229, S53_230, S53_231, S53_232, S53_233, S53_234, S53_235, S53_236, S53_237, S53_238, S53_239, S53_240, S53_241, S53_242, S53_243, S53, ↓XX, ↓reduceIte, Nat.reduceBEq, decide_true, decide_false, Bool.not_true, Bool.not_false, List.map_cons, List.map_nil, List.length_map, List.length_cons, List.length_nil, Nat.reduceAdd, Int.cast_ofNat_Int, Int.natCast_zero, Int.natCast_one, Bool.false_eq_true, Bool.true_eq_false, decide_eq_true_eq, eq_self, Int.reduceEq, Int.reduceLT, Int.reduceLE, Bool.and_true, Bool.true_and, Bool.and_false, Bool.false_and, Nat.zero_add, h2, w1, w2, ↓ix_f (map_get hget) (agg3l _ _ _), ↓agg3, enc_mk]; first | exact ans_fv _ _ | exact ans_t rfl (by simp) _
    by_cases o2 : op = 25
    · subst o2
      have := len0 hk
      subst this
      rw [Tm.inf, if_neg (by decide), if_pos rfl, enc_mk]
      refine ansT ?_
      simp only [S53_213, S53_214, S53_215, S53_216, S53_217, S53_218, S53_219, S53_220, S53_221, S53_222, S53_223, S53_224, S53_225, S53_226, S53_227, S53_228, S53_229, S53_230, S53_231, S53_232, S53_233, S53_234, S53_235, S53_236, S53_237, S53_238, S53_239, S53_240, S53_241, S53_242, S53_243, S53, ↓XX, ↓reduceIte, Nat.reduceBEq, decide_true, decide_false, Bool.not_true, Bool.not_false, List.map_cons, List.map_nil, List.length_map, List.length_cons, List.length_nil, Nat.reduceAdd, Int.cast_ofNat_Int, Int.natCast_zero, Int.natCast_one, Bool.false_eq_true, Bool.true_eq_false, decide_eq_true_eq, eq_self, Int.reduceEq, Int.reduceLT, Int.reduceLE, Bool.and_true, Bool.true_and, Bool.and_false, Bool.false_and, Nat.zero_add, ↓iso_2 hof, tI, enc_mk]; first | exact ans_fv _ _ | exact ans_t rfl (by simp) _
    by_cases o3 : op = 26
    · subst o3
      obtain ⟨a, b, rfl⟩ := len2 hk
      simp only [Tm.wtL] at hw hl hn
      obtain ⟨k, rfl⟩ : ∃ k, n = k + 1 := ⟨n - 1, by omega⟩
      have htw : tI.wt ≤ M := by simp [tI, Tm.wt, Tm.wtL]; omega
      have ha := hck a tI g k (by omega) hsl.1 (by omega) hg (by omega) (by omega) htw
      have hb := hck b tI g k (by omega) hsl.2.1 (by omega) hg (by omega) (by omega) htw
      rw [Tm.inf, if_pos rfl]
      generalize chkT (a.inf g) tI = x at ha ⊢
      generalize chkT (b.inf g) tI = y at hb ⊢
      by_cases h : x = 0
      · rw [if_pos h]
        refine ansT ?_
        subst h
        obtain ⟨o1, n1, k1⟩ := a
        obtain ⟨o2, n2, k2⟩ := b
        simp only [enc_mk, tI, List.map_cons, List.map_nil] at ha hb ⊢
        simp only [S53_213, S53_214, S53_215, S53_216, S53_217, S53_218, S53_219, S53_220, S53_221, S53_222, S53_223, S53_224, S53_225, S53_226, S53_227, S53_228, S53_229, S53_230, S53_231, S53_232, S53_233, S53_234, S53_235, S53_236, S53_237, S53_238, S53_239, S53_240, S53_241, S53_242, S53_243, S53, ↓XX, ↓reduceIte, Nat.reduceBEq, decide_true, decide_false, Bool.not_true, Bool.not_false, List.map_cons, List.map_nil, List.length_map, List.length_cons, List.length_nil, Nat.reduceAdd, Int.cast_ofNat_Int, Int.natCast_zero, Int.natCast_one, Bool.false_eq_true, Bool.true_eq_false, decide_eq_true_eq, eq_self, Int.reduceEq, Int.reduceLT, Int.reduceLE, Bool.and_true, Bool.true_and, Bool.and_false, Bool.false_and, Nat.zero_add, ↓iso_2 hof, ↓ixt0, ↓ixt1, ↓iso_3 ha, ↓iso_3 hb]; first | exact ans_fv _ _ | exact ans_t rfl (by simp) _
      · rw [if_neg h]
        refine ansTe (u := .z) ?_ h
        obtain ⟨o1, n1, k1⟩ := a
        obtain ⟨o2, n2, k2⟩ := b
        simp only [enc_mk, tI, List.map_cons, List.map_nil] at ha hb ⊢
        simp only [S53_213, S53_214, S53_215, S53_216, S53_217, S53_218, S53_219, S53_220, S53_221, S53_222, S53_223, S53_224, S53_225, S53_226, S53_227, S53_228, S53_229, S53_230, S53_231, S53_232, S53_233, S53_234, S53_235, S53_236, S53_237, S53_238, S53_239, S53_240, S53_241, S53_242, S53_243, S53, ↓XX, ↓reduceIte, Nat.reduceBEq, decide_true, decide_false, Bool.not_true, Bool.not_false, List.map_cons, List.map_nil, List.length_map, List.length_cons, List.length_nil, Nat.reduceAdd, Int.cast_ofNat_Int, Int.natCast_zero, Int.natCast_one, Bool.false_eq_true, Bool.true_eq_false, decide_eq_true_eq, eq_self, Int.reduceEq, Int.reduceLT, Int.reduceLE, Bool.and_true, Bool.true_and, Bool.and_false, Bool.false_and, Nat.zero_add, ↓iso_2 hof, ↓ixt0, ↓ixt1, ↓iso_3 ha, h, Tm.z, enc_mk]; first | exact ans_fv _ _ | exact ans_t rfl (by simp) _
    by_cases o4 : op = 20 ∨ op = 29
    · have hk2 : kidsN op = 2 := by rcases o4 with rfl | rfl <;> rfl
      obtain ⟨a, b, rfl⟩ := len2 (hk.trans hk2)
      simp only [Tm.wtL] at hw hl hn
      obtain ⟨k, rfl⟩ : ∃ k, n = k + 1 + 1 := ⟨n - 2, by omega⟩
      obtain ⟨u, hu, hue⟩ := binder_ok (n := k + 1) (g := g) (op := op) (m := m) (a := a) (b := b) o4 (by omega) (by omega) (fun h => ih (k + 1) (by omega) b (g ++ [a]) hsl.2.1 (by omega) (hgx a ⟨h, by omega⟩) (by simp; omega) (by omega))
        (fun h => hck b a (g ++ [a]) k (by omega) hsl.2.1 (by omega) (hgx a ⟨h, by omega⟩) (by simp; omega) (by omega) (by omega))
        (fun h h0 => by have := (hti _ b (g ++ [a]) (Nat.lt_succ_self _) (by omega) (hgx a ⟨h, by omega⟩) hsl.2.1 h0).2; omega)
      refine ⟨u, ?_, hue⟩
      generalize (Tm.mk op m [a, b]).inf g = q at hu ⊢
      obtain ⟨e, r⟩ := q
      obtain ⟨o1, n1, k1⟩ := u
      simp only [enc_mk] at hu ⊢
      rcases o4 with rfl | rfl <;> (simp only [S53_213, S53_214, S53_215, S53_216, S53_217, S53_218, S53_219, S53_220, S53_221, S53_222, S53_223, S53_224, S53_225, S53_226, S53_227, S53_228, S53_229, S53_230, S53_231, S53_232, S53_233, S53_234, S53_235, S53_236, S53_237, S53_238, S53_239, S53_240, S53_241, S53_242, S53_243, S53, ↓XX, ↓reduceIte, Nat.reduceBEq, decide_true, decide_false, Bool.not_true, Bool.not_false, List.map_cons, List.map_nil, List.length_map, List.length_cons, List.length_nil, Nat.reduceAdd, Int.cast_ofNat_Int, Int.natCast_zero, Int.natCast_one, Bool.false_eq_true, Bool.true_eq_false, decide_eq_true_eq, eq_self, Int.reduceEq, Int.reduceLT, Int.reduceLE, Bool.and_true, Bool.true_and, Bool.and_false, Bool.false_and, Nat.zero_add, ↓iso_2 hu]; first | exact ans_fv _ _ | exact ans_t rfl (by simp) _)
    by_cases o5 : op = 28
    · subst o5
      obtain ⟨a, b, rfl⟩ := len2 hk
      simp only [Tm.wtL] at hw hl hn
      have hpa := wt_pos a
      have hpb := wt_pos b
      have hta := hti _ a g (Nat.lt_succ_self _) (by omega) hg hsl.1
      obtain ⟨u, hu, he⟩ := ih n (by omega) a g hsl.1 (by omega) hg (by omega) (by omega)
      rw [Tm.inf, if_neg (by decide), if_neg (by decide), if_neg (by decide), if_pos rfl]
      generalize a.inf g = q at hu he hta ⊢
      obtain ⟨e, r⟩ := q
      simp only at hu he hta ⊢
      by_cases h : e = 0
      · have := he h
        subst this h
        rw [if_pos rfl]
        have hwi := with_ok (n := n) g u (by omega) (by omega)
        obtain ⟨v, hv2, hve⟩ := ih n (by omega) b (g ++ [u]) hsl.2.1 (by omega) (hgx u (hta rfl)) (by simp; omega) (by omega)
        refine ⟨v, ?_, hve⟩
        generalize b.inf (g ++ [u]) = q at hv2 ⊢
        obtain ⟨o1, n1, k1⟩ := a
        obtain ⟨o2, n2, k2⟩ := b
        obtain ⟨o3, n3, k3⟩ := u
        obtain ⟨o4, n4, k4⟩ := v
        simp only [enc_mk, List.map_cons, List.map_nil, List.map_append] at hu hv2 hwi ⊢
        simp only [S53_213, S53_214, S53_215, S53_216, S53_217, S53_218, S53_219, S53_220, S53_221, S53_222, S53_223, S53_224, S53_225, S53_226, S53_227, S53_228, S53_229, S53_230, S53_231, S53_232, S53_233, S53_234, S53_235, S53_236, S53_237, S53_238, S53_239, S53_240, S53_241, S53_242, S53_243, S53, ↓XX, ↓reduceIte, Nat.reduceBEq, decide_true, decide_false, Bool.not_true, Bool.not_false, List.map_cons, List.map_nil, List.length_map, List.length_cons, List.length_nil, Nat.reduceAdd, Int.cast_ofNat_Int, Int.natCast_zero, Int.natCast_one, Bool.false_eq_true, Bool.true_eq_false, decide_eq_true_eq, eq_self, Int.reduceEq, Int.reduceLT, Int.reduceLE, Bool.and_true, Bool.true_and, Bool.and_false, Bool.false_and, Nat.zero_add, ↓ixt0, ↓ixt1, ↓iso_2 hu, ↓iso_2 hwi, ↓iso_2 hv2]; first | exact ans_fv _ _ | exact ans_t rfl (by simp) _
      · rw [if_neg h]
        refine ansTe (u := .z) ?_ h
        obtain ⟨o1, n1, k1⟩ := a
        obtain ⟨o2, n2, k2⟩ := b
        obtain ⟨o3, n3, k3⟩ := u
        simp only [enc_mk, List.map_cons, List.map_nil] at hu ⊢
        simp only [S53_213, S53_214, S53_215, S53_216, S53_217, S53_218, S53_219, S53_220, S53_221, S53_222, S53_223, S53_224, S53_225, S53_226, S53_227, S53_228, S53_229, S53_230, S53_231, S53_232, S53_233, S53_234, S53_235, S53_236, S53_237, S53_238, S53_239, S53_240, S53_241, S53_242, S53_243, S53, ↓XX, ↓reduceIte, Nat.reduceBEq, decide_true, decide_false, Bool.not_true, Bool.not_false, List.map_cons, List.map_nil, List.length_map, List.length_cons, List.length_nil, Nat.reduceAdd, Int.cast_ofNat_Int, Int.natCast_zero, Int.natCast_one, Bool.false_eq_true, Bool.true_eq_false, decide_eq_true_eq, eq_self, Int.reduceEq, Int.reduceLT, Int.reduceLE, Bool.and_true, Bool.true_and, Bool.and_false, Bool.false_and, Nat.zero_add, ↓ixt0, ↓ixt1, ↓iso_2 hu, h, Tm.z, enc_mk]; first | exact ans_fv _ _ | exact ans_t rfl (by simp) _
    by_cases o6 : op = 27
    · subst o6
      obtain ⟨a, b, c, rfl⟩ := len3 hk
      simp only [Tm.wtL] at hw hl hn
      obtain ⟨k, rfl⟩ : ∃ k, n = k + 1 := ⟨n - 1, by omega⟩
      have htw : tI.wt ≤ M := by simp [tI, Tm.wt, Tm.wtL]; omega
      have ha := hck a tI g k (by omega) hsl.1 (by omega) hg (by omega) (by omega) htw
      rw [Tm.inf, if_pos rfl]
      generalize chkT (a.inf g) tI = x at ha ⊢
      by_cases h : x = 0
      · subst h
        rw [if_pos rfl]
        obtain ⟨u, hu, he⟩ := ih (k + 1) (by omega) b g hsl.2.1 (by omega) hg (by omega) (by omega)
        have htb := hti _ b g (Nat.lt_succ_self _) (by omega) hg hsl.2.1
        have hc := fun (y : Tm) (hy : y.wt ≤ M) => hck c y g k (by omega) hsl.2.2.1 (by omega) hg (by omega) (by omega) hy
        generalize b.inf g = q at hu he htb ⊢
        obtain ⟨e, r⟩ := q
        simp only at hu he htb ⊢
        by_cases h : e = 0
        · have := he h
          subst this h
          rw [if_pos rfl]
          have hc := hc u (htb rfl).2
          refine ansT ?_
          generalize chkT (c.inf g) u = w at hc ⊢
          obtain ⟨o1, n1, k1⟩ := a
          obtain ⟨o2, n2, k2⟩ := b
          obtain ⟨o3, n3, k3⟩ := c
          obtain ⟨o4, n4, k4⟩ := u
          simp only [enc_mk, tI, List.map_cons, List.map_nil] at ha hu hc ⊢
          simp only [S53_213, S53_214, S53_215, S53_216, S53_217, S53_218, S53_219, S53_220, S53_221, S53_222, S53_223, S53_224, S53_225, S53_226, S53_227, S53_228, S53_229, S53_230, S53_231, S53_232, S53_233, S53_234, S53_235, S53_236, S53_237, S53_238, S53_239, S53_240, S53_241, S53_242, S53_243, S53, ↓XX, ↓reduceIte, Nat.reduceBEq, decide_true, decide_false, Bool.not_true, Bool.not_false, List.map_cons, List.map_nil, List.length_map, List.length_cons, List.length_nil, Nat.reduceAdd, Int.cast_ofNat_Int, Int.natCast_zero, Int.natCast_one, Bool.false_eq_true, Bool.true_eq_false, decide_eq_true_eq, eq_self, Int.reduceEq, Int.reduceLT, Int.reduceLE, Bool.and_true, Bool.true_and, Bool.and_false, Bool.false_and, Nat.zero_add, ↓iso_2 hof, ↓ixt0, ↓ixt1, ↓ixt2, ↓iso_3 ha, ↓iso_2 hu, ↓iso_3 hc]; first | exact ans_fv _ _ | exact ans_t rfl (by simp) _
        · rw [if_neg h]
          refine ansTe (u := .z) ?_ h
          obtain ⟨o1, n1, k1⟩ := a
          obtain ⟨o2, n2, k2⟩ := b
          obtain ⟨o3, n3, k3⟩ := c
          obtain ⟨o4, n4, k4⟩ := u
          simp only [enc_mk, tI, List.map_cons, List.map_nil] at ha hu ⊢
          simp only [S53_213, S53_214, S53_215, S53_216, S53_217, S53_218, S53_219, S53_220, S53_221, S53_222, S53_223, S53_224, S53_225, S53_226, S53_227, S53_228, S53_229, S53_230, S53_231, S53_232, S53_233, S53_234, S53_235, S53_236, S53_237, S53_238, S53_239, S53_240, S53_241, S53_242, S53_243, S53, ↓XX, ↓reduceIte, Nat.reduceBEq, decide_true, decide_false, Bool.not_true, Bool.not_false, List.map_cons, List.map_nil, List.length_map, List.length_cons, List.length_nil, Nat.reduceAdd, Int.cast_ofNat_Int, Int.natCast_zero, Int.natCast_one, Bool.false_eq_true, Bool.true_eq_false, decide_eq_true_eq, eq_self, Int.reduceEq, Int.reduceLT, Int.reduceLE, Bool.and_true, Bool.true_and, Bool.and_false, Bool.false_and, Nat.zero_add, ↓iso_2 hof, ↓ixt0, ↓ixt1, ↓ixt2, ↓iso_3 ha, ↓iso_2 hu, h, Tm.z, enc_mk]; first | exact ans_fv _ _ | exact ans_t rfl (by simp) _
      · rw [if_neg h]
        refine ansTe (u := .z) ?_ h
        obtain ⟨o1, n1, k1⟩ := a
        obtain ⟨o2, n2, k2⟩ := b
        obtain ⟨o3, n3, k3⟩ := c
        simp only [enc_mk, tI, List.map_cons, List.map_nil] at ha ⊢
        simp only [S53_213, S53_214, S53_215, S53_216, S53_217, S53_218, S53_219, S53_220, S53_221, S53_222, S53_223, S53_224, S53_225, S53_226, S53_227, S53_228, S53_229, S53_230, S53_231, S53_232, S53_233, S53_234, S53_235, S53_236, S53_237, S53_238, S53_239, S53_240, S53_241, S53_242, S53_243, S53, ↓XX, ↓reduceIte, Nat.reduceBEq, decide_true, decide_false, Bool.not_true, Bool.not_false, List.map_cons, List.map_nil, List.length_map, List.length_cons, List.length_nil, Nat.reduceAdd, Int.cast_ofNat_Int, Int.natCast_zero, Int.natCast_one, Bool.false_eq_true, Bool.true_eq_false, decide_eq_true_eq, eq_self, Int.reduceEq, Int.reduceLT, Int.reduceLE, Bool.and_true, Bool.true_and, Bool.and_false, Bool.false_and, Nat.zero_add, ↓iso_2 hof, ↓ixt0, ↓ixt1, ↓ixt2, ↓iso_3 ha, h, Tm.z, enc_mk]; first | exact ans_fv _ _ | exact ans_t rfl (by simp) _
    have o7 : op ≠ 20 := fun h => o4 (.inl h)
    have o8 : op ≠ 29 := fun h => o4 (.inr h)
    have hpart : AnsT (SS dt n 76 [.fv (.sl (g.map Tm.enc)), .fv (Tm.mk op m l).enc] ⟨[], []⟩) ((Tm.mk op m l).inf g) := by
      obtain ⟨n, rfl⟩ : ∃ k, n = k + 1 + 1 := ⟨n - 2, by omega⟩
      by_cases p1 : op = 23 ∨ op = 24
      · have hk2 : kidsN op = 1 := by rcases p1 with rfl | rfl <;> rfl
        obtain ⟨a, rfl⟩ := len1 (hk.trans hk2)
        simp only [Tm.wtL] at hw hl hn
        refine parts_f p1 (shape_ok (ih n (by omega) a g hsl.1 (by omega) hg (by omega) (by omega)) fun h h2 => ?_)
        exact fun_parts (.inr rfl) (hti _ a g (Nat.lt_succ_self _) (by omega) hg hsl.1 h).1 h2
      by_cases p2 : op = 21
      · subst p2
        obtain ⟨a, b, rfl⟩ := len2 hk
        simp only [Tm.wtL] at hw hl hn
        have hta := hti _ a g (Nat.lt_succ_self _) (by omega) hg hsl.1
        refine parts_a (shape_ok (ih n (by omega) a g hsl.1 (by omega) hg (by omega) (by omega)) fun h h2 => fun_parts (.inl rfl) (hta h).1 h2) fun h h2 => ?_
        obtain ⟨x, y, hxy⟩ := fun_parts (.inl rfl) (hta h).1 h2
        exact hck b _ g n (by omega) hsl.2.1 (by omega) hg (by omega) (by omega) (by have := part_wt hxy; have := (hta h).2; omega)
      by_cases p3 : op = 22
      · subst p3
        obtain ⟨a, b, rfl⟩ := len2 hk
        simp only [Tm.wtL] at hw hl hn
        have hta := hti _ a g (Nat.lt_succ_self _) (by omega) hg hsl.1
        have htb := hti _ b g (Nat.lt_succ_self _) (by omega) hg hsl.2.1
        exact parts_p (by omega) (ih (n + 1) (by omega) a g hsl.1 (by omega) hg (by omega) (by omega)) (fun _ => ih (n + 1) (by omega) b g hsl.2.1 (by omega) hg (by omega) (by omega)) (fun h h2 => by have := (hta h).2; have := (htb h2).2; omega)
      rw [inf_other ⟨o1, o2, fun h => p1 (.inl h), fun h => p1 (.inr h), o3, o7, o8, o5, p3, p2, o6⟩]
      exact ansT (parts_o p3 p2 (fun h => p1 (.inl h)) (fun h => p1 (.inr h)))
    obtain ⟨u, hu, hue⟩ := hpart
    refine ⟨u, ?_, hue⟩
    generalize (Tm.mk op m l).inf g = q at hu ⊢
    obtain ⟨e, r⟩ := q
    obtain ⟨p1, p2, p3⟩ := u
    simp only [enc_mk] at hu ⊢
    simp only [S53_213, S53_214, S53_215, S53_216, S53_217, S53_218, S53_219, S53_220, S53_221, S53_222, S53_223, S53_224, S53_225, S53_226, S53_227, S53_228, S53_229, S53_230, S53_231, S53_232, S53_233, S53_234, S53_235, S53_236, S53_237, S53_238, S53_239, S53_240, S53_241, S53_242, S53_243, S53, ↓XX, ↓reduceIte, Nat.reduceBEq, decide_true, decide_false, Bool.not_true, Bool.not_false, List.map_cons, List.map_nil, List.length_map, List.length_cons, List.length_nil, Nat.reduceAdd, Int.cast_ofNat_Int, Int.natCast_zero, Int.natCast_one, Bool.false_eq_true, Bool.true_eq_false, decide_eq_true_eq, eq_self, Int.reduceEq, Int.reduceLT, Int.reduceLE, Bool.and_true, Bool.true_and, Bool.and_false, Bool.false_and, Nat.zero_add, o1, o2, o3, o5, o6, o7, o8, ↓kp_parts, ↓iso_2 hu]; first | exact ans_fv _ _ | exact ans_t rfl (by simp) _
end Idl
end Go.Proofs.Ytdibmackcbpniaa

namespace Go.Proofs.Ytdibmackcbpniaa
namespace Idl
noncomputable abbrev Hown (op m : Int) (ks done : List Tm) (r : Nat) : Hp :=
  ⟨[(56623104, .row [iv op, iv m, .fv (.sl (ks.map Tm.enc))] false), (56623105, .row [iv 0, iv 0, .nils] false), (56624131, .row (cellsT done r) false)], []⟩
set_option maxRecDepth 20000 in
set_option maxHeartbeats 1000000 in
theorem own_ok : ∀ (n : Nat) (t : Tm), t.wt + 1 < n → t.shp → AnsF (SS dt n 54 [.fv t.enc] ⟨[], []⟩) t.enc := by
  intro n
  induction n with
  | zero => intro t h; omega
  | succ n ih =>
    intro t hn hs
    obtain ⟨op, m, ks⟩ := t
    simp only [Tm.wt] at hn
    rw [Tm.shp] at hs
    obtain ⟨hk, _, hsl⟩ := hs
    have hk4 := kidsN_le op
    rw [c54]
    have hlen := wt_len ks
    rw [enc_mk]
    simp only [S54_72, S54_73, S54_74, S54_75, S54_76, S54_78, S54, ↓XX, ↓reduceIte, Nat.reduceBEq, decide_true, decide_false, Bool.not_true, Bool.not_false, List.map_cons, List.map_nil, List.length_map, List.length_cons, List.length_nil, Nat.reduceAdd, Int.cast_ofNat_Int, Int.natCast_zero, Int.natCast_one, Bool.false_eq_true, Bool.true_eq_false, decide_eq_true_eq, eq_self, Int.reduceEq, Int.reduceLT, Int.reduceLE, Bool.and_true, Bool.true_and, Bool.and_false, Bool.false_and, Nat.zero_add, ↓mk_t (show ks.length ≤ 1000 by omega), ↓drop_e, XD, heldB, flatD, List.any_cons, List.any_nil, List.all_cons, List.all_nil, List.filter_cons, List.filter_nil, List.contains_cons, List.contains_nil, Bool.or_false, Bool.or_true, Bool.false_or, Bool.true_or, Bool.and_self, Bool.not_eq_true, BEq.rfl, beq_self_eq_true, flat_t, names_t]
    refine loop_run (Q := fun r => AnsF r _) (fun k V H => ∃ (pre rest : List Tm), ks = pre ++ rest ∧ rest.length = k ∧ Tm.shpL rest ∧
        V = [.ptr (.own 56623104) 0, .ptr (.own 56623105) 0, .slc (.own 56624131) 3 ks.length, .fv (.sl (ks.map Tm.enc)), iv ks.length, iv pre.length] ∧ H = Hown op m ks pre rest.length)
      ?_ n ks.length _ _ (by omega) ⟨[], ks, rfl, rfl, hsl, rfl, rfl⟩
    rintro k V H rec ⟨pre, rest, hks, hl, hsr, rfl, rfl⟩ hrec
    have hkl : ks.length = pre.length + rest.length := by rw [hks]; simp
    cases rest with
    | nil =>
      have hno : ¬ ((pre.length : Int) < ks.length) := by rw [hkl]; simp
      have hpk : ks = pre := by rw [hks, List.append_nil]
      subst hpk
      simp only [S54_72, S54_73, S54_74, S54_75, S54_76, S54_77, S54_78, S54, ↓XX, ↓reduceIte, Nat.reduceBEq, decide_true, decide_false, Bool.not_true, Bool.not_false, List.map_cons, List.map_nil, List.length_map, List.length_cons, List.length_nil, Nat.reduceAdd, Int.cast_ofNat_Int, Int.natCast_zero, Int.natCast_one, Bool.false_eq_true, Bool.true_eq_false, decide_eq_true_eq, eq_self, Int.reduceEq, Int.reduceLT, Int.reduceLE, Bool.and_true, Bool.true_and, Bool.and_false, Bool.false_and, Nat.zero_add, hno]
      exact ⟨_, _, rfl, _, _, fun e0 K => fz_tm (by rfl) (by omega) [] e0 K⟩
    | cons x rest =>
      have hi : (pre.length : Int) < ks.length := by rw [hkl]; simp; omega
      have hg2 := at_pre hks
      have hxw := wt_mem (t := x) (l := ks) (by rw [hks]; simp)
      have hs := ih x (by omega) hsr.1
      have hwi : w64 ((pre.length : Int) + 1) = ((pre ++ [x]).length : Int) := (w64_id (by omega) (by omega)).trans (by simp)
      have hin : pre.length < ks.length := by omega
      have hst := fun {β : Type} => set_t (β := β) pre rest.length x.op x.n x.kids
      obtain ⟨o, p, l⟩ := x
      simp only [Tm.op, Tm.n, Tm.kids] at hst
      rw [enc_mk] at hs
      simp only [List.length_cons] at hl
      simp only [S54_72, S54_73, S54_74, S54_75, S54_76, S54_77, S54_78, S54, ↓XX, ↓reduceIte, Nat.reduceBEq, decide_true, decide_false, Bool.not_true, Bool.not_false, List.map_cons, List.map_nil, List.length_map, List.length_cons, List.length_nil, Nat.reduceAdd, Int.cast_ofNat_Int, Int.natCast_zero, Int.natCast_one, Bool.false_eq_true, Bool.true_eq_false, decide_eq_true_eq, eq_self, Int.reduceEq, Int.reduceLT, Int.reduceLE, Bool.and_true, Bool.true_and, Bool.and_false, Bool.false_and, Nat.zero_add, hi, ↓ix_f (map_get hg2) (agg3l _ _ _), ↓agg3, hwi, ↓iso_1 (ansf hs), ↓ix_sl3 hin, ↓hst, ↓drop_e, XD, heldB, flatD, List.any_cons, List.any_nil, List.all_cons, List.all_nil, List.filter_cons, List.filter_nil, List.contains_cons, List.contains_nil, Bool.or_false, Bool.or_true, Bool.false_or, Bool.true_or, Bool.and_self, Bool.not_eq_true, BEq.rfl, beq_self_eq_true, flat_t, names_t]
      exact hrec rest.length _ _ (by omega) ⟨pre ++ [.mk o p l], rest, by rw [hks]; simp, rfl, hsr.2, rfl, rfl⟩
theorem kp_inf1 (ih : Handler) (xs : List IV) (h0 : Hp) (k : IV → Hp → List Ref → List Ref → Option (IV × Hp)) : dynS EE ih (.fv (.func (.func 51) [] [])) xs h0 k = isoS [] false false ih 51 xs h0 k :=
  keep0 (by kernel_rfl) (by kernel_rfl) (by kernel_rfl) (by kernel_rfl) ..
theorem notty_ok {n : Nat} (t : Tm) (hn : t.wt + 1 < n) (ht : t.typed = true) : Ans (SS dt n 51 [.fv t.enc] ⟨[], []⟩) (.bool false) := by
  obtain ⟨n, rfl⟩ : ∃ k, n = k + 1 := ⟨n - 1, by omega⟩
  rw [c51]
  have h := typed_ok n t (by omega)
  rw [ht] at h
  obtain ⟨o, p, l⟩ := t
  rw [enc_mk] at h ⊢
  simp only [S51, ↓XX, ↓reduceIte, Nat.reduceBEq, decide_true, decide_false, Bool.not_true, Bool.not_false, List.map_cons, List.map_nil, List.length_map, List.length_cons, List.length_nil, Nat.reduceAdd, Int.cast_ofNat_Int, Int.natCast_zero, Int.natCast_one, Bool.false_eq_true, Bool.true_eq_false, decide_eq_true_eq, eq_self, Int.reduceEq, Int.reduceLT, Int.reduceLE, Bool.and_true, Bool.true_and, Bool.and_false, Bool.false_and, Nat.zero_add, ↓iso_1 h]; exact ans_fv _ _
theorem index_ok {n : Nat} (M : Nat) (g : List Tm) (hg : ∀ x ∈ g, x.typed = true ∧ x.wt ≤ M) (hl : g.length ≤ 900000) (hn : g.length + M + 2 < n) : Ans (SS dt n 72 [.fv (.sl (g.map Tm.enc)), .fv (.func (.func 51) [] [])] ⟨[], []⟩) (.int .i64 (-1)) := by
  obtain ⟨n, rfl⟩ : ∃ k, n = k + 1 := ⟨n - 1, by omega⟩
  rw [c72]
  simp only [S72_24, S72_25, S72, ↓XX, ↓reduceIte, Nat.reduceBEq, decide_true, decide_false, Bool.not_true, Bool.not_false, List.map_cons, List.map_nil, List.length_map, List.length_cons, List.length_nil, Nat.reduceAdd, Int.cast_ofNat_Int, Int.natCast_zero, Int.natCast_one, Bool.false_eq_true, Bool.true_eq_false, decide_eq_true_eq, eq_self, Int.reduceEq, Int.reduceLT, Int.reduceLE, Bool.and_true, Bool.true_and, Bool.and_false, Bool.false_and, Nat.zero_add]
  refine loop_run (Q := fun r => Ans r _) (fun k V H => ∃ (pre rest : List Tm), g = pre ++ rest ∧ rest.length = k ∧
      V = [.fv (.sl (g.map Tm.enc)), .fv (.func (.func 51) [] []), iv g.length, iv pre.length] ∧ H = ⟨[], []⟩)
    ?_ n g.length _ _ (by omega) ⟨[], g, rfl, rfl, rfl, rfl⟩
  rintro k V H rec ⟨pre, rest, hks, hl, rfl, rfl⟩ hrec
  have hkl : g.length = pre.length + rest.length := by rw [hks]; simp
  cases rest with
  | nil =>
    have hno : ¬ ((pre.length : Int) < g.length) := by rw [hkl]; simp
    simp only [S72_24, S72_25, S72_26, S72, ↓XX, ↓reduceIte, Nat.reduceBEq, decide_true, decide_false, Bool.not_true, Bool.not_false, List.map_cons, List.map_nil, List.length_map, List.length_cons, List.length_nil, Nat.reduceAdd, Int.cast_ofNat_Int, Int.natCast_zero, Int.natCast_one, Bool.false_eq_true, Bool.true_eq_false, decide_eq_true_eq, eq_self, Int.reduceEq, Int.reduceLT, Int.reduceLE, Bool.and_true, Bool.true_and, Bool.and_false, Bool.false_and, Nat.zero_add, hno]; exact ans_fv _ _
  | cons x rest =>
    have hi : (pre.length : Int) < g.length := by rw [hkl]; simp; omega
    have hg2 := at_pre hks
    have hx := hg x (by rw [hks]; simp)
    have hs := notty_ok (n := n) x (by omega) hx.1
    have hwi : w64 ((pre.length : Int) + 1) = ((pre ++ [x]).length : Int) := (w64_id (by omega) (by omega)).trans (by simp)
    obtain ⟨o, p, l⟩ := x
    rw [enc_mk] at hs
    simp only [List.length_cons] at hl
    simp only [S72_24, S72_25, S72_26, S72, ↓XX, ↓reduceIte, Nat.reduceBEq, decide_true, decide_false, Bool.not_true, Bool.not_false, List.map_cons, List.map_nil, List.length_map, List.length_cons, List.length_nil, Nat.reduceAdd, Int.cast_ofNat_Int, Int.natCast_zero, Int.natCast_one, Bool.false_eq_true, Bool.true_eq_false, decide_eq_true_eq, eq_self, Int.reduceEq, Int.reduceLT, Int.reduceLE, Bool.and_true, Bool.true_and, Bool.and_false, Bool.false_and, Nat.zero_add, hi, ↓ix_f (map_get hg2) (agg3l _ _ _), ↓agg3, ↓kp_inf1, ↓iso_1 hs, hwi]
    exact hrec rest.length _ _ (by omega) ⟨pre ++ [.mk o p l], rest, by rw [hks]; simp, rfl, rfl, rfl⟩
theorem contains_ok {n : Nat} (M : Nat) (g : List Tm) (hg : ∀ x ∈ g, x.typed = true ∧ x.wt ≤ M) (hl : g.length ≤ 900000) (hn : g.length + M + 3 < n) : Ans (SS dt n 50 [.fv (.sl (g.map Tm.enc)), .fv (.func (.func 51) [] [])] ⟨[], []⟩) (.bool false) := by
  obtain ⟨n, rfl⟩ : ∃ k, n = k + 1 := ⟨n - 1, by omega⟩
  rw [c50]
  have h := index_ok (n := n) M g hg hl (by omega)
  simp only [S50, ↓XX, ↓reduceIte, Nat.reduceBEq, decide_true, decide_false, Bool.not_true, Bool.not_false, List.map_cons, List.map_nil, List.length_map, List.length_cons, List.length_nil, Nat.reduceAdd, Int.cast_ofNat_Int, Int.natCast_zero, Int.natCast_one, Bool.false_eq_true, Bool.true_eq_false, decide_eq_true_eq, eq_self, Int.reduceEq, Int.reduceLT, Int.reduceLE, Bool.and_true, Bool.true_and, Bool.and_false, Bool.false_and, Nat.zero_add, ↓iso_2 h]; exact ans_fv _ _
def Tm.infer (t : Tm) (g : List Tm) : Tm × Int := if (t.chk 0 1).2 = 0 then (if (t.inf g).1 = 0 then ((t.inf g).2, 0) else (.z, (t.inf g).1)) else (.z, 1)
theorem pInfer_ok (M : Nat) (hM : 3000 ≤ M) (hM2 : M ≤ 1000000) (n : Nat) (t : Tm) (g : List Tm) (h2 : t.wt ≤ M) (h3 : ∀ x ∈ g, x.typed = true ∧ x.wt ≤ M) (h4 : g.length + t.wt ≤ 900000) (h5 : 4 * t.wt + 6 * M + g.length + 61 < n) :
    Ans (SS dt n 17 [.fv (.sl (g.map Tm.enc)), .fv t.enc] ⟨[], []⟩) (.tuple [(t.infer g).1.enc, .int .i64 (t.infer g).2]) := by
  obtain ⟨n, rfl⟩ : ∃ k, n = k + 1 := ⟨n - 1, by omega⟩
  rw [c17]
  have hc := pCheck_ok (n := n) t (by omega)
  have hcf := contains_ok (n := n) M g h3 (by omega) (by omega)
  unfold Tm.infer
  by_cases h0 : (t.chk 0 1).2 = 0
  · rw [if_pos h0]
    rw [h0] at hc
    have hs := chk_shp t 0 1 h0
    obtain ⟨u, hu, he⟩ := inf_ok M hM hM2 n t g hs h2 h3 h4 (by omega)
    have hty := inf_typed M hM _ t g (Nat.lt_succ_self _) h2 h3 hs
    generalize t.inf g = q at hu he hty ⊢
    obtain ⟨e, r⟩ := q
    simp only at hu he hty ⊢
    by_cases h1 : e = 0
    · have := he h1
      subst this h1
      rw [if_pos rfl]
      have hy := hty rfl
      have ho := own_ok n u (by omega) (typed_shp u hy.1)
      obtain ⟨o1, n1, k1⟩ := t
      obtain ⟨o2, n2, k2⟩ := u
      simp only [enc_mk] at hc hu ho ⊢
      simp only [S17_65, S17_66, S17_67, S17_68, S17_69, S17_70, S17, ↓XX, ↓reduceIte, Nat.reduceBEq, decide_true, decide_false, Bool.not_true, Bool.not_false, List.map_cons, List.map_nil, List.length_map, List.length_cons, List.length_nil, Nat.reduceAdd, Int.cast_ofNat_Int, Int.natCast_zero, Int.natCast_one, Bool.false_eq_true, Bool.true_eq_false, decide_eq_true_eq, eq_self, Int.reduceEq, Int.reduceLT, Int.reduceLE, Bool.and_true, Bool.true_and, Bool.and_false, Bool.false_and, Nat.zero_add, ↓iso_1 hc, ↓iso_2 hcf, ↓iso_2 hu, ↓iso_1 (ansf ho)]; first | exact ans_fv _ _ | exact ans_t rfl (by simp) _
    · rw [if_neg h1]
      obtain ⟨o1, n1, k1⟩ := t
      obtain ⟨o2, n2, k2⟩ := u
      simp only [enc_mk, Tm.z] at hc hu ⊢
      simp only [S17_65, S17_66, S17_67, S17_68, S17_69, S17_70, S17, ↓XX, ↓reduceIte, Nat.reduceBEq, decide_true, decide_false, Bool.not_true, Bool.not_false, List.map_cons, List.map_nil, List.length_map, List.length_cons, List.length_nil, Nat.reduceAdd, Int.cast_ofNat_Int, Int.natCast_zero, Int.natCast_one, Bool.false_eq_true, Bool.true_eq_false, decide_eq_true_eq, eq_self, Int.reduceEq, Int.reduceLT, Int.reduceLE, Bool.and_true, Bool.true_and, Bool.and_false, Bool.false_and, Nat.zero_add, ↓iso_1 hc, ↓iso_2 hcf, ↓iso_2 hu, h1]; first | exact ans_fv _ _ | exact ans_t rfl (by simp) _
  · rw [if_neg h0]
    generalize (t.chk 0 1).2 = e at hc h0
    obtain ⟨o1, n1, k1⟩ := t
    simp only [enc_mk, Tm.z] at hc ⊢
    simp only [S17_65, S17_66, S17_67, S17_68, S17_69, S17_70, S17, ↓XX, ↓reduceIte, Nat.reduceBEq, decide_true, decide_false, Bool.not_true, Bool.not_false, List.map_cons, List.map_nil, List.length_map, List.length_cons, List.length_nil, Nat.reduceAdd, Int.cast_ofNat_Int, Int.natCast_zero, Int.natCast_one, Bool.false_eq_true, Bool.true_eq_false, decide_eq_true_eq, eq_self, Int.reduceEq, Int.reduceLT, Int.reduceLE, Bool.and_true, Bool.true_and, Bool.and_false, Bool.false_and, Nat.zero_add, ↓iso_1 hc, h0]; first | exact ans_fv _ _ | exact ans_t rfl (by simp) _
end Idl
end Go.Proofs.Ytdibmackcbpniaa

namespace Go.Proofs.Ytdibmackcbpniaa
namespace Idl
theorem tVals : EE.T 58 = some ⟨1, 24, .slice 60, [.nils]⟩ := by kernel_rfl
theorem tVal : EE.T 60 = some ⟨3, 40, .struct [(0, 3), (1, 3), (2, 58)], [.fv (.int .i64 0), .fv (.int .i64 0), .nils]⟩ := by kernel_rfl
theorem bs2_val (a b : Tm) (s : Nat) (h : Hp) (k : IV → Hp → List Ref → List Ref → Option (IV × Hp)) : genS (pcBuildSlice EE 58 2 [(0, .fv a.enc), (1, .fv b.enc)]) s h k = k (.clip [a.enc, b.enc]) h [] [] := by
  obtain ⟨o1, n1, k1⟩ := a
  obtain ⟨o2, n2, k2⟩ := b
  exact bs_tm tVals tVal (by decide) (cells := [.int .i64 o1, .int .i64 n1, .sl (Tm.enc.encL k1), .int .i64 o2, .int .i64 n2, .sl (Tm.enc.encL k2)]) rfl k
theorem within11_nn {n : Nat} (hn : 0 < n) {x m : Int} (h0 : 0 ≤ x) (h1 : 0 < m) : Ans (SS dt n 23 [iv x, iv m] ⟨[], []⟩) (.int .i64 (x % m)) := by
  obtain ⟨n, rfl⟩ : ∃ k, n = k + 1 := ⟨n - 1, by omega⟩
  rw [c23]
  have e : x.tmod m = x % m := Int.tmod_eq_emod_of_nonneg h0
  have e2 : ¬ x % m < 0 := by have := Int.emod_nonneg x (show m ≠ 0 by omega); omega
  simp only [S23, ↓XX, ↓reduceIte, Nat.reduceBEq, decide_true, decide_false, Bool.not_true, Bool.not_false, List.map_cons, List.map_nil, List.length_map, List.length_cons, List.length_nil, Nat.reduceAdd, Int.cast_ofNat_Int, Int.natCast_zero, Int.natCast_one, Bool.false_eq_true, Bool.true_eq_false, decide_eq_true_eq, eq_self, Int.reduceEq, Int.reduceLT, Int.reduceLE, Bool.and_true, Bool.true_and, Bool.and_false, Bool.false_and, Nat.zero_add, ↓rem_s (show m ≠ 0 by omega), e, e2]
  exact ans_fv _ _
def iEnc (ns : List Int) : FV := .sl (ns.map (FV.int .i64))
def Tm.valT : Tm → List Int → Int → Tm
  | .mk _ _ [], ns, i => .mk 1 (match ns with
    | [] => i
    | _ => ns.getD (i % ns.length).toNat 0) []
  | .mk op _ [a, b], ns, i => if op = 16 then .mk 3 0 [] else .mk 2 0 [a.valT ns (2 * i + 1), b.valT ns (2 * i + 2)]
  | _, _, _ => .mk 0 0 []
theorem valT_ok (ns : List Int) : ∀ (n : Nat) (a : Tm) (i : Int), a.wt + 1 < n → a.typed = true → 0 ≤ i → (i + 2) * 2 ^ a.wt ≤ 1000000000000 → Ans (SS dt n 33 [.fv a.enc, .fv (iEnc ns), iv i] ⟨[], []⟩) (a.valT ns i).enc := by
  intro n
  induction n with
  | zero => intro a i h; omega
  | succ n ih =>
    intro a i h ht h0 hb
    rw [c33]
    obtain ⟨op, p, ks⟩ := a
    simp only [Tm.wt] at h hb
    rw [enc_mk]
    match ks, ht with
    | [], ht =>
      have h1 : op = 15 := by simpa [Tm.typed] using ht
      subst h1
      match ns with
      | [] =>
        simp only [S33_75, S33_76, S33_77, S33_78, S33_79, S33_80, S33_81, S33_82, S33_83, S33_84, S33_85, S33, ↓XX, ↓reduceIte, Nat.reduceBEq, decide_true, decide_false, Bool.not_true, Bool.not_false, List.map_cons, List.map_nil, List.length_map, List.length_cons, List.length_nil, Nat.reduceAdd, Int.cast_ofNat_Int, Int.natCast_zero, Int.natCast_one, Bool.false_eq_true, Bool.true_eq_false, decide_eq_true_eq, eq_self, Int.reduceEq, Int.reduceLT, Int.reduceLE, Bool.and_true, Bool.true_and, Bool.and_false, Bool.false_and, Nat.zero_add, iEnc, Tm.valT, enc_mk]
        exact ans_p rfl _
      | x :: l =>
        have hl : ¬ (((l.length + 1 : Nat) : Int) = 0) := by omega
        have hw := within11_nn (n := n) (by omega) (x := i) (m := ((x :: l).length : Int)) h0 (by simp)
        have h3 : i % ((x :: l).length : Int) < ((x :: l).length : Int) := Int.emod_lt_of_pos _ (by simp)
        have h4 : 0 ≤ i % ((x :: l).length : Int) := Int.emod_nonneg _ (by simp; omega)
        obtain ⟨j, hj⟩ : ∃ j : Nat, i % ((x :: l).length : Int) = j := ⟨_, (Int.toNat_of_nonneg h4).symm⟩
        have hjl : j < (x :: l).length := by omega
        have hg : ((x :: l).map (FV.int .i64))[j]? = some (FV.int .i64 ((x :: l).getD j 0)) := by
          rw [List.getElem?_map, List.getD_eq_getElem?_getD, List.getElem?_eq_getElem hjl]; rfl
        rw [hj] at hw
        have hix := fun {β : Type} => ix_f (β := β) (size := 1) hg rfl
        simp only [Tm.valT, hj, Int.toNat_natCast]
        generalize (x :: l).getD j 0 = g at hg hix ⊢
        simp only [List.map_cons, List.length_cons] at hix hw
        simp only [S33_75, S33_76, S33_77, S33_78, S33_79, S33_80, S33_81, S33_82, S33_83, S33_84, S33_85, S33, ↓XX, ↓reduceIte, Nat.reduceBEq, decide_true, decide_false, Bool.not_true, Bool.not_false, List.map_cons, List.map_nil, List.length_map, List.length_cons, List.length_nil, Nat.reduceAdd, Int.cast_ofNat_Int, Int.natCast_zero, Int.natCast_one, Bool.false_eq_true, Bool.true_eq_false, decide_eq_true_eq, eq_self, Int.reduceEq, Int.reduceLT, Int.reduceLE, Bool.and_true, Bool.true_and, Bool.and_false, Bool.false_and, Nat.zero_add, iEnc, hl, ↓iso_2 hw, ↓hix, FV.cells, enc_mk]
        exact ans_p rfl _
    | [_], ht => rw [typed1] at ht; cases ht
    | x :: y :: z :: l, ht => rw [typed3] at ht; cases ht
    | [a, b], ht =>
      simp only [Tm.typed, Bool.and_eq_true, Bool.or_eq_true, decide_eq_true_eq] at ht
      have h15 : op ≠ 15 := by omega
      by_cases h16 : op = 16
      · simp only [S33_75, S33_76, S33_77, S33_78, S33_79, S33_80, S33_81, S33_82, S33_83, S33_84, S33_85, S33, ↓XX, ↓reduceIte, Nat.reduceBEq, decide_true, decide_false, Bool.not_true, Bool.not_false, List.map_cons, List.map_nil, List.length_map, List.length_cons, List.length_nil, Nat.reduceAdd, Int.cast_ofNat_Int, Int.natCast_zero, Int.natCast_one, Bool.false_eq_true, Bool.true_eq_false, decide_eq_true_eq, eq_self, Int.reduceEq, Int.reduceLT, Int.reduceLE, Bool.and_true, Bool.true_and, Bool.and_false, Bool.false_and, Nat.zero_add, h15, h16, Tm.valT, if_true, enc_mk]
        exact ans_p rfl _
      · simp only [Tm.wtL] at h hb
        have hp : ∀ k l : Nat, k ≤ l → (0 : Int) < 2 ^ k ∧ (2 : Int) ^ k ≤ 2 ^ l := fun k l hk => ⟨Int.pow_pos (by decide), by
          have := Nat.pow_le_pow_right (show 2 > 0 by decide) hk
          exact_mod_cast this⟩
        have hi : i ≤ 1000000000000 := by
          have h1 := (hp 0 (1 + (a.wt + (b.wt + 0))) (by omega)).2
          have h2 : (i + 2) * 1 ≤ (i + 2) * 2 ^ (1 + (a.wt + (b.wt + 0))) := Int.mul_le_mul_of_nonneg_left (by simpa using h1) (by omega)
          omega
        have e0 : w64 (2 * i) = 2 * i := by rw [w64_id] <;> omega
        have e1 : w64 (2 * i + 1) = 2 * i + 1 := by rw [w64_id] <;> omega
        have e2 : w64 (2 * i + 2) = 2 * i + 2 := by rw [w64_id] <;> omega
        have hk : ∀ (c : Tm) (j : Int), c.wt ≤ a.wt + b.wt → j ≤ 2 * i + 2 → 0 ≤ j → (j + 2) * 2 ^ c.wt ≤ 1000000000000 := by
          intro c j hc hj hj0
          have h1 := hp c.wt (a.wt + b.wt) hc
          have h2 : (j + 2) * 2 ^ c.wt ≤ (2 * i + 4) * 2 ^ c.wt := Int.mul_le_mul_of_nonneg_right (by omega) (by omega)
          have h3 : (2 * i + 4) * 2 ^ c.wt ≤ (2 * i + 4) * 2 ^ (a.wt + b.wt) := Int.mul_le_mul_of_nonneg_left h1.2 (by omega)
          have h4 : (i + 2) * 2 ^ (1 + (a.wt + (b.wt + 0))) = (2 * i + 4) * 2 ^ (a.wt + b.wt) := by
            rw [show 1 + (a.wt + (b.wt + 0)) = (a.wt + b.wt) + 1 by omega, Int.pow_succ, show (2 * i + 4) = (i + 2) * 2 by omega, Int.mul_assoc, Int.mul_comm (2 : Int)]
          omega
        have ha := ih a (2 * i + 1) (by have := wt_pos b; omega) ht.2.1 (by omega) (hk a _ (by omega) (by omega) (by omega))
        have hv := ih b (2 * i + 2) (by have := wt_pos a; omega) ht.2.2 (by omega) (hk b _ (by omega) (by omega) (by omega))
        simp only [Tm.valT, if_neg h16]
        generalize a.valT ns (2 * i + 1) = u at ha ⊢
        generalize b.valT ns (2 * i + 2) = v at hv ⊢
        obtain ⟨o1, n1, k1⟩ := a
        obtain ⟨o2, n2, k2⟩ := b
        simp only [enc_mk] at ha hv
        simp only [S33_75, S33_76, S33_77, S33_78, S33_79, S33_80, S33_81, S33_82, S33_83, S33_84, S33_85, S33, ↓XX, ↓reduceIte, Nat.reduceBEq, decide_true, decide_false, Bool.not_true, Bool.not_false, List.map_cons, List.map_nil, List.length_map, List.length_cons, List.length_nil, Nat.reduceAdd, Int.cast_ofNat_Int, Int.natCast_zero, Int.natCast_one, Bool.false_eq_true, Bool.true_eq_false, decide_eq_true_eq, eq_self, Int.reduceEq, Int.reduceLT, Int.reduceLE, Bool.and_true, Bool.true_and, Bool.and_false, Bool.false_and, Nat.zero_add, h15, h16, e0, e1, e2, enc_mk, ↓iso_3 ha, ↓iso_3 hv, ↓bs2_val]
        exact ans_p rfl _
def Tm.alike : Tm → Tm → Bool
  | .mk o _ [a, b], .mk o' _ [c, d] => if o = o' ∧ o = 17 then a.alike c && b.alike d else decide (o = o')
  | .mk o _ _, .mk o' _ _ => decide (o = o')
end Idl
end Go.Proofs.Ytdibmackcbpniaa

namespace Go.Proofs.Ytdibmackcbpniaa
namespace Idl
theorem plainT_typed : ∀ (d : Nat) (r : Tm), (r.plainT d).typed = true
  | 0, r => by simp [Tm.plainT, Tm.typed]
  | d + 1, r => by
    have h1 := Int.emod_nonneg r.n (show (4 : Int) ≠ 0 by decide)
    have h2 := Int.emod_lt_of_pos r.n (show (0 : Int) < 4 by decide)
    simp only [Tm.plainT]
    split
    · simp [Tm.typed]
    · simp only [Tm.typed, plainT_typed d, Bool.and_self, Bool.and_true, Bool.or_eq_true, decide_eq_true_eq]
      omega
theorem plainT_wt : ∀ (d : Nat) (r : Tm), (r.plainT d).wt ≤ 2 ^ (d + 1) - 1
  | 0, r => by simp [Tm.plainT, Tm.wt, Tm.wtL]
  | d + 1, r => by
    have h1 := plainT_wt d (r.pick 0)
    have h2 := plainT_wt d (r.pick 1)
    have h3 : 0 < 2 ^ (d + 1) := Nat.pow_pos (by decide)
    simp only [Tm.plainT]
    split
    · simp only [Tm.wt, Tm.wtL, Nat.pow_succ] at *; omega
    · simp only [Tm.wt, Tm.wtL, Nat.pow_succ] at *; omega
end Idl
end Go.Proofs.Ytdibmackcbpniaa

namespace Go.Proofs.Ytdibmackcbpniaa
namespace Idl
theorem known_run (n : Nat) : isTrueE (SS dt (n + 60) 11 [] ⟨[], []⟩) = true := by kernel_rfl
theorem known_ok {n : Nat} (h : 60 ≤ n) : Ans (SS dt n 11 [] ⟨[], []⟩) (.bool true) := by
  obtain ⟨k, rfl⟩ : ∃ k, n = k + 60 := ⟨n - 60, by omega⟩
  exact ans_true (known_run k)
theorem val_fits (ns : List Int) : ∀ (n : Nat) (a b : Tm) (i : Int), a.wt < n → a.typed = true → b.typed = true → (a.valT ns i).fits b = a.alike b := by
  intro n
  induction n with
  | zero => intro a b i h; omega
  | succ n ih =>
    intro a b i h ha hb
    obtain ⟨op, p, ks⟩ := a
    obtain ⟨op', p', ks'⟩ := b
    simp only [Tm.wt] at h
    match ks, ha with
    | [], ha =>
      have h1 : op = 15 := by simpa [Tm.typed] using ha
      subst h1
      simp [Tm.valT, Tm.fits, Tm.op, Tm.alike, eq_comm]; rfl
    | [_], ha => rw [typed1] at ha; cases ha
    | x :: y :: z :: l, ha => rw [typed3] at ha; cases ha
    | [a, b], ha =>
      simp only [Tm.typed, Bool.and_eq_true, Bool.or_eq_true, decide_eq_true_eq] at ha
      simp only [Tm.wtL] at h
      by_cases h16 : op = 16
      · subst h16
        match ks', hb with
        | [], hb => simp [Tm.valT, Tm.fits, Tm.op, Tm.alike, eq_comm]; rfl
        | [_], hb => rw [typed1] at hb; cases hb
        | x :: y :: z :: l, hb => rw [typed3] at hb; cases hb
        | [c, d], hb => simp [Tm.valT, Tm.fits, Tm.op, Tm.alike, eq_comm]; rfl
      · have h17 : op = 17 := by omega
        subst h17
        match ks', hb with
        | [], hb =>
          have h1 : op' = 15 := by simpa [Tm.typed] using hb
          subst h1
          simp [Tm.valT, Tm.fits, Tm.op, Tm.alike]
        | [_], hb => rw [typed1] at hb; cases hb
        | x :: y :: z :: l, hb => rw [typed3] at hb; cases hb
        | [c, d], hb =>
          simp only [Tm.typed, Bool.and_eq_true, Bool.or_eq_true, decide_eq_true_eq] at hb
          have e1 := ih a c (2 * i + 1) (by omega) ha.2.1 hb.2.1
          have e2 := ih b d (2 * i + 2) (by omega) ha.2.2 hb.2.2
          by_cases ho : op' = 17
          · subst ho
            simp [Tm.valT, Tm.fits, Tm.op, Tm.kids, Tm.alike, e1, e2]
          · simp [Tm.valT, Tm.fits, Tm.op, Tm.alike, ho, Ne.symm ho]
theorem valT_wt (ns : List Int) : ∀ (n : Nat) (a : Tm) (i : Int), a.wt < n → (a.valT ns i).wt ≤ a.wt := by
  intro n
  induction n with
  | zero => intro a i h; omega
  | succ n ih =>
    intro a i h
    obtain ⟨op, p, ks⟩ := a
    simp only [Tm.wt] at h
    match ks with
    | [] => simp [Tm.valT, Tm.wt, Tm.wtL]
    | [_] => rw [Tm.valT] <;> simp [Tm.wt, Tm.wtL]
    | _ :: _ :: _ :: _ => rw [Tm.valT] <;> simp [Tm.wt, Tm.wtL]
    | [a, b] =>
      simp only [Tm.wtL] at h
      have h1 := ih a (2 * i + 1) (by omega)
      have h2 := ih b (2 * i + 2) (by omega)
      simp only [Tm.valT]
      split <;> simp only [Tm.wt, Tm.wtL] <;> omega
end Idl
end Go.Proofs.Ytdibmackcbpniaa

namespace Go.Proofs.Ytdibmackcbpniaa
namespace Idl
mutual
def Tm.fewV : Tm → Int → Bool
  | .mk _ _ l, d => if 8 < d then false else if 4 < (l.length : Int) then false else Tm.fewVL l d
def Tm.fewVL : List Tm → Int → Bool
  | [], _ => true
  | t :: l, d => t.fewV (d + 1) && Tm.fewVL l d
end
theorem fewV_ok : ∀ (n : Nat) (t : Tm) (d : Int), t.wt + 1 < n → 0 ≤ d → d ≤ 9 → Ans (SS dt n 35 [.fv t.enc, iv d] ⟨[], []⟩) (.bool (t.fewV d)) := by
  intro n
  induction n with
  | zero => intro t d h; omega
  | succ n ih =>
    intro t d hn h0 hd
    obtain ⟨op, m, ks⟩ := t
    simp only [Tm.wt] at hn
    rw [c35, enc_mk, Tm.fewV]
    have hlen := wt_len ks
    by_cases h1 : 8 < d
    · rw [if_pos h1]
      simp only [S35_61, S35_62, S35_63, S35_64, S35_65, S35, ↓XX, ↓reduceIte, Nat.reduceBEq, decide_true, decide_false, Bool.not_true, Bool.not_false, List.map_cons, List.map_nil, List.length_map, List.length_cons, List.length_nil, Nat.reduceAdd, Int.cast_ofNat_Int, Int.natCast_zero, Int.natCast_one, Bool.false_eq_true, Bool.true_eq_false, decide_eq_true_eq, eq_self, Int.reduceEq, Int.reduceLT, Int.reduceLE, Bool.and_true, Bool.true_and, Bool.and_false, Bool.false_and, Nat.zero_add, h1]; exact ans_fv _ _
    rw [if_neg h1]
    by_cases h2 : 4 < (ks.length : Int)
    · rw [if_pos h2]
      simp only [S35_61, S35_62, S35_63, S35_64, S35_65, S35, ↓XX, ↓reduceIte, Nat.reduceBEq, decide_true, decide_false, Bool.not_true, Bool.not_false, List.map_cons, List.map_nil, List.length_map, List.length_cons, List.length_nil, Nat.reduceAdd, Int.cast_ofNat_Int, Int.natCast_zero, Int.natCast_one, Bool.false_eq_true, Bool.true_eq_false, decide_eq_true_eq, eq_self, Int.reduceEq, Int.reduceLT, Int.reduceLE, Bool.and_true, Bool.true_and, Bool.and_false, Bool.false_and, Nat.zero_add, h1, h2]; exact ans_fv _ _
    rw [if_neg h2]
    simp only [S35_61, S35_62, S35_63, S35_65, S35, ↓XX, ↓reduceIte, Nat.reduceBEq, decide_true, decide_false, Bool.not_true, Bool.not_false, List.map_cons, List.map_nil, List.length_map, List.length_cons, List.length_nil, Nat.reduceAdd, Int.cast_ofNat_Int, Int.natCast_zero, Int.natCast_one, Bool.false_eq_true, Bool.true_eq_false, decide_eq_true_eq, eq_self, Int.reduceEq, Int.reduceLT, Int.reduceLE, Bool.and_true, Bool.true_and, Bool.and_false, Bool.false_and, Nat.zero_add, h1, h2]
    have hwd : w64 (d + 1) = d + 1 := by rw [w64_id] <;> omega
    refine loop_run (Q := fun r => Ans r _) (fun k V H => ∃ pre rest, ks = pre ++ rest ∧ rest.length = k ∧ V = [iv d, .ptr (.own 36700160) 0, iv pre.length] ∧ H = ⟨[(36700160, .row [iv op, iv m, .fv (.sl (ks.map Tm.enc))] false)], []⟩ ∧ Tm.fewVL rest d = Tm.fewVL ks d)
      ?_ n ks.length _ _ (by omega) ⟨[], ks, rfl, rfl, rfl, rfl, rfl⟩
    rintro k V H rec ⟨pre, rest, hk, hkl, rfl, rfl, hr⟩ hrec
    have hkk : ks.length = pre.length + rest.length := by rw [hk]; simp
    cases rest with
    | nil =>
      have hno : ¬ ((pre.length : Int) < ks.length) := by rw [hkk]; simp
      rw [← hr]
      simp only [S35_61, S35_62, S35_63, S35_64, S35_65, S35, ↓XX, ↓reduceIte, Nat.reduceBEq, decide_true, decide_false, Bool.not_true, Bool.not_false, List.map_cons, List.map_nil, List.length_map, List.length_cons, List.length_nil, Nat.reduceAdd, Int.cast_ofNat_Int, Int.natCast_zero, Int.natCast_one, Bool.false_eq_true, Bool.true_eq_false, decide_eq_true_eq, eq_self, Int.reduceEq, Int.reduceLT, Int.reduceLE, Bool.and_true, Bool.true_and, Bool.and_false, Bool.false_and, Nat.zero_add, hno, Tm.fewVL]; exact ans_fv _ _
    | cons t rest =>
      have hi : (pre.length : Int) < ks.length := by rw [hkk]; simp; omega
      have hg := at_pre hk
      have htw := wt_mem (t := t) (l := ks) (by rw [hk]; simp)
      have hc := ih t (d + 1) (by omega) (by omega) (by omega)
      have hwi : w64 ((pre.length : Int) + 1) = ((pre ++ [t]).length : Int) := (w64_id (by omega) (by omega)).trans (by simp)
      have h9 := fun e => hrec rest.length [iv d, .ptr (.own 36700160) 0, iv (pre ++ [t]).length] _ (by simp only [List.length_cons] at hkl; omega) ⟨pre ++ [t], rest, by rw [hk]; simp, rfl, rfl, rfl, e⟩
      rw [Tm.fewVL] at hr
      generalize t.fewV (d + 1) = b at hc hr
      cases b
      · rw [Bool.false_and] at hr
        rw [← hr]
        obtain ⟨o, p, l⟩ := t
        rw [enc_mk] at hc
        simp only [S35_61, S35_62, S35_63, S35_64, S35_65, S35, ↓XX, ↓reduceIte, Nat.reduceBEq, decide_true, decide_false, Bool.not_true, Bool.not_false, List.map_cons, List.map_nil, List.length_map, List.length_cons, List.length_nil, Nat.reduceAdd, Int.cast_ofNat_Int, Int.natCast_zero, Int.natCast_one, Bool.false_eq_true, Bool.true_eq_false, decide_eq_true_eq, eq_self, Int.reduceEq, Int.reduceLT, Int.reduceLE, Bool.and_true, Bool.true_and, Bool.and_false, Bool.false_and, Nat.zero_add, hi, ↓ix_f (map_get hg) (agg3l _ _ _), ↓agg3, hwd, ↓iso_2 hc]; exact ans_fv _ _
      · rw [Bool.true_and] at hr
        have h9 := h9 hr
        obtain ⟨o, p, l⟩ := t
        rw [enc_mk] at hc
        simp only [S35_61, S35_62, S35_63, S35_64, S35_65, S35, ↓XX, ↓reduceIte, Nat.reduceBEq, decide_true, decide_false, Bool.not_true, Bool.not_false, List.map_cons, List.map_nil, List.length_map, List.length_cons, List.length_nil, Nat.reduceAdd, Int.cast_ofNat_Int, Int.natCast_zero, Int.natCast_one, Bool.false_eq_true, Bool.true_eq_false, decide_eq_true_eq, eq_self, Int.reduceEq, Int.reduceLT, Int.reduceLE, Bool.and_true, Bool.true_and, Bool.and_false, Bool.false_and, Nat.zero_add, hi, ↓ix_f (map_get hg) (agg3l _ _ _), ↓agg3, hwd, ↓iso_2 hc, hwi]
        exact h9
theorem rfits_ok : ∀ (n : Nat) (v a : Tm), v.wt < n → a.typed = true → Ans (SS dt n 36 [.fv v.enc, .fv a.enc] ⟨[], []⟩) (.bool (v.fits a)) := by
  intro n
  induction n with
  | zero => intro v a h; omega
  | succ n ih =>
    intro v a h ht
    rw [c36]
    obtain ⟨k, m, l⟩ := v
    simp only [Tm.wt] at h
    by_cases h1 : k = 1
    · subst h1
      have e : (Tm.mk 1 m l).fits a = (decide (a.op = 15) && decide ((l.length : Int) = 0)) := by
        match l with
        | [] => simp [Tm.fits]
        | [_] => rw [fits1]; simp
        | [_, _] => simp [Tm.fits]
        | x :: y :: z :: l => rw [fits3]; have : ¬ ((l.length : Int) + 1 + 1 + 1 = 0) := by omega
                              simp [this]
      rw [e]
      obtain ⟨op, p, ks⟩ := a
      simp only [enc_mk, Tm.op]
      by_cases h2 : op = 15
      · simp only [S36_263, S36_264, S36_265, S36_266, S36_267, S36_268, S36_269, S36_270, S36_271, S36_272, S36_273, S36_274, S36_275, S36_276, S36, ↓XX, ↓reduceIte, Nat.reduceBEq, decide_true, decide_false, Bool.not_true, Bool.not_false, List.map_cons, List.map_nil, List.length_map, List.length_cons, List.length_nil, Nat.reduceAdd, Int.cast_ofNat_Int, Int.natCast_zero, Int.natCast_one, Bool.false_eq_true, Bool.true_eq_false, decide_eq_true_eq, eq_self, Int.reduceEq, Int.reduceLT, Int.reduceLE, Bool.and_true, Bool.true_and, Bool.and_false, Bool.false_and, Nat.zero_add, h2]; exact ans_fv _ _
      · simp only [S36_263, S36_264, S36_265, S36_266, S36_267, S36_268, S36_269, S36_270, S36_271, S36_272, S36_273, S36_274, S36_275, S36_276, S36, ↓XX, ↓reduceIte, Nat.reduceBEq, decide_true, decide_false, Bool.not_true, Bool.not_false, List.map_cons, List.map_nil, List.length_map, List.length_cons, List.length_nil, Nat.reduceAdd, Int.cast_ofNat_Int, Int.natCast_zero, Int.natCast_one, Bool.false_eq_true, Bool.true_eq_false, decide_eq_true_eq, eq_self, Int.reduceEq, Int.reduceLT, Int.reduceLE, Bool.and_true, Bool.true_and, Bool.and_false, Bool.false_and, Nat.zero_add, h2]; exact ans_fv _ _
    by_cases h3 : k = 3
    · subst h3
      have e : (Tm.mk 3 m l).fits a = (decide (a.op = 16) && (decide (m = 0) && decide ((l.length : Int) = 0))) := by
        match l with
        | [] => simp [Tm.fits]
        | [_] => rw [fits1]; simp
        | [_, _] => simp [Tm.fits]
        | x :: y :: z :: l => rw [fits3]; have : ¬ ((l.length : Int) + 1 + 1 + 1 = 0) := by omega
                              simp [this]
      rw [e]
      obtain ⟨op, p, ks⟩ := a
      simp only [enc_mk, Tm.op]
      by_cases h2 : op = 16
      · by_cases h4 : m = 0
        · simp only [S36_263, S36_264, S36_265, S36_266, S36_267, S36_268, S36_269, S36_270, S36_271, S36_272, S36_273, S36_274, S36_275, S36_276, S36, ↓XX, ↓reduceIte, Nat.reduceBEq, decide_true, decide_false, Bool.not_true, Bool.not_false, List.map_cons, List.map_nil, List.length_map, List.length_cons, List.length_nil, Nat.reduceAdd, Int.cast_ofNat_Int, Int.natCast_zero, Int.natCast_one, Bool.false_eq_true, Bool.true_eq_false, decide_eq_true_eq, eq_self, Int.reduceEq, Int.reduceLT, Int.reduceLE, Bool.and_true, Bool.true_and, Bool.and_false, Bool.false_and, Nat.zero_add, h2, h4]; exact ans_fv _ _
        · simp only [S36_263, S36_264, S36_265, S36_266, S36_267, S36_268, S36_269, S36_270, S36_271, S36_272, S36_273, S36_274, S36_275, S36_276, S36, ↓XX, ↓reduceIte, Nat.reduceBEq, decide_true, decide_false, Bool.not_true, Bool.not_false, List.map_cons, List.map_nil, List.length_map, List.length_cons, List.length_nil, Nat.reduceAdd, Int.cast_ofNat_Int, Int.natCast_zero, Int.natCast_one, Bool.false_eq_true, Bool.true_eq_false, decide_eq_true_eq, eq_self, Int.reduceEq, Int.reduceLT, Int.reduceLE, Bool.and_true, Bool.true_and, Bool.and_false, Bool.false_and, Nat.zero_add, h2, h4]; exact ans_fv _ _
      · simp only [S36_263, S36_264, S36_265, S36_266, S36_267, S36_268, S36_269, S36_270, S36_271, S36_272, S36_273, S36_274, S36_275, S36_276, S36, ↓XX, ↓reduceIte, Nat.reduceBEq, decide_true, decide_false, Bool.not_true, Bool.not_false, List.map_cons, List.map_nil, List.length_map, List.length_cons, List.length_nil, Nat.reduceAdd, Int.cast_ofNat_Int, Int.natCast_zero, Int.natCast_one, Bool.false_eq_true, Bool.true_eq_false, decide_eq_true_eq, eq_self, Int.reduceEq, Int.reduceLT, Int.reduceLE, Bool.and_true, Bool.true_and, Bool.and_false, Bool.false_and, Nat.zero_add, h2]; exact ans_fv _ _
    by_cases h2 : k = 2
    · subst h2
      by_cases h5 : a.op = 17
      · by_cases h4 : m = 0
        · subst h4
          rcases typed_op ht with ⟨h6, _⟩ | ⟨_, q, r, hq, tq, tr⟩
          · omega
          · obtain ⟨op, p, ks⟩ := a
            simp only [Tm.op, Tm.kids] at h5 hq
            subst h5 hq
            match l with
            | [] => simp only [enc_mk, Tm.fits]; simp only [S36_263, S36_264, S36_265, S36_266, S36_267, S36_268, S36_269, S36_270, S36_271, S36_272, S36_273, S36_274, S36_275, S36_276, S36, ↓XX, ↓reduceIte, Nat.reduceBEq, decide_true, decide_false, Bool.not_true, Bool.not_false, List.map_cons, List.map_nil, List.length_map, List.length_cons, List.length_nil, Nat.reduceAdd, Int.cast_ofNat_Int, Int.natCast_zero, Int.natCast_one, Bool.false_eq_true, Bool.true_eq_false, decide_eq_true_eq, eq_self, Int.reduceEq, Int.reduceLT, Int.reduceLE, Bool.and_true, Bool.true_and, Bool.and_false, Bool.false_and, Nat.zero_add]; exact ans_fv _ _
            | [_] => simp only [enc_mk, fits1]; simp only [S36_263, S36_264, S36_265, S36_266, S36_267, S36_268, S36_269, S36_270, S36_271, S36_272, S36_273, S36_274, S36_275, S36_276, S36, ↓XX, ↓reduceIte, Nat.reduceBEq, decide_true, decide_false, Bool.not_true, Bool.not_false, List.map_cons, List.map_nil, List.length_map, List.length_cons, List.length_nil, Nat.reduceAdd, Int.cast_ofNat_Int, Int.natCast_zero, Int.natCast_one, Bool.false_eq_true, Bool.true_eq_false, decide_eq_true_eq, eq_self, Int.reduceEq, Int.reduceLT, Int.reduceLE, Bool.and_true, Bool.true_and, Bool.and_false, Bool.false_and, Nat.zero_add]; exact ans_fv _ _
            | x :: y :: z :: l =>
              have : ¬ ((l.length : Int) + 1 + 1 + 1 = 2) := by omega
              simp only [enc_mk, fits3]; simp only [S36_263, S36_264, S36_265, S36_266, S36_267, S36_268, S36_269, S36_270, S36_271, S36_272, S36_273, S36_274, S36_275, S36_276, S36, ↓XX, ↓reduceIte, Nat.reduceBEq, decide_true, decide_false, Bool.not_true, Bool.not_false, List.map_cons, List.map_nil, List.length_map, List.length_cons, List.length_nil, Nat.reduceAdd, Int.cast_ofNat_Int, Int.natCast_zero, Int.natCast_one, Bool.false_eq_true, Bool.true_eq_false, decide_eq_true_eq, eq_self, Int.reduceEq, Int.reduceLT, Int.reduceLE, Bool.and_true, Bool.true_and, Bool.and_false, Bool.false_and, Nat.zero_add, Int.natCast_add, this]; exact ans_fv _ _
            | [x, y] =>
              simp only [Tm.wtL] at h
              have ha := ih x q (by omega) tq
              have hb := ih y r (by omega) tr
              have e : (Tm.mk 2 0 [x, y]).fits (.mk 17 p [q, r]) = (x.fits q && y.fits r) := by simp [Tm.fits, Tm.op, Tm.kids]
              rw [e]
              generalize x.fits q = u at ha ⊢
              generalize y.fits r = w at hb ⊢
              obtain ⟨o1, n1, k1⟩ := x
              obtain ⟨o2, n2, k2⟩ := y
              obtain ⟨o3, n3, k3⟩ := q
              obtain ⟨o4, n4, k4⟩ := r
              simp only [List.map_cons, List.map_nil, enc_mk] at ha hb ⊢
              cases u
              · simp only [S36_263, S36_264, S36_265, S36_266, S36_267, S36_268, S36_269, S36_270, S36_271, S36_272, S36_273, S36_274, S36_275, S36_276, S36, ↓XX, ↓reduceIte, Nat.reduceBEq, decide_true, decide_false, Bool.not_true, Bool.not_false, List.map_cons, List.map_nil, List.length_map, List.length_cons, List.length_nil, Nat.reduceAdd, Int.cast_ofNat_Int, Int.natCast_zero, Int.natCast_one, Bool.false_eq_true, Bool.true_eq_false, decide_eq_true_eq, eq_self, Int.reduceEq, Int.reduceLT, Int.reduceLE, Bool.and_true, Bool.true_and, Bool.and_false, Bool.false_and, Nat.zero_add, ↓ixt0, ↓iso_2 ha]; exact ans_fv _ _
              · simp only [S36_263, S36_264, S36_265, S36_266, S36_267, S36_268, S36_269, S36_270, S36_271, S36_272, S36_273, S36_274, S36_275, S36_276, S36, ↓XX, ↓reduceIte, Nat.reduceBEq, decide_true, decide_false, Bool.not_true, Bool.not_false, List.map_cons, List.map_nil, List.length_map, List.length_cons, List.length_nil, Nat.reduceAdd, Int.cast_ofNat_Int, Int.natCast_zero, Int.natCast_one, Bool.false_eq_true, Bool.true_eq_false, decide_eq_true_eq, eq_self, Int.reduceEq, Int.reduceLT, Int.reduceLE, Bool.and_true, Bool.true_and, Bool.and_false, Bool.false_and, Nat.zero_add, ↓ixt0, ↓ixt1, ↓iso_2 ha, ↓iso_2 hb]; exact ans_fv _ _
        · have e : (Tm.mk 2 m l).fits a = false := by
            match l with
            | [] => simp [Tm.fits]
            | [_] => exact fits1 ..
            | [_, _] => simp [Tm.fits, h4]
            | x :: y :: z :: l => exact fits3 ..
          rw [e]
          obtain ⟨op, p, ks⟩ := a
          simp only [Tm.op] at h5
          simp only [enc_mk]
          simp only [S36_263, S36_264, S36_265, S36_266, S36_267, S36_268, S36_269, S36_270, S36_271, S36_272, S36_273, S36_274, S36_275, S36_276, S36, ↓XX, ↓reduceIte, Nat.reduceBEq, decide_true, decide_false, Bool.not_true, Bool.not_false, List.map_cons, List.map_nil, List.length_map, List.length_cons, List.length_nil, Nat.reduceAdd, Int.cast_ofNat_Int, Int.natCast_zero, Int.natCast_one, Bool.false_eq_true, Bool.true_eq_false, decide_eq_true_eq, eq_self, Int.reduceEq, Int.reduceLT, Int.reduceLE, Bool.and_true, Bool.true_and, Bool.and_false, Bool.false_and, Nat.zero_add, h4, h5]; exact ans_fv _ _
      · have e : (Tm.mk 2 m l).fits a = false := by
          match l with
          | [] => simp [Tm.fits]
          | [_] => exact fits1 ..
          | [_, _] => simp [Tm.fits, h5]
          | x :: y :: z :: l => exact fits3 ..
        rw [e]
        obtain ⟨op, p, ks⟩ := a
        simp only [Tm.op] at h5
        simp only [enc_mk]
        simp only [S36_263, S36_264, S36_265, S36_266, S36_267, S36_268, S36_269, S36_270, S36_271, S36_272, S36_273, S36_274, S36_275, S36_276, S36, ↓XX, ↓reduceIte, Nat.reduceBEq, decide_true, decide_false, Bool.not_true, Bool.not_false, List.map_cons, List.map_nil, List.length_map, List.length_cons, List.length_nil, Nat.reduceAdd, Int.cast_ofNat_Int, Int.natCast_zero, Int.natCast_one, Bool.false_eq_true, Bool.true_eq_false, decide_eq_true_eq, eq_self, Int.reduceEq, Int.reduceLT, Int.reduceLE, Bool.and_true, Bool.true_and, Bool.and_false, Bool.false_and, Nat.zero_add, h5]; exact ans_fv _ _
    · have e : (Tm.mk k m l).fits a = false := by
        match l with
        | [] => simp [Tm.fits, h1, h3]
        | [_] => exact fits1 ..
        | [_, _] => simp [Tm.fits, h2]
        | x :: y :: z :: l => exact fits3 ..
      rw [e]
      obtain ⟨op, p, ks⟩ := a
      simp only [enc_mk]
      simp only [S36_263, S36_264, S36_265, S36_266, S36_267, S36_268, S36_269, S36_270, S36_271, S36_272, S36_273, S36_274, S36_275, S36_276, S36, ↓XX, ↓reduceIte, Nat.reduceBEq, decide_true, decide_false, Bool.not_true, Bool.not_false, List.map_cons, List.map_nil, List.length_map, List.length_cons, List.length_nil, Nat.reduceAdd, Int.cast_ofNat_Int, Int.natCast_zero, Int.natCast_one, Bool.false_eq_true, Bool.true_eq_false, decide_eq_true_eq, eq_self, Int.reduceEq, Int.reduceLT, Int.reduceLE, Bool.and_true, Bool.true_and, Bool.and_false, Bool.false_and, Nat.zero_add, h1, h2, h3]; exact ans_fv _ _
def Tm.quo : Tm → Tm × Bool
  | .mk k n l => if k = 1 then (.mk 25 n [], true) else if k = 2 then (match l with
    | [a, b] => if a.quo.2 = true then (if b.quo.2 = true then (.mk 22 0 [a.quo.1, b.quo.1], true) else (.z, false)) else (.z, false)
    | _ => (.z, false)) else (.z, false)
theorem pquo_ok : ∀ (n : Nat) (v : Tm), v.wt + 3 < n → Ans (SS dt n 37 [.fv v.enc] ⟨[], []⟩) (.tuple [v.quo.1.enc, .bool v.quo.2]) := by
  intro n
  induction n with
  | zero => intro v h; omega
  | succ n ih =>
    intro v h
    rw [c37]
    obtain ⟨k, m, l⟩ := v
    simp only [Tm.wt] at h
    have hint := True.intro
    by_cases h1 : k = 1
    · subst h1
      have e : (Tm.mk 1 m l).quo = (.mk 25 m [], true) := by rw [Tm.quo.eq_def]; simp
      simp only [e, enc_mk] 
      simp only [S37_129, S37_130, S37_131, S37_132, S37_133, S37_134, S37_135, S37_136, S37_137, S37_138, S37_139, S37, ↓XX, ↓reduceIte, Nat.reduceBEq, decide_true, decide_false, Bool.not_true, Bool.not_false, List.map_cons, List.map_nil, List.length_map, List.length_cons, List.length_nil, Nat.reduceAdd, Int.cast_ofNat_Int, Int.natCast_zero, Int.natCast_one, Bool.false_eq_true, Bool.true_eq_false, decide_eq_true_eq, eq_self, Int.reduceEq, Int.reduceLT, Int.reduceLE, Bool.and_true, Bool.true_and, Bool.and_false, Bool.false_and, Nat.zero_add]; first | exact ans_fv _ _ | exact ans_t rfl (by simp) _
    by_cases h2 : k = 2
    · subst h2
      by_cases hl : (l.length : Int) = 2
      · obtain ⟨a, b, rfl⟩ := len2 hl
        simp only [Tm.wtL] at h
        have ha := ih a (by omega)
        have hb := ih b (by omega)
        have hof := fun x y => of_ok (n := n) (by omega) 22 [x, y]
        have e : (Tm.mk 2 m [a, b]).quo = if a.quo.2 = true then (if b.quo.2 = true then (.mk 22 0 [a.quo.1, b.quo.1], true) else (.z, false)) else (.z, false) := by rw [Tm.quo.eq_def]; simp
        rw [e]
        generalize a.quo = q at ha ⊢
        generalize b.quo = r at hb ⊢
        obtain ⟨u, x⟩ := q
        obtain ⟨w, y⟩ := r
        have hof := hof u w
        simp only at ha hb ⊢
        obtain ⟨o1, n1, k1⟩ := a
        obtain ⟨o2, n2, k2⟩ := b
        obtain ⟨o3, n3, k3⟩ := u
        obtain ⟨o4, n4, k4⟩ := w
        simp only [List.map_cons, List.map_nil, enc_mk] at ha hb hof ⊢
        cases x
        · simp only [S37_129, S37_130, S37_131, S37_132, S37_133, S37_134, S37_135, S37_136, S37_137, S37_138, S37_139, S37, ↓XX, ↓reduceIte, Nat.reduceBEq, decide_true, decide_false, Bool.not_true, Bool.not_false, List.map_cons, List.map_nil, List.length_map, List.length_cons, List.length_nil, Nat.reduceAdd, Int.cast_ofNat_Int, Int.natCast_zero, Int.natCast_one, Bool.false_eq_true, Bool.true_eq_false, decide_eq_true_eq, eq_self, Int.reduceEq, Int.reduceLT, Int.reduceLE, Bool.and_true, Bool.true_and, Bool.and_false, Bool.false_and, Nat.zero_add, ↓ixt0, ↓ixt1, ↓iso_1 ha, ↓iso_1 hb, Tm.z, enc_mk]; first | exact ans_fv _ _ | exact ans_t rfl (by simp) _
        · cases y
          · simp only [S37_129, S37_130, S37_131, S37_132, S37_133, S37_134, S37_135, S37_136, S37_137, S37_138, S37_139, S37, ↓XX, ↓reduceIte, Nat.reduceBEq, decide_true, decide_false, Bool.not_true, Bool.not_false, List.map_cons, List.map_nil, List.length_map, List.length_cons, List.length_nil, Nat.reduceAdd, Int.cast_ofNat_Int, Int.natCast_zero, Int.natCast_one, Bool.false_eq_true, Bool.true_eq_false, decide_eq_true_eq, eq_self, Int.reduceEq, Int.reduceLT, Int.reduceLE, Bool.and_true, Bool.true_and, Bool.and_false, Bool.false_and, Nat.zero_add, ↓ixt0, ↓ixt1, ↓iso_1 ha, ↓iso_1 hb, Tm.z, enc_mk]; first | exact ans_fv _ _ | exact ans_t rfl (by simp) _
          · simp only [S37_129, S37_130, S37_131, S37_132, S37_133, S37_134, S37_135, S37_136, S37_137, S37_138, S37_139, S37, ↓XX, ↓reduceIte, Nat.reduceBEq, decide_true, decide_false, Bool.not_true, Bool.not_false, List.map_cons, List.map_nil, List.length_map, List.length_cons, List.length_nil, Nat.reduceAdd, Int.cast_ofNat_Int, Int.natCast_zero, Int.natCast_one, Bool.false_eq_true, Bool.true_eq_false, decide_eq_true_eq, eq_self, Int.reduceEq, Int.reduceLT, Int.reduceLE, Bool.and_true, Bool.true_and, Bool.and_false, Bool.false_and, Nat.zero_add, ↓ixt0, ↓ixt1, ↓iso_1 ha, ↓iso_1 hb, ↓bs2_g, ↓iso_2 hof, enc_mk, List.map_cons, List.map_nil]; first | exact ans_fv _ _ | exact ans_t rfl (by simp) _
      · have e : (Tm.mk 2 m l).quo = (.z, false) := by
          rw [Tm.quo.eq_def]
          match l, hl with
          | [], _ => simp
          | [_], _ => simp
          | [_, _], hl => simp at hl
          | x :: y :: z :: l, _ => simp
        simp only [e, enc_mk, Tm.z]
        simp only [S37_129, S37_130, S37_131, S37_132, S37_133, S37_134, S37_135, S37_136, S37_137, S37_138, S37_139, S37, ↓XX, ↓reduceIte, Nat.reduceBEq, decide_true, decide_false, Bool.not_true, Bool.not_false, List.map_cons, List.map_nil, List.length_map, List.length_cons, List.length_nil, Nat.reduceAdd, Int.cast_ofNat_Int, Int.natCast_zero, Int.natCast_one, Bool.false_eq_true, Bool.true_eq_false, decide_eq_true_eq, eq_self, Int.reduceEq, Int.reduceLT, Int.reduceLE, Bool.and_true, Bool.true_and, Bool.and_false, Bool.false_and, Nat.zero_add, hl]; first | exact ans_fv _ _ | exact ans_t rfl (by simp) _
    · have e : (Tm.mk k m l).quo = (.z, false) := by rw [Tm.quo.eq_def]; simp [h1, h2]
      simp only [e, enc_mk, Tm.z]
      simp only [S37_129, S37_130, S37_131, S37_132, S37_133, S37_134, S37_135, S37_136, S37_137, S37_138, S37_139, S37, ↓XX, ↓reduceIte, Nat.reduceBEq, decide_true, decide_false, Bool.not_true, Bool.not_false, List.map_cons, List.map_nil, List.length_map, List.length_cons, List.length_nil, Nat.reduceAdd, Int.cast_ofNat_Int, Int.natCast_zero, Int.natCast_one, Bool.false_eq_true, Bool.true_eq_false, decide_eq_true_eq, eq_self, Int.reduceEq, Int.reduceLT, Int.reduceLE, Bool.and_true, Bool.true_and, Bool.and_false, Bool.false_and, Nat.zero_add, h1, h2]; first | exact ans_fv _ _ | exact ans_t rfl (by simp) _
theorem rquo_ok : ∀ (n : Nat) (v : Tm), v.wt + 3 < n → Ans (SS dt n 38 [.fv v.enc] ⟨[], []⟩) (.tuple [v.quo.1.enc, .bool v.quo.2]) := by
  intro n
  induction n with
  | zero => intro v h; omega
  | succ n ih =>
    intro v h
    rw [c38]
    obtain ⟨k, m, l⟩ := v
    simp only [Tm.wt] at h
    have hint := int_ok (n := n) (by omega) m
    by_cases h1 : k = 1
    · subst h1
      have e : (Tm.mk 1 m l).quo = (.mk 25 m [], true) := by rw [Tm.quo.eq_def]; simp
      simp only [e, enc_mk] at hint ⊢
      simp only [S38_132, S38_133, S38_134, S38_135, S38_136, S38_137, S38_138, S38_139, S38_140, S38_141, S38_142, S38, ↓XX, ↓reduceIte, Nat.reduceBEq, decide_true, decide_false, Bool.not_true, Bool.not_false, List.map_cons, List.map_nil, List.length_map, List.length_cons, List.length_nil, Nat.reduceAdd, Int.cast_ofNat_Int, Int.natCast_zero, Int.natCast_one, Bool.false_eq_true, Bool.true_eq_false, decide_eq_true_eq, eq_self, Int.reduceEq, Int.reduceLT, Int.reduceLE, Bool.and_true, Bool.true_and, Bool.and_false, Bool.false_and, Nat.zero_add, ↓iso_1 hint]; first | exact ans_fv _ _ | exact ans_t rfl (by simp) _
    by_cases h2 : k = 2
    · subst h2
      by_cases hl : (l.length : Int) = 2
      · obtain ⟨a, b, rfl⟩ := len2 hl
        simp only [Tm.wtL] at h
        have ha := ih a (by omega)
        have hb := ih b (by omega)
        have hof := fun x y => t_ok (n := n) (by omega) 22 [x, y]
        have e : (Tm.mk 2 m [a, b]).quo = if a.quo.2 = true then (if b.quo.2 = true then (.mk 22 0 [a.quo.1, b.quo.1], true) else (.z, false)) else (.z, false) := by rw [Tm.quo.eq_def]; simp
        rw [e]
        generalize a.quo = q at ha ⊢
        generalize b.quo = r at hb ⊢
        obtain ⟨u, x⟩ := q
        obtain ⟨w, y⟩ := r
        have hof := hof u w
        simp only at ha hb ⊢
        obtain ⟨o1, n1, k1⟩ := a
        obtain ⟨o2, n2, k2⟩ := b
        obtain ⟨o3, n3, k3⟩ := u
        obtain ⟨o4, n4, k4⟩ := w
        simp only [List.map_cons, List.map_nil, enc_mk] at ha hb hof ⊢
        cases x
        · simp only [S38_132, S38_133, S38_134, S38_135, S38_136, S38_137, S38_138, S38_139, S38_140, S38_141, S38_142, S38, ↓XX, ↓reduceIte, Nat.reduceBEq, decide_true, decide_false, Bool.not_true, Bool.not_false, List.map_cons, List.map_nil, List.length_map, List.length_cons, List.length_nil, Nat.reduceAdd, Int.cast_ofNat_Int, Int.natCast_zero, Int.natCast_one, Bool.false_eq_true, Bool.true_eq_false, decide_eq_true_eq, eq_self, Int.reduceEq, Int.reduceLT, Int.reduceLE, Bool.and_true, Bool.true_and, Bool.and_false, Bool.false_and, Nat.zero_add, ↓ixt0, ↓ixt1, ↓iso_1 ha, ↓iso_1 hb, Tm.z, enc_mk]; first | exact ans_fv _ _ | exact ans_t rfl (by simp) _
        · cases y
          · simp only [S38_132, S38_133, S38_134, S38_135, S38_136, S38_137, S38_138, S38_139, S38_140, S38_141, S38_142, S38, ↓XX, ↓reduceIte, Nat.reduceBEq, decide_true, decide_false, Bool.not_true, Bool.not_false, List.map_cons, List.map_nil, List.length_map, List.length_cons, List.length_nil, Nat.reduceAdd, Int.cast_ofNat_Int, Int.natCast_zero, Int.natCast_one, Bool.false_eq_true, Bool.true_eq_false, decide_eq_true_eq, eq_self, Int.reduceEq, Int.reduceLT, Int.reduceLE, Bool.and_true, Bool.true_and, Bool.and_false, Bool.false_and, Nat.zero_add, ↓ixt0, ↓ixt1, ↓iso_1 ha, ↓iso_1 hb, Tm.z, enc_mk]; first | exact ans_fv _ _ | exact ans_t rfl (by simp) _
          · simp only [S38_132, S38_133, S38_134, S38_135, S38_136, S38_137, S38_138, S38_139, S38_140, S38_141, S38_142, S38, ↓XX, ↓reduceIte, Nat.reduceBEq, decide_true, decide_false, Bool.not_true, Bool.not_false, List.map_cons, List.map_nil, List.length_map, List.length_cons, List.length_nil, Nat.reduceAdd, Int.cast_ofNat_Int, Int.natCast_zero, Int.natCast_one, Bool.false_eq_true, Bool.true_eq_false, decide_eq_true_eq, eq_self, Int.reduceEq, Int.reduceLT, Int.reduceLE, Bool.and_true, Bool.true_and, Bool.and_false, Bool.false_and, Nat.zero_add, ↓ixt0, ↓ixt1, ↓iso_1 ha, ↓iso_1 hb, ↓bs2_g, ↓iso_2 hof, enc_mk, List.map_cons, List.map_nil]; first | exact ans_fv _ _ | exact ans_t rfl (by simp) _
      · have e : (Tm.mk 2 m l).quo = (.z, false) := by
          rw [Tm.quo.eq_def]
          match l, hl with
          | [], _ => simp
          | [_], _ => simp
          | [_, _], hl => simp at hl
          | x :: y :: z :: l, _ => simp
        simp only [e, enc_mk, Tm.z]
        simp only [S38_132, S38_133, S38_134, S38_135, S38_136, S38_137, S38_138, S38_139, S38_140, S38_141, S38_142, S38, ↓XX, ↓reduceIte, Nat.reduceBEq, decide_true, decide_false, Bool.not_true, Bool.not_false, List.map_cons, List.map_nil, List.length_map, List.length_cons, List.length_nil, Nat.reduceAdd, Int.cast_ofNat_Int, Int.natCast_zero, Int.natCast_one, Bool.false_eq_true, Bool.true_eq_false, decide_eq_true_eq, eq_self, Int.reduceEq, Int.reduceLT, Int.reduceLE, Bool.and_true, Bool.true_and, Bool.and_false, Bool.false_and, Nat.zero_add, hl]; first | exact ans_fv _ _ | exact ans_t rfl (by simp) _
    · have e : (Tm.mk k m l).quo = (.z, false) := by rw [Tm.quo.eq_def]; simp [h1, h2]
      simp only [e, enc_mk, Tm.z]
      simp only [S38_132, S38_133, S38_134, S38_135, S38_136, S38_137, S38_138, S38_139, S38_140, S38_141, S38_142, S38, ↓XX, ↓reduceIte, Nat.reduceBEq, decide_true, decide_false, Bool.not_true, Bool.not_false, List.map_cons, List.map_nil, List.length_map, List.length_cons, List.length_nil, Nat.reduceAdd, Int.cast_ofNat_Int, Int.natCast_zero, Int.natCast_one, Bool.false_eq_true, Bool.true_eq_false, decide_eq_true_eq, eq_self, Int.reduceEq, Int.reduceLT, Int.reduceLE, Bool.and_true, Bool.true_and, Bool.and_false, Bool.false_and, Nat.zero_add, h1, h2]; first | exact ans_fv _ _ | exact ans_t rfl (by simp) _
end Idl
end Go.Proofs.Ytdibmackcbpniaa

namespace Go.Proofs.Ytdibmackcbpniaa
namespace Idl
mutual
def Tm.okn : Tm → Bool
  | .mk op m l => decide (kidsN op = (l.length : Int)) && (numb op m && Tm.oknL l)
def Tm.oknL : List Tm → Bool
  | [] => true
  | t :: l => t.okn && Tm.oknL l
end
mutual
theorem chk_okn : ∀ (t : Tm) (n d : Int), t.okn = true → n + t.wt ≤ 3000 → d + t.wt ≤ 121 → t.chk n d = (n + t.wt, 0)
  | .mk op m l, n, d, h, h1, h2 => by
    simp only [Tm.okn, Bool.and_eq_true, decide_eq_true_eq] at h
    simp only [Tm.wt] at h1 h2 ⊢
    rw [Tm.chk, if_neg (by omega), if_neg (by simp [h.1, h.2.1]), chkL_okn l (n + 1) (d + 1) h.2.2 (by omega) (by omega)]
    simp only [Prod.mk.injEq, and_true]
    omega
theorem chkL_okn : ∀ (l : List Tm) (n d : Int), Tm.oknL l = true → n + Tm.wtL l ≤ 3000 → d + Tm.wtL l ≤ 121 → Tm.chkL l n d = (n + Tm.wtL l, 0)
  | [], n, d, _, _, _ => by simp [Tm.chkL, Tm.wtL]
  | t :: l, n, d, h, h1, h2 => by
    simp only [Tm.oknL, Bool.and_eq_true] at h
    simp only [Tm.wtL] at h1 h2 ⊢
    rw [Tm.chkL, chk_okn t n d h.1 (by omega) (by omega), if_pos rfl, chkL_okn l _ d h.2 (by simp only; omega) (by omega)]
    simp only [Prod.mk.injEq, and_true]
    omega
end
theorem plainT_okn : ∀ (d : Nat) (r : Tm), (r.plainT d).okn = true
  | 0, r => by simp [Tm.plainT]; decide
  | d + 1, r => by
    have h1 := Int.emod_nonneg r.n (show (4 : Int) ≠ 0 by decide)
    have h2 := Int.emod_lt_of_pos r.n (show (0 : Int) < 4 by decide)
    simp only [Tm.plainT]
    split
    · decide
    · have h3 : 16 + r.n % 4 - 2 = 16 ∨ 16 + r.n % 4 - 2 = 17 := by omega
      rcases h3 with h3 | h3 <;> (rw [h3]; simp only [Tm.okn, Tm.oknL, plainT_okn d, Bool.and_true, Bool.and_self]; rfl)
theorem alike_self : ∀ a : Tm, a.typed = true → a.alike a = true
  | .mk op m [], h => by simp [Tm.alike]
  | .mk op m [_], h => by rw [typed1] at h; cases h
  | .mk op m (_ :: _ :: _ :: _), h => by rw [typed3] at h; cases h
  | .mk op m [a, b], h => by
    simp only [Tm.typed, Bool.and_eq_true] at h
    rw [Tm.alike]
    split
    · rw [alike_self a h.2.1, alike_self b h.2.2]; rfl
    · simp
theorem quo_inf (ns : List Int) : ∀ (n : Nat) (a : Tm) (i : Int) (g : List Tm), a.wt < n → a.typed = true → a.okn = true → a.wt ≤ 100 → (a.valT ns i).quo.2 = true → (a.valT ns i).quo.1.inf g = (0, a) ∧ (a.valT ns i).quo.1.okn = true ∧ (a.valT ns i).quo.1.wt ≤ a.wt := by
  intro n
  induction n with
  | zero => intro a i g h; omega
  | succ n ih =>
    intro a i g hn ht ho hw hq
    rcases typed_op ht with ⟨h1, h2⟩ | ⟨h1, x, y, h2, tx, ty⟩
    · obtain ⟨op, m, l⟩ := a
      simp only [Tm.op, Tm.kids] at h1 h2
      subst h1 h2
      have hm : m = 0 := by have h := ho; simp [Tm.okn, numb, Tm.oknL] at h; exact h.2
      subst hm
      have e : ∀ k, (Tm.mk 1 k []).quo = (.mk 25 k [], true) := fun k => by rw [Tm.quo.eq_def]; simp
      obtain ⟨k, hk⟩ : ∃ k, (Tm.mk 15 0 []).valT ns i = .mk 1 k [] := by rw [Tm.valT.eq_def]; exact ⟨_, rfl⟩
      rw [hk, e]
      refine ⟨?_, ?_, ?_⟩
      · rw [Tm.inf, if_neg (by decide), if_pos rfl]; rfl
      · simp [Tm.okn, Tm.oknL, numb]; decide
      · simp [Tm.wt, Tm.wtL]
    · obtain ⟨op, m, l⟩ := a
      simp only [Tm.op, Tm.kids] at h1 h2
      subst h2
      simp only [Tm.okn, Tm.oknL, Bool.and_eq_true, decide_eq_true_eq, Bool.and_true] at ho
      simp only [Tm.wt, Tm.wtL] at hn hw ⊢
      by_cases h16 : op = 16
      · rw [Tm.valT, if_pos h16] at hq
        rw [Tm.quo.eq_def] at hq
        simp at hq
      · have h17 : op = 17 := by omega
        subst h17
        have hm : m = 0 := by simpa [numb] using ho.2.1
        subst hm
        have e : ∀ u w : Tm, (Tm.mk 2 0 [u, w]).quo = if u.quo.2 = true then (if w.quo.2 = true then (.mk 22 0 [u.quo.1, w.quo.1], true) else (.z, false)) else (.z, false) := fun u w => by rw [Tm.quo.eq_def]; simp
        rw [Tm.valT, if_neg (by decide), e] at hq ⊢
        by_cases hx : (x.valT ns (2 * i + 1)).quo.2 = true
        · by_cases hy : (y.valT ns (2 * i + 2)).quo.2 = true
          · obtain ⟨a1, a2, a3⟩ := ih x (2 * i + 1) g (by omega) tx ho.2.2.1 (by omega) hx
            obtain ⟨b1, b2, b3⟩ := ih y (2 * i + 2) g (by omega) ty ho.2.2.2 (by omega) hy
            rw [if_pos hx, if_pos hy]
            refine ⟨?_, ?_, ?_⟩
            · rw [Tm.inf]
              simp only [Int.reduceEq, if_false, if_true, a1, b1, madeM]
              rw [chk_okn _ 0 1 (by simp only [Tm.okn, Tm.oknL, ho.2.2.1, ho.2.2.2]; rfl) (by simp only [Tm.wt, Tm.wtL]; omega) (by simp only [Tm.wt, Tm.wtL]; omega)]
            · simp only [Tm.okn, Tm.oknL, a2, b2]; rfl
            · simp only [Tm.wt, Tm.wtL]; omega
          · rw [if_pos hx, if_neg hy] at hq; cases hq
        · rw [if_neg hx] at hq; cases hq
end Idl
end Go.Proofs.Ytdibmackcbpniaa

namespace Go.Proofs.Ytdibmackcbpniaa
namespace Idl
theorem bs2_vg (o1 n1 o2 n2 : Int) (k1 k2 : List FV) (s : Nat) (h : Hp) (k : IV → Hp → List Ref → List Ref → Option (IV × Hp)) : genS (pcBuildSlice EE 58 2 [(0, .fv (.agg [.int .i64 o1, .int .i64 n1, .sl k1])), (1, .fv (.agg [.int .i64 o2, .int .i64 n2, .sl k2]))]) s h k =
    k (.clip [.agg [.int .i64 o1, .int .i64 n1, .sl k1], .agg [.int .i64 o2, .int .i64 n2, .sl k2]]) h [] [] := bs_tm tVals tVal (by decide) (cells := [.int .i64 o1, .int .i64 n1, .sl k1, .int .i64 o2, .int .i64 n2, .sl k2]) rfl k
theorem ix_cl {β : Type} (es : List FV) (x : IV) (k : IV → Option β) : ixS 3 (.clip es) x k = ixS 3 (.fv (.sl es)) x k := rfl
theorem ne_b (a b : Bool) (k : IV → Option (IV × Hp)) : neS EE 4 (.fv (.bool a)) (.fv (.bool b)) k = k (.fv (.bool (!(a == b)))) := by
  unfold neS cmpS
  show binS EE 4 .neq (.fv (.bool a)) (.fv (.bool b)) k = _
  refine opt_some ?_ k
  have hT : EE.T 4 = some ⟨1, 1, .bool, [.fv (.bool false)]⟩ := by kernel_rfl
  simp only [binR, hT, eqOp]
theorem fewV_wt : ∀ (k : Nat) (t : Tm) (d : Int), d + k = 8 → t.fewV d = true → t.wt ≤ 5 ^ k := by
  intro k
  induction k with
  | zero =>
    intro t d hd h
    obtain ⟨op, m, l⟩ := t
    rw [Tm.fewV, if_neg (by omega)] at h
    split at h
    · cases h
    · cases l with
      | nil => simp [Tm.wt, Tm.wtL]
      | cons x l =>
        obtain ⟨op, m, l⟩ := x
        rw [Tm.fewVL, Tm.fewV, if_pos (by omega)] at h
        simp at h
  | succ k ih =>
    intro t d hd h
    obtain ⟨op, m, l⟩ := t
    rw [Tm.fewV, if_neg (by omega)] at h
    split at h
    · cases h
    · rename_i hl
      have hL : ∀ l : List Tm, Tm.fewVL l d = true → Tm.wtL l ≤ l.length * 5 ^ k := by
        intro l
        induction l with
        | nil => intro _; simp [Tm.wtL]
        | cons x l ihl =>
          intro h
          rw [Tm.fewVL, Bool.and_eq_true] at h
          have h1 := ih x (d + 1) (by omega) h.1
          have h2 := ihl h.2
          simp only [Tm.wtL, List.length_cons, Nat.succ_mul]
          omega
      have h1 := hL l h
      have h2 : l.length * 5 ^ k ≤ 4 * 5 ^ k := Nat.mul_le_mul_right _ (by omega)
      have h3 : 0 < 5 ^ k := Nat.pow_pos (by decide)
      simp only [Tm.wt, Nat.pow_succ]
      omega
set_option maxRecDepth 20000 in
set_option maxHeartbeats 2000000 in
theorem objValues_ok (v q : Tm) (ns : List Int) : ∃ N, AnsV (SS dt N 9 [.fv v.enc, .fv q.enc, .fv (iEnc ns)] ⟨[], []⟩) (.bool true) := by
  refine ⟨v.wt + q.wt + 20000 + 1, ?_⟩
  rw [c9]
  generalize hn : v.wt + q.wt + 20000 = n
  have hk := known_ok (n := n) (by omega)
  obtain ⟨m, hm⟩ : ∃ m, n = m + 1 := ⟨n - 1, by omega⟩
  have fv := fewV_ok n v 0 (by omega) (by omega) (by omega)
  have fq := few_ok (n := m) q (by omega)
  rw [← hm] at fq
  have pq := plainT_ok 4 n q (by omega) (by omega)
  have ta := plainT_typed 4 q
  have wa := plainT_wt 4 q
  have oa := plainT_okn 4 q
  generalize q.plainT 4 = a at pq ta wa oa
  have hv := valT_ok ns n a 0 (by omega) ta (by omega) (by
    have h1 : (2 : Nat) ^ a.wt ≤ 2 ^ 31 := Nat.pow_le_pow_right (by decide) wa
    have h2 : ((2 : Int) ^ a.wt) ≤ 2 ^ 31 := by exact_mod_cast h1
    omega)
  have hvw : (a.valT ns 0).wt ≤ a.wt := valT_wt ns (a.wt + 1) _ 0 (by omega)
  have hf := fits_ok n (a.valT ns 0) a (by omega) ta
  rw [val_fits ns (a.wt + 1) _ _ 0 (by omega) ta ta, alike_self a ta] at hf
  have hfv := fits_ok n v a (by omega) ta
  have hfr := rfits_ok n v a (by omega) ta
  have hqi := quo_inf ns (a.wt + 1) a 0 [] (by omega) ta oa (by omega)
  have q1 := pquo_ok n v (by omega)
  have q2 := rquo_ok n v (by omega)
  have q3 := pquo_ok n (a.valT ns 0) (by omega)
  have q4 := rquo_ok n (a.valT ns 0) (by omega)
  have qw : ∀ (n : Nat) (t : Tm), t.wt < n → t.quo.1.wt ≤ t.wt := by
    intro n
    induction n with
    | zero => intro t h; omega
    | succ n ih =>
      intro t h
      obtain ⟨k, m, l⟩ := t
      simp only [Tm.wt] at h ⊢
      rw [Tm.quo.eq_def]
      simp only
      split
      · simp [Tm.wt, Tm.wtL]
      · split
        · split
          · simp only [Tm.wtL] at h ⊢
            rename_i x y
            have h1 := ih x (by omega)
            have h2 := ih y (by omega)
            split
            · split
              · simp only [Tm.wt, Tm.wtL]; omega
              · simp [Tm.z, Tm.wt, Tm.wtL]
            · simp [Tm.z, Tm.wt, Tm.wtL]
          · simp [Tm.z, Tm.wt, Tm.wtL]
        · simp [Tm.z, Tm.wt, Tm.wtL]
  have w1 := qw _ v (Nat.lt_succ_self _)
  have w2 := qw _ (a.valT ns 0) (Nat.lt_succ_self _)
  have s1 : v.quo.1.wt ≤ 1152921504606846976 → Ans (SS dt n 18 [.fv v.quo.1.enc, .fv v.quo.1.enc] ⟨[], []⟩) (.bool true) := fun h => by
    have := same_ok n v.quo.1 v.quo.1 (by omega) h
    rwa [(same_eq _ _).2 rfl] at this
  have s2 := same_ok n (a.valT ns 0).quo.1 (a.valT ns 0).quo.1 (by omega) (by omega)
  have s3 := same_ok n a a (by omega) (by omega)
  rw [(same_eq _ _).2 rfl] at s2 s3
  have hI : (a.valT ns 0).quo.2 = true → Ans (SS dt n 17 [.fv (.sl []), .fv (a.valT ns 0).quo.1.enc] ⟨[], []⟩) (.tuple [a.enc, .int .i64 0]) := fun h => by
    obtain ⟨i1, i2, i3⟩ := hqi h
    have := pInfer_ok 3000 (by omega) (by omega) n (a.valT ns 0).quo.1 [] (by omega) (by intro x hx; cases hx) (by simp; omega) (by simp; omega)
    unfold Tm.infer at this
    rw [chk_okn _ 0 1 i2 (by omega) (by omega), i1] at this
    exact this
  clear hqi qw hm
  cases h1 : v.fewV 0
  · rw [h1] at fv
    obtain ⟨o1, n1, k1⟩ := v
    obtain ⟨o2, n2, k2⟩ := q
    simp only [enc_mk, iEnc] at fv fq ⊢
    simp only [S9_260, S9_261, S9_262, S9_263, S9_264, S9_265, S9_266, S9_267, S9_268, S9_269, S9_270, S9_271, S9_272, S9_273, S9_274, S9_275, S9_276, S9_277, S9_278, S9_279, S9, ↓XX, ↓reduceIte, Nat.reduceBEq, decide_true, decide_false, Bool.not_true, Bool.not_false, List.map_cons, List.map_nil, List.length_map, List.length_cons, List.length_nil, Nat.reduceAdd, Int.cast_ofNat_Int, Int.natCast_zero, Int.natCast_one, Bool.false_eq_true, Bool.true_eq_false, decide_eq_true_eq, eq_self, Int.reduceEq, Int.reduceLT, Int.reduceLE, Bool.and_true, Bool.true_and, Bool.and_false, Bool.false_and, Nat.zero_add, ↓iso_0 hk, ↓iso_2 fv]
    exact ansv
  have hvw2 := fewV_wt 8 v 0 (by omega) h1
  have s1 := s1 (by have : (5 : Nat) ^ 8 ≤ 390625 := by decide
                    omega)
  rw [h1] at fv
  cases h2 : decide (q.count 300 < 300)
  · rw [h2] at fq
    obtain ⟨o1, n1, k1⟩ := v
    obtain ⟨o2, n2, k2⟩ := q
    simp only [enc_mk, iEnc] at fv fq ⊢
    simp only [S9_260, S9_261, S9_262, S9_263, S9_264, S9_265, S9_266, S9_267, S9_268, S9_269, S9_270, S9_271, S9_272, S9_273, S9_274, S9_275, S9_276, S9_277, S9_278, S9_279, S9, ↓XX, ↓reduceIte, Nat.reduceBEq, decide_true, decide_false, Bool.not_true, Bool.not_false, List.map_cons, List.map_nil, List.length_map, List.length_cons, List.length_nil, Nat.reduceAdd, Int.cast_ofNat_Int, Int.natCast_zero, Int.natCast_one, Bool.false_eq_true, Bool.true_eq_false, decide_eq_true_eq, eq_self, Int.reduceEq, Int.reduceLT, Int.reduceLE, Bool.and_true, Bool.true_and, Bool.and_false, Bool.false_and, Nat.zero_add, ↓iso_0 hk, ↓iso_2 fv, ↓iso_1 fq]
    exact ansv
  rw [h2] at fq
  generalize v.fits a = fb at hfv hfr
  generalize a.valT ns 0 = w at hv hf q3 q4 s2 hI
  generalize v.quo = p1 at q1 q2 s1
  generalize w.quo = p2 at q3 q4 s2 hI
  clear hvw w1 w2 hvw2 h1 h2
  obtain ⟨t1, b1⟩ := p1
  obtain ⟨t2, b2⟩ := p2
  simp only at q1 q2 s1 q3 q4 s2 hI
  obtain ⟨o1, n1, k1⟩ := v
  obtain ⟨o2, n2, k2⟩ := q
  obtain ⟨o3, n3, k3⟩ := a
  obtain ⟨o4, n4, k4⟩ := w
  obtain ⟨o5, n5, k5⟩ := t1
  obtain ⟨o6, n6, k6⟩ := t2
  simp only [enc_mk, iEnc] at fv fq pq hv hf hfv hfr q1 q2 q3 q4 s1 s2 s3 hI ⊢
  simp only [S9_260, S9_261, S9_262, S9_263, S9_264, S9_265, S9_266, S9_267, S9_268, S9_269, S9_271, S9_272, S9_273, S9_274, S9_275, S9_276, S9_277, S9_278, S9_279, S9, ↓XX, ↓reduceIte, Nat.reduceBEq, decide_true, decide_false, Bool.not_true, Bool.not_false, List.map_cons, List.map_nil, List.length_map, List.length_cons, List.length_nil, Nat.reduceAdd, Int.cast_ofNat_Int, Int.natCast_zero, Int.natCast_one, Bool.false_eq_true, Bool.true_eq_false, decide_eq_true_eq, eq_self, Int.reduceEq, Int.reduceLT, Int.reduceLE, Bool.and_true, Bool.true_and, Bool.and_false, Bool.false_and, Nat.zero_add, ↓iso_0 hk, ↓iso_2 fv, ↓iso_1 fq, ↓iso_2 pq, ↓iso_3 hv, ↓iso_2 hf, ↓iso_2 hfv, ↓iso_2 hfr, ↓ne_b, BEq.rfl, ↓bs2_vg, ↓drop_e, XD, heldB, flatD, List.any_cons, List.any_nil, List.all_cons, List.all_nil, List.filter_cons, List.filter_nil, List.contains_cons, List.contains_nil, Bool.or_false, Bool.or_true, Bool.false_or, Bool.true_or, Bool.and_self, Bool.not_eq_true, BEq.rfl, beq_self_eq_true]
  refine loop_run (Q := fun r => AnsV r _) (fun k V H => ∃ i : Nat, i + k = 2 ∧ V = [.ptr (.own 9442306) 0, .clip [.agg [.int .i64 o1, .int .i64 n1, .sl (k1.map Tm.enc)], .agg [.int .i64 o4, .int .i64 n4, .sl (k4.map Tm.enc)]], iv i] ∧
    H = ⟨[(9437184, .row [iv o1, iv n1, .fv (.sl (k1.map Tm.enc))] false), (9437185, .row [iv o2, iv n2, .fv (.sl (k2.map Tm.enc))] false), (9442306, .row [iv o3, iv n3, .fv (.sl (k3.map Tm.enc))] false), (9443331, .row [iv o4, iv n4, .fv (.sl (k4.map Tm.enc))] false)], []⟩) ?_ n 2 _ _ (by omega) ⟨0, by omega, rfl, rfl⟩
  rintro k V H rec ⟨i, hik, rfl, rfl⟩ hrec
  match i, hik with
  | 0, hik =>
    have w01 : w64 (0 + 1) = ((1 : Nat) : Int) := by rw [w64_id] <;> omega
    have h9 := hrec 1 [.ptr (.own 9442306) 0, .clip [.agg [.int .i64 o1, .int .i64 n1, .sl (k1.map Tm.enc)], .agg [.int .i64 o4, .int .i64 n4, .sl (k4.map Tm.enc)]], iv (1 : Nat)] _ (by omega) ⟨1, by omega, rfl, rfl⟩
    simp only [S9_260, S9_261, S9_262, S9_263, S9_264, S9_265, S9_266, S9_267, S9_268, S9_269, S9_270, S9_271, S9_272, S9_273, S9_274, S9_275, S9_276, S9_277, S9_278, S9_279, S9, ↓XX, ↓reduceIte, Nat.reduceBEq, decide_true, decide_false, Bool.not_true, Bool.not_false, List.map_cons, List.map_nil, List.length_map, List.length_cons, List.length_nil, Nat.reduceAdd, Int.cast_ofNat_Int, Int.natCast_zero, Int.natCast_one, Bool.false_eq_true, Bool.true_eq_false, decide_eq_true_eq, eq_self, Int.reduceEq, Int.reduceLT, Int.reduceLE, Bool.and_true, Bool.true_and, Bool.and_false, Bool.false_and, Nat.zero_add, ↓ix_cl, ↓ixt0, ↓iso_1 q1, ↓iso_1 q2, ↓ne_b, BEq.rfl, ↓iso_2 s1, w01, ↓drop_e, XD, heldB, flatD, List.any_cons, List.any_nil, List.all_cons, List.all_nil, List.filter_cons, List.filter_nil, List.contains_cons, List.contains_nil, Bool.or_false, Bool.or_true, Bool.false_or, Bool.true_or, Bool.and_self, Bool.not_eq_true, BEq.rfl, beq_self_eq_true]
    exact h9
  | 1, hik =>
    have w11 : w64 (1 + 1) = ((2 : Nat) : Int) := by rw [w64_id] <;> omega
    have h9 := hrec 0 [.ptr (.own 9442306) 0, .clip [.agg [.int .i64 o1, .int .i64 n1, .sl (k1.map Tm.enc)], .agg [.int .i64 o4, .int .i64 n4, .sl (k4.map Tm.enc)]], iv (2 : Nat)] _ (by omega) ⟨2, by omega, rfl, rfl⟩
    cases b2
    · simp only [S9_260, S9_261, S9_262, S9_263, S9_264, S9_265, S9_266, S9_267, S9_268, S9_269, S9_270, S9_271, S9_272, S9_273, S9_274, S9_275, S9_276, S9_277, S9_278, S9_279, S9, ↓XX, ↓reduceIte, Nat.reduceBEq, decide_true, decide_false, Bool.not_true, Bool.not_false, List.map_cons, List.map_nil, List.length_map, List.length_cons, List.length_nil, Nat.reduceAdd, Int.cast_ofNat_Int, Int.natCast_zero, Int.natCast_one, Bool.false_eq_true, Bool.true_eq_false, decide_eq_true_eq, eq_self, Int.reduceEq, Int.reduceLT, Int.reduceLE, Bool.and_true, Bool.true_and, Bool.and_false, Bool.false_and, Nat.zero_add, ↓ix_cl, ↓ixt1, ↓iso_1 q3, ↓iso_1 q4, ↓ne_b, BEq.rfl, ↓iso_2 s2, w11, ↓drop_e, XD, heldB, flatD, List.any_cons, List.any_nil, List.all_cons, List.all_nil, List.filter_cons, List.filter_nil, List.contains_cons, List.contains_nil, Bool.or_false, Bool.or_true, Bool.false_or, Bool.true_or, Bool.and_self, Bool.not_eq_true, BEq.rfl, beq_self_eq_true]
      exact h9
    · have hI := hI rfl
      simp only [S9_260, S9_261, S9_262, S9_263, S9_264, S9_265, S9_266, S9_267, S9_268, S9_269, S9_270, S9_271, S9_272, S9_273, S9_274, S9_275, S9_276, S9_277, S9_278, S9_279, S9, ↓XX, ↓reduceIte, Nat.reduceBEq, decide_true, decide_false, Bool.not_true, Bool.not_false, List.map_cons, List.map_nil, List.length_map, List.length_cons, List.length_nil, Nat.reduceAdd, Int.cast_ofNat_Int, Int.natCast_zero, Int.natCast_one, Bool.false_eq_true, Bool.true_eq_false, decide_eq_true_eq, eq_self, Int.reduceEq, Int.reduceLT, Int.reduceLE, Bool.and_true, Bool.true_and, Bool.and_false, Bool.false_and, Nat.zero_add, ↓ix_cl, ↓ixt1, ↓iso_1 q3, ↓iso_1 q4, ↓ne_b, BEq.rfl, ↓iso_2 s2, ↓iso_2 hI, ↓iso_2 s3, w11, ↓drop_e, XD, heldB, flatD, List.any_cons, List.any_nil, List.all_cons, List.all_nil, List.filter_cons, List.filter_nil, List.contains_cons, List.contains_nil, Bool.or_false, Bool.or_true, Bool.false_or, Bool.true_or, Bool.and_self, Bool.not_eq_true, BEq.rfl, beq_self_eq_true]
      exact h9
  | 2, hik =>
    simp only [S9_260, S9_261, S9_262, S9_263, S9_264, S9_265, S9_266, S9_267, S9_268, S9_269, S9_270, S9_271, S9_272, S9_273, S9_274, S9_275, S9_276, S9_277, S9_278, S9_279, S9, ↓XX, ↓reduceIte, Nat.reduceBEq, decide_true, decide_false, Bool.not_true, Bool.not_false, List.map_cons, List.map_nil, List.length_map, List.length_cons, List.length_nil, Nat.reduceAdd, Int.cast_ofNat_Int, Int.natCast_zero, Int.natCast_one, Bool.false_eq_true, Bool.true_eq_false, decide_eq_true_eq, eq_self, Int.reduceEq, Int.reduceLT, Int.reduceLE, Bool.and_true, Bool.true_and, Bool.and_false, Bool.false_and, Nat.zero_add]
    exact ansv
  | i + 3, hik => omega
end Idl
end Go.Proofs.Ytdibmackcbpniaa


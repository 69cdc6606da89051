/-
  Texts of a proof, part 10: an ideal semantics of the program, its functions in shallow form, contracts of them. No statement of the seat is proved here.
-/
import Derived.Test.YtbkdidonegggdaaNormDeepK9
set_option linter.all false
namespace Go.Proofs.Ytbkdidonegggdaa
namespace Idl
theorem ixg {β : Type} {l : List FV} {i : Nat} {x : FV} (h : l[i]? = some x) (hx : x.cells = [x]) (k : IV → Option β) : ixS 1 (.fv (.sl l)) (iv i) k = k (.fv (.fp [x] 0)) := by
  rw [ix_f h (by rw [hx]; rfl), hx]
section
variable {β : Type} (a b c : FV) (l : List FV) (cs : List FV) (o : Nat) (v : PV) (k : IV → Option β)
theorem ixf0 : ixS 1 (.fv (.sl (.fp cs o :: l))) (iv 0) k = k (.fv (.fp [.fp cs o] 0)) := ixg (i := 0) rfl rfl k
theorem ixe0 : ixS 1 (.fv (.sl (v.enc :: l))) (iv 0) k = k (.fv (.fp [v.enc] 0)) := ixg (i := 0) rfl (penc_cells v) k
theorem ixf1 : ixS 1 (.fv (.sl (a :: .fp cs o :: l))) (iv 1) k = k (.fv (.fp [.fp cs o] 0)) := ixg (i := 1) rfl rfl k
theorem ixe1 : ixS 1 (.fv (.sl (a :: v.enc :: l))) (iv 1) k = k (.fv (.fp [v.enc] 0)) := ixg (i := 1) rfl (penc_cells v) k
theorem ixf2 : ixS 1 (.fv (.sl (a :: b :: .fp cs o :: l))) (iv 2) k = k (.fv (.fp [.fp cs o] 0)) := ixg (i := 2) rfl rfl k
theorem ixe2 : ixS 1 (.fv (.sl (a :: b :: v.enc :: l))) (iv 2) k = k (.fv (.fp [v.enc] 0)) := ixg (i := 2) rfl (penc_cells v) k
theorem ixf3 : ixS 1 (.fv (.sl (a :: b :: c :: .fp cs o :: l))) (iv 3) k = k (.fv (.fp [.fp cs o] 0)) := ixg (i := 3) rfl rfl k
theorem ixe3 : ixS 1 (.fv (.sl (a :: b :: c :: v.enc :: l))) (iv 3) k = k (.fv (.fp [v.enc] 0)) := ixg (i := 3) rfl (penc_cells v) k
end
def XI := And.intro @ixf0 <| And.intro @ixf1 <| And.intro @ixf2 <| And.intro @ixf3 <| And.intro @ixe0 <| And.intro @ixe1 <| And.intro @ixe2 @ixe3
theorem fa_fg {β : Type} (o p : Nat) (cs : List FV) (k : IV → Option β) : faddrS o (.fv (.fp cs p)) k = k (.fv (.fp cs (p + o))) := by rw [x_faddr_f]
theorem lo_hit (s : Nat) (b : Blk) (l : List (Nat × Blk)) : lookupOwn s ((s, b) :: l) = some b := by simp only [lookupOwn, if_true]
theorem op_step {f : Nat} (he : EvOk f) : OpnOk (f + 1) := by
  intro v u i l m m' hev r n hn
  obtain ⟨n, rfl⟩ : ∃ k, n = k + 1 := ⟨n - 1, by omega⟩
  rw [c81]
  cases v with
  | nil => rw [opP] at hev; cases hev
  | mk op nn k t e =>
  obtain ⟨bo, bn, bk⟩ := t
  rw [opP] at hev
  split at hev
  · cases hev
  · rename_i hf
    cases hb : bk[i]? with
    | none => rw [hb] at hev; cases hev
    | some b =>
      rw [hb] at hev
      simp only at hev
      have hw := with_c (n := n) e l (by omega) (by omega)
      have hc := he _ _ _ _ _ hev r n (by omega)
      rw [penc_mk]
      obtain ⟨b1, b2, b3⟩ := b
      have hg := map_get hb
      rw [enc_mk] at hc
      simp only [S81_25, S81_26, S81, ↓XX, ↓reduceIte, Nat.reduceBEq, decide_true, decide_false, Bool.not_true, Bool.not_false, List.map_cons, List.map_nil, List.length_map, List.length_cons, List.length_nil, Nat.reduceAdd, Int.cast_ofNat_Int, Int.natCast_zero, Int.natCast_one, Bool.false_eq_true, Bool.true_eq_false, decide_eq_true_eq, eq_self, Int.reduceEq, Int.reduceLT, Int.reduceLE, Bool.and_true, Bool.true_and, Bool.and_false, Bool.false_and, Nat.zero_add, ↓iso_2 hw, ↓ix_f hg (agg3l _ _ _), ↓agg3, ↓fa_fg, ↓iso_x3 _ _ hc]
      exact ansx_fv _ _ _
theorem within_c {n : Nat} (hn : 0 < n) (op nn : Int) (o0 n0 : Int) (k0 : List PV) (t0 : Tm) (e0 : List PV) (t : Tm) (e : List PV) (want : Int) (hk : o0 = want → ∃ x, k0 = [x]) :
    Ans (SS dt n 87 [.fv (PV.mk op nn [.mk o0 n0 k0 t0 e0] t e).enc, iv want] ⟨[], []⟩) (if o0 = want then k0.headD .nil else .nil).enc := by
  obtain ⟨n, rfl⟩ : ∃ k, n = k + 1 := ⟨n - 1, by omega⟩
  rw [c87]
  obtain ⟨bo, bn, bk⟩ := t
  obtain ⟨co, cn, ck⟩ := t0
  rw [penc_mk, List.map_cons, List.map_nil, penc_mk]
  by_cases h : o0 = want
  · obtain ⟨x, rfl⟩ := hk h
    rw [if_pos h]
    simp only [S87_29, S87_30, S87_31, S87, ↓XX, ↓reduceIte, Nat.reduceBEq, decide_true, decide_false, Bool.not_true, Bool.not_false, List.map_cons, List.map_nil, List.length_map, List.length_cons, List.length_nil, Nat.reduceAdd, Int.cast_ofNat_Int, Int.natCast_zero, Int.natCast_one, Bool.false_eq_true, Bool.true_eq_false, decide_eq_true_eq, eq_self, Int.reduceEq, Int.reduceLT, Int.reduceLE, Bool.and_true, Bool.true_and, Bool.and_false, Bool.false_and, Nat.zero_add, ↓XI, h, List.headD_cons]
    exact ans_fv _ _
  · rw [if_neg h, penc_nil]
    simp only [S87_29, S87_30, S87_31, S87, ↓XX, ↓reduceIte, Nat.reduceBEq, decide_true, decide_false, Bool.not_true, Bool.not_false, List.map_cons, List.map_nil, List.length_map, List.length_cons, List.length_nil, Nat.reduceAdd, Int.cast_ofNat_Int, Int.natCast_zero, Int.natCast_one, Bool.false_eq_true, Bool.true_eq_false, decide_eq_true_eq, eq_self, Int.reduceEq, Int.reduceLT, Int.reduceLE, Bool.and_true, Bool.true_and, Bool.and_false, Bool.false_and, Nat.zero_add, ↓XI, h]
    exact ans_fv _ _
theorem st_step {f : Nat} (hc : CtOk f) (ho : OpnOk f) : StOk (f + 1) := by
  intro v u m m' hr hev r n hn
  obtain ⟨n, rfl⟩ : ∃ k, n = k + 1 := ⟨n - 1, by omega⟩
  cases v with
  | nil => rw [stP] at hev; cases hev
  | mk op nn k t e =>
  obtain ⟨bo, bn, bk⟩ := t
  rw [stP.eq_def] at hev
  simp only at hev
  simp only [PV.op] at hr ⊢
  by_cases h5 : op = 5
  · subst h5
    rw [if_pos rfl] at hev
    rw [show ruleF 5 = 72 from rfl, c72]
    match k, hev with
    | [.mk o0 n0 k0 t0 e0, x], hev =>
      simp only at hev
      obtain ⟨co, cn, ck⟩ := t0
      by_cases h4 : o0 = 4
      · subst h4
        rw [if_pos rfl] at hev
        have hq := ho _ _ _ _ _ _ hev r n (by omega)
        rw [penc_mk] at hq ⊢
        simp only [List.map_cons, List.map_nil, penc_mk] at hq ⊢
        simp only [S72_30, S72_31, S72_32, S72, ↓XX, ↓reduceIte, Nat.reduceBEq, decide_true, decide_false, Bool.not_true, Bool.not_false, List.map_cons, List.map_nil, List.length_map, List.length_cons, List.length_nil, Nat.reduceAdd, Int.cast_ofNat_Int, Int.natCast_zero, Int.natCast_one, Bool.false_eq_true, Bool.true_eq_false, decide_eq_true_eq, eq_self, Int.reduceEq, Int.reduceLT, Int.reduceLE, Bool.and_true, Bool.true_and, Bool.and_false, Bool.false_and, Nat.zero_add, ↓XI, ↓bs_p1, ↓iso_x4 _ _ hq]
        exact ansx_fv _ _ _
      · rw [if_neg h4] at hev
        simp only [Option.some.injEq, Prod.mk.injEq] at hev
        obtain ⟨rfl, rfl⟩ := hev
        rw [penc_mk]
        simp only [List.map_cons, List.map_nil, penc_mk, penc_nil]
        simp only [S72_30, S72_31, S72_32, S72, ↓XX, ↓reduceIte, Nat.reduceBEq, decide_true, decide_false, Bool.not_true, Bool.not_false, List.map_cons, List.map_nil, List.length_map, List.length_cons, List.length_nil, Nat.reduceAdd, Int.cast_ofNat_Int, Int.natCast_zero, Int.natCast_one, Bool.false_eq_true, Bool.true_eq_false, decide_eq_true_eq, eq_self, Int.reduceEq, Int.reduceLT, Int.reduceLE, Bool.and_true, Bool.true_and, Bool.and_false, Bool.false_and, Nat.zero_add, ↓XI, h4]
        exact ansx_fv _ _ _
  · rw [if_neg h5] at hev
    by_cases h8 : op = 8 ∨ op = 9
    · rw [if_pos h8] at hev
      rw [show ruleF op = 73 by rcases h8 with rfl | rfl <;> rfl, c73]
      match k, hev with
      | [.mk o0 n0 k0 t0 e0], hev =>
        simp only at hev
        obtain ⟨co, cn, ck⟩ := t0
        by_cases h7 : o0 = 7
        · subst h7
          rw [if_pos rfl] at hev
          match k0, hev with
          | [w, x, y], hev =>
            simp only [Option.some.injEq, Prod.mk.injEq] at hev
            obtain ⟨rfl, rfl⟩ := hev
            rw [penc_mk]
            simp only [List.map_cons, List.map_nil, penc_mk]
            rcases h8 with rfl | rfl
            · simp only [S73_34, S73_35, S73_36, S73_37, S73, ↓XX, ↓reduceIte, Nat.reduceBEq, decide_true, decide_false, Bool.not_true, Bool.not_false, List.map_cons, List.map_nil, List.length_map, List.length_cons, List.length_nil, Nat.reduceAdd, Int.cast_ofNat_Int, Int.natCast_zero, Int.natCast_one, Bool.false_eq_true, Bool.true_eq_false, decide_eq_true_eq, eq_self, Int.reduceEq, Int.reduceLT, Int.reduceLE, Bool.and_true, Bool.true_and, Bool.and_false, Bool.false_and, Nat.zero_add, ↓XI]
              exact ansx_fv _ _ _
            · simp only [S73_34, S73_35, S73_36, S73_37, S73, ↓XX, ↓reduceIte, Nat.reduceBEq, decide_true, decide_false, Bool.not_true, Bool.not_false, List.map_cons, List.map_nil, List.length_map, List.length_cons, List.length_nil, Nat.reduceAdd, Int.cast_ofNat_Int, Int.natCast_zero, Int.natCast_one, Bool.false_eq_true, Bool.true_eq_false, decide_eq_true_eq, eq_self, Int.reduceEq, Int.reduceLT, Int.reduceLE, Bool.and_true, Bool.true_and, Bool.and_false, Bool.false_and, Nat.zero_add, ↓XI]
              exact ansx_fv _ _ _
        · rw [if_neg h7] at hev
          simp only [Option.some.injEq, Prod.mk.injEq] at hev
          obtain ⟨rfl, rfl⟩ := hev
          rw [penc_mk]
          simp only [List.map_cons, List.map_nil, penc_mk, penc_nil]
          simp only [S73_34, S73_35, S73_36, S73_37, S73, ↓XX, ↓reduceIte, Nat.reduceBEq, decide_true, decide_false, Bool.not_true, Bool.not_false, List.map_cons, List.map_nil, List.length_map, List.length_cons, List.length_nil, Nat.reduceAdd, Int.cast_ofNat_Int, Int.natCast_zero, Int.natCast_one, Bool.false_eq_true, Bool.true_eq_false, decide_eq_true_eq, eq_self, Int.reduceEq, Int.reduceLT, Int.reduceLE, Bool.and_true, Bool.true_and, Bool.and_false, Bool.false_and, Nat.zero_add, ↓XI, h7]
          exact ansx_fv _ _ _
    · rw [if_neg h8] at hev
      by_cases h13 : op = 13
      · subst h13
        rw [if_pos rfl] at hev
        rw [show ruleF 13 = 74 from rfl, c74]
        match k, hev with
        | [p0, z, p2, .mk o3 n3 k3 t3 e3], hev =>
          simp only at hev
          obtain ⟨co, cn, ck⟩ := t3
          by_cases h11 : o3 = 11
          · subst h11
            rw [if_pos rfl] at hev
            simp only [Option.some.injEq, Prod.mk.injEq] at hev
            obtain ⟨rfl, rfl⟩ := hev
            rw [penc_mk]
            simp only [List.map_cons, List.map_nil, penc_mk]
            simp only [S74_74, S74_75, S74_76, S74_77, S74_78, S74_79, S74_80, S74_81, S74_82, S74_83, S74, ↓XX, ↓reduceIte, Nat.reduceBEq, decide_true, decide_false, Bool.not_true, Bool.not_false, List.map_cons, List.map_nil, List.length_map, List.length_cons, List.length_nil, Nat.reduceAdd, Int.cast_ofNat_Int, Int.natCast_zero, Int.natCast_one, Bool.false_eq_true, Bool.true_eq_false, decide_eq_true_eq, eq_self, Int.reduceEq, Int.reduceLT, Int.reduceLE, Bool.and_true, Bool.true_and, Bool.and_false, Bool.false_and, Nat.zero_add, ↓XI]
            exact ansx_fv _ _ _
          · rw [if_neg h11] at hev
            by_cases h12 : o3 = 12
            · subst h12
              rw [if_pos rfl] at hev
              match k3, hev with
              | [x], hev =>
                simp only at hev
                cases hcc : ctP f (.mk 13 nn [.nil, z, .nil, x] (.mk bo bn bk) e) m with
                | none => rw [hcc] at hev; cases hev
                | some q =>
                  obtain ⟨h, m1⟩ := q
                  rw [hcc] at hev
                  have hq1 := hc _ _ _ _ hcc r n (by omega)
                  have hq2 := ho _ _ _ _ _ _ hev r n (by omega)
                  rw [penc_mk] at hq1 hq2 ⊢
                  simp only [List.map_cons, List.map_nil, penc_mk, penc_nil] at hq1 hq2 ⊢
                  simp only [S74_74, S74_75, S74_76, S74_77, S74_78, S74_79, S74_80, S74_81, S74_82, S74_83, S74, ↓XX, ↓reduceIte, Nat.reduceBEq, decide_true, decide_false, Bool.not_true, Bool.not_false, List.map_cons, List.map_nil, List.length_map, List.length_cons, List.length_nil, Nat.reduceAdd, Int.cast_ofNat_Int, Int.natCast_zero, Int.natCast_one, Bool.false_eq_true, Bool.true_eq_false, decide_eq_true_eq, eq_self, Int.reduceEq, Int.reduceLT, Int.reduceLE, Bool.and_true, Bool.true_and, Bool.and_false, Bool.false_and, Nat.zero_add, ↓XI, ↓bs_p4, ↓aof_e]
                  rw [iso_x2p hq1 (s0 := 77600771) (lo_hit ..) rfl (by simp)]
                  simp only [↓XX, ↓reduceIte, Nat.reduceBEq, decide_true, decide_false, Bool.not_true, Bool.not_false, List.map_cons, List.map_nil, List.length_map, List.length_cons, List.length_nil, Nat.reduceAdd, Int.cast_ofNat_Int, Int.natCast_zero, Int.natCast_one, Bool.false_eq_true, Bool.true_eq_false, decide_eq_true_eq, eq_self, Int.reduceEq, Int.reduceLT, Int.reduceLE, Bool.and_true, Bool.true_and, Bool.and_false, Bool.false_and, Nat.zero_add, ↓bs_p2, ↓iso_x4 _ _ hq2]
                  exact ansx_fv _ _ _
            · rw [if_neg h12] at hev
              simp only [Option.some.injEq, Prod.mk.injEq] at hev
              obtain ⟨rfl, rfl⟩ := hev
              rw [penc_mk]
              simp only [List.map_cons, List.map_nil, penc_mk, penc_nil]
              simp only [S74_74, S74_75, S74_76, S74_77, S74_78, S74_79, S74_80, S74_81, S74_82, S74_83, S74, ↓XX, ↓reduceIte, Nat.reduceBEq, decide_true, decide_false, Bool.not_true, Bool.not_false, List.map_cons, List.map_nil, List.length_map, List.length_cons, List.length_nil, Nat.reduceAdd, Int.cast_ofNat_Int, Int.natCast_zero, Int.natCast_one, Bool.false_eq_true, Bool.true_eq_false, decide_eq_true_eq, eq_self, Int.reduceEq, Int.reduceLT, Int.reduceLE, Bool.and_true, Bool.true_and, Bool.and_false, Bool.false_and, Nat.zero_add, ↓XI, h11, h12]
              exact ansx_fv _ _ _
      · rw [if_neg h13] at hev
        match k, hev with
        | [.mk o0 n0 k0 t0 e0], hev =>
          simp only at hev
          have h30 : op = 30 ∨ op = 19 := by
            simp only [isRule, Bool.or_eq_true, beq_iff_eq] at hr
            omega
          have hu : ((o0 = (if op = 30 then 19 else 30) → ∃ x, k0 = [x]) ∧ (if o0 = (if op = 30 then 19 else 30) then k0.headD .nil else .nil) = u ∧ m = m') := by
            by_cases ho0 : o0 = (if op = 30 then 19 else 30)
            · rw [if_pos ho0] at hev
              match k0, hev with
              | [x], hev =>
                simp only [Option.some.injEq, Prod.mk.injEq] at hev
                obtain ⟨rfl, rfl⟩ := hev
                exact ⟨fun _ => ⟨_, rfl⟩, by rw [if_pos ho0]; rfl, rfl⟩
            · rw [if_neg ho0] at hev
              simp only [Option.some.injEq, Prod.mk.injEq] at hev
              obtain ⟨rfl, rfl⟩ := hev
              exact ⟨fun h => absurd h ho0, by rw [if_neg ho0], rfl⟩
          obtain ⟨hu1, rfl, rfl⟩ := hu
          rcases h30 with rfl | rfl
          · rw [show ruleF 30 = 75 from rfl, c75]
            rw [show (if (30 : Int) = 30 then (19 : Int) else 30) = 19 from rfl] at hu1 ⊢
            have hw := within_c (n := n) (by omega) 30 nn o0 n0 k0 t0 e0 (.mk bo bn bk) e 19 hu1
            simp only [S75, ↓XX, ↓reduceIte, Nat.reduceBEq, decide_true, decide_false, Bool.not_true, Bool.not_false, List.map_cons, List.map_nil, List.length_map, List.length_cons, List.length_nil, Nat.reduceAdd, Int.cast_ofNat_Int, Int.natCast_zero, Int.natCast_one, Bool.false_eq_true, Bool.true_eq_false, decide_eq_true_eq, eq_self, Int.reduceEq, Int.reduceLT, Int.reduceLE, Bool.and_true, Bool.true_and, Bool.and_false, Bool.false_and, Nat.zero_add, ↓iso_2 hw]
            exact ansx_fv _ _ _
          · rw [show ruleF 19 = 76 from rfl, c76]
            rw [show (if (19 : Int) = 30 then (19 : Int) else 30) = 30 from rfl] at hu1 ⊢
            have hw := within_c (n := n) (by omega) 19 nn o0 n0 k0 t0 e0 (.mk bo bn bk) e 30 hu1
            simp only [S76, ↓XX, ↓reduceIte, Nat.reduceBEq, decide_true, decide_false, Bool.not_true, Bool.not_false, List.map_cons, List.map_nil, List.length_map, List.length_cons, List.length_nil, Nat.reduceAdd, Int.cast_ofNat_Int, Int.natCast_zero, Int.natCast_one, Bool.false_eq_true, Bool.true_eq_false, decide_eq_true_eq, eq_self, Int.reduceEq, Int.reduceLT, Int.reduceLE, Bool.and_true, Bool.true_and, Bool.and_false, Bool.false_and, Nat.zero_add, ↓iso_2 hw]
            exact ansx_fv _ _ _
end Idl
end Go.Proofs.Ytbkdidonegggdaa
namespace Go.Proofs.Ytbkdidonegggdaa
namespace Idl
theorem keep0 {g : FuncId} (h : EE.pol.inl g = false) (h1 : EE.pol.keep g = []) (h2 : EE.pol.split g = false) (h3 : EE.pol.raw g = false) (ih : Handler) (xs : List IV) (h0 : Hp) (k : IV → Hp → List Ref → List Ref → Option (IV × Hp)) :
    dynS EE ih (.fv (.func (.func g) [] [])) xs h0 k = isoS [] false false ih g xs h0 k := by
  unfold dynS
  simp only [callee, h, cond_false, sp_e, h1, h2, h3, List.map_nil, List.nil_append, List.append_nil]
theorem kp_bind (ih : Handler) (xs : List IV) (h0 : Hp) (k : IV → Hp → List Ref → List Ref → Option (IV × Hp)) : dynS EE ih (.fv (.func (.func 88) [] [])) xs h0 k = isoS [] false false ih 88 xs h0 k :=
  keep0 (by kernel_rfl) (by kernel_rfl) (by kernel_rfl) (by kernel_rfl) ..
theorem opbind_ok {n : Nat} (hn : 0 < n) (op : Int) (i : Nat) : Ans (SS dt n 88 [iv op, iv i] ⟨[], []⟩) (.int .i64 (bindN op i)) := by
  obtain ⟨n, rfl⟩ : ∃ k, n = k + 1 := ⟨n - 1, by omega⟩
  rw [c88]
  unfold bindN
  by_cases h : op = 3 ∨ op = 4 ∨ op = 6 ∨ op = 20 ∨ op = 28 ∨ op = 29
  · rw [if_pos h]
    by_cases hi : i = 1
    · subst hi
      rcases h with rfl | rfl | rfl | rfl | rfl | rfl <;> (simp only [S88_18, S88_19, S88_20, S88_21, S88_22, S88, ↓XX, ↓reduceIte, Nat.reduceBEq, decide_true, decide_false, Bool.not_true, Bool.not_false, List.map_cons, List.map_nil, List.length_map, List.length_cons, List.length_nil, Nat.reduceAdd, Int.cast_ofNat_Int, Int.natCast_zero, Int.natCast_one, Bool.false_eq_true, Bool.true_eq_false, decide_eq_true_eq, eq_self, Int.reduceEq, Int.reduceLT, Int.reduceLE, Bool.and_true, Bool.true_and, Bool.and_false, Bool.false_and, Nat.zero_add]; exact ans_fv _ _)
    · have hi' : ¬ (i : Int) = 1 := by omega
      rcases h with rfl | rfl | rfl | rfl | rfl | rfl <;> (simp only [S88_18, S88_19, S88_20, S88_21, S88_22, S88, ↓XX, ↓reduceIte, Nat.reduceBEq, decide_true, decide_false, Bool.not_true, Bool.not_false, List.map_cons, List.map_nil, List.length_map, List.length_cons, List.length_nil, Nat.reduceAdd, Int.cast_ofNat_Int, Int.natCast_zero, Int.natCast_one, Bool.false_eq_true, Bool.true_eq_false, decide_eq_true_eq, eq_self, Int.reduceEq, Int.reduceLT, Int.reduceLE, Bool.and_true, Bool.true_and, Bool.and_false, Bool.false_and, Nat.zero_add, hi', hi]; exact ans_fv _ _)
  · rw [if_neg h]
    have h3 : ¬ op = 3 := fun e => h (by simp [e])
    have h4 : ¬ op = 4 := fun e => h (by simp [e])
    have h6 : ¬ op = 6 := fun e => h (by simp [e])
    have h20 : ¬ op = 20 := fun e => h (by simp [e])
    have h28 : ¬ op = 28 := fun e => h (by simp [e])
    have h29 : ¬ op = 29 := fun e => h (by simp [e])
    by_cases h13 : op = 13
    · subst h13
      by_cases h0 : i = 0
      · subst h0; simp only [S88_18, S88_19, S88_20, S88_21, S88_22, S88, ↓XX, ↓reduceIte, Nat.reduceBEq, decide_true, decide_false, Bool.not_true, Bool.not_false, List.map_cons, List.map_nil, List.length_map, List.length_cons, List.length_nil, Nat.reduceAdd, Int.cast_ofNat_Int, Int.natCast_zero, Int.natCast_one, Bool.false_eq_true, Bool.true_eq_false, decide_eq_true_eq, eq_self, Int.reduceEq, Int.reduceLT, Int.reduceLE, Bool.and_true, Bool.true_and, Bool.and_false, Bool.false_and, Nat.zero_add]; exact ans_fv _ _
      · have h0' : ¬ (i : Int) = 0 := by omega
        by_cases h2 : i = 2
        · subst h2; simp only [S88_18, S88_19, S88_20, S88_21, S88_22, S88, ↓XX, ↓reduceIte, Nat.reduceBEq, decide_true, decide_false, Bool.not_true, Bool.not_false, List.map_cons, List.map_nil, List.length_map, List.length_cons, List.length_nil, Nat.reduceAdd, Int.cast_ofNat_Int, Int.natCast_zero, Int.natCast_one, Bool.false_eq_true, Bool.true_eq_false, decide_eq_true_eq, eq_self, Int.reduceEq, Int.reduceLT, Int.reduceLE, Bool.and_true, Bool.true_and, Bool.and_false, Bool.false_and, Nat.zero_add]; exact ans_fv _ _
        · have h2' : ¬ (i : Int) = 2 := by omega
          simp only [S88_18, S88_19, S88_20, S88_21, S88_22, S88, ↓XX, ↓reduceIte, Nat.reduceBEq, decide_true, decide_false, Bool.not_true, Bool.not_false, List.map_cons, List.map_nil, List.length_map, List.length_cons, List.length_nil, Nat.reduceAdd, Int.cast_ofNat_Int, Int.natCast_zero, Int.natCast_one, Bool.false_eq_true, Bool.true_eq_false, decide_eq_true_eq, eq_self, Int.reduceEq, Int.reduceLT, Int.reduceLE, Bool.and_true, Bool.true_and, Bool.and_false, Bool.false_and, Nat.zero_add, h0, h0', h2, h2']; exact ans_fv _ _
    · simp only [S88_18, S88_19, S88_20, S88_21, S88_22, S88, ↓XX, ↓reduceIte, Nat.reduceBEq, decide_true, decide_false, Bool.not_true, Bool.not_false, List.map_cons, List.map_nil, List.length_map, List.length_cons, List.length_nil, Nat.reduceAdd, Int.cast_ofNat_Int, Int.natCast_zero, Int.natCast_one, Bool.false_eq_true, Bool.true_eq_false, decide_eq_true_eq, eq_self, Int.reduceEq, Int.reduceLT, Int.reduceLE, Bool.and_true, Bool.true_and, Bool.and_false, Bool.false_and, Nat.zero_add, h3, h4, h6, h20, h28, h29, h13]; exact ans_fv _ _
theorem pbind_ok {n : Nat} (hn : 1 < n) (op : Int) (i : Nat) : Ans (SS dt n 79 [iv op, iv i] ⟨[], []⟩) (.int .i64 (bindN op i)) := by
  obtain ⟨n, rfl⟩ : ∃ k, n = k + 1 := ⟨n - 1, by omega⟩
  rw [c79]
  have h := opbind_ok (n := n) (by omega) op i
  simp only [S79, ↓XX, ↓reduceIte, Nat.reduceBEq, decide_true, decide_false, Bool.not_true, Bool.not_false, List.map_cons, List.map_nil, List.length_map, List.length_cons, List.length_nil, Nat.reduceAdd, Int.cast_ofNat_Int, Int.natCast_zero, Int.natCast_one, Bool.false_eq_true, Bool.true_eq_false, decide_eq_true_eq, eq_self, Int.reduceEq, Int.reduceLT, Int.reduceLE, Bool.and_true, Bool.true_and, Bool.and_false, Bool.false_and, Nat.zero_add, ↓kp_bind, ↓iso_2 h]
  exact ans_fv _ _
/-! Slices of one's own. -/
theorem off_at {β : Type} : ∀ (l : List IV) (i : Nat) (x : IV) (k : List IV → Option β), i < l.length → offK l i x k = k (l.set i x)
  | [], i, x, k, h => absurd h (by simp)
  | y :: l, 0, x, k, _ => rfl
  | y :: l, i + 1, x, k, h => by
    show offK l i x (fun t => k (y :: t)) = _
    rw [off_at l i x _ (by simpa using h)]
    rfl
def nils (n : Nat) : List PV := List.replicate n .nil
theorem rep_nil (n : Nat) : rep n [IV.fv .nilp] = ((nils n).map PV.enc).map IV.fv := by
  induction n with
  | zero => rfl
  | succ n ih => rw [rep, ih]; rfl
theorem mk_p {n : Nat} (hn : n ≤ 1000) (s : Nat) (own : List (Nat × Blk)) (ext : List Blk) (k : IV → Hp → List Ref → List Ref → Option (IV × Hp)) :
    genS (pcMakeSlice EE s 104 (iv n) (iv n)) s ⟨own, ext⟩ k = freshK own s (putOwnK own s (.row (((nils n).map PV.enc).map IV.fv) false) fun own => k (.slc (.own s) 1 n) ⟨own, ext⟩ [] [.own s]) := by
  have : pcMakeSlice EE s 104 (iv n) (iv n) = .ret { eff := { val := .slc (.own s) 1 n }, new := some (.row (((nils n).map PV.enc).map IV.fv) false) } := by
    simp only [pcMakeSlice, tPs, tPp, iv_e]
    rw [if_pos ⟨by omega, by omega, by omega, by decide, by decide⟩, Int.toNat_natCast, rep_nil]
  rw [this]
  unfold genS
  simp only [Rd.runLog, newK, fBk_eq, fV_eq]
  rfl
theorem on_enc (v : PV) : IV.one (.fv v.enc) = true := by
  cases v with
  | nil => rfl
  | mk op n k t e => obtain ⟨bo, bn, bk⟩ := t; rw [penc_mk]; rfl
theorem ix_sl {β : Type} {n i : Nat} (h : i < n) (r : Ref) (k : IV → Option β) : ixS 1 (.slc r 1 n) (iv i) k = k (.ptr r i) := by
  have e1 : Nat.ble (Nat.succ i) n = true := by rw [ble_dec]; exact decide_eq_true h
  show (asIx (iv i) fun n' => cond (and (Nat.ble (Nat.succ n') n) (Nat.beq 1 1)) (fNat (n' * 1) fun o => k (.ptr r o)) none) = _
  show (cond (and (Nat.ble (Nat.succ i) n) (Nat.beq 1 1)) (fNat (i * 1) fun o => k (.ptr r o)) none) = _
  rw [e1]
  simp only [fNat_eq, Nat.mul_one]
  rfl
theorem flat_fv (l : List FV) : (l.map IV.fv).all flatV = true := by induction l with
  | nil => rfl
  | cons a l ih => rw [List.map_cons, List.all_cons, ih]; rfl
theorem names_fv (s : Nat) (l : List FV) : (l.map IV.fv).any (namesV s) = false := by induction l with
  | nil => rfl
  | cons a l ih => rw [List.map_cons, List.any_cons, ih]; rfl
theorem off_p {done : List PV} {r : Nat} {β : Type} (v : PV) (k : List IV → Option β) : offK (((done ++ nils (r + 1)).map PV.enc).map IV.fv) done.length (.fv v.enc) k = k ((((done ++ [v]) ++ nils r).map PV.enc).map IV.fv) := by
  rw [off_at _ _ _ _ (by simp [nils])]
  congr 1
  simp only [nils, List.replicate_succ, List.map_append, List.map_cons, List.append_assoc, List.cons_append, List.nil_append, List.map_nil]
  rw [List.set_append_right _ _ (by simp)]
  simp
noncomputable abbrev Hev (op m : Int) (ks : List Tm) (env kk : List PV) (ro : Bool) (s w r e : Int) : Hp :=
  ⟨[(54525952, .row [iv op, iv m, .fv (.sl (ks.map Tm.enc))] false), (54530055, .row ((kk.map PV.enc).map .fv) ro), (54530059, .row [iv op, iv m, .slc (.own 54530055) 1 ks.length, iv op, iv m, .fv (.sl (ks.map Tm.enc)), .fv (PV.encEnv env)] ro)], MX s w r e⟩
theorem drop_mx {base rm : List Nat} {vals : List IV} {own : List (Nat × Blk)} {s w r e : Int} (hb : rm.any base.contains = false) (hf : flatD rm vals own [] = true) (k : Hp → Option (IV × Hp)) :
    dropS base rm vals ⟨own, MX s w r e⟩ k = k ⟨stays rm vals own [], MX s w r e⟩ := drop_x (fun j => mx_free s w r e j) hb hf k
theorem ev_ans {op m : Int} {ks : List Tm} {env kk : List PV} {s w r e : Int} (hl : kk.length = ks.length) (h3 : ks.length ≤ 300) : AnsX (some (.ptr (.own 54530059) 0, Hev op m ks env kk false s w r e)) (PV.mk op m kk (.mk op m ks) env).enc (MX s w r e) := by
  rw [penc_mk]
  have hl' : ks.length = (kk.map PV.enc).length := by simp [hl]
  have := fun (e0 : Option (IV × Hp)) (K : FV → List (Ref × Blk) → List Ref → Option (IV × Hp)) => fz_v (s := 54530059) (s2 := 54530055) (own := (Hev op m ks env kk false s w r e).own) (ext := MX s w r e) (es := kk.map PV.enc) (ro := false) (ro2 := false) (a := .int .i64 op) (b := .int .i64 m) (c := .int .i64 op) (d := .int .i64 m) (t := .sl (ks.map Tm.enc)) (x := PV.encEnv env)
    (by rw [← hl']; rfl) (by rfl) (by simp [hl]; omega) (by simp only [List.mem_map]; rintro x ⟨v, _, rfl⟩; exact penc_agg v) [] e0 K
  exact ⟨_, _, rfl, _, _, this⟩
theorem kdP_len {ev : Tm → M3 → Option (PV × M3)} {op : Int} : ∀ {i : Nat} {l : List Tm} {m : M3} {vs : List PV} {m' : M3}, kdP ev op i l m = some (vs, m') → vs.length = l.length
  | _, [], m, vs, m', h => by simp only [kdP, Option.some.injEq, Prod.mk.injEq] at h; rw [← h.1]; rfl
  | i, t :: l, m, vs, m', h => by
    rw [kdP] at h
    split at h
    · cases hk : kdP ev op (i + 1) l m with
      | none => rw [hk] at h; cases h
      | some q =>
        rw [hk] at h
        simp only [Option.map_some, Option.some.injEq, Prod.mk.injEq] at h
        rw [← h.1, List.length_cons, List.length_cons, kdP_len (vs := q.1) (m' := q.2) hk]
    · split at h
      · cases h
      · rename_i v m2 _
        cases hk : kdP ev op (i + 1) l m2 with
        | none => rw [hk] at h; cases h
        | some q =>
          rw [hk] at h
          simp only [Option.map_some, Option.some.injEq, Prod.mk.injEq] at h
          rw [← h.1, List.length_cons, List.length_cons, kdP_len (vs := q.1) (m' := q.2) hk]
set_option maxRecDepth 20000 in
set_option maxHeartbeats 1000000 in
theorem ev_step {f : Nat} (he : EvOk f) (hc : CtOk f) : EvOk (f + 1) := by
  intro env t m0 m' v hev r n hn
  obtain ⟨n, rfl⟩ : ∃ k, n = k + 1 := ⟨n - 1, by omega⟩
  rw [c52]
  obtain ⟨op, m, ks⟩ := t
  rw [enc_mk]
  rw [evP] at hev
  cases ht : tickP m0 with
  | none => rw [ht] at hev; cases hev
  | some m1 =>
  rw [ht] at hev
  simp only at hev
  have hc1 := tick_ok ht r (n := n) (by omega)
  by_cases h1 : op = 1
  · rw [if_pos h1] at hev
    split at hev
    · rename_i hv
      simp only [Option.some.injEq, Prod.mk.injEq] at hev
      obtain ⟨rfl, rfl⟩ := hev
      have hvar := variable_c (n := n) env m hv.1 hv.2.1 (by omega)
      simp only [S52_117, S52_118, S52_119, S52_120, S52_121, S52_122, S52_123, S52_124, S52_125, S52_126, S52_127, S52_128, S52_129, S52_130, S52_131, S52, ↓XX, ↓reduceIte, Nat.reduceBEq, decide_true, decide_false, Bool.not_true, Bool.not_false, List.map_cons, List.map_nil, List.length_map, List.length_cons, List.length_nil, Nat.reduceAdd, Int.cast_ofNat_Int, Int.natCast_zero, Int.natCast_one, Bool.false_eq_true, Bool.true_eq_false, decide_eq_true_eq, eq_self, Int.reduceEq, Int.reduceLT, Int.reduceLE, Bool.and_true, Bool.true_and, Bool.and_false, Bool.false_and, Nat.zero_add, ↓iso_x1 _ _ hc1, h1, ↓iso_2 hvar]
      exact ansx_fv _ _ _
    · cases hev
  · rw [if_neg h1] at hev
    split at hev
    · cases hev
    rename_i hb
    have hk3 : ks.length ≤ 300 := by omega
    by_cases h2 : m1.e ≠ 0
    · rw [if_pos h2] at hev
      simp only [Option.some.injEq, Prod.mk.injEq] at hev
      obtain ⟨rfl, rfl⟩ := hev
      simp only [S52_117, S52_118, S52_119, S52_120, S52_121, S52_122, S52_123, S52_124, S52_126, S52_127, S52_128, S52_129, S52_130, S52_131, S52, ↓XX, ↓reduceIte, Nat.reduceBEq, decide_true, decide_false, Bool.not_true, Bool.not_false, List.map_cons, List.map_nil, List.length_map, List.length_cons, List.length_nil, Nat.reduceAdd, Int.cast_ofNat_Int, Int.natCast_zero, Int.natCast_one, Bool.false_eq_true, Bool.true_eq_false, decide_eq_true_eq, eq_self, Int.reduceEq, Int.reduceLT, Int.reduceLE, Bool.and_true, Bool.true_and, Bool.and_false, Bool.false_and, Nat.zero_add, ↓iso_x1 _ _ hc1, h1, h2, ↓mk_p (show ks.length ≤ 1000 by omega), ↓fil_e]
      exact ev_ans (kk := nils ks.length) (by simp [nils]) hk3
    · rw [if_neg h2] at hev
      have h2 : m1.e = 0 := by simpa using h2
      · 
        cases hkk : kdP (fun t m => evP f env t m) op 0 ks m1 with
        | none => rw [hkk] at hev; cases hev
        | some q =>
        obtain ⟨vs, m2⟩ := q
        rw [hkk] at hev
        simp only at hev
        simp only [h2] at hc1
        simp only [S52_117, S52_118, S52_119, S52_120, S52_121, S52_122, S52_123, S52_124, S52_126, S52_127, S52_128, S52_129, S52_130, S52_131, S52, ↓XX, ↓reduceIte, Nat.reduceBEq, decide_true, decide_false, Bool.not_true, Bool.not_false, List.map_cons, List.map_nil, List.length_map, List.length_cons, List.length_nil, Nat.reduceAdd, Int.cast_ofNat_Int, Int.natCast_zero, Int.natCast_one, Bool.false_eq_true, Bool.true_eq_false, decide_eq_true_eq, eq_self, Int.reduceEq, Int.reduceLT, Int.reduceLE, Bool.and_true, Bool.true_and, Bool.and_false, Bool.false_and, Nat.zero_add, ↓iso_x1 _ _ hc1, h1, h2, ↓mk_p (show ks.length ≤ 1000 by omega), ↓fil_e, ↓drop_mx, ↓drop_e, XD, heldB, flatD, List.any_cons, List.any_nil, List.all_cons, List.all_nil, List.filter_cons, List.filter_nil, List.contains_cons, List.contains_nil, Bool.or_false, Bool.or_true, Bool.false_or, Bool.true_or, Bool.and_self, Bool.not_eq_true, BEq.rfl, beq_self_eq_true, flat_fv, names_fv]
        have hlen := kdP_len hkk
        refine loop_run (Q := fun r => AnsX r _ _) (fun k V H => ∃ (pre rest : List Tm) (done : List PV) (m3 : M3) (us : List PV), ks = pre ++ rest ∧ rest.length = k ∧ done.length = pre.length ∧
            V = [.ptr (.ext 0) 0, .fv (PV.encEnv env), .ptr (.own 54525952) 0, .ptr (.own 54530059) 0, .fv (.sl (ks.map Tm.enc)), iv ks.length, iv pre.length] ∧
            H = Hev op m ks env (done ++ nils rest.length) false m3.s m3.w r m3.e ∧
            kdP (fun t m => evP f env t m) op pre.length rest m3 = some (us, m2) ∧ done ++ us = vs)
          ?_ n ks.length _ _ (by omega) ⟨[], ks, [], m1, vs, rfl, rfl, rfl, rfl, by rw [h2]; rfl, hkk, rfl⟩
        rintro k V H rec ⟨pre, rest, done, m3, us, hk, hl, hdl, rfl, rfl, hkids, hvs⟩ hrec
        have hkl : ks.length = pre.length + rest.length := by rw [hk]; simp
        cases rest with
        | nil =>
          simp only [kdP, Option.some.injEq, Prod.mk.injEq] at hkids
          obtain ⟨rfl, rfl⟩ := hkids
          rw [List.append_nil] at hvs
          subst hvs
          have hno : ¬ ((pre.length : Int) < ks.length) := by rw [hkl]; simp
          have hz : done ++ nils ([] : List Tm).length = done := by simp [nils]
          rw [hz]
          by_cases h4 : m3.e ≠ 0
          · rw [if_pos h4] at hev
            simp only [Option.some.injEq, Prod.mk.injEq] at hev
            obtain ⟨rfl, rfl⟩ := hev
            simp only [S52_117, S52_118, S52_119, S52_120, S52_121, S52_122, S52_123, S52_124, S52_125, S52_126, S52_127, S52_128, S52_129, S52_130, S52_131, S52, ↓XX, ↓reduceIte, Nat.reduceBEq, decide_true, decide_false, Bool.not_true, Bool.not_false, List.map_cons, List.map_nil, List.length_map, List.length_cons, List.length_nil, Nat.reduceAdd, Int.cast_ofNat_Int, Int.natCast_zero, Int.natCast_one, Bool.false_eq_true, Bool.true_eq_false, decide_eq_true_eq, eq_self, Int.reduceEq, Int.reduceLT, Int.reduceLE, Bool.and_true, Bool.true_and, Bool.and_false, Bool.false_and, Nat.zero_add, hno, h4]
            exact ev_ans hlen hk3
          · rw [if_neg h4] at hev
            have h4 : m3.e = 0 := by simpa using h4
            have hcc := hc _ _ _ _ hev r n (by omega)
            rw [penc_mk] at hcc
            simp only [h4] at hcc
            have hlm : (done.map PV.enc).length = ks.length := by simp [hlen]
            simp only [S52_117, S52_118, S52_119, S52_120, S52_121, S52_122, S52_123, S52_124, S52_125, S52_126, S52_127, S52_128, S52_129, S52_130, S52_131, S52, ↓XX, ↓reduceIte, Nat.reduceBEq, decide_true, decide_false, Bool.not_true, Bool.not_false, List.map_cons, List.map_nil, List.length_map, List.length_cons, List.length_nil, Nat.reduceAdd, Int.cast_ofNat_Int, Int.natCast_zero, Int.natCast_one, Bool.false_eq_true, Bool.true_eq_false, decide_eq_true_eq, eq_self, Int.reduceEq, Int.reduceLT, Int.reduceLE, Bool.and_true, Bool.true_and, Bool.and_false, Bool.false_and, Nat.zero_add, hno, h4]
            rw [iso_x2v hcc (s0 := 54530059) (s2 := 54530055) (own' := (Hev op m ks env done true m3.s m3.w r 0).own) (by rfl) (by rfl) hlm (by decide) (by omega) (by simp only [List.mem_map]; rintro x ⟨v, _, rfl⟩; exact penc_agg v) (by rfl)]
            exact ansx_fv _ _ _
        | cons x rest =>
          have hi : (pre.length : Int) < ks.length := by rw [hkl]; simp; omega
          have hg := at_pre hk
          have hb := pbind_ok (n := n) (by omega) op pre.length
          have hwi : w64 ((pre.length : Int) + 1) = ((pre ++ [x]).length : Int) := (w64_id (by omega) (by omega)).trans (by simp)
          simp only [kdP] at hkids
          simp only [List.length_cons] at hl
          by_cases hbn : 0 < bindN op pre.length
          · rw [if_pos hbn] at hkids
            have hbn' : ¬ ((bindN op pre.length : Nat) : Int) = 0 := by omega
            obtain ⟨o, p, l⟩ := x
            simp only [S52_117, S52_118, S52_119, S52_120, S52_121, S52_122, S52_123, S52_124, S52_125, S52_126, S52_127, S52_128, S52_129, S52_130, S52_131, S52, ↓XX, ↓reduceIte, Nat.reduceBEq, decide_true, decide_false, Bool.not_true, Bool.not_false, List.map_cons, List.map_nil, List.length_map, List.length_cons, List.length_nil, Nat.reduceAdd, Int.cast_ofNat_Int, Int.natCast_zero, Int.natCast_one, Bool.false_eq_true, Bool.true_eq_false, decide_eq_true_eq, eq_self, Int.reduceEq, Int.reduceLT, Int.reduceLE, Bool.and_true, Bool.true_and, Bool.and_false, Bool.false_and, Nat.zero_add, hi, ↓ix_f (map_get hg) (agg3l _ _ _), ↓agg3, ↓iso_2 hb, hbn', hwi, ↓drop_mx, ↓drop_e, XD, heldB, flatD, List.any_cons, List.any_nil, List.all_cons, List.all_nil, List.filter_cons, List.filter_nil, List.contains_cons, List.contains_nil, Bool.or_false, Bool.or_true, Bool.false_or, Bool.true_or, Bool.and_self, Bool.not_eq_true, BEq.rfl, beq_self_eq_true, flat_fv, names_fv]
            cases hkk2 : kdP (fun t m => evP f env t m) op (pre.length + 1) rest m3 with
            | none => rw [hkk2] at hkids; cases hkids
            | some q =>
            obtain ⟨us', m4⟩ := q
            rw [hkk2] at hkids
            simp only [Option.map_some, Option.some.injEq, Prod.mk.injEq] at hkids
            obtain ⟨rfl, rfl⟩ := hkids
            refine hrec rest.length _ _ (by omega) ⟨pre ++ [.mk o p l], rest, done ++ [.nil], m3, us', by rw [hk]; simp, rfl, by simp [hdl], rfl, ?_, by simpa using hkk2, by rw [← hvs]; simp⟩
            rw [show done ++ [.nil] ++ nils rest.length = done ++ nils (rest.length + 1) by simp [nils, List.replicate_succ]]
          · rw [if_neg hbn] at hkids
            have hbn' : ((bindN op pre.length : Nat) : Int) = 0 := by omega
            cases hev2 : evP f env x m3 with
            | none => rw [hev2] at hkids; cases hkids
            | some q =>
            obtain ⟨y, m4⟩ := q
            rw [hev2] at hkids
            simp only at hkids
            cases hkk2 : kdP (fun t m => evP f env t m) op (pre.length + 1) rest m4 with
            | none => rw [hkk2] at hkids; cases hkids
            | some q =>
            obtain ⟨us', m5⟩ := q
            rw [hkk2] at hkids
            simp only [Option.map_some, Option.some.injEq, Prod.mk.injEq] at hkids
            obtain ⟨rfl, rfl⟩ := hkids
            have hce := he _ _ _ _ _ hev2 r n (by omega)
            obtain ⟨o, p, l⟩ := x
            rw [enc_mk] at hce
            have hin : pre.length < ks.length := by omega
            have hoff := fun {β : Type} => off_p (done := done) (r := rest.length) (β := β)
            rw [hdl] at hoff
            simp only [S52_117, S52_118, S52_119, S52_120, S52_121, S52_122, S52_123, S52_124, S52_125, S52_126, S52_127, S52_128, S52_129, S52_130, S52_131, S52, ↓XX, ↓reduceIte, Nat.reduceBEq, decide_true, decide_false, Bool.not_true, Bool.not_false, List.map_cons, List.map_nil, List.length_map, List.length_cons, List.length_nil, Nat.reduceAdd, Int.cast_ofNat_Int, Int.natCast_zero, Int.natCast_one, Bool.false_eq_true, Bool.true_eq_false, decide_eq_true_eq, eq_self, Int.reduceEq, Int.reduceLT, Int.reduceLE, Bool.and_true, Bool.true_and, Bool.and_false, Bool.false_and, Nat.zero_add, hi, ↓ix_f (map_get hg) (agg3l _ _ _), ↓agg3, ↓iso_2 hb, hbn', hwi, ↓iso_x3 _ _ hce, ↓ix_sl hin, ↓on_enc, ↓hoff, ↓drop_mx, ↓drop_e, XD, heldB, flatD, List.any_cons, List.any_nil, List.all_cons, List.all_nil, List.filter_cons, List.filter_nil, List.contains_cons, List.contains_nil, Bool.or_false, Bool.or_true, Bool.false_or, Bool.true_or, Bool.and_self, Bool.not_eq_true, BEq.rfl, beq_self_eq_true, flat_fv, names_fv]
            exact hrec rest.length _ _ (by omega) ⟨pre ++ [.mk o p l], rest, done ++ [y], m4, us', by rw [hk]; simp, rfl, by simp [hdl], rfl, rfl, by simpa using hkk2, by rw [← hvs]; simp⟩
end Idl
end Go.Proofs.Ytbkdidonegggdaa
namespace Go.Proofs.Ytbkdidonegggdaa
namespace Idl
theorem mx_ok : ∀ f, EvOk f ∧ CtOk f ∧ StOk f ∧ OpnOk f
  | 0 => ⟨(fun _ _ _ _ _ h => by rw [evP.eq_def] at h; cases h), (fun _ _ _ _ h => by rw [ctP.eq_def] at h; cases h), (fun _ _ _ _ _ h => by rw [stP.eq_def] at h; cases h), (fun _ _ _ _ _ _ h => by rw [opP.eq_def] at h; cases h)⟩
  | f + 1 => ⟨ev_step (mx_ok f).1 (mx_ok f).2.1, ct_step (mx_ok f).2.2.1, st_step (mx_ok f).2.1 (mx_ok f).2.2.2, op_step (mx_ok f).1⟩
/-! Slices of terms of one's own. -/
def cellsF : List Tm → List FV
  | [] => []
  | .mk o n k :: l => .int .i64 o :: .int .i64 n :: .sl (k.map Tm.enc) :: cellsF l
def zeroT : Nat → List IV
  | 0 => []
  | n + 1 => iv 0 :: iv 0 :: .nils :: zeroT n
def cellsT (ts : List Tm) (r : Nat) : List IV := (cellsF ts).map .fv ++ zeroT r
theorem cellsF_len (ts : List Tm) : (cellsF ts).length = 3 * ts.length := by
  induction ts with
  | nil => rfl
  | cons t l ih => obtain ⟨o, n, k⟩ := t; simp only [cellsF, List.length_cons, ih]; omega
theorem cellsF_app (ts : List Tm) (t : Tm) : cellsF (ts ++ [t]) = cellsF ts ++ [.int .i64 t.op, .int .i64 t.n, .sl (t.kids.map Tm.enc)] := by
  induction ts with
  | nil => obtain ⟨o, n, k⟩ := t; rfl
  | cons a l ih => obtain ⟨o, n, k⟩ := a; simp only [List.cons_append, cellsF, ih]
theorem setFK_app {β : Type} : ∀ (A : List IV) (x y z : IV) (B : List IV) (a b c : FV) (k : List IV → Option β), setFK (A ++ x :: y :: z :: B) A.length [a, b, c] k = k (A ++ .fv a :: .fv b :: .fv c :: B)
  | [], x, y, z, B, a, b, c, k => rfl
  | w :: A, x, y, z, B, a, b, c, k => by
    show setFK (A ++ x :: y :: z :: B) A.length [a, b, c] (fun t => k (w :: t)) = _
    rw [setFK_app A]
    rfl
theorem set_t {β : Type} (done : List Tm) (r : Nat) (o n : Int) (ks : List Tm) (k : List IV → Option β) : setFK (cellsT done (r + 1)) (done.length * 3) [.int .i64 o, .int .i64 n, .sl (ks.map Tm.enc)] k = k (cellsT (done ++ [.mk o n ks]) r) := by
  have h := setFK_app (β := β) ((cellsF done).map .fv) (iv 0) (iv 0) .nils (zeroT r) (.int .i64 o) (.int .i64 n) (.sl (ks.map Tm.enc)) k
  rw [List.length_map, cellsF_len, Nat.mul_comm] at h
  refine h.trans ?_
  congr 1
  unfold cellsT
  rw [cellsF_app]
  simp [Tm.op, Tm.n, Tm.kids, iv]
theorem chk3 {β : Type} : ∀ (ts : List Tm) (k : List FV → Option β), chK 3 ts.length (cellsF ts) k = k (ts.map Tm.enc)
  | [], k => rfl
  | .mk o n ks :: l, k => by
    show (takK (cellsF (.mk o n ks :: l)) 3 fun a => drpK (cellsF (.mk o n ks :: l)) 3 fun b => elK2 a fun x => chK 3 l.length b fun xs => k (x :: xs)) = _
    rw [cellsF, t3, d3]
    show (chK 3 l.length (cellsF l) fun xs => k (.agg [.int .i64 o, .int .i64 n, .sl (ks.map Tm.enc)] :: xs)) = _
    rw [chk3 l, List.map_cons, enc_mk]
theorem rep_t (n : Nat) : rep n [iv 0, iv 0, .nils] = cellsT [] n := by
  induction n with
  | zero => rfl
  | succ n ih => rw [rep, ih]; rfl
theorem mk_t {n : Nat} (hn : n ≤ 1000) (s : Nat) (own : List (Nat × Blk)) (ext : List Blk) (k : IV → Hp → List Ref → List Ref → Option (IV × Hp)) :
    genS (pcMakeSlice EE s 29 (iv n) (iv n)) s ⟨own, ext⟩ k = freshK own s (putOwnK own s (.row (cellsT [] n) false) fun own => k (.slc (.own s) 3 n) ⟨own, ext⟩ [] [.own s]) := by
  have : pcMakeSlice EE s 29 (iv n) (iv n) = .ret { eff := { val := .slc (.own s) 3 n }, new := some (.row (cellsT [] n) false) } := by
    simp only [pcMakeSlice, tTms, tTm, iv_e]
    rw [if_pos ⟨by omega, by omega, by omega, by decide, by decide⟩, Int.toNat_natCast, rep_t]
  rw [this]
  unfold genS
  simp only [Rd.runLog, newK, fBk_eq, fV_eq]
  rfl
theorem ix_sl3 {β : Type} {n i : Nat} (h : i < n) (r : Ref) (k : IV → Option β) : ixS 3 (.slc r 3 n) (iv i) k = k (.ptr r (i * 3)) := by
  have e1 : Nat.ble (Nat.succ i) n = true := by rw [ble_dec]; exact decide_eq_true h
  show (cond (and (Nat.ble (Nat.succ i) n) (Nat.beq 3 3)) (fNat (i * 3) fun o => k (.ptr r o)) none) = _
  rw [e1]
  simp only [fNat_eq]
  rfl
theorem flat_t (ts : List Tm) (r : Nat) : (cellsT ts r).all flatV = true := by
  unfold cellsT
  rw [List.all_append, flat_fv, Bool.true_and]
  induction r with
  | zero => rfl
  | succ r ih => rw [zeroT, List.all_cons, List.all_cons, List.all_cons, ih]; rfl
theorem names_t (s : Nat) (ts : List Tm) (r : Nat) : (cellsT ts r).any (namesV s) = false := by
  unfold cellsT
  rw [List.any_append, names_fv, Bool.false_or]
  induction r with
  | zero => rfl
  | succ r ih => rw [zeroT, List.any_cons, List.any_cons, List.any_cons, ih]; rfl
theorem fz_slc3 {s d : Nat} {ts : List Tm} {ro : Bool} {own : List (Nat × Blk)} {ext : List Blk} (hl : lookupOwn s own = some (.row (cellsT ts 0) ro)) (hn : ts.length ≤ 100) (lg : List Ref) (e : Option (IV × Hp))
    (k : FV → List (Ref × Blk) → List Ref → Option (IV × Hp)) : fzU (d + 2) (.slc (.own s) 3 ts.length) ⟨own, ext⟩ lg e k = k (.sl (ts.map Tm.enc)) [(.own s, .row (cellsT ts 0) true)] (.own s :: lg) := by
  have hlen : (cellsT ts 0).length = 3 * ts.length := by simp [cellsT, zeroT, cellsF_len]
  show (getK (.own s) ⟨own, ext⟩ fun b => asRow b fun cells => cond (Nat.ble cells.length 300) (cond (or (Nat.beq 3 0) (not (Nat.ble (ts.length * 3) cells.length))) none
    (fzLK (fzU (d + 1)) cells ⟨own, ext⟩ (.own s :: lg) e fun cs u lg => chK 3 ts.length cs fun els => k (.sl els) ((.own s, .row cells true) :: u) lg)) e) = _
  rw [g_own, ownK_eq, hl]
  simp only [Option.bind_some, as_row]
  rw [hlen, ble_dec, decide_eq_true (by omega), c_t, ble_dec, decide_eq_true (by omega)]
  simp only [Bool.not_true]
  show (fzLK (fzU (d + 1)) (cellsT ts 0) ⟨own, ext⟩ (.own s :: lg) e fun cs u lg => chK 3 ts.length cs fun els => k (.sl els) ((.own s, .row (cellsT ts 0) true) :: u) lg) = _
  rw [show cellsT ts 0 = (cellsF ts).map .fv by simp [cellsT, zeroT], fzl_fv, chk3]
theorem fz_tm {s : Nat} {ts : List Tm} {ro : Bool} {a b : FV} {own : List (Nat × Blk)} {ext : List Blk} (hl : lookupOwn s own = some (.row (cellsT ts 0) ro)) (hn : ts.length ≤ 100) (lg : List Ref) (e : Option (IV × Hp))
    (k : FV → List (Ref × Blk) → List Ref → Option (IV × Hp)) : fzU 12 (.agg [.fv a, .fv b, .slc (.own s) 3 ts.length]) ⟨own, ext⟩ lg e k = k (.agg [a, b, .sl (ts.map Tm.enc)]) [(.own s, .row (cellsT ts 0) true)] (.own s :: lg) := by
  rw [fu_agg, show Nat.ble [IV.fv a, .fv b, .slc (.own s) 3 ts.length].length 300 = true from rfl, c_t, fl1, fv_fv, fl1, fv_fv, fl1, fz_slc3 (d := 9) hl hn, fl0]
  rfl
/-! The model. -/
def upP (below : Int) (b : Nat) : List PV := (List.range b).map fun (j : Nat) => PV.var (below + (j : Int))
theorem upP_succ (u : Int) (b : Nat) : upP u (b + 1) = upP u b ++ [PV.var (u + b)] := by simp [upP, List.range_succ]
theorem upP_len (u : Int) (b : Nat) : (upP u b).length = b := by simp [upP]
/-- The kids' terms; none: it was given up. -/
def bkK (bk : PV → Int → M3 → Int → Option (Tm × M3 × Int)) (opn : Nat → List PV → M3 → Option (PV × M3)) (op below : Int) : Nat → List PV → M3 → Int → Option (Option (List Tm) × M3 × Int)
  | _, [], m, r => some (some [], m, r)
  | i, x :: l, m, r => match (if 0 < bindN op i then opn i (upP below (bindN op i)) m else some (x, m)) with
    | none => none
    | some (y, m) => if m.e ≠ 0 then some (none, m, r) else match bk y (below + bindN op i) m r with
      | none => none
      | some (t, m, r) => (bkK bk opn op below (i + 1) l m r).map fun (ts, m, r) => (ts.map (t :: ·), m, r)
def bkP : Nat → PV → Int → Int → M3 → Int → Option (Tm × M3 × Int)
  | 0, _, _, _, _, _ => none
  | f + 1, v, below, deep, m, r =>
    if r < 0 ∨ 1000000000 < r ∨ below < 0 ∨ 1000000 < below ∨ deep < 0 ∨ 1000000 < deep then none else
    match tickP ⟨m.s, m.w, if m.e = 0 ∧ (3000 < r + 1 ∨ 120 < deep) then 5 else m.e⟩ with
    | none => none
    | some m => if m.e ≠ 0 then some (.z, m, r + 1) else match v with
      | .nil => none
      | .mk op n k t e => if op = 1 then (if n < -2305843009213693952 ∨ 2305843009213693952 < n then none else some (.mk 1 (below - 1 - n) [], m, r + 1))
        else if f ≤ k.length + 4 ∨ 100 < k.length then none
        else match bkK (fun v below m r => bkP f v below (deep + 1) m r) (fun i l m => opP f (.mk op n k t e) i l m) op below 0 k m (r + 1) with
          | none => none
          | some (none, m, r) => some (.z, m, r)
          | some (some ts, m, r) => some (.mk op n ts, m, r)
def BkOk (f : Nat) : Prop := ∀ (v : PV) (below deep : Int) (m : M3) (r : Int) (t : Tm) (m' : M3) (r' : Int), bkP f v below deep m r = some (t, m', r') → ∀ n, f + 1 ≤ n →
  AnsX (SS dt n 53 [.ptr (.ext 0) 0, .fv v.enc, iv below, iv deep] ⟨[], MX m.s m.w r m.e⟩) t.enc (MX m'.s m'.w r' m'.e)
end Idl
end Go.Proofs.Ytbkdidonegggdaa
namespace Go.Proofs.Ytbkdidonegggdaa
namespace Idl
theorem ml_x (j : Nat) (v : FV) : mayLie (.ext j) (.fv v) = true := rfl
theorem bk_start {ih : Handler} {n : Nat} {v w : FV} {below deep s u r e e1 : Int} {ext : List Blk} (hr : 0 ≤ r) (hr2 : r ≤ 1000000000) (he1 : (if e = 0 ∧ (3000 < r + 1 ∨ 120 < deep) then (5 : Int) else e) = e1)
    (h : AnsX (S53_288 ih ⟨[(55574528, .row [iv 0, iv 0, .nils] false)], MX s u (r + 1) e1⟩ (.ptr (.ext 0) 0) (.ptr (.own 55574528) 0) (.fv v) (iv below) ⟨[], MX s u r e⟩ (iv deep) n) w ext) :
    AnsX (S53 ih n (.ptr (.ext 0) 0) (.fv v) (iv below) (iv deep) ⟨[], MX s u r e⟩) w ext := by
  have wr : w64 (r + 1) = r + 1 := by rw [w64_id] <;> omega
  have key : S53 ih n (.ptr (.ext 0) 0) (.fv v) (iv below) (iv deep) ⟨[], MX s u r e⟩ = S53_288 ih ⟨[(55574528, .row [iv 0, iv 0, .nils] false)], MX s u (r + 1) e1⟩ (.ptr (.ext 0) 0) (.ptr (.own 55574528) 0) (.fv v) (iv below) ⟨[], MX s u r e⟩ (iv deep) n := by
    by_cases h0 : e = 0
    · by_cases h3 : 3000 < r + 1
      · rw [if_pos ⟨h0, .inl h3⟩] at he1
        subst he1
        simp only [S53_261, S53_262, S53_263, S53_264, S53_265, S53_266, S53_267, S53_268, S53_269, S53_270, S53_271, S53_272, S53_273, S53_274, S53_275, S53_276, S53_277, S53_278, S53_279, S53_280, S53_281, S53_282, S53_283, S53_284, S53_285, S53_286, S53_287, S53_289, S53_290, S53_291, S53_292, S53_293, S53, ↓XX, ↓reduceIte, Nat.reduceBEq, decide_true, decide_false, Bool.not_true, Bool.not_false, List.map_cons, List.map_nil, List.length_map, List.length_cons, List.length_nil, Nat.reduceAdd, Int.cast_ofNat_Int, Int.natCast_zero, Int.natCast_one, Bool.false_eq_true, Bool.true_eq_false, decide_eq_true_eq, eq_self, Int.reduceEq, Int.reduceLT, Int.reduceLE, Bool.and_true, Bool.true_and, Bool.and_false, Bool.false_and, Nat.zero_add, ↓ml_x, wr, h0, h3]
      · by_cases h4 : 120 < deep
        · rw [if_pos ⟨h0, .inr h4⟩] at he1
          subst he1
          simp only [S53_261, S53_262, S53_263, S53_264, S53_265, S53_266, S53_267, S53_268, S53_269, S53_270, S53_271, S53_272, S53_273, S53_274, S53_275, S53_276, S53_277, S53_278, S53_279, S53_280, S53_281, S53_282, S53_283, S53_284, S53_285, S53_286, S53_287, S53_289, S53_290, S53_291, S53_292, S53_293, S53, ↓XX, ↓reduceIte, Nat.reduceBEq, decide_true, decide_false, Bool.not_true, Bool.not_false, List.map_cons, List.map_nil, List.length_map, List.length_cons, List.length_nil, Nat.reduceAdd, Int.cast_ofNat_Int, Int.natCast_zero, Int.natCast_one, Bool.false_eq_true, Bool.true_eq_false, decide_eq_true_eq, eq_self, Int.reduceEq, Int.reduceLT, Int.reduceLE, Bool.and_true, Bool.true_and, Bool.and_false, Bool.false_and, Nat.zero_add, ↓ml_x, wr, h0, h3, h4]
        · rw [if_neg (by omega)] at he1
          subst he1
          simp only [S53_261, S53_262, S53_263, S53_264, S53_265, S53_266, S53_267, S53_268, S53_269, S53_270, S53_271, S53_272, S53_273, S53_274, S53_275, S53_276, S53_277, S53_278, S53_279, S53_280, S53_281, S53_282, S53_283, S53_284, S53_285, S53_286, S53_287, S53_289, S53_290, S53_291, S53_292, S53_293, S53, ↓XX, ↓reduceIte, Nat.reduceBEq, decide_true, decide_false, Bool.not_true, Bool.not_false, List.map_cons, List.map_nil, List.length_map, List.length_cons, List.length_nil, Nat.reduceAdd, Int.cast_ofNat_Int, Int.natCast_zero, Int.natCast_one, Bool.false_eq_true, Bool.true_eq_false, decide_eq_true_eq, eq_self, Int.reduceEq, Int.reduceLT, Int.reduceLE, Bool.and_true, Bool.true_and, Bool.and_false, Bool.false_and, Nat.zero_add, ↓ml_x, wr, h0, h3, h4]
    · rw [if_neg (by omega)] at he1
      subst he1
      simp only [S53_261, S53_262, S53_263, S53_264, S53_265, S53_266, S53_267, S53_268, S53_269, S53_270, S53_271, S53_272, S53_273, S53_274, S53_275, S53_276, S53_277, S53_278, S53_279, S53_280, S53_281, S53_282, S53_283, S53_284, S53_285, S53_286, S53_287, S53_289, S53_290, S53_291, S53_292, S53_293, S53, ↓XX, ↓reduceIte, Nat.reduceBEq, decide_true, decide_false, Bool.not_true, Bool.not_false, List.map_cons, List.map_nil, List.length_map, List.length_cons, List.length_nil, Nat.reduceAdd, Int.cast_ofNat_Int, Int.natCast_zero, Int.natCast_one, Bool.false_eq_true, Bool.true_eq_false, decide_eq_true_eq, eq_self, Int.reduceEq, Int.reduceLT, Int.reduceLE, Bool.and_true, Bool.true_and, Bool.and_false, Bool.false_and, Nat.zero_add, ↓ml_x, wr, h0]
  rw [key]
  exact h
end Idl
end Go.Proofs.Ytbkdidonegggdaa
namespace Go.Proofs.Ytbkdidonegggdaa
namespace Idl
def kidsG (ev : Int → Int → Tm → Option (RV × Int × Int)) (op : Int) (env : List RV) : Nat → List Tm → Int → Int → Option (List RV × Int × Int)
  | _, [], s, e => some ([], s, e)
  | i, t :: l, s, e => if 0 < bindN op i then (kidsG ev op env (i + 1) l s e).map fun (vs, s, e) => (.clo env t :: vs, s, e) else
    match ev s e t with
    | none => none
    | some (v, s, e) => (kidsG ev op env (i + 1) l s e).map fun (vs, s, e) => (v :: vs, s, e)
mutual
def evalR : Nat → Int → Int → Tm → List RV → Option (RV × Int × Int)
  | 0, _, _, _, _ => none
  | f + 1, s, e, .mk op m ks, env =>
    if e ≠ 0 then some (.zero, s, e) else if 900000 < env.length then none else
    if op = 1 then
      if m < env.length then (if 0 ≤ m then (env[(env.length - 1 - m).toNat]?).map fun v => (v, s, e) else none)
      else if m ≤ 4611686018427387904 then some (.var (env.length - 1 - m), s, e) else none
    else if f ≤ ks.length then none else if 900000 < ks.length then none else
    match kidsG (fun s e t => evalR f s e t env) op env 0 ks s e with
    | none => none
    | some (vs, s, e) => headR f s e (.node op m vs)
def headR : Nat → Int → Int → RV → Option (RV × Int × Int)
  | 0, _, _, _ => none
  | f + 1, s, e, v =>
    if e ≠ 0 then some (v, s, e) else if s < 0 ∨ 1000000 < s then none else
    if v.op = 5 then (match v.k[0]? with
      | none => none
      | some k0 => if k0.op = 4 then
          (if s + 1 ≤ 1000 then (match k0.k[1]?, v.k[1]? with
            | some c, some x => if 900000 < c.env.length then none else evalR f (s + 1) 0 c.b (c.env ++ [x])
            | _, _ => none) else some (v, s + 1, 17))
        else some (v, s, e))
    else if v.op = 8 ∨ v.op = 9 then (match v.k[0]? with
      | none => none
      | some k0 => if k0.op = 7 then
          (if s + 1 ≤ 1000 then (k0.k[(1 + v.op - 8).toNat]?).map fun x => (x, s + 1, 0) else some (v, s + 1, 17))
        else some (v, s, e))
    else if v.op = 30 then (match v.k[0]? with
      | none => none
      | some k0 => if k0.op = 19 then
          (if s + 1 ≤ 1000 then (k0.k[0]?).map fun x => (x, s + 1, 0) else some (v, s + 1, 17))
        else some (v, s, e))
    else if v.op = 19 then (match v.k[0]? with
      | none => none
      | some k0 => if k0.op = 30 then
          (if s + 1 ≤ 1000 then (k0.k[0]?).map fun x => (x, s + 1, 0) else some (v, s + 1, 17))
        else some (v, s, e))
    else if v.op = 13 then (match v.k[0]?, v.k[1]?, v.k[2]?, v.k[3]? with
      | some k0, some k1, some k2, some k3 =>
        if k3.op = 11 then (if s + 1 ≤ 1000 then some (k1, s + 1, 0) else some (v, s + 1, 17))
        else if k3.op = 12 then
          (if s + 1 ≤ 1000 then (match k3.k[0]? with
            | none => none
            | some x => (match headR f (s + 1) 0 (.node 13 0 [k0, k1, k2, x]) with
              | none => none
              | some (h, s, e) => if 900000 < k2.env.length then none else evalR f s e k2.b (k2.env ++ [x, h])))
          else some (v, s + 1, 17))
        else some (v, s, e)
      | _, _, _, _ => none)
    else some (v, s, e)
end
theorem ix_v {β : Type} {l : List RV} {i : Nat} {v : RV} (h : l[i]? = some v) (k : IV → Option β) : ixS 1 (.fv (.sl (l.map RV.enc))) (iv i) k = k (.fv (.fp [v.enc] 0)) := by
  have h1 : (l.map RV.enc)[i]? = some v.enc := by rw [List.getElem?_map, h]; rfl
  rw [ix_f h1 (renc_cells v), renc_self]
/-- What is so of the machine, so deep. -/
def EvalOk (f : Nat) : Prop := ∀ (s e : Int) (t : Tm) (env : List RV) (v : RV) (s' e' nd : Int), evalR f s e t env = some (v, s', e') → ∀ n, f + 1 ≤ n →
  AnsX (SS dt n 49 [.ptr (.ext 0) 0, .fv t.enc, .fv (.sl (env.map RV.enc))] ⟨[], [.row [iv s, iv nd, iv e] false]⟩) v.enc [.row [iv s', iv nd, iv e'] false]
def HeadOk (f : Nat) : Prop := ∀ (s e : Int) (v w : RV) (s' e' nd : Int), headR f s e v = some (w, s', e') → ∀ n, f + 1 ≤ n →
  AnsX (SS dt n 70 [.ptr (.ext 0) 0, .fv v.enc] ⟨[], [.row [iv s, iv nd, iv e] false]⟩) w.enc [.row [iv s', iv nd, iv e'] false]
noncomputable abbrev Heval (op m : Int) (ks : List Tm) (K : IV) (tok : List (Nat × Blk)) (s nd e : Int) : Hp :=
  ⟨(51380224, .row [iv op, iv m, .fv (.sl (ks.map Tm.enc))] false) :: (51387397, .row [iv op, iv m, K, .nils, iv 0, iv 0, .nils] false) :: tok, [.row [iv s, iv nd, iv e] false]⟩
theorem rfl2 {op m : Int} (l : List RV) : (RV.node op m l).enc = .fp [.int .i64 op, .int .i64 m, .sl (l.map RV.enc), .sl [], .int .i64 0, .int .i64 0, .sl []] 0 := by rw [RV.node, Tm.z, renc_mk]; rfl
theorem eval_step {f : Nat} (he : EvalOk f) (hh : HeadOk f) : EvalOk (f + 1) := by
  intro s e t env v s' e' nd hev n hn
  obtain ⟨n, rfl⟩ : ∃ k, n = k + 1 := ⟨n - 1, by omega⟩
  rw [c49]
  obtain ⟨op, m, ks⟩ := t
  rw [enc_mk]
  rw [evalR] at hev
  by_cases h0 : e ≠ 0
  · rw [if_pos h0] at hev
    simp only [Option.some.injEq, Prod.mk.injEq] at hev
    obtain ⟨rfl, rfl, rfl⟩ := hev
    simp only [S49_148, S49_149, S49_150, S49_151, S49_152, S49_153, S49_154, S49_155, S49_156, S49_157, S49_158, S49_159, S49_160, S49_161, S49_162, S49_163, S49_164, S49_165, S49_166, S49_168, S49_169, S49_170, S49, ↓XX, ↓reduceIte, Nat.reduceBEq, decide_true, decide_false, Bool.not_true, Bool.not_false, List.map_cons, List.map_nil, List.length_map, List.length_cons, List.length_nil, Nat.reduceAdd, Int.cast_ofNat_Int, Int.natCast_zero, Int.natCast_one, Bool.false_eq_true, Bool.true_eq_false, decide_eq_true_eq, eq_self, Int.reduceEq, Int.reduceLT, Int.reduceLE, Bool.and_true, Bool.true_and, Bool.and_false, Bool.false_and, Nat.zero_add, h0]
    exact ⟨_, _, rfl, _, _, fun _ _ => rfl⟩
  · have h0' : e = 0 := by omega
    subst h0'
    rw [if_neg h0] at hev
    by_cases hlen : 900000 < env.length
    · rw [if_pos hlen] at hev; cases hev
    · rw [if_neg hlen] at hev
      by_cases h1 : op = 1
      · rw [if_pos h1] at hev
        subst h1
        by_cases h2 : m < env.length
        · rw [if_pos h2] at hev
          by_cases h3 : 0 ≤ m
          · rw [if_pos h3] at hev
            cases hg : env[(env.length - 1 - m).toNat]? with
            | none => rw [hg] at hev; cases hev
            | some u =>
              rw [hg] at hev
              simp only [Option.map_some, Option.some.injEq, Prod.mk.injEq] at hev
              obtain ⟨rfl, rfl, rfl⟩ := hev
              have e1 : w64 ((env.length : Int) - 1) = env.length - 1 := by rw [w64_id] <;> omega
              have e2 : w64 ((env.length : Int) - 1 - m) = (((env.length : Int) - 1 - m).toNat : Int) := by rw [w64_id] <;> omega
              simp only [S49_148, S49_149, S49_150, S49_151, S49_152, S49_153, S49_154, S49_155, S49_156, S49_157, S49_158, S49_159, S49_160, S49_161, S49_162, S49_163, S49_164, S49_165, S49_166, S49_168, S49_169, S49_170, S49, ↓XX, ↓reduceIte, Nat.reduceBEq, decide_true, decide_false, Bool.not_true, Bool.not_false, List.map_cons, List.map_nil, List.length_map, List.length_cons, List.length_nil, Nat.reduceAdd, Int.cast_ofNat_Int, Int.natCast_zero, Int.natCast_one, Bool.false_eq_true, Bool.true_eq_false, decide_eq_true_eq, eq_self, Int.reduceEq, Int.reduceLT, Int.reduceLE, Bool.and_true, Bool.true_and, Bool.and_false, Bool.false_and, Nat.zero_add, h2, e1, e2, ↓ix_v hg]
              exact ansx_fv _ _ _
          · rw [if_neg h3] at hev; cases hev
        · rw [if_neg h2] at hev
          by_cases h3 : m ≤ 4611686018427387904
          · rw [if_pos h3] at hev
            simp only [Option.some.injEq, Prod.mk.injEq] at hev
            obtain ⟨rfl, rfl, rfl⟩ := hev
            have e1 : w64 ((env.length : Int) - 1) = env.length - 1 := by rw [w64_id] <;> omega
            have e2 : w64 ((env.length : Int) - 1 - m) = (env.length : Int) - 1 - m := by rw [w64_id] <;> omega
            simp only [S49_148, S49_149, S49_150, S49_151, S49_152, S49_153, S49_154, S49_155, S49_156, S49_157, S49_158, S49_159, S49_160, S49_161, S49_162, S49_163, S49_164, S49_165, S49_166, S49_168, S49_169, S49_170, S49, ↓XX, ↓reduceIte, Nat.reduceBEq, decide_true, decide_false, Bool.not_true, Bool.not_false, List.map_cons, List.map_nil, List.length_map, List.length_cons, List.length_nil, Nat.reduceAdd, Int.cast_ofNat_Int, Int.natCast_zero, Int.natCast_one, Bool.false_eq_true, Bool.true_eq_false, decide_eq_true_eq, eq_self, Int.reduceEq, Int.reduceLT, Int.reduceLE, Bool.and_true, Bool.true_and, Bool.and_false, Bool.false_and, Nat.zero_add, h2, e1, e2]
            exact ⟨_, _, rfl, _, _, fun _ _ => rfl⟩
          · rw [if_neg h3] at hev; cases hev
      · rw [if_neg h1] at hev
        by_cases hf : f ≤ ks.length
        · rw [if_pos hf] at hev; cases hev
        · rw [if_neg hf] at hev
          by_cases hk9 : 900000 < ks.length
          · rw [if_pos hk9] at hev; cases hev
          · rw [if_neg hk9] at hev
            cases hkg : kidsG (fun s e t => evalR f s e t env) op env 0 ks s 0 with
            | none => rw [hkg] at hev; cases hev
            | some q =>
            obtain ⟨vs, s1, e1⟩ := q
            rw [hkg] at hev
            simp only at hev
            simp only [S49_148, S49_149, S49_150, S49_151, S49_152, S49_153, S49_154, S49_155, S49_156, S49_157, S49_158, S49_159, S49_160, S49_161, S49_162, S49_163, S49_164, S49_165, S49_166, S49_168, S49_169, S49_170, S49, ↓XX, ↓reduceIte, Nat.reduceBEq, decide_true, decide_false, Bool.not_true, Bool.not_false, List.map_cons, List.map_nil, List.length_map, List.length_cons, List.length_nil, Nat.reduceAdd, Int.cast_ofNat_Int, Int.natCast_zero, Int.natCast_one, Bool.false_eq_true, Bool.true_eq_false, decide_eq_true_eq, eq_self, Int.reduceEq, Int.reduceLT, Int.reduceLE, Bool.and_true, Bool.true_and, Bool.and_false, Bool.false_and, Nat.zero_add, h1, ↓drop_e, XD, heldB, flatD, List.any_cons, List.any_nil, List.all_cons, List.all_nil, List.filter_cons, List.filter_nil, List.contains_cons, List.contains_nil, Bool.or_false, Bool.or_true, Bool.false_or, Bool.true_or, Bool.and_self, Bool.not_eq_true, BEq.rfl, beq_self_eq_true]
            refine loop_run (Q := fun r => AnsX r _ _) (fun k V H => ∃ pre rest done s2 e2 us s3 e3, ks = pre ++ rest ∧ rest.length = k ∧ done.length = pre.length ∧ V = [.ptr (.ext 0) 0, .fv (.sl (env.map RV.enc)), .ptr (.own 51380224) 0, .ptr (.own 51387397) 0, iv pre.length] ∧
              ((pre = [] ∧ H = Heval op m ks .nils [] s2 nd e2) ∨
               (∃ r, (r = 51392526 ∨ r = 51393550) ∧ pre ≠ [] ∧ H = Heval op m ks (.app (.own r) (done.map RV.enc)) [(r, .tok done.length 1)] s2 nd e2)) ∧
              kidsG (fun s e t => evalR f s e t env) op env pre.length rest s2 e2 = some (us, s3, e3) ∧ headR f s3 e3 (.node op m (done ++ us)) = some (v, s', e'))
              ?_ n ks.length _ _ (by omega) ⟨[], ks, [], s, 0, vs, s1, e1, rfl, rfl, rfl, rfl, .inl ⟨rfl, rfl⟩, hkg, hev⟩
            rintro k V H rec ⟨pre, rest, done, s2, e2, us, s3, e3, hk, hl, hdl, rfl, hH, hkids, hhead⟩ hrec
            have hkl : ks.length = pre.length + rest.length := by rw [hk]; simp
            have zenc : ∀ l : List RV, (RV.node op m l).enc = .fp [.int .i64 op, .int .i64 m, .sl (l.map RV.enc), .sl [], .int .i64 0, .int .i64 0, .sl []] 0 := fun l => rfl2 l
            cases rest with
            | nil =>
              simp only [kidsG, Option.some.injEq, Prod.mk.injEq] at hkids
              obtain ⟨rfl, rfl, rfl⟩ := hkids
              rw [List.append_nil] at hhead
              have hc := hh s2 e2 _ v s' e' nd hhead n (by omega)
              rw [zenc] at hc
              have hpre : ks = pre := by simpa using hk
              subst hpre
              rcases hH with ⟨rfl, rfl⟩ | ⟨r, hr, hne, rfl⟩
              · have hd : done = [] := List.length_eq_zero_iff.1 hdl
                subst hd
                have hcall := fun k => iso_m2p (k := k) (own := [(51380224, .row [iv op, iv m, .fv (.sl (([] : List Tm).map Tm.enc))] false), (51387397, .row [iv op, iv m, .nils, .nils, iv 0, iv 0, .nils] false)])
                  (cells := [iv op, iv m, .nils, .nils, iv 0, iv 0, .nils]) (ro := false) (s := 51387397) hc (onex3 ..) (by simp [lookupOwn]) rfl (by simp)
                simp only [S49_148, S49_149, S49_150, S49_151, S49_152, S49_153, S49_154, S49_155, S49_156, S49_157, S49_158, S49_159, S49_160, S49_161, S49_162, S49_163, S49_164, S49_165, S49_166, S49_167, S49_168, S49_169, S49_170, S49, ↓XX, ↓reduceIte, Nat.reduceBEq, decide_true, decide_false, Bool.not_true, Bool.not_false, List.map_cons, List.map_nil, List.length_map, List.length_cons, List.length_nil, Nat.reduceAdd, Int.cast_ofNat_Int, Int.natCast_zero, Int.natCast_one, Bool.false_eq_true, Bool.true_eq_false, decide_eq_true_eq, eq_self, Int.reduceEq, Int.reduceLT, Int.reduceLE, Bool.and_true, Bool.true_and, Bool.and_false, Bool.false_and, Nat.zero_add, Int.lt_irrefl, ↓hcall]
                exact ansx_fv _ _ _
              · have hcall := fun k => iso_m2p (k := k) (own := [(51380224, .row [iv op, iv m, .fv (.sl (ks.map Tm.enc))] false), (51387397, .row [iv op, iv m, .app (.own r) (done.map RV.enc), .nils, iv 0, iv 0, .nils] false), (r, .tok done.length 1)])
                  (cells := [iv op, iv m, .app (.own r) (done.map RV.enc), .nils, iv 0, iv 0, .nils]) (ro := false) (s := 51387397) hc (onex3 ..) (by simp [lookupOwn]) rfl (by simp)
                simp only [S49_148, S49_149, S49_150, S49_151, S49_152, S49_153, S49_154, S49_155, S49_156, S49_157, S49_158, S49_159, S49_160, S49_161, S49_162, S49_163, S49_164, S49_165, S49_166, S49_167, S49_168, S49_169, S49_170, S49, ↓XX, ↓reduceIte, Nat.reduceBEq, decide_true, decide_false, Bool.not_true, Bool.not_false, List.map_cons, List.map_nil, List.length_map, List.length_cons, List.length_nil, Nat.reduceAdd, Int.cast_ofNat_Int, Int.natCast_zero, Int.natCast_one, Bool.false_eq_true, Bool.true_eq_false, decide_eq_true_eq, eq_self, Int.reduceEq, Int.reduceLT, Int.reduceLE, Bool.and_true, Bool.true_and, Bool.and_false, Bool.false_and, Nat.zero_add, Int.lt_irrefl, ↓hcall]
                exact ansx_fv _ _ _
            | cons t rest =>
              have hi : (pre.length : Int) < ks.length := by rw [hkl]; simp; omega
              have hg := at_pre hk
              have hb := binders_ok (n := n) (by omega) op pre.length
              have hwi : w64 ((pre.length : Int) + 1) = ((pre ++ [t]).length : Int) := (w64_id (by omega) (by omega)).trans (by simp)
              have hbi : (0 < (bindN op pre.length : Int)) ↔ 0 < bindN op pre.length := by omega
              have hd9 : done.length + 1 ≤ 1000000 := by omega
              simp only [kidsG] at hkids
              simp only [List.length_cons] at hl
              by_cases hbp : 0 < bindN op pre.length
              · rw [if_pos hbp] at hkids
                cases hkk : kidsG (fun s e t => evalR f s e t env) op env (pre.length + 1) rest s2 e2 with
                | none => rw [hkk] at hkids; cases hkids
                | some q =>
                obtain ⟨us', s4, e4⟩ := q
                rw [hkk] at hkids
                simp only [Option.map_some, Option.some.injEq, Prod.mk.injEq] at hkids
                obtain ⟨rfl, rfl, rfl⟩ := hkids
                have hbp' : 0 < (bindN op pre.length : Int) := by omega
                have hce : (RV.clo env t).enc = .fp [.int .i64 0, .int .i64 0, .sl [], .sl (env.map RV.enc), .int .i64 t.op, .int .i64 t.n, .sl (t.kids.map Tm.enc)] 0 := by rw [renc_eq]; rfl
                have hnext : ∀ tk, (tk = 51392526 ∨ tk = 51393550) → AnsX (rec [.ptr (.ext 0) 0, .fv (.sl (env.map RV.enc)), .ptr (.own 51380224) 0, .ptr (.own 51387397) 0, iv (pre ++ [t]).length]
                    (Heval op m ks (.app (.own tk) ((done ++ [RV.clo env t]).map RV.enc)) [(tk, .tok (done ++ [RV.clo env t]).length 1)] s2 nd e2)) v.enc [.row [iv s', iv nd, iv e'] false] := fun tk htk =>
                  hrec rest.length _ _ (by omega) ⟨pre ++ [t], rest, done ++ [.clo env t], s2, e2, us', s4, e4, by rw [hk]; simp, rfl, by simp [hdl], rfl, .inr ⟨tk, htk, by simp, rfl⟩, by simpa using hkk, by simpa using hhead⟩
                obtain ⟨o, p, l⟩ := t
                simp only [Tm.op, Tm.n, Tm.kids] at hce
                have ha0 := fun {s own ext k} => app0_v (RV.clo env (.mk o p l)) s own ext k
                have ha1 := fun {r s own ext k} => app1_v hd9 (RV.clo env (.mk o p l)) r s own ext k
                rw [hce] at ha0 ha1
                have hbs := fun (tl : List (Nat × Blk)) (K : IV) (own : List (Nat × Blk)) (hown : own = (51380224, .row [iv op, iv m, .fv (.sl (ks.map Tm.enc))] false) :: (51387397, .row [iv op, iv m, K, .nils, iv 0, iv 0, .nils] false) :: tl) (hl : lookupOwn 51392524 own = some (.row [iv 0, iv 0, .nils, .fv (.sl (env.map RV.enc)), iv o, iv p, .fv (.sl (l.map Tm.enc))] false)) (own' : List (Nat × Blk)) (ho) s ext (k : IV → Hp → List Ref → List Ref → Option (IV × Hp)) =>
                  bs1_q (E := EE) (own := own) (own' := own') tVs tVp rfl ⟨_, rfl⟩ hl (fc := [.int .i64 0, .int .i64 0, .sl [], .sl (env.map RV.enc), .int .i64 o, .int .i64 p, .sl (l.map Tm.enc)]) rfl (by simp) ho s ext k
                rcases hH with ⟨hp0, rfl⟩ | ⟨r, hr, hne, rfl⟩
                · have hd0 : done = [] := List.length_eq_zero_iff.1 (by rw [hdl, hp0]; rfl)
                  subst hd0
                  have h9 := hnext _ (.inl rfl)
                  simp only [List.nil_append, List.map_cons, List.map_nil, List.length_cons, List.length_nil] at h9
                  rw [hce] at h9
                  have hb0 := fun s ext k => hbs [(51392524, .row [iv 0, iv 0, .nils, .fv (.sl (env.map RV.enc)), iv o, iv p, .fv (.sl (l.map Tm.enc))] false)] .nils _ rfl (by simp [lookupOwn])
                    [(51380224, .row [iv op, iv m, .fv (.sl (ks.map Tm.enc))] false), (51387397, .row [iv op, iv m, .nils, .nils, iv 0, iv 0, .nils] false), (51392524, .row [iv 0, iv 0, .nils, .fv (.sl (env.map RV.enc)), iv o, iv p, .fv (.sl (l.map Tm.enc))] true)] (by simp [putOwn]) s ext k
                  simp only [S49_148, S49_149, S49_150, S49_151, S49_152, S49_153, S49_154, S49_155, S49_156, S49_157, S49_158, S49_159, S49_160, S49_161, S49_162, S49_163, S49_164, S49_165, S49_166, S49_167, S49_168, S49_169, S49_170, S49, ↓XX, ↓reduceIte, Nat.reduceBEq, decide_true, decide_false, Bool.not_true, Bool.not_false, List.map_cons, List.map_nil, List.length_map, List.length_cons, List.length_nil, Nat.reduceAdd, Int.cast_ofNat_Int, Int.natCast_zero, Int.natCast_one, Bool.false_eq_true, Bool.true_eq_false, decide_eq_true_eq, eq_self, Int.reduceEq, Int.reduceLT, Int.reduceLE, Bool.and_true, Bool.true_and, Bool.and_false, Bool.false_and, Nat.zero_add, hi, ↓ix_f (map_get hg) (agg3l _ _ _), ↓agg3, ↓iso_2 hb, hbp', hwi, ↓hb0, ↓ha0, ↓drop_e, XD, heldB, flatD, List.any_cons, List.any_nil, List.all_cons, List.all_nil, List.filter_cons, List.filter_nil, List.contains_cons, List.contains_nil, Bool.or_false, Bool.or_true, Bool.false_or, Bool.true_or, Bool.and_self, Bool.not_eq_true, BEq.rfl, beq_self_eq_true]
                  exact h9
                · have h9 := hnext r hr
                  rw [show (done ++ [RV.clo env (Tm.mk o p l)]).length = done.length + 1 by simp] at h9
                  simp only [List.map_append, List.map_cons, List.map_nil] at h9
                  rw [hce] at h9
                  simp only [List.map_append, List.map_cons, List.map_nil] at ha1
                  rw [hce] at ha1
                  have hb0 := fun s ext k => hbs [(r, .tok done.length 1), (51392524, .row [iv 0, iv 0, .nils, .fv (.sl (env.map RV.enc)), iv o, iv p, .fv (.sl (l.map Tm.enc))] false)] (.app (.own r) (done.map RV.enc)) _ rfl (by rcases hr with rfl | rfl <;> simp [lookupOwn])
                    [(51380224, .row [iv op, iv m, .fv (.sl (ks.map Tm.enc))] false), (51387397, .row [iv op, iv m, .app (.own r) (done.map RV.enc), .nils, iv 0, iv 0, .nils] false), (r, .tok done.length 1), (51392524, .row [iv 0, iv 0, .nils, .fv (.sl (env.map RV.enc)), iv o, iv p, .fv (.sl (l.map Tm.enc))] true)]
                    (by rcases hr with rfl | rfl <;> simp [putOwn]) s ext k
                  rcases hr with rfl | rfl
                  · simp only [S49_148, S49_149, S49_150, S49_151, S49_152, S49_153, S49_154, S49_155, S49_156, S49_157, S49_158, S49_159, S49_160, S49_161, S49_162, S49_163, S49_164, S49_165, S49_166, S49_167, S49_168, S49_169, S49_170, S49, ↓XX, ↓reduceIte, Nat.reduceBEq, decide_true, decide_false, Bool.not_true, Bool.not_false, List.map_cons, List.map_nil, List.length_map, List.length_cons, List.length_nil, Nat.reduceAdd, Int.cast_ofNat_Int, Int.natCast_zero, Int.natCast_one, Bool.false_eq_true, Bool.true_eq_false, decide_eq_true_eq, eq_self, Int.reduceEq, Int.reduceLT, Int.reduceLE, Bool.and_true, Bool.true_and, Bool.and_false, Bool.false_and, Nat.zero_add, hi, ↓ix_f (map_get hg) (agg3l _ _ _), ↓agg3, ↓iso_2 hb, hbp', hwi, ↓hb0, ↓ha1, ↓tok_k, ↓drop_e, XD, heldB, flatD, List.any_cons, List.any_nil, List.all_cons, List.all_nil, List.filter_cons, List.filter_nil, List.contains_cons, List.contains_nil, Bool.or_false, Bool.or_true, Bool.false_or, Bool.true_or, Bool.and_self, Bool.not_eq_true, BEq.rfl, beq_self_eq_true]
                    exact h9
                  · simp only [S49_148, S49_149, S49_150, S49_151, S49_152, S49_153, S49_154, S49_155, S49_156, S49_157, S49_158, S49_159, S49_160, S49_161, S49_162, S49_163, S49_164, S49_165, S49_166, S49_167, S49_168, S49_169, S49_170, S49, ↓XX, ↓reduceIte, Nat.reduceBEq, decide_true, decide_false, Bool.not_true, Bool.not_false, List.map_cons, List.map_nil, List.length_map, List.length_cons, List.length_nil, Nat.reduceAdd, Int.cast_ofNat_Int, Int.natCast_zero, Int.natCast_one, Bool.false_eq_true, Bool.true_eq_false, decide_eq_true_eq, eq_self, Int.reduceEq, Int.reduceLT, Int.reduceLE, Bool.and_true, Bool.true_and, Bool.and_false, Bool.false_and, Nat.zero_add, hi, ↓ix_f (map_get hg) (agg3l _ _ _), ↓agg3, ↓iso_2 hb, hbp', hwi, ↓hb0, ↓ha1, ↓tok_k, ↓drop_e, XD, heldB, flatD, List.any_cons, List.any_nil, List.all_cons, List.all_nil, List.filter_cons, List.filter_nil, List.contains_cons, List.contains_nil, Bool.or_false, Bool.or_true, Bool.false_or, Bool.true_or, Bool.and_self, Bool.not_eq_true, BEq.rfl, beq_self_eq_true]
                    exact h9
              · rw [if_neg hbp] at hkids
                have hbp' : ¬ 0 < (bindN op pre.length : Int) := by omega
                cases hev1 : evalR f s2 e2 t env with
                | none => rw [hev1] at hkids; cases hkids
                | some q =>
                obtain ⟨v1, s4, e4⟩ := q
                rw [hev1] at hkids
                simp only at hkids
                cases hkk : kidsG (fun s e t => evalR f s e t env) op env (pre.length + 1) rest s4 e4 with
                | none => rw [hkk] at hkids; cases hkids
                | some q =>
                obtain ⟨us', s5, e5⟩ := q
                rw [hkk] at hkids
                simp only [Option.map_some, Option.some.injEq, Prod.mk.injEq] at hkids
                obtain ⟨rfl, rfl, rfl⟩ := hkids
                have hc := he s2 e2 t env v1 s4 e4 nd hev1 n (by omega)
                have hnext : ∀ tk, (tk = 51392526 ∨ tk = 51393550) → AnsX (rec [.ptr (.ext 0) 0, .fv (.sl (env.map RV.enc)), .ptr (.own 51380224) 0, .ptr (.own 51387397) 0, iv (pre ++ [t]).length]
                    (Heval op m ks (.app (.own tk) ((done ++ [v1]).map RV.enc)) [(tk, .tok (done ++ [v1]).length 1)] s4 nd e4)) v.enc [.row [iv s', iv nd, iv e'] false] := fun tk htk =>
                  hrec rest.length _ _ (by omega) ⟨pre ++ [t], rest, done ++ [v1], s4, e4, us', s5, e5, by rw [hk]; simp, rfl, by simp [hdl], rfl, .inr ⟨tk, htk, by simp, rfl⟩, by simpa using hkk, by simpa using hhead⟩
                obtain ⟨o, p, l⟩ := t
                rw [enc_mk] at hc
                rcases hH with ⟨hp0, rfl⟩ | ⟨r, hr, hne, rfl⟩
                · have hd0 : done = [] := List.length_eq_zero_iff.1 (by rw [hdl, hp0]; rfl)
                  subst hd0
                  have h9 := hnext _ (.inr rfl)
                  simp only [List.nil_append, List.map_cons, List.map_nil, List.length_cons, List.length_nil] at h9
                  simp only [S49_148, S49_149, S49_150, S49_151, S49_152, S49_153, S49_154, S49_155, S49_156, S49_157, S49_158, S49_159, S49_160, S49_161, S49_162, S49_163, S49_164, S49_165, S49_166, S49_167, S49_168, S49_169, S49_170, S49, ↓XX, ↓reduceIte, Nat.reduceBEq, decide_true, decide_false, Bool.not_true, Bool.not_false, List.map_cons, List.map_nil, List.length_map, List.length_cons, List.length_nil, Nat.reduceAdd, Int.cast_ofNat_Int, Int.natCast_zero, Int.natCast_one, Bool.false_eq_true, Bool.true_eq_false, decide_eq_true_eq, eq_self, Int.reduceEq, Int.reduceLT, Int.reduceLE, Bool.and_true, Bool.true_and, Bool.and_false, Bool.false_and, Nat.zero_add, hi, ↓ix_f (map_get hg) (agg3l _ _ _), ↓agg3, ↓iso_2 hb, hbp', hwi, ↓iso_m3 hc (onex3 _ _ _ _ _ _), ↓bs1_v, ↓app0_v, ↓drop_e, XD, heldB, flatD, List.any_cons, List.any_nil, List.all_cons, List.all_nil, List.filter_cons, List.filter_nil, List.contains_cons, List.contains_nil, Bool.or_false, Bool.or_true, Bool.false_or, Bool.true_or, Bool.and_self, Bool.not_eq_true, BEq.rfl, beq_self_eq_true]
                  exact h9
                · have h9 := hnext r hr
                  rw [show (done ++ [v1]).length = done.length + 1 by simp] at h9
                  rcases hr with rfl | rfl
                  · simp only [S49_148, S49_149, S49_150, S49_151, S49_152, S49_153, S49_154, S49_155, S49_156, S49_157, S49_158, S49_159, S49_160, S49_161, S49_162, S49_163, S49_164, S49_165, S49_166, S49_167, S49_168, S49_169, S49_170, S49, ↓XX, ↓reduceIte, Nat.reduceBEq, decide_true, decide_false, Bool.not_true, Bool.not_false, List.map_cons, List.map_nil, List.length_map, List.length_cons, List.length_nil, Nat.reduceAdd, Int.cast_ofNat_Int, Int.natCast_zero, Int.natCast_one, Bool.false_eq_true, Bool.true_eq_false, decide_eq_true_eq, eq_self, Int.reduceEq, Int.reduceLT, Int.reduceLE, Bool.and_true, Bool.true_and, Bool.and_false, Bool.false_and, Nat.zero_add, hi, ↓ix_f (map_get hg) (agg3l _ _ _), ↓agg3, ↓iso_2 hb, hbp', hwi, ↓iso_m3 hc (onex3 _ _ _ _ _ _), ↓bs1_v, ↓app1_v hd9, ↓tok_k, ↓drop_e, XD, heldB, flatD, List.any_cons, List.any_nil, List.all_cons, List.all_nil, List.filter_cons, List.filter_nil, List.contains_cons, List.contains_nil, Bool.or_false, Bool.or_true, Bool.false_or, Bool.true_or, Bool.and_self, Bool.not_eq_true, BEq.rfl, beq_self_eq_true]
                    exact h9
                  · simp only [S49_148, S49_149, S49_150, S49_151, S49_152, S49_153, S49_154, S49_155, S49_156, S49_157, S49_158, S49_159, S49_160, S49_161, S49_162, S49_163, S49_164, S49_165, S49_166, S49_167, S49_168, S49_169, S49_170, S49, ↓XX, ↓reduceIte, Nat.reduceBEq, decide_true, decide_false, Bool.not_true, Bool.not_false, List.map_cons, List.map_nil, List.length_map, List.length_cons, List.length_nil, Nat.reduceAdd, Int.cast_ofNat_Int, Int.natCast_zero, Int.natCast_one, Bool.false_eq_true, Bool.true_eq_false, decide_eq_true_eq, eq_self, Int.reduceEq, Int.reduceLT, Int.reduceLE, Bool.and_true, Bool.true_and, Bool.and_false, Bool.false_and, Nat.zero_add, hi, ↓ix_f (map_get hg) (agg3l _ _ _), ↓agg3, ↓iso_2 hb, hbp', hwi, ↓iso_m3 hc (onex3 _ _ _ _ _ _), ↓bs1_v, ↓app1_v hd9, ↓tok_k, ↓drop_e, XD, heldB, flatD, List.any_cons, List.any_nil, List.all_cons, List.all_nil, List.filter_cons, List.filter_nil, List.contains_cons, List.contains_nil, Bool.or_false, Bool.or_true, Bool.false_or, Bool.true_or, Bool.and_self, Bool.not_eq_true, BEq.rfl, beq_self_eq_true]
                    exact h9
end Idl
end Go.Proofs.Ytbkdidonegggdaa
namespace Go.Proofs.Ytbkdidonegggdaa
namespace Idl
def RV.cl (v : RV) : List FV := [.int .i64 v.op, .int .i64 v.n, .sl (v.k.map RV.enc), .sl (v.env.map RV.enc), .int .i64 v.b.op, .int .i64 v.b.n, .sl (v.b.kids.map Tm.enc)]
section
variable {β : Type} (v : RV)
theorem nil_v (k : IV → Option β) : nilS (.fv v.enc) k = k (.fv v.enc) := by rw [renc_eq]; rfl
theorem fa_v (o : Nat) (k : IV → Option β) : faddrS o (.fv v.enc) k = k (.fv (.fp v.cl o)) := by rw [renc_eq, fa_f]; rfl
theorem nc0 (k : FV → Option β) : nthK v.cl 0 k = k (.int .i64 v.op) := rfl
theorem nc1 (k : FV → Option β) : nthK v.cl 1 k = k (.int .i64 v.n) := rfl
theorem nc2 (k : FV → Option β) : nthK v.cl 2 k = k (.sl (v.k.map RV.enc)) := rfl
theorem nc3 (k : FV → Option β) : nthK v.cl 3 k = k (.sl (v.env.map RV.enc)) := rfl
theorem dc4 (k : List FV → Option β) : drpK v.cl 4 k = k [.int .i64 v.b.op, .int .i64 v.b.n, .sl (v.b.kids.map Tm.enc)] := rfl
end
theorem ixv0 {β : Type} {l : List RV} {v : RV} (h : l[0]? = some v) (k : IV → Option β) : ixS 1 (.fv (.sl (l.map RV.enc))) (iv 0) k = k (.fv (.fp [v.enc] 0)) := ix_v (i := 0) h k
theorem ixv1 {β : Type} {l : List RV} {v : RV} (h : l[1]? = some v) (k : IV → Option β) : ixS 1 (.fv (.sl (l.map RV.enc))) (iv 1) k = k (.fv (.fp [v.enc] 0)) := ix_v (i := 1) h k
theorem ixv2 {β : Type} {l : List RV} {v : RV} (h : l[2]? = some v) (k : IV → Option β) : ixS 1 (.fv (.sl (l.map RV.enc))) (iv 2) k = k (.fv (.fp [v.enc] 0)) := ix_v (i := 2) h k
theorem ixv3 {β : Type} {l : List RV} {v : RV} (h : l[3]? = some v) (k : IV → Option β) : ixS 1 (.fv (.sl (l.map RV.enc))) (iv 3) k = k (.fv (.fp [v.enc] 0)) := ix_v (i := 3) h k
def XV := And.intro @nil_v <| And.intro @fa_v <| And.intro @nc0 <| And.intro @nc1 <| And.intro @nc2 <| And.intro @nc3 @dc4
set_option maxHeartbeats 1000000 in
set_option maxRecDepth 20000 in
theorem head_step {f : Nat} (he : EvalOk f) (hh : HeadOk f) : HeadOk (f + 1) := by
  intro s e v w s' e' nd hev n hn
  obtain ⟨n, rfl⟩ : ∃ k, n = k + 1 := ⟨n - 1, by omega⟩
  rw [c70]
  rw [headR] at hev
  by_cases h0 : e ≠ 0
  · rw [if_pos h0] at hev
    simp only [Option.some.injEq, Prod.mk.injEq] at hev
    obtain ⟨rfl, rfl, rfl⟩ := hev
    simp only [S70_629, S70_630, S70_631, S70_632, S70_633, S70_634, S70_635, S70_636, S70_637, S70_638, S70_639, S70_640, S70_641, S70_642, S70_643, S70_644, S70_645, S70_646, S70_647, S70_648, S70_649, S70_650, S70_651, S70_652, S70_653, S70_654, S70_655, S70_656, S70_657, S70_658, S70_659, S70_660, S70_661, S70_662, S70_663, S70_664, S70_665, S70_666, S70_667, S70_668, S70_669, S70_670, S70_671, S70_672, S70_673, S70_674, S70_675, S70_676, S70_677, S70_678, S70, ↓XX, ↓reduceIte, Nat.reduceBEq, decide_true, decide_false, Bool.not_true, Bool.not_false, List.map_cons, List.map_nil, List.length_map, List.length_cons, List.length_nil, Nat.reduceAdd, Int.cast_ofNat_Int, Int.natCast_zero, Int.natCast_one, Bool.false_eq_true, Bool.true_eq_false, decide_eq_true_eq, eq_self, Int.reduceEq, Int.reduceLT, Int.reduceLE, Bool.and_true, Bool.true_and, Bool.and_false, Bool.false_and, Nat.zero_add, h0]
    exact ansx_fv _ _ _
  · have h0' : e = 0 := by omega
    subst h0'
    rw [if_neg h0] at hev
    by_cases hs : s < 0 ∨ 1000000 < s
    · rw [if_pos hs] at hev; cases hev
    · rw [if_neg hs] at hev
      have hst := mstep_ok (n := n) (by omega) s nd (by omega) (by omega)
      have back : ∀ {x : RV} {a b : Int}, some (x, a, b) = some (w, s', e') → x = w ∧ a = s' ∧ b = e' := by
        intro x a b h
        simp only [Option.some.injEq, Prod.mk.injEq] at h
        exact h
      by_cases h5 : v.op = 5
      · rw [if_pos h5] at hev
        cases hk0 : v.k[0]? with
        | none => rw [hk0] at hev; cases hev
        | some k0 =>
          rw [hk0] at hev
          simp only at hev
          by_cases h4 : k0.op = 4
          · rw [if_pos h4] at hev
            by_cases hq : s + 1 ≤ 1000
            · rw [if_pos hq] at hev
              simp only [hq, decide_true, if_true] at hst
              cases hc : k0.k[1]? with
              | none => rw [hc] at hev; cases hev
              | some c =>
                cases hx : v.k[1]? with
                | none => rw [hc, hx] at hev; cases hev
                | some x =>
                  rw [hc, hx] at hev
                  simp only at hev
                  by_cases hl : 900000 < c.env.length
                  · rw [if_pos hl] at hev; cases hev
                  · rw [if_neg hl] at hev
                    have hcall := he (s + 1) 0 c.b (c.env ++ [x]) w s' e' nd hev n (by omega)
                    rw [tm_eta] at hcall
                    have hp := plus_ok (n := n) (by omega) c.env [x] (by simp) (by simp; omega)
                    simp only [List.map_cons, List.map_nil] at hp
                    simp only [S70_629, S70_630, S70_631, S70_632, S70_633, S70_634, S70_635, S70_636, S70_637, S70_638, S70_639, S70_640, S70_641, S70_642, S70_643, S70_644, S70_645, S70_646, S70_647, S70_648, S70_649, S70_650, S70_651, S70_652, S70_653, S70_654, S70_655, S70_656, S70_657, S70_658, S70_659, S70_660, S70_661, S70_662, S70_663, S70_664, S70_665, S70_666, S70_667, S70_668, S70_669, S70_670, S70_671, S70_672, S70_673, S70_674, S70_675, S70_676, S70_677, S70_678, S70, ↓XX, ↓reduceIte, Nat.reduceBEq, decide_true, decide_false, Bool.not_true, Bool.not_false, List.map_cons, List.map_nil, List.length_map, List.length_cons, List.length_nil, Nat.reduceAdd, Int.cast_ofNat_Int, Int.natCast_zero, Int.natCast_one, Bool.false_eq_true, Bool.true_eq_false, decide_eq_true_eq, eq_self, Int.reduceEq, Int.reduceLT, Int.reduceLE, Bool.and_true, Bool.true_and, Bool.and_false, Bool.false_and, Nat.zero_add, ↓XV, h5, ↓ixv0 hk0, h4, ↓iso_m1 hst (onex3 _ _ _ _ _ _), ↓ixv1 hc, ↓ixv1 hx, ↓bs1_v, ↓iso_2 hp, ↓iso_m3 hcall (onex3 _ _ _ _ _ _)]
                    exact ansx_fv _ _ _
            · rw [if_neg hq] at hev
              obtain ⟨rfl, rfl, rfl⟩ := back hev
              simp only [hq, decide_false, if_false] at hst
              simp only [S70_629, S70_630, S70_631, S70_632, S70_633, S70_634, S70_635, S70_636, S70_637, S70_638, S70_639, S70_640, S70_641, S70_642, S70_643, S70_644, S70_645, S70_646, S70_647, S70_648, S70_649, S70_650, S70_651, S70_652, S70_653, S70_654, S70_655, S70_656, S70_657, S70_658, S70_659, S70_660, S70_661, S70_662, S70_663, S70_664, S70_665, S70_666, S70_667, S70_668, S70_669, S70_670, S70_671, S70_672, S70_673, S70_674, S70_675, S70_676, S70_677, S70_678, S70, ↓XX, ↓reduceIte, Nat.reduceBEq, decide_true, decide_false, Bool.not_true, Bool.not_false, List.map_cons, List.map_nil, List.length_map, List.length_cons, List.length_nil, Nat.reduceAdd, Int.cast_ofNat_Int, Int.natCast_zero, Int.natCast_one, Bool.false_eq_true, Bool.true_eq_false, decide_eq_true_eq, eq_self, Int.reduceEq, Int.reduceLT, Int.reduceLE, Bool.and_true, Bool.true_and, Bool.and_false, Bool.false_and, Nat.zero_add, ↓XV, h5, ↓ixv0 hk0, h4, ↓iso_m1 hst (onex3 _ _ _ _ _ _)]
              exact ansx_fv _ _ _
          · rw [if_neg h4] at hev
            obtain ⟨rfl, rfl, rfl⟩ := back hev
            simp only [S70_629, S70_630, S70_631, S70_632, S70_633, S70_634, S70_635, S70_636, S70_637, S70_638, S70_639, S70_640, S70_641, S70_642, S70_643, S70_644, S70_645, S70_646, S70_647, S70_648, S70_649, S70_650, S70_651, S70_652, S70_653, S70_654, S70_655, S70_656, S70_657, S70_658, S70_659, S70_660, S70_661, S70_662, S70_663, S70_664, S70_665, S70_666, S70_667, S70_668, S70_669, S70_670, S70_671, S70_672, S70_673, S70_674, S70_675, S70_676, S70_677, S70_678, S70, ↓XX, ↓reduceIte, Nat.reduceBEq, decide_true, decide_false, Bool.not_true, Bool.not_false, List.map_cons, List.map_nil, List.length_map, List.length_cons, List.length_nil, Nat.reduceAdd, Int.cast_ofNat_Int, Int.natCast_zero, Int.natCast_one, Bool.false_eq_true, Bool.true_eq_false, decide_eq_true_eq, eq_self, Int.reduceEq, Int.reduceLT, Int.reduceLE, Bool.and_true, Bool.true_and, Bool.and_false, Bool.false_and, Nat.zero_add, ↓XV, h5, ↓ixv0 hk0, h4]
            exact ansx_fv _ _ _
      · rw [if_neg h5] at hev
        by_cases h89 : v.op = 8 ∨ v.op = 9
        · rw [if_pos h89] at hev
          cases hk0 : v.k[0]? with
          | none => rw [hk0] at hev; cases hev
          | some k0 =>
            rw [hk0] at hev
            simp only at hev
            by_cases h7 : k0.op = 7
            · rw [if_pos h7] at hev
              by_cases hq : s + 1 ≤ 1000
              · rw [if_pos hq] at hev
                simp only [hq, decide_true, if_true] at hst
                cases hx : k0.k[(1 + v.op - 8).toNat]? with
                | none => rw [hx] at hev; cases hev
                | some x =>
                  rw [hx] at hev
                  obtain ⟨rfl, rfl, rfl⟩ := back hev
                  rcases h89 with h8 | h9
                  · rw [h8] at hx
                    have hw1 : w64 (1 + 8) = 9 := by decide
                    have hw2 : w64 (9 - 8) = 1 := by decide
                    simp only [S70_629, S70_630, S70_631, S70_632, S70_633, S70_634, S70_635, S70_636, S70_637, S70_638, S70_639, S70_640, S70_641, S70_642, S70_643, S70_644, S70_645, S70_646, S70_647, S70_648, S70_649, S70_650, S70_651, S70_652, S70_653, S70_654, S70_655, S70_656, S70_657, S70_658, S70_659, S70_660, S70_661, S70_662, S70_663, S70_664, S70_665, S70_666, S70_667, S70_668, S70_669, S70_670, S70_671, S70_672, S70_673, S70_674, S70_675, S70_676, S70_677, S70_678, S70, ↓XX, ↓reduceIte, Nat.reduceBEq, decide_true, decide_false, Bool.not_true, Bool.not_false, List.map_cons, List.map_nil, List.length_map, List.length_cons, List.length_nil, Nat.reduceAdd, Int.cast_ofNat_Int, Int.natCast_zero, Int.natCast_one, Bool.false_eq_true, Bool.true_eq_false, decide_eq_true_eq, eq_self, Int.reduceEq, Int.reduceLT, Int.reduceLE, Bool.and_true, Bool.true_and, Bool.and_false, Bool.false_and, Nat.zero_add, ↓XV, h8, ↓ixv0 hk0, h7, ↓iso_m1 hst (onex3 _ _ _ _ _ _), hw1, hw2, ↓ixv1 (l := k0.k) (v := x) hx]
                    exact ansx_fv _ _ _
                  · rw [h9] at hx
                    have hw1 : w64 (1 + 9) = 10 := by decide
                    have hw2 : w64 (10 - 8) = 2 := by decide
                    simp only [S70_629, S70_630, S70_631, S70_632, S70_633, S70_634, S70_635, S70_636, S70_637, S70_638, S70_639, S70_640, S70_641, S70_642, S70_643, S70_644, S70_645, S70_646, S70_647, S70_648, S70_649, S70_650, S70_651, S70_652, S70_653, S70_654, S70_655, S70_656, S70_657, S70_658, S70_659, S70_660, S70_661, S70_662, S70_663, S70_664, S70_665, S70_666, S70_667, S70_668, S70_669, S70_670, S70_671, S70_672, S70_673, S70_674, S70_675, S70_676, S70_677, S70_678, S70, ↓XX, ↓reduceIte, Nat.reduceBEq, decide_true, decide_false, Bool.not_true, Bool.not_false, List.map_cons, List.map_nil, List.length_map, List.length_cons, List.length_nil, Nat.reduceAdd, Int.cast_ofNat_Int, Int.natCast_zero, Int.natCast_one, Bool.false_eq_true, Bool.true_eq_false, decide_eq_true_eq, eq_self, Int.reduceEq, Int.reduceLT, Int.reduceLE, Bool.and_true, Bool.true_and, Bool.and_false, Bool.false_and, Nat.zero_add, ↓XV, h9, ↓ixv0 hk0, h7, ↓iso_m1 hst (onex3 _ _ _ _ _ _), hw1, hw2, ↓ixv2 (l := k0.k) (v := x) hx]
                    exact ansx_fv _ _ _
              · rw [if_neg hq] at hev
                obtain ⟨rfl, rfl, rfl⟩ := back hev
                simp only [hq, decide_false, if_false] at hst
                rcases h89 with h8 | h9
                · simp only [S70_629, S70_630, S70_631, S70_632, S70_633, S70_634, S70_635, S70_636, S70_637, S70_638, S70_639, S70_640, S70_641, S70_642, S70_643, S70_644, S70_645, S70_646, S70_647, S70_648, S70_649, S70_650, S70_651, S70_652, S70_653, S70_654, S70_655, S70_656, S70_657, S70_658, S70_659, S70_660, S70_661, S70_662, S70_663, S70_664, S70_665, S70_666, S70_667, S70_668, S70_669, S70_670, S70_671, S70_672, S70_673, S70_674, S70_675, S70_676, S70_677, S70_678, S70, ↓XX, ↓reduceIte, Nat.reduceBEq, decide_true, decide_false, Bool.not_true, Bool.not_false, List.map_cons, List.map_nil, List.length_map, List.length_cons, List.length_nil, Nat.reduceAdd, Int.cast_ofNat_Int, Int.natCast_zero, Int.natCast_one, Bool.false_eq_true, Bool.true_eq_false, decide_eq_true_eq, eq_self, Int.reduceEq, Int.reduceLT, Int.reduceLE, Bool.and_true, Bool.true_and, Bool.and_false, Bool.false_and, Nat.zero_add, ↓XV, h8, ↓ixv0 hk0, h7, ↓iso_m1 hst (onex3 _ _ _ _ _ _)]
                  exact ansx_fv _ _ _
                · simp only [S70_629, S70_630, S70_631, S70_632, S70_633, S70_634, S70_635, S70_636, S70_637, S70_638, S70_639, S70_640, S70_641, S70_642, S70_643, S70_644, S70_645, S70_646, S70_647, S70_648, S70_649, S70_650, S70_651, S70_652, S70_653, S70_654, S70_655, S70_656, S70_657, S70_658, S70_659, S70_660, S70_661, S70_662, S70_663, S70_664, S70_665, S70_666, S70_667, S70_668, S70_669, S70_670, S70_671, S70_672, S70_673, S70_674, S70_675, S70_676, S70_677, S70_678, S70, ↓XX, ↓reduceIte, Nat.reduceBEq, decide_true, decide_false, Bool.not_true, Bool.not_false, List.map_cons, List.map_nil, List.length_map, List.length_cons, List.length_nil, Nat.reduceAdd, Int.cast_ofNat_Int, Int.natCast_zero, Int.natCast_one, Bool.false_eq_true, Bool.true_eq_false, decide_eq_true_eq, eq_self, Int.reduceEq, Int.reduceLT, Int.reduceLE, Bool.and_true, Bool.true_and, Bool.and_false, Bool.false_and, Nat.zero_add, ↓XV, h9, ↓ixv0 hk0, h7, ↓iso_m1 hst (onex3 _ _ _ _ _ _)]
                  exact ansx_fv _ _ _
            · rw [if_neg h7] at hev
              obtain ⟨rfl, rfl, rfl⟩ := back hev
              rcases h89 with h8 | h9
              · simp only [S70_629, S70_630, S70_631, S70_632, S70_633, S70_634, S70_635, S70_636, S70_637, S70_638, S70_639, S70_640, S70_641, S70_642, S70_643, S70_644, S70_645, S70_646, S70_647, S70_648, S70_649, S70_650, S70_651, S70_652, S70_653, S70_654, S70_655, S70_656, S70_657, S70_658, S70_659, S70_660, S70_661, S70_662, S70_663, S70_664, S70_665, S70_666, S70_667, S70_668, S70_669, S70_670, S70_671, S70_672, S70_673, S70_674, S70_675, S70_676, S70_677, S70_678, S70, ↓XX, ↓reduceIte, Nat.reduceBEq, decide_true, decide_false, Bool.not_true, Bool.not_false, List.map_cons, List.map_nil, List.length_map, List.length_cons, List.length_nil, Nat.reduceAdd, Int.cast_ofNat_Int, Int.natCast_zero, Int.natCast_one, Bool.false_eq_true, Bool.true_eq_false, decide_eq_true_eq, eq_self, Int.reduceEq, Int.reduceLT, Int.reduceLE, Bool.and_true, Bool.true_and, Bool.and_false, Bool.false_and, Nat.zero_add, ↓XV, h8, ↓ixv0 hk0, h7]
                exact ansx_fv _ _ _
              · simp only [S70_629, S70_630, S70_631, S70_632, S70_633, S70_634, S70_635, S70_636, S70_637, S70_638, S70_639, S70_640, S70_641, S70_642, S70_643, S70_644, S70_645, S70_646, S70_647, S70_648, S70_649, S70_650, S70_651, S70_652, S70_653, S70_654, S70_655, S70_656, S70_657, S70_658, S70_659, S70_660, S70_661, S70_662, S70_663, S70_664, S70_665, S70_666, S70_667, S70_668, S70_669, S70_670, S70_671, S70_672, S70_673, S70_674, S70_675, S70_676, S70_677, S70_678, S70, ↓XX, ↓reduceIte, Nat.reduceBEq, decide_true, decide_false, Bool.not_true, Bool.not_false, List.map_cons, List.map_nil, List.length_map, List.length_cons, List.length_nil, Nat.reduceAdd, Int.cast_ofNat_Int, Int.natCast_zero, Int.natCast_one, Bool.false_eq_true, Bool.true_eq_false, decide_eq_true_eq, eq_self, Int.reduceEq, Int.reduceLT, Int.reduceLE, Bool.and_true, Bool.true_and, Bool.and_false, Bool.false_and, Nat.zero_add, ↓XV, h9, ↓ixv0 hk0, h7]
                exact ansx_fv _ _ _
        · rw [if_neg h89] at hev
          have h8 : ¬ v.op = 8 := fun e => h89 (.inl e)
          have h9 : ¬ v.op = 9 := fun e => h89 (.inr e)
          by_cases h30 : v.op = 30
          · rw [if_pos h30] at hev
            cases hk0 : v.k[0]? with
            | none => rw [hk0] at hev; cases hev
            | some k0 =>
              rw [hk0] at hev
              simp only at hev
              by_cases h7 : k0.op = 19
              · rw [if_pos h7] at hev
                by_cases hq : s + 1 ≤ 1000
                · rw [if_pos hq] at hev
                  simp only [hq, decide_true, if_true] at hst
                  cases hx : k0.k[0]? with
                  | none => rw [hx] at hev; cases hev
                  | some x =>
                    rw [hx] at hev
                    obtain ⟨rfl, rfl, rfl⟩ := back hev
                    simp only [S70_629, S70_630, S70_631, S70_632, S70_633, S70_634, S70_635, S70_636, S70_637, S70_638, S70_639, S70_640, S70_641, S70_642, S70_643, S70_644, S70_645, S70_646, S70_647, S70_648, S70_649, S70_650, S70_651, S70_652, S70_653, S70_654, S70_655, S70_656, S70_657, S70_658, S70_659, S70_660, S70_661, S70_662, S70_663, S70_664, S70_665, S70_666, S70_667, S70_668, S70_669, S70_670, S70_671, S70_672, S70_673, S70_674, S70_675, S70_676, S70_677, S70_678, S70, ↓XX, ↓reduceIte, Nat.reduceBEq, decide_true, decide_false, Bool.not_true, Bool.not_false, List.map_cons, List.map_nil, List.length_map, List.length_cons, List.length_nil, Nat.reduceAdd, Int.cast_ofNat_Int, Int.natCast_zero, Int.natCast_one, Bool.false_eq_true, Bool.true_eq_false, decide_eq_true_eq, eq_self, Int.reduceEq, Int.reduceLT, Int.reduceLE, Bool.and_true, Bool.true_and, Bool.and_false, Bool.false_and, Nat.zero_add, ↓XV, h30, ↓ixv0 hk0, h7, ↓iso_m1 hst (onex3 _ _ _ _ _ _), ↓ixv0 hx]
                    exact ansx_fv _ _ _
                · rw [if_neg hq] at hev
                  obtain ⟨rfl, rfl, rfl⟩ := back hev
                  simp only [hq, decide_false, if_false] at hst
                  simp only [S70_629, S70_630, S70_631, S70_632, S70_633, S70_634, S70_635, S70_636, S70_637, S70_638, S70_639, S70_640, S70_641, S70_642, S70_643, S70_644, S70_645, S70_646, S70_647, S70_648, S70_649, S70_650, S70_651, S70_652, S70_653, S70_654, S70_655, S70_656, S70_657, S70_658, S70_659, S70_660, S70_661, S70_662, S70_663, S70_664, S70_665, S70_666, S70_667, S70_668, S70_669, S70_670, S70_671, S70_672, S70_673, S70_674, S70_675, S70_676, S70_677, S70_678, S70, ↓XX, ↓reduceIte, Nat.reduceBEq, decide_true, decide_false, Bool.not_true, Bool.not_false, List.map_cons, List.map_nil, List.length_map, List.length_cons, List.length_nil, Nat.reduceAdd, Int.cast_ofNat_Int, Int.natCast_zero, Int.natCast_one, Bool.false_eq_true, Bool.true_eq_false, decide_eq_true_eq, eq_self, Int.reduceEq, Int.reduceLT, Int.reduceLE, Bool.and_true, Bool.true_and, Bool.and_false, Bool.false_and, Nat.zero_add, ↓XV, h30, ↓ixv0 hk0, h7, ↓iso_m1 hst (onex3 _ _ _ _ _ _)]
                  exact ansx_fv _ _ _
              · rw [if_neg h7] at hev
                obtain ⟨rfl, rfl, rfl⟩ := back hev
                simp only [S70_629, S70_630, S70_631, S70_632, S70_633, S70_634, S70_635, S70_636, S70_637, S70_638, S70_639, S70_640, S70_641, S70_642, S70_643, S70_644, S70_645, S70_646, S70_647, S70_648, S70_649, S70_650, S70_651, S70_652, S70_653, S70_654, S70_655, S70_656, S70_657, S70_658, S70_659, S70_660, S70_661, S70_662, S70_663, S70_664, S70_665, S70_666, S70_667, S70_668, S70_669, S70_670, S70_671, S70_672, S70_673, S70_674, S70_675, S70_676, S70_677, S70_678, S70, ↓XX, ↓reduceIte, Nat.reduceBEq, decide_true, decide_false, Bool.not_true, Bool.not_false, List.map_cons, List.map_nil, List.length_map, List.length_cons, List.length_nil, Nat.reduceAdd, Int.cast_ofNat_Int, Int.natCast_zero, Int.natCast_one, Bool.false_eq_true, Bool.true_eq_false, decide_eq_true_eq, eq_self, Int.reduceEq, Int.reduceLT, Int.reduceLE, Bool.and_true, Bool.true_and, Bool.and_false, Bool.false_and, Nat.zero_add, ↓XV, h30, ↓ixv0 hk0, h7]
                exact ansx_fv _ _ _
          · rw [if_neg h30] at hev
            by_cases h19 : v.op = 19
            · rw [if_pos h19] at hev
              cases hk0 : v.k[0]? with
              | none => rw [hk0] at hev; cases hev
              | some k0 =>
                rw [hk0] at hev
                simp only at hev
                by_cases h7 : k0.op = 30
                · rw [if_pos h7] at hev
                  by_cases hq : s + 1 ≤ 1000
                  · rw [if_pos hq] at hev
                    simp only [hq, decide_true, if_true] at hst
                    cases hx : k0.k[0]? with
                    | none => rw [hx] at hev; cases hev
                    | some x =>
                      rw [hx] at hev
                      obtain ⟨rfl, rfl, rfl⟩ := back hev
                      simp only [S70_629, S70_630, S70_631, S70_632, S70_633, S70_634, S70_635, S70_636, S70_637, S70_638, S70_639, S70_640, S70_641, S70_642, S70_643, S70_644, S70_645, S70_646, S70_647, S70_648, S70_649, S70_650, S70_651, S70_652, S70_653, S70_654, S70_655, S70_656, S70_657, S70_658, S70_659, S70_660, S70_661, S70_662, S70_663, S70_664, S70_665, S70_666, S70_667, S70_668, S70_669, S70_670, S70_671, S70_672, S70_673, S70_674, S70_675, S70_676, S70_677, S70_678, S70, ↓XX, ↓reduceIte, Nat.reduceBEq, decide_true, decide_false, Bool.not_true, Bool.not_false, List.map_cons, List.map_nil, List.length_map, List.length_cons, List.length_nil, Nat.reduceAdd, Int.cast_ofNat_Int, Int.natCast_zero, Int.natCast_one, Bool.false_eq_true, Bool.true_eq_false, decide_eq_true_eq, eq_self, Int.reduceEq, Int.reduceLT, Int.reduceLE, Bool.and_true, Bool.true_and, Bool.and_false, Bool.false_and, Nat.zero_add, ↓XV, h19, ↓ixv0 hk0, h7, ↓iso_m1 hst (onex3 _ _ _ _ _ _), ↓ixv0 hx]
                      exact ansx_fv _ _ _
                  · rw [if_neg hq] at hev
                    obtain ⟨rfl, rfl, rfl⟩ := back hev
                    simp only [hq, decide_false, if_false] at hst
                    simp only [S70_629, S70_630, S70_631, S70_632, S70_633, S70_634, S70_635, S70_636, S70_637, S70_638, S70_639, S70_640, S70_641, S70_642, S70_643, S70_644, S70_645, S70_646, S70_647, S70_648, S70_649, S70_650, S70_651, S70_652, S70_653, S70_654, S70_655, S70_656, S70_657, S70_658, S70_659, S70_660, S70_661, S70_662, S70_663, S70_664, S70_665, S70_666, S70_667, S70_668, S70_669, S70_670, S70_671, S70_672, S70_673, S70_674, S70_675, S70_676, S70_677, S70_678, S70, ↓XX, ↓reduceIte, Nat.reduceBEq, decide_true, decide_false, Bool.not_true, Bool.not_false, List.map_cons, List.map_nil, List.length_map, List.length_cons, List.length_nil, Nat.reduceAdd, Int.cast_ofNat_Int, Int.natCast_zero, Int.natCast_one, Bool.false_eq_true, Bool.true_eq_false, decide_eq_true_eq, eq_self, Int.reduceEq, Int.reduceLT, Int.reduceLE, Bool.and_true, Bool.true_and, Bool.and_false, Bool.false_and, Nat.zero_add, ↓XV, h19, ↓ixv0 hk0, h7, ↓iso_m1 hst (onex3 _ _ _ _ _ _)]
                    exact ansx_fv _ _ _
                · rw [if_neg h7] at hev
                  obtain ⟨rfl, rfl, rfl⟩ := back hev
                  simp only [S70_629, S70_630, S70_631, S70_632, S70_633, S70_634, S70_635, S70_636, S70_637, S70_638, S70_639, S70_640, S70_641, S70_642, S70_643, S70_644, S70_645, S70_646, S70_647, S70_648, S70_649, S70_650, S70_651, S70_652, S70_653, S70_654, S70_655, S70_656, S70_657, S70_658, S70_659, S70_660, S70_661, S70_662, S70_663, S70_664, S70_665, S70_666, S70_667, S70_668, S70_669, S70_670, S70_671, S70_672, S70_673, S70_674, S70_675, S70_676, S70_677, S70_678, S70, ↓XX, ↓reduceIte, Nat.reduceBEq, decide_true, decide_false, Bool.not_true, Bool.not_false, List.map_cons, List.map_nil, List.length_map, List.length_cons, List.length_nil, Nat.reduceAdd, Int.cast_ofNat_Int, Int.natCast_zero, Int.natCast_one, Bool.false_eq_true, Bool.true_eq_false, decide_eq_true_eq, eq_self, Int.reduceEq, Int.reduceLT, Int.reduceLE, Bool.and_true, Bool.true_and, Bool.and_false, Bool.false_and, Nat.zero_add, ↓XV, h19, ↓ixv0 hk0, h7]
                  exact ansx_fv _ _ _
            · rw [if_neg h19] at hev
              by_cases h13 : v.op = 13
              · rw [if_pos h13] at hev
                cases hk0 : v.k[0]? with
                | none => rw [hk0] at hev; cases hev
                | some k0 =>
                cases hk1 : v.k[1]? with
                | none => rw [hk0, hk1] at hev; cases hev
                | some k1 =>
                cases hk2 : v.k[2]? with
                | none => rw [hk0, hk1, hk2] at hev; cases hev
                | some k2 =>
                cases hk3 : v.k[3]? with
                | none => rw [hk0, hk1, hk2, hk3] at hev; cases hev
                | some k3 =>
                rw [hk0, hk1, hk2, hk3] at hev
                simp only at hev
                by_cases h11 : k3.op = 11
                · rw [if_pos h11] at hev
                  by_cases hq : s + 1 ≤ 1000
                  · rw [if_pos hq] at hev
                    obtain ⟨rfl, rfl, rfl⟩ := back hev
                    simp only [hq, decide_true, if_true] at hst
                    simp only [S70_629, S70_630, S70_631, S70_632, S70_633, S70_634, S70_635, S70_636, S70_637, S70_638, S70_639, S70_640, S70_641, S70_642, S70_643, S70_644, S70_645, S70_646, S70_647, S70_648, S70_649, S70_650, S70_651, S70_652, S70_653, S70_654, S70_655, S70_656, S70_657, S70_658, S70_659, S70_660, S70_661, S70_662, S70_663, S70_664, S70_665, S70_666, S70_667, S70_668, S70_669, S70_670, S70_671, S70_672, S70_673, S70_674, S70_675, S70_676, S70_677, S70_678, S70, ↓XX, ↓reduceIte, Nat.reduceBEq, decide_true, decide_false, Bool.not_true, Bool.not_false, List.map_cons, List.map_nil, List.length_map, List.length_cons, List.length_nil, Nat.reduceAdd, Int.cast_ofNat_Int, Int.natCast_zero, Int.natCast_one, Bool.false_eq_true, Bool.true_eq_false, decide_eq_true_eq, eq_self, Int.reduceEq, Int.reduceLT, Int.reduceLE, Bool.and_true, Bool.true_and, Bool.and_false, Bool.false_and, Nat.zero_add, ↓XV, h13, ↓ixv3 hk3, h11, ↓iso_m1 hst (onex3 _ _ _ _ _ _), ↓ixv1 hk1]
                    exact ansx_fv _ _ _
                  · rw [if_neg hq] at hev
                    obtain ⟨rfl, rfl, rfl⟩ := back hev
                    simp only [hq, decide_false, if_false] at hst
                    simp only [S70_629, S70_630, S70_631, S70_632, S70_633, S70_634, S70_635, S70_636, S70_637, S70_638, S70_639, S70_640, S70_641, S70_642, S70_643, S70_644, S70_645, S70_646, S70_647, S70_648, S70_649, S70_650, S70_651, S70_652, S70_653, S70_654, S70_655, S70_656, S70_657, S70_658, S70_659, S70_660, S70_661, S70_662, S70_663, S70_664, S70_665, S70_666, S70_667, S70_668, S70_669, S70_670, S70_671, S70_672, S70_673, S70_674, S70_675, S70_676, S70_677, S70_678, S70, ↓XX, ↓reduceIte, Nat.reduceBEq, decide_true, decide_false, Bool.not_true, Bool.not_false, List.map_cons, List.map_nil, List.length_map, List.length_cons, List.length_nil, Nat.reduceAdd, Int.cast_ofNat_Int, Int.natCast_zero, Int.natCast_one, Bool.false_eq_true, Bool.true_eq_false, decide_eq_true_eq, eq_self, Int.reduceEq, Int.reduceLT, Int.reduceLE, Bool.and_true, Bool.true_and, Bool.and_false, Bool.false_and, Nat.zero_add, ↓XV, h13, ↓ixv3 hk3, h11, ↓iso_m1 hst (onex3 _ _ _ _ _ _)]
                    exact ansx_fv _ _ _
                · rw [if_neg h11] at hev
                  by_cases h12 : k3.op = 12
                  · rw [if_pos h12] at hev
                    by_cases hq : s + 1 ≤ 1000
                    · rw [if_pos hq] at hev
                      simp only [hq, decide_true, if_true] at hst
                      cases hx : k3.k[0]? with
                      | none => rw [hx] at hev; cases hev
                      | some x =>
                      rw [hx] at hev
                      simp only at hev
                      cases hd : headR f (s + 1) 0 (.node 13 0 [k0, k1, k2, x]) with
                      | none => rw [hd] at hev; cases hev
                      | some q =>
                      obtain ⟨h, s2, e2⟩ := q
                      rw [hd] at hev
                      simp only at hev
                      by_cases hl : 900000 < k2.env.length
                      · rw [if_pos hl] at hev; cases hev
                      · rw [if_neg hl] at hev
                        have hcall := he s2 e2 k2.b (k2.env ++ [x, h]) w s' e' nd hev n (by omega)
                        rw [tm_eta] at hcall
                        have hcall2 := hh (s + 1) 0 _ h s2 e2 nd hd n (by omega)
                        rw [rfl2] at hcall2
                        simp only [List.map_cons, List.map_nil] at hcall2
                        have hp := plus_ok (n := n) (by omega) k2.env [x, h] (by simp) (by simp; omega)
                        simp only [List.map_cons, List.map_nil] at hp
                        have hcall3 := fun k => iso_m2p (k := k) (own := [(73420822, .row [iv 13, iv 0, .clip [k0.enc, k1.enc, k2.enc, x.enc], .nils, iv 0, iv 0, .nils] false)])
                          (cells := [iv 13, iv 0, .clip [k0.enc, k1.enc, k2.enc, x.enc], .nils, iv 0, iv 0, .nils]) (ro := false) (s := 73420822) hcall2 (onex3 ..) (by simp [lookupOwn]) rfl (by simp)
                        simp only [S70_629, S70_630, S70_631, S70_632, S70_633, S70_634, S70_635, S70_636, S70_637, S70_638, S70_639, S70_640, S70_641, S70_642, S70_643, S70_644, S70_645, S70_646, S70_647, S70_648, S70_649, S70_650, S70_651, S70_652, S70_653, S70_654, S70_655, S70_656, S70_657, S70_658, S70_659, S70_660, S70_661, S70_662, S70_663, S70_664, S70_665, S70_666, S70_667, S70_668, S70_669, S70_670, S70_671, S70_672, S70_673, S70_674, S70_675, S70_676, S70_677, S70_678, S70, ↓XX, ↓reduceIte, Nat.reduceBEq, decide_true, decide_false, Bool.not_true, Bool.not_false, List.map_cons, List.map_nil, List.length_map, List.length_cons, List.length_nil, Nat.reduceAdd, Int.cast_ofNat_Int, Int.natCast_zero, Int.natCast_one, Bool.false_eq_true, Bool.true_eq_false, decide_eq_true_eq, eq_self, Int.reduceEq, Int.reduceLT, Int.reduceLE, Bool.and_true, Bool.true_and, Bool.and_false, Bool.false_and, Nat.zero_add, ↓XV, h13, ↓ixv3 hk3, h11, h12, ↓iso_m1 hst (onex3 _ _ _ _ _ _), ↓ixv0 hx, ↓ixv0 hk0, ↓ixv1 hk1, ↓ixv2 hk2, ↓bs4_v, ↓hcall3, ↓bs2_v, ↓iso_2 hp, ↓iso_m3 hcall (onex3 _ _ _ _ _ _)]
                        exact ansx_fv _ _ _
                    · rw [if_neg hq] at hev
                      obtain ⟨rfl, rfl, rfl⟩ := back hev
                      simp only [hq, decide_false, if_false] at hst
                      simp only [S70_629, S70_630, S70_631, S70_632, S70_633, S70_634, S70_635, S70_636, S70_637, S70_638, S70_639, S70_640, S70_641, S70_642, S70_643, S70_644, S70_645, S70_646, S70_647, S70_648, S70_649, S70_650, S70_651, S70_652, S70_653, S70_654, S70_655, S70_656, S70_657, S70_658, S70_659, S70_660, S70_661, S70_662, S70_663, S70_664, S70_665, S70_666, S70_667, S70_668, S70_669, S70_670, S70_671, S70_672, S70_673, S70_674, S70_675, S70_676, S70_677, S70_678, S70, ↓XX, ↓reduceIte, Nat.reduceBEq, decide_true, decide_false, Bool.not_true, Bool.not_false, List.map_cons, List.map_nil, List.length_map, List.length_cons, List.length_nil, Nat.reduceAdd, Int.cast_ofNat_Int, Int.natCast_zero, Int.natCast_one, Bool.false_eq_true, Bool.true_eq_false, decide_eq_true_eq, eq_self, Int.reduceEq, Int.reduceLT, Int.reduceLE, Bool.and_true, Bool.true_and, Bool.and_false, Bool.false_and, Nat.zero_add, ↓XV, h13, ↓ixv3 hk3, h11, h12, ↓iso_m1 hst (onex3 _ _ _ _ _ _)]
                      exact ansx_fv _ _ _
                  · rw [if_neg h12] at hev
                    obtain ⟨rfl, rfl, rfl⟩ := back hev
                    simp only [S70_629, S70_630, S70_631, S70_632, S70_633, S70_634, S70_635, S70_636, S70_637, S70_638, S70_639, S70_640, S70_641, S70_642, S70_643, S70_644, S70_645, S70_646, S70_647, S70_648, S70_649, S70_650, S70_651, S70_652, S70_653, S70_654, S70_655, S70_656, S70_657, S70_658, S70_659, S70_660, S70_661, S70_662, S70_663, S70_664, S70_665, S70_666, S70_667, S70_668, S70_669, S70_670, S70_671, S70_672, S70_673, S70_674, S70_675, S70_676, S70_677, S70_678, S70, ↓XX, ↓reduceIte, Nat.reduceBEq, decide_true, decide_false, Bool.not_true, Bool.not_false, List.map_cons, List.map_nil, List.length_map, List.length_cons, List.length_nil, Nat.reduceAdd, Int.cast_ofNat_Int, Int.natCast_zero, Int.natCast_one, Bool.false_eq_true, Bool.true_eq_false, decide_eq_true_eq, eq_self, Int.reduceEq, Int.reduceLT, Int.reduceLE, Bool.and_true, Bool.true_and, Bool.and_false, Bool.false_and, Nat.zero_add, ↓XV, h13, ↓ixv3 hk3, h11, h12]
                    exact ansx_fv _ _ _
              · rw [if_neg h13] at hev
                obtain ⟨rfl, rfl, rfl⟩ := back hev
                simp only [S70_629, S70_630, S70_631, S70_632, S70_633, S70_634, S70_635, S70_636, S70_637, S70_638, S70_639, S70_640, S70_641, S70_642, S70_643, S70_644, S70_645, S70_646, S70_647, S70_648, S70_649, S70_650, S70_651, S70_652, S70_653, S70_654, S70_655, S70_656, S70_657, S70_658, S70_659, S70_660, S70_661, S70_662, S70_663, S70_664, S70_665, S70_666, S70_667, S70_668, S70_669, S70_670, S70_671, S70_672, S70_673, S70_674, S70_675, S70_676, S70_677, S70_678, S70, ↓XX, ↓reduceIte, Nat.reduceBEq, decide_true, decide_false, Bool.not_true, Bool.not_false, List.map_cons, List.map_nil, List.length_map, List.length_cons, List.length_nil, Nat.reduceAdd, Int.cast_ofNat_Int, Int.natCast_zero, Int.natCast_one, Bool.false_eq_true, Bool.true_eq_false, decide_eq_true_eq, eq_self, Int.reduceEq, Int.reduceLT, Int.reduceLE, Bool.and_true, Bool.true_and, Bool.and_false, Bool.false_and, Nat.zero_add, ↓XV, h5, h8, h9, h30, h19, h13]
                exact ansx_fv _ _ _
/-- The machine reckons. -/
theorem mach_ok : ∀ f, EvalOk f ∧ HeadOk f := by
  intro f
  induction f with
  | zero => exact ⟨(by intro s e t env v s' e' nd h; rw [evalR] at h; cases h), (by intro s e v w s' e' nd h; rw [headR] at h; cases h)⟩
  | succ f ih => exact ⟨eval_step ih.1 ih.2, head_step ih.1 ih.2⟩
end Idl
end Go.Proofs.Ytbkdidonegggdaa
namespace Go.Proofs.Ytbkdidonegggdaa
namespace Idl
def upV (u : Int) (b : Nat) : List RV := (List.range b).map fun (j : Nat) => RV.var (u + (j : Int))
theorem upV_succ (u : Int) (b : Nat) : upV u (b + 1) = upV u b ++ [RV.var (u + b)] := by simp [upV, List.range_succ]
theorem upV_len (u : Int) (b : Nat) : (upV u b).length = b := by simp [upV]
def readK (rd : Int → Int → Int → RV → Int → Option (Tm × Int × Int × Int)) (f : Nat) (op u : Int) : Nat → List RV → Int → Int → Int → Option (List Tm × Int × Int × Int)
  | _, [], s, nd, e => some ([], s, nd, e)
  | i, k :: l, s, nd, e =>
    match (if 0 < bindN op i then (if 900000 < k.env.length then none else evalR f s e k.b (k.env ++ upV u (bindN op i))) else some (k, s, e)) with
    | none => none
    | some (k', s1, e1) => match rd s1 nd e1 k' (u + bindN op i) with
      | none => none
      | some (t, s2, nd2, e2) => (readK rd f op u (i + 1) l s2 nd2 e2).map fun (ts, s, nd, e) => (t :: ts, s, nd, e)
def readR : Nat → Int → Int → Int → RV → Int → Int → Option (Tm × Int × Int × Int)
  | 0, _, _, _, _, _, _ => none
  | f + 1, s, nd, e, v, u, d =>
    if nd < 0 ∨ 1000000 < nd ∨ u < 0 ∨ 1000000 < u ∨ d < 0 ∨ 1000000 < d ∨ v.n < -2305843009213693952 ∨ 2305843009213693952 < v.n ∨ f ≤ v.k.length ∨ 900000 < v.k.length ∨ f ≤ 3 then none else
    if (if e = 0 ∧ (3000 < nd + 1 ∨ 120 < d) then 5 else e) ≠ 0 then some (.z, s, nd + 1, (if e = 0 ∧ (3000 < nd + 1 ∨ 120 < d) then 5 else e))
    else if v.op = 1 then some (.mk 1 (u - 1 - v.n) [], s, nd + 1, 0)
    else (readK (fun s nd e k u => readR f s nd e k u (d + 1)) f v.op u 0 v.k s (nd + 1) 0).map fun (ts, s, nd, e) => (.mk v.op v.n ts, s, nd, e)
def ReadOk (f : Nat) : Prop := ∀ (s nd e : Int) (v : RV) (u d : Int) (t : Tm) (s' nd' e' : Int), readR f s nd e v u d = some (t, s', nd', e') → ∀ n, f + 1 ≤ n →
  AnsX (SS dt n 48 [.ptr (.ext 0) 0, .fv v.enc, iv u, iv d] ⟨[], [.row [iv s, iv nd, iv e] false]⟩) t.enc [.row [iv s', iv nd', iv e'] false]
noncomputable abbrev Hread (op m : Int) (K : IV) (tok : List (Nat × Blk)) (s nd e : Int) : Hp :=
  ⟨(50331648, .row [iv 0, iv 0, .nils] false) :: (50339849, .row [iv op, iv m, K] false) :: tok, [.row [iv s, iv nd, iv e] false]⟩
/-- A composite that is frozen at once. -/
theorem fzs_agg {cells : List IV} {fc : List FV} (hz : frz1L cells = some fc) (hn : cells.length ≤ 100) (s : Nat) (h : Hp) (k : IV → Hp → List Ref → List Ref → Option (IV × Hp)) : fzS (pcBox true s (.agg cells)) s (.agg cells) h k = k (.fv (.fp fc 0)) h [] [] := by
  have : pcBox true s (.agg cells) = .ret { eff := { val := .fv (.fp fc 0), upd := [] } } := by
    simp only [pcBox, IV.alive, Bool.true_eq_false, if_false, if_true, IV.cells, fr1_l cells 4096 (by omega) hz, Rd.bind]
  unfold fzS
  rw [this, as_nf1]
  exact gen_val _ s h k
theorem var_enc (n : Int) : (RV.var n).enc = .fp [.int .i64 1, .int .i64 n, .sl [], .sl [], .int .i64 0, .int .i64 0, .sl []] 0 := by rw [RV.var, Tm.z, renc_mk]; rfl
set_option maxRecDepth 20000 in
set_option maxHeartbeats 1000000 in
theorem read_step {f : Nat} (hr : ReadOk f) : ReadOk (f + 1) := by
  intro s nd e v u d t s' nd' e' hev n hn
  obtain ⟨n, rfl⟩ : ∃ k, n = k + 1 := ⟨n - 1, by omega⟩
  rw [c48]
  rw [readR] at hev
  by_cases hbad : nd < 0 ∨ 1000000 < nd ∨ u < 0 ∨ 1000000 < u ∨ d < 0 ∨ 1000000 < d ∨ v.n < -2305843009213693952 ∨ 2305843009213693952 < v.n ∨ f ≤ v.k.length ∨ 900000 < v.k.length ∨ f ≤ 3
  · rw [if_pos hbad] at hev; cases hev
  · rw [if_neg hbad] at hev
    have wnd : w64 (nd + 1) = nd + 1 := by rw [w64_id] <;> omega
    have wd : w64 (d + 1) = d + 1 := by rw [w64_id] <;> omega
    have wu : w64 (u - 1) = u - 1 := by rw [w64_id] <;> omega
    have wv : w64 (u - 1 - v.n) = u - 1 - v.n := by rw [w64_id] <;> omega
    by_cases he : e = 0
    · subst he
      by_cases h3 : 3000 < nd + 1
      · have e5 : (if (0 : Int) = 0 ∧ (3000 < nd + 1 ∨ 120 < d) then (5 : Int) else 0) = 5 := if_pos ⟨rfl, .inl h3⟩
        rw [e5, if_pos (by decide)] at hev
        simp only [Option.some.injEq, Prod.mk.injEq] at hev
        obtain ⟨rfl, rfl, rfl, rfl⟩ := hev
        simp only [S48_264, S48_265, S48_266, S48_267, S48_268, S48_269, S48_270, S48_271, S48_272, S48_273, S48_274, S48_275, S48_277, S48_278, S48_279, S48_280, S48_281, S48_282, S48_283, S48_285, S48_286, S48_287, S48_288, S48_289, S48_290, S48_291, S48_292, S48_293, S48_294, S48, ↓XX, ↓reduceIte, Nat.reduceBEq, decide_true, decide_false, Bool.not_true, Bool.not_false, List.map_cons, List.map_nil, List.length_map, List.length_cons, List.length_nil, Nat.reduceAdd, Int.cast_ofNat_Int, Int.natCast_zero, Int.natCast_one, Bool.false_eq_true, Bool.true_eq_false, decide_eq_true_eq, eq_self, Int.reduceEq, Int.reduceLT, Int.reduceLE, Bool.and_true, Bool.true_and, Bool.and_false, Bool.false_and, Nat.zero_add, wnd, h3]
        exact ansx_p rfl _ _
      · by_cases h4 : 120 < d
        · have e5 : (if (0 : Int) = 0 ∧ (3000 < nd + 1 ∨ 120 < d) then (5 : Int) else 0) = 5 := if_pos ⟨rfl, .inr h4⟩
          rw [e5, if_pos (by decide)] at hev
          simp only [Option.some.injEq, Prod.mk.injEq] at hev
          obtain ⟨rfl, rfl, rfl, rfl⟩ := hev
          simp only [S48_264, S48_265, S48_266, S48_267, S48_268, S48_269, S48_270, S48_271, S48_272, S48_273, S48_274, S48_275, S48_277, S48_278, S48_279, S48_280, S48_281, S48_282, S48_283, S48_285, S48_286, S48_287, S48_288, S48_289, S48_290, S48_291, S48_292, S48_293, S48_294, S48, ↓XX, ↓reduceIte, Nat.reduceBEq, decide_true, decide_false, Bool.not_true, Bool.not_false, List.map_cons, List.map_nil, List.length_map, List.length_cons, List.length_nil, Nat.reduceAdd, Int.cast_ofNat_Int, Int.natCast_zero, Int.natCast_one, Bool.false_eq_true, Bool.true_eq_false, decide_eq_true_eq, eq_self, Int.reduceEq, Int.reduceLT, Int.reduceLE, Bool.and_true, Bool.true_and, Bool.and_false, Bool.false_and, Nat.zero_add, wnd, h3, h4]
          exact ansx_p rfl _ _
        · have e5 : (if (0 : Int) = 0 ∧ (3000 < nd + 1 ∨ 120 < d) then (5 : Int) else 0) = 0 := if_neg (by omega)
          rw [e5, if_neg (by decide)] at hev
          by_cases h1 : v.op = 1
          · rw [if_pos h1] at hev
            simp only [Option.some.injEq, Prod.mk.injEq] at hev
            obtain ⟨rfl, rfl, rfl, rfl⟩ := hev
            have hv := v_ok (n := n) (by omega) (u - 1 - v.n)
            rw [enc_mk] at hv ⊢
            simp only [S48_264, S48_265, S48_266, S48_267, S48_268, S48_269, S48_270, S48_271, S48_272, S48_273, S48_274, S48_275, S48_277, S48_278, S48_279, S48_280, S48_281, S48_282, S48_283, S48_285, S48_286, S48_287, S48_288, S48_289, S48_290, S48_291, S48_292, S48_293, S48_294, S48, ↓XX, ↓reduceIte, Nat.reduceBEq, decide_true, decide_false, Bool.not_true, Bool.not_false, List.map_cons, List.map_nil, List.length_map, List.length_cons, List.length_nil, Nat.reduceAdd, Int.cast_ofNat_Int, Int.natCast_zero, Int.natCast_one, Bool.false_eq_true, Bool.true_eq_false, decide_eq_true_eq, eq_self, Int.reduceEq, Int.reduceLT, Int.reduceLE, Bool.and_true, Bool.true_and, Bool.and_false, Bool.false_and, Nat.zero_add, ↓XV, wnd, h3, h4, h1, wu, wv, ↓iso_1 hv]
            exact ansx_p rfl _ _
          · rw [if_neg h1] at hev
            cases hrk : readK (fun s nd e k u => readR f s nd e k u (d + 1)) f v.op u 0 v.k s (nd + 1) 0 with
            | none => rw [hrk] at hev; cases hev
            | some q =>
            obtain ⟨ts, s1, nd1, e1⟩ := q
            rw [hrk] at hev
            simp only [Option.map_some, Option.some.injEq, Prod.mk.injEq] at hev
            obtain ⟨rfl, rfl, rfl, rfl⟩ := hev
            simp only [S48_264, S48_265, S48_266, S48_267, S48_268, S48_269, S48_270, S48_271, S48_272, S48_273, S48_274, S48_275, S48_277, S48_278, S48_279, S48_280, S48_281, S48_282, S48_283, S48_285, S48_286, S48_287, S48_288, S48_289, S48_290, S48_291, S48_292, S48_293, S48_294, S48, ↓XX, ↓reduceIte, Nat.reduceBEq, decide_true, decide_false, Bool.not_true, Bool.not_false, List.map_cons, List.map_nil, List.length_map, List.length_cons, List.length_nil, Nat.reduceAdd, Int.cast_ofNat_Int, Int.natCast_zero, Int.natCast_one, Bool.false_eq_true, Bool.true_eq_false, decide_eq_true_eq, eq_self, Int.reduceEq, Int.reduceLT, Int.reduceLE, Bool.and_true, Bool.true_and, Bool.and_false, Bool.false_and, Nat.zero_add, ↓XV, wnd, h3, h4, h1, ↓drop_e, XD, heldB, flatD, List.any_cons, List.any_nil, List.all_cons, List.all_nil, List.filter_cons, List.filter_nil, List.contains_cons, List.contains_nil, Bool.or_false, Bool.or_true, Bool.false_or, Bool.true_or, Bool.and_self, Bool.not_eq_true, BEq.rfl, beq_self_eq_true]
            refine loop_run (Q := fun r => AnsX r _ _) (fun k V H => ∃ (pre rest : List RV) (done : List Tm) (s2 nd2 e2 : Int) (us : List Tm), v.k = pre ++ rest ∧ rest.length = k ∧ done.length = pre.length ∧ V = [.ptr (.ext 0) 0, .fv v.enc, iv u, iv d, .ptr (.own 50331648) 0, .ptr (.own 50339849) 0, iv pre.length] ∧
              ((pre = [] ∧ H = Hread v.op v.n .nils [] s2 nd2 e2) ∨
               (pre ≠ [] ∧ H = Hread v.op v.n (.app (.own 50353163) (done.map Tm.enc)) [(50353163, .tok done.length 3)] s2 nd2 e2)) ∧
              readK (fun s nd e k u => readR f s nd e k u (d + 1)) f v.op u pre.length rest s2 nd2 e2 = some (us, s1, nd1, e1) ∧ done ++ us = ts)
              ?_ n v.k.length _ _ (by omega) ⟨[], v.k, [], s, nd + 1, 0, ts, rfl, rfl, rfl, rfl, .inl ⟨rfl, rfl⟩, hrk, rfl⟩
            rintro k V H rec ⟨pre, rest, done, s2, nd2, e2, us, hk, hl, hdl, rfl, hH, hkids, hts⟩ hrec
            have hkl : v.k.length = pre.length + rest.length := by rw [hk]; simp
            cases rest with
            | nil =>
              simp only [readK, Option.some.injEq, Prod.mk.injEq] at hkids
              obtain ⟨rfl, rfl, rfl, rfl⟩ := hkids
              rw [List.append_nil] at hts
              subst hts
              have hno : ¬ ((pre.length : Int) < v.k.length) := by rw [hkl]; simp
              rcases hH with ⟨hp0, rfl⟩ | ⟨hne, rfl⟩
              · have hd0 : done = [] := List.length_eq_zero_iff.1 (by rw [hdl, hp0]; rfl)
                subst hd0
                simp only [S48_264, S48_265, S48_266, S48_267, S48_268, S48_269, S48_270, S48_271, S48_272, S48_273, S48_274, S48_275, S48_276, S48_277, S48_278, S48_279, S48_280, S48_281, S48_282, S48_283, S48_284, S48_285, S48_286, S48_287, S48_288, S48_289, S48_290, S48_291, S48_292, S48_293, S48_294, S48, ↓XX, ↓reduceIte, Nat.reduceBEq, decide_true, decide_false, Bool.not_true, Bool.not_false, List.map_cons, List.map_nil, List.length_map, List.length_cons, List.length_nil, Nat.reduceAdd, Int.cast_ofNat_Int, Int.natCast_zero, Int.natCast_one, Bool.false_eq_true, Bool.true_eq_false, decide_eq_true_eq, eq_self, Int.reduceEq, Int.reduceLT, Int.reduceLE, Bool.and_true, Bool.true_and, Bool.and_false, Bool.false_and, Nat.zero_add, ↓XV, hno, enc_mk]
                exact ansx_p rfl _ _
              · simp only [S48_264, S48_265, S48_266, S48_267, S48_268, S48_269, S48_270, S48_271, S48_272, S48_273, S48_274, S48_275, S48_276, S48_277, S48_278, S48_279, S48_280, S48_281, S48_282, S48_283, S48_284, S48_285, S48_286, S48_287, S48_288, S48_289, S48_290, S48_291, S48_292, S48_293, S48_294, S48, ↓XX, ↓reduceIte, Nat.reduceBEq, decide_true, decide_false, Bool.not_true, Bool.not_false, List.map_cons, List.map_nil, List.length_map, List.length_cons, List.length_nil, Nat.reduceAdd, Int.cast_ofNat_Int, Int.natCast_zero, Int.natCast_one, Bool.false_eq_true, Bool.true_eq_false, decide_eq_true_eq, eq_self, Int.reduceEq, Int.reduceLT, Int.reduceLE, Bool.and_true, Bool.true_and, Bool.and_false, Bool.false_and, Nat.zero_add, ↓XV, hno, enc_mk]
                exact ansx_p rfl _ _
            | cons x rest =>
              have hi : (pre.length : Int) < v.k.length := by rw [hkl]; simp; omega
              have hg := at_pre hk
              have hb := binders_ok (n := n) (by omega) v.op pre.length
              have hble := bindN_le v.op pre.length
              have hwi : w64 ((pre.length : Int) + 1) = ((pre ++ [x]).length : Int) := (w64_id (by omega) (by omega)).trans (by simp)
              have hwb : w64 (u + (bindN v.op pre.length : Int)) = u + bindN v.op pre.length := by rw [w64_id] <;> omega
              have hd9 : done.length + 1 ≤ 1000000 := by omega
              simp only [readK] at hkids
              simp only [List.length_cons] at hl
              -- what comes behind the kid's value
              have behind : ∀ (y : RV) (s3 e3 : Int), (match readR f s3 nd2 e3 y (u + bindN v.op pre.length) (d + 1) with
                    | none => none
                    | some (t, s2, nd2, e2) => (readK (fun s nd e k u => readR f s nd e k u (d + 1)) f v.op u (pre.length + 1) rest s2 nd2 e2).map fun (ts, s, nd, e) => (t :: ts, s, nd, e)) = some (us, s1, nd1, e1) →
                  ∀ K tk, ((pre = [] ∧ K = .nils ∧ tk = []) ∨ (pre ≠ [] ∧ K = .app (.own 50353163) (done.map Tm.enc) ∧ tk = [(50353163, .tok done.length 3)])) →
                  AnsX (S48_270 (.ptr (.own 50339849) 0) (Hread v.op v.n K tk s3 nd2 e3) (iv u) (iv (bindN v.op pre.length)) (iv d) (SS dt n) (.ptr (.ext 0) 0) (.fv y.enc) (iv pre.length) ⟨[], [.row [iv s, iv nd, iv 0] false]⟩ (.fv v.enc) (.ptr (.own 50331648) 0) rec)
                    (Tm.mk v.op v.n ts).enc [.row [iv s1, iv nd1, iv e1] false] := by
                intro y s3 e3 hy K tk hK
                cases hrd : readR f s3 nd2 e3 y (u + bindN v.op pre.length) (d + 1) with
                | none => rw [hrd] at hy; cases hy
                | some q =>
                obtain ⟨t4, s4, nd4, e4⟩ := q
                rw [hrd] at hy
                simp only at hy
                cases hkk : readK (fun s nd e k u => readR f s nd e k u (d + 1)) f v.op u (pre.length + 1) rest s4 nd4 e4 with
                | none => rw [hkk] at hy; cases hy
                | some q =>
                obtain ⟨us', s5, nd5, e5'⟩ := q
                rw [hkk] at hy
                simp only [Option.map_some, Option.some.injEq, Prod.mk.injEq] at hy
                obtain ⟨rfl, rfl, rfl, rfl⟩ := hy
                have hc := hr s3 nd2 e3 y (u + bindN v.op pre.length) (d + 1) t4 s4 nd4 e4 hrd n (by omega)
                have h9 : AnsX (rec [.ptr (.ext 0) 0, .fv v.enc, iv u, iv d, .ptr (.own 50331648) 0, .ptr (.own 50339849) 0, iv (pre ++ [x]).length]
                    (Hread v.op v.n (.app (.own 50353163) ((done ++ [t4]).map Tm.enc)) [(50353163, .tok (done.length + 1) 3)] s4 nd4 e4)) (Tm.mk v.op v.n ts).enc [.row [iv s5, iv nd5, iv e5'] false] :=
                  hrec rest.length _ _ (by omega) ⟨pre ++ [x], rest, done ++ [t4], s4, nd4, e4, us', by rw [hk]; simp, rfl, by simp [hdl], rfl, .inr ⟨by simp, by simp⟩, by simpa using hkk, by rw [← hts]; simp⟩
                rcases hK with ⟨hp0, rfl, rfl⟩ | ⟨hne, rfl, rfl⟩
                · have hd0 : done = [] := List.length_eq_zero_iff.1 (by rw [hdl, hp0]; rfl)
                  subst hd0
                  simp only [List.nil_append, List.map_cons, List.map_nil, List.length_nil] at h9
                  simp only [S48_264, S48_265, S48_266, S48_267, S48_268, S48_269, S48_270, S48_271, S48_272, S48_273, S48_274, S48_275, S48_276, S48_277, S48_278, S48_279, S48_280, S48_281, S48_282, S48_283, S48_284, S48_285, S48_286, S48_287, S48_288, S48_289, S48_290, S48_291, S48_292, S48_293, S48_294, S48, ↓XX, ↓reduceIte, Nat.reduceBEq, decide_true, decide_false, Bool.not_true, Bool.not_false, List.map_cons, List.map_nil, List.length_map, List.length_cons, List.length_nil, Nat.reduceAdd, Int.cast_ofNat_Int, Int.natCast_zero, Int.natCast_one, Bool.false_eq_true, Bool.true_eq_false, decide_eq_true_eq, eq_self, Int.reduceEq, Int.reduceLT, Int.reduceLE, Bool.and_true, Bool.true_and, Bool.and_false, Bool.false_and, Nat.zero_add, ↓XV, hwb, wd, hwi, ↓iso_m4 hc (onex3 _ _ _ _ _ _), ↓bs1_tm, ↓app0_tm, ↓drop_e, XD, heldB, flatD, List.any_cons, List.any_nil, List.all_cons, List.all_nil, List.filter_cons, List.filter_nil, List.contains_cons, List.contains_nil, Bool.or_false, Bool.or_true, Bool.false_or, Bool.true_or, Bool.and_self, Bool.not_eq_true, BEq.rfl, beq_self_eq_true]
                  exact h9
                · simp only [S48_264, S48_265, S48_266, S48_267, S48_268, S48_269, S48_270, S48_271, S48_272, S48_273, S48_274, S48_275, S48_276, S48_277, S48_278, S48_279, S48_280, S48_281, S48_282, S48_283, S48_284, S48_285, S48_286, S48_287, S48_288, S48_289, S48_290, S48_291, S48_292, S48_293, S48_294, S48, ↓XX, ↓reduceIte, Nat.reduceBEq, decide_true, decide_false, Bool.not_true, Bool.not_false, List.map_cons, List.map_nil, List.length_map, List.length_cons, List.length_nil, Nat.reduceAdd, Int.cast_ofNat_Int, Int.natCast_zero, Int.natCast_one, Bool.false_eq_true, Bool.true_eq_false, decide_eq_true_eq, eq_self, Int.reduceEq, Int.reduceLT, Int.reduceLE, Bool.and_true, Bool.true_and, Bool.and_false, Bool.false_and, Nat.zero_add, ↓XV, hwb, wd, hwi, ↓iso_m4 hc (onex3 _ _ _ _ _ _), ↓bs1_tm, ↓app1_tm hd9, ↓tok_k, ↓drop_e, XD, heldB, flatD, List.any_cons, List.any_nil, List.all_cons, List.all_nil, List.filter_cons, List.filter_nil, List.contains_cons, List.contains_nil, Bool.or_false, Bool.or_true, Bool.false_or, Bool.true_or, Bool.and_self, Bool.not_eq_true, BEq.rfl, beq_self_eq_true]
                  exact h9
              have heads : ∃ K tk, ((pre = [] ∧ K = .nils ∧ tk = []) ∨ (pre ≠ [] ∧ K = .app (.own 50353163) (done.map Tm.enc) ∧ tk = [(50353163, .tok done.length 3)])) ∧ H = Hread v.op v.n K tk s2 nd2 e2 := by
                rcases hH with ⟨a, b⟩ | ⟨a, b⟩
                · exact ⟨_, _, .inl ⟨a, rfl, rfl⟩, b⟩
                · exact ⟨_, _, .inr ⟨a, rfl, rfl⟩, b⟩
              obtain ⟨K, tk, hK, rfl⟩ := heads
              by_cases hbp : 0 < bindN v.op pre.length
              · rw [if_pos hbp] at hkids
                by_cases hxe : 900000 < x.env.length
                · rw [if_pos hxe] at hkids; cases hkids
                · rw [if_neg hxe] at hkids
                  have hbp' : 0 < (bindN v.op pre.length : Int) := by omega
                  cases hev1 : evalR f s2 e2 x.b (x.env ++ upV u (bindN v.op pre.length)) with
                  | none => rw [hev1] at hkids; cases hkids
                  | some q =>
                  obtain ⟨y, s3, e3⟩ := q
                  rw [hev1] at hkids
                  have hB := behind y s3 e3 hkids K tk hK
                  have hc := (mach_ok f).1 s2 e2 x.b _ y s3 e3 nd2 hev1 n (by omega)
                  rw [tm_eta] at hc
                  have hdrop : ∀ (vals : List IV), vals.all flatV = true → ∀ k : Hp → Option (IV × Hp), dropS [] [50351109] vals (Hread v.op v.n K tk s2 nd2 e2) k = k (Hread v.op v.n K tk s2 nd2 e2) := by
                    intro vals hv k
                    rcases hK with ⟨_, rfl, rfl⟩ | ⟨_, rfl, rfl⟩ <;> simp only [↓XX, ↓reduceIte, Nat.reduceBEq, decide_true, decide_false, Bool.not_true, Bool.not_false, List.map_cons, List.map_nil, List.length_map, List.length_cons, List.length_nil, Nat.reduceAdd, Int.cast_ofNat_Int, Int.natCast_zero, Int.natCast_one, Bool.false_eq_true, Bool.true_eq_false, decide_eq_true_eq, eq_self, Int.reduceEq, Int.reduceLT, Int.reduceLE, Bool.and_true, Bool.true_and, Bool.and_false, Bool.false_and, Nat.zero_add, ↓drop_e, XD, heldB, flatD, List.any_cons, List.any_nil, List.all_cons, List.all_nil, List.filter_cons, List.filter_nil, List.contains_cons, List.contains_nil, Bool.or_false, Bool.or_true, Bool.false_or, Bool.true_or, Bool.and_self, Bool.not_eq_true, BEq.rfl, beq_self_eq_true, hv]
                  simp only [S48_264, S48_265, S48_266, S48_267, S48_268, S48_269, S48_271, S48_272, S48_273, S48_274, S48_275, S48_277, S48_278, S48_279, S48_280, S48_281, S48_282, S48_283, S48_284, S48_285, S48_286, S48_287, S48_288, S48_289, S48_290, S48_291, S48_292, S48_293, S48_294, S48, ↓XX, ↓reduceIte, Nat.reduceBEq, decide_true, decide_false, Bool.not_true, Bool.not_false, List.map_cons, List.map_nil, List.length_map, List.length_cons, List.length_nil, Nat.reduceAdd, Int.cast_ofNat_Int, Int.natCast_zero, Int.natCast_one, Bool.false_eq_true, Bool.true_eq_false, decide_eq_true_eq, eq_self, Int.reduceEq, Int.reduceLT, Int.reduceLE, Bool.and_true, Bool.true_and, Bool.and_false, Bool.false_and, Nat.zero_add, ↓XV, hi, ↓ix_v hg, ↓iso_2 hb, hbp', ↓hdrop, ↓drop_e, XD, heldB, flatD, List.any_cons, List.any_nil, List.all_cons, List.all_nil, List.filter_cons, List.filter_nil, List.contains_cons, List.contains_nil, Bool.or_false, Bool.or_true, Bool.false_or, Bool.true_or, Bool.and_self, Bool.not_eq_true, BEq.rfl, beq_self_eq_true]
                  refine loop_run (Q := fun r => AnsX r _ _) (fun k V H => ∃ j, j + k = bindN v.op pre.length ∧ V = [.ptr (.ext 0) 0, .fv v.enc, iv u, iv d, .ptr (.own 50331648) 0, .ptr (.own 50339849) 0, iv pre.length, iv (bindN v.op pre.length), .fv x.enc, .fv (.sl ((x.env ++ upV u j).map RV.enc)), iv j] ∧
                    H = Hread v.op v.n K tk s2 nd2 e2) ?_ n (bindN v.op pre.length) _ _ (by omega) ?_
                  rotate_left
                  · exact ⟨0, by omega, by simp [upV], rfl⟩
                  rintro k2 V2 H2 rec2 ⟨j, hj, rfl, rfl⟩ hrec2
                  cases k2 with
                  | zero =>
                    have hjb : j = bindN v.op pre.length := by omega
                    subst hjb
                    simp only [S48_264, S48_265, S48_266, S48_267, S48_268, S48_269, S48_271, S48_272, S48_273, S48_274, S48_275, S48_276, S48_277, S48_278, S48_279, S48_280, S48_281, S48_282, S48_283, S48_284, S48_285, S48_286, S48_287, S48_288, S48_289, S48_290, S48_291, S48_292, S48_293, S48_294, S48, ↓XX, ↓reduceIte, Nat.reduceBEq, decide_true, decide_false, Bool.not_true, Bool.not_false, List.map_cons, List.map_nil, List.length_map, List.length_cons, List.length_nil, Nat.reduceAdd, Int.cast_ofNat_Int, Int.natCast_zero, Int.natCast_one, Bool.false_eq_true, Bool.true_eq_false, decide_eq_true_eq, eq_self, Int.reduceEq, Int.reduceLT, Int.reduceLE, Bool.and_true, Bool.true_and, Bool.and_false, Bool.false_and, Nat.zero_add, ↓XV, Int.lt_irrefl, ↓iso_m3 hc (onex3 _ _ _ _ _ _)]
                    exact hB
                  | succ k2 =>
                    have hjb : (j : Int) < bindN v.op pre.length := by omega
                    have hwj : w64 (u + (j : Int)) = u + j := by rw [w64_id] <;> omega
                    have hwj1 : w64 ((j : Int) + 1) = ((j + 1 : Nat) : Int) := by rw [w64_id] <;> omega
                    have hp := plus_ok (n := n) (by omega) (x.env ++ upV u j) [RV.var (u + j)] (by simp) (by simp [upV_len]; omega)
                    simp only [List.map_cons, List.map_nil, var_enc] at hp
                    rw [List.append_assoc, ← upV_succ] at hp
                    have hbv := fun s h k => bs1_v (RV.var (u + j)) s h k
                    simp only [var_enc] at hbv
                    have hfz := fun s h (k : IV → Hp → List Ref → List Ref → Option (IV × Hp)) => fzs_agg (cells := [.fv (.int .i64 1), iv (u + j), .nils, .nils, .fv (.int .i64 0), .fv (.int .i64 0), .nils]) (fc := [.int .i64 1, .int .i64 (u + j), .sl [], .sl [], .int .i64 0, .int .i64 0, .sl []]) rfl (by simp) s h k
                    have h9 := hrec2 k2 _ _ (by omega) ⟨j + 1, by omega, rfl, rfl⟩
                    simp only [S48_264, S48_265, S48_266, S48_267, S48_268, S48_269, S48_271, S48_272, S48_273, S48_274, S48_275, S48_276, S48_277, S48_278, S48_279, S48_280, S48_281, S48_282, S48_283, S48_284, S48_285, S48_286, S48_287, S48_288, S48_289, S48_290, S48_291, S48_292, S48_293, S48_294, S48, ↓XX, ↓reduceIte, Nat.reduceBEq, decide_true, decide_false, Bool.not_true, Bool.not_false, List.map_cons, List.map_nil, List.length_map, List.length_cons, List.length_nil, Nat.reduceAdd, Int.cast_ofNat_Int, Int.natCast_zero, Int.natCast_one, Bool.false_eq_true, Bool.true_eq_false, decide_eq_true_eq, eq_self, Int.reduceEq, Int.reduceLT, Int.reduceLE, Bool.and_true, Bool.true_and, Bool.and_false, Bool.false_and, Nat.zero_add, ↓XV, hjb, hwj, hwj1, ↓hfz, ↓hbv, ↓iso_2 hp, ↓hdrop, ↓drop_e, XD, heldB, flatD, List.any_cons, List.any_nil, List.all_cons, List.all_nil, List.filter_cons, List.filter_nil, List.contains_cons, List.contains_nil, Bool.or_false, Bool.or_true, Bool.false_or, Bool.true_or, Bool.and_self, Bool.not_eq_true, BEq.rfl, beq_self_eq_true]
                    exact h9
              · rw [if_neg hbp] at hkids
                have hbp' : ¬ 0 < (bindN v.op pre.length : Int) := by omega
                have hB := behind x s2 e2 hkids K tk hK
                simp only [S48_264, S48_265, S48_266, S48_267, S48_268, S48_269, S48_271, S48_272, S48_273, S48_274, S48_275, S48_277, S48_278, S48_279, S48_280, S48_281, S48_282, S48_283, S48_284, S48_285, S48_286, S48_287, S48_288, S48_289, S48_290, S48_291, S48_292, S48_293, S48_294, S48, ↓XX, ↓reduceIte, Nat.reduceBEq, decide_true, decide_false, Bool.not_true, Bool.not_false, List.map_cons, List.map_nil, List.length_map, List.length_cons, List.length_nil, Nat.reduceAdd, Int.cast_ofNat_Int, Int.natCast_zero, Int.natCast_one, Bool.false_eq_true, Bool.true_eq_false, decide_eq_true_eq, eq_self, Int.reduceEq, Int.reduceLT, Int.reduceLE, Bool.and_true, Bool.true_and, Bool.and_false, Bool.false_and, Nat.zero_add, ↓XV, hi, ↓ix_v hg, ↓iso_2 hb, hbp', ↓drop_e, XD, heldB, flatD, List.any_cons, List.any_nil, List.all_cons, List.all_nil, List.filter_cons, List.filter_nil, List.contains_cons, List.contains_nil, Bool.or_false, Bool.or_true, Bool.false_or, Bool.true_or, Bool.and_self, Bool.not_eq_true, BEq.rfl, beq_self_eq_true]
                exact hB
    · have e5 : (if e = 0 ∧ (3000 < nd + 1 ∨ 120 < d) then (5 : Int) else e) = e := if_neg (by omega)
      rw [e5, if_pos he] at hev
      simp only [Option.some.injEq, Prod.mk.injEq] at hev
      obtain ⟨rfl, rfl, rfl, rfl⟩ := hev
      simp only [S48_264, S48_265, S48_266, S48_267, S48_268, S48_269, S48_270, S48_271, S48_272, S48_273, S48_274, S48_275, S48_277, S48_278, S48_279, S48_280, S48_281, S48_282, S48_283, S48_285, S48_286, S48_287, S48_288, S48_289, S48_290, S48_291, S48_292, S48_293, S48_294, S48, ↓XX, ↓reduceIte, Nat.reduceBEq, decide_true, decide_false, Bool.not_true, Bool.not_false, List.map_cons, List.map_nil, List.length_map, List.length_cons, List.length_nil, Nat.reduceAdd, Int.cast_ofNat_Int, Int.natCast_zero, Int.natCast_one, Bool.false_eq_true, Bool.true_eq_false, decide_eq_true_eq, eq_self, Int.reduceEq, Int.reduceLT, Int.reduceLE, Bool.and_true, Bool.true_and, Bool.and_false, Bool.false_and, Nat.zero_add, wnd, he]
      exact ansx_p rfl _ _
theorem read_ok : ∀ f, ReadOk f := by
  intro f
  induction f with
  | zero => intro s nd e v u d t s' nd' e' h; rw [readR] at h; cases h
  | succ f ih => exact read_step ih
end Idl
end Go.Proofs.Ytbkdidonegggdaa
namespace Go.Proofs.Ytbkdidonegggdaa
namespace Idl
noncomputable abbrev Hbk (done : List Tm) (rest : Nat) (more : List (Nat × Blk)) (s w r e : Int) : Hp :=
  ⟨(55574528, .row [iv 0, iv 0, .nils] false) :: (55583749, .row (cellsT done rest) false) :: more, MX s w r e⟩
theorem iso_x4s {ih : Handler} {f : FuncId} {w x y : FV} {a b : IV} {s0 len : Nat} {s u r e s' u' r' e' : Int} {own own' : List (Nat × Blk)} {es : List FV} {ro : Bool} (hr : AnsX (ih f [.ptr (.ext 0) 0, .fv x, .fv y, .fv (.sl es)] ⟨[], MX s u r e⟩) w (MX s' u' r' e'))
    (ha : frzP a = some x) (hb : frzP b = some y) (hl : lookupOwn s0 own = some (.row (es.map .fv) ro)) (hlen : es.length = len) (hn : es.length ≤ 300) (hag : ∀ x ∈ es, ∀ l, x ≠ .agg l) (ho : putOwn s0 (.row (es.map .fv) true) own = own')
    (k : IV → Hp → List Ref → List Ref → Option (IV × Hp)) :
    isoS [true, false, false, false] false false ih f [.ptr (.ext 0) 0, a, b, .slc (.own s0) 1 len] ⟨own, MX s u r e⟩ k = k (.fv w) ⟨own', MX s' u' r' e'⟩ [.ext 1, .ext 0, .own s0] [.own s0, .ext 0, .ext 1] := by
  subst ho hlen
  refine iso_g (ks := [false, false, false]) (vs := [x, y, .sl es]) (u := [(.own s0, .row (es.map .fv) true)]) (lg := [.own s0]) ?_ (extX ..) hr ?_ k
  · intro e k
    rw [fz1f, fzp_u _ _ e _ ha, fz1f, fzp_u _ _ e _ hb, fz1f, fz_slc (d := 10) hl hn hag, fz0]
    rfl
  · intro k
    show (ownK own s0 fun _ => putOwnK own s0 (.row (es.map .fv) true) fun own => k ⟨own, _⟩) = _
    rw [ownK_eq, hl, Option.bind_some, putOwnK_eq]
def resP (op n : Int) (done : List Tm) : Option (List Tm) → Tm
  | none => .z
  | some ts => .mk op n (done ++ ts)
set_option maxRecDepth 20000 in
set_option maxHeartbeats 1000000 in
theorem bk_end {n : Nat} {op nn bo bn below deep : Int} {k e : List PV} {bk : List Tm} {done : List Tm} {s w r er : Int} (h4 : Hp) {rec : List IV → Hp → Option (IV × Hp)} (hd : done.length = k.length) (hk : k.length ≤ 100) :
    AnsX (S53_283 [.ptr (.ext 0) 0, .fv (PV.mk op nn k (.mk bo bn bk) e).enc, iv below, iv deep, .ptr (.own 55574528) 0, .slc (.own 55583749) 3 k.length, iv k.length, iv k.length] (Hbk done 0 [] s w r er) (SS dt n) h4 rec n)
      (Tm.mk op nn done).enc (MX s w r er) := by
  rw [penc_mk, enc_mk]
  have hno : ¬ ((k.length : Int) < k.length) := by omega
  simp only [S53_261, S53_262, S53_263, S53_264, S53_265, S53_266, S53_267, S53_268, S53_269, S53_270, S53_271, S53_272, S53_273, S53_274, S53_275, S53_276, S53_277, S53_278, S53_279, S53_280, S53_281, S53_282, S53_283, S53_284, S53_285, S53_286, S53_287, S53_288, S53_289, S53_290, S53_291, S53_292, S53_293, S53, ↓XX, ↓reduceIte, Nat.reduceBEq, decide_true, decide_false, Bool.not_true, Bool.not_false, List.map_cons, List.map_nil, List.length_map, List.length_cons, List.length_nil, Nat.reduceAdd, Int.cast_ofNat_Int, Int.natCast_zero, Int.natCast_one, Bool.false_eq_true, Bool.true_eq_false, decide_eq_true_eq, eq_self, Int.reduceEq, Int.reduceLT, Int.reduceLE, Bool.and_true, Bool.true_and, Bool.and_false, Bool.false_and, Nat.zero_add, ↓ml_x, hno]
  rw [← hd]
  exact ⟨_, _, rfl, _, _, fun e0 K => fz_tm (by rfl) (by omega) [] e0 K⟩
def MoreP (more : List (Nat × Blk)) : Prop := more = [] ∨ ∃ (l : List FV) (ro : Bool), more = [(55589889, .row (l.map .fv) ro)]
set_option maxRecDepth 20000 in
set_option maxHeartbeats 1000000 in
theorem bk_b0 {n : Nat} {v y : FV} {below deep b len i : IV} {done : List Tm} {rest kl : Nat} {more : List (Nat × Blk)} {s w r e : Int} (hM : MoreP more) (h4 : Hp) {rec : List IV → Hp → Option (IV × Hp)} (he : e ≠ 0) :
    AnsX (S53_267 (.ptr (.ext 0) 0) (Hbk done rest more s w r e) (.ptr (.own 55574528) 0) below b deep (SS dt n) (.fv y) (.slc (.own 55583749) 3 kl) i i h4 (.fv v) len rec) Tm.z.enc (MX s w r e) := by
  rcases hM with rfl | ⟨l, ro, rfl⟩
  · simp only [S53_261, S53_262, S53_263, S53_264, S53_265, S53_266, S53_267, S53_268, S53_269, S53_270, S53_271, S53_272, S53_274, S53_275, S53_276, S53_277, S53_278, S53_279, S53_280, S53_281, S53_282, S53_284, S53_285, S53_286, S53_287, S53_288, S53_289, S53_290, S53_291, S53_292, S53_293, S53, ↓XX, ↓reduceIte, Nat.reduceBEq, decide_true, decide_false, Bool.not_true, Bool.not_false, List.map_cons, List.map_nil, List.length_map, List.length_cons, List.length_nil, Nat.reduceAdd, Int.cast_ofNat_Int, Int.natCast_zero, Int.natCast_one, Bool.false_eq_true, Bool.true_eq_false, decide_eq_true_eq, eq_self, Int.reduceEq, Int.reduceLT, Int.reduceLE, Bool.and_true, Bool.true_and, Bool.and_false, Bool.false_and, Nat.zero_add, ↓ml_x, he]
    exact ansx_p rfl _ _
  · simp only [S53_261, S53_262, S53_263, S53_264, S53_265, S53_266, S53_267, S53_268, S53_269, S53_270, S53_271, S53_272, S53_274, S53_275, S53_276, S53_277, S53_278, S53_279, S53_280, S53_281, S53_282, S53_284, S53_285, S53_286, S53_287, S53_288, S53_289, S53_290, S53_291, S53_292, S53_293, S53, ↓XX, ↓reduceIte, Nat.reduceBEq, decide_true, decide_false, Bool.not_true, Bool.not_false, List.map_cons, List.map_nil, List.length_map, List.length_cons, List.length_nil, Nat.reduceAdd, Int.cast_ofNat_Int, Int.natCast_zero, Int.natCast_one, Bool.false_eq_true, Bool.true_eq_false, decide_eq_true_eq, eq_self, Int.reduceEq, Int.reduceLT, Int.reduceLE, Bool.and_true, Bool.true_and, Bool.and_false, Bool.false_and, Nat.zero_add, ↓ml_x, he]
    exact ansx_p rfl _ _
set_option maxRecDepth 20000 in
set_option maxHeartbeats 1000000 in
theorem bk_b1 {f n : Nat} {v : FV} {y : PV} {below deep : Int} {b : Nat} {len : Int} {done : List Tm} {rest kl : Nat} {more : List (Nat × Blk)} {m m5 : M3} {r r5 : Int} {t5 : Tm} {w : FV} {ext : List Blk} (hb : BkOk f) (hn : f + 1 ≤ n) (hM : MoreP more) (ext4 : List Blk)
    {rec : List IV → Hp → Option (IV × Hp)} (he : m.e = 0) (hbk : bkP f y (below + b) (deep + 1) m r = some (t5, m5, r5)) (hb1 : 0 ≤ below) (hb2 : below ≤ 1000000) (hb3 : b ≤ 10) (hd1 : 0 ≤ deep) (hd2 : deep ≤ 1000000) (hkl : done.length < kl) (hkl2 : kl ≤ 100)
    (h : AnsX (rec [.ptr (.ext 0) 0, .fv v, iv below, iv deep, .ptr (.own 55574528) 0, .slc (.own 55583749) 3 kl, iv len, iv (done ++ [t5]).length] (Hbk (done ++ [t5]) rest [] m5.s m5.w r5 m5.e)) w ext) :
    AnsX (S53_267 (.ptr (.ext 0) 0) (Hbk done (rest + 1) more m.s m.w r m.e) (.ptr (.own 55574528) 0) (iv below) (iv b) (iv deep) (SS dt n) (.fv y.enc) (.slc (.own 55583749) 3 kl) (iv done.length) (iv done.length) ⟨[], ext4⟩ (.fv v) (iv len) rec) w ext := by
  have hc := hb _ _ _ _ _ _ _ _ hbk n hn
  have wb : w64 (below + b) = below + b := by rw [w64_id] <;> omega
  have wd : w64 (deep + 1) = deep + 1 := by rw [w64_id] <;> omega
  have wi : w64 ((done.length : Int) + 1) = ((done ++ [t5]).length : Int) := (w64_id (by omega) (by omega)).trans (by simp)
  obtain ⟨o, p, ks⟩ := t5
  rw [enc_mk] at hc
  simp only [he] at hc ⊢
  rcases hM with rfl | ⟨l, ro, rfl⟩
  · simp only [S53_261, S53_262, S53_263, S53_264, S53_265, S53_266, S53_267, S53_268, S53_269, S53_270, S53_271, S53_272, S53_274, S53_275, S53_276, S53_277, S53_278, S53_279, S53_280, S53_281, S53_282, S53_284, S53_285, S53_286, S53_287, S53_288, S53_289, S53_290, S53_291, S53_292, S53_293, S53, ↓XX, ↓reduceIte, Nat.reduceBEq, decide_true, decide_false, Bool.not_true, Bool.not_false, List.map_cons, List.map_nil, List.length_map, List.length_cons, List.length_nil, Nat.reduceAdd, Int.cast_ofNat_Int, Int.natCast_zero, Int.natCast_one, Bool.false_eq_true, Bool.true_eq_false, decide_eq_true_eq, eq_self, Int.reduceEq, Int.reduceLT, Int.reduceLE, Bool.and_true, Bool.true_and, Bool.and_false, Bool.false_and, Nat.zero_add, ↓ml_x, wb, wd, ↓iso_x4 _ _ hc, ↓ix_sl3 hkl, ↓set_t, wi, ↓drop_mx, ↓drop_e, XD, heldB, flatD, List.any_cons, List.any_nil, List.all_cons, List.all_nil, List.filter_cons, List.filter_nil, List.contains_cons, List.contains_nil, Bool.or_false, Bool.or_true, Bool.false_or, Bool.true_or, Bool.and_self, Bool.not_eq_true, BEq.rfl, beq_self_eq_true, flat_fv, names_fv, flat_t, names_t]
    exact h
  · simp only [S53_261, S53_262, S53_263, S53_264, S53_265, S53_266, S53_267, S53_268, S53_269, S53_270, S53_271, S53_272, S53_274, S53_275, S53_276, S53_277, S53_278, S53_279, S53_280, S53_281, S53_282, S53_284, S53_285, S53_286, S53_287, S53_288, S53_289, S53_290, S53_291, S53_292, S53_293, S53, ↓XX, ↓reduceIte, Nat.reduceBEq, decide_true, decide_false, Bool.not_true, Bool.not_false, List.map_cons, List.map_nil, List.length_map, List.length_cons, List.length_nil, Nat.reduceAdd, Int.cast_ofNat_Int, Int.natCast_zero, Int.natCast_one, Bool.false_eq_true, Bool.true_eq_false, decide_eq_true_eq, eq_self, Int.reduceEq, Int.reduceLT, Int.reduceLE, Bool.and_true, Bool.true_and, Bool.and_false, Bool.false_and, Nat.zero_add, ↓ml_x, wb, wd, ↓iso_x4 _ _ hc, ↓ix_sl3 hkl, ↓set_t, wi, ↓drop_mx, ↓drop_e, XD, heldB, flatD, List.any_cons, List.any_nil, List.all_cons, List.all_nil, List.filter_cons, List.filter_nil, List.contains_cons, List.contains_nil, Bool.or_false, Bool.or_true, Bool.false_or, Bool.true_or, Bool.and_self, Bool.not_eq_true, BEq.rfl, beq_self_eq_true, flat_fv, names_fv, flat_t, names_t]
    exact h
end Idl
end Go.Proofs.Ytbkdidonegggdaa
namespace Go.Proofs.Ytbkdidonegggdaa
namespace Idl
theorem upnils (below : Int) (k b : Nat) : (upP below k ++ nils (b - k)).length = k + (b - k) := by simp [upP_len, nils]
set_option maxRecDepth 20000 in
set_option maxHeartbeats 1000000 in
theorem bk_in {f n : Nat} {v y : PV} {below deep : Int} {i b kl : Nat} {len : Int} {done : List Tm} {rest : Nat} {m m4 : M3} {r : Int} {w : FV} {ext : List Blk} (hn : f + 1 ≤ n) (h3 : 3 ≤ n) (ext4 : List Blk)
    {j : IV → IV → IV → IV → IV → IV → IV → IV → IV → IV → IV → Hp → Option (IV × Hp)} (hb : b ≤ 2) (hb1 : 0 ≤ below) (hb2 : below ≤ 1000000) (hop : opP f v i (upP below b) m = some (y, m4))
    (hj : AnsX (j (.ptr (.ext 0) 0) (.fv v.enc) (iv below) (iv deep) (.ptr (.own 55574528) 0) (.slc (.own 55583749) 3 kl) (iv i) (.fv y.enc) (iv b) (iv len) (iv i)
      (Hbk done rest [(55589889, .row (((upP below b).map PV.enc).map .fv) true)] m4.s m4.w r m4.e)) w ext) :
    AnsX (loopS n (fun q119 l120 h121 => S53_273 l120 h121 ⟨[], ext4⟩ q119 (SS dt n) j) [.ptr (.ext 0) 0, .fv v.enc, iv below, iv deep, .ptr (.own 55574528) 0, .slc (.own 55583749) 3 kl, iv i, iv b, .slc (.own 55589889) 1 b, iv len, iv i, iv b, iv 0]
      (Hbk done rest [(55589889, .row (((nils b).map PV.enc).map .fv) false)] m.s m.w r m.e)) w ext := by
  refine loop_run (Q := fun r => AnsX r _ _) (fun t V H => ∃ (k : Nat), k + t = b ∧
      V = [.ptr (.ext 0) 0, .fv v.enc, iv below, iv deep, .ptr (.own 55574528) 0, .slc (.own 55583749) 3 kl, iv i, iv b, .slc (.own 55589889) 1 b, iv len, iv i, iv b, iv k] ∧
      H = Hbk done rest [(55589889, .row (((upP below k ++ nils t).map PV.enc).map .fv) false)] m.s m.w r m.e) ?_ n b _ _ (by omega) ⟨0, by omega, rfl, rfl⟩
  rintro t V H rec ⟨k, hkt, rfl, rfl⟩ hrec
  cases t with
  | zero =>
    have hkb : k = b := by omega
    subst hkb
    have hno : ¬ ((k : Int) < k) := by omega
    have hc := (mx_ok f).2.2.2 _ _ _ _ _ _ hop r n hn
    rw [show upP below k ++ nils 0 = upP below k by simp [nils]]
    simp only [S53_261, S53_262, S53_263, S53_264, S53_265, S53_266, S53_267, S53_268, S53_269, S53_270, S53_271, S53_272, S53_274, S53_275, S53_276, S53_277, S53_278, S53_279, S53_280, S53_281, S53_282, S53_284, S53_285, S53_286, S53_287, S53_288, S53_289, S53_290, S53_291, S53_292, S53_293, S53, S53_273, ↓XX, ↓reduceIte, Nat.reduceBEq, decide_true, decide_false, Bool.not_true, Bool.not_false, List.map_cons, List.map_nil, List.length_map, List.length_cons, List.length_nil, Nat.reduceAdd, Int.cast_ofNat_Int, Int.natCast_zero, Int.natCast_one, Bool.false_eq_true, Bool.true_eq_false, decide_eq_true_eq, eq_self, Int.reduceEq, Int.reduceLT, Int.reduceLE, Bool.and_true, Bool.true_and, Bool.and_false, Bool.false_and, Nat.zero_add, ↓ml_x, hno]
    rw [iso_x4s hc rfl rfl (s0 := 55589889) (own' := (Hbk done rest [(55589889, .row (((upP below k).map PV.enc).map .fv) true)] m4.s m4.w r m4.e).own) (by rfl) (by simp [upP_len]) (by simp [upP_len]; omega) (by simp only [List.mem_map]; rintro x ⟨v, _, rfl⟩; exact penc_agg v) (by rfl)]
    exact hj
  | succ t =>
    have hlt : (k : Int) < b := by omega
    have hkb : k < b := by omega
    have wk : w64 ((k : Int) + 1) = ((k + 1 : Nat) : Int) := (w64_id (by omega) (by omega)).trans (by simp)
    have wbk : w64 (below + (k : Int)) = below + k := by rw [w64_id] <;> omega
    have hoff := fun {β : Type} => off_p (done := upP below k) (r := t) (β := β) (PV.var (below + k))
    rw [upP_len, pvar_enc] at hoff
    simp only [S53_261, S53_262, S53_263, S53_264, S53_265, S53_266, S53_267, S53_268, S53_269, S53_270, S53_271, S53_272, S53_274, S53_275, S53_276, S53_277, S53_278, S53_279, S53_280, S53_281, S53_282, S53_284, S53_285, S53_286, S53_287, S53_288, S53_289, S53_290, S53_291, S53_292, S53_293, S53, S53_273, ↓XX, ↓reduceIte, Nat.reduceBEq, decide_true, decide_false, Bool.not_true, Bool.not_false, List.map_cons, List.map_nil, List.length_map, List.length_cons, List.length_nil, Nat.reduceAdd, Int.cast_ofNat_Int, Int.natCast_zero, Int.natCast_one, Bool.false_eq_true, Bool.true_eq_false, decide_eq_true_eq, eq_self, Int.reduceEq, Int.reduceLT, Int.reduceLE, Bool.and_true, Bool.true_and, Bool.and_false, Bool.false_and, Nat.zero_add, ↓ml_x, hlt, wbk]
    rw [fzs_agg (fc := [.int .i64 1, .int .i64 (below + k), .sl [], .int .i64 0, .int .i64 0, .sl [], .nilp]) rfl (by simp)]
    simp only [↓XX, ↓reduceIte, Nat.reduceBEq, decide_true, decide_false, Bool.not_true, Bool.not_false, List.map_cons, List.map_nil, List.length_map, List.length_cons, List.length_nil, Nat.reduceAdd, Int.cast_ofNat_Int, Int.natCast_zero, Int.natCast_one, Bool.false_eq_true, Bool.true_eq_false, decide_eq_true_eq, eq_self, Int.reduceEq, Int.reduceLT, Int.reduceLE, Bool.and_true, Bool.true_and, Bool.and_false, Bool.false_and, Nat.zero_add, ↓ml_x, ↓ix_sl hkb, ↓hoff, wk, ↓drop_mx, ↓drop_e, XD, heldB, flatD, List.any_cons, List.any_nil, List.all_cons, List.all_nil, List.filter_cons, List.filter_nil, List.contains_cons, List.contains_nil, Bool.or_false, Bool.or_true, Bool.false_or, Bool.true_or, Bool.and_self, Bool.not_eq_true, BEq.rfl, beq_self_eq_true, flat_fv, names_fv, flat_t, names_t]
    exact hrec t _ _ (by omega) ⟨k + 1, by omega, rfl, by rw [upP_succ]⟩
set_option maxRecDepth 20000 in
set_option maxHeartbeats 1000000 in
theorem bk_step {f : Nat} (hb : BkOk f) : BkOk (f + 1) := by
  intro v below deep m r t m' r' hev n hn
  obtain ⟨n, rfl⟩ : ∃ k, n = k + 1 := ⟨n - 1, by omega⟩
  rw [c53]
  rw [bkP.eq_def] at hev
  simp only at hev
  split at hev
  · cases hev
  rename_i hbad
  have wd : w64 (deep + 1) = deep + 1 := by rw [w64_id] <;> omega
  have wb1 : w64 (below - 1) = below - 1 := by rw [w64_id] <;> omega
  generalize he1 : (if m.e = 0 ∧ (3000 < r + 1 ∨ 120 < deep) then (5 : Int) else m.e) = e1 at hev
  cases ht : tickP ⟨m.s, m.w, e1⟩ with
  | none => rw [ht] at hev; cases hev
  | some m1 =>
  rw [ht] at hev
  simp only at hev
  have hc1 := tick_ok ht (r + 1) (n := n) (by omega)
  simp only at hc1
  refine bk_start (by omega) (by omega) he1 ?_
  by_cases h1 : m1.e ≠ 0
  · rw [if_pos h1] at hev
    simp only [Option.some.injEq, Prod.mk.injEq] at hev
    obtain ⟨rfl, rfl, rfl⟩ := hev
    simp only [S53_261, S53_262, S53_263, S53_264, S53_265, S53_266, S53_267, S53_268, S53_269, S53_270, S53_271, S53_272, S53_274, S53_275, S53_276, S53_277, S53_278, S53_279, S53_280, S53_281, S53_282, S53_284, S53_285, S53_286, S53_287, S53_288, S53_289, S53_290, S53_291, S53_292, S53_293, S53, ↓XX, ↓reduceIte, Nat.reduceBEq, decide_true, decide_false, Bool.not_true, Bool.not_false, List.map_cons, List.map_nil, List.length_map, List.length_cons, List.length_nil, Nat.reduceAdd, Int.cast_ofNat_Int, Int.natCast_zero, Int.natCast_one, Bool.false_eq_true, Bool.true_eq_false, decide_eq_true_eq, eq_self, Int.reduceEq, Int.reduceLT, Int.reduceLE, Bool.and_true, Bool.true_and, Bool.and_false, Bool.false_and, Nat.zero_add, ↓ml_x, ↓iso_x1 _ _ hc1, h1]
    exact ansx_p rfl _ _
  · rw [if_neg h1] at hev
    have h1 : m1.e = 0 := by simpa using h1
    cases v with
    | nil => cases hev
    | mk op nn k t0 e =>
    obtain ⟨bo, bn, bk⟩ := t0
    simp only at hev
    by_cases h2 : op = 1
    · rw [if_pos h2] at hev
      split at hev
      · cases hev
      rename_i hnn
      simp only [Option.some.injEq, Prod.mk.injEq] at hev
      obtain ⟨rfl, rfl, rfl⟩ := hev
      have wb2 : w64 (below - 1 - nn) = below - 1 - nn := by rw [w64_id] <;> omega
      rw [penc_mk]
      simp only [S53_261, S53_262, S53_263, S53_264, S53_265, S53_266, S53_267, S53_268, S53_269, S53_270, S53_271, S53_272, S53_274, S53_275, S53_276, S53_277, S53_278, S53_279, S53_280, S53_281, S53_282, S53_284, S53_285, S53_286, S53_287, S53_288, S53_289, S53_290, S53_291, S53_292, S53_293, S53, ↓XX, ↓reduceIte, Nat.reduceBEq, decide_true, decide_false, Bool.not_true, Bool.not_false, List.map_cons, List.map_nil, List.length_map, List.length_cons, List.length_nil, Nat.reduceAdd, Int.cast_ofNat_Int, Int.natCast_zero, Int.natCast_one, Bool.false_eq_true, Bool.true_eq_false, decide_eq_true_eq, eq_self, Int.reduceEq, Int.reduceLT, Int.reduceLE, Bool.and_true, Bool.true_and, Bool.and_false, Bool.false_and, Nat.zero_add, ↓ml_x, ↓iso_x1 _ _ hc1, h1, h2, wb1, wb2]
      exact ansx_p rfl _ _
    · rw [if_neg h2] at hev
      split at hev
      · cases hev
      rename_i hk100
      have hk100 : k.length ≤ 100 := by omega
      cases hkk : bkK (fun v below m r => bkP f v below (deep + 1) m r) (fun i l m => opP f (.mk op nn k (.mk bo bn bk) e) i l m) op below 0 k m1 (r + 1) with
      | none => rw [hkk] at hev; cases hev
      | some q =>
      obtain ⟨res, m2, r2⟩ := q
      rw [hkk] at hev
      have hres : t = resP op nn [] res ∧ m' = m2 ∧ r' = r2 := by
        cases res with
        | none => simp only [Option.some.injEq, Prod.mk.injEq] at hev; exact ⟨hev.1.symm, hev.2.1.symm, hev.2.2.symm⟩
        | some ts => simp only [Option.some.injEq, Prod.mk.injEq] at hev; exact ⟨hev.1.symm, hev.2.1.symm, hev.2.2.symm⟩
      obtain ⟨ht5, rfl, rfl⟩ := hres
      generalize hV : PV.mk op nn k (.mk bo bn bk) e = V5 at *
      have hVe : V5.enc = .fp [.int .i64 op, .int .i64 nn, .sl (k.map PV.enc), .int .i64 bo, .int .i64 bn, .sl (bk.map Tm.enc), PV.encEnv e] 0 := by rw [← hV, penc_mk]
      rw [hVe]
      simp only [S53_261, S53_262, S53_263, S53_264, S53_265, S53_266, S53_267, S53_268, S53_269, S53_270, S53_271, S53_272, S53_274, S53_275, S53_276, S53_277, S53_278, S53_279, S53_280, S53_281, S53_282, S53_284, S53_285, S53_286, S53_287, S53_288, S53_289, S53_290, S53_291, S53_292, S53_293, S53, ↓XX, ↓reduceIte, Nat.reduceBEq, decide_true, decide_false, Bool.not_true, Bool.not_false, List.map_cons, List.map_nil, List.length_map, List.length_cons, List.length_nil, Nat.reduceAdd, Int.cast_ofNat_Int, Int.natCast_zero, Int.natCast_one, Bool.false_eq_true, Bool.true_eq_false, decide_eq_true_eq, eq_self, Int.reduceEq, Int.reduceLT, Int.reduceLE, Bool.and_true, Bool.true_and, Bool.and_false, Bool.false_and, Nat.zero_add, ↓ml_x, ↓iso_x1 _ _ hc1, h1, h2, ↓mk_t (show k.length ≤ 1000 by omega), ↓drop_mx, ↓drop_e, XD, heldB, flatD, List.any_cons, List.any_nil, List.all_cons, List.all_nil, List.filter_cons, List.filter_nil, List.contains_cons, List.contains_nil, Bool.or_false, Bool.or_true, Bool.false_or, Bool.true_or, Bool.and_self, Bool.not_eq_true, BEq.rfl, beq_self_eq_true, flat_fv, names_fv, flat_t, names_t]
      refine loop_run (Q := fun r => AnsX r _ _) (fun j V H => ∃ (pre rest : List PV) (done : List Tm) (m3 : M3) (r3 : Int) (res3 : Option (List Tm)), k = pre ++ rest ∧ rest.length = j ∧ done.length = pre.length ∧
          V = [.ptr (.ext 0) 0, .fv V5.enc, iv below, iv deep, .ptr (.own 55574528) 0, .slc (.own 55583749) 3 k.length, iv k.length, iv pre.length] ∧
          H = Hbk done rest.length [] m3.s m3.w r3 m3.e ∧
          bkK (fun v below m r => bkP f v below (deep + 1) m r) (fun i l m => opP f V5 i l m) op below pre.length rest m3 r3 = some (res3, m', r') ∧ resP op nn done res3 = t)
        ?_ n k.length _ _ (by omega) ⟨[], k, [], m1, r + 1, res, rfl, rfl, rfl, by rw [hVe]; rfl, by rw [h1], hkk, ht5.symm⟩
      rintro j V H rec ⟨pre, rest, done, m3, r3, res3, hk, hl, hdl, rfl, rfl, hkids, hts⟩ hrec
      have hkl : k.length = pre.length + rest.length := by rw [hk]; simp
      cases rest with
      | nil =>
        simp only [bkK, Option.some.injEq, Prod.mk.injEq] at hkids
        obtain ⟨rfl, rfl, rfl⟩ := hkids
        rw [List.length_nil, Nat.add_zero] at hkl
        rw [← hts, ← hV, resP, List.append_nil, ← hkl]
        exact bk_end _ (by omega) hk100
      | cons x rest =>
        have hi : (pre.length : Int) < k.length := by rw [hkl]; simp; omega
        have hg := at_pre hk
        have hbn := pbind_ok (n := n) (by omega) op pre.length
        have hble := bindN_le op pre.length
        simp only [bkK] at hkids
        simp only [List.length_cons] at hl hkl
        -- what comes behind the kid's value
        have behind : ∀ (y : PV) (m4 : M3) (more : List (Nat × Blk)), MoreP more → (if m4.e ≠ 0 then some (none, m4, r3) else match bkP f y (below + bindN op pre.length) (deep + 1) m4 r3 with
              | none => none
              | some (t, m, r) => (bkK (fun v below m r => bkP f v below (deep + 1) m r) (fun i l m => opP f V5 i l m) op below (pre.length + 1) rest m r).map fun (ts, m, r) => (ts.map (t :: ·), m, r)) = some (res3, m', r') →
            AnsX (S53_267 (.ptr (.ext 0) 0) (Hbk done (rest.length + 1) more m4.s m4.w r3 m4.e) (.ptr (.own 55574528) 0) (iv below) (iv (bindN op pre.length)) (iv deep) (SS dt n) (.fv y.enc) (.slc (.own 55583749) 3 k.length) (iv pre.length) (iv pre.length) ⟨[], MX m.s m.w r m.e⟩ (.fv V5.enc) (iv k.length) rec)
              t.enc (MX m'.s m'.w r' m'.e) := by
          intro y m4 more hM hy
          by_cases h4 : m4.e ≠ 0
          · rw [if_pos h4] at hy
            simp only [Option.some.injEq, Prod.mk.injEq] at hy
            obtain ⟨rfl, rfl, rfl⟩ := hy
            rw [← hts]
            exact bk_b0 hM _ h4
          · rw [if_neg h4] at hy
            have h4 : m4.e = 0 := by simpa using h4
            cases hbk : bkP f y (below + bindN op pre.length) (deep + 1) m4 r3 with
            | none => rw [hbk] at hy; cases hy
            | some q =>
            obtain ⟨t5, m5, r5⟩ := q
            rw [hbk] at hy
            simp only at hy
            cases hk2 : bkK (fun v below m r => bkP f v below (deep + 1) m r) (fun i l m => opP f V5 i l m) op below (pre.length + 1) rest m5 r5 with
            | none => rw [hk2] at hy; cases hy
            | some q =>
            obtain ⟨res6, m6, r6⟩ := q
            rw [hk2] at hy
            simp only [Option.map_some, Option.some.injEq, Prod.mk.injEq] at hy
            obtain ⟨rfl, rfl, rfl⟩ := hy
            rw [← hdl]
            refine bk_b1 hb (by omega) hM _ h4 (by rw [hdl]; exact hbk) (by omega) (by omega) (by rw [hdl]; omega) (by omega) (by omega) (by omega) hk100 ?_
            refine hrec rest.length _ _ (by omega) ⟨pre ++ [x], rest, done ++ [t5], m5, r5, res6, by rw [hk]; simp, rfl, by simp [hdl], by simp [hdl], rfl, by simpa using hk2, ?_⟩
            rw [← hts]
            cases res6 with
            | none => rfl
            | some ts => simp [resP]
        rw [hVe]
        by_cases hb0 : 0 < bindN op pre.length
        · rw [if_pos hb0] at hkids
          have hb0' : (0 : Int) < bindN op pre.length := by omega
          cases hop : opP f V5 pre.length (upP below (bindN op pre.length)) m3 with
          | none => rw [hop] at hkids; cases hkids
          | some q =>
          obtain ⟨y, m4⟩ := q
          rw [hop] at hkids
          have h9 := behind y m4 [(55589889, .row (((upP below (bindN op pre.length)).map PV.enc).map .fv) true)] (.inr ⟨_, _, rfl⟩) hkids
          have hin := bk_in (f := f) (n := n) (v := V5) (y := y) (below := below) (deep := deep) (i := pre.length) (b := bindN op pre.length) (kl := k.length) (len := k.length) (done := done) (rest := rest.length + 1) (m := m3) (m4 := m4) (r := r3) (w := t.enc) (ext := MX m'.s m'.w r' m'.e) (by omega) (by omega) (MX m.s m.w r m.e)
            (j := fun x79 x80 x81 x82 x83 x84 x85 x86 x87 x88 x89 h90 => S53_267 x79 h90 x83 x81 x87 x82 (SS dt n) x86 x84 x85 x89 ⟨[], MX m.s m.w r m.e⟩ x80 x88 rec) (by omega) (by omega) (by omega) hop h9
          simp only [S53_261, S53_262, S53_263, S53_264, S53_265, S53_266, S53_268, S53_269, S53_270, S53_271, S53_272, S53_274, S53_275, S53_276, S53_277, S53_278, S53_279, S53_280, S53_281, S53_282, S53_283, S53_284, S53_285, S53_286, S53_287, S53_288, S53_289, S53_290, S53_291, S53_292, S53_293, S53, ↓XX, ↓reduceIte, Nat.reduceBEq, decide_true, decide_false, Bool.not_true, Bool.not_false, List.map_cons, List.map_nil, List.length_map, List.length_cons, List.length_nil, Nat.reduceAdd, Int.cast_ofNat_Int, Int.natCast_zero, Int.natCast_one, Bool.false_eq_true, Bool.true_eq_false, decide_eq_true_eq, eq_self, Int.reduceEq, Int.reduceLT, Int.reduceLE, Bool.and_true, Bool.true_and, Bool.and_false, Bool.false_and, Nat.zero_add, ↓ml_x, hi, ↓ix_p hg, ↓iso_2 hbn, hb0', ↓mk_p (show bindN op pre.length ≤ 1000 by omega), ↓drop_mx, ↓drop_e, XD, heldB, flatD, List.any_cons, List.any_nil, List.all_cons, List.all_nil, List.filter_cons, List.filter_nil, List.contains_cons, List.contains_nil, Bool.or_false, Bool.or_true, Bool.false_or, Bool.true_or, Bool.and_self, Bool.not_eq_true, BEq.rfl, beq_self_eq_true, flat_fv, names_fv, flat_t, names_t]
          rw [hVe] at hin
          exact hin
        · rw [if_neg hb0] at hkids
          have hb0' : ¬ (0 : Int) < bindN op pre.length := by omega
          have h9 := behind x m3 [] (.inl rfl) hkids
          simp only [S53_261, S53_262, S53_263, S53_264, S53_265, S53_266, S53_268, S53_269, S53_270, S53_271, S53_272, S53_274, S53_275, S53_276, S53_277, S53_278, S53_279, S53_280, S53_281, S53_282, S53_283, S53_284, S53_285, S53_286, S53_287, S53_288, S53_289, S53_290, S53_291, S53_292, S53_293, S53, ↓XX, ↓reduceIte, Nat.reduceBEq, decide_true, decide_false, Bool.not_true, Bool.not_false, List.map_cons, List.map_nil, List.length_map, List.length_cons, List.length_nil, Nat.reduceAdd, Int.cast_ofNat_Int, Int.natCast_zero, Int.natCast_one, Bool.false_eq_true, Bool.true_eq_false, decide_eq_true_eq, eq_self, Int.reduceEq, Int.reduceLT, Int.reduceLE, Bool.and_true, Bool.true_and, Bool.and_false, Bool.false_and, Nat.zero_add, ↓ml_x, hi, ↓ix_p hg, ↓iso_2 hbn, hb0']
          rw [hVe] at h9
          exact h9
theorem bk_ok : ∀ f, BkOk f
  | 0 => (fun _ _ _ _ _ _ _ _ h => by rw [bkP.eq_def] at h; cases h)
  | f + 1 => bk_step (bk_ok f)
end Idl
end Go.Proofs.Ytbkdidonegggdaa
namespace Go.Proofs.Ytbkdidonegggdaa
namespace Idl
/-! Its rules, made. -/
noncomputable abbrev ruleO (mb : Nat) (f : FuncId) : IV := .agg [.func (.func f) [.ptr (.own mb) 0] []]
noncomputable abbrev rulesO (mb : Nat) : List (Int × IV) := [(5, ruleO mb 72), (8, ruleO mb 73), (9, ruleO mb 73), (13, ruleO mb 74), (30, ruleO mb 75), (19, ruleO mb 76)]
theorem mkf_p (fn : Fn) (r : Ref) (o : Nat) : mkFunc fn [.ptr r o] [] = .func fn [.ptr r o] [] := rfl
theorem as_nf8 {β : Type} (fn : Fn) (a b : List IV) (e : Option β) (k : FV → Option β) : asF (.func fn a b) e k = e := rfl
theorem as_nf9 {β : Type} (r : Ref) (e : Option β) (k : FV → Option β) : asF (.mapr r) e k = e := rfl
theorem on_fun (fn : Fn) (a b : List IV) : IV.one (.func fn a b) = true := rfl
theorem on_mapr (r : Ref) : IV.one (.mapr r) = true := rfl
theorem alv_fun {β : Type} (fn : Fn) (a b l : List IV) (e : Option β) (k : List FV → Option β) : allFvK (.func fn a b :: l) e k = e := rfl
theorem alv_dead {β : Type} (l : List IV) (e : Option β) (k : List FV → Option β) : allFvK (.dead :: l) e k = e := rfl
theorem fil_fun {β : Type} (fn : Fn) (a b : List IV) (x : IV) (l : List IV) (k : List IV → Option β) : fillP (x :: l) 0 1 (.func fn a b) k = k (.func fn a b :: l) := rfl
theorem of4 {β : Type} (x y z u v b : IV) (l : List IV) (k : List IV → Option β) : offK (x :: y :: z :: u :: v :: l) 4 b k = k (x :: y :: z :: u :: b :: l) := rfl
theorem mk_m (s : Nat) (own : List (Nat × Blk)) (ext : List Blk) (k : IV → Hp → List Ref → List Ref → Option (IV × Hp)) : genS (pcMakeMap s) s ⟨own, ext⟩ k = freshK own s (putOwnK own s (.map []) fun own => k (.mapr (.own s)) ⟨own, ext⟩ [] [.own s]) := by
  unfold genS
  simp only [pcMakeMap, Rd.runLog, newK, fBk_eq, fV_eq]
  rfl
noncomputable def mapK (b : Blk) (k : List (Int × IV) → Option (IV × Hp)) : Option (IV × Hp) := match b with
  | .map es => k es
  | _ => none
theorem as_map (es : List (Int × IV)) (k : List (Int × IV) → Option (IV × Hp)) : mapK (.map es) k = k es := rfl
theorem ins_e (m j : Nat) (v : IV) (hv : v.alive = true) (n : Int) (s : Nat) (own : List (Nat × Blk)) (ext : List Blk) (k : IV → Hp → List Ref → List Ref → Option (IV × Hp)) :
    genS (pcInsert EE 78 (.mapr (.own m)) (iv n) v) s ⟨own, ext⟩ k = ownK own m fun b => mapK b fun es => putOwnK own m (.map (putMap n v es)) fun own => k .dead ⟨own, ext⟩ [.own m] [.own m] := by
  have h1 := tMk
  have h2 := tIk
  cases hm : EE.T 78 with
  | none => rw [hm] at h1; cases h1
  | some ti =>
    cases hi : EE.T 3 with
    | none => rw [hi] at h2; cases h2
    | some ii =>
      rw [hm] at h1
      rw [hi] at h2
      obtain ⟨a, b, kd, z⟩ := ti
      obtain ⟨a2, b2, kd2, z2⟩ := ii
      simp only [Option.map_some, Option.some.injEq] at h1 h2
      subst h1 h2
      rw [ownK_eq]
      unfold genS
      cases hl : lookupOwn m own with
      | none => simp only [pcInsert, hm, hi, iv_e, Rd.runLog, Hp.get, hl]; rfl
      | some bl =>
        cases bl with
        | row c ro => simp only [pcInsert, hm, hi, iv_e, Rd.runLog, Hp.get, hl]; rfl
        | tok a b => simp only [pcInsert, hm, hi, iv_e, Rd.runLog, Hp.get, hl]; rfl
        | map es =>
          simp only [pcInsert, hm, hi, iv_e, Rd.runLog, Hp.get, hl, ml_own, hv, and_self, if_true, Option.bind_some, as_map]
          show (fRf (.own m) fun q => getK q ⟨own, ext⟩ fun _ => fBk (.map (putMap n v es)) fun b => layK q b ⟨own, ext⟩ fun h => newK none s h fun h => fV 3 .dead fun v => k v h [.own m] ([.own m] ++ [])) = _
          simp only [fRf_eq, fBk_eq, fV_eq, newK, layK, getK]
          rw [ownK_eq, hl]
          rfl
/-- A call that is handed the machine by its owner. -/
theorem iso_om {ks : List Bool} (hks : ∀ b ∈ ks, b = false) {ih : Handler} {f : FuncId} {args : List IV} {vs : List FV} {w : FV} {mb mp : Nat} {own : List (Nat × Blk)} {s u r e s' u' r' e' : Int} (hz : frzPL args = some vs) (hne : mb ≠ mp)
    (hl1 : lookupOwn mb own = some (.row [iv s, iv u, iv r, iv e, .mapr (.own mp)] false)) (hl2 : lookupOwn mp own = some (.map (rulesO mb))) (hr : AnsX (ih f (.ptr (.ext 0) 0 :: vs.map .fv) ⟨[], MX s u r e⟩) w (MX s' u' r' e')) (k : IV → Hp → List Ref → List Ref → Option (IV × Hp)) :
    isoS (true :: ks) false false ih f (.ptr (.own mb) 0 :: args) ⟨own, []⟩ k = k (.fv w) ⟨putOwn mp (.map (rulesO mb)) (putOwn mb (.row [iv s', iv u', iv r', iv e', .mapr (.own mp)] false) own), []⟩ [.own mp, .own mb] [.own mb, .own mp] := by
  obtain ⟨v, own', e1, hfz⟩ := hr
  obtain ⟨uu, hu⟩ := ansx_frz hfz
  have hD : isoD (true :: ks) false false ih f (.ptr (.own mb) 0 :: args) ⟨own, []⟩ k = k (.fv w) ⟨putOwn mp (.map (rulesO mb)) (putOwn mb (.row [iv s', iv u', iv r', iv e', .mapr (.own mp)] false) own), []⟩ [.own mp, .own mb] [.own mb, .own mp] := by
    have h1 : frzArgs (true :: ks) (.ptr (.own mb) 0 :: args) = .ret (.ptr (.own mb) 0 :: vs.map .fv, [.own mb], []) := by
      simp only [frzArgs, frz_argsk args ks hks hz, Rd.bind, IV.refs]
      rfl
    have hn1 : ¬ (Ref.own mp = Ref.own mb) := by intro h; cases h; exact hne rfl
    have h2 : (gather 4096 [.own mb] []).runLog ⟨own, []⟩ [] = some ([(.own mb, .row [iv s, iv u, iv r, iv e, .mapr (.own mp)] false), (.own mp, .map (rulesO mb))], [.own mp, .own mb]) := by
      show (gather (4087 + 1 + 1 + 1 + 1 + 1 + 1 + 1 + 1 + 1) [.own mb] []).runLog ⟨own, []⟩ [] = _
      simp only [gather, hasRef, Bool.false_eq_true, if_false, Rd.runLog, Hp.get, hl1, hl2, Blk.refs, IV.refs.refsL, IV.refs, List.append_nil, List.nil_append, List.cons_append, List.map_cons, List.map_nil, hn1, decide_false, decide_true, Bool.or_false, Bool.true_or, if_true]
    have p1 : into [(.own mb, .row [iv s, iv u, iv r, iv e, .mapr (.own mp)] false), (.own mp, .map (rulesO mb))] (.own mb) = some (.ext 0) := by simp [into, placeOf]
    have p2 : into [(.own mb, .row [iv s, iv u, iv r, iv e, .mapr (.own mp)] false), (.own mp, .map (rulesO mb))] (.own mp) = some (.ext 1) := by simp [into, placeOf, hn1]
    have h3 : IV.ren.renL (into [(.own mb, .row [iv s, iv u, iv r, iv e, .mapr (.own mp)] false), (.own mp, .map (rulesO mb))]) (.ptr (.own mb) 0 :: vs.map .fv) = some (.ptr (.ext 0) 0 :: vs.map .fv) := by
      simp only [IV.ren.renL, IV.ren, p1, Option.map_some, Option.bind_some, renL_fv]
    have h4 : renBlks (into [(.own mb, .row [iv s, iv u, iv r, iv e, .mapr (.own mp)] false), (.own mp, .map (rulesO mb))]) [.row [iv s, iv u, iv r, iv e, .mapr (.own mp)] false, .map (rulesO mb)] = some (MX s u r e) := by
      simp only [renBlks, Blk.ren, IV.ren.renL, IV.ren, p1, p2, Option.map_some, Option.bind_some, List.map_cons, List.map_nil, List.zip_cons_cons, List.zip_nil_left]
    have h5 : renBlks (back [(.own mb, .row [iv s, iv u, iv r, iv e, .mapr (.own mp)] false), (.own mp, .map (rulesO mb))]) (MX s' u' r' e') = some [.row [iv s', iv u', iv r', iv e', .mapr (.own mp)] false, .map (rulesO mb)] := by
      simp only [renBlks, Blk.ren, IV.ren.renL, IV.ren, back, List.getElem?_cons_zero, List.getElem?_cons_succ, Option.map_some, Option.bind_some, List.map_cons, List.map_nil, List.zip_cons_cons, List.zip_nil_left]
    unfold isoD
    simp only [h1, Rd.runLog, h2, h3, List.map_cons, List.map_nil, h4, fL_eq (fV_eq 3), fL_eq fBk_eq, askedD, Bool.false_eq_true, if_false, e1, hu, Option.map_some, IV.ren, h5, List.length_cons, List.length_nil, keys, List.all_nil, and_self, if_true, List.nil_append, List.zip_cons_cons, List.zip_nil_left]
    have hl3 : lookupOwn mp (putOwn mb (.row [iv s', iv u', iv r', iv e', .mapr (.own mp)] false) own) = some (.map (rulesO mb)) := by
      rw [← hl2]
      clear hl1 hl2 h2 e1 hu hfz
      induction own with
      | nil => simp only [putOwn, lookupOwn, if_neg (fun h => hne (Eq.symm h))]
      | cons p l ih =>
        obtain ⟨j, c⟩ := p
        simp only [putOwn]
        split
        · rename_i h; subst h; simp only [lookupOwn, if_neg (fun h => hne (Eq.symm h))]
        · simp only [lookupOwn, ih]
    have h6 : laid ⟨own, []⟩ [(.own mb, .row [iv s', iv u', iv r', iv e', .mapr (.own mp)] false), (.own mp, .map (rulesO mb))] = some ⟨putOwn mp (.map (rulesO mb)) (putOwn mb (.row [iv s', iv u', iv r', iv e', .mapr (.own mp)] false) own), []⟩ := by
      simp only [laid, Hp.get, hl1, Hp.set, hl3]
    simp only [h6, fH_eq, fV_eq]
  rw [iso_e, fz1k, as_p, fza_k 0 args _ _ _ _ ks hks hz]
  simp only [isoC, goB_own, cond_false]
  exact hD
end Idl
end Go.Proofs.Ytbkdidonegggdaa
namespace Go.Proofs.Ytbkdidonegggdaa
namespace Idl
def knum (op : Int) : Int := if op = 8 ∨ op = 9 ∨ op = 12 ∨ op = 19 ∨ op = 30 then 1 else if op = 4 ∨ op = 5 then 2 else if op = 7 then 3 else if op = 13 then 4 else -1
theorem kids_ok {n : Nat} (hn : 0 < n) (op : Int) : Ans (SS dt n 71 [iv op] ⟨[], []⟩) (.int .i64 (knum op)) := by
  obtain ⟨n, rfl⟩ : ∃ k, n = k + 1 := ⟨n - 1, by omega⟩
  rw [c71]
  unfold knum
  by_cases h : op = 8 ∨ op = 9 ∨ op = 12 ∨ op = 19 ∨ op = 30
  · rw [if_pos h]
    rcases h with rfl | rfl | rfl | rfl | rfl <;> (simp only [S71_17, S71_18, S71_19, S71_20, S71_21, S71_22, S71, ↓XX, ↓reduceIte, Nat.reduceBEq, decide_true, decide_false, Bool.not_true, Bool.not_false, List.map_cons, List.map_nil, List.length_map, List.length_cons, List.length_nil, Nat.reduceAdd, Int.cast_ofNat_Int, Int.natCast_zero, Int.natCast_one, Bool.false_eq_true, Bool.true_eq_false, decide_eq_true_eq, eq_self, Int.reduceEq, Int.reduceLT, Int.reduceLE, Bool.and_true, Bool.true_and, Bool.and_false, Bool.false_and, Nat.zero_add]; exact ans_fv _ _)
  · rw [if_neg h]
    have h8 : ¬ op = 8 := fun e => h (by simp [e])
    have h9 : ¬ op = 9 := fun e => h (by simp [e])
    have h12 : ¬ op = 12 := fun e => h (by simp [e])
    have h19 : ¬ op = 19 := fun e => h (by simp [e])
    have h30 : ¬ op = 30 := fun e => h (by simp [e])
    by_cases h2 : op = 4 ∨ op = 5
    · rw [if_pos h2]
      rcases h2 with rfl | rfl <;> (simp only [S71_17, S71_18, S71_19, S71_20, S71_21, S71_22, S71, ↓XX, ↓reduceIte, Nat.reduceBEq, decide_true, decide_false, Bool.not_true, Bool.not_false, List.map_cons, List.map_nil, List.length_map, List.length_cons, List.length_nil, Nat.reduceAdd, Int.cast_ofNat_Int, Int.natCast_zero, Int.natCast_one, Bool.false_eq_true, Bool.true_eq_false, decide_eq_true_eq, eq_self, Int.reduceEq, Int.reduceLT, Int.reduceLE, Bool.and_true, Bool.true_and, Bool.and_false, Bool.false_and, Nat.zero_add]; exact ans_fv _ _)
    · rw [if_neg h2]
      have h4 : ¬ op = 4 := fun e => h2 (by simp [e])
      have h5 : ¬ op = 5 := fun e => h2 (by simp [e])
      by_cases h7 : op = 7
      · subst h7; simp only [S71_17, S71_18, S71_19, S71_20, S71_21, S71_22, S71, ↓XX, ↓reduceIte, Nat.reduceBEq, decide_true, decide_false, Bool.not_true, Bool.not_false, List.map_cons, List.map_nil, List.length_map, List.length_cons, List.length_nil, Nat.reduceAdd, Int.cast_ofNat_Int, Int.natCast_zero, Int.natCast_one, Bool.false_eq_true, Bool.true_eq_false, decide_eq_true_eq, eq_self, Int.reduceEq, Int.reduceLT, Int.reduceLE, Bool.and_true, Bool.true_and, Bool.and_false, Bool.false_and, Nat.zero_add]; exact ans_fv _ _
      · by_cases h13 : op = 13
        · subst h13; simp only [S71_17, S71_18, S71_19, S71_20, S71_21, S71_22, S71, ↓XX, ↓reduceIte, Nat.reduceBEq, decide_true, decide_false, Bool.not_true, Bool.not_false, List.map_cons, List.map_nil, List.length_map, List.length_cons, List.length_nil, Nat.reduceAdd, Int.cast_ofNat_Int, Int.natCast_zero, Int.natCast_one, Bool.false_eq_true, Bool.true_eq_false, decide_eq_true_eq, eq_self, Int.reduceEq, Int.reduceLT, Int.reduceLE, Bool.and_true, Bool.true_and, Bool.and_false, Bool.false_and, Nat.zero_add]; exact ans_fv _ _
        · simp only [S71_17, S71_18, S71_19, S71_20, S71_21, S71_22, S71, ↓XX, ↓reduceIte, Nat.reduceBEq, decide_true, decide_false, Bool.not_true, Bool.not_false, List.map_cons, List.map_nil, List.length_map, List.length_cons, List.length_nil, Nat.reduceAdd, Int.cast_ofNat_Int, Int.natCast_zero, Int.natCast_one, Bool.false_eq_true, Bool.true_eq_false, decide_eq_true_eq, eq_self, Int.reduceEq, Int.reduceLT, Int.reduceLE, Bool.and_true, Bool.true_and, Bool.and_false, Bool.false_and, Nat.zero_add, h4, h5, h7, h8, h9, h12, h13, h19, h30]; exact ans_fv _ _
mutual
def Tm.shaped : Tm → Bool
  | .mk op n ks => !(decide (0 ≤ knum op ∧ knum op ≠ ks.length) || decide (op = 1 ∧ n < 0)) && Tm.shapedL ks
def Tm.shapedL : List Tm → Bool
  | [] => true
  | t :: l => t.shaped && Tm.shapedL l
end
set_option maxHeartbeats 1000000 in
theorem shaped_ok : ∀ (n : Nat) (t : Tm), t.wt + 1 < n → t.wt ≤ 1152921504606846976 → Ans (SS dt n 50 [.fv t.enc] ⟨[], []⟩) (.bool t.shaped) := by
  intro n
  induction n with
  | zero => intro t h; omega
  | succ n ih =>
    intro t h hw
    obtain ⟨op, m, ks⟩ := t
    simp only [Tm.wt] at h hw
    rw [c50, enc_mk]
    have hlen := wt_len ks
    have hk := kids_ok (n := n) (by omega) op
    rw [Tm.shaped]
    have wl : ∀ j : Nat, j ≤ ks.length → w64 (j : Int) = j := fun j hj => w64_id (by omega) (by omega)
    -- the loop
    have loop : Ans (loopS n (fun q99 l100 h101 => S50_132 l100 h101 (SS dt n) ⟨[], []⟩ q99) [.fv (.sl (ks.map Tm.enc)), iv ks.length, iv 0] ⟨[(52428800, .row [iv op, iv m, .fv (.sl (ks.map Tm.enc))] false)], []⟩) (.bool (Tm.shapedL ks)) := by
      refine loop_run (Q := fun r => Ans r _) (fun k V H => ∃ pre rest, ks = pre ++ rest ∧ rest.length = k ∧ V = [.fv (.sl (ks.map Tm.enc)), iv ks.length, iv pre.length] ∧ H = ⟨[(52428800, .row [iv op, iv m, .fv (.sl (ks.map Tm.enc))] false)], []⟩ ∧ Tm.shapedL rest = Tm.shapedL ks)
        ?_ n ks.length _ _ (by omega) ⟨[], ks, rfl, rfl, rfl, rfl, rfl⟩
      rintro k V H rec ⟨pre, rest, hk, hl, rfl, rfl, ht⟩ hrec
      have hkl : ks.length = pre.length + rest.length := by rw [hk]; simp
      cases rest with
      | nil =>
        have hno : ¬ ((pre.length : Int) < ks.length) := by rw [hkl]; simp
        rw [← ht]
        simp only [S50_129, S50_130, S50_131, S50_132, S50_133, S50_134, S50_135, S50_136, S50, ↓XX, ↓reduceIte, Nat.reduceBEq, decide_true, decide_false, Bool.not_true, Bool.not_false, List.map_cons, List.map_nil, List.length_map, List.length_cons, List.length_nil, Nat.reduceAdd, Int.cast_ofNat_Int, Int.natCast_zero, Int.natCast_one, Bool.false_eq_true, Bool.true_eq_false, decide_eq_true_eq, eq_self, Int.reduceEq, Int.reduceLT, Int.reduceLE, Bool.and_true, Bool.true_and, Bool.and_false, Bool.false_and, Nat.zero_add, hno, Tm.shapedL]
        exact ans_fv _ _
      | cons t rest =>
        have hi : (pre.length : Int) < ks.length := by rw [hkl]; simp; omega
        have hg := at_pre hk
        have htw := wt_mem (t := t) (l := ks) (by rw [hk]; simp)
        have hs := ih t (by omega) (by omega)
        have hwi : w64 ((pre.length : Int) + 1) = ((pre ++ [t]).length : Int) := (w64_id (by omega) (by omega)).trans (by simp)
        simp only [Tm.shapedL] at ht
        generalize t.shaped = v at hs ht
        obtain ⟨o, p, l⟩ := t
        simp only [List.length_cons] at hl
        rw [enc_mk] at hs
        cases v
        · rw [← ht]
          simp only [S50_129, S50_130, S50_131, S50_132, S50_133, S50_134, S50_135, S50_136, S50, ↓XX, ↓reduceIte, Nat.reduceBEq, decide_true, decide_false, Bool.not_true, Bool.not_false, List.map_cons, List.map_nil, List.length_map, List.length_cons, List.length_nil, Nat.reduceAdd, Int.cast_ofNat_Int, Int.natCast_zero, Int.natCast_one, Bool.false_eq_true, Bool.true_eq_false, decide_eq_true_eq, eq_self, Int.reduceEq, Int.reduceLT, Int.reduceLE, Bool.and_true, Bool.true_and, Bool.and_false, Bool.false_and, Nat.zero_add, hi, ↓ix_f (map_get hg) (agg3l _ _ _), ↓agg3, hwi, ↓iso_1 hs, Bool.false_and]
          exact ans_fv _ _
        · simp only [S50_129, S50_130, S50_131, S50_132, S50_133, S50_134, S50_135, S50_136, S50, ↓XX, ↓reduceIte, Nat.reduceBEq, decide_true, decide_false, Bool.not_true, Bool.not_false, List.map_cons, List.map_nil, List.length_map, List.length_cons, List.length_nil, Nat.reduceAdd, Int.cast_ofNat_Int, Int.natCast_zero, Int.natCast_one, Bool.false_eq_true, Bool.true_eq_false, decide_eq_true_eq, eq_self, Int.reduceEq, Int.reduceLT, Int.reduceLE, Bool.and_true, Bool.true_and, Bool.and_false, Bool.false_and, Nat.zero_add, hi, ↓ix_f (map_get hg) (agg3l _ _ _), ↓agg3, hwi, ↓iso_1 hs, ↓drop_e, XD, heldB, flatD, List.any_cons, List.any_nil, List.all_cons, List.all_nil, List.filter_cons, List.filter_nil, List.contains_cons, List.contains_nil, Bool.or_false, Bool.or_true, Bool.false_or, Bool.true_or, Bool.and_self, Bool.not_eq_true, BEq.rfl, beq_self_eq_true]
          refine hrec rest.length _ _ (by omega) ?_
          exact ⟨pre ++ [.mk o p l], rest, by rw [hk]; simp, rfl, rfl, rfl, by simpa using ht⟩
    by_cases h0 : 0 ≤ knum op
    · by_cases h1 : knum op = ks.length
      · by_cases h2 : op = 1
        · exfalso; subst h2; revert h0; decide
        · have e1 : (!(decide (0 ≤ knum op ∧ knum op ≠ ks.length) || decide (op = 1 ∧ m < 0)) && Tm.shapedL ks) = Tm.shapedL ks := by simp [h1, h2]
          rw [e1]
          have h0' : (0 : Int) ≤ ks.length := by omega
          rw [h1] at hk
          simp only [S50_129, S50_130, S50_131, S50_133, S50_134, S50_135, S50_136, S50, ↓XX, ↓reduceIte, Nat.reduceBEq, decide_true, decide_false, Bool.not_true, Bool.not_false, List.map_cons, List.map_nil, List.length_map, List.length_cons, List.length_nil, Nat.reduceAdd, Int.cast_ofNat_Int, Int.natCast_zero, Int.natCast_one, Bool.false_eq_true, Bool.true_eq_false, decide_eq_true_eq, eq_self, Int.reduceEq, Int.reduceLT, Int.reduceLE, Bool.and_true, Bool.true_and, Bool.and_false, Bool.false_and, Nat.zero_add, ↓iso_1 hk, h0', h2, ↓drop_e, XD, heldB, flatD, List.any_cons, List.any_nil, List.all_cons, List.all_nil, List.filter_cons, List.filter_nil, List.contains_cons, List.contains_nil, Bool.or_false, Bool.or_true, Bool.false_or, Bool.true_or, Bool.and_self, Bool.not_eq_true, BEq.rfl, beq_self_eq_true]
          exact loop
      · have e1 : (!(decide (0 ≤ knum op ∧ knum op ≠ ks.length) || decide (op = 1 ∧ m < 0)) && Tm.shapedL ks) = false := by simp [h0, h1]
        rw [e1]
        simp only [S50_129, S50_130, S50_131, S50_133, S50_134, S50_135, S50_136, S50, ↓XX, ↓reduceIte, Nat.reduceBEq, decide_true, decide_false, Bool.not_true, Bool.not_false, List.map_cons, List.map_nil, List.length_map, List.length_cons, List.length_nil, Nat.reduceAdd, Int.cast_ofNat_Int, Int.natCast_zero, Int.natCast_one, Bool.false_eq_true, Bool.true_eq_false, decide_eq_true_eq, eq_self, Int.reduceEq, Int.reduceLT, Int.reduceLE, Bool.and_true, Bool.true_and, Bool.and_false, Bool.false_and, Nat.zero_add, ↓iso_1 hk, h0, h1]
        exact ans_fv _ _
    · by_cases h2 : op = 1
      · subst h2
        by_cases h3 : m < 0
        · have e1 : (!(decide (0 ≤ knum 1 ∧ knum 1 ≠ ks.length) || decide ((1 : Int) = 1 ∧ m < 0)) && Tm.shapedL ks) = false := by simp [h3]
          rw [e1]
          simp only [S50_129, S50_130, S50_131, S50_133, S50_134, S50_135, S50_136, S50, ↓XX, ↓reduceIte, Nat.reduceBEq, decide_true, decide_false, Bool.not_true, Bool.not_false, List.map_cons, List.map_nil, List.length_map, List.length_cons, List.length_nil, Nat.reduceAdd, Int.cast_ofNat_Int, Int.natCast_zero, Int.natCast_one, Bool.false_eq_true, Bool.true_eq_false, decide_eq_true_eq, eq_self, Int.reduceEq, Int.reduceLT, Int.reduceLE, Bool.and_true, Bool.true_and, Bool.and_false, Bool.false_and, Nat.zero_add, ↓iso_1 hk, h0, h3]
          exact ans_fv _ _
        · have e1 : (!(decide (0 ≤ knum 1 ∧ knum 1 ≠ ks.length) || decide ((1 : Int) = 1 ∧ m < 0)) && Tm.shapedL ks) = Tm.shapedL ks := by simp [h0, h3]
          rw [e1]
          simp only [S50_129, S50_130, S50_131, S50_133, S50_134, S50_135, S50_136, S50, ↓XX, ↓reduceIte, Nat.reduceBEq, decide_true, decide_false, Bool.not_true, Bool.not_false, List.map_cons, List.map_nil, List.length_map, List.length_cons, List.length_nil, Nat.reduceAdd, Int.cast_ofNat_Int, Int.natCast_zero, Int.natCast_one, Bool.false_eq_true, Bool.true_eq_false, decide_eq_true_eq, eq_self, Int.reduceEq, Int.reduceLT, Int.reduceLE, Bool.and_true, Bool.true_and, Bool.and_false, Bool.false_and, Nat.zero_add, ↓iso_1 hk, h0, h3, ↓drop_e, XD, heldB, flatD, List.any_cons, List.any_nil, List.all_cons, List.all_nil, List.filter_cons, List.filter_nil, List.contains_cons, List.contains_nil, Bool.or_false, Bool.or_true, Bool.false_or, Bool.true_or, Bool.and_self, Bool.not_eq_true, BEq.rfl, beq_self_eq_true]
          exact loop
      · have e1 : (!(decide (0 ≤ knum op ∧ knum op ≠ ks.length) || decide (op = 1 ∧ m < 0)) && Tm.shapedL ks) = Tm.shapedL ks := by simp [h0, h2]
        rw [e1]
        simp only [S50_129, S50_130, S50_131, S50_133, S50_134, S50_135, S50_136, S50, ↓XX, ↓reduceIte, Nat.reduceBEq, decide_true, decide_false, Bool.not_true, Bool.not_false, List.map_cons, List.map_nil, List.length_map, List.length_cons, List.length_nil, Nat.reduceAdd, Int.cast_ofNat_Int, Int.natCast_zero, Int.natCast_one, Bool.false_eq_true, Bool.true_eq_false, decide_eq_true_eq, eq_self, Int.reduceEq, Int.reduceLT, Int.reduceLE, Bool.and_true, Bool.true_and, Bool.and_false, Bool.false_and, Nat.zero_add, ↓iso_1 hk, h0, h2, ↓drop_e, XD, heldB, flatD, List.any_cons, List.any_nil, List.all_cons, List.all_nil, List.filter_cons, List.filter_nil, List.contains_cons, List.contains_nil, Bool.or_false, Bool.or_true, Bool.false_or, Bool.true_or, Bool.and_self, Bool.not_eq_true, BEq.rfl, beq_self_eq_true]
        exact loop
end Idl
end Go.Proofs.Ytbkdidonegggdaa
namespace Go.Proofs.Ytbkdidonegggdaa
namespace Idl
def normP (f : Nat) (t : Tm) : Option (Tm × Int) :=
  if t.shaped = false then some (.z, 1) else match evP f [] t ⟨100000, 5000000, 0⟩ with
  | none => none
  | some (v, m) => if m.e ≠ 0 then some (.z, m.e) else match bkP f v 0 1 m 0 with
    | none => none
    | some (u, m, _) => if m.e ≠ 0 then some (.z, m.e) else some (u, 0)
theorem inl_e {ih : Handler} {f : FuncId} {args : List IV} {h h' : Hp} {v : IV} (hr : ih f args h = some (v, h')) (k : IV → Hp → List Ref → List Ref → Option (IV × Hp)) : inlS ih f args h k = k v h' [] [] := by
  unfold inlS
  rw [hr]
noncomputable abbrev Hnm (a b : Blk) (s u r e : Int) : Hp :=
  ⟨[(20971520, a), (20971521, b), (53478401, .row [iv s, iv u, iv r, iv e, .mapr (.own 53479425)] false), (53479425, .map (rulesO 53478401))], []⟩
noncomputable abbrev Hbg (a b : Blk) (es : List (Int × IV)) : Hp :=
  ⟨[(20971520, a), (20971521, b), (53478401, .row [iv 100000, iv 5000000, iv 0, iv 0, .dead] false), (53479425, .map es)], []⟩
noncomputable abbrev fnO (g : FuncId) : IV := .func (.func g) [.ptr (.own 53478401) 0] []
theorem ins_b (a b : Blk) (es : List (Int × IV)) (g : FuncId) (n : Int) (s : Nat) (k : IV → Hp → List Ref → List Ref → Option (IV × Hp)) :
    genS (pcInsert EE 78 (.mapr (.own 53479425)) (iv n) (ruleO 53478401 g)) s (Hbg a b es) k = k .dead (Hbg a b (putMap n (ruleO 53478401 g) es)) [.own 53479425] [.own 53479425] := by
  rw [ins_e _ 0 _ rfl, ownK_eq]
  rw [show lookupOwn 53479425 (Hbg a b es).own = some (.map es) from rfl, Option.bind_some, as_map, putOwnK_eq]
  rfl
theorem bld_b (g : FuncId) (k : IV → Option (IV × Hp)) : bldS [.fv .nilf] [(0, 1, fnO g)] k = k (ruleO 53478401 g) := rfl
theorem begun_69 (a b : Blk) (es : List (Int × IV)) : S51_69 (.ptr (.own 53478401) 0) (Hbg a b es) (.mapr (.own 53479425)) = some (.ptr (.own 53478401) 0, ⟨[(20971520, a), (20971521, b), (53478401, .row [iv 100000, iv 5000000, iv 0, iv 0, .mapr (.own 53479425)] false), (53479425, .map es)], []⟩) := by
  simp only [S51_69, ↓XX, ↓reduceIte, Nat.reduceBEq, decide_true, decide_false, Bool.not_true, Bool.not_false, List.map_cons, List.map_nil, List.length_map, List.length_cons, List.length_nil, Nat.reduceAdd, Int.cast_ofNat_Int, Int.natCast_zero, Int.natCast_one, Bool.false_eq_true, Bool.true_eq_false, decide_eq_true_eq, eq_self, Int.reduceEq, Int.reduceLT, Int.reduceLE, Bool.and_true, Bool.true_and, Bool.and_false, Bool.false_and, Nat.zero_add, ↓on_mapr, ↓of4]
theorem gen_fn (g : FuncId) (s : Nat) (h : Hp) (k : IV → Hp → List Ref → List Ref → Option (IV × Hp)) : genS (Idl.val (mkFunc (.func g) [.ptr (.own 53478401) 0] [])) s h k = k (fnO g) h [] [] := gen_val' _ _ _ _
theorem begun_70 (a b : Blk) (es : List (Int × IV)) : S51_70 (fnO 75) (Hbg a b es) (.mapr (.own 53479425)) (.ptr (.own 53478401) 0) =
    S51_69 (.ptr (.own 53478401) 0) (Hbg a b (putMap 19 (ruleO 53478401 76) (putMap 30 (ruleO 53478401 75) es))) (.mapr (.own 53479425)) := by
  unfold S51_70
  rw [bld_b, ins_b, gen_fn, bld_b, ins_b]
theorem begun_71 (a b : Blk) (es : List (Int × IV)) : S51_71 (Hbg a b es) (.mapr (.own 53479425)) (ruleO 53478401 73) (.ptr (.own 53478401) 0) =
    S51_70 (fnO 75) (Hbg a b (putMap 13 (ruleO 53478401 74) (putMap 9 (ruleO 53478401 73) es))) (.mapr (.own 53479425)) (.ptr (.own 53478401) 0) := by
  unfold S51_71
  rw [ins_b, gen_fn, bld_b, ins_b, gen_fn]
theorem begun_72 (a b : Blk) (es : List (Int × IV)) : S51_72 (Hbg a b es) (.ptr (.own 53478401) 0) (.mapr (.own 53479425)) =
    S51_71 (Hbg a b (putMap 8 (ruleO 53478401 73) es)) (.mapr (.own 53479425)) (ruleO 53478401 73) (.ptr (.own 53478401) 0) := by
  unfold S51_72
  rw [gen_fn, bld_b, ins_b, gen_fn, bld_b]
theorem bld_m (k : IV → Option (IV × Hp)) : bldS [.fv (.int .i64 0), .fv (.int .i64 0), .fv (.int .i64 0), .fv (.int .i64 0), .dead] [(0, 1, .fv (.int .i64 100000)), (1, 1, .fv (.int .i64 5000000))] k = k (.agg [iv 100000, iv 5000000, iv 0, iv 0, .dead]) := by
  simp only [↓XX, ↓reduceIte, Nat.reduceBEq, decide_true, decide_false, Bool.not_true, Bool.not_false, List.map_cons, List.map_nil, List.length_map, List.length_cons, List.length_nil, Nat.reduceAdd, Int.cast_ofNat_Int, Int.natCast_zero, Int.natCast_one, Bool.false_eq_true, Bool.true_eq_false, decide_eq_true_eq, eq_self, Int.reduceEq, Int.reduceLT, Int.reduceLE, Bool.and_true, Bool.true_and, Bool.and_false, Bool.false_and, Nat.zero_add, ↓alv_dead]
theorem begun_e {n : Nat} (hn : 0 < n) (a b : Blk) : SS dt n 51 [] ⟨[(20971520, a), (20971521, b)], []⟩ = some (.ptr (.own 53478401) 0, Hnm a b 100000 5000000 0 0) := by
  obtain ⟨n, rfl⟩ : ∃ k, n = k + 1 := ⟨n - 1, by omega⟩
  rw [c51]
  unfold S51
  rw [bld_m, box_agg']
  have e1 : ∀ k : IV → Hp → List Ref → List Ref → Option (IV × Hp), newS 53478401 (.row [iv 100000, iv 5000000, iv 0, iv 0, .dead] false) (.ptr (.own 53478401) 0) ⟨[(20971520, a), (20971521, b)], []⟩ k =
      k (.ptr (.own 53478401) 0) ⟨[(20971520, a), (20971521, b), (53478401, .row [iv 100000, iv 5000000, iv 0, iv 0, .dead] false)], []⟩ [] [.own 53478401] := by
    intro k
    simp only [↓XX, ↓reduceIte, Nat.reduceBEq, decide_true, decide_false, Bool.not_true, Bool.not_false, List.map_cons, List.map_nil, List.length_map, List.length_cons, List.length_nil, Nat.reduceAdd, Int.cast_ofNat_Int, Int.natCast_zero, Int.natCast_one, Bool.false_eq_true, Bool.true_eq_false, decide_eq_true_eq, eq_self, Int.reduceEq, Int.reduceLT, Int.reduceLE, Bool.and_true, Bool.true_and, Bool.and_false, Bool.false_and, Nat.zero_add]
  rw [e1]
  have e2 : ∀ k : IV → Hp → List Ref → List Ref → Option (IV × Hp), genS (pcMakeMap 53479425) 53479425 ⟨[(20971520, a), (20971521, b), (53478401, .row [iv 100000, iv 5000000, iv 0, iv 0, .dead] false)], []⟩ k =
      k (.mapr (.own 53479425)) (Hbg a b []) [] [.own 53479425] := by
    intro k
    rw [mk_m]
    simp only [↓XX, ↓reduceIte, Nat.reduceBEq, decide_true, decide_false, Bool.not_true, Bool.not_false, List.map_cons, List.map_nil, List.length_map, List.length_cons, List.length_nil, Nat.reduceAdd, Int.cast_ofNat_Int, Int.natCast_zero, Int.natCast_one, Bool.false_eq_true, Bool.true_eq_false, decide_eq_true_eq, eq_self, Int.reduceEq, Int.reduceLT, Int.reduceLE, Bool.and_true, Bool.true_and, Bool.and_false, Bool.false_and, Nat.zero_add]
  rw [e2, gen_fn, bld_b, ins_b, begun_72, begun_71, begun_70, begun_69]
  rfl
section
variable {ih : Handler} {f : FuncId} {w : FV} {a b : Blk} {s u r e s' u' r' e' : Int} (k : IV → Hp → List Ref → List Ref → Option (IV × Hp))
theorem iso_n (args : List IV) (ks : List Bool) (hks : ∀ b ∈ ks, b = false) {vs : List FV} (hz : frzPL args = some vs) (hr : AnsX (ih f (.ptr (.ext 0) 0 :: vs.map .fv) ⟨[], MX s u r e⟩) w (MX s' u' r' e')) :
    isoS (true :: ks) false false ih f (.ptr (.own 53478401) 0 :: args) (Hnm a b s u r e) k = k (.fv w) (Hnm a b s' u' r' e') [.own 53479425, .own 53478401] [.own 53478401, .own 53479425] := by
  rw [iso_om hks hz (mp := 53479425) (by decide) (by rfl) (by rfl) hr]
  rfl
theorem iso_n3 {x y : IV} {vx vy : FV} (hr : AnsX (ih f [.ptr (.ext 0) 0, .fv vx, .fv vy] ⟨[], MX s u r e⟩) w (MX s' u' r' e')) (hx : frzP x = some vx) (hy : frzP y = some vy) :
    isoS [true, false, false] false false ih f [.ptr (.own 53478401) 0, x, y] (Hnm a b s u r e) k = k (.fv w) (Hnm a b s' u' r' e') [.own 53479425, .own 53478401] [.own 53478401, .own 53479425] :=
  iso_n k [x, y] [false, false] (by simp) (zl_2 hx hy) hr
theorem iso_n4 {x y z : IV} {vx vy vz : FV} (hr : AnsX (ih f [.ptr (.ext 0) 0, .fv vx, .fv vy, .fv vz] ⟨[], MX s u r e⟩) w (MX s' u' r' e')) (hx : frzP x = some vx) (hy : frzP y = some vy) (hz : frzP z = some vz) :
    isoS [true, false, false, false] false false ih f [.ptr (.own 53478401) 0, x, y, z] (Hnm a b s u r e) k = k (.fv w) (Hnm a b s' u' r' e') [.own 53479425, .own 53478401] [.own 53478401, .own 53479425] :=
  iso_n k [x, y, z] [false, false, false] (by simp) (zl_3 hx hy hz) hr
end
set_option maxRecDepth 20000 in
set_option maxHeartbeats 1000000 in
theorem normP_ok {f n : Nat} {t u : Tm} {e : Int} (h : normP f t = some (u, e)) (hn : f + 3 ≤ n) (hw : t.wt + 3 < n) (hw2 : t.wt ≤ 1152921504606846976) : Ans (SS dt n 20 [.fv t.enc] ⟨[], []⟩) (.tuple [u.enc, .int .i64 e]) := by
  obtain ⟨n, rfl⟩ : ∃ k, n = k + 1 := ⟨n - 1, by omega⟩
  rw [c20]
  have hs := shaped_ok n t (by omega) hw2
  unfold normP at h
  obtain ⟨op, m, ks⟩ := t
  rw [enc_mk] at hs ⊢
  by_cases h0 : (Tm.mk op m ks).shaped = false
  · rw [if_pos h0] at h
    simp only [Option.some.injEq, Prod.mk.injEq] at h
    obtain ⟨rfl, rfl⟩ := h
    rw [h0] at hs
    simp only [S20_77, S20_78, S20_79, S20_80, S20_81, S20_82, S20_83, S20_84, S20_85, S20_86, S20, ↓XX, ↓reduceIte, Nat.reduceBEq, decide_true, decide_false, Bool.not_true, Bool.not_false, List.map_cons, List.map_nil, List.length_map, List.length_cons, List.length_nil, Nat.reduceAdd, Int.cast_ofNat_Int, Int.natCast_zero, Int.natCast_one, Bool.false_eq_true, Bool.true_eq_false, decide_eq_true_eq, eq_self, Int.reduceEq, Int.reduceLT, Int.reduceLE, Bool.and_true, Bool.true_and, Bool.and_false, Bool.false_and, Nat.zero_add, ↓iso_1 hs]
    exact ans_t rfl (by simp) _
  · rw [if_neg h0] at h
    have h0 : (Tm.mk op m ks).shaped = true := by simpa using h0
    rw [h0] at hs
    cases hev : evP f [] (.mk op m ks) ⟨100000, 5000000, 0⟩ with
    | none => rw [hev] at h; cases h
    | some q =>
      obtain ⟨v, m1⟩ := q
      rw [hev] at h
      simp only at h
      have hc1 := (mx_ok f).1 _ _ _ _ _ hev 0 n (by omega)
      rw [enc_mk, penv_nil] at hc1
      by_cases h1 : m1.e = 0
      · rw [if_neg (by simpa using h1)] at h
        simp only [h1] at hc1
        cases hbk : bkP f v 0 1 m1 0 with
        | none => rw [hbk] at h; cases h
        | some q =>
          obtain ⟨u1, m2, r2⟩ := q
          rw [hbk] at h
          simp only at h
          have hc2 := bk_ok f _ _ _ _ _ _ _ _ hbk n (by omega)
          obtain ⟨o1, n1, k1⟩ := u1
          rw [enc_mk] at hc2
          simp only [h1] at hc2
          by_cases h2 : m2.e = 0
          · rw [if_neg (by simpa using h2)] at h
            simp only [Option.some.injEq, Prod.mk.injEq] at h
            obtain ⟨rfl, rfl⟩ := h
            rw [enc_mk]
            simp only [S20_77, S20_78, S20_79, S20_80, S20_81, S20_82, S20_83, S20_84, S20_85, S20_86, S20, ↓XX, ↓reduceIte, Nat.reduceBEq, decide_true, decide_false, Bool.not_true, Bool.not_false, List.map_cons, List.map_nil, List.length_map, List.length_cons, List.length_nil, Nat.reduceAdd, Int.cast_ofNat_Int, Int.natCast_zero, Int.natCast_one, Bool.false_eq_true, Bool.true_eq_false, decide_eq_true_eq, eq_self, Int.reduceEq, Int.reduceLT, Int.reduceLE, Bool.and_true, Bool.true_and, Bool.and_false, Bool.false_and, Nat.zero_add, ↓iso_1 hs, ↓inl_e (begun_e (n := n) (by omega) _ _), ↓iso_n3 _ hc1, ↓iso_n4 _ hc2, h1, h2]
            exact ans_fv _ _
          · rw [if_pos h2] at h
            simp only [Option.some.injEq, Prod.mk.injEq] at h
            obtain ⟨rfl, rfl⟩ := h
            simp only [S20_77, S20_78, S20_79, S20_80, S20_81, S20_82, S20_83, S20_84, S20_85, S20_86, S20, ↓XX, ↓reduceIte, Nat.reduceBEq, decide_true, decide_false, Bool.not_true, Bool.not_false, List.map_cons, List.map_nil, List.length_map, List.length_cons, List.length_nil, Nat.reduceAdd, Int.cast_ofNat_Int, Int.natCast_zero, Int.natCast_one, Bool.false_eq_true, Bool.true_eq_false, decide_eq_true_eq, eq_self, Int.reduceEq, Int.reduceLT, Int.reduceLE, Bool.and_true, Bool.true_and, Bool.and_false, Bool.false_and, Nat.zero_add, ↓iso_1 hs, ↓inl_e (begun_e (n := n) (by omega) _ _), ↓iso_n3 _ hc1, ↓iso_n4 _ hc2, h1, h2]
            exact ans_t rfl (by simp) _
      · rw [if_pos h1] at h
        simp only [Option.some.injEq, Prod.mk.injEq] at h
        obtain ⟨rfl, rfl⟩ := h
        simp only [S20_77, S20_78, S20_79, S20_80, S20_81, S20_82, S20_83, S20_84, S20_85, S20_86, S20, ↓XX, ↓reduceIte, Nat.reduceBEq, decide_true, decide_false, Bool.not_true, Bool.not_false, List.map_cons, List.map_nil, List.length_map, List.length_cons, List.length_nil, Nat.reduceAdd, Int.cast_ofNat_Int, Int.natCast_zero, Int.natCast_one, Bool.false_eq_true, Bool.true_eq_false, decide_eq_true_eq, eq_self, Int.reduceEq, Int.reduceLT, Int.reduceLE, Bool.and_true, Bool.true_and, Bool.and_false, Bool.false_and, Nat.zero_add, ↓iso_1 hs, ↓inl_e (begun_e (n := n) (by omega) _ _), ↓iso_n3 _ hc1, h1]
        exact ans_t rfl (by simp) _
end Idl
end Go.Proofs.Ytbkdidonegggdaa
namespace Go.Proofs.Ytbkdidonegggdaa
namespace Idl
theorem tick_e {m : M3} (h1 : 0 < m.w) (h2 : m.w ≤ 1000000000) : tickP m = some ⟨m.s, m.w - 1, m.e⟩ := by
  unfold tickP
  rw [if_neg (by omega), if_neg (by omega)]
def tnum : Nat → Tm
  | 0 => .mk 11 0 []
  | n + 1 => .mk 12 0 [tnum n]
def numV : Nat → PV
  | 0 => .mk 11 0 [] (tnum 0) []
  | n + 1 => .mk 12 0 [numV n] (tnum (n + 1)) []
theorem bind12 : bindN 12 0 = 0 := by decide
theorem ev_num : ∀ (k f : Nat) (s w : Int), k + 4 ≤ f → (k : Int) + 1 ≤ w → w ≤ 1000000000 → evP f [] (tnum k) ⟨s, w, 0⟩ = some (numV k, ⟨s, w - (k + 1), 0⟩)
  | 0, f, s, w, hf, hw, hw2 => by
    obtain ⟨f, rfl⟩ : ∃ j, f = j + 1 + 1 := ⟨f - 2, by omega⟩
    rw [tnum, evP, tick_e (by simp only; omega) hw2]
    simp only
    rw [if_neg (by decide), if_neg (by simp), if_neg (by simp)]
    simp only [kdP]
    rw [if_neg (by simp), ctP]
    simp [isRule, numV, tnum]
  | k + 1, f, s, w, hf, hw, hw2 => by
    obtain ⟨f, rfl⟩ : ∃ j, f = j + 1 + 1 := ⟨f - 2, by omega⟩
    rw [tnum, evP, tick_e (by simp only; omega) hw2]
    simp only
    rw [if_neg (by decide), if_neg (by simp; omega), if_neg (by simp)]
    simp only [kdP, bind12, Nat.lt_irrefl, if_false, ev_num k (f + 1) s (w - 1) (by omega) (by omega) (by omega), Option.map_some]
    rw [if_neg (by simp), ctP]
    simp [isRule, numV, tnum]
    omega
def pairT : Tm := .mk 16 0 [.mk 1 0 [], .mk 1 0 []]
def deepT (k : Nat) : Tm := .mk 13 0 [.mk 14 0 [], .mk 15 0 [], pairT, tnum k]
def dub : Nat → PV
  | 0 => .mk 15 0 [] (.mk 15 0 []) []
  | k + 1 => .mk 16 0 [dub k, dub k] pairT [dub k, numV k]
theorem ev_pair {f : Nat} (hf : 8 ≤ f) (a b : PV) {s w : Int} (hw : 3 ≤ w) (hw2 : w ≤ 1000000000) : evP f [a, b] pairT ⟨s, w, 0⟩ = some (.mk 16 0 [a, a] pairT [a, b], ⟨s, w - 3, 0⟩) := by
  obtain ⟨f, rfl⟩ : ∃ j, f = j + 1 + 1 := ⟨f - 2, by omega⟩
  have hv : ∀ (w : Int), 1 ≤ w → w ≤ 1000000000 → evP (f + 1) [a, b] (.mk 1 0 []) ⟨s, w, 0⟩ = some (a, ⟨s, w - 1, 0⟩) := by
    intro w h1 h2
    rw [evP, tick_e (by simp only; omega) h2]
    simp only
    rw [if_true, if_pos ⟨by decide, by decide, by simp; omega⟩]
    simp [lookP]
  rw [pairT, evP, tick_e (by simp only; omega) hw2]
  simp only
  rw [if_neg (by decide), if_neg (by simp; omega), if_neg (by simp)]
  have b0 : bindN 16 0 = 0 := by decide
  have b1 : bindN 16 1 = 0 := by decide
  simp only [kdP, b0, b1, Nat.lt_irrefl, if_false, hv (w - 1) (by omega) (by omega), hv (w - 1 - 1) (by omega) (by omega), Option.map_some]
  rw [if_neg (by simp), ctP]
  simp [isRule]
  omega
theorem ct_deep : ∀ (k f : Nat) (t3 : Tm) (p0 p2 : PV) (s w : Int), 5 * k + 12 ≤ f → 4 * (k : Int) + 1 ≤ w → w ≤ 1000000000 → (k : Int) + 1 ≤ s → s ≤ 1000000000 →
    ctP f (.mk 13 0 [p0, dub 0, p2, numV k] (.mk 13 0 [.mk 14 0 [], .mk 15 0 [], pairT, t3]) []) ⟨s, w, 0⟩ = some (dub k, ⟨s - (k + 1), w - (4 * k + 1), 0⟩)
  | 0, f, t3, p0, p2, s, w, hf, hw, hw2, hs, hs2 => by
    obtain ⟨f, rfl⟩ : ∃ j, f = j + 1 + 1 := ⟨f - 2, by omega⟩
    rw [ctP, if_pos (by decide), if_neg (by simp), if_neg (by omega), tick_e (by simp only; omega) hw2]
    simp only
    rw [if_neg (by simp), stP.eq_def]
    simp only [numV, tnum]
    rw [if_neg (by decide), if_neg (by decide), if_true, if_true]
    simp only [dub]
    rw [if_neg (by simp), if_neg (by omega)]
    simp
    omega
  | k + 1, f, t3, p0, p2, s, w, hf, hw, hw2, hs, hs2 => by
    obtain ⟨f, rfl⟩ : ∃ j, f = j + 1 + 1 + 1 := ⟨f - 3, by omega⟩
    rw [ctP, if_pos (by decide), if_neg (by simp), if_neg (by omega), tick_e (by simp only; omega) hw2]
    simp only
    rw [if_neg (by simp), stP.eq_def]
    simp only [numV, tnum]
    rw [if_neg (by decide), if_neg (by decide), if_true, if_neg (by decide), if_true]
    rw [ct_deep k (f + 1) t3 .nil .nil s (w - 1) (by omega) (by omega) (by omega) (by omega) (by omega)]
    simp only
    rw [opP]
    rw [if_neg (by simp; omega)]
    simp only [List.getElem?_cons_succ, List.getElem?_cons_zero, List.reverse_cons, List.reverse_nil, List.nil_append, List.cons_append, List.append_nil]
    rw [ev_pair (by omega) _ _ (by omega) (by omega)]
    simp only
    rw [if_neg (by simp), if_neg (by omega)]
    simp [dub]
    omega
theorem ev_deep (k f : Nat) (hf : 6 * k + 40 ≤ f) (hk : k ≤ 1000) : evP f [] (deepT k) ⟨100000, 5000000, 0⟩ = some (dub k, ⟨100000 - (k + 1), 5000000 - (5 * k + 4), 0⟩) := by
  obtain ⟨f, rfl⟩ : ∃ j, f = j + 1 + 1 := ⟨f - 2, by omega⟩
  rw [deepT, evP, tick_e (by decide) (by decide)]
  simp only
  rw [if_neg (by decide), if_neg (by simp; omega), if_neg (by simp)]
  have b0 : bindN 13 0 = 1 := by decide
  have b1 : bindN 13 1 = 0 := by decide
  have b2 : bindN 13 2 = 2 := by decide
  have b3 : bindN 13 3 = 0 := by decide
  have h1 : evP (f + 1) [] (.mk 15 0 []) ⟨100000, 5000000 - 1, 0⟩ = some (dub 0, ⟨100000, 5000000 - 1 - 1, 0⟩) := by
    obtain ⟨f, rfl⟩ : ∃ j, f = j + 1 := ⟨f - 1, by omega⟩
    rw [evP, tick_e (by decide) (by decide)]
    simp only
    rw [if_neg (by decide), if_neg (by simp), if_neg (by simp)]
    simp only [kdP]
    rw [if_neg (by simp), ctP]
    simp [isRule, dub]
  simp only [kdP, b0, b1, b2, b3, Nat.lt_irrefl, if_false, Nat.lt_add_one, Nat.zero_lt_succ, if_true, h1, ev_num k (f + 1) 100000 (5000000 - 1 - 1) (by omega) (by omega) (by omega), Option.map_some]
  rw [if_neg (by simp)]
  have := ct_deep k (f + 1) (tnum k) .nil .nil 100000 (5000000 - 1 - 1 - (k + 1)) (by omega) (by omega) (by omega) (by omega) (by omega)
  rw [this]
  simp
  omega
def treeT : Nat → Tm
  | 0 => .mk 15 0 []
  | k + 1 => .mk 16 0 [treeT k, treeT k]
theorem tree_wt : ∀ k, (treeT k).wt = 2 ^ (k + 1) - 1
  | 0 => rfl
  | k + 1 => by
    have := tree_wt k
    have h := Nat.one_le_two_pow (n := k + 1)
    simp only [treeT, Tm.wt, Tm.wtL, this, Nat.pow_succ] at *
    omega
theorem bk_dub : ∀ (k f : Nat) (below deep s w r : Int), k + 12 ≤ f → 0 ≤ below → below ≤ 1000000 → 0 ≤ deep → deep + k ≤ 120 → 0 ≤ r → r ≤ 3000 → 3001 - r ≤ w → w ≤ 1000000000 →
    (r + (2 ^ (k + 1) - 1 : Nat) ≤ 3000 → bkP f (dub k) below deep ⟨s, w, 0⟩ r = some (treeT k, ⟨s, w - (2 ^ (k + 1) - 1 : Nat), 0⟩, r + (2 ^ (k + 1) - 1 : Nat))) ∧
    (3000 < r + (2 ^ (k + 1) - 1 : Nat) → ∃ u, bkP f (dub k) below deep ⟨s, w, 0⟩ r = some (u, ⟨s, w - (3001 - r), 5⟩, 3001)) := by
  intro k
  induction k with
  | zero =>
    intro f below deep s w r hf hb1 hb2 hd1 hd2 hr1 hr2 hw hw2
    obtain ⟨f, rfl⟩ : ∃ j, f = j + 1 := ⟨f - 1, by omega⟩
    constructor
    · intro h
      simp only [Nat.zero_add, Nat.pow_one] at h ⊢
      rw [bkP.eq_def]
      simp only [dub]
      rw [if_neg (by omega), if_neg (by omega), tick_e (by simp only; omega) hw2]
      simp only
      rw [if_neg (by simp), if_neg (by decide), if_neg (by simp; omega)]
      simp [bkK, treeT]
    · intro h
      simp only [Nat.zero_add, Nat.pow_one] at h
      have : r = 3000 := by omega
      subst this
      refine ⟨.z, ?_⟩
      rw [bkP.eq_def]
      simp only [dub]
      rw [if_neg (by omega), if_pos (by simp), tick_e (by simp only; omega) hw2]
      simp
  | succ k ih =>
    intro f below deep s w r hf hb1 hb2 hd1 hd2 hr1 hr2 hw hw2
    obtain ⟨f, rfl⟩ : ∃ j, f = j + 1 := ⟨f - 1, by omega⟩
    have hp := Nat.one_le_two_pow (n := k + 1)
    have hpow : 2 ^ (k + 1 + 1) - 1 = 1 + (2 ^ (k + 1) - 1) + (2 ^ (k + 1) - 1) := by rw [Nat.pow_succ 2 (k + 1)]; omega
    rw [hpow]
    generalize hN : 2 ^ (k + 1) - 1 = N at *
    have b0 : bindN 16 0 = 0 := by decide
    have b1 : bindN 16 1 = 0 := by decide
    by_cases hr3 : r = 3000
    · subst hr3
      refine ⟨fun h => by omega, fun _ => ⟨.z, ?_⟩⟩
      rw [bkP.eq_def]
      simp only [dub]
      rw [if_neg (by omega), if_pos (by simp), tick_e (by simp only; omega) hw2]
      simp
    · have i1 := ih f (below + ((0 : Nat) : Int)) (deep + 1) s (w - 1) (r + 1) (by omega) (by omega) (by omega) (by omega) (by omega) (by omega) (by omega) (by omega) (by omega)
      have start : bkP (f + 1) (dub (k + 1)) below deep ⟨s, w, 0⟩ r = match bkK (fun v below m r => bkP f v below (deep + 1) m r) (fun i l m => opP f (dub (k + 1)) i l m) 16 below 0 [dub k, dub k] ⟨s, w - 1, 0⟩ (r + 1) with
          | none => none
          | some (none, m, r) => some (.z, m, r)
          | some (some ts, m, r) => some (.mk 16 0 ts, m, r) := by
        rw [bkP.eq_def]
        simp only [dub]
        rw [if_neg (by omega), if_neg (by omega), tick_e (by simp only; omega) hw2]
        simp only
        rw [if_neg (by simp), if_neg (by decide), if_neg (by simp; omega)]
        all_goals rfl
      rw [start]
      by_cases h1 : r + 1 + (N : Int) ≤ 3000
      · have e1 := i1.1 h1
        have i2 := ih f (below + ((0 : Nat) : Int)) (deep + 1) s (w - 1 - N) (r + 1 + N) (by omega) (by omega) (by omega) (by omega) (by omega) (by omega) (by omega) (by omega) (by omega)
        constructor
        · intro h
          have e2 := i2.1 (by omega)
          simp only [bkK, b0, b1, Nat.lt_irrefl, if_false, ne_eq, not_true_eq_false, e1, e2, Option.map_some, treeT]
          simp only [Option.some.injEq, Prod.mk.injEq, M3.mk.injEq, true_and, and_true]
          omega
        · intro h
          obtain ⟨u, e2⟩ := i2.2 (by omega)
          refine ⟨.mk 16 0 [treeT k, u], ?_⟩
          simp only [bkK, b0, b1, Nat.lt_irrefl, if_false, ne_eq, not_true_eq_false, e1, e2, Option.map_some]
          simp only [Option.some.injEq, Prod.mk.injEq, M3.mk.injEq, true_and, and_true]
          omega
      · obtain ⟨u, e1⟩ := i1.2 (by omega)
        refine ⟨fun h => by omega, fun _ => ⟨.z, ?_⟩⟩
        have e5 : ¬ (5 : Int) = 0 := by decide
        simp only [bkK, b0, b1, Nat.lt_irrefl, if_false, ne_eq, not_true_eq_false, e1, Option.map_some, e5, not_false_eq_true, if_true, Option.map_none]
        simp only [Option.some.injEq, Prod.mk.injEq, M3.mk.injEq, true_and, and_true]
        omega
theorem shaped_num : ∀ k, (tnum k).shaped = true
  | 0 => by decide
  | k + 1 => by
    simp only [tnum, Tm.shaped, Tm.shapedL, shaped_num k]
    rfl
theorem shaped_deep (k : Nat) : (deepT k).shaped = true := by
  simp only [deepT, pairT, Tm.shaped, Tm.shapedL, shaped_num k]
  rfl
theorem norm_deep (k : Nat) (hk : k < 40) : normP 400 (deepT k) = if k ≤ 10 then some (treeT k, 0) else some (.z, 5) := by
  unfold normP
  rw [if_neg (by rw [shaped_deep]; decide), ev_deep k 400 (by omega) (by omega)]
  simp only
  rw [if_neg (by simp)]
  have h := bk_dub k 400 0 1 (100000 - (k + 1)) (5000000 - (5 * k + 4)) 0 (by omega) (by omega) (by omega) (by omega) (by omega) (by omega) (by omega) (by omega) (by omega)
  by_cases h10 : k ≤ 10
  · rw [if_pos h10]
    have hp : 2 ^ (k + 1) ≤ 2 ^ 11 := Nat.pow_le_pow_right (by decide) (by omega)
    rw [h.1 (by omega)]
    simp
  · rw [if_neg h10]
    have hp : 2 ^ 12 ≤ 2 ^ (k + 1) := Nat.pow_le_pow_right (by decide) (by omega)
    obtain ⟨u, e⟩ := h.2 (by omega)
    rw [e]
    simp
end Idl
end Go.Proofs.Ytbkdidonegggdaa
namespace Go.Proofs.Ytbkdidonegggdaa
namespace Idl
theorem bs1_tm' (o p : Int) (l : List Tm) (s : Nat) (h : Hp) (k : IV → Hp → List Ref → List Ref → Option (IV × Hp)) : genS (pcBuildSlice EE 29 1 [(0, .fv (.agg [.int .i64 o, .int .i64 p, .sl (l.map Tm.enc)]))]) s h k = k (.clip [.agg [.int .i64 o, .int .i64 p, .sl (l.map Tm.enc)]]) h [] [] := by
  have := bs1_tm (.mk o p l) s h k
  rw [enc_mk] at this
  exact this
def isTrueN (o : Option (IV × Hp)) : Bool := match o with
  | some (.fv (.bool b), ⟨_, []⟩) => b
  | _ => false
theorem ans_trueN {o : Option (IV × Hp)} (h : isTrueN o = true) : Ans o (.bool true) := by
  unfold isTrueN at h
  split at h
  · subst h; exact ans_fv _ _
  · cases h
theorem bs2_g (o1 n1 o2 n2 : Int) (k1 k2 : List FV) (s : Nat) (h : Hp) (k : IV → Hp → List Ref → List Ref → Option (IV × Hp)) : genS (pcBuildSlice EE 29 2 [(0, .fv (.agg [.int .i64 o1, .int .i64 n1, .sl k1])), (1, .fv (.agg [.int .i64 o2, .int .i64 n2, .sl k2]))]) s h k =
    k (.clip [.agg [.int .i64 o1, .int .i64 n1, .sl k1], .agg [.int .i64 o2, .int .i64 n2, .sl k2]]) h [] [] := bs_tm tTms tTm (by decide) (cells := [.int .i64 o1, .int .i64 n1, .sl k1, .int .i64 o2, .int .i64 n2, .sl k2]) rfl k
theorem bs3_g (o1 n1 o2 n2 o3 n3 : Int) (k1 k2 k3 : List FV) (s : Nat) (h : Hp) (k : IV → Hp → List Ref → List Ref → Option (IV × Hp)) : genS (pcBuildSlice EE 29 3 [(0, .fv (.agg [.int .i64 o1, .int .i64 n1, .sl k1])), (1, .fv (.agg [.int .i64 o2, .int .i64 n2, .sl k2])), (2, .fv (.agg [.int .i64 o3, .int .i64 n3, .sl k3]))]) s h k =
    k (.clip [.agg [.int .i64 o1, .int .i64 n1, .sl k1], .agg [.int .i64 o2, .int .i64 n2, .sl k2], .agg [.int .i64 o3, .int .i64 n3, .sl k3]]) h [] [] := bs_tm tTms tTm (by decide) (cells := [.int .i64 o1, .int .i64 n1, .sl k1, .int .i64 o2, .int .i64 n2, .sl k2, .int .i64 o3, .int .i64 n3, .sl k3]) rfl k
theorem bs4_g (o1 n1 o2 n2 o3 n3 o4 n4 : Int) (k1 k2 k3 k4 : List FV) (s : Nat) (h : Hp) (k : IV → Hp → List Ref → List Ref → Option (IV × Hp)) : genS (pcBuildSlice EE 29 4 [(0, .fv (.agg [.int .i64 o1, .int .i64 n1, .sl k1])), (1, .fv (.agg [.int .i64 o2, .int .i64 n2, .sl k2])), (2, .fv (.agg [.int .i64 o3, .int .i64 n3, .sl k3])), (3, .fv (.agg [.int .i64 o4, .int .i64 n4, .sl k4]))]) s h k =
    k (.clip [.agg [.int .i64 o1, .int .i64 n1, .sl k1], .agg [.int .i64 o2, .int .i64 n2, .sl k2], .agg [.int .i64 o3, .int .i64 n3, .sl k3], .agg [.int .i64 o4, .int .i64 n4, .sl k4]]) h [] [] := bs_tm tTms tTm (by decide) (cells := [.int .i64 o1, .int .i64 n1, .sl k1, .int .i64 o2, .int .i64 n2, .sl k2, .int .i64 o3, .int .i64 n3, .sl k3, .int .i64 o4, .int .i64 n4, .sl k4]) rfl k
theorem bs1_g (o1 n1 : Int) (k1 : List FV) (s : Nat) (h : Hp) (k : IV → Hp → List Ref → List Ref → Option (IV × Hp)) : genS (pcBuildSlice EE 29 1 [(0, .fv (.agg [.int .i64 o1, .int .i64 n1, .sl k1]))]) s h k =
    k (.clip [.agg [.int .i64 o1, .int .i64 n1, .sl k1]]) h [] [] := bs_tm tTms tTm (by decide) (cells := [.int .i64 o1, .int .i64 n1, .sl k1]) rfl k
theorem opt_some {β : Type} {x : Option IV} {v : IV} (h : x = some v) (k : IV → Option β) : optS x k = k v := by rw [optS_eq, h]; rfl
theorem bin_some {β : Type} {op : BinOp} {t : TypeId} {a b v : IV} (h : binR EE op t a b = some v) (k : IV → Option β) : binS EE t op a b k = k v := opt_some h k
def AnsV (r : Option (IV × Hp)) (v : FV) : Prop := ∃ own, r = some (.fv v, ⟨own, []⟩)
theorem ansv {v : FV} {own : List (Nat × Blk)} : AnsV (some (.fv v, ⟨own, []⟩)) v := ⟨own, rfl⟩
theorem num_ok {n : Nat} (k : Nat) (hn : k + 3 < n) (hk : k ≤ 1000000) : Ans (SS dt n 35 [iv k] ⟨[], []⟩) (tnum k).enc := by
  obtain ⟨n, rfl⟩ : ∃ j, n = j + 1 := ⟨n - 1, by omega⟩
  rw [c35]
  have h0 := t0_ok (n := n) (by omega) 11
  rw [enc_mk] at h0
  simp only [S35_49, S35_50, S35_51, S35, ↓XX, ↓reduceIte, Nat.reduceBEq, decide_true, decide_false, Bool.not_true, Bool.not_false, List.map_cons, List.map_nil, List.length_map, List.length_cons, List.length_nil, Nat.reduceAdd, Int.cast_ofNat_Int, Int.natCast_zero, Int.natCast_one, Bool.false_eq_true, Bool.true_eq_false, decide_eq_true_eq, eq_self, Int.reduceEq, Int.reduceLT, Int.reduceLE, Bool.and_true, Bool.true_and, Bool.and_false, Bool.false_and, Nat.zero_add, ↓iso_2 h0]
  refine loop_run (Q := fun r => Ans r _) (fun j V H => ∃ (i : Nat), i + j = k ∧ V = [iv k, .ptr (.own 36700160) 0, .ptr (.own 36701185) 0, iv i] ∧
      H = ⟨[(36700160, .row [iv 0, iv 0, .nils] false), (36701185, .row [iv (tnum i).op, iv (tnum i).n, .fv (.sl ((tnum i).kids.map Tm.enc))] false)], []⟩) ?_ n k _ _ (by omega) ⟨0, by omega, rfl, rfl⟩
  rintro j V H rec ⟨i, hi, rfl, rfl⟩ hrec
  cases j with
  | zero =>
    have : i = k := by omega
    subst this
    have hno : ¬ ((i : Int) < i) := by omega
    generalize tnum i = t
    obtain ⟨o, p, l⟩ := t
    rw [enc_mk]
    simp only [S35_49, S35_50, S35_51, S35_52, S35, ↓XX, ↓reduceIte, Nat.reduceBEq, decide_true, decide_false, Bool.not_true, Bool.not_false, List.map_cons, List.map_nil, List.length_map, List.length_cons, List.length_nil, Nat.reduceAdd, Int.cast_ofNat_Int, Int.natCast_zero, Int.natCast_one, Bool.false_eq_true, Bool.true_eq_false, decide_eq_true_eq, eq_self, Int.reduceEq, Int.reduceLT, Int.reduceLE, Bool.and_true, Bool.true_and, Bool.and_false, Bool.false_and, Nat.zero_add, hno, Tm.op, Tm.n, Tm.kids]
    exact ans_fv _ _
  | succ j =>
    have hlt : (i : Int) < k := by omega
    have hw : w64 ((i : Int) + 1) = ((i + 1 : Nat) : Int) := (w64_id (by omega) (by omega)).trans (by simp)
    have ht := t_ok (n := n) (by omega) 12 [tnum i]
    have h9 := hrec j ([iv k, .ptr (.own 36700160) 0, .ptr (.own 36701185) 0, iv (i + 1 : Nat)]) (⟨[(36700160, .row [iv 0, iv 0, .nils] false), (36701185, .row [iv 12, iv 0, .fv (.sl ([tnum i].map Tm.enc))] false)], []⟩) (by omega) ⟨i + 1, by omega, rfl, rfl⟩
    generalize tnum i = t at *
    obtain ⟨o, p, l⟩ := t
    simp only [List.map_cons, List.map_nil, enc_mk] at ht h9
    simp only [S35_49, S35_50, S35_51, S35_52, S35, ↓XX, ↓reduceIte, Nat.reduceBEq, decide_true, decide_false, Bool.not_true, Bool.not_false, List.map_cons, List.map_nil, List.length_map, List.length_cons, List.length_nil, Nat.reduceAdd, Int.cast_ofNat_Int, Int.natCast_zero, Int.natCast_one, Bool.false_eq_true, Bool.true_eq_false, decide_eq_true_eq, eq_self, Int.reduceEq, Int.reduceLT, Int.reduceLE, Bool.and_true, Bool.true_and, Bool.and_false, Bool.false_and, Nat.zero_add, hlt, Tm.op, Tm.n, Tm.kids, ↓bs1_tm', ↓iso_2 ht, hw]
    exact h9
theorem tsize_ok : ∀ (n : Nat) (t : Tm), t.wt < n → t.wt ≤ 1152921504606846976 → Ans (SS dt n 36 [.fv t.enc] ⟨[], []⟩) (.int .i64 t.wt) := by
  intro n
  induction n with
  | zero => intro t h; omega
  | succ n ih =>
    intro t h hw
    obtain ⟨op, m, ks⟩ := t
    simp only [Tm.wt] at h hw ⊢
    rw [c36, enc_mk]
    have hlen := wt_len ks
    simp only [S36_32, S36_33, S36_34, S36, ↓XX, ↓reduceIte, Nat.reduceBEq, decide_true, decide_false, Bool.not_true, Bool.not_false, List.map_cons, List.map_nil, List.length_map, List.length_cons, List.length_nil, Nat.reduceAdd, Int.cast_ofNat_Int, Int.natCast_zero, Int.natCast_one, Bool.false_eq_true, Bool.true_eq_false, decide_eq_true_eq, eq_self, Int.reduceEq, Int.reduceLT, Int.reduceLE, Bool.and_true, Bool.true_and, Bool.and_false, Bool.false_and, Nat.zero_add]
    refine loop_run (Q := fun r => Ans r _) (fun k V H => ∃ (pre rest : List Tm) (acc : Nat), ks = pre ++ rest ∧ rest.length = k ∧ V = [.ptr (.own 37748736) 0, iv acc, iv pre.length] ∧ H = ⟨[(37748736, .row [iv op, iv m, .fv (.sl (ks.map Tm.enc))] false)], []⟩ ∧ acc + Tm.wtL rest = 1 + Tm.wtL ks)
      ?_ n ks.length _ _ (by omega) ⟨[], ks, 1, rfl, rfl, rfl, rfl, rfl⟩
    rintro k V H rec ⟨pre, rest, acc, hk, hl, rfl, rfl, ht⟩ hrec
    have hkl : ks.length = pre.length + rest.length := by rw [hk]; simp
    cases rest with
    | nil =>
      have hno : ¬ ((pre.length : Int) < ks.length) := by rw [hkl]; simp
      simp only [Tm.wtL] at ht
      rw [← ht]
      simp only [S36_32, S36_33, S36_34, S36_35, S36, ↓XX, ↓reduceIte, Nat.reduceBEq, decide_true, decide_false, Bool.not_true, Bool.not_false, List.map_cons, List.map_nil, List.length_map, List.length_cons, List.length_nil, Nat.reduceAdd, Int.cast_ofNat_Int, Int.natCast_zero, Int.natCast_one, Bool.false_eq_true, Bool.true_eq_false, decide_eq_true_eq, eq_self, Int.reduceEq, Int.reduceLT, Int.reduceLE, Bool.and_true, Bool.true_and, Bool.and_false, Bool.false_and, Nat.zero_add, hno]
      exact ans_fv _ _
    | cons t rest =>
      have hi : (pre.length : Int) < ks.length := by rw [hkl]; simp; omega
      have hg := at_pre hk
      have htw := wt_mem (t := t) (l := ks) (by rw [hk]; simp)
      have hs := ih t (by omega) (by omega)
      simp only [Tm.wtL] at ht
      have hwi : w64 ((pre.length : Int) + 1) = ((pre ++ [t]).length : Int) := (w64_id (by omega) (by omega)).trans (by simp)
      have hwa : w64 ((acc : Int) + (t.wt : Int)) = ((acc + t.wt : Nat) : Int) := (w64_id (by omega) (by omega)).trans (by simp)
      have h9 := hrec rest.length ([.ptr (.own 37748736) 0, iv (acc + t.wt : Nat), iv (pre ++ [t]).length]) _ (by simp only [List.length_cons] at hl; omega) ⟨pre ++ [t], rest, acc + t.wt, by rw [hk]; simp, rfl, rfl, rfl, by omega⟩
      generalize t.wt = v at hs hwa h9
      obtain ⟨o, p, l⟩ := t
      rw [enc_mk] at hs
      simp only [S36_32, S36_33, S36_34, S36_35, S36, ↓XX, ↓reduceIte, Nat.reduceBEq, decide_true, decide_false, Bool.not_true, Bool.not_false, List.map_cons, List.map_nil, List.length_map, List.length_cons, List.length_nil, Nat.reduceAdd, Int.cast_ofNat_Int, Int.natCast_zero, Int.natCast_one, Bool.false_eq_true, Bool.true_eq_false, decide_eq_true_eq, eq_self, Int.reduceEq, Int.reduceLT, Int.reduceLE, Bool.and_true, Bool.true_and, Bool.and_false, Bool.false_and, Nat.zero_add, hi, ↓ix_f (map_get hg) (agg3l _ _ _), ↓agg3, ↓iso_1 hs, hwi, hwa]
      exact h9
theorem within5_ok {n : Nat} (hn : 0 < n) (x : Int) {m : Int} (h1 : 0 < m) (h2 : m ≤ 4611686018427387904) : Ans (SS dt n 28 [iv x, iv m] ⟨[], []⟩) (.int .i64 (x % m)) := by
  obtain ⟨n, rfl⟩ := Nat.exists_eq_add_of_lt hn
  rw [Nat.zero_add, c28]
  simp only [S28, ↓XX, ↓reduceIte, Nat.reduceBEq, decide_true, decide_false, Bool.not_true, Bool.not_false, List.map_cons, List.map_nil, List.length_map, List.length_cons, List.length_nil, Nat.reduceAdd, Int.cast_ofNat_Int, Int.natCast_zero, Int.natCast_one, Bool.false_eq_true, Bool.true_eq_false, decide_eq_true_eq, eq_self, Int.reduceEq, Int.reduceLT, Int.reduceLE, Bool.and_true, Bool.true_and, Bool.and_false, Bool.false_and, Nat.zero_add, ↓rem_s (show m ≠ 0 by omega)]
  rw [← emod_w h1 h2]
  by_cases hc : x.tmod m < 0 <;> simp only [hc, if_true, if_false] <;> exact ans_fv _ _
end Idl
end Go.Proofs.Ytbkdidonegggdaa
namespace Go.Proofs.Ytbkdidonegggdaa
namespace Idl
theorem known5_run (n : Nat) : isTrueN (SS dt (n + 60) 14 [] ⟨[], []⟩) = true := by kernel_rfl
theorem known5_ok {n : Nat} (h : 60 ≤ n) : Ans (SS dt n 14 [] ⟨[], []⟩) (.bool true) := by
  obtain ⟨k, rfl⟩ : ∃ k, n = k + 60 := ⟨n - 60, by omega⟩
  exact ans_trueN (known5_run k)
theorem cv_j : ∀ j : Nat, j ≤ 10 → convR EE 3 56 (iv ((j + 1 : Nat) : Int)) = some (.fv (.int .u64 ((j + 1 : Nat) : Int))) ∧ binR EE .shl 3 (iv 1) (.fv (.int .u64 ((j + 1 : Nat) : Int))) = some (iv ((2 ^ (j + 1) : Nat) : Int)) := by
  intro j hj
  have h : j = 0 ∨ j = 1 ∨ j = 2 ∨ j = 3 ∨ j = 4 ∨ j = 5 ∨ j = 6 ∨ j = 7 ∨ j = 8 ∨ j = 9 ∨ j = 10 := by omega
  rcases h with rfl | rfl | rfl | rfl | rfl | rfl | rfl | rfl | rfl | rfl | rfl <;> exact ⟨by kernel_rfl, by kernel_rfl⟩
theorem normDeep_ok (x : Int) : ∃ N, AnsV (SS dt N 6 [.fv (.int .i64 x)] ⟨[], []⟩) (.bool true) := by
  refine ⟨8000 + 1, ?_⟩
  generalize hn : 8000 = n
  rw [c6]
  have hk := known5_ok (n := n) (by omega)
  have hw := within5_ok (n := n) (by omega) x (m := 40) (by decide) (by decide)
  have hj1 := Int.emod_nonneg x (show (40 : Int) ≠ 0 by decide)
  have hj2 := Int.emod_lt_of_pos x (show (0 : Int) < 40 by decide)
  obtain ⟨j, hj⟩ : ∃ j : Nat, x % 40 = j := ⟨(x % 40).toNat, by omega⟩
  rw [hj] at hw
  have hj40 : j < 40 := by omega
  have t14 := t0_ok (n := n) (by omega) 14
  have t15 := t0_ok (n := n) (by omega) 15
  have v0 := v_ok (n := n) (by omega) 0
  have t16 := t_ok (n := n) (by omega) 16 [.mk 1 0 [], .mk 1 0 []]
  have hnum := num_ok (n := n) j (by omega) (by omega)
  have t13 := t_ok (n := n) (by omega) 13 [.mk 14 0 [], .mk 15 0 [], pairT, tnum j]
  have hN : ∀ u e, normP 400 (deepT j) = some (u, e) → _ := fun u e h => normP_ok (n := n) h (by omega) (by
    have : ∀ k, (tnum k).wt = k + 1 := by
      intro k
      induction k with
      | zero => rfl
      | succ k ih => simp only [tnum, Tm.wt, Tm.wtL, ih]; omega
    simp only [deepT, pairT, Tm.wt, Tm.wtL, this]; omega) (by
    have : ∀ k, (tnum k).wt = k + 1 := by
      intro k
      induction k with
      | zero => rfl
      | succ k ih => simp only [tnum, Tm.wt, Tm.wtL, ih]; omega
    simp only [deepT, pairT, Tm.wt, Tm.wtL, this]; omega)
  rw [norm_deep j hj40] at hN
  have wj : w64 ((j : Int) + 1) = ((j + 1 : Nat) : Int) := (w64_id (by omega) (by omega)).trans (by simp)
  by_cases h10 : j ≤ 10
  · rw [if_pos h10] at hN
    have hN := hN _ _ rfl
    have hno : ¬ (10 : Int) < j := by omega
    obtain ⟨cv, sh⟩ := cv_j j h10
    have hsz := tsize_ok n (treeT j) (by
      rw [tree_wt]
      have hp : 2 ^ (j + 1) ≤ 2 ^ 11 := Nat.pow_le_pow_right (by decide) (by omega)
      omega) (by
      rw [tree_wt]
      have hp : 2 ^ (j + 1) ≤ 2 ^ 11 := Nat.pow_le_pow_right (by decide) (by omega)
      omega)
    have hp1 := Nat.one_le_two_pow (n := j + 1)
    have hp2 : 2 ^ (j + 1) ≤ 2 ^ 11 := Nat.pow_le_pow_right (by decide) (by omega)
    have wsub : w64 (((2 ^ (j + 1) : Nat) : Int) - 1) = ((2 ^ (j + 1) - 1 : Nat) : Int) := (w64_id (by omega) (by omega)).trans (by omega)
    rw [tree_wt] at hsz
    generalize 2 ^ (j + 1) - 1 = q at hsz wsub
    generalize 2 ^ (j + 1) = p at sh wsub
    generalize treeT j = u at hN hsz
    rw [deepT] at hN
    generalize tnum j = nm at hnum t13 hN
    obtain ⟨o1, n1, k1⟩ := u
    obtain ⟨o2, n2, k2⟩ := nm
    simp only [pairT, List.map_cons, List.map_nil, enc_mk] at t14 t15 v0 t16 hnum t13 hN hsz
    simp only [S6_169, S6_170, S6_171, S6_172, S6_173, S6_174, S6_175, S6_176, S6, ↓XX, ↓reduceIte, Nat.reduceBEq, decide_true, decide_false, Bool.not_true, Bool.not_false, List.map_cons, List.map_nil, List.length_map, List.length_cons, List.length_nil, Nat.reduceAdd, Int.cast_ofNat_Int, Int.natCast_zero, Int.natCast_one, Bool.false_eq_true, Bool.true_eq_false, decide_eq_true_eq, eq_self, Int.reduceEq, Int.reduceLT, Int.reduceLE, Bool.and_true, Bool.true_and, Bool.and_false, Bool.false_and, Nat.zero_add, ↓iso_0 hk, ↓iso_2 hw, ↓iso_2 t14, ↓iso_2 t15, ↓iso_1 v0, ↓bs2_g, ↓bs4_g, ↓iso_2 t16, ↓iso_1 hnum, ↓iso_2 t13, ↓iso_1 hN, ↓iso_1 hsz, hno, wj, ↓opt_some cv, ↓bin_some sh, wsub]
    exact ansv
  · rw [if_neg h10] at hN
    have hN := hN _ _ rfl
    have hyes : (10 : Int) < j := by omega
    rw [deepT] at hN
    generalize tnum j = nm at hnum t13 hN
    obtain ⟨o2, n2, k2⟩ := nm
    simp only [pairT, Tm.z, List.map_cons, List.map_nil, enc_mk] at t14 t15 v0 t16 hnum t13 hN
    simp only [S6_169, S6_170, S6_171, S6_172, S6_173, S6_174, S6_175, S6_176, S6, ↓XX, ↓reduceIte, Nat.reduceBEq, decide_true, decide_false, Bool.not_true, Bool.not_false, List.map_cons, List.map_nil, List.length_map, List.length_cons, List.length_nil, Nat.reduceAdd, Int.cast_ofNat_Int, Int.natCast_zero, Int.natCast_one, Bool.false_eq_true, Bool.true_eq_false, decide_eq_true_eq, eq_self, Int.reduceEq, Int.reduceLT, Int.reduceLE, Bool.and_true, Bool.true_and, Bool.and_false, Bool.false_and, Nat.zero_add, ↓iso_0 hk, ↓iso_2 hw, ↓iso_2 t14, ↓iso_2 t15, ↓iso_1 v0, ↓bs2_g, ↓bs4_g, ↓iso_2 t16, ↓iso_1 hnum, ↓iso_2 t13, ↓iso_1 hN, hyes]
    exact ansv
end Idl
end Go.Proofs.Ytbkdidonegggdaa

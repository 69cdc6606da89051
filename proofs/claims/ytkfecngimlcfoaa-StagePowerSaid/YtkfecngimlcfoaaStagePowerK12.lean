/-
  Texts of a proof, part 12: an ideal semantics of the program, its functions in shallow form, contracts of them. No statement of the seat is proved here.
-/
import Derived.Test.YtkfecngimlcfoaaStagePowerK11
set_option linter.all false
namespace Go.Proofs.Ytkfecngimlcfoaa
namespace Idl
set_option maxRecDepth 20000 in
set_option maxHeartbeats 1000000 in
theorem bk_in {f n : Nat} {v y : PV} {below deep : Int} {i b kl : Nat} {len : Int} {done : List Tm} {rest : Nat} {m m4 : M3} {r : Int} {w : FV} {ext : List Blk} (hn : f + 1 ≤ n) (h3 : 3 ≤ n) (ext4 : List Blk)
    {j : IV → IV → IV → IV → IV → IV → IV → IV → IV → IV → IV → Hp → Option (IV × Hp)} (hb : b ≤ 2) (hb1 : 0 ≤ below) (hb2 : below ≤ 1000000) (hop : opP f v i (upP below b) m = some (y, m4))
    (hj : AnsX (j (.ptr (.ext 0) 0) (.fv v.enc) (iv below) (iv deep) (.ptr (.own 75497472) 0) (.slc (.own 75506693) 3 kl) (iv i) (.fv y.enc) (iv b) (iv len) (iv i)
      (Hbk done rest [(75512833, .row (((upP below b).map PV.enc).map .fv) true)] m4.s m4.w r m4.e)) w ext) :
    AnsX (loopS n (fun q119 l120 h121 => S72_273 l120 h121 ⟨[], ext4⟩ q119 (SS dt n) j) [.ptr (.ext 0) 0, .fv v.enc, iv below, iv deep, .ptr (.own 75497472) 0, .slc (.own 75506693) 3 kl, iv i, iv b, .slc (.own 75512833) 1 b, iv len, iv i, iv b, iv 0]
      (Hbk done rest [(75512833, .row (((nils b).map PV.enc).map .fv) false)] m.s m.w r m.e)) w ext := by
  refine loop_run (Q := fun r => AnsX r _ _) (fun t V H => ∃ (k : Nat), k + t = b ∧
      V = [.ptr (.ext 0) 0, .fv v.enc, iv below, iv deep, .ptr (.own 75497472) 0, .slc (.own 75506693) 3 kl, iv i, iv b, .slc (.own 75512833) 1 b, iv len, iv i, iv b, iv k] ∧
      H = Hbk done rest [(75512833, .row (((upP below k ++ nils t).map PV.enc).map .fv) false)] m.s m.w r m.e) ?_ n b _ _ (by omega) ⟨0, by omega, rfl, rfl⟩
  rintro t V H rec ⟨k, hkt, rfl, rfl⟩ hrec
  cases t with
  | zero =>
    have hkb : k = b := by omega
    subst hkb
    have hno : ¬ ((k : Int) < k) := by omega
    have hc := (mx_ok f).2.2.2 _ _ _ _ _ _ hop r n hn
    rw [show upP below k ++ nils 0 = upP below k by simp [nils]]
    simp only [S72_261, S72_262, S72_263, S72_264, S72_265, S72_266, S72_267, S72_268, S72_269, S72_270, S72_271, S72_272, S72_274, S72_275, S72_276, S72_277, S72_278, S72_279, S72_280, S72_281, S72_282, S72_284, S72_285, S72_286, S72_287, S72_288, S72_289, S72_290, S72_291, S72_292, S72_293, S72, S72_273, ↓XX, ↓reduceIte, Nat.reduceBEq, decide_true, decide_false, Bool.not_true, Bool.not_false, List.map_cons, List.map_nil, List.length_map, List.length_cons, List.length_nil, Nat.reduceAdd, Int.cast_ofNat_Int, Int.natCast_zero, Int.natCast_one, Bool.false_eq_true, Bool.true_eq_false, decide_eq_true_eq, eq_self, Int.reduceEq, Int.reduceLT, Int.reduceLE, Bool.and_true, Bool.true_and, Bool.and_false, Bool.false_and, Nat.zero_add, ↓ml_x, hno]
    rw [iso_x4s hc rfl rfl (s0 := 75512833) (own' := (Hbk done rest [(75512833, .row (((upP below k).map PV.enc).map .fv) true)] m4.s m4.w r m4.e).own) (by rfl) (by simp [upP_len]) (by simp [upP_len]; omega) (by simp only [List.mem_map]; rintro x ⟨v, _, rfl⟩; exact penc_agg v) (by rfl)]
    exact hj
  | succ t =>
    have hlt : (k : Int) < b := by omega
    have hkb : k < b := by omega
    have wk : w64 ((k : Int) + 1) = ((k + 1 : Nat) : Int) := (w64_id (by omega) (by omega)).trans (by simp)
    have wbk : w64 (below + (k : Int)) = below + k := by rw [w64_id] <;> omega
    have hoff := fun {β : Type} => off_p (done := upP below k) (r := t) (β := β) (PV.var (below + k))
    rw [upP_len, pvar_enc] at hoff
    simp only [S72_261, S72_262, S72_263, S72_264, S72_265, S72_266, S72_267, S72_268, S72_269, S72_270, S72_271, S72_272, S72_274, S72_275, S72_276, S72_277, S72_278, S72_279, S72_280, S72_281, S72_282, S72_284, S72_285, S72_286, S72_287, S72_288, S72_289, S72_290, S72_291, S72_292, S72_293, S72, S72_273, ↓XX, ↓reduceIte, Nat.reduceBEq, decide_true, decide_false, Bool.not_true, Bool.not_false, List.map_cons, List.map_nil, List.length_map, List.length_cons, List.length_nil, Nat.reduceAdd, Int.cast_ofNat_Int, Int.natCast_zero, Int.natCast_one, Bool.false_eq_true, Bool.true_eq_false, decide_eq_true_eq, eq_self, Int.reduceEq, Int.reduceLT, Int.reduceLE, Bool.and_true, Bool.true_and, Bool.and_false, Bool.false_and, Nat.zero_add, ↓ml_x, hlt, wbk]
    rw [fzs_agg (fc := [.int .i64 1, .int .i64 (below + k), .sl [], .int .i64 0, .int .i64 0, .sl [], .nilp]) rfl (by simp)]
    simp only [↓XX, ↓reduceIte, Nat.reduceBEq, decide_true, decide_false, Bool.not_true, Bool.not_false, List.map_cons, List.map_nil, List.length_map, List.length_cons, List.length_nil, Nat.reduceAdd, Int.cast_ofNat_Int, Int.natCast_zero, Int.natCast_one, Bool.false_eq_true, Bool.true_eq_false, decide_eq_true_eq, eq_self, Int.reduceEq, Int.reduceLT, Int.reduceLE, Bool.and_true, Bool.true_and, Bool.and_false, Bool.false_and, Nat.zero_add, ↓ml_x, ↓ix_sl hkb, ↓hoff, wk, ↓drop_mx, ↓drop_e, XD, heldB, flatD, List.any_cons, List.any_nil, List.all_cons, List.all_nil, List.filter_cons, List.filter_nil, List.contains_cons, List.contains_nil, Bool.or_false, Bool.or_true, Bool.false_or, Bool.true_or, Bool.and_self, Bool.not_eq_true, BEq.rfl, beq_self_eq_true, flat_fv, names_fv, flat_t, names_t]
    exact hrec t _ _ (by omega) ⟨k + 1, by omega, rfl, by rw [upP_succ]⟩
set_option maxRecDepth 20000 in
set_option maxHeartbeats 1000000 in
theorem bk_step {f : Nat} (hb : BkOk f) : BkOk (f + 1) := by
  intro v below deep m r t m' r' hev n hn
  obtain ⟨n, rfl⟩ : ∃ k, n = k + 1 := ⟨n - 1, by omega⟩
  rw [c72]
  rw [bkP.eq_def] at hev
  simp only at hev
  split at hev
  · cases hev
  rename_i hbad
  have wd : w64 (deep + 1) = deep + 1 := by rw [w64_id] <;> omega
  have wb1 : w64 (below - 1) = below - 1 := by rw [w64_id] <;> omega
  generalize he1 : (if m.e = 0 ∧ (3000 < r + 1 ∨ 120 < deep) then (5 : Int) else m.e) = e1 at hev
  cases ht : tickP ⟨m.s, m.w, e1⟩ with
  | none => rw [ht] at hev; cases hev
  | some m1 =>
  rw [ht] at hev
  simp only at hev
  have hc1 := tick_ok ht (r + 1) (n := n) (by omega)
  simp only at hc1
  refine bk_start (by omega) (by omega) he1 ?_
  by_cases h1 : m1.e ≠ 0
  · rw [if_pos h1] at hev
    simp only [Option.some.injEq, Prod.mk.injEq] at hev
    obtain ⟨rfl, rfl, rfl⟩ := hev
    simp only [S72_261, S72_262, S72_263, S72_264, S72_265, S72_266, S72_267, S72_268, S72_269, S72_270, S72_271, S72_272, S72_274, S72_275, S72_276, S72_277, S72_278, S72_279, S72_280, S72_281, S72_282, S72_284, S72_285, S72_286, S72_287, S72_288, S72_289, S72_290, S72_291, S72_292, S72_293, S72, ↓XX, ↓reduceIte, Nat.reduceBEq, decide_true, decide_false, Bool.not_true, Bool.not_false, List.map_cons, List.map_nil, List.length_map, List.length_cons, List.length_nil, Nat.reduceAdd, Int.cast_ofNat_Int, Int.natCast_zero, Int.natCast_one, Bool.false_eq_true, Bool.true_eq_false, decide_eq_true_eq, eq_self, Int.reduceEq, Int.reduceLT, Int.reduceLE, Bool.and_true, Bool.true_and, Bool.and_false, Bool.false_and, Nat.zero_add, ↓ml_x, ↓iso_x1 _ _ hc1, h1]
    exact ansx_p rfl _ _
  · rw [if_neg h1] at hev
    have h1 : m1.e = 0 := by simpa using h1
    cases v with
    | nil => cases hev
    | mk op nn k t0 e =>
    obtain ⟨bo, bn, bk⟩ := t0
    simp only at hev
    by_cases h2 : op = 1
    · rw [if_pos h2] at hev
      split at hev
      · cases hev
      rename_i hnn
      simp only [Option.some.injEq, Prod.mk.injEq] at hev
      obtain ⟨rfl, rfl, rfl⟩ := hev
      have wb2 : w64 (below - 1 - nn) = below - 1 - nn := by rw [w64_id] <;> omega
      rw [penc_mk]
      simp only [S72_261, S72_262, S72_263, S72_264, S72_265, S72_266, S72_267, S72_268, S72_269, S72_270, S72_271, S72_272, S72_274, S72_275, S72_276, S72_277, S72_278, S72_279, S72_280, S72_281, S72_282, S72_284, S72_285, S72_286, S72_287, S72_288, S72_289, S72_290, S72_291, S72_292, S72_293, S72, ↓XX, ↓reduceIte, Nat.reduceBEq, decide_true, decide_false, Bool.not_true, Bool.not_false, List.map_cons, List.map_nil, List.length_map, List.length_cons, List.length_nil, Nat.reduceAdd, Int.cast_ofNat_Int, Int.natCast_zero, Int.natCast_one, Bool.false_eq_true, Bool.true_eq_false, decide_eq_true_eq, eq_self, Int.reduceEq, Int.reduceLT, Int.reduceLE, Bool.and_true, Bool.true_and, Bool.and_false, Bool.false_and, Nat.zero_add, ↓ml_x, ↓iso_x1 _ _ hc1, h1, h2, wb1, wb2]
      exact ansx_p rfl _ _
    · rw [if_neg h2] at hev
      split at hev
      · cases hev
      rename_i hk100
      have hk100 : k.length ≤ 100 := by omega
      cases hkk : bkK (fun v below m r => bkP f v below (deep + 1) m r) (fun i l m => opP f (.mk op nn k (.mk bo bn bk) e) i l m) op below 0 k m1 (r + 1) with
      | none => rw [hkk] at hev; cases hev
      | some q =>
      obtain ⟨res, m2, r2⟩ := q
      rw [hkk] at hev
      have hres : t = resP op nn [] res ∧ m' = m2 ∧ r' = r2 := by
        cases res with
        | none => simp only [Option.some.injEq, Prod.mk.injEq] at hev; exact ⟨hev.1.symm, hev.2.1.symm, hev.2.2.symm⟩
        | some ts => simp only [Option.some.injEq, Prod.mk.injEq] at hev; exact ⟨hev.1.symm, hev.2.1.symm, hev.2.2.symm⟩
      obtain ⟨ht5, rfl, rfl⟩ := hres
      generalize hV : PV.mk op nn k (.mk bo bn bk) e = V5 at *
      have hVe : V5.enc = .fp [.int .i64 op, .int .i64 nn, .sl (k.map PV.enc), .int .i64 bo, .int .i64 bn, .sl (bk.map Tm.enc), PV.encEnv e] 0 := by rw [← hV, penc_mk]
      rw [hVe]
      simp only [S72_261, S72_262, S72_263, S72_264, S72_265, S72_266, S72_267, S72_268, S72_269, S72_270, S72_271, S72_272, S72_274, S72_275, S72_276, S72_277, S72_278, S72_279, S72_280, S72_281, S72_282, S72_284, S72_285, S72_286, S72_287, S72_288, S72_289, S72_290, S72_291, S72_292, S72_293, S72, ↓XX, ↓reduceIte, Nat.reduceBEq, decide_true, decide_false, Bool.not_true, Bool.not_false, List.map_cons, List.map_nil, List.length_map, List.length_cons, List.length_nil, Nat.reduceAdd, Int.cast_ofNat_Int, Int.natCast_zero, Int.natCast_one, Bool.false_eq_true, Bool.true_eq_false, decide_eq_true_eq, eq_self, Int.reduceEq, Int.reduceLT, Int.reduceLE, Bool.and_true, Bool.true_and, Bool.and_false, Bool.false_and, Nat.zero_add, ↓ml_x, ↓iso_x1 _ _ hc1, h1, h2, ↓mk_t (show k.length ≤ 1000 by omega), ↓drop_mx, ↓drop_e, XD, heldB, flatD, List.any_cons, List.any_nil, List.all_cons, List.all_nil, List.filter_cons, List.filter_nil, List.contains_cons, List.contains_nil, Bool.or_false, Bool.or_true, Bool.false_or, Bool.true_or, Bool.and_self, Bool.not_eq_true, BEq.rfl, beq_self_eq_true, flat_fv, names_fv, flat_t, names_t]
      refine loop_run (Q := fun r => AnsX r _ _) (fun j V H => ∃ (pre rest : List PV) (done : List Tm) (m3 : M3) (r3 : Int) (res3 : Option (List Tm)), k = pre ++ rest ∧ rest.length = j ∧ done.length = pre.length ∧
          V = [.ptr (.ext 0) 0, .fv V5.enc, iv below, iv deep, .ptr (.own 75497472) 0, .slc (.own 75506693) 3 k.length, iv k.length, iv pre.length] ∧
          H = Hbk done rest.length [] m3.s m3.w r3 m3.e ∧
          bkK (fun v below m r => bkP f v below (deep + 1) m r) (fun i l m => opP f V5 i l m) op below pre.length rest m3 r3 = some (res3, m', r') ∧ resP op nn done res3 = t)
        ?_ n k.length _ _ (by omega) ⟨[], k, [], m1, r + 1, res, rfl, rfl, rfl, by rw [hVe]; rfl, by rw [h1], hkk, ht5.symm⟩
      rintro j V H rec ⟨pre, rest, done, m3, r3, res3, hk, hl, hdl, rfl, rfl, hkids, hts⟩ hrec
      have hkl : k.length = pre.length + rest.length := by rw [hk]; simp
      cases rest with
      | nil =>
        simp only [bkK, Option.some.injEq, Prod.mk.injEq] at hkids
        obtain ⟨rfl, rfl, rfl⟩ := hkids
        rw [List.length_nil, Nat.add_zero] at hkl
        rw [← hts, ← hV, resP, List.append_nil, ← hkl]
        exact bk_end _ (by omega) hk100
      | cons x rest =>
        have hi : (pre.length : Int) < k.length := by rw [hkl]; simp; omega
        have hg := at_pre hk
        have hbn := pbind_ok (n := n) (by omega) op pre.length
        have hble := bindN_le op pre.length
        simp only [bkK] at hkids
        simp only [List.length_cons] at hl hkl
        -- what comes behind the kid's value
        have behind : ∀ (y : PV) (m4 : M3) (more : List (Nat × Blk)), MoreP more → (if m4.e ≠ 0 then some (none, m4, r3) else match bkP f y (below + bindN op pre.length) (deep + 1) m4 r3 with
              | none => none
              | some (t, m, r) => (bkK (fun v below m r => bkP f v below (deep + 1) m r) (fun i l m => opP f V5 i l m) op below (pre.length + 1) rest m r).map fun (ts, m, r) => (ts.map (t :: ·), m, r)) = some (res3, m', r') →
            AnsX (S72_267 (.ptr (.ext 0) 0) (Hbk done (rest.length + 1) more m4.s m4.w r3 m4.e) (.ptr (.own 75497472) 0) (iv below) (iv (bindN op pre.length)) (iv deep) (SS dt n) (.fv y.enc) (.slc (.own 75506693) 3 k.length) (iv pre.length) (iv pre.length) ⟨[], MX m.s m.w r m.e⟩ (.fv V5.enc) (iv k.length) rec)
              t.enc (MX m'.s m'.w r' m'.e) := by
          intro y m4 more hM hy
          by_cases h4 : m4.e ≠ 0
          · rw [if_pos h4] at hy
            simp only [Option.some.injEq, Prod.mk.injEq] at hy
            obtain ⟨rfl, rfl, rfl⟩ := hy
            rw [← hts]
            exact bk_b0 hM _ h4
          · rw [if_neg h4] at hy
            have h4 : m4.e = 0 := by simpa using h4
            cases hbk : bkP f y (below + bindN op pre.length) (deep + 1) m4 r3 with
            | none => rw [hbk] at hy; cases hy
            | some q =>
            obtain ⟨t5, m5, r5⟩ := q
            rw [hbk] at hy
            simp only at hy
            cases hk2 : bkK (fun v below m r => bkP f v below (deep + 1) m r) (fun i l m => opP f V5 i l m) op below (pre.length + 1) rest m5 r5 with
            | none => rw [hk2] at hy; cases hy
            | some q =>
            obtain ⟨res6, m6, r6⟩ := q
            rw [hk2] at hy
            simp only [Option.map_some, Option.some.injEq, Prod.mk.injEq] at hy
            obtain ⟨rfl, rfl, rfl⟩ := hy
            rw [← hdl]
            refine bk_b1 hb (by omega) hM _ h4 (by rw [hdl]; exact hbk) (by omega) (by omega) (by rw [hdl]; omega) (by omega) (by omega) (by omega) hk100 ?_
            refine hrec rest.length _ _ (by omega) ⟨pre ++ [x], rest, done ++ [t5], m5, r5, res6, by rw [hk]; simp, rfl, by simp [hdl], by simp [hdl], rfl, by simpa using hk2, ?_⟩
            rw [← hts]
            cases res6 with
            | none => rfl
            | some ts => simp [resP]
        rw [hVe]
        by_cases hb0 : 0 < bindN op pre.length
        · rw [if_pos hb0] at hkids
          have hb0' : (0 : Int) < bindN op pre.length := by omega
          cases hop : opP f V5 pre.length (upP below (bindN op pre.length)) m3 with
          | none => rw [hop] at hkids; cases hkids
          | some q =>
          obtain ⟨y, m4⟩ := q
          rw [hop] at hkids
          have h9 := behind y m4 [(75512833, .row (((upP below (bindN op pre.length)).map PV.enc).map .fv) true)] (.inr ⟨_, _, rfl⟩) hkids
          have hin := bk_in (f := f) (n := n) (v := V5) (y := y) (below := below) (deep := deep) (i := pre.length) (b := bindN op pre.length) (kl := k.length) (len := k.length) (done := done) (rest := rest.length + 1) (m := m3) (m4 := m4) (r := r3) (w := t.enc) (ext := MX m'.s m'.w r' m'.e) (by omega) (by omega) (MX m.s m.w r m.e)
            (j := fun x79 x80 x81 x82 x83 x84 x85 x86 x87 x88 x89 h90 => S72_267 x79 h90 x83 x81 x87 x82 (SS dt n) x86 x84 x85 x89 ⟨[], MX m.s m.w r m.e⟩ x80 x88 rec) (by omega) (by omega) (by omega) hop h9
          simp only [S72_261, S72_262, S72_263, S72_264, S72_265, S72_266, S72_268, S72_269, S72_270, S72_271, S72_272, S72_274, S72_275, S72_276, S72_277, S72_278, S72_279, S72_280, S72_281, S72_282, S72_283, S72_284, S72_285, S72_286, S72_287, S72_288, S72_289, S72_290, S72_291, S72_292, S72_293, S72, ↓XX, ↓reduceIte, Nat.reduceBEq, decide_true, decide_false, Bool.not_true, Bool.not_false, List.map_cons, List.map_nil, List.length_map, List.length_cons, List.length_nil, Nat.reduceAdd, Int.cast_ofNat_Int, Int.natCast_zero, Int.natCast_one, Bool.false_eq_true, Bool.true_eq_false, decide_eq_true_eq, eq_self, Int.reduceEq, Int.reduceLT, Int.reduceLE, Bool.and_true, Bool.true_and, Bool.and_false, Bool.false_and, Nat.zero_add, ↓ml_x, hi, ↓ix_p hg, ↓iso_2 hbn, hb0', ↓mk_p (show bindN op pre.length ≤ 1000 by omega), ↓drop_mx, ↓drop_e, XD, heldB, flatD, List.any_cons, List.any_nil, List.all_cons, List.all_nil, List.filter_cons, List.filter_nil, List.contains_cons, List.contains_nil, Bool.or_false, Bool.or_true, Bool.false_or, Bool.true_or, Bool.and_self, Bool.not_eq_true, BEq.rfl, beq_self_eq_true, flat_fv, names_fv, flat_t, names_t]
          rw [hVe] at hin
          exact hin
        · rw [if_neg hb0] at hkids
          have hb0' : ¬ (0 : Int) < bindN op pre.length := by omega
          have h9 := behind x m3 [] (.inl rfl) hkids
          simp only [S72_261, S72_262, S72_263, S72_264, S72_265, S72_266, S72_268, S72_269, S72_270, S72_271, S72_272, S72_274, S72_275, S72_276, S72_277, S72_278, S72_279, S72_280, S72_281, S72_282, S72_283, S72_284, S72_285, S72_286, S72_287, S72_288, S72_289, S72_290, S72_291, S72_292, S72_293, S72, ↓XX, ↓reduceIte, Nat.reduceBEq, decide_true, decide_false, Bool.not_true, Bool.not_false, List.map_cons, List.map_nil, List.length_map, List.length_cons, List.length_nil, Nat.reduceAdd, Int.cast_ofNat_Int, Int.natCast_zero, Int.natCast_one, Bool.false_eq_true, Bool.true_eq_false, decide_eq_true_eq, eq_self, Int.reduceEq, Int.reduceLT, Int.reduceLE, Bool.and_true, Bool.true_and, Bool.and_false, Bool.false_and, Nat.zero_add, ↓ml_x, hi, ↓ix_p hg, ↓iso_2 hbn, hb0']
          rw [hVe] at h9
          exact h9
theorem bk_ok : ∀ f, BkOk f
  | 0 => (fun _ _ _ _ _ _ _ _ h => by rw [bkP.eq_def] at h; cases h)
  | f + 1 => bk_step (bk_ok f)
end Idl
end Go.Proofs.Ytkfecngimlcfoaa

namespace Go.Proofs.Ytkfecngimlcfoaa
namespace Idl
noncomputable abbrev ruleO (mb : Nat) (f : FuncId) : IV := .agg [.func (.func f) [.ptr (.own mb) 0] []]
noncomputable abbrev rulesO (mb : Nat) : List (Int × IV) := [(5, ruleO mb 94), (8, ruleO mb 95), (9, ruleO mb 95), (13, ruleO mb 96), (30, ruleO mb 97), (19, ruleO mb 98)]
theorem on_mapr (r : Ref) : IV.one (.mapr r) = true := rfl
theorem alv_dead {β : Type} (l : List IV) (e : Option β) (k : List FV → Option β) : allFvK (.dead :: l) e k = e := rfl
theorem of4 {β : Type} (x y z u v b : IV) (l : List IV) (k : List IV → Option β) : offK (x :: y :: z :: u :: v :: l) 4 b k = k (x :: y :: z :: u :: b :: l) := rfl
theorem mk_m (s : Nat) (own : List (Nat × Blk)) (ext : List Blk) (k : IV → Hp → List Ref → List Ref → Option (IV × Hp)) : genS (pcMakeMap s) s ⟨own, ext⟩ k = freshK own s (putOwnK own s (.map []) fun own => k (.mapr (.own s)) ⟨own, ext⟩ [] [.own s]) := by
  unfold genS
  simp only [pcMakeMap, Rd.runLog, newK, fBk_eq, fV_eq]
  rfl
noncomputable def mapK (b : Blk) (k : List (Int × IV) → Option (IV × Hp)) : Option (IV × Hp) := match b with
  | .map es => k es
  | _ => none
theorem as_map (es : List (Int × IV)) (k : List (Int × IV) → Option (IV × Hp)) : mapK (.map es) k = k es := rfl
theorem ins_e (m j : Nat) (v : IV) (hv : v.alive = true) (n : Int) (s : Nat) (own : List (Nat × Blk)) (ext : List Blk) (k : IV → Hp → List Ref → List Ref → Option (IV × Hp)) :
    genS (pcInsert EE 98 (.mapr (.own m)) (iv n) v) s ⟨own, ext⟩ k = ownK own m fun b => mapK b fun es => putOwnK own m (.map (putMap n v es)) fun own => k .dead ⟨own, ext⟩ [.own m] [.own m] := by
  have h1 := tMk
  have h2 := tIk
  cases hm : EE.T 98 with
  | none => rw [hm] at h1; cases h1
  | some ti =>
    cases hi : EE.T 3 with
    | none => rw [hi] at h2; cases h2
    | some ii =>
      rw [hm] at h1
      rw [hi] at h2
      obtain ⟨a, b, kd, z⟩ := ti
      obtain ⟨a2, b2, kd2, z2⟩ := ii
      simp only [Option.map_some, Option.some.injEq] at h1 h2
      subst h1 h2
      rw [ownK_eq]
      unfold genS
      cases hl : lookupOwn m own with
      | none => simp only [pcInsert, hm, hi, iv_e, Rd.runLog, Hp.get, hl]; rfl
      | some bl =>
        cases bl with
        | row c ro => simp only [pcInsert, hm, hi, iv_e, Rd.runLog, Hp.get, hl]; rfl
        | tok a b => simp only [pcInsert, hm, hi, iv_e, Rd.runLog, Hp.get, hl]; rfl
        | map es =>
          simp only [pcInsert, hm, hi, iv_e, Rd.runLog, Hp.get, hl, ml_own, hv, and_self, if_true, Option.bind_some, as_map]
          show (fRf (.own m) fun q => getK q ⟨own, ext⟩ fun _ => fBk (.map (putMap n v es)) fun b => layK q b ⟨own, ext⟩ fun h => newK none s h fun h => fV 3 .dead fun v => k v h [.own m] ([.own m] ++ [])) = _
          simp only [fRf_eq, fBk_eq, fV_eq, newK, layK, getK]
          rw [ownK_eq, hl]
          rfl
theorem iso_om {ks : List Bool} (hks : ∀ b ∈ ks, b = false) {ih : Handler} {f : FuncId} {args : List IV} {vs : List FV} {w : FV} {mb mp : Nat} {own : List (Nat × Blk)} {s u r e s' u' r' e' : Int} (hz : frzPL args = some vs) (hne : mb ≠ mp)
    (hl1 : lookupOwn mb own = some (.row [iv s, iv u, iv r, iv e, .mapr (.own mp)] false)) (hl2 : lookupOwn mp own = some (.map (rulesO mb))) (hr : AnsX (ih f (.ptr (.ext 0) 0 :: vs.map .fv) ⟨[], MX s u r e⟩) w (MX s' u' r' e')) (k : IV → Hp → List Ref → List Ref → Option (IV × Hp)) :
    isoS (true :: ks) false false ih f (.ptr (.own mb) 0 :: args) ⟨own, []⟩ k = k (.fv w) ⟨putOwn mp (.map (rulesO mb)) (putOwn mb (.row [iv s', iv u', iv r', iv e', .mapr (.own mp)] false) own), []⟩ [.own mp, .own mb] [.own mb, .own mp] := by
  obtain ⟨v, own', e1, hfz⟩ := hr
  obtain ⟨uu, hu⟩ := ansx_frz hfz
  have hD : isoD (true :: ks) false false ih f (.ptr (.own mb) 0 :: args) ⟨own, []⟩ k = k (.fv w) ⟨putOwn mp (.map (rulesO mb)) (putOwn mb (.row [iv s', iv u', iv r', iv e', .mapr (.own mp)] false) own), []⟩ [.own mp, .own mb] [.own mb, .own mp] := by
    have h1 : frzArgs (true :: ks) (.ptr (.own mb) 0 :: args) = .ret (.ptr (.own mb) 0 :: vs.map .fv, [.own mb], []) := by
      simp only [frzArgs, frz_argsk args ks hks hz, Rd.bind, IV.refs]
      rfl
    have hn1 : ¬ (Ref.own mp = Ref.own mb) := by intro h; cases h; exact hne rfl
    have h2 : (gather 4096 [.own mb] []).runLog ⟨own, []⟩ [] = some ([(.own mb, .row [iv s, iv u, iv r, iv e, .mapr (.own mp)] false), (.own mp, .map (rulesO mb))], [.own mp, .own mb]) := by
      show (gather (4087 + 1 + 1 + 1 + 1 + 1 + 1 + 1 + 1 + 1) [.own mb] []).runLog ⟨own, []⟩ [] = _
      simp only [gather, hasRef, Bool.false_eq_true, if_false, Rd.runLog, Hp.get, hl1, hl2, Blk.refs, IV.refs.refsL, IV.refs, List.append_nil, List.nil_append, List.cons_append, List.map_cons, List.map_nil, hn1, decide_false, decide_true, Bool.or_false, Bool.true_or, if_true]
    have p1 : into [(.own mb, .row [iv s, iv u, iv r, iv e, .mapr (.own mp)] false), (.own mp, .map (rulesO mb))] (.own mb) = some (.ext 0) := by simp [into, placeOf]
    have p2 : into [(.own mb, .row [iv s, iv u, iv r, iv e, .mapr (.own mp)] false), (.own mp, .map (rulesO mb))] (.own mp) = some (.ext 1) := by simp [into, placeOf, hn1]
    have h3 : IV.ren.renL (into [(.own mb, .row [iv s, iv u, iv r, iv e, .mapr (.own mp)] false), (.own mp, .map (rulesO mb))]) (.ptr (.own mb) 0 :: vs.map .fv) = some (.ptr (.ext 0) 0 :: vs.map .fv) := by
      simp only [IV.ren.renL, IV.ren, p1, Option.map_some, Option.bind_some, renL_fv]
    have h4 : renBlks (into [(.own mb, .row [iv s, iv u, iv r, iv e, .mapr (.own mp)] false), (.own mp, .map (rulesO mb))]) [.row [iv s, iv u, iv r, iv e, .mapr (.own mp)] false, .map (rulesO mb)] = some (MX s u r e) := by
      simp only [renBlks, Blk.ren, IV.ren.renL, IV.ren, p1, p2, Option.map_some, Option.bind_some, List.map_cons, List.map_nil, List.zip_cons_cons, List.zip_nil_left]
    have h5 : renBlks (back [(.own mb, .row [iv s, iv u, iv r, iv e, .mapr (.own mp)] false), (.own mp, .map (rulesO mb))]) (MX s' u' r' e') = some [.row [iv s', iv u', iv r', iv e', .mapr (.own mp)] false, .map (rulesO mb)] := by
      simp only [renBlks, Blk.ren, IV.ren.renL, IV.ren, back, List.getElem?_cons_zero, List.getElem?_cons_succ, Option.map_some, Option.bind_some, List.map_cons, List.map_nil, List.zip_cons_cons, List.zip_nil_left]
    unfold isoD
    simp only [h1, Rd.runLog, h2, h3, List.map_cons, List.map_nil, h4, fL_eq (fV_eq 3), fL_eq fBk_eq, askedD, Bool.false_eq_true, if_false, e1, hu, Option.map_some, IV.ren, h5, List.length_cons, List.length_nil, keys, List.all_nil, and_self, if_true, List.nil_append, List.zip_cons_cons, List.zip_nil_left]
    have hl3 : lookupOwn mp (putOwn mb (.row [iv s', iv u', iv r', iv e', .mapr (.own mp)] false) own) = some (.map (rulesO mb)) := by
      rw [← hl2]
      clear hl1 hl2 h2 e1 hu hfz
      induction own with
      | nil => simp only [putOwn, lookupOwn, if_neg (fun h => hne (Eq.symm h))]
      | cons p l ih =>
        obtain ⟨j, c⟩ := p
        simp only [putOwn]
        split
        · rename_i h; subst h; simp only [lookupOwn, if_neg (fun h => hne (Eq.symm h))]
        · simp only [lookupOwn, ih]
    have h6 : laid ⟨own, []⟩ [(.own mb, .row [iv s', iv u', iv r', iv e', .mapr (.own mp)] false), (.own mp, .map (rulesO mb))] = some ⟨putOwn mp (.map (rulesO mb)) (putOwn mb (.row [iv s', iv u', iv r', iv e', .mapr (.own mp)] false) own), []⟩ := by
      simp only [laid, Hp.get, hl1, Hp.set, hl3]
    simp only [h6, fH_eq, fV_eq]
  rw [iso_e, fz1k, as_p, fza_k 0 args _ _ _ _ ks hks hz]
  simp only [isoC, goB_own, cond_false]
  exact hD
end Idl
end Go.Proofs.Ytkfecngimlcfoaa

namespace Go.Proofs.Ytkfecngimlcfoaa
namespace Idl
def knum (op : Int) : Int := if op = 8 ∨ op = 9 ∨ op = 12 ∨ op = 19 ∨ op = 30 then 1 else if op = 4 ∨ op = 5 then 2 else if op = 7 then 3 else if op = 13 then 4 else -1
theorem kids_ok {n : Nat} (hn : 0 < n) (op : Int) : Ans (SS dt n 93 [iv op] ⟨[], []⟩) (.int .i64 (knum op)) := by
  obtain ⟨n, rfl⟩ : ∃ k, n = k + 1 := ⟨n - 1, by omega⟩
  rw [c93]
  unfold knum
  by_cases h : op = 8 ∨ op = 9 ∨ op = 12 ∨ op = 19 ∨ op = 30
  · rw [if_pos h]
    rcases h with rfl | rfl | rfl | rfl | rfl <;> (simp only [S93_17, S93_18, S93_19, S93_20, S93_21, S93_22, S93, ↓XX, ↓reduceIte, Nat.reduceBEq, decide_true, decide_false, Bool.not_true, Bool.not_false, List.map_cons, List.map_nil, List.length_map, List.length_cons, List.length_nil, Nat.reduceAdd, Int.cast_ofNat_Int, Int.natCast_zero, Int.natCast_one, Bool.false_eq_true, Bool.true_eq_false, decide_eq_true_eq, eq_self, Int.reduceEq, Int.reduceLT, Int.reduceLE, Bool.and_true, Bool.true_and, Bool.and_false, Bool.false_and, Nat.zero_add]; exact ans_fv _ _)
  · rw [if_neg h]
    have h8 : ¬ op = 8 := fun e => h (by simp [e])
    have h9 : ¬ op = 9 := fun e => h (by simp [e])
    have h12 : ¬ op = 12 := fun e => h (by simp [e])
    have h19 : ¬ op = 19 := fun e => h (by simp [e])
    have h30 : ¬ op = 30 := fun e => h (by simp [e])
    by_cases h2 : op = 4 ∨ op = 5
    · rw [if_pos h2]
      rcases h2 with rfl | rfl <;> (simp only [S93_17, S93_18, S93_19, S93_20, S93_21, S93_22, S93, ↓XX, ↓reduceIte, Nat.reduceBEq, decide_true, decide_false, Bool.not_true, Bool.not_false, List.map_cons, List.map_nil, List.length_map, List.length_cons, List.length_nil, Nat.reduceAdd, Int.cast_ofNat_Int, Int.natCast_zero, Int.natCast_one, Bool.false_eq_true, Bool.true_eq_false, decide_eq_true_eq, eq_self, Int.reduceEq, Int.reduceLT, Int.reduceLE, Bool.and_true, Bool.true_and, Bool.and_false, Bool.false_and, Nat.zero_add]; exact ans_fv _ _)
    · rw [if_neg h2]
      have h4 : ¬ op = 4 := fun e => h2 (by simp [e])
      have h5 : ¬ op = 5 := fun e => h2 (by simp [e])
      by_cases h7 : op = 7
      · subst h7; simp only [S93_17, S93_18, S93_19, S93_20, S93_21, S93_22, S93, ↓XX, ↓reduceIte, Nat.reduceBEq, decide_true, decide_false, Bool.not_true, Bool.not_false, List.map_cons, List.map_nil, List.length_map, List.length_cons, List.length_nil, Nat.reduceAdd, Int.cast_ofNat_Int, Int.natCast_zero, Int.natCast_one, Bool.false_eq_true, Bool.true_eq_false, decide_eq_true_eq, eq_self, Int.reduceEq, Int.reduceLT, Int.reduceLE, Bool.and_true, Bool.true_and, Bool.and_false, Bool.false_and, Nat.zero_add]; exact ans_fv _ _
      · by_cases h13 : op = 13
        · subst h13; simp only [S93_17, S93_18, S93_19, S93_20, S93_21, S93_22, S93, ↓XX, ↓reduceIte, Nat.reduceBEq, decide_true, decide_false, Bool.not_true, Bool.not_false, List.map_cons, List.map_nil, List.length_map, List.length_cons, List.length_nil, Nat.reduceAdd, Int.cast_ofNat_Int, Int.natCast_zero, Int.natCast_one, Bool.false_eq_true, Bool.true_eq_false, decide_eq_true_eq, eq_self, Int.reduceEq, Int.reduceLT, Int.reduceLE, Bool.and_true, Bool.true_and, Bool.and_false, Bool.false_and, Nat.zero_add]; exact ans_fv _ _
        · simp only [S93_17, S93_18, S93_19, S93_20, S93_21, S93_22, S93, ↓XX, ↓reduceIte, Nat.reduceBEq, decide_true, decide_false, Bool.not_true, Bool.not_false, List.map_cons, List.map_nil, List.length_map, List.length_cons, List.length_nil, Nat.reduceAdd, Int.cast_ofNat_Int, Int.natCast_zero, Int.natCast_one, Bool.false_eq_true, Bool.true_eq_false, decide_eq_true_eq, eq_self, Int.reduceEq, Int.reduceLT, Int.reduceLE, Bool.and_true, Bool.true_and, Bool.and_false, Bool.false_and, Nat.zero_add, h4, h5, h7, h8, h9, h12, h13, h19, h30]; exact ans_fv _ _
mutual
def Tm.shaped : Tm → Bool
  | .mk op n ks => !(decide (0 ≤ knum op ∧ knum op ≠ ks.length) || decide (op = 1 ∧ n < 0)) && Tm.shapedL ks
def Tm.shapedL : List Tm → Bool
  | [] => true
  | t :: l => t.shaped && Tm.shapedL l
end
set_option maxHeartbeats 1000000 in
theorem shaped_ok : ∀ (n : Nat) (t : Tm), t.wt + 1 < n → t.wt ≤ 1152921504606846976 → Ans (SS dt n 69 [.fv t.enc] ⟨[], []⟩) (.bool t.shaped) := by
  intro n
  induction n with
  | zero => intro t h; omega
  | succ n ih =>
    intro t h hw
    obtain ⟨op, m, ks⟩ := t
    simp only [Tm.wt] at h hw
    rw [c69, enc_mk]
    have hlen := wt_len ks
    have hk := kids_ok (n := n) (by omega) op
    rw [Tm.shaped]
    have wl : ∀ j : Nat, j ≤ ks.length → w64 (j : Int) = j := fun j hj => w64_id (by omega) (by omega)
    -- the loop
    have loop : Ans (loopS n (fun q99 l100 h101 => S69_132 l100 h101 (SS dt n) ⟨[], []⟩ q99) [.fv (.sl (ks.map Tm.enc)), iv ks.length, iv 0] ⟨[(72351744, .row [iv op, iv m, .fv (.sl (ks.map Tm.enc))] false)], []⟩) (.bool (Tm.shapedL ks)) := by
      refine loop_run (Q := fun r => Ans r _) (fun k V H => ∃ pre rest, ks = pre ++ rest ∧ rest.length = k ∧ V = [.fv (.sl (ks.map Tm.enc)), iv ks.length, iv pre.length] ∧ H = ⟨[(72351744, .row [iv op, iv m, .fv (.sl (ks.map Tm.enc))] false)], []⟩ ∧ Tm.shapedL rest = Tm.shapedL ks)
        ?_ n ks.length _ _ (by omega) ⟨[], ks, rfl, rfl, rfl, rfl, rfl⟩
      rintro k V H rec ⟨pre, rest, hk, hl, rfl, rfl, ht⟩ hrec
      have hkl : ks.length = pre.length + rest.length := by rw [hk]; simp
      cases rest with
      | nil =>
        have hno : ¬ ((pre.length : Int) < ks.length) := by rw [hkl]; simp
        rw [← ht]
        simp only [S69_129, S69_130, S69_131, S69_132, S69_133, S69_134, S69_135, S69_136, S69, ↓XX, ↓reduceIte, Nat.reduceBEq, decide_true, decide_false, Bool.not_true, Bool.not_false, List.map_cons, List.map_nil, List.length_map, List.length_cons, List.length_nil, Nat.reduceAdd, Int.cast_ofNat_Int, Int.natCast_zero, Int.natCast_one, Bool.false_eq_true, Bool.true_eq_false, decide_eq_true_eq, eq_self, Int.reduceEq, Int.reduceLT, Int.reduceLE, Bool.and_true, Bool.true_and, Bool.and_false, Bool.false_and, Nat.zero_add, hno, Tm.shapedL]
        exact ans_fv _ _
      | cons t rest =>
        have hi : (pre.length : Int) < ks.length := by rw [hkl]; simp; omega
        have hg := at_pre hk
        have htw := wt_mem (t := t) (l := ks) (by rw [hk]; simp)
        have hs := ih t (by omega) (by omega)
        have hwi : w64 ((pre.length : Int) + 1) = ((pre ++ [t]).length : Int) := (w64_id (by omega) (by omega)).trans (by simp)
        simp only [Tm.shapedL] at ht
        generalize t.shaped = v at hs ht
        obtain ⟨o, p, l⟩ := t
        simp only [List.length_cons] at hl
        rw [enc_mk] at hs
        cases v
        · rw [← ht]
          simp only [S69_129, S69_130, S69_131, S69_132, S69_133, S69_134, S69_135, S69_136, S69, ↓XX, ↓reduceIte, Nat.reduceBEq, decide_true, decide_false, Bool.not_true, Bool.not_false, List.map_cons, List.map_nil, List.length_map, List.length_cons, List.length_nil, Nat.reduceAdd, Int.cast_ofNat_Int, Int.natCast_zero, Int.natCast_one, Bool.false_eq_true, Bool.true_eq_false, decide_eq_true_eq, eq_self, Int.reduceEq, Int.reduceLT, Int.reduceLE, Bool.and_true, Bool.true_and, Bool.and_false, Bool.false_and, Nat.zero_add, hi, ↓ix_f (map_get hg) (agg3l _ _ _), ↓agg3, hwi, ↓iso_1 hs, Bool.false_and]
          exact ans_fv _ _
        · simp only [S69_129, S69_130, S69_131, S69_132, S69_133, S69_134, S69_135, S69_136, S69, ↓XX, ↓reduceIte, Nat.reduceBEq, decide_true, decide_false, Bool.not_true, Bool.not_false, List.map_cons, List.map_nil, List.length_map, List.length_cons, List.length_nil, Nat.reduceAdd, Int.cast_ofNat_Int, Int.natCast_zero, Int.natCast_one, Bool.false_eq_true, Bool.true_eq_false, decide_eq_true_eq, eq_self, Int.reduceEq, Int.reduceLT, Int.reduceLE, Bool.and_true, Bool.true_and, Bool.and_false, Bool.false_and, Nat.zero_add, hi, ↓ix_f (map_get hg) (agg3l _ _ _), ↓agg3, hwi, ↓iso_1 hs, ↓drop_e, XD, heldB, flatD, List.any_cons, List.any_nil, List.all_cons, List.all_nil, List.filter_cons, List.filter_nil, List.contains_cons, List.contains_nil, Bool.or_false, Bool.or_true, Bool.false_or, Bool.true_or, Bool.and_self, Bool.not_eq_true, BEq.rfl, beq_self_eq_true]
          refine hrec rest.length _ _ (by omega) ?_
          exact ⟨pre ++ [.mk o p l], rest, by rw [hk]; simp, rfl, rfl, rfl, by simpa using ht⟩
    by_cases h0 : 0 ≤ knum op
    · by_cases h1 : knum op = ks.length
      · by_cases h2 : op = 1
        · exfalso; subst h2; revert h0; decide
        · have e1 : (!(decide (0 ≤ knum op ∧ knum op ≠ ks.length) || decide (op = 1 ∧ m < 0)) && Tm.shapedL ks) = Tm.shapedL ks := by simp [h1, h2]
          rw [e1]
          have h0' : (0 : Int) ≤ ks.length := by omega
          rw [h1] at hk
          simp only [S69_129, S69_130, S69_131, S69_133, S69_134, S69_135, S69_136, S69, ↓XX, ↓reduceIte, Nat.reduceBEq, decide_true, decide_false, Bool.not_true, Bool.not_false, List.map_cons, List.map_nil, List.length_map, List.length_cons, List.length_nil, Nat.reduceAdd, Int.cast_ofNat_Int, Int.natCast_zero, Int.natCast_one, Bool.false_eq_true, Bool.true_eq_false, decide_eq_true_eq, eq_self, Int.reduceEq, Int.reduceLT, Int.reduceLE, Bool.and_true, Bool.true_and, Bool.and_false, Bool.false_and, Nat.zero_add, ↓iso_1 hk, h0', h2, ↓drop_e, XD, heldB, flatD, List.any_cons, List.any_nil, List.all_cons, List.all_nil, List.filter_cons, List.filter_nil, List.contains_cons, List.contains_nil, Bool.or_false, Bool.or_true, Bool.false_or, Bool.true_or, Bool.and_self, Bool.not_eq_true, BEq.rfl, beq_self_eq_true]
          exact loop
      · have e1 : (!(decide (0 ≤ knum op ∧ knum op ≠ ks.length) || decide (op = 1 ∧ m < 0)) && Tm.shapedL ks) = false := by simp [h0, h1]
        rw [e1]
        simp only [S69_129, S69_130, S69_131, S69_133, S69_134, S69_135, S69_136, S69, ↓XX, ↓reduceIte, Nat.reduceBEq, decide_true, decide_false, Bool.not_true, Bool.not_false, List.map_cons, List.map_nil, List.length_map, List.length_cons, List.length_nil, Nat.reduceAdd, Int.cast_ofNat_Int, Int.natCast_zero, Int.natCast_one, Bool.false_eq_true, Bool.true_eq_false, decide_eq_true_eq, eq_self, Int.reduceEq, Int.reduceLT, Int.reduceLE, Bool.and_true, Bool.true_and, Bool.and_false, Bool.false_and, Nat.zero_add, ↓iso_1 hk, h0, h1]
        exact ans_fv _ _
    · by_cases h2 : op = 1
      · subst h2
        by_cases h3 : m < 0
        · have e1 : (!(decide (0 ≤ knum 1 ∧ knum 1 ≠ ks.length) || decide ((1 : Int) = 1 ∧ m < 0)) && Tm.shapedL ks) = false := by simp [h3]
          rw [e1]
          simp only [S69_129, S69_130, S69_131, S69_133, S69_134, S69_135, S69_136, S69, ↓XX, ↓reduceIte, Nat.reduceBEq, decide_true, decide_false, Bool.not_true, Bool.not_false, List.map_cons, List.map_nil, List.length_map, List.length_cons, List.length_nil, Nat.reduceAdd, Int.cast_ofNat_Int, Int.natCast_zero, Int.natCast_one, Bool.false_eq_true, Bool.true_eq_false, decide_eq_true_eq, eq_self, Int.reduceEq, Int.reduceLT, Int.reduceLE, Bool.and_true, Bool.true_and, Bool.and_false, Bool.false_and, Nat.zero_add, ↓iso_1 hk, h0, h3]
          exact ans_fv _ _
        · have e1 : (!(decide (0 ≤ knum 1 ∧ knum 1 ≠ ks.length) || decide ((1 : Int) = 1 ∧ m < 0)) && Tm.shapedL ks) = Tm.shapedL ks := by simp [h0, h3]
          rw [e1]
          simp only [S69_129, S69_130, S69_131, S69_133, S69_134, S69_135, S69_136, S69, ↓XX, ↓reduceIte, Nat.reduceBEq, decide_true, decide_false, Bool.not_true, Bool.not_false, List.map_cons, List.map_nil, List.length_map, List.length_cons, List.length_nil, Nat.reduceAdd, Int.cast_ofNat_Int, Int.natCast_zero, Int.natCast_one, Bool.false_eq_true, Bool.true_eq_false, decide_eq_true_eq, eq_self, Int.reduceEq, Int.reduceLT, Int.reduceLE, Bool.and_true, Bool.true_and, Bool.and_false, Bool.false_and, Nat.zero_add, ↓iso_1 hk, h0, h3, ↓drop_e, XD, heldB, flatD, List.any_cons, List.any_nil, List.all_cons, List.all_nil, List.filter_cons, List.filter_nil, List.contains_cons, List.contains_nil, Bool.or_false, Bool.or_true, Bool.false_or, Bool.true_or, Bool.and_self, Bool.not_eq_true, BEq.rfl, beq_self_eq_true]
          exact loop
      · have e1 : (!(decide (0 ≤ knum op ∧ knum op ≠ ks.length) || decide (op = 1 ∧ m < 0)) && Tm.shapedL ks) = Tm.shapedL ks := by simp [h0, h2]
        rw [e1]
        simp only [S69_129, S69_130, S69_131, S69_133, S69_134, S69_135, S69_136, S69, ↓XX, ↓reduceIte, Nat.reduceBEq, decide_true, decide_false, Bool.not_true, Bool.not_false, List.map_cons, List.map_nil, List.length_map, List.length_cons, List.length_nil, Nat.reduceAdd, Int.cast_ofNat_Int, Int.natCast_zero, Int.natCast_one, Bool.false_eq_true, Bool.true_eq_false, decide_eq_true_eq, eq_self, Int.reduceEq, Int.reduceLT, Int.reduceLE, Bool.and_true, Bool.true_and, Bool.and_false, Bool.false_and, Nat.zero_add, ↓iso_1 hk, h0, h2, ↓drop_e, XD, heldB, flatD, List.any_cons, List.any_nil, List.all_cons, List.all_nil, List.filter_cons, List.filter_nil, List.contains_cons, List.contains_nil, Bool.or_false, Bool.or_true, Bool.false_or, Bool.true_or, Bool.and_self, Bool.not_eq_true, BEq.rfl, beq_self_eq_true]
        exact loop
end Idl
end Go.Proofs.Ytkfecngimlcfoaa

namespace Go.Proofs.Ytkfecngimlcfoaa
namespace Idl
def normP (f : Nat) (t : Tm) : Option (Tm × Int) :=
  if t.shaped = false then some (.z, 1) else match evP f [] t ⟨100000, 5000000, 0⟩ with
  | none => none
  | some (v, m) => if m.e ≠ 0 then some (.z, m.e) else match bkP f v 0 1 m 0 with
    | none => none
    | some (u, m, _) => if m.e ≠ 0 then some (.z, m.e) else some (u, 0)
theorem inl_e {ih : Handler} {f : FuncId} {args : List IV} {h h' : Hp} {v : IV} (hr : ih f args h = some (v, h')) (k : IV → Hp → List Ref → List Ref → Option (IV × Hp)) : inlS ih f args h k = k v h' [] [] := by
  unfold inlS
  rw [hr]
noncomputable abbrev Hnm (a b : Blk) (s u r e : Int) : Hp :=
  ⟨[(42991616, a), (42991617, b), (73401345, .row [iv s, iv u, iv r, iv e, .mapr (.own 73402369)] false), (73402369, .map (rulesO 73401345))], []⟩
noncomputable abbrev Hbg (a b : Blk) (es : List (Int × IV)) : Hp :=
  ⟨[(42991616, a), (42991617, b), (73401345, .row [iv 100000, iv 5000000, iv 0, iv 0, .dead] false), (73402369, .map es)], []⟩
noncomputable abbrev fnO (g : FuncId) : IV := .func (.func g) [.ptr (.own 73401345) 0] []
theorem ins_b (a b : Blk) (es : List (Int × IV)) (g : FuncId) (n : Int) (s : Nat) (k : IV → Hp → List Ref → List Ref → Option (IV × Hp)) :
    genS (pcInsert EE 98 (.mapr (.own 73402369)) (iv n) (ruleO 73401345 g)) s (Hbg a b es) k = k .dead (Hbg a b (putMap n (ruleO 73401345 g) es)) [.own 73402369] [.own 73402369] := by
  rw [ins_e _ 0 _ rfl, ownK_eq]
  rw [show lookupOwn 73402369 (Hbg a b es).own = some (.map es) from rfl, Option.bind_some, as_map, putOwnK_eq]
  rfl
theorem bld_b (g : FuncId) (k : IV → Option (IV × Hp)) : bldS [.fv .nilf] [(0, 1, fnO g)] k = k (ruleO 73401345 g) := rfl
theorem begun_69 (a b : Blk) (es : List (Int × IV)) : S70_69 (.ptr (.own 73401345) 0) (Hbg a b es) (.mapr (.own 73402369)) = some (.ptr (.own 73401345) 0, ⟨[(42991616, a), (42991617, b), (73401345, .row [iv 100000, iv 5000000, iv 0, iv 0, .mapr (.own 73402369)] false), (73402369, .map es)], []⟩) := by
  simp only [S70_69, ↓XX, ↓reduceIte, Nat.reduceBEq, decide_true, decide_false, Bool.not_true, Bool.not_false, List.map_cons, List.map_nil, List.length_map, List.length_cons, List.length_nil, Nat.reduceAdd, Int.cast_ofNat_Int, Int.natCast_zero, Int.natCast_one, Bool.false_eq_true, Bool.true_eq_false, decide_eq_true_eq, eq_self, Int.reduceEq, Int.reduceLT, Int.reduceLE, Bool.and_true, Bool.true_and, Bool.and_false, Bool.false_and, Nat.zero_add, ↓on_mapr, ↓of4]
theorem gen_fn (g : FuncId) (s : Nat) (h : Hp) (k : IV → Hp → List Ref → List Ref → Option (IV × Hp)) : genS (Idl.val (mkFunc (.func g) [.ptr (.own 73401345) 0] [])) s h k = k (fnO g) h [] [] := gen_val' _ _ _ _
theorem begun_70 (a b : Blk) (es : List (Int × IV)) : S70_70 (fnO 97) (Hbg a b es) (.mapr (.own 73402369)) (.ptr (.own 73401345) 0) =
    S70_69 (.ptr (.own 73401345) 0) (Hbg a b (putMap 19 (ruleO 73401345 98) (putMap 30 (ruleO 73401345 97) es))) (.mapr (.own 73402369)) := by
  unfold S70_70
  rw [bld_b, ins_b, gen_fn, bld_b, ins_b]
theorem begun_71 (a b : Blk) (es : List (Int × IV)) : S70_71 (Hbg a b es) (.mapr (.own 73402369)) (ruleO 73401345 95) (.ptr (.own 73401345) 0) =
    S70_70 (fnO 97) (Hbg a b (putMap 13 (ruleO 73401345 96) (putMap 9 (ruleO 73401345 95) es))) (.mapr (.own 73402369)) (.ptr (.own 73401345) 0) := by
  unfold S70_71
  rw [ins_b, gen_fn, bld_b, ins_b, gen_fn]
theorem begun_72 (a b : Blk) (es : List (Int × IV)) : S70_72 (Hbg a b es) (.ptr (.own 73401345) 0) (.mapr (.own 73402369)) =
    S70_71 (Hbg a b (putMap 8 (ruleO 73401345 95) es)) (.mapr (.own 73402369)) (ruleO 73401345 95) (.ptr (.own 73401345) 0) := by
  unfold S70_72
  rw [gen_fn, bld_b, ins_b, gen_fn, bld_b]
theorem bld_m (k : IV → Option (IV × Hp)) : bldS [.fv (.int .i64 0), .fv (.int .i64 0), .fv (.int .i64 0), .fv (.int .i64 0), .dead] [(0, 1, .fv (.int .i64 100000)), (1, 1, .fv (.int .i64 5000000))] k = k (.agg [iv 100000, iv 5000000, iv 0, iv 0, .dead]) := by
  simp only [↓XX, ↓reduceIte, Nat.reduceBEq, decide_true, decide_false, Bool.not_true, Bool.not_false, List.map_cons, List.map_nil, List.length_map, List.length_cons, List.length_nil, Nat.reduceAdd, Int.cast_ofNat_Int, Int.natCast_zero, Int.natCast_one, Bool.false_eq_true, Bool.true_eq_false, decide_eq_true_eq, eq_self, Int.reduceEq, Int.reduceLT, Int.reduceLE, Bool.and_true, Bool.true_and, Bool.and_false, Bool.false_and, Nat.zero_add, ↓alv_dead]
theorem begun_e {n : Nat} (hn : 0 < n) (a b : Blk) : SS dt n 70 [] ⟨[(42991616, a), (42991617, b)], []⟩ = some (.ptr (.own 73401345) 0, Hnm a b 100000 5000000 0 0) := by
  obtain ⟨n, rfl⟩ : ∃ k, n = k + 1 := ⟨n - 1, by omega⟩
  rw [c70]
  unfold S70
  rw [bld_m, box_agg']
  have e1 : ∀ k : IV → Hp → List Ref → List Ref → Option (IV × Hp), newS 73401345 (.row [iv 100000, iv 5000000, iv 0, iv 0, .dead] false) (.ptr (.own 73401345) 0) ⟨[(42991616, a), (42991617, b)], []⟩ k =
      k (.ptr (.own 73401345) 0) ⟨[(42991616, a), (42991617, b), (73401345, .row [iv 100000, iv 5000000, iv 0, iv 0, .dead] false)], []⟩ [] [.own 73401345] := by
    intro k
    simp only [↓XX, ↓reduceIte, Nat.reduceBEq, decide_true, decide_false, Bool.not_true, Bool.not_false, List.map_cons, List.map_nil, List.length_map, List.length_cons, List.length_nil, Nat.reduceAdd, Int.cast_ofNat_Int, Int.natCast_zero, Int.natCast_one, Bool.false_eq_true, Bool.true_eq_false, decide_eq_true_eq, eq_self, Int.reduceEq, Int.reduceLT, Int.reduceLE, Bool.and_true, Bool.true_and, Bool.and_false, Bool.false_and, Nat.zero_add]
  rw [e1]
  have e2 : ∀ k : IV → Hp → List Ref → List Ref → Option (IV × Hp), genS (pcMakeMap 73402369) 73402369 ⟨[(42991616, a), (42991617, b), (73401345, .row [iv 100000, iv 5000000, iv 0, iv 0, .dead] false)], []⟩ k =
      k (.mapr (.own 73402369)) (Hbg a b []) [] [.own 73402369] := by
    intro k
    rw [mk_m]
    simp only [↓XX, ↓reduceIte, Nat.reduceBEq, decide_true, decide_false, Bool.not_true, Bool.not_false, List.map_cons, List.map_nil, List.length_map, List.length_cons, List.length_nil, Nat.reduceAdd, Int.cast_ofNat_Int, Int.natCast_zero, Int.natCast_one, Bool.false_eq_true, Bool.true_eq_false, decide_eq_true_eq, eq_self, Int.reduceEq, Int.reduceLT, Int.reduceLE, Bool.and_true, Bool.true_and, Bool.and_false, Bool.false_and, Nat.zero_add]
  rw [e2, gen_fn, bld_b, ins_b, begun_72, begun_71, begun_70, begun_69]
  rfl
section
variable {ih : Handler} {f : FuncId} {w : FV} {a b : Blk} {s u r e s' u' r' e' : Int} (k : IV → Hp → List Ref → List Ref → Option (IV × Hp))
theorem iso_n (args : List IV) (ks : List Bool) (hks : ∀ b ∈ ks, b = false) {vs : List FV} (hz : frzPL args = some vs) (hr : AnsX (ih f (.ptr (.ext 0) 0 :: vs.map .fv) ⟨[], MX s u r e⟩) w (MX s' u' r' e')) :
    isoS (true :: ks) false false ih f (.ptr (.own 73401345) 0 :: args) (Hnm a b s u r e) k = k (.fv w) (Hnm a b s' u' r' e') [.own 73402369, .own 73401345] [.own 73401345, .own 73402369] := by
  rw [iso_om hks hz (mp := 73402369) (by decide) (by rfl) (by rfl) hr]
  rfl
theorem iso_n3 {x y : IV} {vx vy : FV} (hr : AnsX (ih f [.ptr (.ext 0) 0, .fv vx, .fv vy] ⟨[], MX s u r e⟩) w (MX s' u' r' e')) (hx : frzP x = some vx) (hy : frzP y = some vy) :
    isoS [true, false, false] false false ih f [.ptr (.own 73401345) 0, x, y] (Hnm a b s u r e) k = k (.fv w) (Hnm a b s' u' r' e') [.own 73402369, .own 73401345] [.own 73401345, .own 73402369] :=
  iso_n k [x, y] [false, false] (by simp) (zl_2 hx hy) hr
theorem iso_n4 {x y z : IV} {vx vy vz : FV} (hr : AnsX (ih f [.ptr (.ext 0) 0, .fv vx, .fv vy, .fv vz] ⟨[], MX s u r e⟩) w (MX s' u' r' e')) (hx : frzP x = some vx) (hy : frzP y = some vy) (hz : frzP z = some vz) :
    isoS [true, false, false, false] false false ih f [.ptr (.own 73401345) 0, x, y, z] (Hnm a b s u r e) k = k (.fv w) (Hnm a b s' u' r' e') [.own 73402369, .own 73401345] [.own 73401345, .own 73402369] :=
  iso_n k [x, y, z] [false, false, false] (by simp) (zl_3 hx hy hz) hr
end
set_option maxRecDepth 20000 in
set_option maxHeartbeats 1000000 in
theorem normP_ok {f n : Nat} {t u : Tm} {e : Int} (h : normP f t = some (u, e)) (hn : f + 3 ≤ n) (hw : t.wt + 3 < n) (hw2 : t.wt ≤ 1152921504606846976) : Ans (SS dt n 41 [.fv t.enc] ⟨[], []⟩) (.tuple [u.enc, .int .i64 e]) := by
  obtain ⟨n, rfl⟩ : ∃ k, n = k + 1 := ⟨n - 1, by omega⟩
  rw [c41]
  have hs := shaped_ok n t (by omega) hw2
  unfold normP at h
  obtain ⟨op, m, ks⟩ := t
  rw [enc_mk] at hs ⊢
  by_cases h0 : (Tm.mk op m ks).shaped = false
  · rw [if_pos h0] at h
    simp only [Option.some.injEq, Prod.mk.injEq] at h
    obtain ⟨rfl, rfl⟩ := h
    rw [h0] at hs
    simp only [S41_77, S41_78, S41_79, S41_80, S41_81, S41_82, S41_83, S41_84, S41_85, S41_86, S41, ↓XX, ↓reduceIte, Nat.reduceBEq, decide_true, decide_false, Bool.not_true, Bool.not_false, List.map_cons, List.map_nil, List.length_map, List.length_cons, List.length_nil, Nat.reduceAdd, Int.cast_ofNat_Int, Int.natCast_zero, Int.natCast_one, Bool.false_eq_true, Bool.true_eq_false, decide_eq_true_eq, eq_self, Int.reduceEq, Int.reduceLT, Int.reduceLE, Bool.and_true, Bool.true_and, Bool.and_false, Bool.false_and, Nat.zero_add, ↓iso_1 hs]
    exact ans_t rfl (by simp) _
  · rw [if_neg h0] at h
    have h0 : (Tm.mk op m ks).shaped = true := by simpa using h0
    rw [h0] at hs
    cases hev : evP f [] (.mk op m ks) ⟨100000, 5000000, 0⟩ with
    | none => rw [hev] at h; cases h
    | some q =>
      obtain ⟨v, m1⟩ := q
      rw [hev] at h
      simp only at h
      have hc1 := (mx_ok f).1 _ _ _ _ _ hev 0 n (by omega)
      rw [enc_mk, penv_nil] at hc1
      by_cases h1 : m1.e = 0
      · rw [if_neg (by simpa using h1)] at h
        simp only [h1] at hc1
        cases hbk : bkP f v 0 1 m1 0 with
        | none => rw [hbk] at h; cases h
        | some q =>
          obtain ⟨u1, m2, r2⟩ := q
          rw [hbk] at h
          simp only at h
          have hc2 := bk_ok f _ _ _ _ _ _ _ _ hbk n (by omega)
          obtain ⟨o1, n1, k1⟩ := u1
          rw [enc_mk] at hc2
          simp only [h1] at hc2
          by_cases h2 : m2.e = 0
          · rw [if_neg (by simpa using h2)] at h
            simp only [Option.some.injEq, Prod.mk.injEq] at h
            obtain ⟨rfl, rfl⟩ := h
            rw [enc_mk]
            simp only [S41_77, S41_78, S41_79, S41_80, S41_81, S41_82, S41_83, S41_84, S41_85, S41_86, S41, ↓XX, ↓reduceIte, Nat.reduceBEq, decide_true, decide_false, Bool.not_true, Bool.not_false, List.map_cons, List.map_nil, List.length_map, List.length_cons, List.length_nil, Nat.reduceAdd, Int.cast_ofNat_Int, Int.natCast_zero, Int.natCast_one, Bool.false_eq_true, Bool.true_eq_false, decide_eq_true_eq, eq_self, Int.reduceEq, Int.reduceLT, Int.reduceLE, Bool.and_true, Bool.true_and, Bool.and_false, Bool.false_and, Nat.zero_add, ↓iso_1 hs, ↓inl_e (begun_e (n := n) (by omega) _ _), ↓iso_n3 _ hc1, ↓iso_n4 _ hc2, h1, h2]
            exact ans_fv _ _
          · rw [if_pos h2] at h
            simp only [Option.some.injEq, Prod.mk.injEq] at h
            obtain ⟨rfl, rfl⟩ := h
            simp only [S41_77, S41_78, S41_79, S41_80, S41_81, S41_82, S41_83, S41_84, S41_85, S41_86, S41, ↓XX, ↓reduceIte, Nat.reduceBEq, decide_true, decide_false, Bool.not_true, Bool.not_false, List.map_cons, List.map_nil, List.length_map, List.length_cons, List.length_nil, Nat.reduceAdd, Int.cast_ofNat_Int, Int.natCast_zero, Int.natCast_one, Bool.false_eq_true, Bool.true_eq_false, decide_eq_true_eq, eq_self, Int.reduceEq, Int.reduceLT, Int.reduceLE, Bool.and_true, Bool.true_and, Bool.and_false, Bool.false_and, Nat.zero_add, ↓iso_1 hs, ↓inl_e (begun_e (n := n) (by omega) _ _), ↓iso_n3 _ hc1, ↓iso_n4 _ hc2, h1, h2]
            exact ans_t rfl (by simp) _
      · rw [if_pos h1] at h
        simp only [Option.some.injEq, Prod.mk.injEq] at h
        obtain ⟨rfl, rfl⟩ := h
        simp only [S41_77, S41_78, S41_79, S41_80, S41_81, S41_82, S41_83, S41_84, S41_85, S41_86, S41, ↓XX, ↓reduceIte, Nat.reduceBEq, decide_true, decide_false, Bool.not_true, Bool.not_false, List.map_cons, List.map_nil, List.length_map, List.length_cons, List.length_nil, Nat.reduceAdd, Int.cast_ofNat_Int, Int.natCast_zero, Int.natCast_one, Bool.false_eq_true, Bool.true_eq_false, decide_eq_true_eq, eq_self, Int.reduceEq, Int.reduceLT, Int.reduceLE, Bool.and_true, Bool.true_and, Bool.and_false, Bool.false_and, Nat.zero_add, ↓iso_1 hs, ↓inl_e (begun_e (n := n) (by omega) _ _), ↓iso_n3 _ hc1, h1]
        exact ans_t rfl (by simp) _
end Idl
end Go.Proofs.Ytkfecngimlcfoaa

namespace Go.Proofs.Ytkfecngimlcfoaa
namespace Idl
theorem gb1 (a : FV) : goB 400 [.ext 0] 0 [.row [.fv a] false] = true := goB_one [a]
theorem ob1 (a : FV) : okB 1 [.row [.fv a] false] = true := okB_one [a]
theorem onex1 (a a' : FV) : OneX [.row [.fv a] false] [.row [.fv a'] false] := ⟨gb1 .., rfl, rfl, ob1 ..⟩
theorem iso_mm {ks : List Bool} (hks : ∀ b ∈ ks, b = false) {ih : Handler} {f : FuncId} {a0 : IV} {x0 : FV} {args : List IV} {vs : List FV} {w : FV} {ext ext' : List Blk} (h0 : frzP a0 = some x0) (hz : frzPL args = some vs) (X : OneX ext ext') (hr : AnsX (ih f (.fv x0 :: .ptr (.ext 0) 0 :: vs.map .fv) ⟨[], ext⟩) w ext')
    (own : List (Nat × Blk)) (k : IV → Hp → List Ref → List Ref → Option (IV × Hp)) : isoS (false :: true :: ks) false false ih f (a0 :: .ptr (.ext 0) 0 :: args) ⟨own, ext⟩ k = k (.fv w) ⟨own, ext'⟩ [.ext 0] [.ext 0] := by
  rw [iso_e, fz1f, fzp_u _ _ _ _ h0, fz1k, as_p, fza_k 0 args _ _ _ _ ks hks hz]
  have := iso_cx (r1 := .ext 0) (rs1 := []) hr X.g (by rw [X.l, X.l']) (by rw [X.l]; exact X.o) own (ih f (.fv x0 :: .ptr (.ext 0) 0 :: vs.map .fv) ⟨[], []⟩) [] [] (isoD (false :: true :: ks) false false ih f (a0 :: .ptr (.ext 0) 0 :: args) ⟨own, ext⟩ k) k
  refine this.trans ?_
  rw [X.l]
  rfl
theorem iso_mm3 {ih : Handler} {f : FuncId} {a b : IV} {x y w : FV} {ext ext' : List Blk} (hr : AnsX (ih f [.fv x, .ptr (.ext 0) 0, .fv y] ⟨[], ext⟩) w ext') (X : OneX ext ext') (ha : frzP a = some x) (hb : frzP b = some y) (own : List (Nat × Blk))
    (k : IV → Hp → List Ref → List Ref → Option (IV × Hp)) : isoS [false, true, false] false false ih f [a, .ptr (.ext 0) 0, b] ⟨own, ext⟩ k = k (.fv w) ⟨own, ext'⟩ [.ext 0] [.ext 0] := iso_mm (ks := [false]) (by simp) ha (zl_1 hb) X hr own k
theorem iso_oo {ks : List Bool} (hks : ∀ b ∈ ks, b = false) {ih : Handler} {f : FuncId} {a0 : IV} {x0 : FV} {args : List IV} {vs : List FV} {w : FV} {s : Nat} {st st' : List FV} {own : List (Nat × Blk)} (h0 : frzP a0 = some x0) (hz : frzPL args = some vs) (hl : lookupOwn s own = some (.row (st.map .fv) false))
    (hr : AnsX (ih f (.fv x0 :: .ptr (.ext 0) 0 :: vs.map .fv) ⟨[], [.row (st.map .fv) false]⟩) w [.row (st'.map .fv) false]) (k : IV → Hp → List Ref → List Ref → Option (IV × Hp)) :
    isoS (false :: true :: ks) false false ih f (a0 :: .ptr (.own s) 0 :: args) ⟨own, []⟩ k = k (.fv w) ⟨putOwn s (.row (st'.map .fv) false) own, []⟩ [.own s] [.own s] := by
  obtain ⟨v, own', e1, hfz⟩ := hr
  obtain ⟨u, hu⟩ := ansx_frz hfz
  have hD : isoD (false :: true :: ks) false false ih f (a0 :: .ptr (.own s) 0 :: args) ⟨own, []⟩ k = k (.fv w) ⟨putOwn s (.row (st'.map .fv) false) own, []⟩ [.own s] [.own s] := by
    have h1 : frzArgs (false :: true :: ks) (a0 :: .ptr (.own s) 0 :: args) = .ret (.fv x0 :: .ptr (.own s) 0 :: vs.map .fv, [.own s], []) := by
      simp only [frzArgs, frp 4096 (by omega) h0, frz_argsk args ks hks hz, Rd.bind, IV.refs]
      rfl
    have h2 : (gather 4096 [.own s] []).runLog ⟨own, []⟩ [] = some ([(.own s, .row (st.map .fv) false)], [.own s]) := by
      show (gather (4094 + 1 + 1) [.own s] []).runLog ⟨own, []⟩ [] = _
      simp only [gather, hasRef, Bool.false_eq_true, if_false, Rd.runLog, Hp.get, hl, Blk.refs, refsL_fv, List.append_nil, List.nil_append]
    have h3 : IV.ren.renL (into [(.own s, .row (st.map .fv) false)]) (.fv x0 :: .ptr (.own s) 0 :: vs.map .fv) = some (.fv x0 :: .ptr (.ext 0) 0 :: vs.map .fv) := by
      simp only [IV.ren.renL, IV.ren, into, placeOf, if_true, Option.map_some, Option.bind_some, renL_fv]
    have h4 : renBlks (into [(.own s, .row (st.map .fv) false)]) [.row (st.map .fv) false] = some [.row (st.map .fv) false] := by
      simp only [renBlks, Blk.ren, renL_fv, Option.map_some, Option.bind_some]
    have h5 : renBlks (back [(.own s, .row (st.map .fv) false)]) [.row (st'.map .fv) false] = some [.row (st'.map .fv) false] := by
      simp only [renBlks, Blk.ren, renL_fv, Option.map_some, Option.bind_some]
    unfold isoD
    simp only [h1, Rd.runLog, h2, h3, List.map_cons, List.map_nil, h4, fL_eq (fV_eq 3), fL_eq fBk_eq, askedD, Bool.false_eq_true, if_false, e1, hu, Option.map_some, IV.ren, h5, List.length_cons, List.length_nil, keys, List.all_nil, and_self, if_true, List.nil_append, List.zip_cons_cons, List.zip_nil_left]
    have h6 : laid ⟨own, []⟩ [(.own s, .row (st'.map .fv) false)] = some ⟨putOwn s (.row (st'.map .fv) false) own, []⟩ := by
      simp only [laid, Hp.get, hl, Hp.set]
    simp only [h6, fH_eq, fV_eq]
  rw [iso_e, fz1f, fzp_u _ _ _ _ h0, fz1k, as_p, fza_k 0 args _ _ _ _ ks hks hz]
  simp only [isoC, goB_own, cond_false]
  exact hD
theorem iso_oo3 {ih : Handler} {f : FuncId} {x y : IV} {vx vy w : FV} {s : Nat} {a a' : FV} {own own' : List (Nat × Blk)} (hr : AnsX (ih f [.fv vx, .ptr (.ext 0) 0, .fv vy] ⟨[], [.row [.fv a] false]⟩) w [.row [.fv a'] false])
    (hx : frzP x = some vx) (hy : frzP y = some vy) (hl : lookupOwn s own = some (.row [.fv a] false)) (ho : putOwn s (.row [.fv a'] false) own = own') (k : IV → Hp → List Ref → List Ref → Option (IV × Hp)) :
    isoS [false, true, false] false false ih f [x, .ptr (.own s) 0, y] ⟨own, []⟩ k = k (.fv w) ⟨own', []⟩ [.own s] [.own s] := by
  subst ho
  exact iso_oo (ks := [false]) (by simp) (st := [a]) (st' := [a']) hx (zl_1 hy) hl hr k
end Idl
end Go.Proofs.Ytkfecngimlcfoaa

namespace Go.Proofs.Ytkfecngimlcfoaa
namespace Idl
def kidsN (op : Int) : Int := if op < 0 then -1 else ([-1, 0, 0, 2, 2, 2, 2, 3, 1, 1, 0, 0, 1, 4, 0, 0, 2, 2, 1, 1, 2, 2, 2, 1, 1, 0, 2, 3, 2, 2, 1] : List Int).getD op.toNat (-1)
theorem op_cases (op : Int) : (0 ≤ op ∧ op ≤ 30) ∨ op < 0 ∨ 30 < op := by omega
theorem kidsN_out {op : Int} (h : op < 0 ∨ 30 < op) : kidsN op = -1 := by
  unfold kidsN
  split
  · rfl
  · rw [List.getD_eq_getElem?_getD, List.getElem?_eq_none (by simp; omega)]; rfl
theorem op_in {P : Int → Prop} (h : ∀ k : Nat, k < 31 → P k) {op : Int} (h1 : 0 ≤ op ∧ op ≤ 30) : P op := by
  have := h op.toNat (by omega)
  rwa [Int.toNat_of_nonneg h1.1] at this
def numb (op n : Int) : Bool := if op = 1 then decide (0 ≤ n) && decide (n ≤ 3000) else if op = 2 then decide (0 ≤ n) && decide (n ≤ 2) else if op = 26 then decide (0 ≤ n) && decide (n ≤ 4) else if op = 25 then true else decide (n = 0)
theorem pnumber_ok {n : Nat} (hn : 0 < n) (op m : Int) : Ans (SS dt n 92 [iv op, iv m] ⟨[], []⟩) (.bool (numb op m)) := by
  obtain ⟨n, rfl⟩ : ∃ k, n = k + 1 := ⟨n - 1, by omega⟩
  rw [c92]
  unfold numb
  by_cases h1 : op = 1
  · by_cases h0 : 0 ≤ m <;> simp only [S92_47, S92_48, S92_49, S92_50, S92_51, S92, ↓XX, ↓reduceIte, Nat.reduceBEq, decide_true, decide_false, Bool.not_true, Bool.not_false, List.map_cons, List.map_nil, List.length_map, List.length_cons, List.length_nil, Nat.reduceAdd, Int.cast_ofNat_Int, Int.natCast_zero, Int.natCast_one, Bool.false_eq_true, Bool.true_eq_false, decide_eq_true_eq, eq_self, Int.reduceEq, Int.reduceLT, Int.reduceLE, Bool.and_true, Bool.true_and, Bool.and_false, Bool.false_and, Nat.zero_add, h0, h1] <;> exact ans_fv _ _
  by_cases h2 : op = 2
  · by_cases h0 : 0 ≤ m <;> simp only [S92_47, S92_48, S92_49, S92_50, S92_51, S92, ↓XX, ↓reduceIte, Nat.reduceBEq, decide_true, decide_false, Bool.not_true, Bool.not_false, List.map_cons, List.map_nil, List.length_map, List.length_cons, List.length_nil, Nat.reduceAdd, Int.cast_ofNat_Int, Int.natCast_zero, Int.natCast_one, Bool.false_eq_true, Bool.true_eq_false, decide_eq_true_eq, eq_self, Int.reduceEq, Int.reduceLT, Int.reduceLE, Bool.and_true, Bool.true_and, Bool.and_false, Bool.false_and, Nat.zero_add, h0, h2] <;> exact ans_fv _ _
  by_cases h3 : op = 26
  · by_cases h0 : 0 ≤ m <;> simp only [S92_47, S92_48, S92_49, S92_50, S92_51, S92, ↓XX, ↓reduceIte, Nat.reduceBEq, decide_true, decide_false, Bool.not_true, Bool.not_false, List.map_cons, List.map_nil, List.length_map, List.length_cons, List.length_nil, Nat.reduceAdd, Int.cast_ofNat_Int, Int.natCast_zero, Int.natCast_one, Bool.false_eq_true, Bool.true_eq_false, decide_eq_true_eq, eq_self, Int.reduceEq, Int.reduceLT, Int.reduceLE, Bool.and_true, Bool.true_and, Bool.and_false, Bool.false_and, Nat.zero_add, h0, h3] <;> exact ans_fv _ _
  by_cases h4 : op = 25
  · simp only [S92_47, S92_48, S92_49, S92_50, S92_51, S92, ↓XX, ↓reduceIte, Nat.reduceBEq, decide_true, decide_false, Bool.not_true, Bool.not_false, List.map_cons, List.map_nil, List.length_map, List.length_cons, List.length_nil, Nat.reduceAdd, Int.cast_ofNat_Int, Int.natCast_zero, Int.natCast_one, Bool.false_eq_true, Bool.true_eq_false, decide_eq_true_eq, eq_self, Int.reduceEq, Int.reduceLT, Int.reduceLE, Bool.and_true, Bool.true_and, Bool.and_false, Bool.false_and, Nat.zero_add, h4]; exact ans_fv _ _
  simp only [S92_47, S92_48, S92_49, S92_50, S92_51, S92, ↓XX, ↓reduceIte, Nat.reduceBEq, decide_true, decide_false, Bool.not_true, Bool.not_false, List.map_cons, List.map_nil, List.length_map, List.length_cons, List.length_nil, Nat.reduceAdd, Int.cast_ofNat_Int, Int.natCast_zero, Int.natCast_one, Bool.false_eq_true, Bool.true_eq_false, decide_eq_true_eq, eq_self, Int.reduceEq, Int.reduceLT, Int.reduceLE, Bool.and_true, Bool.true_and, Bool.and_false, Bool.false_and, Nat.zero_add, h1, h2, h3, h4]; exact ans_fv _ _
end Idl
end Go.Proofs.Ytkfecngimlcfoaa

namespace Go.Proofs.Ytkfecngimlcfoaa
namespace Idl
mutual
def Tm.chk : Tm → Int → Int → Int × Int
  | .mk op m l, n, d => if 3000 < n + 1 ∨ 120 < d then (n + 1, 5) else if kidsN op ≠ (l.length : Int) ∨ numb op m = false then (n + 1, 1) else Tm.chkL l (n + 1) (d + 1)
def Tm.chkL : List Tm → Int → Int → Int × Int
  | [], n, _ => (n, 0)
  | t :: l, n, d => if (t.chk n d).2 = 0 then Tm.chkL l (t.chk n d).1 d else t.chk n d
end
mutual
theorem chk_b : ∀ (t : Tm) (n d : Int), n ≤ 3000 → n ≤ (t.chk n d).1 ∧ (t.chk n d).1 ≤ 3001 ∧ ((t.chk n d).2 = 0 → (t.chk n d).1 = n + t.wt ∧ (t.chk n d).1 ≤ 3000 ∧ d ≤ 120)
  | .mk op m l, n, d, hn => by
    rw [Tm.chk]
    split
    · simp; omega
    · split
      · simp; omega
      · have := chkL_b l (n + 1) (d + 1) (by omega)
        simp only [Tm.wt]
        omega
theorem chkL_b : ∀ (l : List Tm) (n d : Int), n ≤ 3000 → n ≤ (Tm.chkL l n d).1 ∧ (Tm.chkL l n d).1 ≤ 3001 ∧ ((Tm.chkL l n d).2 = 0 → (Tm.chkL l n d).1 = n + Tm.wtL l ∧ (Tm.chkL l n d).1 ≤ 3000)
  | [], n, d, hn => by simp [Tm.chkL, Tm.wtL]; omega
  | t :: l, n, d, hn => by
    have h1 := chk_b t n d hn
    rw [Tm.chkL]
    split
    · rename_i h0
      have h2 := chkL_b l (t.chk n d).1 d (by omega)
      simp only [Tm.wtL]
      omega
    · rename_i h0
      simp only [Tm.wtL]
      omega
end
theorem kidsN_le (op : Int) : kidsN op ≤ 4 := by
  rcases op_cases op with h | h
  · exact op_in (P := fun op => kidsN op ≤ 4) (by intro k hk; have : ∀ k : Fin 31, kidsN (k.val : Int) ≤ 4 := by decide
                                                  exact this ⟨k, hk⟩) h
  · rw [kidsN_out h]; omega
theorem kids_bld (s : Nat) (h : Hp) (k : IV → Hp → List Ref → List Ref → Option (IV × Hp)) : genS (pcBuild EE 132 [(0, .fv (.int .i64 (-1))), (1, .fv (.int .i64 0)), (2, .fv (.int .i64 0)), (3, .fv (.int .i64 2)), (4, .fv (.int .i64 2)), (5, .fv (.int .i64 2)), (6, .fv (.int .i64 2)), (7, .fv (.int .i64 3)), (8, .fv (.int .i64 1)), (9, .fv (.int .i64 1)), (10, .fv (.int .i64 0)), (11, .fv (.int .i64 0)), (12, .fv (.int .i64 1)), (13, .fv (.int .i64 4)), (14, .fv (.int .i64 0)), (15, .fv (.int .i64 0)), (16, .fv (.int .i64 2)), (17, .fv (.int .i64 2)), (18, .fv (.int .i64 1)), (19, .fv (.int .i64 1)), (20, .fv (.int .i64 2)), (21, .fv (.int .i64 2)), (22, .fv (.int .i64 2)), (23, .fv (.int .i64 1)), (24, .fv (.int .i64 1)), (25, .fv (.int .i64 0)), (26, .fv (.int .i64 2)), (27, .fv (.int .i64 3)), (28, .fv (.int .i64 2)), (29, .fv (.int .i64 2)), (30, .fv (.int .i64 1))]) s h k = k (.fv (.agg [.int .i64 (-1), .int .i64 0, .int .i64 0, .int .i64 2, .int .i64 2, .int .i64 2, .int .i64 2, .int .i64 3, .int .i64 1, .int .i64 1, .int .i64 0, .int .i64 0, .int .i64 1, .int .i64 4, .int .i64 0, .int .i64 0, .int .i64 2, .int .i64 2, .int .i64 1, .int .i64 1, .int .i64 2, .int .i64 2, .int .i64 2, .int .i64 1, .int .i64 1, .int .i64 0, .int .i64 2, .int .i64 3, .int .i64 2, .int .i64 2, .int .i64 1])) h [] [] := by
  have : pcBuild EE 132 [(0, .fv (.int .i64 (-1))), (1, .fv (.int .i64 0)), (2, .fv (.int .i64 0)), (3, .fv (.int .i64 2)), (4, .fv (.int .i64 2)), (5, .fv (.int .i64 2)), (6, .fv (.int .i64 2)), (7, .fv (.int .i64 3)), (8, .fv (.int .i64 1)), (9, .fv (.int .i64 1)), (10, .fv (.int .i64 0)), (11, .fv (.int .i64 0)), (12, .fv (.int .i64 1)), (13, .fv (.int .i64 4)), (14, .fv (.int .i64 0)), (15, .fv (.int .i64 0)), (16, .fv (.int .i64 2)), (17, .fv (.int .i64 2)), (18, .fv (.int .i64 1)), (19, .fv (.int .i64 1)), (20, .fv (.int .i64 2)), (21, .fv (.int .i64 2)), (22, .fv (.int .i64 2)), (23, .fv (.int .i64 1)), (24, .fv (.int .i64 1)), (25, .fv (.int .i64 0)), (26, .fv (.int .i64 2)), (27, .fv (.int .i64 3)), (28, .fv (.int .i64 2)), (29, .fv (.int .i64 2)), (30, .fv (.int .i64 1))] = Idl.val (.fv (.agg [.int .i64 (-1), .int .i64 0, .int .i64 0, .int .i64 2, .int .i64 2, .int .i64 2, .int .i64 2, .int .i64 3, .int .i64 1, .int .i64 1, .int .i64 0, .int .i64 0, .int .i64 1, .int .i64 4, .int .i64 0, .int .i64 0, .int .i64 2, .int .i64 2, .int .i64 1, .int .i64 1, .int .i64 2, .int .i64 2, .int .i64 2, .int .i64 1, .int .i64 1, .int .i64 0, .int .i64 2, .int .i64 3, .int .i64 2, .int .i64 2, .int .i64 1])) := by kernel_rfl
  rw [this]
  exact gen_val' _ _ _ _
theorem kids_out {n : Nat} {op : Int} (h : op < 0 ∨ 30 < op) : Ans (SS dt (n + 1) 91 [iv op] ⟨[], []⟩) (.int .i64 (-1)) := by
  rw [c91]
  by_cases h1 : op < 0
  · simp only [S91_29, S91, ↓XX, ↓reduceIte, Nat.reduceBEq, decide_true, decide_false, Bool.not_true, Bool.not_false, List.map_cons, List.map_nil, List.length_map, List.length_cons, List.length_nil, Nat.reduceAdd, Int.cast_ofNat_Int, Int.natCast_zero, Int.natCast_one, Bool.false_eq_true, Bool.true_eq_false, decide_eq_true_eq, eq_self, Int.reduceEq, Int.reduceLT, Int.reduceLE, Bool.and_true, Bool.true_and, Bool.and_false, Bool.false_and, Nat.zero_add, ↓kids_bld, h1]; exact ans_fv _ _
  · have h2 : 31 ≤ op := by omega
    simp only [S91_29, S91, ↓XX, ↓reduceIte, Nat.reduceBEq, decide_true, decide_false, Bool.not_true, Bool.not_false, List.map_cons, List.map_nil, List.length_map, List.length_cons, List.length_nil, Nat.reduceAdd, Int.cast_ofNat_Int, Int.natCast_zero, Int.natCast_one, Bool.false_eq_true, Bool.true_eq_false, decide_eq_true_eq, eq_self, Int.reduceEq, Int.reduceLT, Int.reduceLE, Bool.and_true, Bool.true_and, Bool.and_false, Bool.false_and, Nat.zero_add, ↓kids_bld, h1, h2]; exact ans_fv _ _
def isKids (k : Int) (o : Option (IV × Hp)) : Bool := match o with
  | some (.fv (.int .i64 m), ⟨_, []⟩) => decide (m = k)
  | _ => false
theorem ans_kids {k : Int} {o : Option (IV × Hp)} (h : isKids k o = true) : Ans o (.int .i64 k) := by
  unfold isKids at h
  split at h
  · have := of_decide_eq_true h
    subst this
    exact ans_fv _ _
  · cases h
theorem pkids_ok {n : Nat} (hn : 0 < n) (op : Int) : Ans (SS dt n 91 [iv op] ⟨[], []⟩) (.int .i64 (kidsN op)) := by
  obtain ⟨n, rfl⟩ : ∃ k, n = k + 1 := ⟨n - 1, by omega⟩
  rcases op_cases op with h | h
  · revert op
    refine fun op h => op_in (P := fun op => Ans (SS dt (n + 1) 91 [iv op] ⟨[], []⟩) (.int .i64 (kidsN op))) ?_ h
    intro k hk
    iterate 31 (rcases k with _ | k; · exact ans_kids (by kernel_rfl))
    omega
  · rw [kidsN_out h]
    exact kids_out h
noncomputable abbrev HC (op m : Int) (ks : List Tm) (N : Int) : Hp := ⟨[(71303168, .row [iv op, iv m, .fv (.sl (ks.map Tm.enc))] false)], [.row [iv N] false]⟩
theorem drop_r1 {base rm : List Nat} {vals : List IV} {own : List (Nat × Blk)} {a : FV} (hb : rm.any base.contains = false) (hf : flatD rm vals own [] = true) (k : Hp → Option (IV × Hp)) :
    dropS base rm vals ⟨own, [.row [.fv a] false]⟩ k = k ⟨stays rm vals own [], [.row [.fv a] false]⟩ := drop_x (by intro s; simp [Blk.refs, IV.refs.refsL, IV.refs]) hb hf k
theorem pcheck_ok : ∀ (n : Nat) (t : Tm) (N d : Int), 2 * t.wt + 2 < n → 0 ≤ N → N ≤ 3000 → 0 ≤ d → d ≤ 121 →
    AnsX (SS dt n 68 [.fv t.enc, .ptr (.ext 0) 0, iv d] ⟨[], [.row [iv N] false]⟩) (.int .i64 (t.chk N d).2) [.row [iv (t.chk N d).1] false] := by
  intro n
  induction n using Nat.strongRecOn with
  | ind n ih =>
    intro t N d hn h0 hN hd0 hd
    obtain ⟨op, m, ks⟩ := t
    simp only [Tm.wt] at hn
    obtain ⟨n, rfl⟩ : ∃ k, n = k + 1 := ⟨n - 1, by omega⟩
    rw [c68, enc_mk]
    have hlen := wt_len ks
    have hw : w64 (N + 1) = N + 1 := by rw [w64_id] <;> omega
    have hwd : w64 (d + 1) = d + 1 := by rw [w64_id] <;> omega
    have ha := pkids_ok (n := n) (by omega) op
    have hb := pnumber_ok (n := n) (by omega) op m
    rw [Tm.chk]
    by_cases c1 : 3000 < N + 1
    · rw [if_pos (.inl c1)]
      simp only [S68_121, S68_122, S68_123, S68_124, S68_125, S68_126, S68_127, S68_128, S68_129, S68_130, S68_131, S68, ↓XX, ↓reduceIte, Nat.reduceBEq, decide_true, decide_false, Bool.not_true, Bool.not_false, List.map_cons, List.map_nil, List.length_map, List.length_cons, List.length_nil, Nat.reduceAdd, Int.cast_ofNat_Int, Int.natCast_zero, Int.natCast_one, Bool.false_eq_true, Bool.true_eq_false, decide_eq_true_eq, eq_self, Int.reduceEq, Int.reduceLT, Int.reduceLE, Bool.and_true, Bool.true_and, Bool.and_false, Bool.false_and, Nat.zero_add, hw, c1]
      exact ansx_fv _ _ _
    by_cases c2 : 120 < d
    · rw [if_pos (.inr c2)]
      simp only [S68_121, S68_122, S68_123, S68_124, S68_125, S68_126, S68_127, S68_128, S68_129, S68_130, S68_131, S68, ↓XX, ↓reduceIte, Nat.reduceBEq, decide_true, decide_false, Bool.not_true, Bool.not_false, List.map_cons, List.map_nil, List.length_map, List.length_cons, List.length_nil, Nat.reduceAdd, Int.cast_ofNat_Int, Int.natCast_zero, Int.natCast_one, Bool.false_eq_true, Bool.true_eq_false, decide_eq_true_eq, eq_self, Int.reduceEq, Int.reduceLT, Int.reduceLE, Bool.and_true, Bool.true_and, Bool.and_false, Bool.false_and, Nat.zero_add, hw, c1, c2]
      exact ansx_fv _ _ _
    rw [if_neg (by omega)]
    by_cases c3 : kidsN op = (ks.length : Int)
    · cases hnb : numb op m
      · rw [hnb] at hb
        rw [if_pos (.inr rfl)]
        simp only [S68_121, S68_122, S68_123, S68_124, S68_125, S68_126, S68_127, S68_128, S68_129, S68_130, S68_131, S68, ↓XX, ↓reduceIte, Nat.reduceBEq, decide_true, decide_false, Bool.not_true, Bool.not_false, List.map_cons, List.map_nil, List.length_map, List.length_cons, List.length_nil, Nat.reduceAdd, Int.cast_ofNat_Int, Int.natCast_zero, Int.natCast_one, Bool.false_eq_true, Bool.true_eq_false, decide_eq_true_eq, eq_self, Int.reduceEq, Int.reduceLT, Int.reduceLE, Bool.and_true, Bool.true_and, Bool.and_false, Bool.false_and, Nat.zero_add, hw, c1, c2, ↓iso_1 ha, c3, ↓iso_2 hb]
        exact ansx_fv _ _ _
      · rw [hnb] at hb
        have hk4 := kidsN_le op
        rw [if_neg (by simp [c3])]
        simp only [S68_121, S68_122, S68_123, S68_125, S68_126, S68_127, S68_128, S68_129, S68_130, S68_131, S68, ↓XX, ↓reduceIte, Nat.reduceBEq, decide_true, decide_false, Bool.not_true, Bool.not_false, List.map_cons, List.map_nil, List.length_map, List.length_cons, List.length_nil, Nat.reduceAdd, Int.cast_ofNat_Int, Int.natCast_zero, Int.natCast_one, Bool.false_eq_true, Bool.true_eq_false, decide_eq_true_eq, eq_self, Int.reduceEq, Int.reduceLT, Int.reduceLE, Bool.and_true, Bool.true_and, Bool.and_false, Bool.false_and, Nat.zero_add, hw, c1, c2, ↓iso_1 ha, c3, ↓iso_2 hb, ↓drop_r1, ↓drop_e, XD, heldB, flatD, List.any_cons, List.any_nil, List.all_cons, List.all_nil, List.filter_cons, List.filter_nil, List.contains_cons, List.contains_nil, Bool.or_false, Bool.or_true, Bool.false_or, Bool.true_or, Bool.and_self, Bool.not_eq_true, BEq.rfl, beq_self_eq_true]
        refine loop_run (Q := fun r' => AnsX r' _ _) (fun k V H => ∃ pre rest N2, ks = pre ++ rest ∧ rest.length = k ∧ V = [.ptr (.ext 0) 0, iv d, .fv (.sl (ks.map Tm.enc)), iv ks.length, iv pre.length] ∧ H = HC op m ks N2 ∧
          0 ≤ N2 ∧ N2 ≤ 3000 ∧ Tm.chkL rest N2 (d + 1) = Tm.chkL ks (N + 1) (d + 1)) ?_ n ks.length _ _ (by omega) ⟨[], ks, N + 1, rfl, rfl, rfl, rfl, by omega, by omega, rfl⟩
        rintro k V H rec ⟨pre, rest, N2, hk, hkl, rfl, rfl, hN2, hN3, hr⟩ hrec
        have hkk : ks.length = pre.length + rest.length := by rw [hk]; simp
        cases rest with
        | nil =>
          have hno : ¬ ((pre.length : Int) < ks.length) := by rw [hkk]; simp
          rw [← hr]
          simp only [S68_121, S68_122, S68_123, S68_124, S68_125, S68_126, S68_127, S68_128, S68_129, S68_130, S68_131, S68, ↓XX, ↓reduceIte, Nat.reduceBEq, decide_true, decide_false, Bool.not_true, Bool.not_false, List.map_cons, List.map_nil, List.length_map, List.length_cons, List.length_nil, Nat.reduceAdd, Int.cast_ofNat_Int, Int.natCast_zero, Int.natCast_one, Bool.false_eq_true, Bool.true_eq_false, decide_eq_true_eq, eq_self, Int.reduceEq, Int.reduceLT, Int.reduceLE, Bool.and_true, Bool.true_and, Bool.and_false, Bool.false_and, Nat.zero_add, hno, Tm.chkL]
          exact ansx_fv _ _ _
        | cons t rest =>
          have hi : (pre.length : Int) < ks.length := by rw [hkk]; simp; omega
          have hg := at_pre hk
          have htw := wt_mem (t := t) (l := ks) (by rw [hk]; simp)
          have hc := ih n (by omega) t N2 (d + 1) (by omega) hN2 hN3 (by omega) (by omega)
          have hcb := chk_b t N2 (d + 1) hN3
          have hwi : w64 ((pre.length : Int) + 1) = ((pre ++ [t]).length : Int) := (w64_id (by omega) (by omega)).trans (by simp)
          rw [Tm.chkL] at hr
          rw [← hr]
          have h9 := fun e => hrec rest.length [.ptr (.ext 0) 0, iv d, .fv (.sl (ks.map Tm.enc)), iv ks.length, iv (pre ++ [t]).length] (HC op m ks (t.chk N2 (d + 1)).1) (by simp only [List.length_cons] at hkl; omega)
            ⟨pre ++ [t], rest, _, by rw [hk]; simp, rfl, rfl, rfl, by omega, (hcb.2.2 e).2.1, by rw [← hr, if_pos e]⟩
          rw [← hr] at h9
          generalize t.chk N2 (d + 1) = q at hc h9 ⊢
          obtain ⟨q1, q2⟩ := q
          simp only at hc h9 ⊢
          obtain ⟨o, p, l⟩ := t
          rw [enc_mk] at hc
          by_cases he : q2 = 0
          · subst he
            simp only [if_true] at h9 ⊢
            simp only [S68_121, S68_122, S68_123, S68_124, S68_125, S68_126, S68_127, S68_128, S68_129, S68_130, S68_131, S68, ↓XX, ↓reduceIte, Nat.reduceBEq, decide_true, decide_false, Bool.not_true, Bool.not_false, List.map_cons, List.map_nil, List.length_map, List.length_cons, List.length_nil, Nat.reduceAdd, Int.cast_ofNat_Int, Int.natCast_zero, Int.natCast_one, Bool.false_eq_true, Bool.true_eq_false, decide_eq_true_eq, eq_self, Int.reduceEq, Int.reduceLT, Int.reduceLE, Bool.and_true, Bool.true_and, Bool.and_false, Bool.false_and, Nat.zero_add, hi, ↓ix_f (map_get hg) (agg3l _ _ _), ↓agg3, hwd, ↓iso_mm3 hc (onex1 _ _), hwi, ↓drop_r1, ↓drop_e, XD, heldB, flatD, List.any_cons, List.any_nil, List.all_cons, List.all_nil, List.filter_cons, List.filter_nil, List.contains_cons, List.contains_nil, Bool.or_false, Bool.or_true, Bool.false_or, Bool.true_or, Bool.and_self, Bool.not_eq_true, BEq.rfl, beq_self_eq_true]
            exact h9 trivial
          · rw [if_neg he]
            simp only [S68_121, S68_122, S68_123, S68_124, S68_125, S68_126, S68_127, S68_128, S68_129, S68_130, S68_131, S68, ↓XX, ↓reduceIte, Nat.reduceBEq, decide_true, decide_false, Bool.not_true, Bool.not_false, List.map_cons, List.map_nil, List.length_map, List.length_cons, List.length_nil, Nat.reduceAdd, Int.cast_ofNat_Int, Int.natCast_zero, Int.natCast_one, Bool.false_eq_true, Bool.true_eq_false, decide_eq_true_eq, eq_self, Int.reduceEq, Int.reduceLT, Int.reduceLE, Bool.and_true, Bool.true_and, Bool.and_false, Bool.false_and, Nat.zero_add, hi, ↓ix_f (map_get hg) (agg3l _ _ _), ↓agg3, hwd, ↓iso_mm3 hc (onex1 _ _), he]
            exact ansx_fv _ _ _
    · rw [if_pos (.inl c3)]
      simp only [S68_121, S68_122, S68_123, S68_124, S68_125, S68_126, S68_127, S68_128, S68_129, S68_130, S68_131, S68, ↓XX, ↓reduceIte, Nat.reduceBEq, decide_true, decide_false, Bool.not_true, Bool.not_false, List.map_cons, List.map_nil, List.length_map, List.length_cons, List.length_nil, Nat.reduceAdd, Int.cast_ofNat_Int, Int.natCast_zero, Int.natCast_one, Bool.false_eq_true, Bool.true_eq_false, decide_eq_true_eq, eq_self, Int.reduceEq, Int.reduceLT, Int.reduceLE, Bool.and_true, Bool.true_and, Bool.and_false, Bool.false_and, Nat.zero_add, hw, c1, c2, ↓iso_1 ha, c3]
      exact ansx_fv _ _ _
theorem pCheck_ok {n : Nat} (t : Tm) (hn : 2 * t.wt + 3 < n) : Ans (SS dt n 40 [.fv t.enc] ⟨[], []⟩) (.int .i64 (t.chk 0 1).2) := by
  obtain ⟨n, rfl⟩ : ∃ k, n = k + 1 := ⟨n - 1, by omega⟩
  rw [c40]
  have h := pcheck_ok n t 0 1 (by omega) (by omega) (by omega) (by omega) (by omega)
  generalize t.chk 0 1 = q at h
  obtain ⟨op, m, ks⟩ := t
  rw [enc_mk] at h ⊢
  have c2 := fun k => iso_oo3 (k := k) h (x := .fv (.agg [.int .i64 op, .int .i64 m, .sl (ks.map Tm.enc)])) (y := iv 1) (s := 41944065) rfl rfl
    (own := [(41943040, .row [iv op, iv m, .fv (.sl (ks.map Tm.enc))] false), (41944065, .row [iv 0] false)])
    (own' := [(41943040, .row [iv op, iv m, .fv (.sl (ks.map Tm.enc))] false), (41944065, .row [iv q.1] false)]) (by simp [lookupOwn]) (by simp [putOwn])
  simp only [S40, ↓XX, ↓reduceIte, Nat.reduceBEq, decide_true, decide_false, Bool.not_true, Bool.not_false, List.map_cons, List.map_nil, List.length_map, List.length_cons, List.length_nil, Nat.reduceAdd, Int.cast_ofNat_Int, Int.natCast_zero, Int.natCast_one, Bool.false_eq_true, Bool.true_eq_false, decide_eq_true_eq, eq_self, Int.reduceEq, Int.reduceLT, Int.reduceLE, Bool.and_true, Bool.true_and, Bool.and_false, Bool.false_and, Nat.zero_add, ↓c2]
  exact ans_fv _ _
end Idl
end Go.Proofs.Ytkfecngimlcfoaa

namespace Go.Proofs.Ytkfecngimlcfoaa
namespace Idl
theorem stage_ok {f n : Nat} {t u : Tm} (hc : (t.chk 0 1).2 = 0) (h : normP f t = some (u, 0)) (hp : u.plainP = true) (hn : f + 4 ≤ n) (h2 : 2 * t.wt + 4 < n) (h3 : 4 * u.wt + 6 < n) (h4 : u.wt ≤ 900000) :
    Ans (SS dt n 16 [.fv t.enc] ⟨[], []⟩) (.tuple [u.enc, .int .i64 0]) := by
  obtain ⟨n, rfl⟩ : ∃ k, n = k + 1 := ⟨n - 1, by omega⟩
  rw [c16]
  have h1 := pCheck_ok (n := n) t (by omega)
  have hw := chk_b t 0 1 (by omega)
  have hN := normP_ok (n := n) h (by omega) (by omega) (by have := hw.2.2 hc; omega)
  have hP := pPlain_ok (n := n) u (by omega) h4
  rw [hc] at h1
  rw [hp] at hP
  obtain ⟨o1, n1, k1⟩ := t
  obtain ⟨o2, n2, k2⟩ := u
  simp only [enc_mk] at h1 hN hP ⊢
  simp only [S16_61, S16_62, S16_63, S16_64, S16_65, S16_66, S16_67, S16, ↓XX, ↓reduceIte, Nat.reduceBEq, decide_true, decide_false, Bool.not_true, Bool.not_false, List.map_cons, List.map_nil, List.length_map, List.length_cons, List.length_nil, Nat.reduceAdd, Int.cast_ofNat_Int, Int.natCast_zero, Int.natCast_one, Bool.false_eq_true, Bool.true_eq_false, decide_eq_true_eq, eq_self, Int.reduceEq, Int.reduceLT, Int.reduceLE, Bool.and_true, Bool.true_and, Bool.and_false, Bool.false_and, Nat.zero_add, ↓iso_1 h1, ↓iso_1 hN, ↓iso_1 hP]; first | exact ans_fv _ _ | exact ans_t rfl (by simp) _
end Idl
end Go.Proofs.Ytkfecngimlcfoaa

namespace Go.Proofs.Ytkfecngimlcfoaa
namespace Idl
end Idl
end Go.Proofs.Ytkfecngimlcfoaa

namespace Go.Proofs.Ytkfecngimlcfoaa
namespace Idl
def tI : Tm := .mk 15 0 []
end Idl
end Go.Proofs.Ytkfecngimlcfoaa

namespace Go.Proofs.Ytkfecngimlcfoaa
namespace Idl
theorem num_ok {n : Nat} (k : Nat) (hn : k + 3 < n) (hk : k ≤ 1000000) : Ans (SS dt n 27 [iv k] ⟨[], []⟩) (tnum k).enc := by
  obtain ⟨n, rfl⟩ : ∃ j, n = j + 1 := ⟨n - 1, by omega⟩
  rw [c27]
  have h0 := t0_ok (n := n) (by omega) 11
  rw [enc_mk] at h0
  simp only [S27_49, S27_50, S27_51, S27, ↓XX, ↓reduceIte, Nat.reduceBEq, decide_true, decide_false, Bool.not_true, Bool.not_false, List.map_cons, List.map_nil, List.length_map, List.length_cons, List.length_nil, Nat.reduceAdd, Int.cast_ofNat_Int, Int.natCast_zero, Int.natCast_one, Bool.false_eq_true, Bool.true_eq_false, decide_eq_true_eq, eq_self, Int.reduceEq, Int.reduceLT, Int.reduceLE, Bool.and_true, Bool.true_and, Bool.and_false, Bool.false_and, Nat.zero_add, ↓iso_2 h0]
  refine loop_run (Q := fun r => Ans r _) (fun j V H => ∃ (i : Nat), i + j = k ∧ V = [iv k, .ptr (.own 28311552) 0, .ptr (.own 28312577) 0, iv i] ∧
      H = ⟨[(28311552, .row [iv 0, iv 0, .nils] false), (28312577, .row [iv (tnum i).op, iv (tnum i).n, .fv (.sl ((tnum i).kids.map Tm.enc))] false)], []⟩) ?_ n k _ _ (by omega) ⟨0, by omega, rfl, rfl⟩
  rintro j V H rec ⟨i, hi, rfl, rfl⟩ hrec
  cases j with
  | zero =>
    have : i = k := by omega
    subst this
    have hno : ¬ ((i : Int) < i) := by omega
    generalize tnum i = t
    obtain ⟨o, p, l⟩ := t
    rw [enc_mk]
    simp only [S27_49, S27_50, S27_51, S27_52, S27, ↓XX, ↓reduceIte, Nat.reduceBEq, decide_true, decide_false, Bool.not_true, Bool.not_false, List.map_cons, List.map_nil, List.length_map, List.length_cons, List.length_nil, Nat.reduceAdd, Int.cast_ofNat_Int, Int.natCast_zero, Int.natCast_one, Bool.false_eq_true, Bool.true_eq_false, decide_eq_true_eq, eq_self, Int.reduceEq, Int.reduceLT, Int.reduceLE, Bool.and_true, Bool.true_and, Bool.and_false, Bool.false_and, Nat.zero_add, hno, Tm.op, Tm.n, Tm.kids]
    exact ans_fv _ _
  | succ j =>
    have hlt : (i : Int) < k := by omega
    have hw : w64 ((i : Int) + 1) = ((i + 1 : Nat) : Int) := (w64_id (by omega) (by omega)).trans (by simp)
    have ht := t_ok (n := n) (by omega) 12 [tnum i]
    have h9 := hrec j ([iv k, .ptr (.own 28311552) 0, .ptr (.own 28312577) 0, iv (i + 1 : Nat)]) (⟨[(28311552, .row [iv 0, iv 0, .nils] false), (28312577, .row [iv 12, iv 0, .fv (.sl ([tnum i].map Tm.enc))] false)], []⟩) (by omega) ⟨i + 1, by omega, rfl, rfl⟩
    generalize tnum i = t at *
    obtain ⟨o, p, l⟩ := t
    simp only [List.map_cons, List.map_nil, enc_mk] at ht h9
    simp only [S27_49, S27_50, S27_51, S27_52, S27, ↓XX, ↓reduceIte, Nat.reduceBEq, decide_true, decide_false, Bool.not_true, Bool.not_false, List.map_cons, List.map_nil, List.length_map, List.length_cons, List.length_nil, Nat.reduceAdd, Int.cast_ofNat_Int, Int.natCast_zero, Int.natCast_one, Bool.false_eq_true, Bool.true_eq_false, decide_eq_true_eq, eq_self, Int.reduceEq, Int.reduceLT, Int.reduceLE, Bool.and_true, Bool.true_and, Bool.and_false, Bool.false_and, Nat.zero_add, hlt, Tm.op, Tm.n, Tm.kids, ↓bs1_tm', ↓iso_2 ht, hw]
    exact h9
end Idl
end Go.Proofs.Ytkfecngimlcfoaa

namespace Go.Proofs.Ytkfecngimlcfoaa
namespace Idl
theorem bs1_c (o1 n1 : Int) (es : List FV) (s : Nat) (h : Hp) (k : IV → Hp → List Ref → List Ref → Option (IV × Hp)) : genS (pcBuildSlice EE 28 1 [(0, .agg [.fv (.int .i64 o1), .fv (.int .i64 n1), .clip es])]) s h k = k (.clip [.agg [.int .i64 o1, .int .i64 n1, .sl es]]) h [] [] := by
  have : pcBuildSlice EE 28 1 [(0, .agg [.fv (.int .i64 o1), .fv (.int .i64 n1), .clip es])] = .ret { eff := { val := .clip [.agg [.int .i64 o1, .int .i64 n1, .sl es]], upd := [] } } := by
    simp only [pcBuildSlice, tTms, tTm]
    rw [if_neg (by decide)]
    rfl
  rw [this]
  exact gen_val _ s h k
theorem known10_run (n : Nat) : isTrueN (SS dt (n + 60) 11 [] ⟨[], []⟩) = true := by kernel_rfl
theorem known10_ok {n : Nat} (h : 60 ≤ n) : Ans (SS dt n 11 [] ⟨[], []⟩) (.bool true) := by
  obtain ⟨k, rfl⟩ : ∃ k, n = k + 60 := ⟨n - 60, by omega⟩
  exact ans_trueN (known10_run k)
theorem within10_ok {n : Nat} (hn : 0 < n) (x : Int) {m : Int} (h1 : 0 < m) (h2 : m ≤ 4611686018427387904) : Ans (SS dt n 23 [iv x, iv m] ⟨[], []⟩) (.int .i64 (x % m)) := by
  obtain ⟨n, rfl⟩ := Nat.exists_eq_add_of_lt hn
  rw [Nat.zero_add, c23]
  simp only [S23, ↓XX, ↓reduceIte, Nat.reduceBEq, decide_true, decide_false, Bool.not_true, Bool.not_false, List.map_cons, List.map_nil, List.length_map, List.length_cons, List.length_nil, Nat.reduceAdd, Int.cast_ofNat_Int, Int.natCast_zero, Int.natCast_one, Bool.false_eq_true, Bool.true_eq_false, decide_eq_true_eq, eq_self, Int.reduceEq, Int.reduceLT, Int.reduceLE, Bool.and_true, Bool.true_and, Bool.and_false, Bool.false_and, Nat.zero_add, ↓rem_s (show m ≠ 0 by omega)]
  rw [← emod_w h1 h2]
  by_cases hc : x.tmod m < 0 <;> simp only [hc, if_true, if_false] <;> exact ans_fv _ _
theorem tnum_wt : ∀ k, (tnum k).wt = k + 1 := by
  intro k
  induction k with
  | zero => rfl
  | succ k ih => simp only [tnum, Tm.wt, Tm.wtL, ih]; omega
end Idl
end Go.Proofs.Ytkfecngimlcfoaa

namespace Go.Proofs.Ytkfecngimlcfoaa
namespace Idl
def powT (j : Nat) (k : Int) : Tm := .mk 20 0 [tI, .mk 30 0 [.mk 13 0 [.mk 18 0 [tI], .mk 19 0 [.mk 25 k []], .mk 19 0 [.mk 26 2 [.mk 1 2 [], .mk 30 0 [.mk 1 0 []]]], tnum j]]]
def mulT (k : Int) : Nat → Tm
  | 0 => .mk 25 k []
  | j + 1 => .mk 26 2 [.mk 1 0 [], mulT k j]
def isFun (o : Option (IV × Hp)) : Bool := match o with
  | some (.fv (.tuple [.agg [.int .i64 a, .int .i64 b, .sl [.agg [.int .i64 c, .int .i64 d, .sl []], .agg [.int .i64 e, .int .i64 f, .sl []]]], .int .i64 g]), ⟨_, []⟩) => decide (a = 16) && (decide (b = 0) && (decide (c = 15) && (decide (d = 0) && (decide (e = 15) && (decide (f = 0) && decide (g = 0))))))
  | _ => false
theorem ans_fun2 {o : Option (IV × Hp)} (h : isFun o = true) : Ans o (.tuple [(Tm.mk 16 0 [tI, tI]).enc, .int .i64 0]) := by
  unfold isFun at h
  split at h
  · simp only [Bool.and_eq_true, decide_eq_true_eq] at h
    obtain ⟨rfl, rfl, rfl, rfl, rfl, rfl, rfl⟩ := h
    exact ans_fv _ _
  · cases h
theorem pow_r0 (n : Nat) (k : Int) : isFun (SS dt (n + 600) 20 [.fv (.sl []), iv 0, .fv (powT 0 k).enc] ⟨[], []⟩) = true := by kernel_rfl
theorem pow_r1 (n : Nat) (k : Int) : isFun (SS dt (n + 600) 20 [.fv (.sl []), iv 0, .fv (powT 1 k).enc] ⟨[], []⟩) = true := by kernel_rfl
theorem pow_r2 (n : Nat) (k : Int) : isFun (SS dt (n + 600) 20 [.fv (.sl []), iv 0, .fv (powT 2 k).enc] ⟨[], []⟩) = true := by kernel_rfl
theorem pow_r3 (n : Nat) (k : Int) : isFun (SS dt (n + 600) 20 [.fv (.sl []), iv 0, .fv (powT 3 k).enc] ⟨[], []⟩) = true := by kernel_rfl
theorem pow_r4 (n : Nat) (k : Int) : isFun (SS dt (n + 600) 20 [.fv (.sl []), iv 0, .fv (powT 4 k).enc] ⟨[], []⟩) = true := by kernel_rfl
theorem pow_r5 (n : Nat) (k : Int) : isFun (SS dt (n + 600) 20 [.fv (.sl []), iv 0, .fv (powT 5 k).enc] ⟨[], []⟩) = true := by kernel_rfl
theorem pow_r6 (n : Nat) (k : Int) : isFun (SS dt (n + 600) 20 [.fv (.sl []), iv 0, .fv (powT 6 k).enc] ⟨[], []⟩) = true := by kernel_rfl
theorem pow_r7 (n : Nat) (k : Int) : isFun (SS dt (n + 600) 20 [.fv (.sl []), iv 0, .fv (powT 7 k).enc] ⟨[], []⟩) = true := by kernel_rfl
theorem pow_r8 (n : Nat) (k : Int) : isFun (SS dt (n + 600) 20 [.fv (.sl []), iv 0, .fv (powT 8 k).enc] ⟨[], []⟩) = true := by kernel_rfl
theorem pow_r9 (n : Nat) (k : Int) : isFun (SS dt (n + 600) 20 [.fv (.sl []), iv 0, .fv (powT 9 k).enc] ⟨[], []⟩) = true := by kernel_rfl
theorem pow_r10 (n : Nat) (k : Int) : isFun (SS dt (n + 600) 20 [.fv (.sl []), iv 0, .fv (powT 10 k).enc] ⟨[], []⟩) = true := by kernel_rfl
theorem pow_r11 (n : Nat) (k : Int) : isFun (SS dt (n + 600) 20 [.fv (.sl []), iv 0, .fv (powT 11 k).enc] ⟨[], []⟩) = true := by kernel_rfl
theorem pow_r12 (n : Nat) (k : Int) : isFun (SS dt (n + 600) 20 [.fv (.sl []), iv 0, .fv (powT 12 k).enc] ⟨[], []⟩) = true := by kernel_rfl
theorem pow_r13 (n : Nat) (k : Int) : isFun (SS dt (n + 600) 20 [.fv (.sl []), iv 0, .fv (powT 13 k).enc] ⟨[], []⟩) = true := by kernel_rfl
theorem pow_r14 (n : Nat) (k : Int) : isFun (SS dt (n + 600) 20 [.fv (.sl []), iv 0, .fv (powT 14 k).enc] ⟨[], []⟩) = true := by kernel_rfl
theorem pow_r15 (n : Nat) (k : Int) : isFun (SS dt (n + 600) 20 [.fv (.sl []), iv 0, .fv (powT 15 k).enc] ⟨[], []⟩) = true := by kernel_rfl
theorem pow_r16 (n : Nat) (k : Int) : isFun (SS dt (n + 600) 20 [.fv (.sl []), iv 0, .fv (powT 16 k).enc] ⟨[], []⟩) = true := by kernel_rfl
theorem pow_r17 (n : Nat) (k : Int) : isFun (SS dt (n + 600) 20 [.fv (.sl []), iv 0, .fv (powT 17 k).enc] ⟨[], []⟩) = true := by kernel_rfl
theorem pow_r18 (n : Nat) (k : Int) : isFun (SS dt (n + 600) 20 [.fv (.sl []), iv 0, .fv (powT 18 k).enc] ⟨[], []⟩) = true := by kernel_rfl
theorem pow_r19 (n : Nat) (k : Int) : isFun (SS dt (n + 600) 20 [.fv (.sl []), iv 0, .fv (powT 19 k).enc] ⟨[], []⟩) = true := by kernel_rfl
theorem pow_r20 (n : Nat) (k : Int) : isFun (SS dt (n + 600) 20 [.fv (.sl []), iv 0, .fv (powT 20 k).enc] ⟨[], []⟩) = true := by kernel_rfl
theorem pow_r21 (n : Nat) (k : Int) : isFun (SS dt (n + 600) 20 [.fv (.sl []), iv 0, .fv (powT 21 k).enc] ⟨[], []⟩) = true := by kernel_rfl
theorem pow_r22 (n : Nat) (k : Int) : isFun (SS dt (n + 600) 20 [.fv (.sl []), iv 0, .fv (powT 22 k).enc] ⟨[], []⟩) = true := by kernel_rfl
theorem pow_r23 (n : Nat) (k : Int) : isFun (SS dt (n + 600) 20 [.fv (.sl []), iv 0, .fv (powT 23 k).enc] ⟨[], []⟩) = true := by kernel_rfl
theorem pow_r24 (n : Nat) (k : Int) : isFun (SS dt (n + 600) 20 [.fv (.sl []), iv 0, .fv (powT 24 k).enc] ⟨[], []⟩) = true := by kernel_rfl
theorem pow_r25 (n : Nat) (k : Int) : isFun (SS dt (n + 600) 20 [.fv (.sl []), iv 0, .fv (powT 25 k).enc] ⟨[], []⟩) = true := by kernel_rfl
theorem pow_r26 (n : Nat) (k : Int) : isFun (SS dt (n + 600) 20 [.fv (.sl []), iv 0, .fv (powT 26 k).enc] ⟨[], []⟩) = true := by kernel_rfl
theorem pow_r27 (n : Nat) (k : Int) : isFun (SS dt (n + 600) 20 [.fv (.sl []), iv 0, .fv (powT 27 k).enc] ⟨[], []⟩) = true := by kernel_rfl
theorem pow_r28 (n : Nat) (k : Int) : isFun (SS dt (n + 600) 20 [.fv (.sl []), iv 0, .fv (powT 28 k).enc] ⟨[], []⟩) = true := by kernel_rfl
theorem pow_r29 (n : Nat) (k : Int) : isFun (SS dt (n + 600) 20 [.fv (.sl []), iv 0, .fv (powT 29 k).enc] ⟨[], []⟩) = true := by kernel_rfl
theorem pow_run (n : Nat) (k : Int) {j : Nat} (hj : j < 30) : isFun (SS dt (n + 600) 20 [.fv (.sl []), iv 0, .fv (powT j k).enc] ⟨[], []⟩) = true := by
  have h : j = 0 ∨ j = 1 ∨ j = 2 ∨ j = 3 ∨ j = 4 ∨ j = 5 ∨ j = 6 ∨ j = 7 ∨ j = 8 ∨ j = 9 ∨ j = 10 ∨ j = 11 ∨ j = 12 ∨ j = 13 ∨ j = 14 ∨ j = 15 ∨ j = 16 ∨ j = 17 ∨ j = 18 ∨ j = 19 ∨ j = 20 ∨ j = 21 ∨ j = 22 ∨ j = 23 ∨ j = 24 ∨ j = 25 ∨ j = 26 ∨ j = 27 ∨ j = 28 ∨ j = 29 := by omega
  rcases h with rfl | rfl | rfl | rfl | rfl | rfl | rfl | rfl | rfl | rfl | rfl | rfl | rfl | rfl | rfl | rfl | rfl | rfl | rfl | rfl | rfl | rfl | rfl | rfl | rfl | rfl | rfl | rfl | rfl | rfl
  · exact pow_r0 n k
  · exact pow_r1 n k
  · exact pow_r2 n k
  · exact pow_r3 n k
  · exact pow_r4 n k
  · exact pow_r5 n k
  · exact pow_r6 n k
  · exact pow_r7 n k
  · exact pow_r8 n k
  · exact pow_r9 n k
  · exact pow_r10 n k
  · exact pow_r11 n k
  · exact pow_r12 n k
  · exact pow_r13 n k
  · exact pow_r14 n k
  · exact pow_r15 n k
  · exact pow_r16 n k
  · exact pow_r17 n k
  · exact pow_r18 n k
  · exact pow_r19 n k
  · exact pow_r20 n k
  · exact pow_r21 n k
  · exact pow_r22 n k
  · exact pow_r23 n k
  · exact pow_r24 n k
  · exact pow_r25 n k
  · exact pow_r26 n k
  · exact pow_r27 n k
  · exact pow_r28 n k
  · exact pow_r29 n k
theorem pow_n0 (k : Int) : normP 200 (powT 0 k) = some (.mk 20 0 [tI, mulT k 0], 0) := by kernel_rfl
theorem pow_n1 (k : Int) : normP 200 (powT 1 k) = some (.mk 20 0 [tI, mulT k 1], 0) := by kernel_rfl
theorem pow_n2 (k : Int) : normP 200 (powT 2 k) = some (.mk 20 0 [tI, mulT k 2], 0) := by kernel_rfl
theorem pow_n3 (k : Int) : normP 200 (powT 3 k) = some (.mk 20 0 [tI, mulT k 3], 0) := by kernel_rfl
theorem pow_n4 (k : Int) : normP 200 (powT 4 k) = some (.mk 20 0 [tI, mulT k 4], 0) := by kernel_rfl
theorem pow_n5 (k : Int) : normP 200 (powT 5 k) = some (.mk 20 0 [tI, mulT k 5], 0) := by kernel_rfl
theorem pow_n6 (k : Int) : normP 200 (powT 6 k) = some (.mk 20 0 [tI, mulT k 6], 0) := by kernel_rfl
theorem pow_n7 (k : Int) : normP 200 (powT 7 k) = some (.mk 20 0 [tI, mulT k 7], 0) := by kernel_rfl
theorem pow_n8 (k : Int) : normP 200 (powT 8 k) = some (.mk 20 0 [tI, mulT k 8], 0) := by kernel_rfl
theorem pow_n9 (k : Int) : normP 200 (powT 9 k) = some (.mk 20 0 [tI, mulT k 9], 0) := by kernel_rfl
theorem pow_n10 (k : Int) : normP 200 (powT 10 k) = some (.mk 20 0 [tI, mulT k 10], 0) := by kernel_rfl
theorem pow_n11 (k : Int) : normP 200 (powT 11 k) = some (.mk 20 0 [tI, mulT k 11], 0) := by kernel_rfl
theorem pow_n12 (k : Int) : normP 200 (powT 12 k) = some (.mk 20 0 [tI, mulT k 12], 0) := by kernel_rfl
theorem pow_n13 (k : Int) : normP 200 (powT 13 k) = some (.mk 20 0 [tI, mulT k 13], 0) := by kernel_rfl
theorem pow_n14 (k : Int) : normP 200 (powT 14 k) = some (.mk 20 0 [tI, mulT k 14], 0) := by kernel_rfl
theorem pow_n15 (k : Int) : normP 200 (powT 15 k) = some (.mk 20 0 [tI, mulT k 15], 0) := by kernel_rfl
theorem pow_n16 (k : Int) : normP 200 (powT 16 k) = some (.mk 20 0 [tI, mulT k 16], 0) := by kernel_rfl
theorem pow_n17 (k : Int) : normP 200 (powT 17 k) = some (.mk 20 0 [tI, mulT k 17], 0) := by kernel_rfl
theorem pow_n18 (k : Int) : normP 200 (powT 18 k) = some (.mk 20 0 [tI, mulT k 18], 0) := by kernel_rfl
theorem pow_n19 (k : Int) : normP 200 (powT 19 k) = some (.mk 20 0 [tI, mulT k 19], 0) := by kernel_rfl
theorem pow_n20 (k : Int) : normP 200 (powT 20 k) = some (.mk 20 0 [tI, mulT k 20], 0) := by kernel_rfl
theorem pow_n21 (k : Int) : normP 200 (powT 21 k) = some (.mk 20 0 [tI, mulT k 21], 0) := by kernel_rfl
theorem pow_n22 (k : Int) : normP 200 (powT 22 k) = some (.mk 20 0 [tI, mulT k 22], 0) := by kernel_rfl
theorem pow_n23 (k : Int) : normP 200 (powT 23 k) = some (.mk 20 0 [tI, mulT k 23], 0) := by kernel_rfl
theorem pow_n24 (k : Int) : normP 200 (powT 24 k) = some (.mk 20 0 [tI, mulT k 24], 0) := by kernel_rfl
theorem pow_n25 (k : Int) : normP 200 (powT 25 k) = some (.mk 20 0 [tI, mulT k 25], 0) := by kernel_rfl
theorem pow_n26 (k : Int) : normP 200 (powT 26 k) = some (.mk 20 0 [tI, mulT k 26], 0) := by kernel_rfl
theorem pow_n27 (k : Int) : normP 200 (powT 27 k) = some (.mk 20 0 [tI, mulT k 27], 0) := by kernel_rfl
theorem pow_n28 (k : Int) : normP 200 (powT 28 k) = some (.mk 20 0 [tI, mulT k 28], 0) := by kernel_rfl
theorem pow_n29 (k : Int) : normP 200 (powT 29 k) = some (.mk 20 0 [tI, mulT k 29], 0) := by kernel_rfl
theorem pow_k0 (k : Int) : ((powT 0 k).chk 0 1).2 = 0 := by kernel_rfl
theorem pow_k1 (k : Int) : ((powT 1 k).chk 0 1).2 = 0 := by kernel_rfl
theorem pow_k2 (k : Int) : ((powT 2 k).chk 0 1).2 = 0 := by kernel_rfl
theorem pow_k3 (k : Int) : ((powT 3 k).chk 0 1).2 = 0 := by kernel_rfl
theorem pow_k4 (k : Int) : ((powT 4 k).chk 0 1).2 = 0 := by kernel_rfl
theorem pow_k5 (k : Int) : ((powT 5 k).chk 0 1).2 = 0 := by kernel_rfl
theorem pow_k6 (k : Int) : ((powT 6 k).chk 0 1).2 = 0 := by kernel_rfl
theorem pow_k7 (k : Int) : ((powT 7 k).chk 0 1).2 = 0 := by kernel_rfl
theorem pow_k8 (k : Int) : ((powT 8 k).chk 0 1).2 = 0 := by kernel_rfl
theorem pow_k9 (k : Int) : ((powT 9 k).chk 0 1).2 = 0 := by kernel_rfl
theorem pow_k10 (k : Int) : ((powT 10 k).chk 0 1).2 = 0 := by kernel_rfl
theorem pow_k11 (k : Int) : ((powT 11 k).chk 0 1).2 = 0 := by kernel_rfl
theorem pow_k12 (k : Int) : ((powT 12 k).chk 0 1).2 = 0 := by kernel_rfl
theorem pow_k13 (k : Int) : ((powT 13 k).chk 0 1).2 = 0 := by kernel_rfl
theorem pow_k14 (k : Int) : ((powT 14 k).chk 0 1).2 = 0 := by kernel_rfl
theorem pow_k15 (k : Int) : ((powT 15 k).chk 0 1).2 = 0 := by kernel_rfl
theorem pow_k16 (k : Int) : ((powT 16 k).chk 0 1).2 = 0 := by kernel_rfl
theorem pow_k17 (k : Int) : ((powT 17 k).chk 0 1).2 = 0 := by kernel_rfl
theorem pow_k18 (k : Int) : ((powT 18 k).chk 0 1).2 = 0 := by kernel_rfl
theorem pow_k19 (k : Int) : ((powT 19 k).chk 0 1).2 = 0 := by kernel_rfl
theorem pow_k20 (k : Int) : ((powT 20 k).chk 0 1).2 = 0 := by kernel_rfl
theorem pow_k21 (k : Int) : ((powT 21 k).chk 0 1).2 = 0 := by kernel_rfl
theorem pow_k22 (k : Int) : ((powT 22 k).chk 0 1).2 = 0 := by kernel_rfl
theorem pow_k23 (k : Int) : ((powT 23 k).chk 0 1).2 = 0 := by kernel_rfl
theorem pow_k24 (k : Int) : ((powT 24 k).chk 0 1).2 = 0 := by kernel_rfl
theorem pow_k25 (k : Int) : ((powT 25 k).chk 0 1).2 = 0 := by kernel_rfl
theorem pow_k26 (k : Int) : ((powT 26 k).chk 0 1).2 = 0 := by kernel_rfl
theorem pow_k27 (k : Int) : ((powT 27 k).chk 0 1).2 = 0 := by kernel_rfl
theorem pow_k28 (k : Int) : ((powT 28 k).chk 0 1).2 = 0 := by kernel_rfl
theorem pow_k29 (k : Int) : ((powT 29 k).chk 0 1).2 = 0 := by kernel_rfl
theorem pow_norm (k : Int) {j : Nat} (hj : j < 30) : normP 200 (powT j k) = some (.mk 20 0 [tI, mulT k j], 0) := by
  have h : j = 0 ∨ j = 1 ∨ j = 2 ∨ j = 3 ∨ j = 4 ∨ j = 5 ∨ j = 6 ∨ j = 7 ∨ j = 8 ∨ j = 9 ∨ j = 10 ∨ j = 11 ∨ j = 12 ∨ j = 13 ∨ j = 14 ∨ j = 15 ∨ j = 16 ∨ j = 17 ∨ j = 18 ∨ j = 19 ∨ j = 20 ∨ j = 21 ∨ j = 22 ∨ j = 23 ∨ j = 24 ∨ j = 25 ∨ j = 26 ∨ j = 27 ∨ j = 28 ∨ j = 29 := by omega
  rcases h with rfl | rfl | rfl | rfl | rfl | rfl | rfl | rfl | rfl | rfl | rfl | rfl | rfl | rfl | rfl | rfl | rfl | rfl | rfl | rfl | rfl | rfl | rfl | rfl | rfl | rfl | rfl | rfl | rfl | rfl
  · exact pow_n0 k
  · exact pow_n1 k
  · exact pow_n2 k
  · exact pow_n3 k
  · exact pow_n4 k
  · exact pow_n5 k
  · exact pow_n6 k
  · exact pow_n7 k
  · exact pow_n8 k
  · exact pow_n9 k
  · exact pow_n10 k
  · exact pow_n11 k
  · exact pow_n12 k
  · exact pow_n13 k
  · exact pow_n14 k
  · exact pow_n15 k
  · exact pow_n16 k
  · exact pow_n17 k
  · exact pow_n18 k
  · exact pow_n19 k
  · exact pow_n20 k
  · exact pow_n21 k
  · exact pow_n22 k
  · exact pow_n23 k
  · exact pow_n24 k
  · exact pow_n25 k
  · exact pow_n26 k
  · exact pow_n27 k
  · exact pow_n28 k
  · exact pow_n29 k
theorem pow_chk (k : Int) {j : Nat} (hj : j < 30) : ((powT j k).chk 0 1).2 = 0 := by
  have h : j = 0 ∨ j = 1 ∨ j = 2 ∨ j = 3 ∨ j = 4 ∨ j = 5 ∨ j = 6 ∨ j = 7 ∨ j = 8 ∨ j = 9 ∨ j = 10 ∨ j = 11 ∨ j = 12 ∨ j = 13 ∨ j = 14 ∨ j = 15 ∨ j = 16 ∨ j = 17 ∨ j = 18 ∨ j = 19 ∨ j = 20 ∨ j = 21 ∨ j = 22 ∨ j = 23 ∨ j = 24 ∨ j = 25 ∨ j = 26 ∨ j = 27 ∨ j = 28 ∨ j = 29 := by omega
  rcases h with rfl | rfl | rfl | rfl | rfl | rfl | rfl | rfl | rfl | rfl | rfl | rfl | rfl | rfl | rfl | rfl | rfl | rfl | rfl | rfl | rfl | rfl | rfl | rfl | rfl | rfl | rfl | rfl | rfl | rfl
  · exact pow_k0 k
  · exact pow_k1 k
  · exact pow_k2 k
  · exact pow_k3 k
  · exact pow_k4 k
  · exact pow_k5 k
  · exact pow_k6 k
  · exact pow_k7 k
  · exact pow_k8 k
  · exact pow_k9 k
  · exact pow_k10 k
  · exact pow_k11 k
  · exact pow_k12 k
  · exact pow_k13 k
  · exact pow_k14 k
  · exact pow_k15 k
  · exact pow_k16 k
  · exact pow_k17 k
  · exact pow_k18 k
  · exact pow_k19 k
  · exact pow_k20 k
  · exact pow_k21 k
  · exact pow_k22 k
  · exact pow_k23 k
  · exact pow_k24 k
  · exact pow_k25 k
  · exact pow_k26 k
  · exact pow_k27 k
  · exact pow_k28 k
  · exact pow_k29 k
theorem mul_plain (k : Int) : ∀ j, (mulT k j).plainP = true
  | 0 => rfl
  | j + 1 => by simp only [mulT, Tm.plainP, Tm.plainPL, mul_plain k j]; rfl
theorem mul_wt (k : Int) : ∀ j : Nat, (mulT k j).wt = 2 * j + 1
  | 0 => rfl
  | j + 1 => by simp only [mulT, Tm.wt, Tm.wtL, mul_wt k j]; omega
theorem bs2_c (o1 n1 o2 n2 : Int) (k1 es : List FV) (s : Nat) (h : Hp) (k : IV → Hp → List Ref → List Ref → Option (IV × Hp)) : genS (pcBuildSlice EE 28 2 [(0, .fv (.agg [.int .i64 o1, .int .i64 n1, .sl k1])), (1, .agg [.fv (.int .i64 o2), .fv (.int .i64 n2), .clip es])]) s h k =
    k (.clip [.agg [.int .i64 o1, .int .i64 n1, .sl k1], .agg [.int .i64 o2, .int .i64 n2, .sl es]]) h [] [] := by
  have : pcBuildSlice EE 28 2 [(0, .fv (.agg [.int .i64 o1, .int .i64 n1, .sl k1])), (1, .agg [.fv (.int .i64 o2), .fv (.int .i64 n2), .clip es])] = .ret { eff := { val := .clip [.agg [.int .i64 o1, .int .i64 n1, .sl k1], .agg [.int .i64 o2, .int .i64 n2, .sl es]], upd := [] } } := by
    simp only [pcBuildSlice, tTms, tTm]
    rw [if_neg (by decide)]
    rfl
  rw [this]
  exact gen_val _ s h k
end Idl
end Go.Proofs.Ytkfecngimlcfoaa

namespace Go.Proofs.Ytkfecngimlcfoaa
namespace Idl
def wK (k : Int) : Nat → IV
  | 0 => .fv (.sl [])
  | i + 1 => .clip [.agg [.int .i64 1, .int .i64 0, .sl []], (mulT k i).enc]
abbrev liftT : Tm := .mk 18 0 [tI]
abbrev timesT : Tm := .mk 19 0 [.mk 26 2 [.mk 1 2 [], .mk 30 0 [.mk 1 0 []]]]
abbrev recT (j : Nat) (k : Int) : Tm := .mk 13 0 [liftT, .mk 19 0 [.mk 25 k []], timesT, tnum j]
abbrev tIF : FV := .agg [.int .i64 15, .int .i64 0, .sl []]
abbrev v0F : FV := .agg [.int .i64 1, .int .i64 0, .sl []]
abbrev liftF : FV := .agg [.int .i64 18, .int .i64 0, .sl [tIF]]
abbrev timF : FV := .agg [.int .i64 19, .int .i64 0, .sl [.agg [.int .i64 26, .int .i64 2, .sl [.agg [.int .i64 1, .int .i64 2, .sl []], .agg [.int .i64 30, .int .i64 0, .sl [v0F]]]]]]
noncomputable abbrev HP (no nn : Int) (nk : List Tm) (k o p : Int) (K : IV) : Hp :=
  ⟨[(5246977, .row [iv 15, iv 0, .fv (.sl [])] false), (5248003, .row [iv 18, iv 0, .fv (.sl [tIF])] false),
    (5249032, .row [iv 19, iv 0, .fv (.sl [.agg [.int .i64 26, .int .i64 2, .sl [.agg [.int .i64 1, .int .i64 2, .sl []], .agg [.int .i64 30, .int .i64 0, .sl [v0F]]]]])] false),
    (5250058, .row [iv 13, iv 0, .fv (.sl [liftF, .agg [.int .i64 19, .int .i64 0, .sl [.agg [.int .i64 25, .int .i64 k, .sl []]]], timF, .agg [.int .i64 no, .int .i64 nn, .sl (nk.map Tm.enc)]])] false),
    (5251078, .row [iv 20, iv 0, .fv (.sl [tIF, .agg [.int .i64 30, .int .i64 0, .sl [.agg [.int .i64 13, .int .i64 0, .sl [liftF, .agg [.int .i64 19, .int .i64 0, .sl [.agg [.int .i64 25, .int .i64 k, .sl []]]], timF, .agg [.int .i64 no, .int .i64 nn, .sl (nk.map Tm.enc)]]]]]])] false),
    (5252098, .row [iv o, iv p, K] false)], []⟩
set_option maxRecDepth 20000 in
set_option maxHeartbeats 2000000 in
theorem stagePower_ok (x k : Int) : ∃ N, AnsV (SS dt N 5 [.fv (.int .i64 x), .fv (.int .i64 k)] ⟨[], []⟩) (.bool true) := by
  refine ⟨8000 + 1, ?_⟩
  generalize hn : 8000 = n
  rw [c5]
  have hk := known10_ok (n := n) (by omega)
  have hw := within10_ok (n := n) (by omega) x (m := 30) (by decide) (by decide)
  have hj1 := Int.emod_nonneg x (show (30 : Int) ≠ 0 by decide)
  have hj2 := Int.emod_lt_of_pos x (show (0 : Int) < 30 by decide)
  obtain ⟨j, hj⟩ : ∃ j : Nat, x % 30 = j := ⟨(x % 30).toNat, by omega⟩
  rw [hj] at hw
  have hj9 : j < 30 := by omega
  have t15 := t0_ok (n := n) (by omega) 15
  have t18 := t_ok (n := n) (by omega) 18 [tI]
  have v0 := v_ok (n := n) (by omega) 0
  have v2 := v_ok (n := n) (by omega) 2
  have t30 := t_ok (n := n) (by omega) 30 [.mk 1 0 []]
  have t19 := t_ok (n := n) (by omega) 19 [.mk 26 2 [.mk 1 2 [], .mk 30 0 [.mk 1 0 []]]]
  have ik := int_ok (n := n) (by omega) k
  have t19k := t_ok (n := n) (by omega) 19 [.mk 25 k []]
  have hnum := num_ok (n := n) j (by omega) (by omega)
  have t13 := t_ok (n := n) (by omega) 13 [liftT, .mk 19 0 [.mk 25 k []], timesT, tnum j]
  have t30r := t_ok (n := n) (by omega) 30 [recT j k]
  have t20 := t_ok (n := n) (by omega) 20 [tI, .mk 30 0 [recT j k]]
  have t20w := t_ok (n := n) (by omega) 20 [tI, mulT k j]
  have t16 := t_ok (n := n) (by omega) 16 [tI, tI]
  have hmw := mul_wt k j
  have hS := stage_ok (n := n) (pow_chk k hj9) (pow_norm k hj9) (by simp only [Tm.plainP, Tm.plainPL, mul_plain]; rfl) (by omega) (by simp only [powT, tI, Tm.wt, Tm.wtL, tnum_wt]; omega) (by simp only [tI, Tm.wt, Tm.wtL]; omega) (by simp only [tI, Tm.wt, Tm.wtL]; omega)
  have hI : Ans (SS dt n 20 [.fv (.sl []), iv 0, .fv (powT j k).enc] ⟨[], []⟩) (.tuple [(Tm.mk 16 0 [tI, tI]).enc, .int .i64 0]) := by
    have := ans_fun2 (pow_run 7400 k hj9)
    rw [show 7400 + 600 = n by omega] at this
    exact this
  have hs1 := same_ok n (.mk 16 0 [tI, tI]) (.mk 16 0 [tI, tI]) (by simp only [tI, Tm.wt, Tm.wtL]; omega) (by simp only [tI, Tm.wt, Tm.wtL]; omega)
  have hs2 := same_ok n (.mk 20 0 [tI, mulT k j]) (.mk 20 0 [tI, mulT k j]) (by simp only [tI, Tm.wt, Tm.wtL]; omega) (by simp only [tI, Tm.wt, Tm.wtL]; omega)
  rw [(same_eq _ _).2 rfl] at hs1 hs2
  rw [powT] at hS hI
  simp only [recT, liftT, timesT] at t13 t30r t20
  generalize tnum j = nm at hnum t13 t30r t20 hS hI
  obtain ⟨no, nn, nk⟩ := nm
  simp only [liftT, timesT, recT, tI, List.map_cons, List.map_nil, enc_mk] at t15 t18 v0 v2 t30 t19 ik t19k hnum t13 t30r t20 t16 hS hI hs1
  simp only [S5_295, S5_296, S5_297, S5_298, S5_299, S5_300, S5_301, S5_302, S5_303, S5_304, S5_305, S5_307, S5_308, S5_309, S5_310, S5_311, S5_312, S5_313, S5_314, S5_315, S5_316, S5_317, S5_318, S5, ↓XX, ↓reduceIte, Nat.reduceBEq, decide_true, decide_false, Bool.not_true, Bool.not_false, List.map_cons, List.map_nil, List.length_map, List.length_cons, List.length_nil, Nat.reduceAdd, Int.cast_ofNat_Int, Int.natCast_zero, Int.natCast_one, Bool.false_eq_true, Bool.true_eq_false, decide_eq_true_eq, eq_self, Int.reduceEq, Int.reduceLT, Int.reduceLE, Bool.and_true, Bool.true_and, Bool.and_false, Bool.false_and, Nat.zero_add, ↓iso_0 hk, ↓iso_2 hw, ↓iso_2 t15, ↓bs1_g, ↓bs1_c, ↓iso_2 t18, ↓iso_1 v0, ↓iso_1 v2, ↓iso_2 t30, ↓bs2_g, ↓iso_2 t19, ↓iso_1 ik, ↓iso_2 t19k, ↓iso_1 hnum, ↓bs4_g, ↓iso_2 t13, ↓iso_2 t30r, ↓iso_2 t20]
  refine loop_run (Q := fun r => AnsV r _) (fun q V H => ∃ i : Nat, i + q = j ∧ V = [iv j, .ptr (.own 5246977) 0, .ptr (.own 5251078) 0, .ptr (.own 5252098) 0, iv i] ∧ ∃ H0, H = HP no nn nk k (mulT k i).op (mulT k i).n (wK k i) ∧ H0 = H) ?_ n j _ _ (by omega) ⟨0, by omega, rfl, _, rfl, rfl⟩
  rintro q V H rec ⟨i, hiq, rfl, H0, rfl, _⟩ hrec
  cases q with
  | succ q =>
    have hlt : (i : Int) < j := by omega
    have hwi : w64 ((i : Int) + 1) = ((i + 1 : Nat) : Int) := (w64_id (by omega) (by omega)).trans (by simp)
    have h9 := hrec q [iv j, .ptr (.own 5246977) 0, .ptr (.own 5251078) 0, .ptr (.own 5252098) 0, iv (i + 1 : Nat)] _ (by omega) ⟨i + 1, by omega, rfl, _, rfl, rfl⟩
    cases i with
    | zero =>
      have w01 : w64 (0 + 1) = ((0 + 1 : Nat) : Int) := by rw [w64_id] <;> omega
      have hlt : (0 : Int) < j := by omega
      simp only [HP, mulT, wK, Tm.op, Tm.n, enc_mk, List.map_nil] at h9 ⊢
      simp only [S5_295, S5_296, S5_297, S5_298, S5_299, S5_300, S5_301, S5_302, S5_303, S5_304, S5_305, S5_306, S5_307, S5_308, S5_309, S5_310, S5_311, S5_312, S5_313, S5_314, S5_315, S5_316, S5_317, S5_318, S5, ↓XX, ↓reduceIte, Nat.reduceBEq, decide_true, decide_false, Bool.not_true, Bool.not_false, List.map_cons, List.map_nil, List.length_map, List.length_cons, List.length_nil, Nat.reduceAdd, Int.cast_ofNat_Int, Int.natCast_zero, Int.natCast_one, Bool.false_eq_true, Bool.true_eq_false, decide_eq_true_eq, eq_self, Int.reduceEq, Int.reduceLT, Int.reduceLE, Bool.and_true, Bool.true_and, Bool.and_false, Bool.false_and, Nat.zero_add, hlt, ↓iso_1 v0, ↓bs2_g, w01]
      exact h9
    | succ i =>
      simp only [HP, mulT, wK, Tm.op, Tm.n, enc_mk, List.map_nil, List.map_cons] at h9 ⊢
      simp only [S5_295, S5_296, S5_297, S5_298, S5_299, S5_300, S5_301, S5_302, S5_303, S5_304, S5_305, S5_306, S5_307, S5_308, S5_309, S5_310, S5_311, S5_312, S5_313, S5_314, S5_315, S5_316, S5_317, S5_318, S5, ↓XX, ↓reduceIte, Nat.reduceBEq, decide_true, decide_false, Bool.not_true, Bool.not_false, List.map_cons, List.map_nil, List.length_map, List.length_cons, List.length_nil, Nat.reduceAdd, Int.cast_ofNat_Int, Int.natCast_zero, Int.natCast_one, Bool.false_eq_true, Bool.true_eq_false, decide_eq_true_eq, eq_self, Int.reduceEq, Int.reduceLT, Int.reduceLE, Bool.and_true, Bool.true_and, Bool.and_false, Bool.false_and, Nat.zero_add, hlt, ↓iso_1 v0, ↓bs2_c, hwi]
      exact h9
  | zero =>
    have hij : i = j := by omega
    subst hij
    have hno : ¬ (i : Int) < i := by omega
    cases i with
    | zero =>
      simp only [HP, mulT, wK, Tm.op, Tm.n, enc_mk, tI, List.map_cons, List.map_nil] at hS hs2 t20w ⊢
      simp only [S5_295, S5_296, S5_297, S5_298, S5_299, S5_300, S5_301, S5_302, S5_303, S5_304, S5_305, S5_306, S5_307, S5_308, S5_309, S5_310, S5_311, S5_312, S5_313, S5_314, S5_315, S5_316, S5_317, S5_318, S5, ↓XX, ↓reduceIte, Nat.reduceBEq, decide_true, decide_false, Bool.not_true, Bool.not_false, List.map_cons, List.map_nil, List.length_map, List.length_cons, List.length_nil, Nat.reduceAdd, Int.cast_ofNat_Int, Int.natCast_zero, Int.natCast_one, Bool.false_eq_true, Bool.true_eq_false, decide_eq_true_eq, eq_self, Int.reduceEq, Int.reduceLT, Int.reduceLE, Bool.and_true, Bool.true_and, Bool.and_false, Bool.false_and, Nat.zero_add, hno, ↓iso_1 hS, ↓iso_3 hI, ↓bs2_g, ↓iso_2 t16, ↓iso_2 hs1, ↓iso_2 t20w, ↓iso_2 hs2]
      exact ansv
    | succ i =>
      simp only [HP, mulT, wK, Tm.op, Tm.n, enc_mk, tI, List.map_cons, List.map_nil] at hS hs2 t20w ⊢
      simp only [S5_295, S5_296, S5_297, S5_298, S5_299, S5_300, S5_301, S5_302, S5_303, S5_304, S5_305, S5_306, S5_307, S5_308, S5_309, S5_310, S5_311, S5_312, S5_313, S5_314, S5_315, S5_316, S5_317, S5_318, S5, ↓XX, ↓reduceIte, Nat.reduceBEq, decide_true, decide_false, Bool.not_true, Bool.not_false, List.map_cons, List.map_nil, List.length_map, List.length_cons, List.length_nil, Nat.reduceAdd, Int.cast_ofNat_Int, Int.natCast_zero, Int.natCast_one, Bool.false_eq_true, Bool.true_eq_false, decide_eq_true_eq, eq_self, Int.reduceEq, Int.reduceLT, Int.reduceLE, Bool.and_true, Bool.true_and, Bool.and_false, Bool.false_and, Nat.zero_add, hno, ↓iso_1 hS, ↓iso_3 hI, ↓bs2_g, ↓bs2_c, ↓iso_2 t16, ↓iso_2 hs1, ↓iso_2 t20w, ↓iso_2 hs2]
      exact ansv
end Idl
end Go.Proofs.Ytkfecngimlcfoaa


/-
  Texts of a proof, part 10: an ideal semantics of the program, its functions in shallow form, contracts of them. No statement of the seat is proved here.
-/
import Derived.Test.YtkfecngimlcfoaaStageTypesK9
set_option linter.all false
namespace Go.Proofs.Ytkfecngimlcfoaa
namespace Idl
theorem ml_x (j : Nat) (v : FV) : mayLie (.ext j) (.fv v) = true := rfl
theorem bk_start {ih : Handler} {n : Nat} {v w : FV} {below deep s u r e e1 : Int} {ext : List Blk} (hr : 0 ≤ r) (hr2 : r ≤ 1000000000) (he1 : (if e = 0 ∧ (3000 < r + 1 ∨ 120 < deep) then (5 : Int) else e) = e1)
    (h : AnsX (S72_288 ih ⟨[(75497472, .row [iv 0, iv 0, .nils] false)], MX s u (r + 1) e1⟩ (.ptr (.ext 0) 0) (.ptr (.own 75497472) 0) (.fv v) (iv below) ⟨[], MX s u r e⟩ (iv deep) n) w ext) :
    AnsX (S72 ih n (.ptr (.ext 0) 0) (.fv v) (iv below) (iv deep) ⟨[], MX s u r e⟩) w ext := by
  have wr : w64 (r + 1) = r + 1 := by rw [w64_id] <;> omega
  have key : S72 ih n (.ptr (.ext 0) 0) (.fv v) (iv below) (iv deep) ⟨[], MX s u r e⟩ = S72_288 ih ⟨[(75497472, .row [iv 0, iv 0, .nils] false)], MX s u (r + 1) e1⟩ (.ptr (.ext 0) 0) (.ptr (.own 75497472) 0) (.fv v) (iv below) ⟨[], MX s u r e⟩ (iv deep) n := by
    by_cases h0 : e = 0
    · by_cases h3 : 3000 < r + 1
      · rw [if_pos ⟨h0, .inl h3⟩] at he1
        subst he1
        simp only [S72_261, S72_262, S72_263, S72_264, S72_265, S72_266, S72_267, S72_268, S72_269, S72_270, S72_271, S72_272, S72_273, S72_274, S72_275, S72_276, S72_277, S72_278, S72_279, S72_280, S72_281, S72_282, S72_283, S72_284, S72_285, S72_286, S72_287, S72_289, S72_290, S72_291, S72_292, S72_293, S72, ↓XX, ↓reduceIte, Nat.reduceBEq, decide_true, decide_false, Bool.not_true, Bool.not_false, List.map_cons, List.map_nil, List.length_map, List.length_cons, List.length_nil, Nat.reduceAdd, Int.cast_ofNat_Int, Int.natCast_zero, Int.natCast_one, Bool.false_eq_true, Bool.true_eq_false, decide_eq_true_eq, eq_self, Int.reduceEq, Int.reduceLT, Int.reduceLE, Bool.and_true, Bool.true_and, Bool.and_false, Bool.false_and, Nat.zero_add, ↓ml_x, wr, h0, h3]
      · by_cases h4 : 120 < deep
        · rw [if_pos ⟨h0, .inr h4⟩] at he1
          subst he1
          simp only [S72_261, S72_262, S72_263, S72_264, S72_265, S72_266, S72_267, S72_268, S72_269, S72_270, S72_271, S72_272, S72_273, S72_274, S72_275, S72_276, S72_277, S72_278, S72_279, S72_280, S72_281, S72_282, S72_283, S72_284, S72_285, S72_286, S72_287, S72_289, S72_290, S72_291, S72_292, S72_293, S72, ↓XX, ↓reduceIte, Nat.reduceBEq, decide_true, decide_false, Bool.not_true, Bool.not_false, List.map_cons, List.map_nil, List.length_map, List.length_cons, List.length_nil, Nat.reduceAdd, Int.cast_ofNat_Int, Int.natCast_zero, Int.natCast_one, Bool.false_eq_true, Bool.true_eq_false, decide_eq_true_eq, eq_self, Int.reduceEq, Int.reduceLT, Int.reduceLE, Bool.and_true, Bool.true_and, Bool.and_false, Bool.false_and, Nat.zero_add, ↓ml_x, wr, h0, h3, h4]
        · rw [if_neg (by omega)] at he1
          subst he1
          simp only [S72_261, S72_262, S72_263, S72_264, S72_265, S72_266, S72_267, S72_268, S72_269, S72_270, S72_271, S72_272, S72_273, S72_274, S72_275, S72_276, S72_277, S72_278, S72_279, S72_280, S72_281, S72_282, S72_283, S72_284, S72_285, S72_286, S72_287, S72_289, S72_290, S72_291, S72_292, S72_293, S72, ↓XX, ↓reduceIte, Nat.reduceBEq, decide_true, decide_false, Bool.not_true, Bool.not_false, List.map_cons, List.map_nil, List.length_map, List.length_cons, List.length_nil, Nat.reduceAdd, Int.cast_ofNat_Int, Int.natCast_zero, Int.natCast_one, Bool.false_eq_true, Bool.true_eq_false, decide_eq_true_eq, eq_self, Int.reduceEq, Int.reduceLT, Int.reduceLE, Bool.and_true, Bool.true_and, Bool.and_false, Bool.false_and, Nat.zero_add, ↓ml_x, wr, h0, h3, h4]
    · rw [if_neg (by omega)] at he1
      subst he1
      simp only [S72_261, S72_262, S72_263, S72_264, S72_265, S72_266, S72_267, S72_268, S72_269, S72_270, S72_271, S72_272, S72_273, S72_274, S72_275, S72_276, S72_277, S72_278, S72_279, S72_280, S72_281, S72_282, S72_283, S72_284, S72_285, S72_286, S72_287, S72_289, S72_290, S72_291, S72_292, S72_293, S72, ↓XX, ↓reduceIte, Nat.reduceBEq, decide_true, decide_false, Bool.not_true, Bool.not_false, List.map_cons, List.map_nil, List.length_map, List.length_cons, List.length_nil, Nat.reduceAdd, Int.cast_ofNat_Int, Int.natCast_zero, Int.natCast_one, Bool.false_eq_true, Bool.true_eq_false, decide_eq_true_eq, eq_self, Int.reduceEq, Int.reduceLT, Int.reduceLE, Bool.and_true, Bool.true_and, Bool.and_false, Bool.false_and, Nat.zero_add, ↓ml_x, wr, h0]
  rw [key]
  exact h
end Idl
end Go.Proofs.Ytkfecngimlcfoaa

namespace Go.Proofs.Ytkfecngimlcfoaa
namespace Idl
end Idl
end Go.Proofs.Ytkfecngimlcfoaa

namespace Go.Proofs.Ytkfecngimlcfoaa
namespace Idl
section
variable {β : Type} (v : RV)
end
end Idl
end Go.Proofs.Ytkfecngimlcfoaa

namespace Go.Proofs.Ytkfecngimlcfoaa
namespace Idl
theorem fzs_agg {cells : List IV} {fc : List FV} (hz : frz1L cells = some fc) (hn : cells.length ≤ 100) (s : Nat) (h : Hp) (k : IV → Hp → List Ref → List Ref → Option (IV × Hp)) : fzS (pcBox true s (.agg cells)) s (.agg cells) h k = k (.fv (.fp fc 0)) h [] [] := by
  have : pcBox true s (.agg cells) = .ret { eff := { val := .fv (.fp fc 0), upd := [] } } := by
    simp only [pcBox, IV.alive, Bool.true_eq_false, if_false, if_true, IV.cells, fr1_l cells 4096 (by omega) hz, Rd.bind]
  unfold fzS
  rw [this, as_nf1]
  exact gen_val _ s h k
end Idl
end Go.Proofs.Ytkfecngimlcfoaa

namespace Go.Proofs.Ytkfecngimlcfoaa
namespace Idl
noncomputable abbrev Hbk (done : List Tm) (rest : Nat) (more : List (Nat × Blk)) (s w r e : Int) : Hp :=
  ⟨(75497472, .row [iv 0, iv 0, .nils] false) :: (75506693, .row (cellsT done rest) false) :: more, MX s w r e⟩
theorem iso_x4s {ih : Handler} {f : FuncId} {w x y : FV} {a b : IV} {s0 len : Nat} {s u r e s' u' r' e' : Int} {own own' : List (Nat × Blk)} {es : List FV} {ro : Bool} (hr : AnsX (ih f [.ptr (.ext 0) 0, .fv x, .fv y, .fv (.sl es)] ⟨[], MX s u r e⟩) w (MX s' u' r' e'))
    (ha : frzP a = some x) (hb : frzP b = some y) (hl : lookupOwn s0 own = some (.row (es.map .fv) ro)) (hlen : es.length = len) (hn : es.length ≤ 300) (hag : ∀ x ∈ es, ∀ l, x ≠ .agg l) (ho : putOwn s0 (.row (es.map .fv) true) own = own')
    (k : IV → Hp → List Ref → List Ref → Option (IV × Hp)) :
    isoS [true, false, false, false] false false ih f [.ptr (.ext 0) 0, a, b, .slc (.own s0) 1 len] ⟨own, MX s u r e⟩ k = k (.fv w) ⟨own', MX s' u' r' e'⟩ [.ext 1, .ext 0, .own s0] [.own s0, .ext 0, .ext 1] := by
  subst ho hlen
  refine iso_g (ks := [false, false, false]) (vs := [x, y, .sl es]) (u := [(.own s0, .row (es.map .fv) true)]) (lg := [.own s0]) ?_ (extX ..) hr ?_ k
  · intro e k
    rw [fz1f, fzp_u _ _ e _ ha, fz1f, fzp_u _ _ e _ hb, fz1f, fz_slc (d := 10) hl hn hag, fz0]
    rfl
  · intro k
    show (ownK own s0 fun _ => putOwnK own s0 (.row (es.map .fv) true) fun own => k ⟨own, _⟩) = _
    rw [ownK_eq, hl, Option.bind_some, putOwnK_eq]
def resP (op n : Int) (done : List Tm) : Option (List Tm) → Tm
  | none => .z
  | some ts => .mk op n (done ++ ts)
set_option maxRecDepth 20000 in
set_option maxHeartbeats 1000000 in
theorem bk_end {n : Nat} {op nn bo bn below deep : Int} {k e : List PV} {bk : List Tm} {done : List Tm} {s w r er : Int} (h4 : Hp) {rec : List IV → Hp → Option (IV × Hp)} (hd : done.length = k.length) (hk : k.length ≤ 100) :
    AnsX (S72_283 [.ptr (.ext 0) 0, .fv (PV.mk op nn k (.mk bo bn bk) e).enc, iv below, iv deep, .ptr (.own 75497472) 0, .slc (.own 75506693) 3 k.length, iv k.length, iv k.length] (Hbk done 0 [] s w r er) (SS dt n) h4 rec n)
      (Tm.mk op nn done).enc (MX s w r er) := by
  rw [penc_mk, enc_mk]
  have hno : ¬ ((k.length : Int) < k.length) := by omega
  simp only [S72_261, S72_262, S72_263, S72_264, S72_265, S72_266, S72_267, S72_268, S72_269, S72_270, S72_271, S72_272, S72_273, S72_274, S72_275, S72_276, S72_277, S72_278, S72_279, S72_280, S72_281, S72_282, S72_283, S72_284, S72_285, S72_286, S72_287, S72_288, S72_289, S72_290, S72_291, S72_292, S72_293, S72, ↓XX, ↓reduceIte, Nat.reduceBEq, decide_true, decide_false, Bool.not_true, Bool.not_false, List.map_cons, List.map_nil, List.length_map, List.length_cons, List.length_nil, Nat.reduceAdd, Int.cast_ofNat_Int, Int.natCast_zero, Int.natCast_one, Bool.false_eq_true, Bool.true_eq_false, decide_eq_true_eq, eq_self, Int.reduceEq, Int.reduceLT, Int.reduceLE, Bool.and_true, Bool.true_and, Bool.and_false, Bool.false_and, Nat.zero_add, ↓ml_x, hno]
  rw [← hd]
  exact ⟨_, _, rfl, _, _, fun e0 K => fz_tm (by rfl) (by omega) [] e0 K⟩
def MoreP (more : List (Nat × Blk)) : Prop := more = [] ∨ ∃ (l : List FV) (ro : Bool), more = [(75512833, .row (l.map .fv) ro)]
set_option maxRecDepth 20000 in
set_option maxHeartbeats 1000000 in
theorem bk_b0 {n : Nat} {v y : FV} {below deep b len i : IV} {done : List Tm} {rest kl : Nat} {more : List (Nat × Blk)} {s w r e : Int} (hM : MoreP more) (h4 : Hp) {rec : List IV → Hp → Option (IV × Hp)} (he : e ≠ 0) :
    AnsX (S72_267 (.ptr (.ext 0) 0) (Hbk done rest more s w r e) (.ptr (.own 75497472) 0) below b deep (SS dt n) (.fv y) (.slc (.own 75506693) 3 kl) i i h4 (.fv v) len rec) Tm.z.enc (MX s w r e) := by
  rcases hM with rfl | ⟨l, ro, rfl⟩
  · simp only [S72_261, S72_262, S72_263, S72_264, S72_265, S72_266, S72_267, S72_268, S72_269, S72_270, S72_271, S72_272, S72_274, S72_275, S72_276, S72_277, S72_278, S72_279, S72_280, S72_281, S72_282, S72_284, S72_285, S72_286, S72_287, S72_288, S72_289, S72_290, S72_291, S72_292, S72_293, S72, ↓XX, ↓reduceIte, Nat.reduceBEq, decide_true, decide_false, Bool.not_true, Bool.not_false, List.map_cons, List.map_nil, List.length_map, List.length_cons, List.length_nil, Nat.reduceAdd, Int.cast_ofNat_Int, Int.natCast_zero, Int.natCast_one, Bool.false_eq_true, Bool.true_eq_false, decide_eq_true_eq, eq_self, Int.reduceEq, Int.reduceLT, Int.reduceLE, Bool.and_true, Bool.true_and, Bool.and_false, Bool.false_and, Nat.zero_add, ↓ml_x, he]
    exact ansx_p rfl _ _
  · simp only [S72_261, S72_262, S72_263, S72_264, S72_265, S72_266, S72_267, S72_268, S72_269, S72_270, S72_271, S72_272, S72_274, S72_275, S72_276, S72_277, S72_278, S72_279, S72_280, S72_281, S72_282, S72_284, S72_285, S72_286, S72_287, S72_288, S72_289, S72_290, S72_291, S72_292, S72_293, S72, ↓XX, ↓reduceIte, Nat.reduceBEq, decide_true, decide_false, Bool.not_true, Bool.not_false, List.map_cons, List.map_nil, List.length_map, List.length_cons, List.length_nil, Nat.reduceAdd, Int.cast_ofNat_Int, Int.natCast_zero, Int.natCast_one, Bool.false_eq_true, Bool.true_eq_false, decide_eq_true_eq, eq_self, Int.reduceEq, Int.reduceLT, Int.reduceLE, Bool.and_true, Bool.true_and, Bool.and_false, Bool.false_and, Nat.zero_add, ↓ml_x, he]
    exact ansx_p rfl _ _
set_option maxRecDepth 20000 in
set_option maxHeartbeats 1000000 in
theorem bk_b1 {f n : Nat} {v : FV} {y : PV} {below deep : Int} {b : Nat} {len : Int} {done : List Tm} {rest kl : Nat} {more : List (Nat × Blk)} {m m5 : M3} {r r5 : Int} {t5 : Tm} {w : FV} {ext : List Blk} (hb : BkOk f) (hn : f + 1 ≤ n) (hM : MoreP more) (ext4 : List Blk)
    {rec : List IV → Hp → Option (IV × Hp)} (he : m.e = 0) (hbk : bkP f y (below + b) (deep + 1) m r = some (t5, m5, r5)) (hb1 : 0 ≤ below) (hb2 : below ≤ 1000000) (hb3 : b ≤ 10) (hd1 : 0 ≤ deep) (hd2 : deep ≤ 1000000) (hkl : done.length < kl) (hkl2 : kl ≤ 100)
    (h : AnsX (rec [.ptr (.ext 0) 0, .fv v, iv below, iv deep, .ptr (.own 75497472) 0, .slc (.own 75506693) 3 kl, iv len, iv (done ++ [t5]).length] (Hbk (done ++ [t5]) rest [] m5.s m5.w r5 m5.e)) w ext) :
    AnsX (S72_267 (.ptr (.ext 0) 0) (Hbk done (rest + 1) more m.s m.w r m.e) (.ptr (.own 75497472) 0) (iv below) (iv b) (iv deep) (SS dt n) (.fv y.enc) (.slc (.own 75506693) 3 kl) (iv done.length) (iv done.length) ⟨[], ext4⟩ (.fv v) (iv len) rec) w ext := by
  have hc := hb _ _ _ _ _ _ _ _ hbk n hn
  have wb : w64 (below + b) = below + b := by rw [w64_id] <;> omega
  have wd : w64 (deep + 1) = deep + 1 := by rw [w64_id] <;> omega
  have wi : w64 ((done.length : Int) + 1) = ((done ++ [t5]).length : Int) := (w64_id (by omega) (by omega)).trans (by simp)
  obtain ⟨o, p, ks⟩ := t5
  rw [enc_mk] at hc
  simp only [he] at hc ⊢
  rcases hM with rfl | ⟨l, ro, rfl⟩
  · simp only [S72_261, S72_262, S72_263, S72_264, S72_265, S72_266, S72_267, S72_268, S72_269, S72_270, S72_271, S72_272, S72_274, S72_275, S72_276, S72_277, S72_278, S72_279, S72_280, S72_281, S72_282, S72_284, S72_285, S72_286, S72_287, S72_288, S72_289, S72_290, S72_291, S72_292, S72_293, S72, ↓XX, ↓reduceIte, Nat.reduceBEq, decide_true, decide_false, Bool.not_true, Bool.not_false, List.map_cons, List.map_nil, List.length_map, List.length_cons, List.length_nil, Nat.reduceAdd, Int.cast_ofNat_Int, Int.natCast_zero, Int.natCast_one, Bool.false_eq_true, Bool.true_eq_false, decide_eq_true_eq, eq_self, Int.reduceEq, Int.reduceLT, Int.reduceLE, Bool.and_true, Bool.true_and, Bool.and_false, Bool.false_and, Nat.zero_add, ↓ml_x, wb, wd, ↓iso_x4 _ _ hc, ↓ix_sl3 hkl, ↓set_t, wi, ↓drop_mx, ↓drop_e, XD, heldB, flatD, List.any_cons, List.any_nil, List.all_cons, List.all_nil, List.filter_cons, List.filter_nil, List.contains_cons, List.contains_nil, Bool.or_false, Bool.or_true, Bool.false_or, Bool.true_or, Bool.and_self, Bool.not_eq_true, BEq.rfl, beq_self_eq_true, flat_fv, names_fv, flat_t, names_t]
    exact h
  · simp only [S72_261, S72_262, S72_263, S72_264, S72_265, S72_266, S72_267, S72_268, S72_269, S72_270, S72_271, S72_272, S72_274, S72_275, S72_276, S72_277, S72_278, S72_279, S72_280, S72_281, S72_282, S72_284, S72_285, S72_286, S72_287, S72_288, S72_289, S72_290, S72_291, S72_292, S72_293, S72, ↓XX, ↓reduceIte, Nat.reduceBEq, decide_true, decide_false, Bool.not_true, Bool.not_false, List.map_cons, List.map_nil, List.length_map, List.length_cons, List.length_nil, Nat.reduceAdd, Int.cast_ofNat_Int, Int.natCast_zero, Int.natCast_one, Bool.false_eq_true, Bool.true_eq_false, decide_eq_true_eq, eq_self, Int.reduceEq, Int.reduceLT, Int.reduceLE, Bool.and_true, Bool.true_and, Bool.and_false, Bool.false_and, Nat.zero_add, ↓ml_x, wb, wd, ↓iso_x4 _ _ hc, ↓ix_sl3 hkl, ↓set_t, wi, ↓drop_mx, ↓drop_e, XD, heldB, flatD, List.any_cons, List.any_nil, List.all_cons, List.all_nil, List.filter_cons, List.filter_nil, List.contains_cons, List.contains_nil, Bool.or_false, Bool.or_true, Bool.false_or, Bool.true_or, Bool.and_self, Bool.not_eq_true, BEq.rfl, beq_self_eq_true, flat_fv, names_fv, flat_t, names_t]
    exact h
end Idl
end Go.Proofs.Ytkfecngimlcfoaa

namespace Go.Proofs.Ytkfecngimlcfoaa
namespace Idl
set_option maxRecDepth 20000 in
set_option maxHeartbeats 1000000 in
theorem bk_in {f n : Nat} {v y : PV} {below deep : Int} {i b kl : Nat} {len : Int} {done : List Tm} {rest : Nat} {m m4 : M3} {r : Int} {w : FV} {ext : List Blk} (hn : f + 1 ≤ n) (h3 : 3 ≤ n) (ext4 : List Blk)
    {j : IV → IV → IV → IV → IV → IV → IV → IV → IV → IV → IV → Hp → Option (IV × Hp)} (hb : b ≤ 2) (hb1 : 0 ≤ below) (hb2 : below ≤ 1000000) (hop : opP f v i (upP below b) m = some (y, m4))
    (hj : AnsX (j (.ptr (.ext 0) 0) (.fv v.enc) (iv below) (iv deep) (.ptr (.own 75497472) 0) (.slc (.own 75506693) 3 kl) (iv i) (.fv y.enc) (iv b) (iv len) (iv i)
      (Hbk done rest [(75512833, .row (((upP below b).map PV.enc).map .fv) true)] m4.s m4.w r m4.e)) w ext) :
    AnsX (loopS n (fun q119 l120 h121 => S72_273 l120 h121 ⟨[], ext4⟩ q119 (SS dt n) j) [.ptr (.ext 0) 0, .fv v.enc, iv below, iv deep, .ptr (.own 75497472) 0, .slc (.own 75506693) 3 kl, iv i, iv b, .slc (.own 75512833) 1 b, iv len, iv i, iv b, iv 0]
      (Hbk done rest [(75512833, .row (((nils b).map PV.enc).map .fv) false)] m.s m.w r m.e)) w ext := by
  refine loop_run (Q := fun r => AnsX r _ _) (fun t V H => ∃ (k : Nat), k + t = b ∧
      V = [.ptr (.ext 0) 0, .fv v.enc, iv below, iv deep, .ptr (.own 75497472) 0, .slc (.own 75506693) 3 kl, iv i, iv b, .slc (.own 75512833) 1 b, iv len, iv i, iv b, iv k] ∧
      H = Hbk done rest [(75512833, .row (((upP below k ++ nils t).map PV.enc).map .fv) false)] m.s m.w r m.e) ?_ n b _ _ (by omega) ⟨0, by omega, rfl, rfl⟩
  rintro t V H rec ⟨k, hkt, rfl, rfl⟩ hrec
  cases t with
  | zero =>
    have hkb : k = b := by omega
    subst hkb
    have hno : ¬ ((k : Int) < k) := by omega
    have hc := (mx_ok f).2.2.2 _ _ _ _ _ _ hop r n hn
    rw [show upP below k ++ nils 0 = upP below k by simp [nils]]
    simp only [S72_261, S72_262, S72_263, S72_264, S72_265, S72_266, S72_267, S72_268, S72_269, S72_270, S72_271, S72_272, S72_274, S72_275, S72_276, S72_277, S72_278, S72_279, S72_280, S72_281, S72_282, S72_284, S72_285, S72_286, S72_287, S72_288, S72_289, S72_290, S72_291, S72_292, S72_293, S72, S72_273, ↓XX, ↓reduceIte, Nat.reduceBEq, decide_true, decide_false, Bool.not_true, Bool.not_false, List.map_cons, List.map_nil, List.length_map, List.length_cons, List.length_nil, Nat.reduceAdd, Int.cast_ofNat_Int, Int.natCast_zero, Int.natCast_one, Bool.false_eq_true, Bool.true_eq_false, decide_eq_true_eq, eq_self, Int.reduceEq, Int.reduceLT, Int.reduceLE, Bool.and_true, Bool.true_and, Bool.and_false, Bool.false_and, Nat.zero_add, ↓ml_x, hno]
    rw [iso_x4s hc rfl rfl (s0 := 75512833) (own' := (Hbk done rest [(75512833, .row (((upP below k).map PV.enc).map .fv) true)] m4.s m4.w r m4.e).own) (by rfl) (by simp [upP_len]) (by simp [upP_len]; omega) (by simp only [List.mem_map]; rintro x ⟨v, _, rfl⟩; exact penc_agg v) (by rfl)]
    exact hj
  | succ t =>
    have hlt : (k : Int) < b := by omega
    have hkb : k < b := by omega
    have wk : w64 ((k : Int) + 1) = ((k + 1 : Nat) : Int) := (w64_id (by omega) (by omega)).trans (by simp)
    have wbk : w64 (below + (k : Int)) = below + k := by rw [w64_id] <;> omega
    have hoff := fun {β : Type} => off_p (done := upP below k) (r := t) (β := β) (PV.var (below + k))
    rw [upP_len, pvar_enc] at hoff
    simp only [S72_261, S72_262, S72_263, S72_264, S72_265, S72_266, S72_267, S72_268, S72_269, S72_270, S72_271, S72_272, S72_274, S72_275, S72_276, S72_277, S72_278, S72_279, S72_280, S72_281, S72_282, S72_284, S72_285, S72_286, S72_287, S72_288, S72_289, S72_290, S72_291, S72_292, S72_293, S72, S72_273, ↓XX, ↓reduceIte, Nat.reduceBEq, decide_true, decide_false, Bool.not_true, Bool.not_false, List.map_cons, List.map_nil, List.length_map, List.length_cons, List.length_nil, Nat.reduceAdd, Int.cast_ofNat_Int, Int.natCast_zero, Int.natCast_one, Bool.false_eq_true, Bool.true_eq_false, decide_eq_true_eq, eq_self, Int.reduceEq, Int.reduceLT, Int.reduceLE, Bool.and_true, Bool.true_and, Bool.and_false, Bool.false_and, Nat.zero_add, ↓ml_x, hlt, wbk]
    rw [fzs_agg (fc := [.int .i64 1, .int .i64 (below + k), .sl [], .int .i64 0, .int .i64 0, .sl [], .nilp]) rfl (by simp)]
    simp only [↓XX, ↓reduceIte, Nat.reduceBEq, decide_true, decide_false, Bool.not_true, Bool.not_false, List.map_cons, List.map_nil, List.length_map, List.length_cons, List.length_nil, Nat.reduceAdd, Int.cast_ofNat_Int, Int.natCast_zero, Int.natCast_one, Bool.false_eq_true, Bool.true_eq_false, decide_eq_true_eq, eq_self, Int.reduceEq, Int.reduceLT, Int.reduceLE, Bool.and_true, Bool.true_and, Bool.and_false, Bool.false_and, Nat.zero_add, ↓ml_x, ↓ix_sl hkb, ↓hoff, wk, ↓drop_mx, ↓drop_e, XD, heldB, flatD, List.any_cons, List.any_nil, List.all_cons, List.all_nil, List.filter_cons, List.filter_nil, List.contains_cons, List.contains_nil, Bool.or_false, Bool.or_true, Bool.false_or, Bool.true_or, Bool.and_self, Bool.not_eq_true, BEq.rfl, beq_self_eq_true, flat_fv, names_fv, flat_t, names_t]
    exact hrec t _ _ (by omega) ⟨k + 1, by omega, rfl, by rw [upP_succ]⟩
set_option maxRecDepth 20000 in
set_option maxHeartbeats 1000000 in
theorem bk_step {f : Nat} (hb : BkOk f) : BkOk (f + 1) := by
  intro v below deep m r t m' r' hev n hn
  obtain ⟨n, rfl⟩ : ∃ k, n = k + 1 := ⟨n - 1, by omega⟩
  rw [c72]
  rw [bkP.eq_def] at hev
  simp only at hev
  split at hev
  · cases hev
  rename_i hbad
  have wd : w64 (deep + 1) = deep + 1 := by rw [w64_id] <;> omega
  have wb1 : w64 (below - 1) = below - 1 := by rw [w64_id] <;> omega
  generalize he1 : (if m.e = 0 ∧ (3000 < r + 1 ∨ 120 < deep) then (5 : Int) else m.e) = e1 at hev
  cases ht : tickP ⟨m.s, m.w, e1⟩ with
  | none => rw [ht] at hev; cases hev
  | some m1 =>
  rw [ht] at hev
  simp only at hev
  have hc1 := tick_ok ht (r + 1) (n := n) (by omega)
  simp only at hc1
  refine bk_start (by omega) (by omega) he1 ?_
  by_cases h1 : m1.e ≠ 0
  · rw [if_pos h1] at hev
    simp only [Option.some.injEq, Prod.mk.injEq] at hev
    obtain ⟨rfl, rfl, rfl⟩ := hev
    simp only [S72_261, S72_262, S72_263, S72_264, S72_265, S72_266, S72_267, S72_268, S72_269, S72_270, S72_271, S72_272, S72_274, S72_275, S72_276, S72_277, S72_278, S72_279, S72_280, S72_281, S72_282, S72_284, S72_285, S72_286, S72_287, S72_288, S72_289, S72_290, S72_291, S72_292, S72_293, S72, ↓XX, ↓reduceIte, Nat.reduceBEq, decide_true, decide_false, Bool.not_true, Bool.not_false, List.map_cons, List.map_nil, List.length_map, List.length_cons, List.length_nil, Nat.reduceAdd, Int.cast_ofNat_Int, Int.natCast_zero, Int.natCast_one, Bool.false_eq_true, Bool.true_eq_false, decide_eq_true_eq, eq_self, Int.reduceEq, Int.reduceLT, Int.reduceLE, Bool.and_true, Bool.true_and, Bool.and_false, Bool.false_and, Nat.zero_add, ↓ml_x, ↓iso_x1 _ _ hc1, h1]
    exact ansx_p rfl _ _
  · rw [if_neg h1] at hev
    have h1 : m1.e = 0 := by simpa using h1
    cases v with
    | nil => cases hev
    | mk op nn k t0 e =>
    obtain ⟨bo, bn, bk⟩ := t0
    simp only at hev
    by_cases h2 : op = 1
    · rw [if_pos h2] at hev
      split at hev
      · cases hev
      rename_i hnn
      simp only [Option.some.injEq, Prod.mk.injEq] at hev
      obtain ⟨rfl, rfl, rfl⟩ := hev
      have wb2 : w64 (below - 1 - nn) = below - 1 - nn := by rw [w64_id] <;> omega
      rw [penc_mk]
      simp only [S72_261, S72_262, S72_263, S72_264, S72_265, S72_266, S72_267, S72_268, S72_269, S72_270, S72_271, S72_272, S72_274, S72_275, S72_276, S72_277, S72_278, S72_279, S72_280, S72_281, S72_282, S72_284, S72_285, S72_286, S72_287, S72_288, S72_289, S72_290, S72_291, S72_292, S72_293, S72, ↓XX, ↓reduceIte, Nat.reduceBEq, decide_true, decide_false, Bool.not_true, Bool.not_false, List.map_cons, List.map_nil, List.length_map, List.length_cons, List.length_nil, Nat.reduceAdd, Int.cast_ofNat_Int, Int.natCast_zero, Int.natCast_one, Bool.false_eq_true, Bool.true_eq_false, decide_eq_true_eq, eq_self, Int.reduceEq, Int.reduceLT, Int.reduceLE, Bool.and_true, Bool.true_and, Bool.and_false, Bool.false_and, Nat.zero_add, ↓ml_x, ↓iso_x1 _ _ hc1, h1, h2, wb1, wb2]
      exact ansx_p rfl _ _
    · rw [if_neg h2] at hev
      split at hev
      · cases hev
      rename_i hk100
      have hk100 : k.length ≤ 100 := by omega
      cases hkk : bkK (fun v below m r => bkP f v below (deep + 1) m r) (fun i l m => opP f (.mk op nn k (.mk bo bn bk) e) i l m) op below 0 k m1 (r + 1) with
      | none => rw [hkk] at hev; cases hev
      | some q =>
      obtain ⟨res, m2, r2⟩ := q
      rw [hkk] at hev
      have hres : t = resP op nn [] res ∧ m' = m2 ∧ r' = r2 := by
        cases res with
        | none => simp only [Option.some.injEq, Prod.mk.injEq] at hev; exact ⟨hev.1.symm, hev.2.1.symm, hev.2.2.symm⟩
        | some ts => simp only [Option.some.injEq, Prod.mk.injEq] at hev; exact ⟨hev.1.symm, hev.2.1.symm, hev.2.2.symm⟩
      obtain ⟨ht5, rfl, rfl⟩ := hres
      generalize hV : PV.mk op nn k (.mk bo bn bk) e = V5 at *
      have hVe : V5.enc = .fp [.int .i64 op, .int .i64 nn, .sl (k.map PV.enc), .int .i64 bo, .int .i64 bn, .sl (bk.map Tm.enc), PV.encEnv e] 0 := by rw [← hV, penc_mk]
      rw [hVe]
      simp only [S72_261, S72_262, S72_263, S72_264, S72_265, S72_266, S72_267, S72_268, S72_269, S72_270, S72_271, S72_272, S72_274, S72_275, S72_276, S72_277, S72_278, S72_279, S72_280, S72_281, S72_282, S72_284, S72_285, S72_286, S72_287, S72_288, S72_289, S72_290, S72_291, S72_292, S72_293, S72, ↓XX, ↓reduceIte, Nat.reduceBEq, decide_true, decide_false, Bool.not_true, Bool.not_false, List.map_cons, List.map_nil, List.length_map, List.length_cons, List.length_nil, Nat.reduceAdd, Int.cast_ofNat_Int, Int.natCast_zero, Int.natCast_one, Bool.false_eq_true, Bool.true_eq_false, decide_eq_true_eq, eq_self, Int.reduceEq, Int.reduceLT, Int.reduceLE, Bool.and_true, Bool.true_and, Bool.and_false, Bool.false_and, Nat.zero_add, ↓ml_x, ↓iso_x1 _ _ hc1, h1, h2, ↓mk_t (show k.length ≤ 1000 by omega), ↓drop_mx, ↓drop_e, XD, heldB, flatD, List.any_cons, List.any_nil, List.all_cons, List.all_nil, List.filter_cons, List.filter_nil, List.contains_cons, List.contains_nil, Bool.or_false, Bool.or_true, Bool.false_or, Bool.true_or, Bool.and_self, Bool.not_eq_true, BEq.rfl, beq_self_eq_true, flat_fv, names_fv, flat_t, names_t]
      refine loop_run (Q := fun r => AnsX r _ _) (fun j V H => ∃ (pre rest : List PV) (done : List Tm) (m3 : M3) (r3 : Int) (res3 : Option (List Tm)), k = pre ++ rest ∧ rest.length = j ∧ done.length = pre.length ∧
          V = [.ptr (.ext 0) 0, .fv V5.enc, iv below, iv deep, .ptr (.own 75497472) 0, .slc (.own 75506693) 3 k.length, iv k.length, iv pre.length] ∧
          H = Hbk done rest.length [] m3.s m3.w r3 m3.e ∧
          bkK (fun v below m r => bkP f v below (deep + 1) m r) (fun i l m => opP f V5 i l m) op below pre.length rest m3 r3 = some (res3, m', r') ∧ resP op nn done res3 = t)
        ?_ n k.length _ _ (by omega) ⟨[], k, [], m1, r + 1, res, rfl, rfl, rfl, by rw [hVe]; rfl, by rw [h1], hkk, ht5.symm⟩
      rintro j V H rec ⟨pre, rest, done, m3, r3, res3, hk, hl, hdl, rfl, rfl, hkids, hts⟩ hrec
      have hkl : k.length = pre.length + rest.length := by rw [hk]; simp
      cases rest with
      | nil =>
        simp only [bkK, Option.some.injEq, Prod.mk.injEq] at hkids
        obtain ⟨rfl, rfl, rfl⟩ := hkids
        rw [List.length_nil, Nat.add_zero] at hkl
        rw [← hts, ← hV, resP, List.append_nil, ← hkl]
        exact bk_end _ (by omega) hk100
      | cons x rest =>
        have hi : (pre.length : Int) < k.length := by rw [hkl]; simp; omega
        have hg := at_pre hk
        have hbn := pbind_ok (n := n) (by omega) op pre.length
        have hble := bindN_le op pre.length
        simp only [bkK] at hkids
        simp only [List.length_cons] at hl hkl
        -- what comes behind the kid's value
        have behind : ∀ (y : PV) (m4 : M3) (more : List (Nat × Blk)), MoreP more → (if m4.e ≠ 0 then some (none, m4, r3) else match bkP f y (below + bindN op pre.length) (deep + 1) m4 r3 with
              | none => none
              | some (t, m, r) => (bkK (fun v below m r => bkP f v below (deep + 1) m r) (fun i l m => opP f V5 i l m) op below (pre.length + 1) rest m r).map fun (ts, m, r) => (ts.map (t :: ·), m, r)) = some (res3, m', r') →
            AnsX (S72_267 (.ptr (.ext 0) 0) (Hbk done (rest.length + 1) more m4.s m4.w r3 m4.e) (.ptr (.own 75497472) 0) (iv below) (iv (bindN op pre.length)) (iv deep) (SS dt n) (.fv y.enc) (.slc (.own 75506693) 3 k.length) (iv pre.length) (iv pre.length) ⟨[], MX m.s m.w r m.e⟩ (.fv V5.enc) (iv k.length) rec)
              t.enc (MX m'.s m'.w r' m'.e) := by
          intro y m4 more hM hy
          by_cases h4 : m4.e ≠ 0
          · rw [if_pos h4] at hy
            simp only [Option.some.injEq, Prod.mk.injEq] at hy
            obtain ⟨rfl, rfl, rfl⟩ := hy
            rw [← hts]
            exact bk_b0 hM _ h4
          · rw [if_neg h4] at hy
            have h4 : m4.e = 0 := by simpa using h4
            cases hbk : bkP f y (below + bindN op pre.length) (deep + 1) m4 r3 with
            | none => rw [hbk] at hy; cases hy
            | some q =>
            obtain ⟨t5, m5, r5⟩ := q
            rw [hbk] at hy
            simp only at hy
            cases hk2 : bkK (fun v below m r => bkP f v below (deep + 1) m r) (fun i l m => opP f V5 i l m) op below (pre.length + 1) rest m5 r5 with
            | none => rw [hk2] at hy; cases hy
            | some q =>
            obtain ⟨res6, m6, r6⟩ := q
            rw [hk2] at hy
            simp only [Option.map_some, Option.some.injEq, Prod.mk.injEq] at hy
            obtain ⟨rfl, rfl, rfl⟩ := hy
            rw [← hdl]
            refine bk_b1 hb (by omega) hM _ h4 (by rw [hdl]; exact hbk) (by omega) (by omega) (by rw [hdl]; omega) (by omega) (by omega) (by omega) hk100 ?_
            refine hrec rest.length _ _ (by omega) ⟨pre ++ [x], rest, done ++ [t5], m5, r5, res6, by rw [hk]; simp, rfl, by simp [hdl], by simp [hdl], rfl, by simpa using hk2, ?_⟩
            rw [← hts]
            cases res6 with
            | none => rfl
            | some ts => simp [resP]
        rw [hVe]
        by_cases hb0 : 0 < bindN op pre.length
        · rw [if_pos hb0] at hkids
          have hb0' : (0 : Int) < bindN op pre.length := by omega
          cases hop : opP f V5 pre.length (upP below (bindN op pre.length)) m3 with
          | none => rw [hop] at hkids; cases hkids
          | some q =>
          obtain ⟨y, m4⟩ := q
          rw [hop] at hkids
          have h9 := behind y m4 [(75512833, .row (((upP below (bindN op pre.length)).map PV.enc).map .fv) true)] (.inr ⟨_, _, rfl⟩) hkids
          have hin := bk_in (f := f) (n := n) (v := V5) (y := y) (below := below) (deep := deep) (i := pre.length) (b := bindN op pre.length) (kl := k.length) (len := k.length) (done := done) (rest := rest.length + 1) (m := m3) (m4 := m4) (r := r3) (w := t.enc) (ext := MX m'.s m'.w r' m'.e) (by omega) (by omega) (MX m.s m.w r m.e)
            (j := fun x79 x80 x81 x82 x83 x84 x85 x86 x87 x88 x89 h90 => S72_267 x79 h90 x83 x81 x87 x82 (SS dt n) x86 x84 x85 x89 ⟨[], MX m.s m.w r m.e⟩ x80 x88 rec) (by omega) (by omega) (by omega) hop h9
          simp only [S72_261, S72_262, S72_263, S72_264, S72_265, S72_266, S72_268, S72_269, S72_270, S72_271, S72_272, S72_274, S72_275, S72_276, S72_277, S72_278, S72_279, S72_280, S72_281, S72_282, S72_283, S72_284, S72_285, S72_286, S72_287, S72_288, S72_289, S72_290, S72_291, S72_292, S72_293, S72, ↓XX, ↓reduceIte, Nat.reduceBEq, decide_true, decide_false, Bool.not_true, Bool.not_false, List.map_cons, List.map_nil, List.length_map, List.length_cons, List.length_nil, Nat.reduceAdd, Int.cast_ofNat_Int, Int.natCast_zero, Int.natCast_one, Bool.false_eq_true, Bool.true_eq_false, decide_eq_true_eq, eq_self, Int.reduceEq, Int.reduceLT, Int.reduceLE, Bool.and_true, Bool.true_and, Bool.and_false, Bool.false_and, Nat.zero_add, ↓ml_x, hi, ↓ix_p hg, ↓iso_2 hbn, hb0', ↓mk_p (show bindN op pre.length ≤ 1000 by omega), ↓drop_mx, ↓drop_e, XD, heldB, flatD, List.any_cons, List.any_nil, List.all_cons, List.all_nil, List.filter_cons, List.filter_nil, List.contains_cons, List.contains_nil, Bool.or_false, Bool.or_true, Bool.false_or, Bool.true_or, Bool.and_self, Bool.not_eq_true, BEq.rfl, beq_self_eq_true, flat_fv, names_fv, flat_t, names_t]
          rw [hVe] at hin
          exact hin
        · rw [if_neg hb0] at hkids
          have hb0' : ¬ (0 : Int) < bindN op pre.length := by omega
          have h9 := behind x m3 [] (.inl rfl) hkids
          simp only [S72_261, S72_262, S72_263, S72_264, S72_265, S72_266, S72_268, S72_269, S72_270, S72_271, S72_272, S72_274, S72_275, S72_276, S72_277, S72_278, S72_279, S72_280, S72_281, S72_282, S72_283, S72_284, S72_285, S72_286, S72_287, S72_288, S72_289, S72_290, S72_291, S72_292, S72_293, S72, ↓XX, ↓reduceIte, Nat.reduceBEq, decide_true, decide_false, Bool.not_true, Bool.not_false, List.map_cons, List.map_nil, List.length_map, List.length_cons, List.length_nil, Nat.reduceAdd, Int.cast_ofNat_Int, Int.natCast_zero, Int.natCast_one, Bool.false_eq_true, Bool.true_eq_false, decide_eq_true_eq, eq_self, Int.reduceEq, Int.reduceLT, Int.reduceLE, Bool.and_true, Bool.true_and, Bool.and_false, Bool.false_and, Nat.zero_add, ↓ml_x, hi, ↓ix_p hg, ↓iso_2 hbn, hb0']
          rw [hVe] at h9
          exact h9
theorem bk_ok : ∀ f, BkOk f
  | 0 => (fun _ _ _ _ _ _ _ _ h => by rw [bkP.eq_def] at h; cases h)
  | f + 1 => bk_step (bk_ok f)
end Idl
end Go.Proofs.Ytkfecngimlcfoaa

namespace Go.Proofs.Ytkfecngimlcfoaa
namespace Idl
noncomputable abbrev ruleO (mb : Nat) (f : FuncId) : IV := .agg [.func (.func f) [.ptr (.own mb) 0] []]
noncomputable abbrev rulesO (mb : Nat) : List (Int × IV) := [(5, ruleO mb 94), (8, ruleO mb 95), (9, ruleO mb 95), (13, ruleO mb 96), (30, ruleO mb 97), (19, ruleO mb 98)]
theorem on_mapr (r : Ref) : IV.one (.mapr r) = true := rfl
theorem alv_dead {β : Type} (l : List IV) (e : Option β) (k : List FV → Option β) : allFvK (.dead :: l) e k = e := rfl
theorem of4 {β : Type} (x y z u v b : IV) (l : List IV) (k : List IV → Option β) : offK (x :: y :: z :: u :: v :: l) 4 b k = k (x :: y :: z :: u :: b :: l) := rfl
theorem mk_m (s : Nat) (own : List (Nat × Blk)) (ext : List Blk) (k : IV → Hp → List Ref → List Ref → Option (IV × Hp)) : genS (pcMakeMap s) s ⟨own, ext⟩ k = freshK own s (putOwnK own s (.map []) fun own => k (.mapr (.own s)) ⟨own, ext⟩ [] [.own s]) := by
  unfold genS
  simp only [pcMakeMap, Rd.runLog, newK, fBk_eq, fV_eq]
  rfl
noncomputable def mapK (b : Blk) (k : List (Int × IV) → Option (IV × Hp)) : Option (IV × Hp) := match b with
  | .map es => k es
  | _ => none
theorem as_map (es : List (Int × IV)) (k : List (Int × IV) → Option (IV × Hp)) : mapK (.map es) k = k es := rfl
theorem ins_e (m j : Nat) (v : IV) (hv : v.alive = true) (n : Int) (s : Nat) (own : List (Nat × Blk)) (ext : List Blk) (k : IV → Hp → List Ref → List Ref → Option (IV × Hp)) :
    genS (pcInsert EE 98 (.mapr (.own m)) (iv n) v) s ⟨own, ext⟩ k = ownK own m fun b => mapK b fun es => putOwnK own m (.map (putMap n v es)) fun own => k .dead ⟨own, ext⟩ [.own m] [.own m] := by
  have h1 := tMk
  have h2 := tIk
  cases hm : EE.T 98 with
  | none => rw [hm] at h1; cases h1
  | some ti =>
    cases hi : EE.T 3 with
    | none => rw [hi] at h2; cases h2
    | some ii =>
      rw [hm] at h1
      rw [hi] at h2
      obtain ⟨a, b, kd, z⟩ := ti
      obtain ⟨a2, b2, kd2, z2⟩ := ii
      simp only [Option.map_some, Option.some.injEq] at h1 h2
      subst h1 h2
      rw [ownK_eq]
      unfold genS
      cases hl : lookupOwn m own with
      | none => simp only [pcInsert, hm, hi, iv_e, Rd.runLog, Hp.get, hl]; rfl
      | some bl =>
        cases bl with
        | row c ro => simp only [pcInsert, hm, hi, iv_e, Rd.runLog, Hp.get, hl]; rfl
        | tok a b => simp only [pcInsert, hm, hi, iv_e, Rd.runLog, Hp.get, hl]; rfl
        | map es =>
          simp only [pcInsert, hm, hi, iv_e, Rd.runLog, Hp.get, hl, ml_own, hv, and_self, if_true, Option.bind_some, as_map]
          show (fRf (.own m) fun q => getK q ⟨own, ext⟩ fun _ => fBk (.map (putMap n v es)) fun b => layK q b ⟨own, ext⟩ fun h => newK none s h fun h => fV 3 .dead fun v => k v h [.own m] ([.own m] ++ [])) = _
          simp only [fRf_eq, fBk_eq, fV_eq, newK, layK, getK]
          rw [ownK_eq, hl]
          rfl
theorem iso_om {ks : List Bool} (hks : ∀ b ∈ ks, b = false) {ih : Handler} {f : FuncId} {args : List IV} {vs : List FV} {w : FV} {mb mp : Nat} {own : List (Nat × Blk)} {s u r e s' u' r' e' : Int} (hz : frzPL args = some vs) (hne : mb ≠ mp)
    (hl1 : lookupOwn mb own = some (.row [iv s, iv u, iv r, iv e, .mapr (.own mp)] false)) (hl2 : lookupOwn mp own = some (.map (rulesO mb))) (hr : AnsX (ih f (.ptr (.ext 0) 0 :: vs.map .fv) ⟨[], MX s u r e⟩) w (MX s' u' r' e')) (k : IV → Hp → List Ref → List Ref → Option (IV × Hp)) :
    isoS (true :: ks) false false ih f (.ptr (.own mb) 0 :: args) ⟨own, []⟩ k = k (.fv w) ⟨putOwn mp (.map (rulesO mb)) (putOwn mb (.row [iv s', iv u', iv r', iv e', .mapr (.own mp)] false) own), []⟩ [.own mp, .own mb] [.own mb, .own mp] := by
  obtain ⟨v, own', e1, hfz⟩ := hr
  obtain ⟨uu, hu⟩ := ansx_frz hfz
  have hD : isoD (true :: ks) false false ih f (.ptr (.own mb) 0 :: args) ⟨own, []⟩ k = k (.fv w) ⟨putOwn mp (.map (rulesO mb)) (putOwn mb (.row [iv s', iv u', iv r', iv e', .mapr (.own mp)] false) own), []⟩ [.own mp, .own mb] [.own mb, .own mp] := by
    have h1 : frzArgs (true :: ks) (.ptr (.own mb) 0 :: args) = .ret (.ptr (.own mb) 0 :: vs.map .fv, [.own mb], []) := by
      simp only [frzArgs, frz_argsk args ks hks hz, Rd.bind, IV.refs]
      rfl
    have hn1 : ¬ (Ref.own mp = Ref.own mb) := by intro h; cases h; exact hne rfl
    have h2 : (gather 4096 [.own mb] []).runLog ⟨own, []⟩ [] = some ([(.own mb, .row [iv s, iv u, iv r, iv e, .mapr (.own mp)] false), (.own mp, .map (rulesO mb))], [.own mp, .own mb]) := by
      show (gather (4087 + 1 + 1 + 1 + 1 + 1 + 1 + 1 + 1 + 1) [.own mb] []).runLog ⟨own, []⟩ [] = _
      simp only [gather, hasRef, Bool.false_eq_true, if_false, Rd.runLog, Hp.get, hl1, hl2, Blk.refs, IV.refs.refsL, IV.refs, List.append_nil, List.nil_append, List.cons_append, List.map_cons, List.map_nil, hn1, decide_false, decide_true, Bool.or_false, Bool.true_or, if_true]
    have p1 : into [(.own mb, .row [iv s, iv u, iv r, iv e, .mapr (.own mp)] false), (.own mp, .map (rulesO mb))] (.own mb) = some (.ext 0) := by simp [into, placeOf]
    have p2 : into [(.own mb, .row [iv s, iv u, iv r, iv e, .mapr (.own mp)] false), (.own mp, .map (rulesO mb))] (.own mp) = some (.ext 1) := by simp [into, placeOf, hn1]
    have h3 : IV.ren.renL (into [(.own mb, .row [iv s, iv u, iv r, iv e, .mapr (.own mp)] false), (.own mp, .map (rulesO mb))]) (.ptr (.own mb) 0 :: vs.map .fv) = some (.ptr (.ext 0) 0 :: vs.map .fv) := by
      simp only [IV.ren.renL, IV.ren, p1, Option.map_some, Option.bind_some, renL_fv]
    have h4 : renBlks (into [(.own mb, .row [iv s, iv u, iv r, iv e, .mapr (.own mp)] false), (.own mp, .map (rulesO mb))]) [.row [iv s, iv u, iv r, iv e, .mapr (.own mp)] false, .map (rulesO mb)] = some (MX s u r e) := by
      simp only [renBlks, Blk.ren, IV.ren.renL, IV.ren, p1, p2, Option.map_some, Option.bind_some, List.map_cons, List.map_nil, List.zip_cons_cons, List.zip_nil_left]
    have h5 : renBlks (back [(.own mb, .row [iv s, iv u, iv r, iv e, .mapr (.own mp)] false), (.own mp, .map (rulesO mb))]) (MX s' u' r' e') = some [.row [iv s', iv u', iv r', iv e', .mapr (.own mp)] false, .map (rulesO mb)] := by
      simp only [renBlks, Blk.ren, IV.ren.renL, IV.ren, back, List.getElem?_cons_zero, List.getElem?_cons_succ, Option.map_some, Option.bind_some, List.map_cons, List.map_nil, List.zip_cons_cons, List.zip_nil_left]
    unfold isoD
    simp only [h1, Rd.runLog, h2, h3, List.map_cons, List.map_nil, h4, fL_eq (fV_eq 3), fL_eq fBk_eq, askedD, Bool.false_eq_true, if_false, e1, hu, Option.map_some, IV.ren, h5, List.length_cons, List.length_nil, keys, List.all_nil, and_self, if_true, List.nil_append, List.zip_cons_cons, List.zip_nil_left]
    have hl3 : lookupOwn mp (putOwn mb (.row [iv s', iv u', iv r', iv e', .mapr (.own mp)] false) own) = some (.map (rulesO mb)) := by
      rw [← hl2]
      clear hl1 hl2 h2 e1 hu hfz
      induction own with
      | nil => simp only [putOwn, lookupOwn, if_neg (fun h => hne (Eq.symm h))]
      | cons p l ih =>
        obtain ⟨j, c⟩ := p
        simp only [putOwn]
        split
        · rename_i h; subst h; simp only [lookupOwn, if_neg (fun h => hne (Eq.symm h))]
        · simp only [lookupOwn, ih]
    have h6 : laid ⟨own, []⟩ [(.own mb, .row [iv s', iv u', iv r', iv e', .mapr (.own mp)] false), (.own mp, .map (rulesO mb))] = some ⟨putOwn mp (.map (rulesO mb)) (putOwn mb (.row [iv s', iv u', iv r', iv e', .mapr (.own mp)] false) own), []⟩ := by
      simp only [laid, Hp.get, hl1, Hp.set, hl3]
    simp only [h6, fH_eq, fV_eq]
  rw [iso_e, fz1k, as_p, fza_k 0 args _ _ _ _ ks hks hz]
  simp only [isoC, goB_own, cond_false]
  exact hD
end Idl
end Go.Proofs.Ytkfecngimlcfoaa

namespace Go.Proofs.Ytkfecngimlcfoaa
namespace Idl
def knum (op : Int) : Int := if op = 8 ∨ op = 9 ∨ op = 12 ∨ op = 19 ∨ op = 30 then 1 else if op = 4 ∨ op = 5 then 2 else if op = 7 then 3 else if op = 13 then 4 else -1
theorem kids_ok {n : Nat} (hn : 0 < n) (op : Int) : Ans (SS dt n 93 [iv op] ⟨[], []⟩) (.int .i64 (knum op)) := by
  obtain ⟨n, rfl⟩ : ∃ k, n = k + 1 := ⟨n - 1, by omega⟩
  rw [c93]
  unfold knum
  by_cases h : op = 8 ∨ op = 9 ∨ op = 12 ∨ op = 19 ∨ op = 30
  · rw [if_pos h]
    rcases h with rfl | rfl | rfl | rfl | rfl <;> (simp only [S93_17, S93_18, S93_19, S93_20, S93_21, S93_22, S93, ↓XX, ↓reduceIte, Nat.reduceBEq, decide_true, decide_false, Bool.not_true, Bool.not_false, List.map_cons, List.map_nil, List.length_map, List.length_cons, List.length_nil, Nat.reduceAdd, Int.cast_ofNat_Int, Int.natCast_zero, Int.natCast_one, Bool.false_eq_true, Bool.true_eq_false, decide_eq_true_eq, eq_self, Int.reduceEq, Int.reduceLT, Int.reduceLE, Bool.and_true, Bool.true_and, Bool.and_false, Bool.false_and, Nat.zero_add]; exact ans_fv _ _)
  · rw [if_neg h]
    have h8 : ¬ op = 8 := fun e => h (by simp [e])
    have h9 : ¬ op = 9 := fun e => h (by simp [e])
    have h12 : ¬ op = 12 := fun e => h (by simp [e])
    have h19 : ¬ op = 19 := fun e => h (by simp [e])
    have h30 : ¬ op = 30 := fun e => h (by simp [e])
    by_cases h2 : op = 4 ∨ op = 5
    · rw [if_pos h2]
      rcases h2 with rfl | rfl <;> (simp only [S93_17, S93_18, S93_19, S93_20, S93_21, S93_22, S93, ↓XX, ↓reduceIte, Nat.reduceBEq, decide_true, decide_false, Bool.not_true, Bool.not_false, List.map_cons, List.map_nil, List.length_map, List.length_cons, List.length_nil, Nat.reduceAdd, Int.cast_ofNat_Int, Int.natCast_zero, Int.natCast_one, Bool.false_eq_true, Bool.true_eq_false, decide_eq_true_eq, eq_self, Int.reduceEq, Int.reduceLT, Int.reduceLE, Bool.and_true, Bool.true_and, Bool.and_false, Bool.false_and, Nat.zero_add]; exact ans_fv _ _)
    · rw [if_neg h2]
      have h4 : ¬ op = 4 := fun e => h2 (by simp [e])
      have h5 : ¬ op = 5 := fun e => h2 (by simp [e])
      by_cases h7 : op = 7
      · subst h7; simp only [S93_17, S93_18, S93_19, S93_20, S93_21, S93_22, S93, ↓XX, ↓reduceIte, Nat.reduceBEq, decide_true, decide_false, Bool.not_true, Bool.not_false, List.map_cons, List.map_nil, List.length_map, List.length_cons, List.length_nil, Nat.reduceAdd, Int.cast_ofNat_Int, Int.natCast_zero, Int.natCast_one, Bool.false_eq_true, Bool.true_eq_false, decide_eq_true_eq, eq_self, Int.reduceEq, Int.reduceLT, Int.reduceLE, Bool.and_true, Bool.true_and, Bool.and_false, Bool.false_and, Nat.zero_add]; exact ans_fv _ _
      · by_cases h13 : op = 13
        · subst h13; simp only [S93_17, S93_18, S93_19, S93_20, S93_21, S93_22, S93, ↓XX, ↓reduceIte, Nat.reduceBEq, decide_true, decide_false, Bool.not_true, Bool.not_false, List.map_cons, List.map_nil, List.length_map, List.length_cons, List.length_nil, Nat.reduceAdd, Int.cast_ofNat_Int, Int.natCast_zero, Int.natCast_one, Bool.false_eq_true, Bool.true_eq_false, decide_eq_true_eq, eq_self, Int.reduceEq, Int.reduceLT, Int.reduceLE, Bool.and_true, Bool.true_and, Bool.and_false, Bool.false_and, Nat.zero_add]; exact ans_fv _ _
        · simp only [S93_17, S93_18, S93_19, S93_20, S93_21, S93_22, S93, ↓XX, ↓reduceIte, Nat.reduceBEq, decide_true, decide_false, Bool.not_true, Bool.not_false, List.map_cons, List.map_nil, List.length_map, List.length_cons, List.length_nil, Nat.reduceAdd, Int.cast_ofNat_Int, Int.natCast_zero, Int.natCast_one, Bool.false_eq_true, Bool.true_eq_false, decide_eq_true_eq, eq_self, Int.reduceEq, Int.reduceLT, Int.reduceLE, Bool.and_true, Bool.true_and, Bool.and_false, Bool.false_and, Nat.zero_add, h4, h5, h7, h8, h9, h12, h13, h19, h30]; exact ans_fv _ _
mutual
def Tm.shaped : Tm → Bool
  | .mk op n ks => !(decide (0 ≤ knum op ∧ knum op ≠ ks.length) || decide (op = 1 ∧ n < 0)) && Tm.shapedL ks
def Tm.shapedL : List Tm → Bool
  | [] => true
  | t :: l => t.shaped && Tm.shapedL l
end
set_option maxHeartbeats 1000000 in
theorem shaped_ok : ∀ (n : Nat) (t : Tm), t.wt + 1 < n → t.wt ≤ 1152921504606846976 → Ans (SS dt n 69 [.fv t.enc] ⟨[], []⟩) (.bool t.shaped) := by
  intro n
  induction n with
  | zero => intro t h; omega
  | succ n ih =>
    intro t h hw
    obtain ⟨op, m, ks⟩ := t
    simp only [Tm.wt] at h hw
    rw [c69, enc_mk]
    have hlen := wt_len ks
    have hk := kids_ok (n := n) (by omega) op
    rw [Tm.shaped]
    have wl : ∀ j : Nat, j ≤ ks.length → w64 (j : Int) = j := fun j hj => w64_id (by omega) (by omega)
    -- the loop
    have loop : Ans (loopS n (fun q99 l100 h101 => S69_132 l100 h101 (SS dt n) ⟨[], []⟩ q99) [.fv (.sl (ks.map Tm.enc)), iv ks.length, iv 0] ⟨[(72351744, .row [iv op, iv m, .fv (.sl (ks.map Tm.enc))] false)], []⟩) (.bool (Tm.shapedL ks)) := by
      refine loop_run (Q := fun r => Ans r _) (fun k V H => ∃ pre rest, ks = pre ++ rest ∧ rest.length = k ∧ V = [.fv (.sl (ks.map Tm.enc)), iv ks.length, iv pre.length] ∧ H = ⟨[(72351744, .row [iv op, iv m, .fv (.sl (ks.map Tm.enc))] false)], []⟩ ∧ Tm.shapedL rest = Tm.shapedL ks)
        ?_ n ks.length _ _ (by omega) ⟨[], ks, rfl, rfl, rfl, rfl, rfl⟩
      rintro k V H rec ⟨pre, rest, hk, hl, rfl, rfl, ht⟩ hrec
      have hkl : ks.length = pre.length + rest.length := by rw [hk]; simp
      cases rest with
      | nil =>
        have hno : ¬ ((pre.length : Int) < ks.length) := by rw [hkl]; simp
        rw [← ht]
        simp only [S69_129, S69_130, S69_131, S69_132, S69_133, S69_134, S69_135, S69_136, S69, ↓XX, ↓reduceIte, Nat.reduceBEq, decide_true, decide_false, Bool.not_true, Bool.not_false, List.map_cons, List.map_nil, List.length_map, List.length_cons, List.length_nil, Nat.reduceAdd, Int.cast_ofNat_Int, Int.natCast_zero, Int.natCast_one, Bool.false_eq_true, Bool.true_eq_false, decide_eq_true_eq, eq_self, Int.reduceEq, Int.reduceLT, Int.reduceLE, Bool.and_true, Bool.true_and, Bool.and_false, Bool.false_and, Nat.zero_add, hno, Tm.shapedL]
        exact ans_fv _ _
      | cons t rest =>
        have hi : (pre.length : Int) < ks.length := by rw [hkl]; simp; omega
        have hg := at_pre hk
        have htw := wt_mem (t := t) (l := ks) (by rw [hk]; simp)
        have hs := ih t (by omega) (by omega)
        have hwi : w64 ((pre.length : Int) + 1) = ((pre ++ [t]).length : Int) := (w64_id (by omega) (by omega)).trans (by simp)
        simp only [Tm.shapedL] at ht
        generalize t.shaped = v at hs ht
        obtain ⟨o, p, l⟩ := t
        simp only [List.length_cons] at hl
        rw [enc_mk] at hs
        cases v
        · rw [← ht]
          simp only [S69_129, S69_130, S69_131, S69_132, S69_133, S69_134, S69_135, S69_136, S69, ↓XX, ↓reduceIte, Nat.reduceBEq, decide_true, decide_false, Bool.not_true, Bool.not_false, List.map_cons, List.map_nil, List.length_map, List.length_cons, List.length_nil, Nat.reduceAdd, Int.cast_ofNat_Int, Int.natCast_zero, Int.natCast_one, Bool.false_eq_true, Bool.true_eq_false, decide_eq_true_eq, eq_self, Int.reduceEq, Int.reduceLT, Int.reduceLE, Bool.and_true, Bool.true_and, Bool.and_false, Bool.false_and, Nat.zero_add, hi, ↓ix_f (map_get hg) (agg3l _ _ _), ↓agg3, hwi, ↓iso_1 hs, Bool.false_and]
          exact ans_fv _ _
        · simp only [S69_129, S69_130, S69_131, S69_132, S69_133, S69_134, S69_135, S69_136, S69, ↓XX, ↓reduceIte, Nat.reduceBEq, decide_true, decide_false, Bool.not_true, Bool.not_false, List.map_cons, List.map_nil, List.length_map, List.length_cons, List.length_nil, Nat.reduceAdd, Int.cast_ofNat_Int, Int.natCast_zero, Int.natCast_one, Bool.false_eq_true, Bool.true_eq_false, decide_eq_true_eq, eq_self, Int.reduceEq, Int.reduceLT, Int.reduceLE, Bool.and_true, Bool.true_and, Bool.and_false, Bool.false_and, Nat.zero_add, hi, ↓ix_f (map_get hg) (agg3l _ _ _), ↓agg3, hwi, ↓iso_1 hs, ↓drop_e, XD, heldB, flatD, List.any_cons, List.any_nil, List.all_cons, List.all_nil, List.filter_cons, List.filter_nil, List.contains_cons, List.contains_nil, Bool.or_false, Bool.or_true, Bool.false_or, Bool.true_or, Bool.and_self, Bool.not_eq_true, BEq.rfl, beq_self_eq_true]
          refine hrec rest.length _ _ (by omega) ?_
          exact ⟨pre ++ [.mk o p l], rest, by rw [hk]; simp, rfl, rfl, rfl, by simpa using ht⟩
    by_cases h0 : 0 ≤ knum op
    · by_cases h1 : knum op = ks.length
      · by_cases h2 : op = 1
        · exfalso; subst h2; revert h0; decide
        · have e1 : (!(decide (0 ≤ knum op ∧ knum op ≠ ks.length) || decide (op = 1 ∧ m < 0)) && Tm.shapedL ks) = Tm.shapedL ks := by simp [h1, h2]
          rw [e1]
          have h0' : (0 : Int) ≤ ks.length := by omega
          rw [h1] at hk
          simp only [S69_129, S69_130, S69_131, S69_133, S69_134, S69_135, S69_136, S69, ↓XX, ↓reduceIte, Nat.reduceBEq, decide_true, decide_false, Bool.not_true, Bool.not_false, List.map_cons, List.map_nil, List.length_map, List.length_cons, List.length_nil, Nat.reduceAdd, Int.cast_ofNat_Int, Int.natCast_zero, Int.natCast_one, Bool.false_eq_true, Bool.true_eq_false, decide_eq_true_eq, eq_self, Int.reduceEq, Int.reduceLT, Int.reduceLE, Bool.and_true, Bool.true_and, Bool.and_false, Bool.false_and, Nat.zero_add, ↓iso_1 hk, h0', h2, ↓drop_e, XD, heldB, flatD, List.any_cons, List.any_nil, List.all_cons, List.all_nil, List.filter_cons, List.filter_nil, List.contains_cons, List.contains_nil, Bool.or_false, Bool.or_true, Bool.false_or, Bool.true_or, Bool.and_self, Bool.not_eq_true, BEq.rfl, beq_self_eq_true]
          exact loop
      · have e1 : (!(decide (0 ≤ knum op ∧ knum op ≠ ks.length) || decide (op = 1 ∧ m < 0)) && Tm.shapedL ks) = false := by simp [h0, h1]
        rw [e1]
        simp only [S69_129, S69_130, S69_131, S69_133, S69_134, S69_135, S69_136, S69, ↓XX, ↓reduceIte, Nat.reduceBEq, decide_true, decide_false, Bool.not_true, Bool.not_false, List.map_cons, List.map_nil, List.length_map, List.length_cons, List.length_nil, Nat.reduceAdd, Int.cast_ofNat_Int, Int.natCast_zero, Int.natCast_one, Bool.false_eq_true, Bool.true_eq_false, decide_eq_true_eq, eq_self, Int.reduceEq, Int.reduceLT, Int.reduceLE, Bool.and_true, Bool.true_and, Bool.and_false, Bool.false_and, Nat.zero_add, ↓iso_1 hk, h0, h1]
        exact ans_fv _ _
    · by_cases h2 : op = 1
      · subst h2
        by_cases h3 : m < 0
        · have e1 : (!(decide (0 ≤ knum 1 ∧ knum 1 ≠ ks.length) || decide ((1 : Int) = 1 ∧ m < 0)) && Tm.shapedL ks) = false := by simp [h3]
          rw [e1]
          simp only [S69_129, S69_130, S69_131, S69_133, S69_134, S69_135, S69_136, S69, ↓XX, ↓reduceIte, Nat.reduceBEq, decide_true, decide_false, Bool.not_true, Bool.not_false, List.map_cons, List.map_nil, List.length_map, List.length_cons, List.length_nil, Nat.reduceAdd, Int.cast_ofNat_Int, Int.natCast_zero, Int.natCast_one, Bool.false_eq_true, Bool.true_eq_false, decide_eq_true_eq, eq_self, Int.reduceEq, Int.reduceLT, Int.reduceLE, Bool.and_true, Bool.true_and, Bool.and_false, Bool.false_and, Nat.zero_add, ↓iso_1 hk, h0, h3]
          exact ans_fv _ _
        · have e1 : (!(decide (0 ≤ knum 1 ∧ knum 1 ≠ ks.length) || decide ((1 : Int) = 1 ∧ m < 0)) && Tm.shapedL ks) = Tm.shapedL ks := by simp [h0, h3]
          rw [e1]
          simp only [S69_129, S69_130, S69_131, S69_133, S69_134, S69_135, S69_136, S69, ↓XX, ↓reduceIte, Nat.reduceBEq, decide_true, decide_false, Bool.not_true, Bool.not_false, List.map_cons, List.map_nil, List.length_map, List.length_cons, List.length_nil, Nat.reduceAdd, Int.cast_ofNat_Int, Int.natCast_zero, Int.natCast_one, Bool.false_eq_true, Bool.true_eq_false, decide_eq_true_eq, eq_self, Int.reduceEq, Int.reduceLT, Int.reduceLE, Bool.and_true, Bool.true_and, Bool.and_false, Bool.false_and, Nat.zero_add, ↓iso_1 hk, h0, h3, ↓drop_e, XD, heldB, flatD, List.any_cons, List.any_nil, List.all_cons, List.all_nil, List.filter_cons, List.filter_nil, List.contains_cons, List.contains_nil, Bool.or_false, Bool.or_true, Bool.false_or, Bool.true_or, Bool.and_self, Bool.not_eq_true, BEq.rfl, beq_self_eq_true]
          exact loop
      · have e1 : (!(decide (0 ≤ knum op ∧ knum op ≠ ks.length) || decide (op = 1 ∧ m < 0)) && Tm.shapedL ks) = Tm.shapedL ks := by simp [h0, h2]
        rw [e1]
        simp only [S69_129, S69_130, S69_131, S69_133, S69_134, S69_135, S69_136, S69, ↓XX, ↓reduceIte, Nat.reduceBEq, decide_true, decide_false, Bool.not_true, Bool.not_false, List.map_cons, List.map_nil, List.length_map, List.length_cons, List.length_nil, Nat.reduceAdd, Int.cast_ofNat_Int, Int.natCast_zero, Int.natCast_one, Bool.false_eq_true, Bool.true_eq_false, decide_eq_true_eq, eq_self, Int.reduceEq, Int.reduceLT, Int.reduceLE, Bool.and_true, Bool.true_and, Bool.and_false, Bool.false_and, Nat.zero_add, ↓iso_1 hk, h0, h2, ↓drop_e, XD, heldB, flatD, List.any_cons, List.any_nil, List.all_cons, List.all_nil, List.filter_cons, List.filter_nil, List.contains_cons, List.contains_nil, Bool.or_false, Bool.or_true, Bool.false_or, Bool.true_or, Bool.and_self, Bool.not_eq_true, BEq.rfl, beq_self_eq_true]
        exact loop
end Idl
end Go.Proofs.Ytkfecngimlcfoaa

namespace Go.Proofs.Ytkfecngimlcfoaa
namespace Idl
def normP (f : Nat) (t : Tm) : Option (Tm × Int) :=
  if t.shaped = false then some (.z, 1) else match evP f [] t ⟨100000, 5000000, 0⟩ with
  | none => none
  | some (v, m) => if m.e ≠ 0 then some (.z, m.e) else match bkP f v 0 1 m 0 with
    | none => none
    | some (u, m, _) => if m.e ≠ 0 then some (.z, m.e) else some (u, 0)
theorem inl_e {ih : Handler} {f : FuncId} {args : List IV} {h h' : Hp} {v : IV} (hr : ih f args h = some (v, h')) (k : IV → Hp → List Ref → List Ref → Option (IV × Hp)) : inlS ih f args h k = k v h' [] [] := by
  unfold inlS
  rw [hr]
noncomputable abbrev Hnm (a b : Blk) (s u r e : Int) : Hp :=
  ⟨[(42991616, a), (42991617, b), (73401345, .row [iv s, iv u, iv r, iv e, .mapr (.own 73402369)] false), (73402369, .map (rulesO 73401345))], []⟩
noncomputable abbrev Hbg (a b : Blk) (es : List (Int × IV)) : Hp :=
  ⟨[(42991616, a), (42991617, b), (73401345, .row [iv 100000, iv 5000000, iv 0, iv 0, .dead] false), (73402369, .map es)], []⟩
noncomputable abbrev fnO (g : FuncId) : IV := .func (.func g) [.ptr (.own 73401345) 0] []
theorem ins_b (a b : Blk) (es : List (Int × IV)) (g : FuncId) (n : Int) (s : Nat) (k : IV → Hp → List Ref → List Ref → Option (IV × Hp)) :
    genS (pcInsert EE 98 (.mapr (.own 73402369)) (iv n) (ruleO 73401345 g)) s (Hbg a b es) k = k .dead (Hbg a b (putMap n (ruleO 73401345 g) es)) [.own 73402369] [.own 73402369] := by
  rw [ins_e _ 0 _ rfl, ownK_eq]
  rw [show lookupOwn 73402369 (Hbg a b es).own = some (.map es) from rfl, Option.bind_some, as_map, putOwnK_eq]
  rfl
theorem bld_b (g : FuncId) (k : IV → Option (IV × Hp)) : bldS [.fv .nilf] [(0, 1, fnO g)] k = k (ruleO 73401345 g) := rfl
theorem begun_69 (a b : Blk) (es : List (Int × IV)) : S70_69 (.ptr (.own 73401345) 0) (Hbg a b es) (.mapr (.own 73402369)) = some (.ptr (.own 73401345) 0, ⟨[(42991616, a), (42991617, b), (73401345, .row [iv 100000, iv 5000000, iv 0, iv 0, .mapr (.own 73402369)] false), (73402369, .map es)], []⟩) := by
  simp only [S70_69, ↓XX, ↓reduceIte, Nat.reduceBEq, decide_true, decide_false, Bool.not_true, Bool.not_false, List.map_cons, List.map_nil, List.length_map, List.length_cons, List.length_nil, Nat.reduceAdd, Int.cast_ofNat_Int, Int.natCast_zero, Int.natCast_one, Bool.false_eq_true, Bool.true_eq_false, decide_eq_true_eq, eq_self, Int.reduceEq, Int.reduceLT, Int.reduceLE, Bool.and_true, Bool.true_and, Bool.and_false, Bool.false_and, Nat.zero_add, ↓on_mapr, ↓of4]
theorem gen_fn (g : FuncId) (s : Nat) (h : Hp) (k : IV → Hp → List Ref → List Ref → Option (IV × Hp)) : genS (Idl.val (mkFunc (.func g) [.ptr (.own 73401345) 0] [])) s h k = k (fnO g) h [] [] := gen_val' _ _ _ _
theorem begun_70 (a b : Blk) (es : List (Int × IV)) : S70_70 (fnO 97) (Hbg a b es) (.mapr (.own 73402369)) (.ptr (.own 73401345) 0) =
    S70_69 (.ptr (.own 73401345) 0) (Hbg a b (putMap 19 (ruleO 73401345 98) (putMap 30 (ruleO 73401345 97) es))) (.mapr (.own 73402369)) := by
  unfold S70_70
  rw [bld_b, ins_b, gen_fn, bld_b, ins_b]
theorem begun_71 (a b : Blk) (es : List (Int × IV)) : S70_71 (Hbg a b es) (.mapr (.own 73402369)) (ruleO 73401345 95) (.ptr (.own 73401345) 0) =
    S70_70 (fnO 97) (Hbg a b (putMap 13 (ruleO 73401345 96) (putMap 9 (ruleO 73401345 95) es))) (.mapr (.own 73402369)) (.ptr (.own 73401345) 0) := by
  unfold S70_71
  rw [ins_b, gen_fn, bld_b, ins_b, gen_fn]
theorem begun_72 (a b : Blk) (es : List (Int × IV)) : S70_72 (Hbg a b es) (.ptr (.own 73401345) 0) (.mapr (.own 73402369)) =
    S70_71 (Hbg a b (putMap 8 (ruleO 73401345 95) es)) (.mapr (.own 73402369)) (ruleO 73401345 95) (.ptr (.own 73401345) 0) := by
  unfold S70_72
  rw [gen_fn, bld_b, ins_b, gen_fn, bld_b]
theorem bld_m (k : IV → Option (IV × Hp)) : bldS [.fv (.int .i64 0), .fv (.int .i64 0), .fv (.int .i64 0), .fv (.int .i64 0), .dead] [(0, 1, .fv (.int .i64 100000)), (1, 1, .fv (.int .i64 5000000))] k = k (.agg [iv 100000, iv 5000000, iv 0, iv 0, .dead]) := by
  simp only [↓XX, ↓reduceIte, Nat.reduceBEq, decide_true, decide_false, Bool.not_true, Bool.not_false, List.map_cons, List.map_nil, List.length_map, List.length_cons, List.length_nil, Nat.reduceAdd, Int.cast_ofNat_Int, Int.natCast_zero, Int.natCast_one, Bool.false_eq_true, Bool.true_eq_false, decide_eq_true_eq, eq_self, Int.reduceEq, Int.reduceLT, Int.reduceLE, Bool.and_true, Bool.true_and, Bool.and_false, Bool.false_and, Nat.zero_add, ↓alv_dead]
theorem begun_e {n : Nat} (hn : 0 < n) (a b : Blk) : SS dt n 70 [] ⟨[(42991616, a), (42991617, b)], []⟩ = some (.ptr (.own 73401345) 0, Hnm a b 100000 5000000 0 0) := by
  obtain ⟨n, rfl⟩ : ∃ k, n = k + 1 := ⟨n - 1, by omega⟩
  rw [c70]
  unfold S70
  rw [bld_m, box_agg']
  have e1 : ∀ k : IV → Hp → List Ref → List Ref → Option (IV × Hp), newS 73401345 (.row [iv 100000, iv 5000000, iv 0, iv 0, .dead] false) (.ptr (.own 73401345) 0) ⟨[(42991616, a), (42991617, b)], []⟩ k =
      k (.ptr (.own 73401345) 0) ⟨[(42991616, a), (42991617, b), (73401345, .row [iv 100000, iv 5000000, iv 0, iv 0, .dead] false)], []⟩ [] [.own 73401345] := by
    intro k
    simp only [↓XX, ↓reduceIte, Nat.reduceBEq, decide_true, decide_false, Bool.not_true, Bool.not_false, List.map_cons, List.map_nil, List.length_map, List.length_cons, List.length_nil, Nat.reduceAdd, Int.cast_ofNat_Int, Int.natCast_zero, Int.natCast_one, Bool.false_eq_true, Bool.true_eq_false, decide_eq_true_eq, eq_self, Int.reduceEq, Int.reduceLT, Int.reduceLE, Bool.and_true, Bool.true_and, Bool.and_false, Bool.false_and, Nat.zero_add]
  rw [e1]
  have e2 : ∀ k : IV → Hp → List Ref → List Ref → Option (IV × Hp), genS (pcMakeMap 73402369) 73402369 ⟨[(42991616, a), (42991617, b), (73401345, .row [iv 100000, iv 5000000, iv 0, iv 0, .dead] false)], []⟩ k =
      k (.mapr (.own 73402369)) (Hbg a b []) [] [.own 73402369] := by
    intro k
    rw [mk_m]
    simp only [↓XX, ↓reduceIte, Nat.reduceBEq, decide_true, decide_false, Bool.not_true, Bool.not_false, List.map_cons, List.map_nil, List.length_map, List.length_cons, List.length_nil, Nat.reduceAdd, Int.cast_ofNat_Int, Int.natCast_zero, Int.natCast_one, Bool.false_eq_true, Bool.true_eq_false, decide_eq_true_eq, eq_self, Int.reduceEq, Int.reduceLT, Int.reduceLE, Bool.and_true, Bool.true_and, Bool.and_false, Bool.false_and, Nat.zero_add]
  rw [e2, gen_fn, bld_b, ins_b, begun_72, begun_71, begun_70, begun_69]
  rfl
section
variable {ih : Handler} {f : FuncId} {w : FV} {a b : Blk} {s u r e s' u' r' e' : Int} (k : IV → Hp → List Ref → List Ref → Option (IV × Hp))
theorem iso_n (args : List IV) (ks : List Bool) (hks : ∀ b ∈ ks, b = false) {vs : List FV} (hz : frzPL args = some vs) (hr : AnsX (ih f (.ptr (.ext 0) 0 :: vs.map .fv) ⟨[], MX s u r e⟩) w (MX s' u' r' e')) :
    isoS (true :: ks) false false ih f (.ptr (.own 73401345) 0 :: args) (Hnm a b s u r e) k = k (.fv w) (Hnm a b s' u' r' e') [.own 73402369, .own 73401345] [.own 73401345, .own 73402369] := by
  rw [iso_om hks hz (mp := 73402369) (by decide) (by rfl) (by rfl) hr]
  rfl
theorem iso_n3 {x y : IV} {vx vy : FV} (hr : AnsX (ih f [.ptr (.ext 0) 0, .fv vx, .fv vy] ⟨[], MX s u r e⟩) w (MX s' u' r' e')) (hx : frzP x = some vx) (hy : frzP y = some vy) :
    isoS [true, false, false] false false ih f [.ptr (.own 73401345) 0, x, y] (Hnm a b s u r e) k = k (.fv w) (Hnm a b s' u' r' e') [.own 73402369, .own 73401345] [.own 73401345, .own 73402369] :=
  iso_n k [x, y] [false, false] (by simp) (zl_2 hx hy) hr
theorem iso_n4 {x y z : IV} {vx vy vz : FV} (hr : AnsX (ih f [.ptr (.ext 0) 0, .fv vx, .fv vy, .fv vz] ⟨[], MX s u r e⟩) w (MX s' u' r' e')) (hx : frzP x = some vx) (hy : frzP y = some vy) (hz : frzP z = some vz) :
    isoS [true, false, false, false] false false ih f [.ptr (.own 73401345) 0, x, y, z] (Hnm a b s u r e) k = k (.fv w) (Hnm a b s' u' r' e') [.own 73402369, .own 73401345] [.own 73401345, .own 73402369] :=
  iso_n k [x, y, z] [false, false, false] (by simp) (zl_3 hx hy hz) hr
end
set_option maxRecDepth 20000 in
set_option maxHeartbeats 1000000 in
theorem normP_ok {f n : Nat} {t u : Tm} {e : Int} (h : normP f t = some (u, e)) (hn : f + 3 ≤ n) (hw : t.wt + 3 < n) (hw2 : t.wt ≤ 1152921504606846976) : Ans (SS dt n 41 [.fv t.enc] ⟨[], []⟩) (.tuple [u.enc, .int .i64 e]) := by
  obtain ⟨n, rfl⟩ : ∃ k, n = k + 1 := ⟨n - 1, by omega⟩
  rw [c41]
  have hs := shaped_ok n t (by omega) hw2
  unfold normP at h
  obtain ⟨op, m, ks⟩ := t
  rw [enc_mk] at hs ⊢
  by_cases h0 : (Tm.mk op m ks).shaped = false
  · rw [if_pos h0] at h
    simp only [Option.some.injEq, Prod.mk.injEq] at h
    obtain ⟨rfl, rfl⟩ := h
    rw [h0] at hs
    simp only [S41_77, S41_78, S41_79, S41_80, S41_81, S41_82, S41_83, S41_84, S41_85, S41_86, S41, ↓XX, ↓reduceIte, Nat.reduceBEq, decide_true, decide_false, Bool.not_true, Bool.not_false, List.map_cons, List.map_nil, List.length_map, List.length_cons, List.length_nil, Nat.reduceAdd, Int.cast_ofNat_Int, Int.natCast_zero, Int.natCast_one, Bool.false_eq_true, Bool.true_eq_false, decide_eq_true_eq, eq_self, Int.reduceEq, Int.reduceLT, Int.reduceLE, Bool.and_true, Bool.true_and, Bool.and_false, Bool.false_and, Nat.zero_add, ↓iso_1 hs]
    exact ans_t rfl (by simp) _
  · rw [if_neg h0] at h
    have h0 : (Tm.mk op m ks).shaped = true := by simpa using h0
    rw [h0] at hs
    cases hev : evP f [] (.mk op m ks) ⟨100000, 5000000, 0⟩ with
    | none => rw [hev] at h; cases h
    | some q =>
      obtain ⟨v, m1⟩ := q
      rw [hev] at h
      simp only at h
      have hc1 := (mx_ok f).1 _ _ _ _ _ hev 0 n (by omega)
      rw [enc_mk, penv_nil] at hc1
      by_cases h1 : m1.e = 0
      · rw [if_neg (by simpa using h1)] at h
        simp only [h1] at hc1
        cases hbk : bkP f v 0 1 m1 0 with
        | none => rw [hbk] at h; cases h
        | some q =>
          obtain ⟨u1, m2, r2⟩ := q
          rw [hbk] at h
          simp only at h
          have hc2 := bk_ok f _ _ _ _ _ _ _ _ hbk n (by omega)
          obtain ⟨o1, n1, k1⟩ := u1
          rw [enc_mk] at hc2
          simp only [h1] at hc2
          by_cases h2 : m2.e = 0
          · rw [if_neg (by simpa using h2)] at h
            simp only [Option.some.injEq, Prod.mk.injEq] at h
            obtain ⟨rfl, rfl⟩ := h
            rw [enc_mk]
            simp only [S41_77, S41_78, S41_79, S41_80, S41_81, S41_82, S41_83, S41_84, S41_85, S41_86, S41, ↓XX, ↓reduceIte, Nat.reduceBEq, decide_true, decide_false, Bool.not_true, Bool.not_false, List.map_cons, List.map_nil, List.length_map, List.length_cons, List.length_nil, Nat.reduceAdd, Int.cast_ofNat_Int, Int.natCast_zero, Int.natCast_one, Bool.false_eq_true, Bool.true_eq_false, decide_eq_true_eq, eq_self, Int.reduceEq, Int.reduceLT, Int.reduceLE, Bool.and_true, Bool.true_and, Bool.and_false, Bool.false_and, Nat.zero_add, ↓iso_1 hs, ↓inl_e (begun_e (n := n) (by omega) _ _), ↓iso_n3 _ hc1, ↓iso_n4 _ hc2, h1, h2]
            exact ans_fv _ _
          · rw [if_pos h2] at h
            simp only [Option.some.injEq, Prod.mk.injEq] at h
            obtain ⟨rfl, rfl⟩ := h
            simp only [S41_77, S41_78, S41_79, S41_80, S41_81, S41_82, S41_83, S41_84, S41_85, S41_86, S41, ↓XX, ↓reduceIte, Nat.reduceBEq, decide_true, decide_false, Bool.not_true, Bool.not_false, List.map_cons, List.map_nil, List.length_map, List.length_cons, List.length_nil, Nat.reduceAdd, Int.cast_ofNat_Int, Int.natCast_zero, Int.natCast_one, Bool.false_eq_true, Bool.true_eq_false, decide_eq_true_eq, eq_self, Int.reduceEq, Int.reduceLT, Int.reduceLE, Bool.and_true, Bool.true_and, Bool.and_false, Bool.false_and, Nat.zero_add, ↓iso_1 hs, ↓inl_e (begun_e (n := n) (by omega) _ _), ↓iso_n3 _ hc1, ↓iso_n4 _ hc2, h1, h2]
            exact ans_t rfl (by simp) _
      · rw [if_pos h1] at h
        simp only [Option.some.injEq, Prod.mk.injEq] at h
        obtain ⟨rfl, rfl⟩ := h
        simp only [S41_77, S41_78, S41_79, S41_80, S41_81, S41_82, S41_83, S41_84, S41_85, S41_86, S41, ↓XX, ↓reduceIte, Nat.reduceBEq, decide_true, decide_false, Bool.not_true, Bool.not_false, List.map_cons, List.map_nil, List.length_map, List.length_cons, List.length_nil, Nat.reduceAdd, Int.cast_ofNat_Int, Int.natCast_zero, Int.natCast_one, Bool.false_eq_true, Bool.true_eq_false, decide_eq_true_eq, eq_self, Int.reduceEq, Int.reduceLT, Int.reduceLE, Bool.and_true, Bool.true_and, Bool.and_false, Bool.false_and, Nat.zero_add, ↓iso_1 hs, ↓inl_e (begun_e (n := n) (by omega) _ _), ↓iso_n3 _ hc1, h1]
        exact ans_t rfl (by simp) _
end Idl
end Go.Proofs.Ytkfecngimlcfoaa

namespace Go.Proofs.Ytkfecngimlcfoaa
namespace Idl
theorem gb1 (a : FV) : goB 400 [.ext 0] 0 [.row [.fv a] false] = true := goB_one [a]
theorem ob1 (a : FV) : okB 1 [.row [.fv a] false] = true := okB_one [a]
theorem onex1 (a a' : FV) : OneX [.row [.fv a] false] [.row [.fv a'] false] := ⟨gb1 .., rfl, rfl, ob1 ..⟩
theorem iso_mm {ks : List Bool} (hks : ∀ b ∈ ks, b = false) {ih : Handler} {f : FuncId} {a0 : IV} {x0 : FV} {args : List IV} {vs : List FV} {w : FV} {ext ext' : List Blk} (h0 : frzP a0 = some x0) (hz : frzPL args = some vs) (X : OneX ext ext') (hr : AnsX (ih f (.fv x0 :: .ptr (.ext 0) 0 :: vs.map .fv) ⟨[], ext⟩) w ext')
    (own : List (Nat × Blk)) (k : IV → Hp → List Ref → List Ref → Option (IV × Hp)) : isoS (false :: true :: ks) false false ih f (a0 :: .ptr (.ext 0) 0 :: args) ⟨own, ext⟩ k = k (.fv w) ⟨own, ext'⟩ [.ext 0] [.ext 0] := by
  rw [iso_e, fz1f, fzp_u _ _ _ _ h0, fz1k, as_p, fza_k 0 args _ _ _ _ ks hks hz]
  have := iso_cx (r1 := .ext 0) (rs1 := []) hr X.g (by rw [X.l, X.l']) (by rw [X.l]; exact X.o) own (ih f (.fv x0 :: .ptr (.ext 0) 0 :: vs.map .fv) ⟨[], []⟩) [] [] (isoD (false :: true :: ks) false false ih f (a0 :: .ptr (.ext 0) 0 :: args) ⟨own, ext⟩ k) k
  refine this.trans ?_
  rw [X.l]
  rfl
theorem iso_mm3 {ih : Handler} {f : FuncId} {a b : IV} {x y w : FV} {ext ext' : List Blk} (hr : AnsX (ih f [.fv x, .ptr (.ext 0) 0, .fv y] ⟨[], ext⟩) w ext') (X : OneX ext ext') (ha : frzP a = some x) (hb : frzP b = some y) (own : List (Nat × Blk))
    (k : IV → Hp → List Ref → List Ref → Option (IV × Hp)) : isoS [false, true, false] false false ih f [a, .ptr (.ext 0) 0, b] ⟨own, ext⟩ k = k (.fv w) ⟨own, ext'⟩ [.ext 0] [.ext 0] := iso_mm (ks := [false]) (by simp) ha (zl_1 hb) X hr own k
theorem iso_oo {ks : List Bool} (hks : ∀ b ∈ ks, b = false) {ih : Handler} {f : FuncId} {a0 : IV} {x0 : FV} {args : List IV} {vs : List FV} {w : FV} {s : Nat} {st st' : List FV} {own : List (Nat × Blk)} (h0 : frzP a0 = some x0) (hz : frzPL args = some vs) (hl : lookupOwn s own = some (.row (st.map .fv) false))
    (hr : AnsX (ih f (.fv x0 :: .ptr (.ext 0) 0 :: vs.map .fv) ⟨[], [.row (st.map .fv) false]⟩) w [.row (st'.map .fv) false]) (k : IV → Hp → List Ref → List Ref → Option (IV × Hp)) :
    isoS (false :: true :: ks) false false ih f (a0 :: .ptr (.own s) 0 :: args) ⟨own, []⟩ k = k (.fv w) ⟨putOwn s (.row (st'.map .fv) false) own, []⟩ [.own s] [.own s] := by
  obtain ⟨v, own', e1, hfz⟩ := hr
  obtain ⟨u, hu⟩ := ansx_frz hfz
  have hD : isoD (false :: true :: ks) false false ih f (a0 :: .ptr (.own s) 0 :: args) ⟨own, []⟩ k = k (.fv w) ⟨putOwn s (.row (st'.map .fv) false) own, []⟩ [.own s] [.own s] := by
    have h1 : frzArgs (false :: true :: ks) (a0 :: .ptr (.own s) 0 :: args) = .ret (.fv x0 :: .ptr (.own s) 0 :: vs.map .fv, [.own s], []) := by
      simp only [frzArgs, frp 4096 (by omega) h0, frz_argsk args ks hks hz, Rd.bind, IV.refs]
      rfl
    have h2 : (gather 4096 [.own s] []).runLog ⟨own, []⟩ [] = some ([(.own s, .row (st.map .fv) false)], [.own s]) := by
      show (gather (4094 + 1 + 1) [.own s] []).runLog ⟨own, []⟩ [] = _
      simp only [gather, hasRef, Bool.false_eq_true, if_false, Rd.runLog, Hp.get, hl, Blk.refs, refsL_fv, List.append_nil, List.nil_append]
    have h3 : IV.ren.renL (into [(.own s, .row (st.map .fv) false)]) (.fv x0 :: .ptr (.own s) 0 :: vs.map .fv) = some (.fv x0 :: .ptr (.ext 0) 0 :: vs.map .fv) := by
      simp only [IV.ren.renL, IV.ren, into, placeOf, if_true, Option.map_some, Option.bind_some, renL_fv]
    have h4 : renBlks (into [(.own s, .row (st.map .fv) false)]) [.row (st.map .fv) false] = some [.row (st.map .fv) false] := by
      simp only [renBlks, Blk.ren, renL_fv, Option.map_some, Option.bind_some]
    have h5 : renBlks (back [(.own s, .row (st.map .fv) false)]) [.row (st'.map .fv) false] = some [.row (st'.map .fv) false] := by
      simp only [renBlks, Blk.ren, renL_fv, Option.map_some, Option.bind_some]
    unfold isoD
    simp only [h1, Rd.runLog, h2, h3, List.map_cons, List.map_nil, h4, fL_eq (fV_eq 3), fL_eq fBk_eq, askedD, Bool.false_eq_true, if_false, e1, hu, Option.map_some, IV.ren, h5, List.length_cons, List.length_nil, keys, List.all_nil, and_self, if_true, List.nil_append, List.zip_cons_cons, List.zip_nil_left]
    have h6 : laid ⟨own, []⟩ [(.own s, .row (st'.map .fv) false)] = some ⟨putOwn s (.row (st'.map .fv) false) own, []⟩ := by
      simp only [laid, Hp.get, hl, Hp.set]
    simp only [h6, fH_eq, fV_eq]
  rw [iso_e, fz1f, fzp_u _ _ _ _ h0, fz1k, as_p, fza_k 0 args _ _ _ _ ks hks hz]
  simp only [isoC, goB_own, cond_false]
  exact hD
theorem iso_oo3 {ih : Handler} {f : FuncId} {x y : IV} {vx vy w : FV} {s : Nat} {a a' : FV} {own own' : List (Nat × Blk)} (hr : AnsX (ih f [.fv vx, .ptr (.ext 0) 0, .fv vy] ⟨[], [.row [.fv a] false]⟩) w [.row [.fv a'] false])
    (hx : frzP x = some vx) (hy : frzP y = some vy) (hl : lookupOwn s own = some (.row [.fv a] false)) (ho : putOwn s (.row [.fv a'] false) own = own') (k : IV → Hp → List Ref → List Ref → Option (IV × Hp)) :
    isoS [false, true, false] false false ih f [x, .ptr (.own s) 0, y] ⟨own, []⟩ k = k (.fv w) ⟨own', []⟩ [.own s] [.own s] := by
  subst ho
  exact iso_oo (ks := [false]) (by simp) (st := [a]) (st' := [a']) hx (zl_1 hy) hl hr k
end Idl
end Go.Proofs.Ytkfecngimlcfoaa

namespace Go.Proofs.Ytkfecngimlcfoaa
namespace Idl
def kidsN (op : Int) : Int := if op < 0 then -1 else ([-1, 0, 0, 2, 2, 2, 2, 3, 1, 1, 0, 0, 1, 4, 0, 0, 2, 2, 1, 1, 2, 2, 2, 1, 1, 0, 2, 3, 2, 2, 1] : List Int).getD op.toNat (-1)
theorem op_cases (op : Int) : (0 ≤ op ∧ op ≤ 30) ∨ op < 0 ∨ 30 < op := by omega
theorem kidsN_out {op : Int} (h : op < 0 ∨ 30 < op) : kidsN op = -1 := by
  unfold kidsN
  split
  · rfl
  · rw [List.getD_eq_getElem?_getD, List.getElem?_eq_none (by simp; omega)]; rfl
theorem op_in {P : Int → Prop} (h : ∀ k : Nat, k < 31 → P k) {op : Int} (h1 : 0 ≤ op ∧ op ≤ 30) : P op := by
  have := h op.toNat (by omega)
  rwa [Int.toNat_of_nonneg h1.1] at this
theorem arity_ok {n : Nat} (hn : 0 < n) (op : Int) : Ans (SS dt n 52 [iv op] ⟨[], []⟩) (.int .i64 (kidsN op)) := by
  obtain ⟨n, rfl⟩ : ∃ k, n = k + 1 := ⟨n - 1, by omega⟩
  rw [c52]
  rcases op_cases op with h | h
  · revert op
    refine fun op h => op_in (P := fun op => Ans (S52 (SS dt n) n (iv op) ⟨[], []⟩) (.int .i64 (kidsN op))) ?_ h
    intro k hk
    rcases k with _ | k
    · simp only [S52_44, S52_45, S52_46, S52_47, S52_48, S52_49, S52_50, S52_51, S52_52, S52_53, S52_54, S52_55, S52_56, S52_57, S52_58, S52_59, S52_60, S52_61, S52, ↓XX, ↓reduceIte, Nat.reduceBEq, decide_true, decide_false, Bool.not_true, Bool.not_false, List.map_cons, List.map_nil, List.length_map, List.length_cons, List.length_nil, Nat.reduceAdd, Int.cast_ofNat_Int, Int.natCast_zero, Int.natCast_one, Bool.false_eq_true, Bool.true_eq_false, decide_eq_true_eq, eq_self, Int.reduceEq, Int.reduceLT, Int.reduceLE, Bool.and_true, Bool.true_and, Bool.and_false, Bool.false_and, Nat.zero_add]; exact ans_fv _ _
    iterate 30 (rcases k with _ | k; · simp only [S52_44, S52_45, S52_46, S52_47, S52_48, S52_49, S52_50, S52_51, S52_52, S52_53, S52_54, S52_55, S52_56, S52_57, S52_58, S52_59, S52_60, S52_61, S52, ↓XX, ↓reduceIte, Nat.reduceBEq, decide_true, decide_false, Bool.not_true, Bool.not_false, List.map_cons, List.map_nil, List.length_map, List.length_cons, List.length_nil, Nat.reduceAdd, Int.cast_ofNat_Int, Int.natCast_zero, Int.natCast_one, Bool.false_eq_true, Bool.true_eq_false, decide_eq_true_eq, eq_self, Int.reduceEq, Int.reduceLT, Int.reduceLE, Bool.and_true, Bool.true_and, Bool.and_false, Bool.false_and, Nat.zero_add]; exact ans_fv _ _)
    omega
  · rw [kidsN_out h]
    have q1 : op ≠ 1 := by omega
    have q2 : op ≠ 2 := by omega
    have q3 : op ≠ 3 := by omega
    have q4 : op ≠ 4 := by omega
    have q5 : op ≠ 5 := by omega
    have q6 : op ≠ 6 := by omega
    have q7 : op ≠ 7 := by omega
    have q8 : op ≠ 8 := by omega
    have q9 : op ≠ 9 := by omega
    have q10 : op ≠ 10 := by omega
    have q11 : op ≠ 11 := by omega
    have q12 : op ≠ 12 := by omega
    have q13 : op ≠ 13 := by omega
    have q14 : op ≠ 14 := by omega
    have q15 : op ≠ 15 := by omega
    have q16 : op ≠ 16 := by omega
    have q17 : op ≠ 17 := by omega
    have q18 : op ≠ 18 := by omega
    have q19 : op ≠ 19 := by omega
    have q20 : op ≠ 20 := by omega
    have q21 : op ≠ 21 := by omega
    have q22 : op ≠ 22 := by omega
    have q23 : op ≠ 23 := by omega
    have q24 : op ≠ 24 := by omega
    have q25 : op ≠ 25 := by omega
    have q26 : op ≠ 26 := by omega
    have q27 : op ≠ 27 := by omega
    have q28 : op ≠ 28 := by omega
    have q29 : op ≠ 29 := by omega
    have q30 : op ≠ 30 := by omega
    simp only [S52_44, S52_45, S52_46, S52_47, S52_48, S52_49, S52_50, S52_51, S52_52, S52_53, S52_54, S52_55, S52_56, S52_57, S52_58, S52_59, S52_60, S52_61, S52, ↓XX, ↓reduceIte, Nat.reduceBEq, decide_true, decide_false, Bool.not_true, Bool.not_false, List.map_cons, List.map_nil, List.length_map, List.length_cons, List.length_nil, Nat.reduceAdd, Int.cast_ofNat_Int, Int.natCast_zero, Int.natCast_one, Bool.false_eq_true, Bool.true_eq_false, decide_eq_true_eq, eq_self, Int.reduceEq, Int.reduceLT, Int.reduceLE, Bool.and_true, Bool.true_and, Bool.and_false, Bool.false_and, Nat.zero_add, q1, q2, q3, q4, q5, q6, q7, q8, q9, q10, q11, q12, q13, q14, q15, q16, q17, q18, q19, q20, q21, q22, q23, q24, q25, q26, q27, q28, q29, q30]
    exact ans_fv _ _
def numb (op n : Int) : Bool := if op = 1 then decide (0 ≤ n) && decide (n ≤ 3000) else if op = 2 then decide (0 ≤ n) && decide (n ≤ 2) else if op = 26 then decide (0 ≤ n) && decide (n ≤ 4) else if op = 25 then true else decide (n = 0)
theorem number_ok {n : Nat} (hn : 0 < n) (op m : Int) : Ans (SS dt n 89 [iv op, iv m] ⟨[], []⟩) (.bool (numb op m)) := by
  obtain ⟨n, rfl⟩ : ∃ k, n = k + 1 := ⟨n - 1, by omega⟩
  rw [c89]
  unfold numb
  by_cases h1 : op = 1
  · by_cases h0 : 0 ≤ m <;> simp only [S89_47, S89_48, S89_49, S89_50, S89_51, S89, ↓XX, ↓reduceIte, Nat.reduceBEq, decide_true, decide_false, Bool.not_true, Bool.not_false, List.map_cons, List.map_nil, List.length_map, List.length_cons, List.length_nil, Nat.reduceAdd, Int.cast_ofNat_Int, Int.natCast_zero, Int.natCast_one, Bool.false_eq_true, Bool.true_eq_false, decide_eq_true_eq, eq_self, Int.reduceEq, Int.reduceLT, Int.reduceLE, Bool.and_true, Bool.true_and, Bool.and_false, Bool.false_and, Nat.zero_add, h0, h1] <;> exact ans_fv _ _
  by_cases h2 : op = 2
  · by_cases h0 : 0 ≤ m <;> simp only [S89_47, S89_48, S89_49, S89_50, S89_51, S89, ↓XX, ↓reduceIte, Nat.reduceBEq, decide_true, decide_false, Bool.not_true, Bool.not_false, List.map_cons, List.map_nil, List.length_map, List.length_cons, List.length_nil, Nat.reduceAdd, Int.cast_ofNat_Int, Int.natCast_zero, Int.natCast_one, Bool.false_eq_true, Bool.true_eq_false, decide_eq_true_eq, eq_self, Int.reduceEq, Int.reduceLT, Int.reduceLE, Bool.and_true, Bool.true_and, Bool.and_false, Bool.false_and, Nat.zero_add, h0, h2] <;> exact ans_fv _ _
  by_cases h3 : op = 26
  · by_cases h0 : 0 ≤ m <;> simp only [S89_47, S89_48, S89_49, S89_50, S89_51, S89, ↓XX, ↓reduceIte, Nat.reduceBEq, decide_true, decide_false, Bool.not_true, Bool.not_false, List.map_cons, List.map_nil, List.length_map, List.length_cons, List.length_nil, Nat.reduceAdd, Int.cast_ofNat_Int, Int.natCast_zero, Int.natCast_one, Bool.false_eq_true, Bool.true_eq_false, decide_eq_true_eq, eq_self, Int.reduceEq, Int.reduceLT, Int.reduceLE, Bool.and_true, Bool.true_and, Bool.and_false, Bool.false_and, Nat.zero_add, h0, h3] <;> exact ans_fv _ _
  by_cases h4 : op = 25
  · simp only [S89_47, S89_48, S89_49, S89_50, S89_51, S89, ↓XX, ↓reduceIte, Nat.reduceBEq, decide_true, decide_false, Bool.not_true, Bool.not_false, List.map_cons, List.map_nil, List.length_map, List.length_cons, List.length_nil, Nat.reduceAdd, Int.cast_ofNat_Int, Int.natCast_zero, Int.natCast_one, Bool.false_eq_true, Bool.true_eq_false, decide_eq_true_eq, eq_self, Int.reduceEq, Int.reduceLT, Int.reduceLE, Bool.and_true, Bool.true_and, Bool.and_false, Bool.false_and, Nat.zero_add, h4]; exact ans_fv _ _
  simp only [S89_47, S89_48, S89_49, S89_50, S89_51, S89, ↓XX, ↓reduceIte, Nat.reduceBEq, decide_true, decide_false, Bool.not_true, Bool.not_false, List.map_cons, List.map_nil, List.length_map, List.length_cons, List.length_nil, Nat.reduceAdd, Int.cast_ofNat_Int, Int.natCast_zero, Int.natCast_one, Bool.false_eq_true, Bool.true_eq_false, decide_eq_true_eq, eq_self, Int.reduceEq, Int.reduceLT, Int.reduceLE, Bool.and_true, Bool.true_and, Bool.and_false, Bool.false_and, Nat.zero_add, h1, h2, h3, h4]; exact ans_fv _ _
theorem pnumber_ok {n : Nat} (hn : 0 < n) (op m : Int) : Ans (SS dt n 92 [iv op, iv m] ⟨[], []⟩) (.bool (numb op m)) := by
  obtain ⟨n, rfl⟩ : ∃ k, n = k + 1 := ⟨n - 1, by omega⟩
  rw [c92]
  unfold numb
  by_cases h1 : op = 1
  · by_cases h0 : 0 ≤ m <;> simp only [S92_47, S92_48, S92_49, S92_50, S92_51, S92, ↓XX, ↓reduceIte, Nat.reduceBEq, decide_true, decide_false, Bool.not_true, Bool.not_false, List.map_cons, List.map_nil, List.length_map, List.length_cons, List.length_nil, Nat.reduceAdd, Int.cast_ofNat_Int, Int.natCast_zero, Int.natCast_one, Bool.false_eq_true, Bool.true_eq_false, decide_eq_true_eq, eq_self, Int.reduceEq, Int.reduceLT, Int.reduceLE, Bool.and_true, Bool.true_and, Bool.and_false, Bool.false_and, Nat.zero_add, h0, h1] <;> exact ans_fv _ _
  by_cases h2 : op = 2
  · by_cases h0 : 0 ≤ m <;> simp only [S92_47, S92_48, S92_49, S92_50, S92_51, S92, ↓XX, ↓reduceIte, Nat.reduceBEq, decide_true, decide_false, Bool.not_true, Bool.not_false, List.map_cons, List.map_nil, List.length_map, List.length_cons, List.length_nil, Nat.reduceAdd, Int.cast_ofNat_Int, Int.natCast_zero, Int.natCast_one, Bool.false_eq_true, Bool.true_eq_false, decide_eq_true_eq, eq_self, Int.reduceEq, Int.reduceLT, Int.reduceLE, Bool.and_true, Bool.true_and, Bool.and_false, Bool.false_and, Nat.zero_add, h0, h2] <;> exact ans_fv _ _
  by_cases h3 : op = 26
  · by_cases h0 : 0 ≤ m <;> simp only [S92_47, S92_48, S92_49, S92_50, S92_51, S92, ↓XX, ↓reduceIte, Nat.reduceBEq, decide_true, decide_false, Bool.not_true, Bool.not_false, List.map_cons, List.map_nil, List.length_map, List.length_cons, List.length_nil, Nat.reduceAdd, Int.cast_ofNat_Int, Int.natCast_zero, Int.natCast_one, Bool.false_eq_true, Bool.true_eq_false, decide_eq_true_eq, eq_self, Int.reduceEq, Int.reduceLT, Int.reduceLE, Bool.and_true, Bool.true_and, Bool.and_false, Bool.false_and, Nat.zero_add, h0, h3] <;> exact ans_fv _ _
  by_cases h4 : op = 25
  · simp only [S92_47, S92_48, S92_49, S92_50, S92_51, S92, ↓XX, ↓reduceIte, Nat.reduceBEq, decide_true, decide_false, Bool.not_true, Bool.not_false, List.map_cons, List.map_nil, List.length_map, List.length_cons, List.length_nil, Nat.reduceAdd, Int.cast_ofNat_Int, Int.natCast_zero, Int.natCast_one, Bool.false_eq_true, Bool.true_eq_false, decide_eq_true_eq, eq_self, Int.reduceEq, Int.reduceLT, Int.reduceLE, Bool.and_true, Bool.true_and, Bool.and_false, Bool.false_and, Nat.zero_add, h4]; exact ans_fv _ _
  simp only [S92_47, S92_48, S92_49, S92_50, S92_51, S92, ↓XX, ↓reduceIte, Nat.reduceBEq, decide_true, decide_false, Bool.not_true, Bool.not_false, List.map_cons, List.map_nil, List.length_map, List.length_cons, List.length_nil, Nat.reduceAdd, Int.cast_ofNat_Int, Int.natCast_zero, Int.natCast_one, Bool.false_eq_true, Bool.true_eq_false, decide_eq_true_eq, eq_self, Int.reduceEq, Int.reduceLT, Int.reduceLE, Bool.and_true, Bool.true_and, Bool.and_false, Bool.false_and, Nat.zero_add, h1, h2, h3, h4]; exact ans_fv _ _
end Idl
end Go.Proofs.Ytkfecngimlcfoaa

namespace Go.Proofs.Ytkfecngimlcfoaa
namespace Idl
mutual
def Tm.chk : Tm → Int → Int → Int × Int
  | .mk op m l, n, d => if 3000 < n + 1 ∨ 120 < d then (n + 1, 5) else if kidsN op ≠ (l.length : Int) ∨ numb op m = false then (n + 1, 1) else Tm.chkL l (n + 1) (d + 1)
def Tm.chkL : List Tm → Int → Int → Int × Int
  | [], n, _ => (n, 0)
  | t :: l, n, d => if (t.chk n d).2 = 0 then Tm.chkL l (t.chk n d).1 d else t.chk n d
end
mutual
theorem chk_b : ∀ (t : Tm) (n d : Int), n ≤ 3000 → n ≤ (t.chk n d).1 ∧ (t.chk n d).1 ≤ 3001 ∧ ((t.chk n d).2 = 0 → (t.chk n d).1 = n + t.wt ∧ (t.chk n d).1 ≤ 3000 ∧ d ≤ 120)
  | .mk op m l, n, d, hn => by
    rw [Tm.chk]
    split
    · simp; omega
    · split
      · simp; omega
      · have := chkL_b l (n + 1) (d + 1) (by omega)
        simp only [Tm.wt]
        omega
theorem chkL_b : ∀ (l : List Tm) (n d : Int), n ≤ 3000 → n ≤ (Tm.chkL l n d).1 ∧ (Tm.chkL l n d).1 ≤ 3001 ∧ ((Tm.chkL l n d).2 = 0 → (Tm.chkL l n d).1 = n + Tm.wtL l ∧ (Tm.chkL l n d).1 ≤ 3000)
  | [], n, d, hn => by simp [Tm.chkL, Tm.wtL]; omega
  | t :: l, n, d, hn => by
    have h1 := chk_b t n d hn
    rw [Tm.chkL]
    split
    · rename_i h0
      have h2 := chkL_b l (t.chk n d).1 d (by omega)
      simp only [Tm.wtL]
      omega
    · rename_i h0
      simp only [Tm.wtL]
      omega
end
noncomputable abbrev HW (op m : Int) (ks : List Tm) (N E : Int) : Hp := ⟨[(66060288, .row [iv op, iv m, .fv (.sl (ks.map Tm.enc))] false)], [.row [iv N, iv E] false]⟩
theorem kidsN_le (op : Int) : kidsN op ≤ 4 := by
  rcases op_cases op with h | h
  · exact op_in (P := fun op => kidsN op ≤ 4) (by intro k hk; have : ∀ k : Fin 31, kidsN (k.val : Int) ≤ 4 := by decide
                                                  exact this ⟨k, hk⟩) h
  · rw [kidsN_out h]; omega
theorem walk_ok : ∀ (n : Nat) (t : Tm) (N d : Int), 2 * t.wt + 2 < n → 0 ≤ N → N ≤ 3000 → 0 ≤ d → d ≤ 121 →
    AnsX (SS dt n 63 [.ptr (.ext 0) 0, .fv t.enc, iv d] ⟨[], [.row [iv N, iv 0] false]⟩) (.tuple []) [.row [iv (t.chk N d).1, iv (t.chk N d).2] false] := by
  intro n
  induction n using Nat.strongRecOn with
  | ind n ih =>
    intro t N d hn h0 hN hd0 hd
    obtain ⟨op, m, ks⟩ := t
    simp only [Tm.wt] at hn
    obtain ⟨n, rfl⟩ : ∃ k, n = k + 1 := ⟨n - 1, by omega⟩
    rw [c63, enc_mk]
    have hlen := wt_len ks
    have hw : w64 (N + 1) = N + 1 := by rw [w64_id] <;> omega
    have hwd : w64 (d + 1) = d + 1 := by rw [w64_id] <;> omega
    have ha := arity_ok (n := n) (by omega) op
    have hb := number_ok (n := n) (by omega) op m
    have hl : ∀ (N' E' : Int) (r : Int × Int), N' ≤ 3000 ∨ E' ≠ 0 → 0 ≤ N' → (E' = 0 → ks.length ≤ 4 ∧ r = Tm.chkL ks N' (d + 1) ∧ d ≤ 120) → (E' ≠ 0 → r = (N', E')) →
        AnsX (loopS n (fun q20 l21 h22 => S63_160 l21 h22 (SS dt n) q20) [.ptr (.ext 0) 0, iv d, .ptr (.own 66060288) 0, iv 0] (HW op m ks N' E')) (.tuple []) [.row [iv r.1, iv r.2] false] := by
      intro N' E' r hN' hN0 h1 h2
      refine loop_run (Q := fun r' => AnsX r' _ _) (fun k V H => ∃ pre rest N2 E2, ks = pre ++ rest ∧ rest.length = k ∧ V = [.ptr (.ext 0) 0, iv d, .ptr (.own 66060288) 0, iv pre.length] ∧ H = HW op m ks N2 E2 ∧
        0 ≤ N2 ∧ (E2 = 0 → N2 ≤ 3000 ∧ ks.length ≤ 4 ∧ r = Tm.chkL rest N2 (d + 1) ∧ d ≤ 120) ∧ (E2 ≠ 0 → r = (N2, E2))) ?_ n ks.length _ _ (by omega) ⟨[], ks, N', E', rfl, rfl, rfl, rfl, hN0, fun e => ⟨by rcases hN' with h | h; exact h; exact absurd e h, h1 e⟩, h2⟩
      rintro k V H rec ⟨pre, rest, N2, E2, hk, hkl, rfl, rfl, hN2, hok, hbad⟩ hrec
      have hkk : ks.length = pre.length + rest.length := by rw [hk]; simp
      cases rest with
      | nil =>
        have hno : ¬ ((pre.length : Int) < ks.length) := by rw [hkk]; simp
        have : r = (N2, E2) := by
          by_cases he : E2 = 0
          · rw [(hok he).2.2.1, he]; rfl
          · exact hbad he
        rw [this]
        simp only [S63_156, S63_157, S63_158, S63_159, S63_160, S63_161, S63_162, S63_163, S63_164, S63_165, S63_166, S63_167, S63_168, S63_169, S63_170, S63, ↓XX, ↓reduceIte, Nat.reduceBEq, decide_true, decide_false, Bool.not_true, Bool.not_false, List.map_cons, List.map_nil, List.length_map, List.length_cons, List.length_nil, Nat.reduceAdd, Int.cast_ofNat_Int, Int.natCast_zero, Int.natCast_one, Bool.false_eq_true, Bool.true_eq_false, decide_eq_true_eq, eq_self, Int.reduceEq, Int.reduceLT, Int.reduceLE, Bool.and_true, Bool.true_and, Bool.and_false, Bool.false_and, Nat.zero_add, hno]
        exact ansx_p rfl _ _
      | cons t rest =>
        have hi : (pre.length : Int) < ks.length := by rw [hkk]; simp; omega
        by_cases he : E2 = 0
        · subst he
          obtain ⟨hb1, hb2, hr, hd2⟩ := hok rfl
          have hg := at_pre hk
          have htw := wt_mem (t := t) (l := ks) (by rw [hk]; simp)
          have hc := ih n (by omega) t N2 (d + 1) (by omega) hN2 hb1 (by omega) (by omega)
          have hcb := chk_b t N2 (d + 1) hb1
          have hwi : w64 ((pre.length : Int) + 1) = ((pre ++ [t]).length : Int) := (w64_id (by omega) (by omega)).trans (by simp)
          rw [Tm.chkL] at hr
          have h9 := hrec rest.length [.ptr (.ext 0) 0, iv d, .ptr (.own 66060288) 0, iv (pre ++ [t]).length] (HW op m ks (t.chk N2 (d + 1)).1 (t.chk N2 (d + 1)).2) (by simp only [List.length_cons] at hkl; omega)
            ⟨pre ++ [t], rest, _, _, by rw [hk]; simp, rfl, rfl, rfl, by omega, fun e => ⟨(hcb.2.2 e).2.1, hb2, by rw [hr, if_pos e], hd2⟩, fun e => by rw [hr, if_neg e]⟩
          generalize t.chk N2 (d + 1) = q at hc h9
          obtain ⟨o, p, l⟩ := t
          rw [enc_mk] at hc
          simp only [S63_156, S63_157, S63_158, S63_159, S63_160, S63_161, S63_162, S63_163, S63_164, S63_165, S63_166, S63_167, S63_168, S63_169, S63_170, S63, ↓XX, ↓reduceIte, Nat.reduceBEq, decide_true, decide_false, Bool.not_true, Bool.not_false, List.map_cons, List.map_nil, List.length_map, List.length_cons, List.length_nil, Nat.reduceAdd, Int.cast_ofNat_Int, Int.natCast_zero, Int.natCast_one, Bool.false_eq_true, Bool.true_eq_false, decide_eq_true_eq, eq_self, Int.reduceEq, Int.reduceLT, Int.reduceLE, Bool.and_true, Bool.true_and, Bool.and_false, Bool.false_and, Nat.zero_add, hi, ↓ix_f (map_get hg) (agg3l _ _ _), ↓agg3, hwd, ↓iso_m3 hc (onex2 _ _ _ _), hwi]
          exact h9
        · rw [hbad he]
          simp only [S63_156, S63_157, S63_158, S63_159, S63_160, S63_161, S63_162, S63_163, S63_164, S63_165, S63_166, S63_167, S63_168, S63_169, S63_170, S63, ↓XX, ↓reduceIte, Nat.reduceBEq, decide_true, decide_false, Bool.not_true, Bool.not_false, List.map_cons, List.map_nil, List.length_map, List.length_cons, List.length_nil, Nat.reduceAdd, Int.cast_ofNat_Int, Int.natCast_zero, Int.natCast_one, Bool.false_eq_true, Bool.true_eq_false, decide_eq_true_eq, eq_self, Int.reduceEq, Int.reduceLT, Int.reduceLE, Bool.and_true, Bool.true_and, Bool.and_false, Bool.false_and, Nat.zero_add, hi, he]
          exact ansx_p rfl _ _
    rw [Tm.chk]
    by_cases c1 : 3000 < N + 1
    · have hx := hl (N + 1) 5 (N + 1, 5) (.inr (by decide)) (by omega) (fun e => absurd e (by decide)) (fun _ => rfl)
      rw [if_pos (.inl c1)]
      simp only [S63_156, S63_157, S63_158, S63_159, S63_161, S63_162, S63_163, S63_164, S63_165, S63_166, S63_167, S63_168, S63_169, S63_170, S63, ↓XX, ↓reduceIte, Nat.reduceBEq, decide_true, decide_false, Bool.not_true, Bool.not_false, List.map_cons, List.map_nil, List.length_map, List.length_cons, List.length_nil, Nat.reduceAdd, Int.cast_ofNat_Int, Int.natCast_zero, Int.natCast_one, Bool.false_eq_true, Bool.true_eq_false, decide_eq_true_eq, eq_self, Int.reduceEq, Int.reduceLT, Int.reduceLE, Bool.and_true, Bool.true_and, Bool.and_false, Bool.false_and, Nat.zero_add, hw, c1]
      exact hx
    · by_cases c2 : 120 < d
      · have hx := hl (N + 1) 5 (N + 1, 5) (.inr (by decide)) (by omega) (fun e => absurd e (by decide)) (fun _ => rfl)
        rw [if_pos (.inr c2)]
        simp only [S63_156, S63_157, S63_158, S63_159, S63_161, S63_162, S63_163, S63_164, S63_165, S63_166, S63_167, S63_168, S63_169, S63_170, S63, ↓XX, ↓reduceIte, Nat.reduceBEq, decide_true, decide_false, Bool.not_true, Bool.not_false, List.map_cons, List.map_nil, List.length_map, List.length_cons, List.length_nil, Nat.reduceAdd, Int.cast_ofNat_Int, Int.natCast_zero, Int.natCast_one, Bool.false_eq_true, Bool.true_eq_false, decide_eq_true_eq, eq_self, Int.reduceEq, Int.reduceLT, Int.reduceLE, Bool.and_true, Bool.true_and, Bool.and_false, Bool.false_and, Nat.zero_add, hw, c1, c2]
        exact hx
      · rw [if_neg (by omega)]
        by_cases c3 : kidsN op = (ks.length : Int)
        · have hx1 := hl (N + 1) 1 (N + 1, 1) (.inr (by decide)) (by omega) (fun e => absurd e (by decide)) (fun _ => rfl)
          have hk4 := kidsN_le op
          have hx0 := hl (N + 1) 0 (Tm.chkL ks (N + 1) (d + 1)) (.inl (by omega)) (by omega) (fun _ => ⟨by omega, rfl, by omega⟩) (fun e => absurd rfl e)
          cases hnb : numb op m
          · rw [hnb] at hb
            rw [if_pos (.inr rfl)]
            simp only [S63_156, S63_157, S63_158, S63_159, S63_161, S63_162, S63_163, S63_164, S63_165, S63_166, S63_167, S63_168, S63_169, S63_170, S63, ↓XX, ↓reduceIte, Nat.reduceBEq, decide_true, decide_false, Bool.not_true, Bool.not_false, List.map_cons, List.map_nil, List.length_map, List.length_cons, List.length_nil, Nat.reduceAdd, Int.cast_ofNat_Int, Int.natCast_zero, Int.natCast_one, Bool.false_eq_true, Bool.true_eq_false, decide_eq_true_eq, eq_self, Int.reduceEq, Int.reduceLT, Int.reduceLE, Bool.and_true, Bool.true_and, Bool.and_false, Bool.false_and, Nat.zero_add, hw, c1, c2, ↓iso_1 ha, c3, ↓iso_2 hb]
            exact hx1
          · rw [hnb] at hb
            rw [if_neg (by simp [c3])]
            simp only [S63_156, S63_157, S63_158, S63_159, S63_161, S63_162, S63_163, S63_164, S63_165, S63_166, S63_167, S63_168, S63_169, S63_170, S63, ↓XX, ↓reduceIte, Nat.reduceBEq, decide_true, decide_false, Bool.not_true, Bool.not_false, List.map_cons, List.map_nil, List.length_map, List.length_cons, List.length_nil, Nat.reduceAdd, Int.cast_ofNat_Int, Int.natCast_zero, Int.natCast_one, Bool.false_eq_true, Bool.true_eq_false, decide_eq_true_eq, eq_self, Int.reduceEq, Int.reduceLT, Int.reduceLE, Bool.and_true, Bool.true_and, Bool.and_false, Bool.false_and, Nat.zero_add, hw, c1, c2, ↓iso_1 ha, c3, ↓iso_2 hb]
            exact hx0
        · have hx1 := hl (N + 1) 1 (N + 1, 1) (.inr (by decide)) (by omega) (fun e => absurd e (by decide)) (fun _ => rfl)
          rw [if_pos (.inl c3)]
          simp only [S63_156, S63_157, S63_158, S63_159, S63_161, S63_162, S63_163, S63_164, S63_165, S63_166, S63_167, S63_168, S63_169, S63_170, S63, ↓XX, ↓reduceIte, Nat.reduceBEq, decide_true, decide_false, Bool.not_true, Bool.not_false, List.map_cons, List.map_nil, List.length_map, List.length_cons, List.length_nil, Nat.reduceAdd, Int.cast_ofNat_Int, Int.natCast_zero, Int.natCast_one, Bool.false_eq_true, Bool.true_eq_false, decide_eq_true_eq, eq_self, Int.reduceEq, Int.reduceLT, Int.reduceLE, Bool.and_true, Bool.true_and, Bool.and_false, Bool.false_and, Nat.zero_add, hw, c1, c2, ↓iso_1 ha, c3]
          exact hx1
theorem check_ok {n : Nat} (t : Tm) (hn : 2 * t.wt + 3 < n) : Ans (SS dt n 35 [.fv t.enc] ⟨[], []⟩) (.int .i64 (t.chk 0 1).2) := by
  obtain ⟨n, rfl⟩ : ∃ k, n = k + 1 := ⟨n - 1, by omega⟩
  rw [c35]
  have h := walk_ok n t 0 1 (by omega) (by omega) (by omega) (by omega) (by omega)
  generalize t.chk 0 1 = q at h
  obtain ⟨op, m, ks⟩ := t
  rw [enc_mk] at h ⊢
  have c2 := fun k => iso_o3b (k := k) h (x := .fv (.agg [.int .i64 op, .int .i64 m, .sl (ks.map Tm.enc)])) (y := iv 1) (s := 36701185) rfl rfl
    (own := [(36700160, .row [iv op, iv m, .fv (.sl (ks.map Tm.enc))] false), (36701185, .row [iv 0, iv 0] false)])
    (own' := [(36700160, .row [iv op, iv m, .fv (.sl (ks.map Tm.enc))] false), (36701185, .row [iv q.1, iv q.2] false)]) (by simp [lookupOwn]) (by simp [putOwn])
  simp only [S35_21, S35, ↓XX, ↓reduceIte, Nat.reduceBEq, decide_true, decide_false, Bool.not_true, Bool.not_false, List.map_cons, List.map_nil, List.length_map, List.length_cons, List.length_nil, Nat.reduceAdd, Int.cast_ofNat_Int, Int.natCast_zero, Int.natCast_one, Bool.false_eq_true, Bool.true_eq_false, decide_eq_true_eq, eq_self, Int.reduceEq, Int.reduceLT, Int.reduceLE, Bool.and_true, Bool.true_and, Bool.and_false, Bool.false_and, Nat.zero_add, ↓c2]
  exact ans_fv _ _
theorem kids_bld (s : Nat) (h : Hp) (k : IV → Hp → List Ref → List Ref → Option (IV × Hp)) : genS (pcBuild EE 132 [(0, .fv (.int .i64 (-1))), (1, .fv (.int .i64 0)), (2, .fv (.int .i64 0)), (3, .fv (.int .i64 2)), (4, .fv (.int .i64 2)), (5, .fv (.int .i64 2)), (6, .fv (.int .i64 2)), (7, .fv (.int .i64 3)), (8, .fv (.int .i64 1)), (9, .fv (.int .i64 1)), (10, .fv (.int .i64 0)), (11, .fv (.int .i64 0)), (12, .fv (.int .i64 1)), (13, .fv (.int .i64 4)), (14, .fv (.int .i64 0)), (15, .fv (.int .i64 0)), (16, .fv (.int .i64 2)), (17, .fv (.int .i64 2)), (18, .fv (.int .i64 1)), (19, .fv (.int .i64 1)), (20, .fv (.int .i64 2)), (21, .fv (.int .i64 2)), (22, .fv (.int .i64 2)), (23, .fv (.int .i64 1)), (24, .fv (.int .i64 1)), (25, .fv (.int .i64 0)), (26, .fv (.int .i64 2)), (27, .fv (.int .i64 3)), (28, .fv (.int .i64 2)), (29, .fv (.int .i64 2)), (30, .fv (.int .i64 1))]) s h k = k (.fv (.agg [.int .i64 (-1), .int .i64 0, .int .i64 0, .int .i64 2, .int .i64 2, .int .i64 2, .int .i64 2, .int .i64 3, .int .i64 1, .int .i64 1, .int .i64 0, .int .i64 0, .int .i64 1, .int .i64 4, .int .i64 0, .int .i64 0, .int .i64 2, .int .i64 2, .int .i64 1, .int .i64 1, .int .i64 2, .int .i64 2, .int .i64 2, .int .i64 1, .int .i64 1, .int .i64 0, .int .i64 2, .int .i64 3, .int .i64 2, .int .i64 2, .int .i64 1])) h [] [] := by
  have : pcBuild EE 132 [(0, .fv (.int .i64 (-1))), (1, .fv (.int .i64 0)), (2, .fv (.int .i64 0)), (3, .fv (.int .i64 2)), (4, .fv (.int .i64 2)), (5, .fv (.int .i64 2)), (6, .fv (.int .i64 2)), (7, .fv (.int .i64 3)), (8, .fv (.int .i64 1)), (9, .fv (.int .i64 1)), (10, .fv (.int .i64 0)), (11, .fv (.int .i64 0)), (12, .fv (.int .i64 1)), (13, .fv (.int .i64 4)), (14, .fv (.int .i64 0)), (15, .fv (.int .i64 0)), (16, .fv (.int .i64 2)), (17, .fv (.int .i64 2)), (18, .fv (.int .i64 1)), (19, .fv (.int .i64 1)), (20, .fv (.int .i64 2)), (21, .fv (.int .i64 2)), (22, .fv (.int .i64 2)), (23, .fv (.int .i64 1)), (24, .fv (.int .i64 1)), (25, .fv (.int .i64 0)), (26, .fv (.int .i64 2)), (27, .fv (.int .i64 3)), (28, .fv (.int .i64 2)), (29, .fv (.int .i64 2)), (30, .fv (.int .i64 1))] = Idl.val (.fv (.agg [.int .i64 (-1), .int .i64 0, .int .i64 0, .int .i64 2, .int .i64 2, .int .i64 2, .int .i64 2, .int .i64 3, .int .i64 1, .int .i64 1, .int .i64 0, .int .i64 0, .int .i64 1, .int .i64 4, .int .i64 0, .int .i64 0, .int .i64 2, .int .i64 2, .int .i64 1, .int .i64 1, .int .i64 2, .int .i64 2, .int .i64 2, .int .i64 1, .int .i64 1, .int .i64 0, .int .i64 2, .int .i64 3, .int .i64 2, .int .i64 2, .int .i64 1])) := by kernel_rfl
  rw [this]
  exact gen_val' _ _ _ _
theorem kids_out {n : Nat} {op : Int} (h : op < 0 ∨ 30 < op) : Ans (SS dt (n + 1) 91 [iv op] ⟨[], []⟩) (.int .i64 (-1)) := by
  rw [c91]
  by_cases h1 : op < 0
  · simp only [S91_29, S91, ↓XX, ↓reduceIte, Nat.reduceBEq, decide_true, decide_false, Bool.not_true, Bool.not_false, List.map_cons, List.map_nil, List.length_map, List.length_cons, List.length_nil, Nat.reduceAdd, Int.cast_ofNat_Int, Int.natCast_zero, Int.natCast_one, Bool.false_eq_true, Bool.true_eq_false, decide_eq_true_eq, eq_self, Int.reduceEq, Int.reduceLT, Int.reduceLE, Bool.and_true, Bool.true_and, Bool.and_false, Bool.false_and, Nat.zero_add, ↓kids_bld, h1]; exact ans_fv _ _
  · have h2 : 31 ≤ op := by omega
    simp only [S91_29, S91, ↓XX, ↓reduceIte, Nat.reduceBEq, decide_true, decide_false, Bool.not_true, Bool.not_false, List.map_cons, List.map_nil, List.length_map, List.length_cons, List.length_nil, Nat.reduceAdd, Int.cast_ofNat_Int, Int.natCast_zero, Int.natCast_one, Bool.false_eq_true, Bool.true_eq_false, decide_eq_true_eq, eq_self, Int.reduceEq, Int.reduceLT, Int.reduceLE, Bool.and_true, Bool.true_and, Bool.and_false, Bool.false_and, Nat.zero_add, ↓kids_bld, h1, h2]; exact ans_fv _ _
def isKids (k : Int) (o : Option (IV × Hp)) : Bool := match o with
  | some (.fv (.int .i64 m), ⟨_, []⟩) => decide (m = k)
  | _ => false
theorem ans_kids {k : Int} {o : Option (IV × Hp)} (h : isKids k o = true) : Ans o (.int .i64 k) := by
  unfold isKids at h
  split at h
  · have := of_decide_eq_true h
    subst this
    exact ans_fv _ _
  · cases h
theorem pkids_ok {n : Nat} (hn : 0 < n) (op : Int) : Ans (SS dt n 91 [iv op] ⟨[], []⟩) (.int .i64 (kidsN op)) := by
  obtain ⟨n, rfl⟩ : ∃ k, n = k + 1 := ⟨n - 1, by omega⟩
  rcases op_cases op with h | h
  · revert op
    refine fun op h => op_in (P := fun op => Ans (SS dt (n + 1) 91 [iv op] ⟨[], []⟩) (.int .i64 (kidsN op))) ?_ h
    intro k hk
    iterate 31 (rcases k with _ | k; · exact ans_kids (by kernel_rfl))
    omega
  · rw [kidsN_out h]
    exact kids_out h
noncomputable abbrev HC (op m : Int) (ks : List Tm) (N : Int) : Hp := ⟨[(71303168, .row [iv op, iv m, .fv (.sl (ks.map Tm.enc))] false)], [.row [iv N] false]⟩
theorem drop_r1 {base rm : List Nat} {vals : List IV} {own : List (Nat × Blk)} {a : FV} (hb : rm.any base.contains = false) (hf : flatD rm vals own [] = true) (k : Hp → Option (IV × Hp)) :
    dropS base rm vals ⟨own, [.row [.fv a] false]⟩ k = k ⟨stays rm vals own [], [.row [.fv a] false]⟩ := drop_x (by intro s; simp [Blk.refs, IV.refs.refsL, IV.refs]) hb hf k
theorem pcheck_ok : ∀ (n : Nat) (t : Tm) (N d : Int), 2 * t.wt + 2 < n → 0 ≤ N → N ≤ 3000 → 0 ≤ d → d ≤ 121 →
    AnsX (SS dt n 68 [.fv t.enc, .ptr (.ext 0) 0, iv d] ⟨[], [.row [iv N] false]⟩) (.int .i64 (t.chk N d).2) [.row [iv (t.chk N d).1] false] := by
  intro n
  induction n using Nat.strongRecOn with
  | ind n ih =>
    intro t N d hn h0 hN hd0 hd
    obtain ⟨op, m, ks⟩ := t
    simp only [Tm.wt] at hn
    obtain ⟨n, rfl⟩ : ∃ k, n = k + 1 := ⟨n - 1, by omega⟩
    rw [c68, enc_mk]
    have hlen := wt_len ks
    have hw : w64 (N + 1) = N + 1 := by rw [w64_id] <;> omega
    have hwd : w64 (d + 1) = d + 1 := by rw [w64_id] <;> omega
    have ha := pkids_ok (n := n) (by omega) op
    have hb := pnumber_ok (n := n) (by omega) op m
    rw [Tm.chk]
    by_cases c1 : 3000 < N + 1
    · rw [if_pos (.inl c1)]
      simp only [S68_121, S68_122, S68_123, S68_124, S68_125, S68_126, S68_127, S68_128, S68_129, S68_130, S68_131, S68, ↓XX, ↓reduceIte, Nat.reduceBEq, decide_true, decide_false, Bool.not_true, Bool.not_false, List.map_cons, List.map_nil, List.length_map, List.length_cons, List.length_nil, Nat.reduceAdd, Int.cast_ofNat_Int, Int.natCast_zero, Int.natCast_one, Bool.false_eq_true, Bool.true_eq_false, decide_eq_true_eq, eq_self, Int.reduceEq, Int.reduceLT, Int.reduceLE, Bool.and_true, Bool.true_and, Bool.and_false, Bool.false_and, Nat.zero_add, hw, c1]
      exact ansx_fv _ _ _
    by_cases c2 : 120 < d
    · rw [if_pos (.inr c2)]
      simp only [S68_121, S68_122, S68_123, S68_124, S68_125, S68_126, S68_127, S68_128, S68_129, S68_130, S68_131, S68, ↓XX, ↓reduceIte, Nat.reduceBEq, decide_true, decide_false, Bool.not_true, Bool.not_false, List.map_cons, List.map_nil, List.length_map, List.length_cons, List.length_nil, Nat.reduceAdd, Int.cast_ofNat_Int, Int.natCast_zero, Int.natCast_one, Bool.false_eq_true, Bool.true_eq_false, decide_eq_true_eq, eq_self, Int.reduceEq, Int.reduceLT, Int.reduceLE, Bool.and_true, Bool.true_and, Bool.and_false, Bool.false_and, Nat.zero_add, hw, c1, c2]
      exact ansx_fv _ _ _
    rw [if_neg (by omega)]
    by_cases c3 : kidsN op = (ks.length : Int)
    · cases hnb : numb op m
      · rw [hnb] at hb
        rw [if_pos (.inr rfl)]
        simp only [S68_121, S68_122, S68_123, S68_124, S68_125, S68_126, S68_127, S68_128, S68_129, S68_130, S68_131, S68, ↓XX, ↓reduceIte, Nat.reduceBEq, decide_true, decide_false, Bool.not_true, Bool.not_false, List.map_cons, List.map_nil, List.length_map, List.length_cons, List.length_nil, Nat.reduceAdd, Int.cast_ofNat_Int, Int.natCast_zero, Int.natCast_one, Bool.false_eq_true, Bool.true_eq_false, decide_eq_true_eq, eq_self, Int.reduceEq, Int.reduceLT, Int.reduceLE, Bool.and_true, Bool.true_and, Bool.and_false, Bool.false_and, Nat.zero_add, hw, c1, c2, ↓iso_1 ha, c3, ↓iso_2 hb]
        exact ansx_fv _ _ _
      · rw [hnb] at hb
        have hk4 := kidsN_le op
        rw [if_neg (by simp [c3])]
        simp only [S68_121, S68_122, S68_123, S68_125, S68_126, S68_127, S68_128, S68_129, S68_130, S68_131, S68, ↓XX, ↓reduceIte, Nat.reduceBEq, decide_true, decide_false, Bool.not_true, Bool.not_false, List.map_cons, List.map_nil, List.length_map, List.length_cons, List.length_nil, Nat.reduceAdd, Int.cast_ofNat_Int, Int.natCast_zero, Int.natCast_one, Bool.false_eq_true, Bool.true_eq_false, decide_eq_true_eq, eq_self, Int.reduceEq, Int.reduceLT, Int.reduceLE, Bool.and_true, Bool.true_and, Bool.and_false, Bool.false_and, Nat.zero_add, hw, c1, c2, ↓iso_1 ha, c3, ↓iso_2 hb, ↓drop_r1, ↓drop_e, XD, heldB, flatD, List.any_cons, List.any_nil, List.all_cons, List.all_nil, List.filter_cons, List.filter_nil, List.contains_cons, List.contains_nil, Bool.or_false, Bool.or_true, Bool.false_or, Bool.true_or, Bool.and_self, Bool.not_eq_true, BEq.rfl, beq_self_eq_true]
        refine loop_run (Q := fun r' => AnsX r' _ _) (fun k V H => ∃ pre rest N2, ks = pre ++ rest ∧ rest.length = k ∧ V = [.ptr (.ext 0) 0, iv d, .fv (.sl (ks.map Tm.enc)), iv ks.length, iv pre.length] ∧ H = HC op m ks N2 ∧
          0 ≤ N2 ∧ N2 ≤ 3000 ∧ Tm.chkL rest N2 (d + 1) = Tm.chkL ks (N + 1) (d + 1)) ?_ n ks.length _ _ (by omega) ⟨[], ks, N + 1, rfl, rfl, rfl, rfl, by omega, by omega, rfl⟩
        rintro k V H rec ⟨pre, rest, N2, hk, hkl, rfl, rfl, hN2, hN3, hr⟩ hrec
        have hkk : ks.length = pre.length + rest.length := by rw [hk]; simp
        cases rest with
        | nil =>
          have hno : ¬ ((pre.length : Int) < ks.length) := by rw [hkk]; simp
          rw [← hr]
          simp only [S68_121, S68_122, S68_123, S68_124, S68_125, S68_126, S68_127, S68_128, S68_129, S68_130, S68_131, S68, ↓XX, ↓reduceIte, Nat.reduceBEq, decide_true, decide_false, Bool.not_true, Bool.not_false, List.map_cons, List.map_nil, List.length_map, List.length_cons, List.length_nil, Nat.reduceAdd, Int.cast_ofNat_Int, Int.natCast_zero, Int.natCast_one, Bool.false_eq_true, Bool.true_eq_false, decide_eq_true_eq, eq_self, Int.reduceEq, Int.reduceLT, Int.reduceLE, Bool.and_true, Bool.true_and, Bool.and_false, Bool.false_and, Nat.zero_add, hno, Tm.chkL]
          exact ansx_fv _ _ _
        | cons t rest =>
          have hi : (pre.length : Int) < ks.length := by rw [hkk]; simp; omega
          have hg := at_pre hk
          have htw := wt_mem (t := t) (l := ks) (by rw [hk]; simp)
          have hc := ih n (by omega) t N2 (d + 1) (by omega) hN2 hN3 (by omega) (by omega)
          have hcb := chk_b t N2 (d + 1) hN3
          have hwi : w64 ((pre.length : Int) + 1) = ((pre ++ [t]).length : Int) := (w64_id (by omega) (by omega)).trans (by simp)
          rw [Tm.chkL] at hr
          rw [← hr]
          have h9 := fun e => hrec rest.length [.ptr (.ext 0) 0, iv d, .fv (.sl (ks.map Tm.enc)), iv ks.length, iv (pre ++ [t]).length] (HC op m ks (t.chk N2 (d + 1)).1) (by simp only [List.length_cons] at hkl; omega)
            ⟨pre ++ [t], rest, _, by rw [hk]; simp, rfl, rfl, rfl, by omega, (hcb.2.2 e).2.1, by rw [← hr, if_pos e]⟩
          rw [← hr] at h9
          generalize t.chk N2 (d + 1) = q at hc h9 ⊢
          obtain ⟨q1, q2⟩ := q
          simp only at hc h9 ⊢
          obtain ⟨o, p, l⟩ := t
          rw [enc_mk] at hc
          by_cases he : q2 = 0
          · subst he
            simp only [if_true] at h9 ⊢
            simp only [S68_121, S68_122, S68_123, S68_124, S68_125, S68_126, S68_127, S68_128, S68_129, S68_130, S68_131, S68, ↓XX, ↓reduceIte, Nat.reduceBEq, decide_true, decide_false, Bool.not_true, Bool.not_false, List.map_cons, List.map_nil, List.length_map, List.length_cons, List.length_nil, Nat.reduceAdd, Int.cast_ofNat_Int, Int.natCast_zero, Int.natCast_one, Bool.false_eq_true, Bool.true_eq_false, decide_eq_true_eq, eq_self, Int.reduceEq, Int.reduceLT, Int.reduceLE, Bool.and_true, Bool.true_and, Bool.and_false, Bool.false_and, Nat.zero_add, hi, ↓ix_f (map_get hg) (agg3l _ _ _), ↓agg3, hwd, ↓iso_mm3 hc (onex1 _ _), hwi, ↓drop_r1, ↓drop_e, XD, heldB, flatD, List.any_cons, List.any_nil, List.all_cons, List.all_nil, List.filter_cons, List.filter_nil, List.contains_cons, List.contains_nil, Bool.or_false, Bool.or_true, Bool.false_or, Bool.true_or, Bool.and_self, Bool.not_eq_true, BEq.rfl, beq_self_eq_true]
            exact h9 trivial
          · rw [if_neg he]
            simp only [S68_121, S68_122, S68_123, S68_124, S68_125, S68_126, S68_127, S68_128, S68_129, S68_130, S68_131, S68, ↓XX, ↓reduceIte, Nat.reduceBEq, decide_true, decide_false, Bool.not_true, Bool.not_false, List.map_cons, List.map_nil, List.length_map, List.length_cons, List.length_nil, Nat.reduceAdd, Int.cast_ofNat_Int, Int.natCast_zero, Int.natCast_one, Bool.false_eq_true, Bool.true_eq_false, decide_eq_true_eq, eq_self, Int.reduceEq, Int.reduceLT, Int.reduceLE, Bool.and_true, Bool.true_and, Bool.and_false, Bool.false_and, Nat.zero_add, hi, ↓ix_f (map_get hg) (agg3l _ _ _), ↓agg3, hwd, ↓iso_mm3 hc (onex1 _ _), he]
            exact ansx_fv _ _ _
    · rw [if_pos (.inl c3)]
      simp only [S68_121, S68_122, S68_123, S68_124, S68_125, S68_126, S68_127, S68_128, S68_129, S68_130, S68_131, S68, ↓XX, ↓reduceIte, Nat.reduceBEq, decide_true, decide_false, Bool.not_true, Bool.not_false, List.map_cons, List.map_nil, List.length_map, List.length_cons, List.length_nil, Nat.reduceAdd, Int.cast_ofNat_Int, Int.natCast_zero, Int.natCast_one, Bool.false_eq_true, Bool.true_eq_false, decide_eq_true_eq, eq_self, Int.reduceEq, Int.reduceLT, Int.reduceLE, Bool.and_true, Bool.true_and, Bool.and_false, Bool.false_and, Nat.zero_add, hw, c1, c2, ↓iso_1 ha, c3]
      exact ansx_fv _ _ _
theorem pCheck_ok {n : Nat} (t : Tm) (hn : 2 * t.wt + 3 < n) : Ans (SS dt n 40 [.fv t.enc] ⟨[], []⟩) (.int .i64 (t.chk 0 1).2) := by
  obtain ⟨n, rfl⟩ : ∃ k, n = k + 1 := ⟨n - 1, by omega⟩
  rw [c40]
  have h := pcheck_ok n t 0 1 (by omega) (by omega) (by omega) (by omega) (by omega)
  generalize t.chk 0 1 = q at h
  obtain ⟨op, m, ks⟩ := t
  rw [enc_mk] at h ⊢
  have c2 := fun k => iso_oo3 (k := k) h (x := .fv (.agg [.int .i64 op, .int .i64 m, .sl (ks.map Tm.enc)])) (y := iv 1) (s := 41944065) rfl rfl
    (own := [(41943040, .row [iv op, iv m, .fv (.sl (ks.map Tm.enc))] false), (41944065, .row [iv 0] false)])
    (own' := [(41943040, .row [iv op, iv m, .fv (.sl (ks.map Tm.enc))] false), (41944065, .row [iv q.1] false)]) (by simp [lookupOwn]) (by simp [putOwn])
  simp only [S40, ↓XX, ↓reduceIte, Nat.reduceBEq, decide_true, decide_false, Bool.not_true, Bool.not_false, List.map_cons, List.map_nil, List.length_map, List.length_cons, List.length_nil, Nat.reduceAdd, Int.cast_ofNat_Int, Int.natCast_zero, Int.natCast_one, Bool.false_eq_true, Bool.true_eq_false, decide_eq_true_eq, eq_self, Int.reduceEq, Int.reduceLT, Int.reduceLE, Bool.and_true, Bool.true_and, Bool.and_false, Bool.false_and, Nat.zero_add, ↓c2]
  exact ans_fv _ _
end Idl
end Go.Proofs.Ytkfecngimlcfoaa

namespace Go.Proofs.Ytkfecngimlcfoaa
namespace Idl
theorem stage_ok {f n : Nat} {t u : Tm} (hc : (t.chk 0 1).2 = 0) (h : normP f t = some (u, 0)) (hp : u.plainP = true) (hn : f + 4 ≤ n) (h2 : 2 * t.wt + 4 < n) (h3 : 4 * u.wt + 6 < n) (h4 : u.wt ≤ 900000) :
    Ans (SS dt n 16 [.fv t.enc] ⟨[], []⟩) (.tuple [u.enc, .int .i64 0]) := by
  obtain ⟨n, rfl⟩ : ∃ k, n = k + 1 := ⟨n - 1, by omega⟩
  rw [c16]
  have h1 := pCheck_ok (n := n) t (by omega)
  have hw := chk_b t 0 1 (by omega)
  have hN := normP_ok (n := n) h (by omega) (by omega) (by have := hw.2.2 hc; omega)
  have hP := pPlain_ok (n := n) u (by omega) h4
  rw [hc] at h1
  rw [hp] at hP
  obtain ⟨o1, n1, k1⟩ := t
  obtain ⟨o2, n2, k2⟩ := u
  simp only [enc_mk] at h1 hN hP ⊢
  simp only [S16_61, S16_62, S16_63, S16_64, S16_65, S16_66, S16_67, S16, ↓XX, ↓reduceIte, Nat.reduceBEq, decide_true, decide_false, Bool.not_true, Bool.not_false, List.map_cons, List.map_nil, List.length_map, List.length_cons, List.length_nil, Nat.reduceAdd, Int.cast_ofNat_Int, Int.natCast_zero, Int.natCast_one, Bool.false_eq_true, Bool.true_eq_false, decide_eq_true_eq, eq_self, Int.reduceEq, Int.reduceLT, Int.reduceLE, Bool.and_true, Bool.true_and, Bool.and_false, Bool.false_and, Nat.zero_add, ↓iso_1 h1, ↓iso_1 hN, ↓iso_1 hP]; first | exact ans_fv _ _ | exact ans_t rfl (by simp) _
end Idl
end Go.Proofs.Ytkfecngimlcfoaa

namespace Go.Proofs.Ytkfecngimlcfoaa
namespace Idl
def Tm.typed : Tm → Bool
  | .mk op _ [] => decide (op = 15)
  | .mk op _ [a, b] => (decide (op = 16) || decide (op = 17)) && (a.typed && b.typed)
  | _ => false
theorem typed1 (op m : Int) (a : Tm) : (Tm.mk op m [a]).typed = false := by rw [Tm.typed] <;> simp
theorem typed3 (op m : Int) (a b c : Tm) (l : List Tm) : (Tm.mk op m (a :: b :: c :: l)).typed = false := by rw [Tm.typed] <;> simp
end Idl
end Go.Proofs.Ytkfecngimlcfoaa

namespace Go.Proofs.Ytkfecngimlcfoaa
namespace Idl
def tI : Tm := .mk 15 0 []
def chkT (r : Int × Tm) (a : Tm) : Int := if r.1 = 0 then (if a.same r.2 then 0 else 11) else r.1
def madeM (op : Int) (a : Tm) (r : Int × Tm) : Int × Tm := if r.1 = 0 then (((Tm.mk op 0 [a, r.2]).chk 0 1).2, .mk op 0 [a, r.2]) else (r.1, .z)
def Tm.kid (t : Tm) (i : Nat) : Tm := t.kids.getD i .z
def Tm.inf : Tm → List Tm → Int × Tm
  | .mk op n [], g => if op = 1 then (if (g.length : Int) ≤ n then (8, .z) else (0, g.getD (g.length - 1 - n.toNat) .z)) else if op = 25 then (0, tI) else (10, .z)
  | .mk op _ [a], g => if op = 23 then (if (a.inf g).1 = 0 then (if (a.inf g).2.op = 17 then (0, (a.inf g).2.kid 0) else (12, .z)) else ((a.inf g).1, .z))
    else if op = 24 then (if (a.inf g).1 = 0 then (if (a.inf g).2.op = 17 then (0, (a.inf g).2.kid 1) else (12, .z)) else ((a.inf g).1, .z)) else (10, .z)
  | .mk op _ [a, b], g =>
    if op = 26 then (if chkT (a.inf g) tI = 0 then (chkT (b.inf g) tI, tI) else (chkT (a.inf g) tI, .z))
    else if op = 20 then (if a.typed then madeM 16 a (b.inf (g ++ [a])) else (10, .z))
    else if op = 29 then (if a.typed then (chkT (b.inf (g ++ [a])) a, a) else (10, .z))
    else if op = 28 then (if (a.inf g).1 = 0 then b.inf (g ++ [(a.inf g).2]) else ((a.inf g).1, .z))
    else if op = 22 then (if (a.inf g).1 = 0 then madeM 17 (a.inf g).2 (b.inf g) else ((a.inf g).1, .z))
    else if op = 21 then (if (a.inf g).1 = 0 then (if (a.inf g).2.op = 16 then (chkT (b.inf g) ((a.inf g).2.kid 0), (a.inf g).2.kid 1) else (12, .z)) else ((a.inf g).1, .z))
    else (10, .z)
  | .mk op _ [a, b, c], g => if op = 27 then (if chkT (a.inf g) tI = 0 then (if (b.inf g).1 = 0 then (chkT (c.inf g) (b.inf g).2, (b.inf g).2) else ((b.inf g).1, .z)) else (chkT (a.inf g) tI, .z)) else (10, .z)
  | _, _ => (10, .z)
mutual
def Tm.shp : Tm → Prop
  | .mk op n l => (l.length : Int) = kidsN op ∧ (op = 1 → 0 ≤ n) ∧ Tm.shpL l
def Tm.shpL : List Tm → Prop
  | [] => True
  | t :: l => t.shp ∧ Tm.shpL l
end
theorem chk_wt {t : Tm} (h : (t.chk 0 1).2 = 0) : t.wt ≤ 3000 := by
  have := (chk_b t 0 1 (by omega)).2.2 h
  omega
theorem typed_op {t : Tm} (h : t.typed = true) : (t.op = 15 ∧ t.kids = []) ∨ ((t.op = 16 ∨ t.op = 17) ∧ ∃ a b, t.kids = [a, b] ∧ a.typed = true ∧ b.typed = true) := by
  obtain ⟨op, m, l⟩ := t
  match l, h with
  | [], h => exact .inl ⟨by simpa [Tm.typed, Tm.op] using h, rfl⟩
  | [_], h => rw [typed1] at h; cases h
  | x :: y :: z :: l, h => rw [typed3] at h; cases h
  | [a, b], h =>
    simp only [Tm.typed, Bool.and_eq_true, Bool.or_eq_true, decide_eq_true_eq] at h
    exact .inr ⟨h.1, a, b, rfl, h.2.1, h.2.2⟩
theorem tI_typed : tI.typed = true := by simp [tI, Tm.typed]
theorem inf_typed (M : Nat) (hM : 3000 ≤ M) : ∀ (n : Nat) (t : Tm) (g : List Tm), t.wt < n → t.wt ≤ M → (∀ x ∈ g, x.typed = true ∧ x.wt ≤ M) → t.shp → (t.inf g).1 = 0 → (t.inf g).2.typed = true ∧ (t.inf g).2.wt ≤ M := by
  intro n
  induction n with
  | zero => intro t g h; omega
  | succ n ih =>
    intro t g hn hw hg hs h
    obtain ⟨op, m, l⟩ := t
    simp only [Tm.wt] at hn hw
    have hp : ∀ {x a : Tm}, x ∈ g ++ [a] → a.typed = true ∧ a.wt ≤ M → x.typed = true ∧ x.wt ≤ M := by
      intro x a hx ha
      rcases List.mem_append.1 hx with h | h
      · exact hg x h
      · rw [List.mem_singleton.1 h]; exact ha
    rw [Tm.shp] at hs
    obtain ⟨_, hv, hs⟩ := hs
    match l, hs with
    | [], _ =>
      unfold Tm.inf at h ⊢
      by_cases h1 : op = 1
      · rw [if_pos h1] at h ⊢
        by_cases h2 : (g.length : Int) ≤ m
        · rw [if_pos h2] at h; cases h
        · rw [if_neg h2]
          have := hv h1
          have hlt : g.length - 1 - m.toNat < g.length := by omega
          rw [List.getD_eq_getElem?_getD, List.getElem?_eq_getElem hlt]
          exact hg _ (List.getElem_mem hlt)
      · rw [if_neg h1] at h ⊢
        by_cases h2 : op = 25
        · rw [if_pos h2]
          exact ⟨tI_typed, by simp [tI, Tm.wt, Tm.wtL]; omega⟩
        · rw [if_neg h2] at h; cases h
    | [a], hs =>
      simp only [Tm.wtL] at hn hw
      have key : (a.inf g).1 = 0 → (a.inf g).2.op = 17 → ∀ i, i < 2 → ((a.inf g).2.kid i).typed = true ∧ ((a.inf g).2.kid i).wt ≤ M := by
        intro h1 h2 i hi
        obtain ⟨h3, h4⟩ := ih a g (by omega) (by omega) hg hs.1 h1
        rcases typed_op h3 with ⟨h5, _⟩ | ⟨_, x, y, h6, h7, h8⟩
        · omega
        · generalize (a.inf g).2 = r at *
          obtain ⟨o, p, k⟩ := r
          simp only [Tm.kids] at h6
          subst h6
          simp only [Tm.wt, Tm.wtL] at h4
          match i, hi with
          | 0, _ => exact ⟨h7, by show x.wt ≤ M; omega⟩
          | 1, _ => exact ⟨h8, by show y.wt ≤ M; omega⟩
      unfold Tm.inf at h ⊢
      by_cases h1 : op = 23
      · rw [if_pos h1] at h ⊢
        by_cases h2 : (a.inf g).1 = 0
        · rw [if_pos h2] at h ⊢
          by_cases h3 : (a.inf g).2.op = 17
          · rw [if_pos h3]; exact key h2 h3 0 (by decide)
          · rw [if_neg h3] at h; cases h
        · rw [if_neg h2] at h; exact absurd h h2
      · rw [if_neg h1] at h ⊢
        by_cases h1 : op = 24
        · rw [if_pos h1] at h ⊢
          by_cases h2 : (a.inf g).1 = 0
          · rw [if_pos h2] at h ⊢
            by_cases h3 : (a.inf g).2.op = 17
            · rw [if_pos h3]; exact key h2 h3 1 (by decide)
            · rw [if_neg h3] at h; cases h
          · rw [if_neg h2] at h; exact absurd h h2
        · rw [if_neg h1] at h; cases h
    | [a, b], hs =>
      simp only [Tm.wtL] at hn hw
      have hmade : ∀ (o : Int) (x : Tm) (r : Int × Tm), (o = 16 ∨ o = 17) → x.typed = true → (r.1 = 0 → r.2.typed = true) → (madeM o x r).1 = 0 → (madeM o x r).2.typed = true ∧ (madeM o x r).2.wt ≤ M := by
        intro o x r ho hx hr hz
        unfold madeM at hz ⊢
        by_cases h1 : r.1 = 0
        · rw [if_pos h1] at hz ⊢
          refine ⟨?_, Nat.le_trans (chk_wt hz) hM⟩
          simp only [Tm.typed, hx, hr h1, Bool.and_true, Bool.or_eq_true, decide_eq_true_eq]
          exact ho
        · rw [if_neg h1] at hz; exact absurd hz h1
      unfold Tm.inf at h ⊢
      by_cases h1 : op = 26
      · rw [if_pos h1] at h ⊢
        by_cases h2 : chkT (a.inf g) tI = 0
        · rw [if_pos h2]; exact ⟨tI_typed, by simp [tI, Tm.wt, Tm.wtL]; omega⟩
        · rw [if_neg h2] at h; exact absurd h h2
      rw [if_neg h1] at h ⊢
      by_cases h1 : op = 20
      · rw [if_pos h1] at h ⊢
        by_cases h2 : a.typed = true
        · rw [if_pos h2] at h ⊢
          exact hmade 16 a _ (.inl rfl) h2 (fun e => (ih b (g ++ [a]) (by omega) (by omega) (fun x hx => hp hx ⟨h2, by omega⟩) hs.2.1 e).1) h
        · rw [if_neg h2] at h; cases h
      rw [if_neg h1] at h ⊢
      by_cases h1 : op = 29
      · rw [if_pos h1] at h ⊢
        by_cases h2 : a.typed = true
        · rw [if_pos h2]; exact ⟨h2, by show a.wt ≤ M; omega⟩
        · rw [if_neg h2] at h; cases h
      rw [if_neg h1] at h ⊢
      by_cases h1 : op = 28
      · rw [if_pos h1] at h ⊢
        by_cases h2 : (a.inf g).1 = 0
        · rw [if_pos h2] at h ⊢
          have ha := ih a g (by omega) (by omega) hg hs.1 h2
          exact ih b _ (by omega) (by omega) (fun x hx => hp hx ha) hs.2.1 h
        · rw [if_neg h2] at h; exact absurd h h2
      rw [if_neg h1] at h ⊢
      by_cases h1 : op = 22
      · rw [if_pos h1] at h ⊢
        by_cases h2 : (a.inf g).1 = 0
        · rw [if_pos h2] at h ⊢
          exact hmade 17 _ _ (.inr rfl) (ih a g (by omega) (by omega) hg hs.1 h2).1 (fun e => (ih b g (by omega) (by omega) hg hs.2.1 e).1) h
        · rw [if_neg h2] at h; exact absurd h h2
      rw [if_neg h1] at h ⊢
      by_cases h1 : op = 21
      · rw [if_pos h1] at h ⊢
        by_cases h2 : (a.inf g).1 = 0
        · rw [if_pos h2] at h ⊢
          by_cases h3 : (a.inf g).2.op = 16
          · rw [if_pos h3]
            obtain ⟨h5, h4⟩ := ih a g (by omega) (by omega) hg hs.1 h2
            rcases typed_op h5 with ⟨h5, _⟩ | ⟨_, x, y, h6, h7, h8⟩
            · omega
            · generalize (a.inf g).2 = r at *
              obtain ⟨o, p, k⟩ := r
              simp only [Tm.kids] at h6
              subst h6
              simp only [Tm.wt, Tm.wtL] at h4
              exact ⟨h8, by show y.wt ≤ M; omega⟩
          · rw [if_neg h3] at h; cases h
        · rw [if_neg h2] at h; exact absurd h h2
      · rw [if_neg h1] at h; cases h
    | [a, b, c], hs =>
      simp only [Tm.wtL] at hn hw
      unfold Tm.inf at h ⊢
      by_cases h1 : op = 27
      · rw [if_pos h1] at h ⊢
        by_cases h2 : chkT (a.inf g) tI = 0
        · rw [if_pos h2] at h ⊢
          by_cases h3 : (b.inf g).1 = 0
          · rw [if_pos h3]
            exact ih b g (by omega) (by omega) hg hs.2.1 h3
          · rw [if_neg h3] at h; exact absurd h h3
        · rw [if_neg h2] at h; exact absurd h h2
      · rw [if_neg h1] at h; cases h
    | a :: b :: c :: d :: l, _ =>
      rw [Tm.inf] at h
      · cases h
      all_goals simp
def AnsT (r : Option (IV × Hp)) (q : Int × Tm) : Prop := ∃ u, Ans r (.tuple [Tm.enc u, .int .i64 q.1]) ∧ (q.1 = 0 → u = q.2)
theorem ansT {r : Option (IV × Hp)} {e : Int} {u : Tm} (h : Ans r (.tuple [u.enc, .int .i64 e])) : AnsT r (e, u) := ⟨u, h, fun _ => rfl⟩
theorem ansTe {r : Option (IV × Hp)} {e : Int} {u v : Tm} (h : Ans r (.tuple [u.enc, .int .i64 e])) (he : e ≠ 0) : AnsT r (e, v) := ⟨u, h, fun h => absurd h he⟩
theorem inf_other {op m : Int} {l : List Tm} {g : List Tm} (h : op ≠ 1 ∧ op ≠ 25 ∧ op ≠ 23 ∧ op ≠ 24 ∧ op ≠ 26 ∧ op ≠ 20 ∧ op ≠ 29 ∧ op ≠ 28 ∧ op ≠ 22 ∧ op ≠ 21 ∧ op ≠ 27) : (Tm.mk op m l).inf g = (10, .z) := by
  obtain ⟨h1, h2, h3, h4, h5, h6, h7, h8, h9, h10, h11⟩ := h
  match l with
  | [] => rw [Tm.inf, if_neg h1, if_neg h2]
  | [_] => rw [Tm.inf, if_neg h3, if_neg h4]
  | [_, _] => rw [Tm.inf, if_neg h5, if_neg h6, if_neg h7, if_neg h8, if_neg h9, if_neg h10]
  | [_, _, _] => rw [Tm.inf, if_neg h11]
  | a :: b :: c :: d :: l =>
    rw [Tm.inf]
    all_goals simp
theorem len0 {l : List Tm} (h : (l.length : Int) = 0) : l = [] := List.eq_nil_of_length_eq_zero (by omega)
theorem len1 {l : List Tm} (h : (l.length : Int) = 1) : ∃ a, l = [a] := by
  match l, h with
  | [a], _ => exact ⟨a, rfl⟩
  | [], h => simp at h
  | a :: b :: l, h => simp only [List.length_cons] at h; omega
theorem len2 {l : List Tm} (h : (l.length : Int) = 2) : ∃ a b, l = [a, b] := by
  match l, h with
  | [a, b], _ => exact ⟨a, b, rfl⟩
  | [], h => simp at h
  | [_], h => simp at h
  | a :: b :: c :: l, h => simp only [List.length_cons] at h; omega
theorem len3 {l : List Tm} (h : (l.length : Int) = 3) : ∃ a b c, l = [a, b, c] := by
  match l, h with
  | [a, b, c], _ => exact ⟨a, b, c, rfl⟩
  | [], h => simp at h
  | [_], h => simp at h
  | [_, _], h => simp at h
  | a :: b :: c :: d :: l, h => simp only [List.length_cons] at h; omega
theorem fun_parts {op : Int} (ho : op = 16 ∨ op = 17) {t : Tm} (h : t.typed = true) (h1 : t.op = op) : ∃ x y, t.kids = [x, y] := by
  rcases typed_op h with ⟨h2, _⟩ | ⟨_, a, b, h2, _⟩
  · omega
  · exact ⟨a, b, h2⟩
theorem part_wt {t x y : Tm} (h : t.kids = [x, y]) : (t.kid 0).wt < t.wt := by
  obtain ⟨o, p, k⟩ := t
  simp only [Tm.kids] at h
  subst h
  show x.wt < _
  simp only [Tm.wt, Tm.wtL]
  omega
mutual
theorem typed_shp : ∀ (t : Tm), t.typed = true → t.shp
  | .mk op m [], h => by
    have h1 : op = 15 := by simpa [Tm.typed] using h
    subst h1
    rw [Tm.shp]
    exact ⟨rfl, (fun h => by cases h), trivial⟩
  | .mk op m [_], h => by rw [typed1] at h; cases h
  | .mk op m (_ :: _ :: _ :: _), h => by rw [typed3] at h; cases h
  | .mk op m [a, b], h => by
    simp only [Tm.typed, Bool.and_eq_true, Bool.or_eq_true, decide_eq_true_eq] at h
    rw [Tm.shp]
    exact ⟨(by rcases h.1 with rfl | rfl <;> rfl), (fun h1 => by omega), typed_shp a h.2.1, typed_shp b h.2.2, trivial⟩
end
end Idl
end Go.Proofs.Ytkfecngimlcfoaa

namespace Go.Proofs.Ytkfecngimlcfoaa
namespace Idl
theorem num_ok {n : Nat} (k : Nat) (hn : k + 3 < n) (hk : k ≤ 1000000) : Ans (SS dt n 27 [iv k] ⟨[], []⟩) (tnum k).enc := by
  obtain ⟨n, rfl⟩ : ∃ j, n = j + 1 := ⟨n - 1, by omega⟩
  rw [c27]
  have h0 := t0_ok (n := n) (by omega) 11
  rw [enc_mk] at h0
  simp only [S27_49, S27_50, S27_51, S27, ↓XX, ↓reduceIte, Nat.reduceBEq, decide_true, decide_false, Bool.not_true, Bool.not_false, List.map_cons, List.map_nil, List.length_map, List.length_cons, List.length_nil, Nat.reduceAdd, Int.cast_ofNat_Int, Int.natCast_zero, Int.natCast_one, Bool.false_eq_true, Bool.true_eq_false, decide_eq_true_eq, eq_self, Int.reduceEq, Int.reduceLT, Int.reduceLE, Bool.and_true, Bool.true_and, Bool.and_false, Bool.false_and, Nat.zero_add, ↓iso_2 h0]
  refine loop_run (Q := fun r => Ans r _) (fun j V H => ∃ (i : Nat), i + j = k ∧ V = [iv k, .ptr (.own 28311552) 0, .ptr (.own 28312577) 0, iv i] ∧
      H = ⟨[(28311552, .row [iv 0, iv 0, .nils] false), (28312577, .row [iv (tnum i).op, iv (tnum i).n, .fv (.sl ((tnum i).kids.map Tm.enc))] false)], []⟩) ?_ n k _ _ (by omega) ⟨0, by omega, rfl, rfl⟩
  rintro j V H rec ⟨i, hi, rfl, rfl⟩ hrec
  cases j with
  | zero =>
    have : i = k := by omega
    subst this
    have hno : ¬ ((i : Int) < i) := by omega
    generalize tnum i = t
    obtain ⟨o, p, l⟩ := t
    rw [enc_mk]
    simp only [S27_49, S27_50, S27_51, S27_52, S27, ↓XX, ↓reduceIte, Nat.reduceBEq, decide_true, decide_false, Bool.not_true, Bool.not_false, List.map_cons, List.map_nil, List.length_map, List.length_cons, List.length_nil, Nat.reduceAdd, Int.cast_ofNat_Int, Int.natCast_zero, Int.natCast_one, Bool.false_eq_true, Bool.true_eq_false, decide_eq_true_eq, eq_self, Int.reduceEq, Int.reduceLT, Int.reduceLE, Bool.and_true, Bool.true_and, Bool.and_false, Bool.false_and, Nat.zero_add, hno, Tm.op, Tm.n, Tm.kids]
    exact ans_fv _ _
  | succ j =>
    have hlt : (i : Int) < k := by omega
    have hw : w64 ((i : Int) + 1) = ((i + 1 : Nat) : Int) := (w64_id (by omega) (by omega)).trans (by simp)
    have ht := t_ok (n := n) (by omega) 12 [tnum i]
    have h9 := hrec j ([iv k, .ptr (.own 28311552) 0, .ptr (.own 28312577) 0, iv (i + 1 : Nat)]) (⟨[(28311552, .row [iv 0, iv 0, .nils] false), (28312577, .row [iv 12, iv 0, .fv (.sl ([tnum i].map Tm.enc))] false)], []⟩) (by omega) ⟨i + 1, by omega, rfl, rfl⟩
    generalize tnum i = t at *
    obtain ⟨o, p, l⟩ := t
    simp only [List.map_cons, List.map_nil, enc_mk] at ht h9
    simp only [S27_49, S27_50, S27_51, S27_52, S27, ↓XX, ↓reduceIte, Nat.reduceBEq, decide_true, decide_false, Bool.not_true, Bool.not_false, List.map_cons, List.map_nil, List.length_map, List.length_cons, List.length_nil, Nat.reduceAdd, Int.cast_ofNat_Int, Int.natCast_zero, Int.natCast_one, Bool.false_eq_true, Bool.true_eq_false, decide_eq_true_eq, eq_self, Int.reduceEq, Int.reduceLT, Int.reduceLE, Bool.and_true, Bool.true_and, Bool.and_false, Bool.false_and, Nat.zero_add, hlt, Tm.op, Tm.n, Tm.kids, ↓bs1_tm', ↓iso_2 ht, hw]
    exact h9
end Idl
end Go.Proofs.Ytkfecngimlcfoaa

namespace Go.Proofs.Ytkfecngimlcfoaa
namespace Idl
theorem known10_run (n : Nat) : isTrueN (SS dt (n + 60) 11 [] ⟨[], []⟩) = true := by kernel_rfl
theorem known10_ok {n : Nat} (h : 60 ≤ n) : Ans (SS dt n 11 [] ⟨[], []⟩) (.bool true) := by
  obtain ⟨k, rfl⟩ : ∃ k, n = k + 60 := ⟨n - 60, by omega⟩
  exact ans_trueN (known10_run k)
theorem within10_ok {n : Nat} (hn : 0 < n) (x : Int) {m : Int} (h1 : 0 < m) (h2 : m ≤ 4611686018427387904) : Ans (SS dt n 23 [iv x, iv m] ⟨[], []⟩) (.int .i64 (x % m)) := by
  obtain ⟨n, rfl⟩ := Nat.exists_eq_add_of_lt hn
  rw [Nat.zero_add, c23]
  simp only [S23, ↓XX, ↓reduceIte, Nat.reduceBEq, decide_true, decide_false, Bool.not_true, Bool.not_false, List.map_cons, List.map_nil, List.length_map, List.length_cons, List.length_nil, Nat.reduceAdd, Int.cast_ofNat_Int, Int.natCast_zero, Int.natCast_one, Bool.false_eq_true, Bool.true_eq_false, decide_eq_true_eq, eq_self, Int.reduceEq, Int.reduceLT, Int.reduceLE, Bool.and_true, Bool.true_and, Bool.and_false, Bool.false_and, Nat.zero_add, ↓rem_s (show m ≠ 0 by omega)]
  rw [← emod_w h1 h2]
  by_cases hc : x.tmod m < 0 <;> simp only [hc, if_true, if_false] <;> exact ans_fv _ _
theorem tnum_wt : ∀ k, (tnum k).wt = k + 1 := by
  intro k
  induction k with
  | zero => rfl
  | succ k ih => simp only [tnum, Tm.wt, Tm.wtL, ih]; omega
end Idl
end Go.Proofs.Ytkfecngimlcfoaa

namespace Go.Proofs.Ytkfecngimlcfoaa
namespace Idl
section
variable {β : Type} {E : Env}
end
end Idl
end Go.Proofs.Ytkfecngimlcfoaa

namespace Go.Proofs.Ytkfecngimlcfoaa
namespace Idl
theorem plus11_ok {n : Nat} (g : List Tm) (a : Tm) (hg : g.length ≤ 900000) (hn : 0 < n) : Ans (SS dt n 76 [.fv (.sl (g.map Tm.enc)), .fv a.enc] ⟨[], []⟩) (.sl ((g ++ [a]).map Tm.enc)) := by
  obtain ⟨n, rfl⟩ : ∃ k, n = k + 1 := ⟨n - 1, by omega⟩
  rw [c76]
  rw [List.map_append, List.map_cons, List.map_nil]
  cases g with
  | nil =>
    have h0 := fun {β : Type} => app_e (β := β) (E := EE) sTm (.sl []) (s0 := .clip []) (.inr rfl)
    have happ := fun {β : Type} => app_0 (β := β) sTm (.clip [a.enc]) (head_tm [a]) rfl (by simp) (s0 := .clip []) (.inr rfl)
    obtain ⟨o, p, k⟩ := a
    rw [enc_mk] at happ ⊢
    simp only [S76_25, S76, ↓XX, ↓reduceIte, Nat.reduceBEq, decide_true, decide_false, Bool.not_true, Bool.not_false, List.map_cons, List.map_nil, List.length_map, List.length_cons, List.length_nil, Nat.reduceAdd, Int.cast_ofNat_Int, Int.natCast_zero, Int.natCast_one, Bool.false_eq_true, Bool.true_eq_false, decide_eq_true_eq, eq_self, Int.reduceEq, Int.reduceLT, Int.reduceLE, Bool.and_true, Bool.true_and, Bool.and_false, Bool.false_and, Nat.zero_add, ↓bs0_tm, ↓h0, ↓bs1_g, ↓happ]
    exact ans_p rfl _
  | cons t g =>
    have h0 := fun {β : Type} => app_0 (β := β) sTm (.sl ((t :: g).map Tm.enc)) (head_tm (t :: g)) rfl (by simp at hg ⊢; omega) (s0 := .clip []) (.inr rfl)
    have happ := fun (s r : Nat) (own : List (Nat × Blk)) (ext : List Blk) (k : IV → Hp → List Ref → List Ref → Option (IV × Hp)) => app1_tm (es := t :: g) (by omega) a r s own ext k
    obtain ⟨o, p, k⟩ := a
    simp only [List.map_cons, List.map_append, List.map_nil, List.cons_append, List.length_map, List.length_cons] at h0 happ ⊢
    rw [enc_mk] at happ ⊢
    simp only [S76_25, S76, ↓XX, ↓reduceIte, Nat.reduceBEq, decide_true, decide_false, Bool.not_true, Bool.not_false, List.map_cons, List.map_nil, List.length_map, List.length_cons, List.length_nil, Nat.reduceAdd, Int.cast_ofNat_Int, Int.natCast_zero, Int.natCast_one, Bool.false_eq_true, Bool.true_eq_false, decide_eq_true_eq, eq_self, Int.reduceEq, Int.reduceLT, Int.reduceLE, Bool.and_true, Bool.true_and, Bool.and_false, Bool.false_and, Nat.zero_add, ↓bs0_tm, ↓h0, ↓bs1_g, ↓happ, tok_k]
    exact ans_p rfl _
mutual
def Tm.rty : Tm → Bool
  | .mk op _ l => (decide (op = 15) || (decide (op = 16) || decide (op = 17))) && Tm.rtyL l
def Tm.rtyL : List Tm → Bool
  | [] => true
  | t :: l => t.rty && Tm.rtyL l
end
mutual
theorem rty_typed : ∀ t : Tm, t.shp → t.rty = t.typed
  | .mk op m l, h => by
    rw [Tm.shp] at h
    obtain ⟨h1, h2, h3⟩ := h
    have hl := rtyL_typed l h3
    rw [Tm.rty]
    by_cases h15 : op = 15
    · subst h15
      have := len0 h1
      subst this
      simp [Tm.typed, Tm.rtyL]
    · by_cases h16 : op = 16 ∨ op = 17
      · have hk2 : kidsN op = 2 := by rcases h16 with rfl | rfl <;> rfl
        obtain ⟨a, b, rfl⟩ := len2 (h1.trans hk2)
        have ha := hl a (by simp)
        have hb := hl b (by simp)
        simp only [Tm.rtyL, Tm.typed, ha, hb, Bool.and_true, h15, decide_false, Bool.false_or]
      · have : (Tm.mk op m l).typed = false := by
          match l with
          | [] => simp [Tm.typed, h15]
          | [_] => exact typed1 ..
          | [_, _] => simp [Tm.typed]; omega
          | x :: y :: z :: l => exact typed3 ..
        rw [this]
        simp only [Bool.and_eq_false_iff, Bool.or_eq_false_iff, decide_eq_false_iff_not]
        left
        omega
theorem rtyL_typed : ∀ l : List Tm, Tm.shpL l → ∀ x ∈ l, x.rty = x.typed
  | [], _, x, hx => by cases hx
  | t :: l, h, x, hx => by
    rcases List.mem_cons.1 hx with e | hx
    · rw [e]; exact rty_typed t h.1
    · exact rtyL_typed l h.2 x hx
end
theorem rtype_ok : ∀ (n : Nat) (t : Tm), t.wt < n → t.wt ≤ 1000000000 → Ans (SS dt n 29 [.fv t.enc] ⟨[], []⟩) (.bool t.rty) := by
  intro n
  induction n with
  | zero => intro t h; omega
  | succ n ih =>
    intro t hn hw
    obtain ⟨op, m, ks⟩ := t
    simp only [Tm.wt] at hn hw
    rw [c29, enc_mk, Tm.rty]
    have hlen := wt_len ks
    by_cases h : op = 15 ∨ op = 16 ∨ op = 17
    · have e : (decide (op = 15) || (decide (op = 16) || decide (op = 17))) = true := by
        simpa using h
      rw [e, Bool.true_and]
      have hl : Ans (loopS n (fun q l h => S29_77 l h (SS dt n) q) [.ptr (.own 30408704) 0, iv 0] ⟨[(30408704, .row [iv op, iv m, .fv (.sl (ks.map Tm.enc))] false)], []⟩) (.bool (Tm.rtyL ks)) := by
        refine loop_run (Q := fun r => Ans r _) (fun k V H => ∃ pre rest, ks = pre ++ rest ∧ rest.length = k ∧ V = [.ptr (.own 30408704) 0, iv pre.length] ∧ H = ⟨[(30408704, .row [iv op, iv m, .fv (.sl (ks.map Tm.enc))] false)], []⟩ ∧ Tm.rtyL rest = Tm.rtyL ks)
          ?_ n ks.length _ _ (by omega) ⟨[], ks, rfl, rfl, rfl, rfl, rfl⟩
        rintro k V H rec ⟨pre, rest, hk, hkl, rfl, rfl, hr⟩ hrec
        have hkk : ks.length = pre.length + rest.length := by rw [hk]; simp
        cases rest with
        | nil =>
          have hno : ¬ ((pre.length : Int) < ks.length) := by rw [hkk]; simp
          rw [← hr]
          simp only [S29_74, S29_75, S29_76, S29_77, S29_78, S29_79, S29, ↓XX, ↓reduceIte, Nat.reduceBEq, decide_true, decide_false, Bool.not_true, Bool.not_false, List.map_cons, List.map_nil, List.length_map, List.length_cons, List.length_nil, Nat.reduceAdd, Int.cast_ofNat_Int, Int.natCast_zero, Int.natCast_one, Bool.false_eq_true, Bool.true_eq_false, decide_eq_true_eq, eq_self, Int.reduceEq, Int.reduceLT, Int.reduceLE, Bool.and_true, Bool.true_and, Bool.and_false, Bool.false_and, Nat.zero_add, hno, Tm.rtyL]; exact ans_fv _ _
        | cons t rest =>
          have hi : (pre.length : Int) < ks.length := by rw [hkk]; simp; omega
          have hg := at_pre hk
          have htw := wt_mem (t := t) (l := ks) (by rw [hk]; simp)
          have hc := ih t (by omega) (by omega)
          have hwi : w64 ((pre.length : Int) + 1) = ((pre ++ [t]).length : Int) := (w64_id (by omega) (by omega)).trans (by simp)
          have h9 := fun e => hrec rest.length [.ptr (.own 30408704) 0, iv (pre ++ [t]).length] _ (by simp only [List.length_cons] at hkl; omega) ⟨pre ++ [t], rest, by rw [hk]; simp, rfl, rfl, rfl, e⟩
          rw [Tm.rtyL] at hr
          generalize t.rty = b at hc hr
          cases b
          · rw [Bool.false_and] at hr
            rw [← hr]
            obtain ⟨o, p, l⟩ := t
            rw [enc_mk] at hc
            simp only [S29_74, S29_75, S29_76, S29_77, S29_78, S29_79, S29, ↓XX, ↓reduceIte, Nat.reduceBEq, decide_true, decide_false, Bool.not_true, Bool.not_false, List.map_cons, List.map_nil, List.length_map, List.length_cons, List.length_nil, Nat.reduceAdd, Int.cast_ofNat_Int, Int.natCast_zero, Int.natCast_one, Bool.false_eq_true, Bool.true_eq_false, decide_eq_true_eq, eq_self, Int.reduceEq, Int.reduceLT, Int.reduceLE, Bool.and_true, Bool.true_and, Bool.and_false, Bool.false_and, Nat.zero_add, hi, ↓ix_f (map_get hg) (agg3l _ _ _), ↓agg3, ↓iso_1 hc]; exact ans_fv _ _
          · rw [Bool.true_and] at hr
            have h9 := h9 hr
            obtain ⟨o, p, l⟩ := t
            rw [enc_mk] at hc
            simp only [S29_74, S29_75, S29_76, S29_77, S29_78, S29_79, S29, ↓XX, ↓reduceIte, Nat.reduceBEq, decide_true, decide_false, Bool.not_true, Bool.not_false, List.map_cons, List.map_nil, List.length_map, List.length_cons, List.length_nil, Nat.reduceAdd, Int.cast_ofNat_Int, Int.natCast_zero, Int.natCast_one, Bool.false_eq_true, Bool.true_eq_false, decide_eq_true_eq, eq_self, Int.reduceEq, Int.reduceLT, Int.reduceLE, Bool.and_true, Bool.true_and, Bool.and_false, Bool.false_and, Nat.zero_add, hi, ↓ix_f (map_get hg) (agg3l _ _ _), ↓agg3, ↓iso_1 hc, hwi]
            exact h9
      by_cases h1 : op = 15
      · simp only [S29_74, S29_75, S29_76, S29_78, S29_79, S29, ↓XX, ↓reduceIte, Nat.reduceBEq, decide_true, decide_false, Bool.not_true, Bool.not_false, List.map_cons, List.map_nil, List.length_map, List.length_cons, List.length_nil, Nat.reduceAdd, Int.cast_ofNat_Int, Int.natCast_zero, Int.natCast_one, Bool.false_eq_true, Bool.true_eq_false, decide_eq_true_eq, eq_self, Int.reduceEq, Int.reduceLT, Int.reduceLE, Bool.and_true, Bool.true_and, Bool.and_false, Bool.false_and, Nat.zero_add, h1]; simp only [h1] at hl; exact hl
      · by_cases h2 : op = 16
        · simp only [S29_74, S29_75, S29_76, S29_78, S29_79, S29, ↓XX, ↓reduceIte, Nat.reduceBEq, decide_true, decide_false, Bool.not_true, Bool.not_false, List.map_cons, List.map_nil, List.length_map, List.length_cons, List.length_nil, Nat.reduceAdd, Int.cast_ofNat_Int, Int.natCast_zero, Int.natCast_one, Bool.false_eq_true, Bool.true_eq_false, decide_eq_true_eq, eq_self, Int.reduceEq, Int.reduceLT, Int.reduceLE, Bool.and_true, Bool.true_and, Bool.and_false, Bool.false_and, Nat.zero_add, h1, h2]; simp only [h2] at hl; exact hl
        · have h3 : op = 17 := by omega
          simp only [S29_74, S29_75, S29_76, S29_78, S29_79, S29, ↓XX, ↓reduceIte, Nat.reduceBEq, decide_true, decide_false, Bool.not_true, Bool.not_false, List.map_cons, List.map_nil, List.length_map, List.length_cons, List.length_nil, Nat.reduceAdd, Int.cast_ofNat_Int, Int.natCast_zero, Int.natCast_one, Bool.false_eq_true, Bool.true_eq_false, decide_eq_true_eq, eq_self, Int.reduceEq, Int.reduceLT, Int.reduceLE, Bool.and_true, Bool.true_and, Bool.and_false, Bool.false_and, Nat.zero_add, h1, h2, h3]; simp only [h3] at hl; exact hl
    · have h1 : op ≠ 15 := by omega
      have h2 : op ≠ 16 := by omega
      have h3 : op ≠ 17 := by omega
      simp only [S29_74, S29_75, S29_76, S29_77, S29_78, S29_79, S29, ↓XX, ↓reduceIte, Nat.reduceBEq, decide_true, decide_false, Bool.not_true, Bool.not_false, List.map_cons, List.map_nil, List.length_map, List.length_cons, List.length_nil, Nat.reduceAdd, Int.cast_ofNat_Int, Int.natCast_zero, Int.natCast_one, Bool.false_eq_true, Bool.true_eq_false, decide_eq_true_eq, eq_self, Int.reduceEq, Int.reduceLT, Int.reduceLE, Bool.and_true, Bool.true_and, Bool.and_false, Bool.false_and, Nat.zero_add, h1, h2, h3, Bool.or_false]; exact ans_fv _ _
theorem rmade_ok {n : Nat} (a : Tm) (e : Int) (hn : 0 < n) (hn : e = 0 → 2 * a.wt + 4 < n) : Ans (SS dt n 77 [.fv a.enc, iv e] ⟨[], []⟩) (.tuple [a.enc, .int .i64 (if e = 0 then (a.chk 0 1).2 else e)]) := by
  obtain ⟨n, rfl⟩ : ∃ k, n = k + 1 := ⟨n - 1, by omega⟩
  rw [c77]
  by_cases he : e = 0
  · have h := check_ok (n := n) a (by have := hn he; omega)
    generalize (a.chk 0 1).2 = c at h ⊢
    obtain ⟨o, p, k⟩ := a
    rw [enc_mk] at h ⊢
    simp only [S77_27, S77_28, S77, ↓XX, ↓reduceIte, Nat.reduceBEq, decide_true, decide_false, Bool.not_true, Bool.not_false, List.map_cons, List.map_nil, List.length_map, List.length_cons, List.length_nil, Nat.reduceAdd, Int.cast_ofNat_Int, Int.natCast_zero, Int.natCast_one, Bool.false_eq_true, Bool.true_eq_false, decide_eq_true_eq, eq_self, Int.reduceEq, Int.reduceLT, Int.reduceLE, Bool.and_true, Bool.true_and, Bool.and_false, Bool.false_and, Nat.zero_add, he, ↓iso_1 h]; first | exact ans_fv _ _ | exact ans_t rfl (by simp) _
  · obtain ⟨o, p, k⟩ := a
    rw [enc_mk]
    simp only [S77_27, S77_28, S77, ↓XX, ↓reduceIte, Nat.reduceBEq, decide_true, decide_false, Bool.not_true, Bool.not_false, List.map_cons, List.map_nil, List.length_map, List.length_cons, List.length_nil, Nat.reduceAdd, Int.cast_ofNat_Int, Int.natCast_zero, Int.natCast_one, Bool.false_eq_true, Bool.true_eq_false, decide_eq_true_eq, eq_self, Int.reduceEq, Int.reduceLT, Int.reduceLE, Bool.and_true, Bool.true_and, Bool.and_false, Bool.false_and, Nat.zero_add, he]; first | exact ans_fv _ _ | exact ans_t rfl (by simp) _
theorem rchk_ok {n : Nat} {g : List Tm} {t a : Tm} {q : Int × Tm} (h : AnsT (SS dt n 19 [.fv (.sl (g.map Tm.enc)), .fv t.enc] ⟨[], []⟩) q) (hw : a.wt + 1 < n) (ha : a.wt ≤ 100000000) :
    Ans (SS dt (n + 1) 75 [.fv (.sl (g.map Tm.enc)), .fv t.enc, .fv a.enc] ⟨[], []⟩) (.int .i64 (chkT q a)) := by
  obtain ⟨u, hu, he⟩ := h
  obtain ⟨e, r⟩ := q
  simp only at hu he
  rw [c75]
  have hs := same_ok n a u hw (by omega)
  unfold chkT
  simp only
  by_cases h0 : e = 0
  · have hur := he h0
    subst hur h0
    rw [if_pos rfl]
    generalize a.same u = b at hs ⊢
    obtain ⟨o1, n1, k1⟩ := t
    obtain ⟨o2, n2, k2⟩ := a
    obtain ⟨o3, n3, k3⟩ := u
    simp only [enc_mk] at hu hs ⊢
    cases b
    · simp only [S75_57, S75_58, S75, ↓XX, ↓reduceIte, Nat.reduceBEq, decide_true, decide_false, Bool.not_true, Bool.not_false, List.map_cons, List.map_nil, List.length_map, List.length_cons, List.length_nil, Nat.reduceAdd, Int.cast_ofNat_Int, Int.natCast_zero, Int.natCast_one, Bool.false_eq_true, Bool.true_eq_false, decide_eq_true_eq, eq_self, Int.reduceEq, Int.reduceLT, Int.reduceLE, Bool.and_true, Bool.true_and, Bool.and_false, Bool.false_and, Nat.zero_add, ↓iso_2 hu, ↓iso_2 hs]; exact ans_fv _ _
    · simp only [S75_57, S75_58, S75, ↓XX, ↓reduceIte, Nat.reduceBEq, decide_true, decide_false, Bool.not_true, Bool.not_false, List.map_cons, List.map_nil, List.length_map, List.length_cons, List.length_nil, Nat.reduceAdd, Int.cast_ofNat_Int, Int.natCast_zero, Int.natCast_one, Bool.false_eq_true, Bool.true_eq_false, decide_eq_true_eq, eq_self, Int.reduceEq, Int.reduceLT, Int.reduceLE, Bool.and_true, Bool.true_and, Bool.and_false, Bool.false_and, Nat.zero_add, ↓iso_2 hu, ↓iso_2 hs]; exact ans_fv _ _
  · rw [if_neg h0]
    obtain ⟨o1, n1, k1⟩ := t
    obtain ⟨o2, n2, k2⟩ := a
    obtain ⟨o3, n3, k3⟩ := u
    simp only [enc_mk] at hu hs ⊢
    simp only [S75_57, S75_58, S75, ↓XX, ↓reduceIte, Nat.reduceBEq, decide_true, decide_false, Bool.not_true, Bool.not_false, List.map_cons, List.map_nil, List.length_map, List.length_cons, List.length_nil, Nat.reduceAdd, Int.cast_ofNat_Int, Int.natCast_zero, Int.natCast_one, Bool.false_eq_true, Bool.true_eq_false, decide_eq_true_eq, eq_self, Int.reduceEq, Int.reduceLT, Int.reduceLE, Bool.and_true, Bool.true_and, Bool.and_false, Bool.false_and, Nat.zero_add, ↓iso_2 hu, h0]; exact ans_fv _ _
theorem rInfer_of {n : Nat} {g : List Tm} {t : Tm} {q : Int × Tm} (h : AnsT (SS dt n 43 [.fv (.sl (g.map Tm.enc)), .fv t.enc] ⟨[], []⟩) q) :
    Ans (SS dt (n + 1) 19 [.fv (.sl (g.map Tm.enc)), .fv t.enc] ⟨[], []⟩) (.tuple [(if q.1 = 0 then q.2 else .z).enc, .int .i64 q.1]) := by
  obtain ⟨u, hu, he⟩ := h
  obtain ⟨e, r⟩ := q
  simp only at hu he ⊢
  rw [c19]
  by_cases h0 : e = 0
  · have hur := he h0
    subst hur h0
    rw [if_pos rfl]
    obtain ⟨o1, n1, k1⟩ := t
    obtain ⟨o3, n3, k3⟩ := u
    simp only [enc_mk] at hu ⊢
    simp only [S19_38, S19_39, S19_40, S19, ↓XX, ↓reduceIte, Nat.reduceBEq, decide_true, decide_false, Bool.not_true, Bool.not_false, List.map_cons, List.map_nil, List.length_map, List.length_cons, List.length_nil, Nat.reduceAdd, Int.cast_ofNat_Int, Int.natCast_zero, Int.natCast_one, Bool.false_eq_true, Bool.true_eq_false, decide_eq_true_eq, eq_self, Int.reduceEq, Int.reduceLT, Int.reduceLE, Bool.and_true, Bool.true_and, Bool.and_false, Bool.false_and, Nat.zero_add, ↓iso_2 hu]; first | exact ans_fv _ _ | exact ans_t rfl (by simp) _
  · rw [if_neg h0]
    obtain ⟨o1, n1, k1⟩ := t
    obtain ⟨o3, n3, k3⟩ := u
    simp only [enc_mk] at hu ⊢
    simp only [S19_38, S19_39, S19_40, S19, ↓XX, ↓reduceIte, Nat.reduceBEq, decide_true, decide_false, Bool.not_true, Bool.not_false, List.map_cons, List.map_nil, List.length_map, List.length_cons, List.length_nil, Nat.reduceAdd, Int.cast_ofNat_Int, Int.natCast_zero, Int.natCast_one, Bool.false_eq_true, Bool.true_eq_false, decide_eq_true_eq, eq_self, Int.reduceEq, Int.reduceLT, Int.reduceLE, Bool.and_true, Bool.true_and, Bool.and_false, Bool.false_and, Nat.zero_add, ↓iso_2 hu, h0, Tm.z, enc_mk]; first | exact ans_fv _ _ | exact ans_t rfl (by simp) _
end Idl
end Go.Proofs.Ytkfecngimlcfoaa

namespace Go.Proofs.Ytkfecngimlcfoaa
namespace Idl
set_option maxRecDepth 20000 in
set_option maxHeartbeats 2000000 in
theorem rinf_ok (M : Nat) (hM : 3000 ≤ M) (hM2 : M ≤ 1000000) : ∀ (n : Nat) (t : Tm) (g : List Tm), t.shp → t.wt ≤ M → (∀ x ∈ g, x.typed = true ∧ x.wt ≤ M) → g.length + t.wt ≤ 900000 → 4 * t.wt + 6 * M + 60 < n →
    AnsT (SS dt n 43 [.fv (.sl (g.map Tm.enc)), .fv t.enc] ⟨[], []⟩) (t.inf g) := by
  intro n
  induction n using Nat.strongRecOn with
  | ind n ih =>
    intro t g hs hw hg hl hn
    obtain ⟨n, rfl⟩ : ∃ k, n = k + 1 := ⟨n - 1, by omega⟩
    obtain ⟨op, m, l⟩ := t
    have hs0 := hs
    rw [Tm.shp] at hs
    obtain ⟨hk, hv, hsl⟩ := hs
    simp only [Tm.wt] at hw hl hn
    have hof := t0_ok (n := n) (by omega) 15
    rw [enc_mk, List.map_nil] at hof
    have hti := fun (k : Nat) => inf_typed M hM k
    have hgx : ∀ a : Tm, a.typed = true ∧ a.wt ≤ M → ∀ x ∈ g ++ [a], x.typed = true ∧ x.wt ≤ M := by
      intro a ha x hx
      rcases List.mem_append.1 hx with h | h
      · exact hg x h
      · rw [List.mem_singleton.1 h]; exact ha
    have hI : ∀ (c : Tm) (g' : List Tm) (k : Nat), k + 1 ≤ n → c.shp → c.wt ≤ M → (∀ x ∈ g', x.typed = true ∧ x.wt ≤ M) → g'.length + c.wt ≤ 900000 → 4 * c.wt + 6 * M + 60 < k →
        Ans (SS dt (k + 1) 19 [.fv (.sl (g'.map Tm.enc)), .fv c.enc] ⟨[], []⟩) (.tuple [(if (c.inf g').1 = 0 then (c.inf g').2 else .z).enc, .int .i64 (c.inf g').1]) :=
      fun c g' k hk h1 h2 h3 h4 h5 => rInfer_of (ih k (by omega) c g' h1 h2 h3 h4 h5)
    have hck : ∀ (c a : Tm) (g' : List Tm) (k : Nat), k + 2 ≤ n → c.shp → c.wt ≤ M → (∀ x ∈ g', x.typed = true ∧ x.wt ≤ M) → g'.length + c.wt ≤ 900000 → 4 * c.wt + 6 * M + 60 < k → a.wt ≤ M →
        Ans (SS dt (k + 2) 75 [.fv (.sl (g'.map Tm.enc)), .fv c.enc, .fv a.enc] ⟨[], []⟩) (.int .i64 (chkT (c.inf g') a)) :=
      fun c a g' k hk h1 h2 h3 h4 h5 h6 => rchk_ok ⟨_, hI c g' k (by omega) h1 h2 h3 h4 h5, fun h0 => by rw [if_pos h0]⟩ (by omega) (by omega)
    show AnsT _ _
    rw [c43]
    obtain ⟨k, rfl⟩ : ∃ k, n = k + 1 + 1 := ⟨n - 2, by omega⟩
    have htw : tI.wt ≤ M := by simp [tI, Tm.wt, Tm.wtL]; omega
    by_cases o1 : op = 1
    · subst o1
      have := len0 hk
      subst this
      have hm := hv rfl
      rw [Tm.inf, if_pos rfl, enc_mk]
      by_cases h2 : (g.length : Int) ≤ m
      · rw [if_pos h2]
        refine ansTe (u := tI) ?_ (by decide)
        simp only [S43_486, S43_487, S43_488, S43_489, S43_490, S43_491, S43_492, S43_493, S43_494, S43_495, S43_496, S43_497, S43_498, S43_499, S43_500, S43_501, S43_502, S43_503, S43_504, S43_505, S43_506, S43_507, S43_508, S43_509, S43_510, S43_511, S43_512, S43_513, S43_514, S43_515, S43_516, S43_517, S43_518, S43_519, S43_520, S43_521, S43_522, S43_523, S43_524, S43_525, S43_526, S43_527, S43_528, S43_529, S43_530, S43_531, S43_532, S43_533, S43_534, S43_535, S43_536, S43_537, S43_538, S43_539, S43_540, S43_541, S43_542, S43_543, S43_544, S43_545, S43_546, S43_547, S43_548, S43_549, S43_550, S43_551, S43_552, S43_553, S43_554, S43, ↓XX, ↓reduceIte, Nat.reduceBEq, decide_true, decide_false, Bool.not_true, Bool.not_false, List.map_cons, List.map_nil, List.length_map, List.length_cons, List.length_nil, Nat.reduceAdd, Int.cast_ofNat_Int, Int.natCast_zero, Int.natCast_one, Bool.false_eq_true, Bool.true_eq_false, decide_eq_true_eq, eq_self, Int.reduceEq, Int.reduceLT, Int.reduceLE, Bool.and_true, Bool.true_and, Bool.and_false, Bool.false_and, Nat.zero_add, ↓iso_2 hof, h2, tI, enc_mk]; first | exact ans_fv _ _ | exact ans_t rfl (by simp) _
      · rw [if_neg h2]
        have hlt : g.length - 1 - m.toNat < g.length := by omega
        have hget : g[g.length - 1 - m.toNat]? = some (g.getD (g.length - 1 - m.toNat) .z) := by
          rw [List.getD_eq_getElem?_getD, List.getElem?_eq_getElem hlt]; rfl
        have w1 : w64 ((g.length : Int) - 1) = (g.length : Int) - 1 := by rw [w64_id] <;> omega
        have w2 : w64 ((g.length : Int) - 1 - m) = ((g.length - 1 - m.toNat : Nat) : Int) := by rw [w64_id (by omega) (by omega)]; omega
        refine ansT ?_
        generalize g.getD (g.length - 1 - m.toNat) .z = x at hget ⊢
        obtain ⟨o, p, k⟩ := x
        simp only [S43_486, S43_487, S43_488, S43_489, S43_490, S43_491, S43_492, S43_493, S43_494, S43_495, S43_496, S43_497, S43_498, S43_499, S43_500, S43_501, S43_502, S43_503, S43_504, S43_505, S43_506, S43_507, S43_508, S43_509, S43_510, S43_511, S43_512, S43_513, S43_514, S43_515, S43_516, S43_517, S43_518, S43_519, S43_520, S43_521, S43_522, S43_523, S43_524, S43_525, S43_526, S43_527, S43_528, S43_529, S43_530, S43_531, S43_532, S43_533, S43_534, S43_535, S43_536, S43_537, S43_538, S43_539, S43_540, S43_541, S43_542, S43_543, S43_544, S43_545, S43_546, S43_547, S43_548, S43_549, S43_550, S43_551, S43_552, S43_553, S43_554, S43, ↓XX, ↓reduceIte, Nat.reduceBEq, decide_true, decide_false, Bool.not_true, Bool.not_false, List.map_cons, List.map_nil, List.length_map, List.length_cons, List.length_nil, Nat.reduceAdd, Int.cast_ofNat_Int, Int.natCast_zero, Int.natCast_one, Bool.false_eq_true, Bool.true_eq_false, decide_eq_true_eq, eq_self, Int.reduceEq, Int.reduceLT, Int.reduceLE, Bool.and_true, Bool.true_and, Bool.and_false, Bool.false_and, Nat.zero_add, ↓iso_2 hof, h2, w1, w2, ↓ix_f (map_get hget) (agg3l _ _ _), ↓agg3, enc_mk]; first | exact ans_fv _ _ | exact ans_t rfl (by simp) _
    by_cases o2 : op = 25
    · subst o2
      have := len0 hk
      subst this
      rw [Tm.inf, if_neg (by decide), if_pos rfl, enc_mk]
      refine ansT ?_
      simp only [S43_486, S43_487, S43_488, S43_489, S43_490, S43_491, S43_492, S43_493, S43_494, S43_495, S43_496, S43_497, S43_498, S43_499, S43_500, S43_501, S43_502, S43_503, S43_504, S43_505, S43_506, S43_507, S43_508, S43_509, S43_510, S43_511, S43_512, S43_513, S43_514, S43_515, S43_516, S43_517, S43_518, S43_519, S43_520, S43_521, S43_522, S43_523, S43_524, S43_525, S43_526, S43_527, S43_528, S43_529, S43_530, S43_531, S43_532, S43_533, S43_534, S43_535, S43_536, S43_537, S43_538, S43_539, S43_540, S43_541, S43_542, S43_543, S43_544, S43_545, S43_546, S43_547, S43_548, S43_549, S43_550, S43_551, S43_552, S43_553, S43_554, S43, ↓XX, ↓reduceIte, Nat.reduceBEq, decide_true, decide_false, Bool.not_true, Bool.not_false, List.map_cons, List.map_nil, List.length_map, List.length_cons, List.length_nil, Nat.reduceAdd, Int.cast_ofNat_Int, Int.natCast_zero, Int.natCast_one, Bool.false_eq_true, Bool.true_eq_false, decide_eq_true_eq, eq_self, Int.reduceEq, Int.reduceLT, Int.reduceLE, Bool.and_true, Bool.true_and, Bool.and_false, Bool.false_and, Nat.zero_add, ↓iso_2 hof, tI, enc_mk]; first | exact ans_fv _ _ | exact ans_t rfl (by simp) _
    by_cases o3 : op = 26
    · subst o3
      obtain ⟨a, b, rfl⟩ := len2 hk
      simp only [Tm.wtL] at hw hl hn
      have ha := hck a tI g k (by omega) hsl.1 (by omega) hg (by omega) (by omega) htw
      have hb := hck b tI g k (by omega) hsl.2.1 (by omega) hg (by omega) (by omega) htw
      rw [Tm.inf, if_pos rfl]
      generalize chkT (a.inf g) tI = x at ha ⊢
      generalize chkT (b.inf g) tI = y at hb ⊢
      by_cases h : x = 0
      · rw [if_pos h]
        refine ansT ?_
        subst h
        obtain ⟨o1, n1, k1⟩ := a
        obtain ⟨o2, n2, k2⟩ := b
        simp only [enc_mk, tI, List.map_cons, List.map_nil] at ha hb ⊢
        simp only [S43_486, S43_487, S43_488, S43_489, S43_490, S43_491, S43_492, S43_493, S43_494, S43_495, S43_496, S43_497, S43_498, S43_499, S43_500, S43_501, S43_502, S43_503, S43_504, S43_505, S43_506, S43_507, S43_508, S43_509, S43_510, S43_511, S43_512, S43_513, S43_514, S43_515, S43_516, S43_517, S43_518, S43_519, S43_520, S43_521, S43_522, S43_523, S43_524, S43_525, S43_526, S43_527, S43_528, S43_529, S43_530, S43_531, S43_532, S43_533, S43_534, S43_535, S43_536, S43_537, S43_538, S43_539, S43_540, S43_541, S43_542, S43_543, S43_544, S43_545, S43_546, S43_547, S43_548, S43_549, S43_550, S43_551, S43_552, S43_553, S43_554, S43, ↓XX, ↓reduceIte, Nat.reduceBEq, decide_true, decide_false, Bool.not_true, Bool.not_false, List.map_cons, List.map_nil, List.length_map, List.length_cons, List.length_nil, Nat.reduceAdd, Int.cast_ofNat_Int, Int.natCast_zero, Int.natCast_one, Bool.false_eq_true, Bool.true_eq_false, decide_eq_true_eq, eq_self, Int.reduceEq, Int.reduceLT, Int.reduceLE, Bool.and_true, Bool.true_and, Bool.and_false, Bool.false_and, Nat.zero_add, ↓iso_2 hof, ↓ixt0, ↓ixt1, ↓iso_3 ha, ↓iso_3 hb]; first | exact ans_fv _ _ | exact ans_t rfl (by simp) _
      · rw [if_neg h]
        refine ansTe (u := tI) ?_ h
        obtain ⟨o1, n1, k1⟩ := a
        obtain ⟨o2, n2, k2⟩ := b
        simp only [enc_mk, tI, List.map_cons, List.map_nil] at ha hb ⊢
        simp only [S43_486, S43_487, S43_488, S43_489, S43_490, S43_491, S43_492, S43_493, S43_494, S43_495, S43_496, S43_497, S43_498, S43_499, S43_500, S43_501, S43_502, S43_503, S43_504, S43_505, S43_506, S43_507, S43_508, S43_509, S43_510, S43_511, S43_512, S43_513, S43_514, S43_515, S43_516, S43_517, S43_518, S43_519, S43_520, S43_521, S43_522, S43_523, S43_524, S43_525, S43_526, S43_527, S43_528, S43_529, S43_530, S43_531, S43_532, S43_533, S43_534, S43_535, S43_536, S43_537, S43_538, S43_539, S43_540, S43_541, S43_542, S43_543, S43_544, S43_545, S43_546, S43_547, S43_548, S43_549, S43_550, S43_551, S43_552, S43_553, S43_554, S43, ↓XX, ↓reduceIte, Nat.reduceBEq, decide_true, decide_false, Bool.not_true, Bool.not_false, List.map_cons, List.map_nil, List.length_map, List.length_cons, List.length_nil, Nat.reduceAdd, Int.cast_ofNat_Int, Int.natCast_zero, Int.natCast_one, Bool.false_eq_true, Bool.true_eq_false, decide_eq_true_eq, eq_self, Int.reduceEq, Int.reduceLT, Int.reduceLE, Bool.and_true, Bool.true_and, Bool.and_false, Bool.false_and, Nat.zero_add, ↓iso_2 hof, ↓ixt0, ↓ixt1, ↓iso_3 ha, h]; first | exact ans_fv _ _ | exact ans_t rfl (by simp) _
    by_cases o4 : op = 20 ∨ op = 29
    · have hk2 : kidsN op = 2 := by rcases o4 with rfl | rfl <;> rfl
      obtain ⟨a, b, rfl⟩ := len2 (hk.trans hk2)
      simp only [Tm.wtL] at hw hl hn
      have hpb := wt_pos b
      have hty := rtype_ok (k + 1 + 1) a (by omega) (by omega)
      rw [rty_typed a hsl.1] at hty
      have hpl := plus11_ok (n := k + 1 + 1) g a (by omega) (by omega)
      cases hta : a.typed
      · rw [hta] at hty
        have : (Tm.mk op m [a, b]).inf g = (10, .z) := by rcases o4 with rfl | rfl <;> simp [Tm.inf, hta]
        rw [this]
        refine ansTe (u := tI) ?_ (by decide)
        obtain ⟨o1, n1, k1⟩ := a
        obtain ⟨o2, n2, k2⟩ := b
        simp only [enc_mk, tI, List.map_cons, List.map_nil] at hty ⊢
        rcases o4 with rfl | rfl <;> (simp only [S43_486, S43_487, S43_488, S43_489, S43_490, S43_491, S43_492, S43_493, S43_494, S43_495, S43_496, S43_497, S43_498, S43_499, S43_500, S43_501, S43_502, S43_503, S43_504, S43_505, S43_506, S43_507, S43_508, S43_509, S43_510, S43_511, S43_512, S43_513, S43_514, S43_515, S43_516, S43_517, S43_518, S43_519, S43_520, S43_521, S43_522, S43_523, S43_524, S43_525, S43_526, S43_527, S43_528, S43_529, S43_530, S43_531, S43_532, S43_533, S43_534, S43_535, S43_536, S43_537, S43_538, S43_539, S43_540, S43_541, S43_542, S43_543, S43_544, S43_545, S43_546, S43_547, S43_548, S43_549, S43_550, S43_551, S43_552, S43_553, S43_554, S43, ↓XX, ↓reduceIte, Nat.reduceBEq, decide_true, decide_false, Bool.not_true, Bool.not_false, List.map_cons, List.map_nil, List.length_map, List.length_cons, List.length_nil, Nat.reduceAdd, Int.cast_ofNat_Int, Int.natCast_zero, Int.natCast_one, Bool.false_eq_true, Bool.true_eq_false, decide_eq_true_eq, eq_self, Int.reduceEq, Int.reduceLT, Int.reduceLE, Bool.and_true, Bool.true_and, Bool.and_false, Bool.false_and, Nat.zero_add, ↓iso_2 hof, ↓ixt0, ↓ixt1, ↓iso_1 hty]; first | exact ans_fv _ _ | exact ans_t rfl (by simp) _)
      · rw [hta] at hty
        rcases o4 with rfl | rfl
        · have hb := hI b (g ++ [a]) (k + 1) (by omega) hsl.2.1 (by omega) (hgx a ⟨hta, by omega⟩) (by simp; omega) (by omega)
          have htb := hti _ b (g ++ [a]) (Nat.lt_succ_self _) (by omega) (hgx a ⟨hta, by omega⟩) hsl.2.1
          rw [Tm.inf]
          simp only [hta, if_true, Int.reduceEq, if_false, madeM]
          generalize b.inf (g ++ [a]) = q at hb htb ⊢
          obtain ⟨e, r⟩ := q
          simp only at hb htb ⊢
          generalize hu : (if e = 0 then r else Tm.z) = u at hb
          have hof2 := t_ok (n := k + 1 + 1) (by omega) 16 [a, u]
          have hm := rmade_ok (n := k + 1 + 1) (.mk 16 0 [a, u]) e (by omega) (fun h => by rw [if_pos h] at hu; subst hu; have := (htb h).2; simp only [Tm.wt, Tm.wtL]; omega)
          refine ⟨.mk 16 0 [a, u], ?_, fun h0 => ?_⟩
          · have e1 : (if e = 0 then (((Tm.mk 16 0 [a, r]).chk 0 1).2, Tm.mk 16 0 [a, r]) else (e, .z)).1 = (if e = 0 then ((Tm.mk 16 0 [a, u]).chk 0 1).2 else e) := by
              by_cases h : e = 0
              · rw [if_pos h] at hu; rw [if_pos h, if_pos h, hu]
              · rw [if_neg h, if_neg h]
            rw [e1]
            generalize (if e = 0 then ((Tm.mk 16 0 [a, u]).chk 0 1).2 else e) = w at hm ⊢
            clear hu e1 htb
            obtain ⟨o1, n1, k1⟩ := a
            obtain ⟨o2, n2, k2⟩ := b
            obtain ⟨o3, n3, k3⟩ := u
            simp only [enc_mk, List.map_cons, List.map_nil, List.map_append] at hty hpl hb hof2 hm ⊢
            simp only [S43_486, S43_487, S43_488, S43_489, S43_490, S43_491, S43_492, S43_493, S43_494, S43_495, S43_496, S43_497, S43_498, S43_499, S43_500, S43_501, S43_502, S43_503, S43_504, S43_505, S43_506, S43_507, S43_508, S43_509, S43_510, S43_511, S43_512, S43_513, S43_514, S43_515, S43_516, S43_517, S43_518, S43_519, S43_520, S43_521, S43_522, S43_523, S43_524, S43_525, S43_526, S43_527, S43_528, S43_529, S43_530, S43_531, S43_532, S43_533, S43_534, S43_535, S43_536, S43_537, S43_538, S43_539, S43_540, S43_541, S43_542, S43_543, S43_544, S43_545, S43_546, S43_547, S43_548, S43_549, S43_550, S43_551, S43_552, S43_553, S43_554, S43, ↓XX, ↓reduceIte, Nat.reduceBEq, decide_true, decide_false, Bool.not_true, Bool.not_false, List.map_cons, List.map_nil, List.length_map, List.length_cons, List.length_nil, Nat.reduceAdd, Int.cast_ofNat_Int, Int.natCast_zero, Int.natCast_one, Bool.false_eq_true, Bool.true_eq_false, decide_eq_true_eq, eq_self, Int.reduceEq, Int.reduceLT, Int.reduceLE, Bool.and_true, Bool.true_and, Bool.and_false, Bool.false_and, Nat.zero_add, ↓iso_2 hof, ↓ixt0, ↓ixt1, ↓iso_1 hty, ↓iso_2 hpl, ↓iso_2 hb, ↓bs2_g, ↓iso_2 hof2, ↓iso_2 hm]; first | exact ans_fv _ _ | exact ans_t rfl (by simp) _
          · by_cases h : e = 0
            · rw [if_pos h] at hu; rw [if_pos h, hu]
            · rw [if_neg h] at h0; exact absurd h0 h
        · have hc := hck b a (g ++ [a]) k (by omega) hsl.2.1 (by omega) (hgx a ⟨hta, by omega⟩) (by simp; omega) (by omega) (by omega)
          rw [Tm.inf]
          simp only [hta, if_true, Int.reduceEq, if_false]
          refine ansT ?_
          generalize chkT (b.inf (g ++ [a])) a = w at hc ⊢
          obtain ⟨o1, n1, k1⟩ := a
          obtain ⟨o2, n2, k2⟩ := b
          simp only [enc_mk, List.map_cons, List.map_nil, List.map_append] at hty hpl hc ⊢
          simp only [S43_486, S43_487, S43_488, S43_489, S43_490, S43_491, S43_492, S43_493, S43_494, S43_495, S43_496, S43_497, S43_498, S43_499, S43_500, S43_501, S43_502, S43_503, S43_504, S43_505, S43_506, S43_507, S43_508, S43_509, S43_510, S43_511, S43_512, S43_513, S43_514, S43_515, S43_516, S43_517, S43_518, S43_519, S43_520, S43_521, S43_522, S43_523, S43_524, S43_525, S43_526, S43_527, S43_528, S43_529, S43_530, S43_531, S43_532, S43_533, S43_534, S43_535, S43_536, S43_537, S43_538, S43_539, S43_540, S43_541, S43_542, S43_543, S43_544, S43_545, S43_546, S43_547, S43_548, S43_549, S43_550, S43_551, S43_552, S43_553, S43_554, S43, ↓XX, ↓reduceIte, Nat.reduceBEq, decide_true, decide_false, Bool.not_true, Bool.not_false, List.map_cons, List.map_nil, List.length_map, List.length_cons, List.length_nil, Nat.reduceAdd, Int.cast_ofNat_Int, Int.natCast_zero, Int.natCast_one, Bool.false_eq_true, Bool.true_eq_false, decide_eq_true_eq, eq_self, Int.reduceEq, Int.reduceLT, Int.reduceLE, Bool.and_true, Bool.true_and, Bool.and_false, Bool.false_and, Nat.zero_add, ↓iso_2 hof, ↓ixt0, ↓ixt1, ↓iso_1 hty, ↓iso_2 hpl, ↓iso_3 hc]; first | exact ans_fv _ _ | exact ans_t rfl (by simp) _
    have o7 : op ≠ 20 := fun h => o4 (.inl h)
    have o8 : op ≠ 29 := fun h => o4 (.inr h)
    by_cases o5 : op = 28
    · subst o5
      obtain ⟨a, b, rfl⟩ := len2 hk
      simp only [Tm.wtL] at hw hl hn
      have hpa := wt_pos a
      have hpb := wt_pos b
      have hta := hti _ a g (Nat.lt_succ_self _) (by omega) hg hsl.1
      have hu := hI a g (k + 1) (by omega) hsl.1 (by omega) hg (by omega) (by omega)
      rw [Tm.inf, if_neg (by decide), if_neg (by decide), if_neg (by decide), if_pos rfl]
      generalize a.inf g = q at hu hta ⊢
      obtain ⟨e, u⟩ := q
      simp only at hu hta ⊢
      by_cases h : e = 0
      · subst h
        rw [if_pos rfl] at hu ⊢
        have hwi := plus11_ok (n := k + 1 + 1) g u (by omega) (by omega)
        have hv2 := hI b (g ++ [u]) (k + 1) (by omega) hsl.2.1 (by omega) (hgx u (hta rfl)) (by simp; omega) (by omega)
        refine ⟨if (b.inf (g ++ [u])).1 = 0 then (b.inf (g ++ [u])).2 else .z, ?_, fun h0 => if_pos h0⟩
        generalize b.inf (g ++ [u]) = q at hv2 ⊢
        generalize (if q.1 = 0 then q.2 else Tm.z) = v at hv2 ⊢
        obtain ⟨o1, n1, k1⟩ := a
        obtain ⟨o2, n2, k2⟩ := b
        obtain ⟨o3, n3, k3⟩ := u
        obtain ⟨o4, n4, k4⟩ := v
        simp only [enc_mk, List.map_cons, List.map_nil, List.map_append] at hu hv2 hwi ⊢
        simp only [S43_486, S43_487, S43_488, S43_489, S43_490, S43_491, S43_492, S43_493, S43_494, S43_495, S43_496, S43_497, S43_498, S43_499, S43_500, S43_501, S43_502, S43_503, S43_504, S43_505, S43_506, S43_507, S43_508, S43_509, S43_510, S43_511, S43_512, S43_513, S43_514, S43_515, S43_516, S43_517, S43_518, S43_519, S43_520, S43_521, S43_522, S43_523, S43_524, S43_525, S43_526, S43_527, S43_528, S43_529, S43_530, S43_531, S43_532, S43_533, S43_534, S43_535, S43_536, S43_537, S43_538, S43_539, S43_540, S43_541, S43_542, S43_543, S43_544, S43_545, S43_546, S43_547, S43_548, S43_549, S43_550, S43_551, S43_552, S43_553, S43_554, S43, ↓XX, ↓reduceIte, Nat.reduceBEq, decide_true, decide_false, Bool.not_true, Bool.not_false, List.map_cons, List.map_nil, List.length_map, List.length_cons, List.length_nil, Nat.reduceAdd, Int.cast_ofNat_Int, Int.natCast_zero, Int.natCast_one, Bool.false_eq_true, Bool.true_eq_false, decide_eq_true_eq, eq_self, Int.reduceEq, Int.reduceLT, Int.reduceLE, Bool.and_true, Bool.true_and, Bool.and_false, Bool.false_and, Nat.zero_add, ↓iso_2 hof, ↓ixt0, ↓ixt1, ↓iso_2 hu, ↓iso_2 hwi, ↓iso_2 hv2]; first | exact ans_fv _ _ | exact ans_t rfl (by simp) _
      · rw [if_neg h] at hu ⊢
        refine ansTe (u := .z) ?_ h
        obtain ⟨o1, n1, k1⟩ := a
        obtain ⟨o2, n2, k2⟩ := b
        simp only [Tm.z, enc_mk, List.map_cons, List.map_nil] at hu ⊢
        simp only [S43_486, S43_487, S43_488, S43_489, S43_490, S43_491, S43_492, S43_493, S43_494, S43_495, S43_496, S43_497, S43_498, S43_499, S43_500, S43_501, S43_502, S43_503, S43_504, S43_505, S43_506, S43_507, S43_508, S43_509, S43_510, S43_511, S43_512, S43_513, S43_514, S43_515, S43_516, S43_517, S43_518, S43_519, S43_520, S43_521, S43_522, S43_523, S43_524, S43_525, S43_526, S43_527, S43_528, S43_529, S43_530, S43_531, S43_532, S43_533, S43_534, S43_535, S43_536, S43_537, S43_538, S43_539, S43_540, S43_541, S43_542, S43_543, S43_544, S43_545, S43_546, S43_547, S43_548, S43_549, S43_550, S43_551, S43_552, S43_553, S43_554, S43, ↓XX, ↓reduceIte, Nat.reduceBEq, decide_true, decide_false, Bool.not_true, Bool.not_false, List.map_cons, List.map_nil, List.length_map, List.length_cons, List.length_nil, Nat.reduceAdd, Int.cast_ofNat_Int, Int.natCast_zero, Int.natCast_one, Bool.false_eq_true, Bool.true_eq_false, decide_eq_true_eq, eq_self, Int.reduceEq, Int.reduceLT, Int.reduceLE, Bool.and_true, Bool.true_and, Bool.and_false, Bool.false_and, Nat.zero_add, ↓iso_2 hof, ↓ixt0, ↓ixt1, ↓iso_2 hu, h]; first | exact ans_fv _ _ | exact ans_t rfl (by simp) _
    by_cases o6 : op = 27
    · subst o6
      obtain ⟨a, b, c, rfl⟩ := len3 hk
      simp only [Tm.wtL] at hw hl hn
      have ha := hck a tI g k (by omega) hsl.1 (by omega) hg (by omega) (by omega) htw
      rw [Tm.inf, if_pos rfl]
      generalize chkT (a.inf g) tI = x at ha ⊢
      by_cases h : x = 0
      · subst h
        rw [if_pos rfl]
        have hu := hI b g (k + 1) (by omega) hsl.2.1 (by omega) hg (by omega) (by omega)
        have htb := hti _ b g (Nat.lt_succ_self _) (by omega) hg hsl.2.1
        have hc := fun (y : Tm) (hy : y.wt ≤ M) => hck c y g k (by omega) hsl.2.2.1 (by omega) hg (by omega) (by omega) hy
        generalize b.inf g = q at hu htb ⊢
        obtain ⟨e, u⟩ := q
        simp only at hu htb ⊢
        by_cases h : e = 0
        · subst h
          rw [if_pos rfl] at hu ⊢
          have hc := hc u (htb rfl).2
          refine ansT ?_
          generalize chkT (c.inf g) u = w at hc ⊢
          obtain ⟨o1, n1, k1⟩ := a
          obtain ⟨o2, n2, k2⟩ := b
          obtain ⟨o3, n3, k3⟩ := c
          obtain ⟨o4, n4, k4⟩ := u
          simp only [enc_mk, tI, List.map_cons, List.map_nil] at ha hu hc ⊢
          simp only [S43_486, S43_487, S43_488, S43_489, S43_490, S43_491, S43_492, S43_493, S43_494, S43_495, S43_496, S43_497, S43_498, S43_499, S43_500, S43_501, S43_502, S43_503, S43_504, S43_505, S43_506, S43_507, S43_508, S43_509, S43_510, S43_511, S43_512, S43_513, S43_514, S43_515, S43_516, S43_517, S43_518, S43_519, S43_520, S43_521, S43_522, S43_523, S43_524, S43_525, S43_526, S43_527, S43_528, S43_529, S43_530, S43_531, S43_532, S43_533, S43_534, S43_535, S43_536, S43_537, S43_538, S43_539, S43_540, S43_541, S43_542, S43_543, S43_544, S43_545, S43_546, S43_547, S43_548, S43_549, S43_550, S43_551, S43_552, S43_553, S43_554, S43, ↓XX, ↓reduceIte, Nat.reduceBEq, decide_true, decide_false, Bool.not_true, Bool.not_false, List.map_cons, List.map_nil, List.length_map, List.length_cons, List.length_nil, Nat.reduceAdd, Int.cast_ofNat_Int, Int.natCast_zero, Int.natCast_one, Bool.false_eq_true, Bool.true_eq_false, decide_eq_true_eq, eq_self, Int.reduceEq, Int.reduceLT, Int.reduceLE, Bool.and_true, Bool.true_and, Bool.and_false, Bool.false_and, Nat.zero_add, ↓iso_2 hof, ↓ixt0, ↓ixt1, ↓ixt2, ↓iso_3 ha, ↓iso_2 hu, ↓iso_3 hc]; first | exact ans_fv _ _ | exact ans_t rfl (by simp) _
        · rw [if_neg h] at hu ⊢
          refine ansTe (u := .z) ?_ h
          obtain ⟨o1, n1, k1⟩ := a
          obtain ⟨o2, n2, k2⟩ := b
          obtain ⟨o3, n3, k3⟩ := c
          simp only [enc_mk, tI, Tm.z, List.map_cons, List.map_nil] at ha hu ⊢
          simp only [S43_486, S43_487, S43_488, S43_489, S43_490, S43_491, S43_492, S43_493, S43_494, S43_495, S43_496, S43_497, S43_498, S43_499, S43_500, S43_501, S43_502, S43_503, S43_504, S43_505, S43_506, S43_507, S43_508, S43_509, S43_510, S43_511, S43_512, S43_513, S43_514, S43_515, S43_516, S43_517, S43_518, S43_519, S43_520, S43_521, S43_522, S43_523, S43_524, S43_525, S43_526, S43_527, S43_528, S43_529, S43_530, S43_531, S43_532, S43_533, S43_534, S43_535, S43_536, S43_537, S43_538, S43_539, S43_540, S43_541, S43_542, S43_543, S43_544, S43_545, S43_546, S43_547, S43_548, S43_549, S43_550, S43_551, S43_552, S43_553, S43_554, S43, ↓XX, ↓reduceIte, Nat.reduceBEq, decide_true, decide_false, Bool.not_true, Bool.not_false, List.map_cons, List.map_nil, List.length_map, List.length_cons, List.length_nil, Nat.reduceAdd, Int.cast_ofNat_Int, Int.natCast_zero, Int.natCast_one, Bool.false_eq_true, Bool.true_eq_false, decide_eq_true_eq, eq_self, Int.reduceEq, Int.reduceLT, Int.reduceLE, Bool.and_true, Bool.true_and, Bool.and_false, Bool.false_and, Nat.zero_add, ↓iso_2 hof, ↓ixt0, ↓ixt1, ↓ixt2, ↓iso_3 ha, ↓iso_2 hu, h]; first | exact ans_fv _ _ | exact ans_t rfl (by simp) _
      · rw [if_neg h]
        refine ansTe (u := tI) ?_ h
        obtain ⟨o1, n1, k1⟩ := a
        obtain ⟨o2, n2, k2⟩ := b
        obtain ⟨o3, n3, k3⟩ := c
        simp only [enc_mk, tI, List.map_cons, List.map_nil] at ha ⊢
        simp only [S43_486, S43_487, S43_488, S43_489, S43_490, S43_491, S43_492, S43_493, S43_494, S43_495, S43_496, S43_497, S43_498, S43_499, S43_500, S43_501, S43_502, S43_503, S43_504, S43_505, S43_506, S43_507, S43_508, S43_509, S43_510, S43_511, S43_512, S43_513, S43_514, S43_515, S43_516, S43_517, S43_518, S43_519, S43_520, S43_521, S43_522, S43_523, S43_524, S43_525, S43_526, S43_527, S43_528, S43_529, S43_530, S43_531, S43_532, S43_533, S43_534, S43_535, S43_536, S43_537, S43_538, S43_539, S43_540, S43_541, S43_542, S43_543, S43_544, S43_545, S43_546, S43_547, S43_548, S43_549, S43_550, S43_551, S43_552, S43_553, S43_554, S43, ↓XX, ↓reduceIte, Nat.reduceBEq, decide_true, decide_false, Bool.not_true, Bool.not_false, List.map_cons, List.map_nil, List.length_map, List.length_cons, List.length_nil, Nat.reduceAdd, Int.cast_ofNat_Int, Int.natCast_zero, Int.natCast_one, Bool.false_eq_true, Bool.true_eq_false, decide_eq_true_eq, eq_self, Int.reduceEq, Int.reduceLT, Int.reduceLE, Bool.and_true, Bool.true_and, Bool.and_false, Bool.false_and, Nat.zero_add, ↓iso_2 hof, ↓ixt0, ↓ixt1, ↓ixt2, ↓iso_3 ha, h]; first | exact ans_fv _ _ | exact ans_t rfl (by simp) _
    by_cases p3 : op = 22
    · subst p3
      obtain ⟨a, b, rfl⟩ := len2 hk
      simp only [Tm.wtL] at hw hl hn
      have hpa := wt_pos a
      have hpb := wt_pos b
      have hta := hti _ a g (Nat.lt_succ_self _) (by omega) hg hsl.1
      have htb := hti _ b g (Nat.lt_succ_self _) (by omega) hg hsl.2.1
      have hu := hI a g (k + 1) (by omega) hsl.1 (by omega) hg (by omega) (by omega)
      have hb := hI b g (k + 1) (by omega) hsl.2.1 (by omega) hg (by omega) (by omega)
      rw [Tm.inf]
      simp only [Int.reduceEq, if_false, if_true]
      generalize a.inf g = q at hu hta ⊢
      obtain ⟨e, u⟩ := q
      simp only at hu hta ⊢
      by_cases h : e = 0
      · subst h
        rw [if_pos rfl] at hu ⊢
        unfold madeM
        generalize b.inf g = q at hb htb ⊢
        obtain ⟨e, r⟩ := q
        simp only at hb htb ⊢
        generalize hv : (if e = 0 then r else Tm.z) = v at hb
        have hof2 := t_ok (n := k + 1 + 1) (by omega) 17 [u, v]
        have hm := rmade_ok (n := k + 1 + 1) (.mk 17 0 [u, v]) e (by omega) (fun h => by rw [if_pos h] at hv; subst hv; have := (htb h).2; have := (hta rfl).2; simp only [Tm.wt, Tm.wtL]; omega)
        refine ⟨.mk 17 0 [u, v], ?_, fun h0 => ?_⟩
        · have e1 : (if e = 0 then (((Tm.mk 17 0 [u, r]).chk 0 1).2, Tm.mk 17 0 [u, r]) else (e, .z)).1 = (if e = 0 then ((Tm.mk 17 0 [u, v]).chk 0 1).2 else e) := by
            by_cases h : e = 0
            · rw [if_pos h] at hv; rw [if_pos h, if_pos h, hv]
            · rw [if_neg h, if_neg h]
          rw [e1]
          generalize (if e = 0 then ((Tm.mk 17 0 [u, v]).chk 0 1).2 else e) = w at hm ⊢
          clear hv e1 htb hta
          obtain ⟨o1, n1, k1⟩ := a
          obtain ⟨o2, n2, k2⟩ := b
          obtain ⟨o3, n3, k3⟩ := u
          obtain ⟨o4, n4, k4⟩ := v
          simp only [enc_mk, List.map_cons, List.map_nil] at hu hb hof2 hm ⊢
          simp only [S43_486, S43_487, S43_488, S43_489, S43_490, S43_491, S43_492, S43_493, S43_494, S43_495, S43_496, S43_497, S43_498, S43_499, S43_500, S43_501, S43_502, S43_503, S43_504, S43_505, S43_506, S43_507, S43_508, S43_509, S43_510, S43_511, S43_512, S43_513, S43_514, S43_515, S43_516, S43_517, S43_518, S43_519, S43_520, S43_521, S43_522, S43_523, S43_524, S43_525, S43_526, S43_527, S43_528, S43_529, S43_530, S43_531, S43_532, S43_533, S43_534, S43_535, S43_536, S43_537, S43_538, S43_539, S43_540, S43_541, S43_542, S43_543, S43_544, S43_545, S43_546, S43_547, S43_548, S43_549, S43_550, S43_551, S43_552, S43_553, S43_554, S43, ↓XX, ↓reduceIte, Nat.reduceBEq, decide_true, decide_false, Bool.not_true, Bool.not_false, List.map_cons, List.map_nil, List.length_map, List.length_cons, List.length_nil, Nat.reduceAdd, Int.cast_ofNat_Int, Int.natCast_zero, Int.natCast_one, Bool.false_eq_true, Bool.true_eq_false, decide_eq_true_eq, eq_self, Int.reduceEq, Int.reduceLT, Int.reduceLE, Bool.and_true, Bool.true_and, Bool.and_false, Bool.false_and, Nat.zero_add, ↓iso_2 hof, ↓ixt0, ↓ixt1, ↓iso_2 hu, ↓iso_2 hb, ↓bs2_g, ↓iso_2 hof2, ↓iso_2 hm]; first | exact ans_fv _ _ | exact ans_t rfl (by simp) _
        · by_cases h : e = 0
          · rw [if_pos h] at hv; rw [if_pos h, hv]
          · rw [if_neg h] at h0; exact absurd h0 h
      · rw [if_neg h] at hu ⊢
        refine ansTe (u := .z) ?_ h
        obtain ⟨o1, n1, k1⟩ := a
        obtain ⟨o2, n2, k2⟩ := b
        simp only [enc_mk, Tm.z, List.map_cons, List.map_nil] at hu ⊢
        simp only [S43_486, S43_487, S43_488, S43_489, S43_490, S43_491, S43_492, S43_493, S43_494, S43_495, S43_496, S43_497, S43_498, S43_499, S43_500, S43_501, S43_502, S43_503, S43_504, S43_505, S43_506, S43_507, S43_508, S43_509, S43_510, S43_511, S43_512, S43_513, S43_514, S43_515, S43_516, S43_517, S43_518, S43_519, S43_520, S43_521, S43_522, S43_523, S43_524, S43_525, S43_526, S43_527, S43_528, S43_529, S43_530, S43_531, S43_532, S43_533, S43_534, S43_535, S43_536, S43_537, S43_538, S43_539, S43_540, S43_541, S43_542, S43_543, S43_544, S43_545, S43_546, S43_547, S43_548, S43_549, S43_550, S43_551, S43_552, S43_553, S43_554, S43, ↓XX, ↓reduceIte, Nat.reduceBEq, decide_true, decide_false, Bool.not_true, Bool.not_false, List.map_cons, List.map_nil, List.length_map, List.length_cons, List.length_nil, Nat.reduceAdd, Int.cast_ofNat_Int, Int.natCast_zero, Int.natCast_one, Bool.false_eq_true, Bool.true_eq_false, decide_eq_true_eq, eq_self, Int.reduceEq, Int.reduceLT, Int.reduceLE, Bool.and_true, Bool.true_and, Bool.and_false, Bool.false_and, Nat.zero_add, ↓iso_2 hof, ↓ixt0, ↓ixt1, ↓iso_2 hu, h]; first | exact ans_fv _ _ | exact ans_t rfl (by simp) _
    by_cases p2 : op = 21
    · subst p2
      obtain ⟨a, b, rfl⟩ := len2 hk
      simp only [Tm.wtL] at hw hl hn
      have hta := hti _ a g (Nat.lt_succ_self _) (by omega) hg hsl.1
      have hu := hI a g (k + 1) (by omega) hsl.1 (by omega) hg (by omega) (by omega)
      have hc := fun (y : Tm) (hy : y.wt ≤ M) => hck b y g k (by omega) hsl.2.1 (by omega) hg (by omega) (by omega) hy
      rw [Tm.inf]
      simp only [Int.reduceEq, if_false, if_true]
      generalize a.inf g = q at hu hta ⊢
      obtain ⟨e, u⟩ := q
      simp only at hu hta ⊢
      by_cases h : e = 0
      · subst h
        rw [if_pos rfl] at hu ⊢
        by_cases h2 : u.op = 16
        · rw [if_pos h2]
          obtain ⟨x, y, hxy⟩ := fun_parts (.inl rfl) (hta rfl).1 h2
          have hc := hc (u.kid 0) (by have := part_wt hxy; have := (hta rfl).2; omega)
          obtain ⟨o3, n3, k3⟩ := u
          simp only [Tm.kids, Tm.op] at hxy h2
          subst hxy h2
          have e0 : (Tm.mk 16 n3 [x, y]).kid 0 = x := rfl
          have e1 : (Tm.mk 16 n3 [x, y]).kid 1 = y := rfl
          rw [e0] at hc ⊢
          rw [e1]
          by_cases h3 : chkT (b.inf g) x = 0
          · rw [h3] at hc ⊢
            refine ansT ?_
            obtain ⟨o1, n1, k1⟩ := a
            obtain ⟨o2, n2, k2⟩ := b
            obtain ⟨o3, n3, k3⟩ := x
            obtain ⟨o4, n4, k4⟩ := y
            simp only [enc_mk, List.map_cons, List.map_nil] at hu hc ⊢
            simp only [S43_486, S43_487, S43_488, S43_489, S43_490, S43_491, S43_492, S43_493, S43_494, S43_495, S43_496, S43_497, S43_498, S43_499, S43_500, S43_501, S43_502, S43_503, S43_504, S43_505, S43_506, S43_507, S43_508, S43_509, S43_510, S43_511, S43_512, S43_513, S43_514, S43_515, S43_516, S43_517, S43_518, S43_519, S43_520, S43_521, S43_522, S43_523, S43_524, S43_525, S43_526, S43_527, S43_528, S43_529, S43_530, S43_531, S43_532, S43_533, S43_534, S43_535, S43_536, S43_537, S43_538, S43_539, S43_540, S43_541, S43_542, S43_543, S43_544, S43_545, S43_546, S43_547, S43_548, S43_549, S43_550, S43_551, S43_552, S43_553, S43_554, S43, ↓XX, ↓reduceIte, Nat.reduceBEq, decide_true, decide_false, Bool.not_true, Bool.not_false, List.map_cons, List.map_nil, List.length_map, List.length_cons, List.length_nil, Nat.reduceAdd, Int.cast_ofNat_Int, Int.natCast_zero, Int.natCast_one, Bool.false_eq_true, Bool.true_eq_false, decide_eq_true_eq, eq_self, Int.reduceEq, Int.reduceLT, Int.reduceLE, Bool.and_true, Bool.true_and, Bool.and_false, Bool.false_and, Nat.zero_add, ↓iso_2 hof, ↓ixt0, ↓ixt1, ↓iso_2 hu, ↓iso_3 hc]; first | exact ans_fv _ _ | exact ans_t rfl (by simp) _
          · refine ansTe (u := tI) ?_ h3
            generalize chkT (b.inf g) x = w at hc h3 ⊢
            obtain ⟨o1, n1, k1⟩ := a
            obtain ⟨o2, n2, k2⟩ := b
            obtain ⟨o3, n3, k3⟩ := x
            obtain ⟨o4, n4, k4⟩ := y
            simp only [enc_mk, tI, List.map_cons, List.map_nil] at hu hc ⊢
            simp only [S43_486, S43_487, S43_488, S43_489, S43_490, S43_491, S43_492, S43_493, S43_494, S43_495, S43_496, S43_497, S43_498, S43_499, S43_500, S43_501, S43_502, S43_503, S43_504, S43_505, S43_506, S43_507, S43_508, S43_509, S43_510, S43_511, S43_512, S43_513, S43_514, S43_515, S43_516, S43_517, S43_518, S43_519, S43_520, S43_521, S43_522, S43_523, S43_524, S43_525, S43_526, S43_527, S43_528, S43_529, S43_530, S43_531, S43_532, S43_533, S43_534, S43_535, S43_536, S43_537, S43_538, S43_539, S43_540, S43_541, S43_542, S43_543, S43_544, S43_545, S43_546, S43_547, S43_548, S43_549, S43_550, S43_551, S43_552, S43_553, S43_554, S43, ↓XX, ↓reduceIte, Nat.reduceBEq, decide_true, decide_false, Bool.not_true, Bool.not_false, List.map_cons, List.map_nil, List.length_map, List.length_cons, List.length_nil, Nat.reduceAdd, Int.cast_ofNat_Int, Int.natCast_zero, Int.natCast_one, Bool.false_eq_true, Bool.true_eq_false, decide_eq_true_eq, eq_self, Int.reduceEq, Int.reduceLT, Int.reduceLE, Bool.and_true, Bool.true_and, Bool.and_false, Bool.false_and, Nat.zero_add, ↓iso_2 hof, ↓ixt0, ↓ixt1, ↓iso_2 hu, ↓iso_3 hc, h3]; first | exact ans_fv _ _ | exact ans_t rfl (by simp) _
        · rw [if_neg h2]
          refine ansTe (u := tI) ?_ (by decide)
          obtain ⟨o1, n1, k1⟩ := a
          obtain ⟨o2, n2, k2⟩ := b
          obtain ⟨o3, n3, k3⟩ := u
          simp only [Tm.op] at h2
          simp only [enc_mk, tI, List.map_cons, List.map_nil] at hu ⊢
          simp only [S43_486, S43_487, S43_488, S43_489, S43_490, S43_491, S43_492, S43_493, S43_494, S43_495, S43_496, S43_497, S43_498, S43_499, S43_500, S43_501, S43_502, S43_503, S43_504, S43_505, S43_506, S43_507, S43_508, S43_509, S43_510, S43_511, S43_512, S43_513, S43_514, S43_515, S43_516, S43_517, S43_518, S43_519, S43_520, S43_521, S43_522, S43_523, S43_524, S43_525, S43_526, S43_527, S43_528, S43_529, S43_530, S43_531, S43_532, S43_533, S43_534, S43_535, S43_536, S43_537, S43_538, S43_539, S43_540, S43_541, S43_542, S43_543, S43_544, S43_545, S43_546, S43_547, S43_548, S43_549, S43_550, S43_551, S43_552, S43_553, S43_554, S43, ↓XX, ↓reduceIte, Nat.reduceBEq, decide_true, decide_false, Bool.not_true, Bool.not_false, List.map_cons, List.map_nil, List.length_map, List.length_cons, List.length_nil, Nat.reduceAdd, Int.cast_ofNat_Int, Int.natCast_zero, Int.natCast_one, Bool.false_eq_true, Bool.true_eq_false, decide_eq_true_eq, eq_self, Int.reduceEq, Int.reduceLT, Int.reduceLE, Bool.and_true, Bool.true_and, Bool.and_false, Bool.false_and, Nat.zero_add, ↓iso_2 hof, ↓ixt0, ↓ixt1, ↓iso_2 hu, h2]; first | exact ans_fv _ _ | exact ans_t rfl (by simp) _
      · rw [if_neg h] at hu ⊢
        refine ansTe (u := tI) ?_ h
        obtain ⟨o1, n1, k1⟩ := a
        obtain ⟨o2, n2, k2⟩ := b
        simp only [enc_mk, tI, Tm.z, List.map_cons, List.map_nil] at hu ⊢
        simp only [S43_486, S43_487, S43_488, S43_489, S43_490, S43_491, S43_492, S43_493, S43_494, S43_495, S43_496, S43_497, S43_498, S43_499, S43_500, S43_501, S43_502, S43_503, S43_504, S43_505, S43_506, S43_507, S43_508, S43_509, S43_510, S43_511, S43_512, S43_513, S43_514, S43_515, S43_516, S43_517, S43_518, S43_519, S43_520, S43_521, S43_522, S43_523, S43_524, S43_525, S43_526, S43_527, S43_528, S43_529, S43_530, S43_531, S43_532, S43_533, S43_534, S43_535, S43_536, S43_537, S43_538, S43_539, S43_540, S43_541, S43_542, S43_543, S43_544, S43_545, S43_546, S43_547, S43_548, S43_549, S43_550, S43_551, S43_552, S43_553, S43_554, S43, ↓XX, ↓reduceIte, Nat.reduceBEq, decide_true, decide_false, Bool.not_true, Bool.not_false, List.map_cons, List.map_nil, List.length_map, List.length_cons, List.length_nil, Nat.reduceAdd, Int.cast_ofNat_Int, Int.natCast_zero, Int.natCast_one, Bool.false_eq_true, Bool.true_eq_false, decide_eq_true_eq, eq_self, Int.reduceEq, Int.reduceLT, Int.reduceLE, Bool.and_true, Bool.true_and, Bool.and_false, Bool.false_and, Nat.zero_add, ↓iso_2 hof, ↓ixt0, ↓ixt1, ↓iso_2 hu, h]; first | exact ans_fv _ _ | exact ans_t rfl (by simp) _
    by_cases p1 : op = 23 ∨ op = 24
    · have hk2 : kidsN op = 1 := by rcases p1 with rfl | rfl <;> rfl
      obtain ⟨a, rfl⟩ := len1 (hk.trans hk2)
      simp only [Tm.wtL] at hw hl hn
      have hta := hti _ a g (Nat.lt_succ_self _) (by omega) hg hsl.1
      have hu := hI a g (k + 1) (by omega) hsl.1 (by omega) hg (by omega) (by omega)
      have hz : AnsT (S43 (SS dt (k + 1 + 1)) (k + 1 + 1) (.fv (.sl (g.map Tm.enc))) (.fv (Tm.mk op m [a]).enc) ⟨[], []⟩) (if (a.inf g).1 = 0 then (if (a.inf g).2.op = 17 then (0, (a.inf g).2.kid (if op = 23 then 0 else 1)) else (12, .z)) else ((a.inf g).1, .z)) := by
        generalize a.inf g = q at hu hta ⊢
        obtain ⟨e, u⟩ := q
        simp only at hu hta ⊢
        by_cases h : e = 0
        · subst h
          rw [if_pos rfl] at hu ⊢
          by_cases h2 : u.op = 17
          · rw [if_pos h2]
            obtain ⟨x, y, hxy⟩ := fun_parts (.inr rfl) (hta rfl).1 h2
            obtain ⟨o3, n3, k3⟩ := u
            simp only [Tm.kids, Tm.op] at hxy h2
            subst hxy h2
            have w0 : w64 0 = 0 := by rw [w64_id] <;> omega
            have w1 : w64 1 = 1 := by rw [w64_id] <;> omega
            rcases p1 with rfl | rfl
            · refine ansT ?_
              have e0 : (Tm.mk 17 n3 [x, y]).kid (if (23 : Int) = 23 then 0 else 1) = x := rfl
              rw [e0]
              obtain ⟨o1, n1, k1⟩ := a
              obtain ⟨o3, n3, k3⟩ := x
              obtain ⟨o4, n4, k4⟩ := y
              simp only [enc_mk, List.map_cons, List.map_nil] at hu ⊢
              simp only [S43_486, S43_487, S43_488, S43_489, S43_490, S43_491, S43_492, S43_493, S43_494, S43_495, S43_496, S43_497, S43_498, S43_499, S43_500, S43_501, S43_502, S43_503, S43_504, S43_505, S43_506, S43_507, S43_508, S43_509, S43_510, S43_511, S43_512, S43_513, S43_514, S43_515, S43_516, S43_517, S43_518, S43_519, S43_520, S43_521, S43_522, S43_523, S43_524, S43_525, S43_526, S43_527, S43_528, S43_529, S43_530, S43_531, S43_532, S43_533, S43_534, S43_535, S43_536, S43_537, S43_538, S43_539, S43_540, S43_541, S43_542, S43_543, S43_544, S43_545, S43_546, S43_547, S43_548, S43_549, S43_550, S43_551, S43_552, S43_553, S43_554, S43, ↓XX, ↓reduceIte, Nat.reduceBEq, decide_true, decide_false, Bool.not_true, Bool.not_false, List.map_cons, List.map_nil, List.length_map, List.length_cons, List.length_nil, Nat.reduceAdd, Int.cast_ofNat_Int, Int.natCast_zero, Int.natCast_one, Bool.false_eq_true, Bool.true_eq_false, decide_eq_true_eq, eq_self, Int.reduceEq, Int.reduceLT, Int.reduceLE, Bool.and_true, Bool.true_and, Bool.and_false, Bool.false_and, Nat.zero_add, ↓iso_2 hof, Int.reduceSub, w0, ↓ixt0, ↓ixt1, ↓iso_2 hu]; first | exact ans_fv _ _ | exact ans_t rfl (by simp) _
            · refine ansT ?_
              have e0 : (Tm.mk 17 n3 [x, y]).kid (if (24 : Int) = 23 then 0 else 1) = y := rfl
              rw [e0]
              obtain ⟨o1, n1, k1⟩ := a
              obtain ⟨o3, n3, k3⟩ := x
              obtain ⟨o4, n4, k4⟩ := y
              simp only [enc_mk, List.map_cons, List.map_nil] at hu ⊢
              simp only [S43_486, S43_487, S43_488, S43_489, S43_490, S43_491, S43_492, S43_493, S43_494, S43_495, S43_496, S43_497, S43_498, S43_499, S43_500, S43_501, S43_502, S43_503, S43_504, S43_505, S43_506, S43_507, S43_508, S43_509, S43_510, S43_511, S43_512, S43_513, S43_514, S43_515, S43_516, S43_517, S43_518, S43_519, S43_520, S43_521, S43_522, S43_523, S43_524, S43_525, S43_526, S43_527, S43_528, S43_529, S43_530, S43_531, S43_532, S43_533, S43_534, S43_535, S43_536, S43_537, S43_538, S43_539, S43_540, S43_541, S43_542, S43_543, S43_544, S43_545, S43_546, S43_547, S43_548, S43_549, S43_550, S43_551, S43_552, S43_553, S43_554, S43, ↓XX, ↓reduceIte, Nat.reduceBEq, decide_true, decide_false, Bool.not_true, Bool.not_false, List.map_cons, List.map_nil, List.length_map, List.length_cons, List.length_nil, Nat.reduceAdd, Int.cast_ofNat_Int, Int.natCast_zero, Int.natCast_one, Bool.false_eq_true, Bool.true_eq_false, decide_eq_true_eq, eq_self, Int.reduceEq, Int.reduceLT, Int.reduceLE, Bool.and_true, Bool.true_and, Bool.and_false, Bool.false_and, Nat.zero_add, ↓iso_2 hof, Int.reduceSub, w1, ↓ixt0, ↓ixt1, ↓iso_2 hu]; first | exact ans_fv _ _ | exact ans_t rfl (by simp) _
          · rw [if_neg h2]
            refine ansTe (u := tI) ?_ (by decide)
            obtain ⟨o1, n1, k1⟩ := a
            obtain ⟨o3, n3, k3⟩ := u
            simp only [Tm.op] at h2
            simp only [enc_mk, tI, List.map_cons, List.map_nil] at hu ⊢
            rcases p1 with rfl | rfl <;> (simp only [S43_486, S43_487, S43_488, S43_489, S43_490, S43_491, S43_492, S43_493, S43_494, S43_495, S43_496, S43_497, S43_498, S43_499, S43_500, S43_501, S43_502, S43_503, S43_504, S43_505, S43_506, S43_507, S43_508, S43_509, S43_510, S43_511, S43_512, S43_513, S43_514, S43_515, S43_516, S43_517, S43_518, S43_519, S43_520, S43_521, S43_522, S43_523, S43_524, S43_525, S43_526, S43_527, S43_528, S43_529, S43_530, S43_531, S43_532, S43_533, S43_534, S43_535, S43_536, S43_537, S43_538, S43_539, S43_540, S43_541, S43_542, S43_543, S43_544, S43_545, S43_546, S43_547, S43_548, S43_549, S43_550, S43_551, S43_552, S43_553, S43_554, S43, ↓XX, ↓reduceIte, Nat.reduceBEq, decide_true, decide_false, Bool.not_true, Bool.not_false, List.map_cons, List.map_nil, List.length_map, List.length_cons, List.length_nil, Nat.reduceAdd, Int.cast_ofNat_Int, Int.natCast_zero, Int.natCast_one, Bool.false_eq_true, Bool.true_eq_false, decide_eq_true_eq, eq_self, Int.reduceEq, Int.reduceLT, Int.reduceLE, Bool.and_true, Bool.true_and, Bool.and_false, Bool.false_and, Nat.zero_add, ↓iso_2 hof, ↓ixt0, ↓ixt1, ↓iso_2 hu, h2]; first | exact ans_fv _ _ | exact ans_t rfl (by simp) _)
        · rw [if_neg h] at hu ⊢
          refine ansTe (u := tI) ?_ h
          obtain ⟨o1, n1, k1⟩ := a
          simp only [enc_mk, tI, Tm.z, List.map_cons, List.map_nil] at hu ⊢
          rcases p1 with rfl | rfl <;> (simp only [S43_486, S43_487, S43_488, S43_489, S43_490, S43_491, S43_492, S43_493, S43_494, S43_495, S43_496, S43_497, S43_498, S43_499, S43_500, S43_501, S43_502, S43_503, S43_504, S43_505, S43_506, S43_507, S43_508, S43_509, S43_510, S43_511, S43_512, S43_513, S43_514, S43_515, S43_516, S43_517, S43_518, S43_519, S43_520, S43_521, S43_522, S43_523, S43_524, S43_525, S43_526, S43_527, S43_528, S43_529, S43_530, S43_531, S43_532, S43_533, S43_534, S43_535, S43_536, S43_537, S43_538, S43_539, S43_540, S43_541, S43_542, S43_543, S43_544, S43_545, S43_546, S43_547, S43_548, S43_549, S43_550, S43_551, S43_552, S43_553, S43_554, S43, ↓XX, ↓reduceIte, Nat.reduceBEq, decide_true, decide_false, Bool.not_true, Bool.not_false, List.map_cons, List.map_nil, List.length_map, List.length_cons, List.length_nil, Nat.reduceAdd, Int.cast_ofNat_Int, Int.natCast_zero, Int.natCast_one, Bool.false_eq_true, Bool.true_eq_false, decide_eq_true_eq, eq_self, Int.reduceEq, Int.reduceLT, Int.reduceLE, Bool.and_true, Bool.true_and, Bool.and_false, Bool.false_and, Nat.zero_add, ↓iso_2 hof, ↓ixt0, ↓ixt1, ↓iso_2 hu, h]; first | exact ans_fv _ _ | exact ans_t rfl (by simp) _)
      have e : (Tm.mk op m [a]).inf g = (if (a.inf g).1 = 0 then (if (a.inf g).2.op = 17 then (0, (a.inf g).2.kid (if op = 23 then 0 else 1)) else (12, .z)) else ((a.inf g).1, .z)) := by
        rcases p1 with rfl | rfl <;> simp [Tm.inf]
      rw [e]
      exact hz
    have p4 : op ≠ 23 := fun h => p1 (.inl h)
    have p5 : op ≠ 24 := fun h => p1 (.inr h)
    rw [inf_other ⟨o1, o2, p4, p5, o3, o7, o8, o5, p3, p2, o6⟩, enc_mk]
    refine ansTe (u := tI) ?_ (by decide)
    simp only [S43_486, S43_487, S43_488, S43_489, S43_490, S43_491, S43_492, S43_493, S43_494, S43_495, S43_496, S43_497, S43_498, S43_499, S43_500, S43_501, S43_502, S43_503, S43_504, S43_505, S43_506, S43_507, S43_508, S43_509, S43_510, S43_511, S43_512, S43_513, S43_514, S43_515, S43_516, S43_517, S43_518, S43_519, S43_520, S43_521, S43_522, S43_523, S43_524, S43_525, S43_526, S43_527, S43_528, S43_529, S43_530, S43_531, S43_532, S43_533, S43_534, S43_535, S43_536, S43_537, S43_538, S43_539, S43_540, S43_541, S43_542, S43_543, S43_544, S43_545, S43_546, S43_547, S43_548, S43_549, S43_550, S43_551, S43_552, S43_553, S43_554, S43, ↓XX, ↓reduceIte, Nat.reduceBEq, decide_true, decide_false, Bool.not_true, Bool.not_false, List.map_cons, List.map_nil, List.length_map, List.length_cons, List.length_nil, Nat.reduceAdd, Int.cast_ofNat_Int, Int.natCast_zero, Int.natCast_one, Bool.false_eq_true, Bool.true_eq_false, decide_eq_true_eq, eq_self, Int.reduceEq, Int.reduceLT, Int.reduceLE, Bool.and_true, Bool.true_and, Bool.and_false, Bool.false_and, Nat.zero_add, ↓iso_2 hof, o1, o2, p4, p5, o3, o7, o8, o5, p3, p2, o6, tI, enc_mk]; first | exact ans_fv _ _ | exact ans_t rfl (by simp) _
theorem rInfer_ok (M : Nat) (hM : 3000 ≤ M) (hM2 : M ≤ 1000000) (n : Nat) (t : Tm) (g : List Tm) (h1 : t.shp) (h2 : t.wt ≤ M) (h3 : ∀ x ∈ g, x.typed = true ∧ x.wt ≤ M) (h4 : g.length + t.wt ≤ 900000) (h5 : 4 * t.wt + 6 * M + 61 < n) :
    Ans (SS dt n 19 [.fv (.sl (g.map Tm.enc)), .fv t.enc] ⟨[], []⟩) (.tuple [(if (t.inf g).1 = 0 then (t.inf g).2 else .z).enc, .int .i64 (t.inf g).1]) := by
  obtain ⟨n, rfl⟩ : ∃ k, n = k + 1 := ⟨n - 1, by omega⟩
  exact rInfer_of (rinf_ok M hM hM2 n t g h1 h2 h3 h4 (by omega))
end Idl
end Go.Proofs.Ytkfecngimlcfoaa

namespace Go.Proofs.Ytkfecngimlcfoaa
namespace Idl
mutual
def Tm.count : Tm → Int → Int
  | .mk _ _ l, most => Tm.countL l 1 most
def Tm.countL : List Tm → Int → Int → Int
  | [], n, _ => n
  | t :: l, n, most => if n < most then Tm.countL l (n + t.count (most - n)) most else n
end
mutual
theorem count_le : ∀ (t : Tm) (m : Int), 1 ≤ t.count m ∧ (1 ≤ m → t.count m ≤ m)
  | .mk _ _ l, m => by
    have := countL_le l 1 m
    simp only [Tm.count]
    omega
theorem countL_le : ∀ (l : List Tm) (n m : Int), n ≤ Tm.countL l n m ∧ (n ≤ m → Tm.countL l n m ≤ m)
  | [], n, m => by simp only [Tm.countL]; omega
  | t :: l, n, m => by
    simp only [Tm.countL]
    split
    · have h1 := count_le t (m - n)
      have h2 := countL_le l (n + t.count (m - n)) m
      omega
    · omega
end
theorem count_ok : ∀ (n : Nat) (t : Tm) (most : Int), t.wt < n → most ≤ 4611686018427387904 → -4611686018427387904 ≤ most → Ans (SS dt n 36 [.fv t.enc, iv most] ⟨[], []⟩) (.int .i64 (t.count most)) := by
  intro n
  induction n with
  | zero => intro t most h; omega
  | succ n ih =>
    intro t most h hm hm'
    obtain ⟨op, m, ks⟩ := t
    simp only [Tm.wt] at h
    rw [c36, enc_mk]
    simp only [S36_53, S36_54, S36_55, S36_56, S36, ↓XX, ↓reduceIte, Nat.reduceBEq, decide_true, decide_false, Bool.not_true, Bool.not_false, List.map_cons, List.map_nil, List.length_map, List.length_cons, List.length_nil, Nat.reduceAdd, Int.cast_ofNat_Int, Int.natCast_zero, Int.natCast_one, Bool.false_eq_true, Bool.true_eq_false, decide_eq_true_eq, eq_self, Int.reduceEq, Int.reduceLT, Int.reduceLE, Bool.and_true, Bool.true_and, Bool.and_false, Bool.false_and, Nat.zero_add, Tm.count]
    refine loop_run (Q := fun r => Ans r _) (fun k V H => ∃ rest pre acc, ks = pre ++ rest ∧ rest.length = k ∧ (pre.length : Int) < acc ∧ (acc ≤ 1 ∨ acc ≤ most) ∧ V = [iv most, .ptr (.own 37748736) 0, iv acc, iv pre.length] ∧
      H = ⟨[(37748736, .row [iv op, iv m, .fv (.sl (ks.map Tm.enc))] false)], []⟩ ∧ Tm.countL rest acc most = Tm.countL ks 1 most) ?_ n ks.length _ _ (by have := wt_len ks; omega) ⟨ks, [], 1, rfl, rfl, by simp, .inl (by omega), rfl, rfl, rfl⟩
    rintro k V H rec ⟨rest, pre, acc, hk, hl, hpre, hacc, rfl, rfl, ht⟩ hrec
    have hlen : ks.length = pre.length + rest.length := by rw [hk]; simp
    cases rest with
    | nil =>
      rw [← ht]
      simp only [S36_53, S36_54, S36_55, S36_56, S36_57, S36, ↓XX, ↓reduceIte, Nat.reduceBEq, decide_true, decide_false, Bool.not_true, Bool.not_false, List.map_cons, List.map_nil, List.length_map, List.length_cons, List.length_nil, Nat.reduceAdd, Int.cast_ofNat_Int, Int.natCast_zero, Int.natCast_one, Bool.false_eq_true, Bool.true_eq_false, decide_eq_true_eq, eq_self, Int.reduceEq, Int.reduceLT, Int.reduceLE, Bool.and_true, Bool.true_and, Bool.and_false, Bool.false_and, Nat.zero_add, List.length_map, show ¬ ((pre.length : Int) < ks.length) by simp [hlen], Tm.countL]
      exact ans_fv _ _
    | cons t rest =>
      have hi : (pre.length : Int) < ks.length := by rw [hlen]; simp; omega
      by_cases ha : acc < most
      · have hg := at_pre hk
        obtain ⟨o, p, l⟩ := t
        have hb := count_le (.mk o p l) (most - acc)
        have hc := ih (.mk o p l) (most - acc) (by have := wt_mem (t := .mk o p l) (l := ks) (by rw [hk]; simp); omega) (by omega) (by omega)
        rw [enc_mk] at hc
        simp only [S36_53, S36_54, S36_55, S36_56, S36_57, S36, ↓XX, ↓reduceIte, Nat.reduceBEq, decide_true, decide_false, Bool.not_true, Bool.not_false, List.map_cons, List.map_nil, List.length_map, List.length_cons, List.length_nil, Nat.reduceAdd, Int.cast_ofNat_Int, Int.natCast_zero, Int.natCast_one, Bool.false_eq_true, Bool.true_eq_false, decide_eq_true_eq, eq_self, Int.reduceEq, Int.reduceLT, Int.reduceLE, Bool.and_true, Bool.true_and, Bool.and_false, Bool.false_and, Nat.zero_add, List.length_map, hi, ha, ↓ix_f (map_get hg) (agg3l _ _ _), ↓agg3, w64_id (show -9223372036854775808 ≤ most - acc by omega) (show most - acc ≤ 9223372036854775807 by omega), ↓iso_2 hc,
          w64_id (show -9223372036854775808 ≤ acc + (Tm.mk o p l).count (most - acc) by omega) (show acc + (Tm.mk o p l).count (most - acc) ≤ 9223372036854775807 by omega), w64_id (show -9223372036854775808 ≤ (pre.length : Int) + 1 by omega) (show (pre.length : Int) + 1 ≤ 9223372036854775807 by omega)]
        simp only [List.length_cons] at hl
        refine hrec rest.length _ _ (by omega) ?_
        refine ⟨rest, pre ++ [.mk o p l], acc + (Tm.mk o p l).count (most - acc), by rw [hk]; simp, rfl, by simp; omega, .inr (by omega), by simp, rfl, ?_⟩
        rw [← ht]
        simp only [Tm.countL, if_pos ha]
      · rw [← ht]
        simp only [S36_53, S36_54, S36_55, S36_56, S36_57, S36, ↓XX, ↓reduceIte, Nat.reduceBEq, decide_true, decide_false, Bool.not_true, Bool.not_false, List.map_cons, List.map_nil, List.length_map, List.length_cons, List.length_nil, Nat.reduceAdd, Int.cast_ofNat_Int, Int.natCast_zero, Int.natCast_one, Bool.false_eq_true, Bool.true_eq_false, decide_eq_true_eq, eq_self, Int.reduceEq, Int.reduceLT, Int.reduceLE, Bool.and_true, Bool.true_and, Bool.and_false, Bool.false_and, Nat.zero_add, List.length_map, hi, ha, Tm.countL]
        exact ans_fv _ _
end Idl
end Go.Proofs.Ytkfecngimlcfoaa

namespace Go.Proofs.Ytkfecngimlcfoaa
namespace Idl
theorem few_ok {n : Nat} (t : Tm) (h : t.wt < n) : Ans (SS dt (n + 1) 12 [.fv t.enc] ⟨[], []⟩) (.bool (decide (t.count 300 < 300))) := by
  rw [c12]
  have hc := count_ok n t 300 h (by omega) (by omega)
  obtain ⟨op, m, ks⟩ := t
  rw [enc_mk] at hc ⊢
  simp only [S12, ↓XX, ↓reduceIte, Nat.reduceBEq, decide_true, decide_false, Bool.not_true, Bool.not_false, List.map_cons, List.map_nil, List.length_map, List.length_cons, List.length_nil, Nat.reduceAdd, Int.cast_ofNat_Int, Int.natCast_zero, Int.natCast_one, Bool.false_eq_true, Bool.true_eq_false, decide_eq_true_eq, eq_self, Int.reduceEq, Int.reduceLT, Int.reduceLE, Bool.and_true, Bool.true_and, Bool.and_false, Bool.false_and, Nat.zero_add, ↓iso_2 hc]
  exact ans_fv _ _
def Tm.plainT : Nat → Tm → Tm
  | 0, _ => .mk 15 0 []
  | d + 1, r => if r.n % 4 < 2 then .mk 15 0 [] else .mk (16 + r.n % 4 - 2) 0 [plainT d (r.pick 0), plainT d (r.pick 1)]
theorem plainT_ok : ∀ (d n : Nat) (r : Tm), d + 1 < n → d ≤ 1000 → Ans (SS dt n 28 [.fv r.enc, iv d] ⟨[], []⟩) (r.plainT d).enc := by
  intro d
  induction d with
  | zero =>
    intro n r hn _
    obtain ⟨n, rfl⟩ : ∃ k, n = k + 1 := ⟨n - 1, by omega⟩
    rw [c28]
    have hw := within4_ok (n := n) (by omega) r.n (m := 4) (by omega) (by omega)
    obtain ⟨op, m, ks⟩ := r
    rw [enc_mk]
    simp only [Tm.n] at hw
    simp only [S28_75, S28_76, S28_77, S28_78, S28_79, S28_80, S28_81, S28, ↓XX, ↓reduceIte, Nat.reduceBEq, decide_true, decide_false, Bool.not_true, Bool.not_false, List.map_cons, List.map_nil, List.length_map, List.length_cons, List.length_nil, Nat.reduceAdd, Int.cast_ofNat_Int, Int.natCast_zero, Int.natCast_one, Bool.false_eq_true, Bool.true_eq_false, decide_eq_true_eq, eq_self, Int.reduceEq, Int.reduceLT, Int.reduceLE, Bool.and_true, Bool.true_and, Bool.and_false, Bool.false_and, Nat.zero_add, ↓iso_2 hw, ↓iso_2 (t0_ok (n := n) (by omega) 15), Tm.plainT, enc_mk]
    exact ans_p rfl _
  | succ d ih =>
    intro n r hn hd
    obtain ⟨n, rfl⟩ : ∃ k, n = k + 1 := ⟨n - 1, by omega⟩
    rw [c28]
    have hw := within4_ok (n := n) (by omega) r.n (m := 4) (by omega) (by omega)
    have h0 := ih n (r.pick 0) (by omega) (by omega)
    have h1 := ih n (r.pick 1) (by omega) (by omega)
    have p0 := pick_ok (n := n) (by omega) r 0
    have p1 := pick_ok (n := n) (by omega) r 1
    have ht := t_ok (n := n) (by omega) (16 + r.n % 4 - 2) [(r.pick 0).plainT d, (r.pick 1).plainT d]
    have hb0 : ¬ ((d + 1 : Nat) : Int) ≤ 0 := by omega
    have hm : w64 (((d + 1 : Nat) : Int) - 1) = d := by rw [w64_id] <;> omega
    have hr := Int.emod_nonneg r.n (show (4 : Int) ≠ 0 by decide)
    have hr2 := Int.emod_lt_of_pos r.n (show (0 : Int) < 4 by decide)
    have e1 : w64 (16 + r.n % 4) = 16 + r.n % 4 := by rw [w64_id] <;> omega
    have e2 : w64 (16 + r.n % 4 - 2) = 16 + r.n % 4 - 2 := by rw [w64_id] <;> omega
    simp only [List.map_cons, List.map_nil] at ht
    rw [Tm.plainT]
    obtain ⟨op, m, ks⟩ := r
    rw [enc_mk] at p0 p1 ⊢
    simp only [Tm.n] at *
    by_cases hk : m % 4 < 2
    · simp only [S28_75, S28_76, S28_77, S28_78, S28_79, S28_80, S28_81, S28, ↓XX, ↓reduceIte, Nat.reduceBEq, decide_true, decide_false, Bool.not_true, Bool.not_false, List.map_cons, List.map_nil, List.length_map, List.length_cons, List.length_nil, Nat.reduceAdd, Int.cast_ofNat_Int, Int.natCast_zero, Int.natCast_one, Bool.false_eq_true, Bool.true_eq_false, decide_eq_true_eq, eq_self, Int.reduceEq, Int.reduceLT, Int.reduceLE, Bool.and_true, Bool.true_and, Bool.and_false, Bool.false_and, Nat.zero_add, ↓iso_2 hw, Tm.n, ↓iso_2 (t0_ok (n := n) (by omega) 15), hb0, hk, enc_mk]
      exact ans_p rfl _
    · simp only [S28_75, S28_76, S28_77, S28_78, S28_79, S28_80, S28_81, S28, ↓XX, ↓reduceIte, Nat.reduceBEq, decide_true, decide_false, Bool.not_true, Bool.not_false, List.map_cons, List.map_nil, List.length_map, List.length_cons, List.length_nil, Nat.reduceAdd, Int.cast_ofNat_Int, Int.natCast_zero, Int.natCast_one, Bool.false_eq_true, Bool.true_eq_false, decide_eq_true_eq, eq_self, Int.reduceEq, Int.reduceLT, Int.reduceLE, Bool.and_true, Bool.true_and, Bool.and_false, Bool.false_and, Nat.zero_add, ↓iso_2 hw, hb0, hk, e1, e2, hm, ↓iso_2 p0, ↓iso_2 p1, ↓iso_2 h0, ↓iso_2 h1, ↓bs2_tm, ↓iso_2 ht]
      simp only [↓XX, ↓reduceIte, Nat.reduceBEq, decide_true, decide_false, Bool.not_true, Bool.not_false, List.map_cons, List.map_nil, List.length_map, List.length_cons, List.length_nil, Nat.reduceAdd, Int.cast_ofNat_Int, Int.natCast_zero, Int.natCast_one, Bool.false_eq_true, Bool.true_eq_false, decide_eq_true_eq, eq_self, Int.reduceEq, Int.reduceLT, Int.reduceLE, Bool.and_true, Bool.true_and, Bool.and_false, Bool.false_and, Nat.zero_add, enc_mk]
      exact ans_p rfl _
end Idl
end Go.Proofs.Ytkfecngimlcfoaa

namespace Go.Proofs.Ytkfecngimlcfoaa
namespace Idl
theorem plainT_typed : ∀ (d : Nat) (r : Tm), (r.plainT d).typed = true
  | 0, r => by simp [Tm.plainT, Tm.typed]
  | d + 1, r => by
    have h1 := Int.emod_nonneg r.n (show (4 : Int) ≠ 0 by decide)
    have h2 := Int.emod_lt_of_pos r.n (show (0 : Int) < 4 by decide)
    simp only [Tm.plainT]
    split
    · simp [Tm.typed]
    · simp only [Tm.typed, plainT_typed d, Bool.and_self, Bool.and_true, Bool.or_eq_true, decide_eq_true_eq]
      omega
theorem plainT_wt : ∀ (d : Nat) (r : Tm), (r.plainT d).wt ≤ 2 ^ (d + 1) - 1
  | 0, r => by simp [Tm.plainT, Tm.wt, Tm.wtL]
  | d + 1, r => by
    have h1 := plainT_wt d (r.pick 0)
    have h2 := plainT_wt d (r.pick 1)
    have h3 : 0 < 2 ^ (d + 1) := Nat.pow_pos (by decide)
    simp only [Tm.plainT]
    split
    · simp only [Tm.wt, Tm.wtL, Nat.pow_succ] at *; omega
    · simp only [Tm.wt, Tm.wtL, Nat.pow_succ] at *; omega
end Idl
end Go.Proofs.Ytkfecngimlcfoaa

namespace Go.Proofs.Ytkfecngimlcfoaa
namespace Idl
def tyT (n : Nat) (b : Tm) : Tm := .mk 29 0 [.mk 13 0 [.mk 14 0 [], b, .mk 16 0 [tI, .mk 1 0 []], tnum n], .mk 1 0 []]
def wantT (b : Tm) : Nat → Tm
  | 0 => b
  | n + 1 => .mk 16 0 [tI, wantT b n]
def L1 : List Tm := [tI, .mk 16 0 [tI, tI], .mk 17 0 [tI, tI]]
def L2 : List Tm := tI :: (L1.flatMap fun x => L1.flatMap fun y => [.mk 16 0 [x, y], .mk 17 0 [x, y]])
def okTy (n : Nat) (b : Tm) : Bool := (match normP 200 (tyT n b) with
  | some (u, e) => u.same (.mk 29 0 [wantT b n, .mk 1 0 []]) && decide (e = 0)
  | none => false) && decide (((tyT n b).chk 0 1).2 = 0)
theorem tys : ∀ n : Fin 20, (L2.all (okTy n)) = true := by decide +kernel
theorem plain1 (r : Tm) : r.plainT 1 ∈ L1 := by
  have h1 := Int.emod_nonneg r.n (show (4 : Int) ≠ 0 by decide)
  have h2 := Int.emod_lt_of_pos r.n (show (0 : Int) < 4 by decide)
  simp only [Tm.plainT]
  split
  · simp [L1, tI]
  · have h3 : 16 + r.n % 4 - 2 = 16 ∨ 16 + r.n % 4 - 2 = 17 := by omega
    rcases h3 with h3 | h3 <;> (rw [h3]; simp [L1, tI])
theorem plain2 (r : Tm) : r.plainT 2 ∈ L2 := by
  have h1 := Int.emod_nonneg r.n (show (4 : Int) ≠ 0 by decide)
  have h2 := Int.emod_lt_of_pos r.n (show (0 : Int) < 4 by decide)
  rw [Tm.plainT]
  split
  · simp [L2, tI]
  · have h3 : 16 + r.n % 4 - 2 = 16 ∨ 16 + r.n % 4 - 2 = 17 := by omega
    have a := plain1 (r.pick 0)
    have b := plain1 (r.pick 1)
    generalize (r.pick 0).plainT 1 = x at a ⊢
    generalize (r.pick 1).plainT 1 = y at b ⊢
    rw [L2]
    refine List.mem_cons_of_mem _ (List.mem_flatMap.2 ⟨x, a, List.mem_flatMap.2 ⟨y, b, ?_⟩⟩)
    rcases h3 with h3 | h3 <;> (rw [h3]; simp)
theorem ty_norm {n : Nat} (hn : n < 20) (r : Tm) : normP 200 (tyT n (r.plainT 2)) = some (.mk 29 0 [wantT (r.plainT 2) n, .mk 1 0 []], 0) ∧ ((tyT n (r.plainT 2)).chk 0 1).2 = 0 := by
  have h := List.all_eq_true.1 (tys ⟨n, hn⟩) _ (plain2 r)
  simp only [okTy, Bool.and_eq_true, decide_eq_true_eq] at h
  refine ⟨?_, h.2⟩
  have h1 := h.1
  split at h1
  · rename_i u e hu
    simp only [Bool.and_eq_true, decide_eq_true_eq] at h1
    rw [hu, (same_eq _ _).1 h1.1, h1.2]
  · cases h1
theorem want_typed {b : Tm} (hb : b.typed = true) : ∀ n, (wantT b n).typed = true
  | 0 => hb
  | n + 1 => by simp only [wantT, Tm.typed, tI_typed, want_typed hb n]; rfl
theorem want_wt (b : Tm) : ∀ n, (wantT b n).wt = b.wt + 2 * n
  | 0 => rfl
  | n + 1 => by simp only [wantT, tI, Tm.wt, Tm.wtL, want_wt b n]; omega
theorem typed_plain : ∀ t : Tm, t.typed = true → t.plainP = true
  | .mk op m [], h => by
    have h1 : op = 15 := by simpa [Tm.typed] using h
    subst h1; rfl
  | .mk op m [_], h => by rw [typed1] at h; cases h
  | .mk op m (_ :: _ :: _ :: _), h => by rw [typed3] at h; cases h
  | .mk op m [a, b], h => by
    simp only [Tm.typed, Bool.and_eq_true, Bool.or_eq_true, decide_eq_true_eq] at h
    simp only [Tm.plainP, Tm.plainPL, typed_plain a h.2.1, typed_plain b h.2.2, Bool.and_true]
    rcases h.1 with rfl | rfl <;> rfl
theorem fix_inf {w : Tm} (hw : w.typed = true) : (Tm.mk 29 0 [w, .mk 1 0 []]).inf [] = (0, w) := by
  have e : (Tm.mk 1 0 []).inf ([] ++ [w]) = (0, w) := by
    rw [Tm.inf, if_pos rfl, if_neg (by simp)]
    simp
  rw [Tm.inf]
  simp only [Int.reduceEq, if_false, if_true, hw, e, chkT, (same_eq _ _).2 rfl]
abbrev tIF : FV := .agg [.int .i64 15, .int .i64 0, .sl []]
abbrev v0F : FV := .agg [.int .i64 1, .int .i64 0, .sl []]
abbrev tfF : FV := .agg [.int .i64 16, .int .i64 0, .sl [tIF, v0F]]
noncomputable abbrev HT (or mr ob mb no nn : Int) (kr kb nk : List Tm) (w : Tm) : Hp :=
  ⟨[(6291456, .row [iv or, iv mr, .fv (.sl (kr.map Tm.enc))] false), (6297603, .row [iv 14, iv 0, .fv (.sl [])] false), (6297604, .row [iv ob, iv mb, .fv (.sl (kb.map Tm.enc))] false),
    (6298634, .row [iv 13, iv 0, .fv (.sl [.agg [.int .i64 14, .int .i64 0, .sl []], .agg [.int .i64 ob, .int .i64 mb, .sl (kb.map Tm.enc)], tfF, .agg [.int .i64 no, .int .i64 nn, .sl (nk.map Tm.enc)]])] false),
    (6299652, .row [iv 29, iv 0, .fv (.sl [.agg [.int .i64 13, .int .i64 0, .sl [.agg [.int .i64 14, .int .i64 0, .sl []], .agg [.int .i64 ob, .int .i64 mb, .sl (kb.map Tm.enc)], tfF, .agg [.int .i64 no, .int .i64 nn, .sl (nk.map Tm.enc)]]], v0F])] false),
    (6300673, .row [iv w.op, iv w.n, .fv (.sl (w.kids.map Tm.enc))] false)], []⟩
set_option maxRecDepth 20000 in
set_option maxHeartbeats 2000000 in
theorem stageTypes_ok (x : Int) (r : Tm) : ∃ N, AnsV (SS dt N 6 [.fv (.int .i64 x), .fv r.enc] ⟨[], []⟩) (.bool true) := by
  refine ⟨r.wt + 40000 + 1, ?_⟩
  rw [c6]
  generalize hn : r.wt + 40000 = n
  have hk := known10_ok (n := n) (by omega)
  obtain ⟨m, hm⟩ : ∃ m, n = m + 1 := ⟨n - 1, by omega⟩
  have fr := few_ok (n := m) r (by omega)
  rw [← hm] at fr
  cases hf : decide (r.count 300 < 300)
  · rw [hf] at fr
    obtain ⟨o1, n1, k1⟩ := r
    simp only [enc_mk] at fr ⊢
    simp (maxSteps := 1000000) only [S6_257, S6_258, S6_259, S6_260, S6_261, S6_262, S6_263, S6_264, S6_265, S6_266, S6_267, S6_268, S6_269, S6_270, S6_271, S6_272, S6_273, S6_274, S6_275, S6_276, S6_277, S6_278, S6_279, S6_280, S6, ↓XX, ↓reduceIte, Nat.reduceBEq, decide_true, decide_false, Bool.not_true, Bool.not_false, List.map_cons, List.map_nil, List.length_map, List.length_cons, List.length_nil, Nat.reduceAdd, Int.cast_ofNat_Int, Int.natCast_zero, Int.natCast_one, Bool.false_eq_true, Bool.true_eq_false, decide_eq_true_eq, eq_self, Int.reduceEq, Int.reduceLT, Int.reduceLE, Bool.and_true, Bool.true_and, Bool.and_false, Bool.false_and, Nat.zero_add, ↓iso_0 hk, ↓iso_1 fr]
    exact ansv
  rw [hf] at fr
  have hw := within10_ok (n := n) (by omega) x (m := 20) (by decide) (by decide)
  have hj1 := Int.emod_nonneg x (show (20 : Int) ≠ 0 by decide)
  have hj2 := Int.emod_lt_of_pos x (show (0 : Int) < 20 by decide)
  obtain ⟨j, hj⟩ : ∃ j : Nat, x % 20 = j := ⟨(x % 20).toNat, by omega⟩
  rw [hj] at hw
  have hj9 : j < 20 := by omega
  have pq := plainT_ok 2 n r (by omega) (by omega)
  have ta := plainT_typed 2 r
  have wa := plainT_wt 2 r
  obtain ⟨hN, hC⟩ := ty_norm hj9 r
  generalize r.plainT 2 = b at pq ta wa hN hC
  have t14 := t0_ok (n := n) (by omega) 14
  have t15 := t0_ok (n := n) (by omega) 15
  have v0 := v_ok (n := n) (by omega) 0
  have t16 := t_ok (n := n) (by omega) 16 [tI, .mk 1 0 []]
  have hnum := num_ok (n := n) j (by omega) (by omega)
  have t13 := t_ok (n := n) (by omega) 13 [.mk 14 0 [], b, .mk 16 0 [tI, .mk 1 0 []], tnum j]
  have t29 := t_ok (n := n) (by omega) 29 [.mk 13 0 [.mk 14 0 [], b, .mk 16 0 [tI, .mk 1 0 []], tnum j], .mk 1 0 []]
  have tw := want_typed ta j
  have ww := want_wt b j
  have hS := stage_ok (n := n) hC hN (by simp only [Tm.plainP, Tm.plainPL, typed_plain _ tw]; rfl) (by omega) (by simp only [tyT, tI, Tm.wt, Tm.wtL, tnum_wt]; omega) (by simp only [Tm.wt, Tm.wtL]; omega) (by simp only [Tm.wt, Tm.wtL]; omega)
  have hws : (wantT b j).shp := typed_shp _ tw
  have hI := rInfer_ok 3000 (by omega) (by omega) n (.mk 29 0 [wantT b j, .mk 1 0 []]) [] (by
    rw [Tm.shp]; refine ⟨rfl, (fun h => by cases h), hws, ?_, trivial⟩
    rw [Tm.shp]; exact ⟨rfl, (fun _ => by omega), trivial⟩) (by simp only [Tm.wt, Tm.wtL]; omega) (by intro x hx; cases hx) (by simp only [Tm.wt, Tm.wtL, List.length_nil]; omega) (by simp only [Tm.wt, Tm.wtL]; omega)
  rw [fix_inf tw] at hI
  simp only [if_true] at hI
  have hs1 := same_ok n (.mk 29 0 [wantT b j, .mk 1 0 []]) (.mk 29 0 [wantT b j, .mk 1 0 []]) (by simp only [Tm.wt, Tm.wtL]; omega) (by simp only [Tm.wt, Tm.wtL]; omega)
  have hs2 := same_ok n (wantT b j) (wantT b j) (by omega) (by omega)
  have hty := rtype_ok n (wantT b j) (by omega) (by omega)
  have t29w := t_ok (n := n) (by omega) 29 [wantT b j, .mk 1 0 []]
  rw [rty_typed _ hws, tw] at hty
  rw [(same_eq _ _).2 rfl] at hs1 hs2
  rw [tyT] at hS
  generalize tnum j = nm at hnum t13 t29 hS
  have hst := fun i : Nat => t_ok (n := n) (by omega) 16 [tI, wantT b i]
  obtain ⟨no, nn, nk⟩ := nm
  have hb0 : wantT b 0 = b := rfl
  obtain ⟨ob, mb, kb⟩ := b
  obtain ⟨or, mr, kr⟩ := r
  simp only [tI, List.map_cons, List.map_nil, enc_mk] at fr pq t14 t15 v0 t16 hnum t13 t29 hS hI hs1 t29w hst ⊢
  simp only [S6_257, S6_258, S6_259, S6_260, S6_261, S6_262, S6_263, S6_264, S6_265, S6_266, S6_267, S6_269, S6_270, S6_271, S6_272, S6_273, S6_274, S6_275, S6_276, S6_277, S6_278, S6_279, S6_280, S6, ↓XX, ↓reduceIte, Nat.reduceBEq, decide_true, decide_false, Bool.not_true, Bool.not_false, List.map_cons, List.map_nil, List.length_map, List.length_cons, List.length_nil, Nat.reduceAdd, Int.cast_ofNat_Int, Int.natCast_zero, Int.natCast_one, Bool.false_eq_true, Bool.true_eq_false, decide_eq_true_eq, eq_self, Int.reduceEq, Int.reduceLT, Int.reduceLE, Bool.and_true, Bool.true_and, Bool.and_false, Bool.false_and, Nat.zero_add, ↓iso_0 hk, ↓iso_1 fr, ↓iso_2 hw, ↓iso_2 t14, ↓iso_2 pq, ↓iso_2 t15, ↓iso_1 v0, ↓bs2_g, ↓iso_2 t16, ↓iso_1 hnum, ↓bs4_g, ↓iso_2 t13, ↓iso_2 t29]
  refine loop_run (Q := fun r => AnsV r _) (fun q V H => ∃ i : Nat, i + q = j ∧ V = [iv j, .ptr (.own 6299652) 0, .ptr (.own 6300673) 0, iv i] ∧ H = HT or mr ob mb no nn kr kb nk (wantT (.mk ob mb kb) i)) ?_ n j _ _ (by omega) ⟨0, by omega, rfl, rfl⟩
  rintro q V H rec ⟨i, hiq, rfl, rfl⟩ hrec
  cases q with
  | succ q =>
    have hlt : (i : Int) < j := by omega
    have hwi : w64 ((i : Int) + 1) = ((i + 1 : Nat) : Int) := (w64_id (by omega) (by omega)).trans (by simp)
    have h9 := hrec q [iv j, .ptr (.own 6299652) 0, .ptr (.own 6300673) 0, iv (i + 1 : Nat)] _ (by omega) ⟨i + 1, by omega, rfl, rfl⟩
    have hst := hst i
    simp only [HT, wantT, tI, Tm.op, Tm.n, Tm.kids, enc_mk, List.map_cons, List.map_nil] at h9 ⊢
    generalize wantT (.mk ob mb kb) i = w at hst h9 ⊢
    obtain ⟨ow, mw, kw⟩ := w
    simp only [Tm.op, Tm.n, Tm.kids, enc_mk] at hst h9 ⊢
    simp only [S6_257, S6_258, S6_259, S6_260, S6_261, S6_262, S6_263, S6_264, S6_265, S6_266, S6_267, S6_268, S6_269, S6_270, S6_271, S6_272, S6_273, S6_274, S6_275, S6_276, S6_277, S6_278, S6_279, S6_280, S6, ↓XX, ↓reduceIte, Nat.reduceBEq, decide_true, decide_false, Bool.not_true, Bool.not_false, List.map_cons, List.map_nil, List.length_map, List.length_cons, List.length_nil, Nat.reduceAdd, Int.cast_ofNat_Int, Int.natCast_zero, Int.natCast_one, Bool.false_eq_true, Bool.true_eq_false, decide_eq_true_eq, eq_self, Int.reduceEq, Int.reduceLT, Int.reduceLE, Bool.and_true, Bool.true_and, Bool.and_false, Bool.false_and, Nat.zero_add, hlt, ↓iso_2 t15, ↓bs2_g, ↓iso_2 hst, hwi]
    exact h9
  | zero =>
    have hij : i = j := by omega
    subst hij
    have hno : ¬ (i : Int) < i := by omega
    clear hst
    generalize wantT (.mk ob mb kb) i = w at hS hI hs1 hs2 hty t29w ⊢
    obtain ⟨ow, mw, kw⟩ := w
    simp only [HT, Tm.op, Tm.n, Tm.kids, enc_mk] at hS hI hs1 hs2 hty t29w ⊢
    simp only [S6_257, S6_258, S6_259, S6_260, S6_261, S6_262, S6_263, S6_264, S6_265, S6_266, S6_267, S6_268, S6_269, S6_270, S6_271, S6_272, S6_273, S6_274, S6_275, S6_276, S6_277, S6_278, S6_279, S6_280, S6, ↓XX, ↓reduceIte, Nat.reduceBEq, decide_true, decide_false, Bool.not_true, Bool.not_false, List.map_cons, List.map_nil, List.length_map, List.length_cons, List.length_nil, Nat.reduceAdd, Int.cast_ofNat_Int, Int.natCast_zero, Int.natCast_one, Bool.false_eq_true, Bool.true_eq_false, decide_eq_true_eq, eq_self, Int.reduceEq, Int.reduceLT, Int.reduceLE, Bool.and_true, Bool.true_and, Bool.and_false, Bool.false_and, Nat.zero_add, hno, ↓iso_1 hS, ↓iso_2 hI, ↓iso_1 v0, ↓bs2_g, ↓iso_2 t29w, ↓iso_2 hs1, ↓iso_2 hs2, ↓iso_1 hty]
    exact ansv
end Idl
end Go.Proofs.Ytkfecngimlcfoaa


/-
  Texts of a proof, part 10: an ideal semantics of the program, its functions in shallow form, contracts of them. No statement of the seat is proved here.
-/
import Derived.Test.YtaifgaidaglblaaEqualSumsK9
set_option linter.all false
namespace Go.Proofs.Ytaifgaidaglblaa
namespace Idl
def knum (op : Int) : Int := if op = 8 ∨ op = 9 ∨ op = 12 ∨ op = 19 ∨ op = 30 then 1 else if op = 4 ∨ op = 5 then 2 else if op = 7 then 3 else if op = 13 then 4 else -1
theorem kids_ok {n : Nat} (hn : 0 < n) (op : Int) : Ans (SS dt n 71 [iv op] ⟨[], []⟩) (.int .i64 (knum op)) := by
  obtain ⟨n, rfl⟩ : ∃ k, n = k + 1 := ⟨n - 1, by omega⟩
  rw [c71]
  unfold knum
  by_cases h : op = 8 ∨ op = 9 ∨ op = 12 ∨ op = 19 ∨ op = 30
  · rw [if_pos h]
    rcases h with rfl | rfl | rfl | rfl | rfl <;> (simp only [S71_17, S71_18, S71_19, S71_20, S71_21, S71_22, S71, ↓XX, ↓reduceIte, Nat.reduceBEq, decide_true, decide_false, Bool.not_true, Bool.not_false, List.map_cons, List.map_nil, List.length_map, List.length_cons, List.length_nil, Nat.reduceAdd, Int.cast_ofNat_Int, Int.natCast_zero, Int.natCast_one, Bool.false_eq_true, Bool.true_eq_false, decide_eq_true_eq, eq_self, Int.reduceEq, Int.reduceLT, Int.reduceLE, Bool.and_true, Bool.true_and, Bool.and_false, Bool.false_and, Nat.zero_add]; exact ans_fv _ _)
  · rw [if_neg h]
    have h8 : ¬ op = 8 := fun e => h (by simp [e])
    have h9 : ¬ op = 9 := fun e => h (by simp [e])
    have h12 : ¬ op = 12 := fun e => h (by simp [e])
    have h19 : ¬ op = 19 := fun e => h (by simp [e])
    have h30 : ¬ op = 30 := fun e => h (by simp [e])
    by_cases h2 : op = 4 ∨ op = 5
    · rw [if_pos h2]
      rcases h2 with rfl | rfl <;> (simp only [S71_17, S71_18, S71_19, S71_20, S71_21, S71_22, S71, ↓XX, ↓reduceIte, Nat.reduceBEq, decide_true, decide_false, Bool.not_true, Bool.not_false, List.map_cons, List.map_nil, List.length_map, List.length_cons, List.length_nil, Nat.reduceAdd, Int.cast_ofNat_Int, Int.natCast_zero, Int.natCast_one, Bool.false_eq_true, Bool.true_eq_false, decide_eq_true_eq, eq_self, Int.reduceEq, Int.reduceLT, Int.reduceLE, Bool.and_true, Bool.true_and, Bool.and_false, Bool.false_and, Nat.zero_add]; exact ans_fv _ _)
    · rw [if_neg h2]
      have h4 : ¬ op = 4 := fun e => h2 (by simp [e])
      have h5 : ¬ op = 5 := fun e => h2 (by simp [e])
      by_cases h7 : op = 7
      · subst h7; simp only [S71_17, S71_18, S71_19, S71_20, S71_21, S71_22, S71, ↓XX, ↓reduceIte, Nat.reduceBEq, decide_true, decide_false, Bool.not_true, Bool.not_false, List.map_cons, List.map_nil, List.length_map, List.length_cons, List.length_nil, Nat.reduceAdd, Int.cast_ofNat_Int, Int.natCast_zero, Int.natCast_one, Bool.false_eq_true, Bool.true_eq_false, decide_eq_true_eq, eq_self, Int.reduceEq, Int.reduceLT, Int.reduceLE, Bool.and_true, Bool.true_and, Bool.and_false, Bool.false_and, Nat.zero_add]; exact ans_fv _ _
      · by_cases h13 : op = 13
        · subst h13; simp only [S71_17, S71_18, S71_19, S71_20, S71_21, S71_22, S71, ↓XX, ↓reduceIte, Nat.reduceBEq, decide_true, decide_false, Bool.not_true, Bool.not_false, List.map_cons, List.map_nil, List.length_map, List.length_cons, List.length_nil, Nat.reduceAdd, Int.cast_ofNat_Int, Int.natCast_zero, Int.natCast_one, Bool.false_eq_true, Bool.true_eq_false, decide_eq_true_eq, eq_self, Int.reduceEq, Int.reduceLT, Int.reduceLE, Bool.and_true, Bool.true_and, Bool.and_false, Bool.false_and, Nat.zero_add]; exact ans_fv _ _
        · simp only [S71_17, S71_18, S71_19, S71_20, S71_21, S71_22, S71, ↓XX, ↓reduceIte, Nat.reduceBEq, decide_true, decide_false, Bool.not_true, Bool.not_false, List.map_cons, List.map_nil, List.length_map, List.length_cons, List.length_nil, Nat.reduceAdd, Int.cast_ofNat_Int, Int.natCast_zero, Int.natCast_one, Bool.false_eq_true, Bool.true_eq_false, decide_eq_true_eq, eq_self, Int.reduceEq, Int.reduceLT, Int.reduceLE, Bool.and_true, Bool.true_and, Bool.and_false, Bool.false_and, Nat.zero_add, h4, h5, h7, h8, h9, h12, h13, h19, h30]; exact ans_fv _ _
mutual
def Tm.shaped : Tm → Bool
  | .mk op n ks => !(decide (0 ≤ knum op ∧ knum op ≠ ks.length) || decide (op = 1 ∧ n < 0)) && Tm.shapedL ks
def Tm.shapedL : List Tm → Bool
  | [] => true
  | t :: l => t.shaped && Tm.shapedL l
end
set_option maxHeartbeats 1000000 in
theorem shaped_ok : ∀ (n : Nat) (t : Tm), t.wt + 1 < n → t.wt ≤ 1152921504606846976 → Ans (SS dt n 63 [.fv t.enc] ⟨[], []⟩) (.bool t.shaped) := by
  intro n
  induction n with
  | zero => intro t h; omega
  | succ n ih =>
    intro t h hw
    obtain ⟨op, m, ks⟩ := t
    simp only [Tm.wt] at h hw
    rw [c63, enc_mk]
    have hlen := wt_len ks
    have hk := kids_ok (n := n) (by omega) op
    rw [Tm.shaped]
    have wl : ∀ j : Nat, j ≤ ks.length → w64 (j : Int) = j := fun j hj => w64_id (by omega) (by omega)
    -- the loop
    have loop : Ans (loopS n (fun q99 l100 h101 => S63_132 l100 h101 (SS dt n) ⟨[], []⟩ q99) [.fv (.sl (ks.map Tm.enc)), iv ks.length, iv 0] ⟨[(66060288, .row [iv op, iv m, .fv (.sl (ks.map Tm.enc))] false)], []⟩) (.bool (Tm.shapedL ks)) := by
      refine loop_run (Q := fun r => Ans r _) (fun k V H => ∃ pre rest, ks = pre ++ rest ∧ rest.length = k ∧ V = [.fv (.sl (ks.map Tm.enc)), iv ks.length, iv pre.length] ∧ H = ⟨[(66060288, .row [iv op, iv m, .fv (.sl (ks.map Tm.enc))] false)], []⟩ ∧ Tm.shapedL rest = Tm.shapedL ks)
        ?_ n ks.length _ _ (by omega) ⟨[], ks, rfl, rfl, rfl, rfl, rfl⟩
      rintro k V H rec ⟨pre, rest, hk, hl, rfl, rfl, ht⟩ hrec
      have hkl : ks.length = pre.length + rest.length := by rw [hk]; simp
      cases rest with
      | nil =>
        have hno : ¬ ((pre.length : Int) < ks.length) := by rw [hkl]; simp
        rw [← ht]
        simp only [S63_129, S63_130, S63_131, S63_132, S63_133, S63_134, S63_135, S63_136, S63, ↓XX, ↓reduceIte, Nat.reduceBEq, decide_true, decide_false, Bool.not_true, Bool.not_false, List.map_cons, List.map_nil, List.length_map, List.length_cons, List.length_nil, Nat.reduceAdd, Int.cast_ofNat_Int, Int.natCast_zero, Int.natCast_one, Bool.false_eq_true, Bool.true_eq_false, decide_eq_true_eq, eq_self, Int.reduceEq, Int.reduceLT, Int.reduceLE, Bool.and_true, Bool.true_and, Bool.and_false, Bool.false_and, Nat.zero_add, hno, Tm.shapedL]
        exact ans_fv _ _
      | cons t rest =>
        have hi : (pre.length : Int) < ks.length := by rw [hkl]; simp; omega
        have hg := at_pre hk
        have htw := wt_mem (t := t) (l := ks) (by rw [hk]; simp)
        have hs := ih t (by omega) (by omega)
        have hwi : w64 ((pre.length : Int) + 1) = ((pre ++ [t]).length : Int) := (w64_id (by omega) (by omega)).trans (by simp)
        simp only [Tm.shapedL] at ht
        generalize t.shaped = v at hs ht
        obtain ⟨o, p, l⟩ := t
        simp only [List.length_cons] at hl
        rw [enc_mk] at hs
        cases v
        · rw [← ht]
          simp only [S63_129, S63_130, S63_131, S63_132, S63_133, S63_134, S63_135, S63_136, S63, ↓XX, ↓reduceIte, Nat.reduceBEq, decide_true, decide_false, Bool.not_true, Bool.not_false, List.map_cons, List.map_nil, List.length_map, List.length_cons, List.length_nil, Nat.reduceAdd, Int.cast_ofNat_Int, Int.natCast_zero, Int.natCast_one, Bool.false_eq_true, Bool.true_eq_false, decide_eq_true_eq, eq_self, Int.reduceEq, Int.reduceLT, Int.reduceLE, Bool.and_true, Bool.true_and, Bool.and_false, Bool.false_and, Nat.zero_add, hi, ↓ix_f (map_get hg) (agg3l _ _ _), ↓agg3, hwi, ↓iso_1 hs, Bool.false_and]
          exact ans_fv _ _
        · simp only [S63_129, S63_130, S63_131, S63_132, S63_133, S63_134, S63_135, S63_136, S63, ↓XX, ↓reduceIte, Nat.reduceBEq, decide_true, decide_false, Bool.not_true, Bool.not_false, List.map_cons, List.map_nil, List.length_map, List.length_cons, List.length_nil, Nat.reduceAdd, Int.cast_ofNat_Int, Int.natCast_zero, Int.natCast_one, Bool.false_eq_true, Bool.true_eq_false, decide_eq_true_eq, eq_self, Int.reduceEq, Int.reduceLT, Int.reduceLE, Bool.and_true, Bool.true_and, Bool.and_false, Bool.false_and, Nat.zero_add, hi, ↓ix_f (map_get hg) (agg3l _ _ _), ↓agg3, hwi, ↓iso_1 hs, ↓drop_e, XD, heldB, flatD, List.any_cons, List.any_nil, List.all_cons, List.all_nil, List.filter_cons, List.filter_nil, List.contains_cons, List.contains_nil, Bool.or_false, Bool.or_true, Bool.false_or, Bool.true_or, Bool.and_self, Bool.not_eq_true, BEq.rfl, beq_self_eq_true]
          refine hrec rest.length _ _ (by omega) ?_
          exact ⟨pre ++ [.mk o p l], rest, by rw [hk]; simp, rfl, rfl, rfl, by simpa using ht⟩
    by_cases h0 : 0 ≤ knum op
    · by_cases h1 : knum op = ks.length
      · by_cases h2 : op = 1
        · exfalso; subst h2; revert h0; decide
        · have e1 : (!(decide (0 ≤ knum op ∧ knum op ≠ ks.length) || decide (op = 1 ∧ m < 0)) && Tm.shapedL ks) = Tm.shapedL ks := by simp [h1, h2]
          rw [e1]
          have h0' : (0 : Int) ≤ ks.length := by omega
          rw [h1] at hk
          simp only [S63_129, S63_130, S63_131, S63_133, S63_134, S63_135, S63_136, S63, ↓XX, ↓reduceIte, Nat.reduceBEq, decide_true, decide_false, Bool.not_true, Bool.not_false, List.map_cons, List.map_nil, List.length_map, List.length_cons, List.length_nil, Nat.reduceAdd, Int.cast_ofNat_Int, Int.natCast_zero, Int.natCast_one, Bool.false_eq_true, Bool.true_eq_false, decide_eq_true_eq, eq_self, Int.reduceEq, Int.reduceLT, Int.reduceLE, Bool.and_true, Bool.true_and, Bool.and_false, Bool.false_and, Nat.zero_add, ↓iso_1 hk, h0', h2, ↓drop_e, XD, heldB, flatD, List.any_cons, List.any_nil, List.all_cons, List.all_nil, List.filter_cons, List.filter_nil, List.contains_cons, List.contains_nil, Bool.or_false, Bool.or_true, Bool.false_or, Bool.true_or, Bool.and_self, Bool.not_eq_true, BEq.rfl, beq_self_eq_true]
          exact loop
      · have e1 : (!(decide (0 ≤ knum op ∧ knum op ≠ ks.length) || decide (op = 1 ∧ m < 0)) && Tm.shapedL ks) = false := by simp [h0, h1]
        rw [e1]
        simp only [S63_129, S63_130, S63_131, S63_133, S63_134, S63_135, S63_136, S63, ↓XX, ↓reduceIte, Nat.reduceBEq, decide_true, decide_false, Bool.not_true, Bool.not_false, List.map_cons, List.map_nil, List.length_map, List.length_cons, List.length_nil, Nat.reduceAdd, Int.cast_ofNat_Int, Int.natCast_zero, Int.natCast_one, Bool.false_eq_true, Bool.true_eq_false, decide_eq_true_eq, eq_self, Int.reduceEq, Int.reduceLT, Int.reduceLE, Bool.and_true, Bool.true_and, Bool.and_false, Bool.false_and, Nat.zero_add, ↓iso_1 hk, h0, h1]
        exact ans_fv _ _
    · by_cases h2 : op = 1
      · subst h2
        by_cases h3 : m < 0
        · have e1 : (!(decide (0 ≤ knum 1 ∧ knum 1 ≠ ks.length) || decide ((1 : Int) = 1 ∧ m < 0)) && Tm.shapedL ks) = false := by simp [h3]
          rw [e1]
          simp only [S63_129, S63_130, S63_131, S63_133, S63_134, S63_135, S63_136, S63, ↓XX, ↓reduceIte, Nat.reduceBEq, decide_true, decide_false, Bool.not_true, Bool.not_false, List.map_cons, List.map_nil, List.length_map, List.length_cons, List.length_nil, Nat.reduceAdd, Int.cast_ofNat_Int, Int.natCast_zero, Int.natCast_one, Bool.false_eq_true, Bool.true_eq_false, decide_eq_true_eq, eq_self, Int.reduceEq, Int.reduceLT, Int.reduceLE, Bool.and_true, Bool.true_and, Bool.and_false, Bool.false_and, Nat.zero_add, ↓iso_1 hk, h0, h3]
          exact ans_fv _ _
        · have e1 : (!(decide (0 ≤ knum 1 ∧ knum 1 ≠ ks.length) || decide ((1 : Int) = 1 ∧ m < 0)) && Tm.shapedL ks) = Tm.shapedL ks := by simp [h0, h3]
          rw [e1]
          simp only [S63_129, S63_130, S63_131, S63_133, S63_134, S63_135, S63_136, S63, ↓XX, ↓reduceIte, Nat.reduceBEq, decide_true, decide_false, Bool.not_true, Bool.not_false, List.map_cons, List.map_nil, List.length_map, List.length_cons, List.length_nil, Nat.reduceAdd, Int.cast_ofNat_Int, Int.natCast_zero, Int.natCast_one, Bool.false_eq_true, Bool.true_eq_false, decide_eq_true_eq, eq_self, Int.reduceEq, Int.reduceLT, Int.reduceLE, Bool.and_true, Bool.true_and, Bool.and_false, Bool.false_and, Nat.zero_add, ↓iso_1 hk, h0, h3, ↓drop_e, XD, heldB, flatD, List.any_cons, List.any_nil, List.all_cons, List.all_nil, List.filter_cons, List.filter_nil, List.contains_cons, List.contains_nil, Bool.or_false, Bool.or_true, Bool.false_or, Bool.true_or, Bool.and_self, Bool.not_eq_true, BEq.rfl, beq_self_eq_true]
          exact loop
      · have e1 : (!(decide (0 ≤ knum op ∧ knum op ≠ ks.length) || decide (op = 1 ∧ m < 0)) && Tm.shapedL ks) = Tm.shapedL ks := by simp [h0, h2]
        rw [e1]
        simp only [S63_129, S63_130, S63_131, S63_133, S63_134, S63_135, S63_136, S63, ↓XX, ↓reduceIte, Nat.reduceBEq, decide_true, decide_false, Bool.not_true, Bool.not_false, List.map_cons, List.map_nil, List.length_map, List.length_cons, List.length_nil, Nat.reduceAdd, Int.cast_ofNat_Int, Int.natCast_zero, Int.natCast_one, Bool.false_eq_true, Bool.true_eq_false, decide_eq_true_eq, eq_self, Int.reduceEq, Int.reduceLT, Int.reduceLE, Bool.and_true, Bool.true_and, Bool.and_false, Bool.false_and, Nat.zero_add, ↓iso_1 hk, h0, h2, ↓drop_e, XD, heldB, flatD, List.any_cons, List.any_nil, List.all_cons, List.all_nil, List.filter_cons, List.filter_nil, List.contains_cons, List.contains_nil, Bool.or_false, Bool.or_true, Bool.false_or, Bool.true_or, Bool.and_self, Bool.not_eq_true, BEq.rfl, beq_self_eq_true]
        exact loop
end Idl
end Go.Proofs.Ytaifgaidaglblaa

namespace Go.Proofs.Ytaifgaidaglblaa
namespace Idl
def normP (f : Nat) (t : Tm) : Option (Tm × Int) :=
  if t.shaped = false then some (.z, 1) else match evP f [] t ⟨100000, 5000000, 0⟩ with
  | none => none
  | some (v, m) => if m.e ≠ 0 then some (.z, m.e) else match bkP f v 0 1 m 0 with
    | none => none
    | some (u, m, _) => if m.e ≠ 0 then some (.z, m.e) else some (u, 0)
theorem inl_e {ih : Handler} {f : FuncId} {args : List IV} {h h' : Hp} {v : IV} (hr : ih f args h = some (v, h')) (k : IV → Hp → List Ref → List Ref → Option (IV × Hp)) : inlS ih f args h k = k v h' [] [] := by
  unfold inlS
  rw [hr]
noncomputable abbrev Hnm (a b : Blk) (s u r e : Int) : Hp :=
  ⟨[(57671680, a), (57671681, b), (67109889, .row [iv s, iv u, iv r, iv e, .mapr (.own 67110913)] false), (67110913, .map (rulesO 67109889))], []⟩
noncomputable abbrev Hbg (a b : Blk) (es : List (Int × IV)) : Hp :=
  ⟨[(57671680, a), (57671681, b), (67109889, .row [iv 100000, iv 5000000, iv 0, iv 0, .dead] false), (67110913, .map es)], []⟩
noncomputable abbrev fnO (g : FuncId) : IV := .func (.func g) [.ptr (.own 67109889) 0] []
theorem ins_b (a b : Blk) (es : List (Int × IV)) (g : FuncId) (n : Int) (s : Nat) (k : IV → Hp → List Ref → List Ref → Option (IV × Hp)) :
    genS (pcInsert EE 100 (.mapr (.own 67110913)) (iv n) (ruleO 67109889 g)) s (Hbg a b es) k = k .dead (Hbg a b (putMap n (ruleO 67109889 g) es)) [.own 67110913] [.own 67110913] := by
  rw [ins_e _ 0 _ rfl, ownK_eq]
  rw [show lookupOwn 67110913 (Hbg a b es).own = some (.map es) from rfl, Option.bind_some, as_map, putOwnK_eq]
  rfl
theorem bld_b (g : FuncId) (k : IV → Option (IV × Hp)) : bldS [.fv .nilf] [(0, 1, fnO g)] k = k (ruleO 67109889 g) := rfl
theorem begun_69 (a b : Blk) (es : List (Int × IV)) : S64_69 (.ptr (.own 67109889) 0) (Hbg a b es) (.mapr (.own 67110913)) = some (.ptr (.own 67109889) 0, ⟨[(57671680, a), (57671681, b), (67109889, .row [iv 100000, iv 5000000, iv 0, iv 0, .mapr (.own 67110913)] false), (67110913, .map es)], []⟩) := by
  simp only [S64_69, ↓XX, ↓reduceIte, Nat.reduceBEq, decide_true, decide_false, Bool.not_true, Bool.not_false, List.map_cons, List.map_nil, List.length_map, List.length_cons, List.length_nil, Nat.reduceAdd, Int.cast_ofNat_Int, Int.natCast_zero, Int.natCast_one, Bool.false_eq_true, Bool.true_eq_false, decide_eq_true_eq, eq_self, Int.reduceEq, Int.reduceLT, Int.reduceLE, Bool.and_true, Bool.true_and, Bool.and_false, Bool.false_and, Nat.zero_add, ↓on_mapr, ↓of4]
theorem gen_fn (g : FuncId) (s : Nat) (h : Hp) (k : IV → Hp → List Ref → List Ref → Option (IV × Hp)) : genS (Idl.val (mkFunc (.func g) [.ptr (.own 67109889) 0] [])) s h k = k (fnO g) h [] [] := gen_val' _ _ _ _
theorem begun_70 (a b : Blk) (es : List (Int × IV)) : S64_70 (fnO 75) (Hbg a b es) (.mapr (.own 67110913)) (.ptr (.own 67109889) 0) =
    S64_69 (.ptr (.own 67109889) 0) (Hbg a b (putMap 19 (ruleO 67109889 76) (putMap 30 (ruleO 67109889 75) es))) (.mapr (.own 67110913)) := by
  unfold S64_70
  rw [bld_b, ins_b, gen_fn, bld_b, ins_b]
theorem begun_71 (a b : Blk) (es : List (Int × IV)) : S64_71 (Hbg a b es) (.mapr (.own 67110913)) (ruleO 67109889 73) (.ptr (.own 67109889) 0) =
    S64_70 (fnO 75) (Hbg a b (putMap 13 (ruleO 67109889 74) (putMap 9 (ruleO 67109889 73) es))) (.mapr (.own 67110913)) (.ptr (.own 67109889) 0) := by
  unfold S64_71
  rw [ins_b, gen_fn, bld_b, ins_b, gen_fn]
theorem begun_72 (a b : Blk) (es : List (Int × IV)) : S64_72 (Hbg a b es) (.ptr (.own 67109889) 0) (.mapr (.own 67110913)) =
    S64_71 (Hbg a b (putMap 8 (ruleO 67109889 73) es)) (.mapr (.own 67110913)) (ruleO 67109889 73) (.ptr (.own 67109889) 0) := by
  unfold S64_72
  rw [gen_fn, bld_b, ins_b, gen_fn, bld_b]
theorem bld_m (k : IV → Option (IV × Hp)) : bldS [.fv (.int .i64 0), .fv (.int .i64 0), .fv (.int .i64 0), .fv (.int .i64 0), .dead] [(0, 1, .fv (.int .i64 100000)), (1, 1, .fv (.int .i64 5000000))] k = k (.agg [iv 100000, iv 5000000, iv 0, iv 0, .dead]) := by
  simp only [↓XX, ↓reduceIte, Nat.reduceBEq, decide_true, decide_false, Bool.not_true, Bool.not_false, List.map_cons, List.map_nil, List.length_map, List.length_cons, List.length_nil, Nat.reduceAdd, Int.cast_ofNat_Int, Int.natCast_zero, Int.natCast_one, Bool.false_eq_true, Bool.true_eq_false, decide_eq_true_eq, eq_self, Int.reduceEq, Int.reduceLT, Int.reduceLE, Bool.and_true, Bool.true_and, Bool.and_false, Bool.false_and, Nat.zero_add, ↓alv_dead]
theorem begun_e {n : Nat} (hn : 0 < n) (a b : Blk) : SS dt n 64 [] ⟨[(57671680, a), (57671681, b)], []⟩ = some (.ptr (.own 67109889) 0, Hnm a b 100000 5000000 0 0) := by
  obtain ⟨n, rfl⟩ : ∃ k, n = k + 1 := ⟨n - 1, by omega⟩
  rw [c64]
  unfold S64
  rw [bld_m, box_agg']
  have e1 : ∀ k : IV → Hp → List Ref → List Ref → Option (IV × Hp), newS 67109889 (.row [iv 100000, iv 5000000, iv 0, iv 0, .dead] false) (.ptr (.own 67109889) 0) ⟨[(57671680, a), (57671681, b)], []⟩ k =
      k (.ptr (.own 67109889) 0) ⟨[(57671680, a), (57671681, b), (67109889, .row [iv 100000, iv 5000000, iv 0, iv 0, .dead] false)], []⟩ [] [.own 67109889] := by
    intro k
    simp only [↓XX, ↓reduceIte, Nat.reduceBEq, decide_true, decide_false, Bool.not_true, Bool.not_false, List.map_cons, List.map_nil, List.length_map, List.length_cons, List.length_nil, Nat.reduceAdd, Int.cast_ofNat_Int, Int.natCast_zero, Int.natCast_one, Bool.false_eq_true, Bool.true_eq_false, decide_eq_true_eq, eq_self, Int.reduceEq, Int.reduceLT, Int.reduceLE, Bool.and_true, Bool.true_and, Bool.and_false, Bool.false_and, Nat.zero_add]
  rw [e1]
  have e2 : ∀ k : IV → Hp → List Ref → List Ref → Option (IV × Hp), genS (pcMakeMap 67110913) 67110913 ⟨[(57671680, a), (57671681, b), (67109889, .row [iv 100000, iv 5000000, iv 0, iv 0, .dead] false)], []⟩ k =
      k (.mapr (.own 67110913)) (Hbg a b []) [] [.own 67110913] := by
    intro k
    rw [mk_m]
    simp only [↓XX, ↓reduceIte, Nat.reduceBEq, decide_true, decide_false, Bool.not_true, Bool.not_false, List.map_cons, List.map_nil, List.length_map, List.length_cons, List.length_nil, Nat.reduceAdd, Int.cast_ofNat_Int, Int.natCast_zero, Int.natCast_one, Bool.false_eq_true, Bool.true_eq_false, decide_eq_true_eq, eq_self, Int.reduceEq, Int.reduceLT, Int.reduceLE, Bool.and_true, Bool.true_and, Bool.and_false, Bool.false_and, Nat.zero_add]
  rw [e2, gen_fn, bld_b, ins_b, begun_72, begun_71, begun_70, begun_69]
  rfl
section
variable {ih : Handler} {f : FuncId} {w : FV} {a b : Blk} {s u r e s' u' r' e' : Int} (k : IV → Hp → List Ref → List Ref → Option (IV × Hp))
theorem iso_n (args : List IV) (ks : List Bool) (hks : ∀ b ∈ ks, b = false) {vs : List FV} (hz : frzPL args = some vs) (hr : AnsX (ih f (.ptr (.ext 0) 0 :: vs.map .fv) ⟨[], MX s u r e⟩) w (MX s' u' r' e')) :
    isoS (true :: ks) false false ih f (.ptr (.own 67109889) 0 :: args) (Hnm a b s u r e) k = k (.fv w) (Hnm a b s' u' r' e') [.own 67110913, .own 67109889] [.own 67109889, .own 67110913] := by
  rw [iso_om hks hz (mp := 67110913) (by decide) (by rfl) (by rfl) hr]
  rfl
theorem iso_n3 {x y : IV} {vx vy : FV} (hr : AnsX (ih f [.ptr (.ext 0) 0, .fv vx, .fv vy] ⟨[], MX s u r e⟩) w (MX s' u' r' e')) (hx : frzP x = some vx) (hy : frzP y = some vy) :
    isoS [true, false, false] false false ih f [.ptr (.own 67109889) 0, x, y] (Hnm a b s u r e) k = k (.fv w) (Hnm a b s' u' r' e') [.own 67110913, .own 67109889] [.own 67109889, .own 67110913] :=
  iso_n k [x, y] [false, false] (by simp) (zl_2 hx hy) hr
theorem iso_n4 {x y z : IV} {vx vy vz : FV} (hr : AnsX (ih f [.ptr (.ext 0) 0, .fv vx, .fv vy, .fv vz] ⟨[], MX s u r e⟩) w (MX s' u' r' e')) (hx : frzP x = some vx) (hy : frzP y = some vy) (hz : frzP z = some vz) :
    isoS [true, false, false, false] false false ih f [.ptr (.own 67109889) 0, x, y, z] (Hnm a b s u r e) k = k (.fv w) (Hnm a b s' u' r' e') [.own 67110913, .own 67109889] [.own 67109889, .own 67110913] :=
  iso_n k [x, y, z] [false, false, false] (by simp) (zl_3 hx hy hz) hr
end
set_option maxRecDepth 20000 in
set_option maxHeartbeats 1000000 in
theorem normP_ok {f n : Nat} {t u : Tm} {e : Int} (h : normP f t = some (u, e)) (hn : f + 3 ≤ n) (hw : t.wt + 3 < n) (hw2 : t.wt ≤ 1152921504606846976) : Ans (SS dt n 55 [.fv t.enc] ⟨[], []⟩) (.tuple [u.enc, .int .i64 e]) := by
  obtain ⟨n, rfl⟩ : ∃ k, n = k + 1 := ⟨n - 1, by omega⟩
  rw [c55]
  have hs := shaped_ok n t (by omega) hw2
  unfold normP at h
  obtain ⟨op, m, ks⟩ := t
  rw [enc_mk] at hs ⊢
  by_cases h0 : (Tm.mk op m ks).shaped = false
  · rw [if_pos h0] at h
    simp only [Option.some.injEq, Prod.mk.injEq] at h
    obtain ⟨rfl, rfl⟩ := h
    rw [h0] at hs
    simp only [S55_77, S55_78, S55_79, S55_80, S55_81, S55_82, S55_83, S55_84, S55_85, S55_86, S55, ↓XX, ↓reduceIte, Nat.reduceBEq, decide_true, decide_false, Bool.not_true, Bool.not_false, List.map_cons, List.map_nil, List.length_map, List.length_cons, List.length_nil, Nat.reduceAdd, Int.cast_ofNat_Int, Int.natCast_zero, Int.natCast_one, Bool.false_eq_true, Bool.true_eq_false, decide_eq_true_eq, eq_self, Int.reduceEq, Int.reduceLT, Int.reduceLE, Bool.and_true, Bool.true_and, Bool.and_false, Bool.false_and, Nat.zero_add, ↓iso_1 hs]
    exact ans_t rfl (by simp) _
  · rw [if_neg h0] at h
    have h0 : (Tm.mk op m ks).shaped = true := by simpa using h0
    rw [h0] at hs
    cases hev : evP f [] (.mk op m ks) ⟨100000, 5000000, 0⟩ with
    | none => rw [hev] at h; cases h
    | some q =>
      obtain ⟨v, m1⟩ := q
      rw [hev] at h
      simp only at h
      have hc1 := (mx_ok f).1 _ _ _ _ _ hev 0 n (by omega)
      rw [enc_mk, penv_nil] at hc1
      by_cases h1 : m1.e = 0
      · rw [if_neg (by simpa using h1)] at h
        simp only [h1] at hc1
        cases hbk : bkP f v 0 1 m1 0 with
        | none => rw [hbk] at h; cases h
        | some q =>
          obtain ⟨u1, m2, r2⟩ := q
          rw [hbk] at h
          simp only at h
          have hc2 := bk_ok f _ _ _ _ _ _ _ _ hbk n (by omega)
          obtain ⟨o1, n1, k1⟩ := u1
          rw [enc_mk] at hc2
          simp only [h1] at hc2
          by_cases h2 : m2.e = 0
          · rw [if_neg (by simpa using h2)] at h
            simp only [Option.some.injEq, Prod.mk.injEq] at h
            obtain ⟨rfl, rfl⟩ := h
            rw [enc_mk]
            simp only [S55_77, S55_78, S55_79, S55_80, S55_81, S55_82, S55_83, S55_84, S55_85, S55_86, S55, ↓XX, ↓reduceIte, Nat.reduceBEq, decide_true, decide_false, Bool.not_true, Bool.not_false, List.map_cons, List.map_nil, List.length_map, List.length_cons, List.length_nil, Nat.reduceAdd, Int.cast_ofNat_Int, Int.natCast_zero, Int.natCast_one, Bool.false_eq_true, Bool.true_eq_false, decide_eq_true_eq, eq_self, Int.reduceEq, Int.reduceLT, Int.reduceLE, Bool.and_true, Bool.true_and, Bool.and_false, Bool.false_and, Nat.zero_add, ↓iso_1 hs, ↓inl_e (begun_e (n := n) (by omega) _ _), ↓iso_n3 _ hc1, ↓iso_n4 _ hc2, h1, h2]
            exact ans_fv _ _
          · rw [if_pos h2] at h
            simp only [Option.some.injEq, Prod.mk.injEq] at h
            obtain ⟨rfl, rfl⟩ := h
            simp only [S55_77, S55_78, S55_79, S55_80, S55_81, S55_82, S55_83, S55_84, S55_85, S55_86, S55, ↓XX, ↓reduceIte, Nat.reduceBEq, decide_true, decide_false, Bool.not_true, Bool.not_false, List.map_cons, List.map_nil, List.length_map, List.length_cons, List.length_nil, Nat.reduceAdd, Int.cast_ofNat_Int, Int.natCast_zero, Int.natCast_one, Bool.false_eq_true, Bool.true_eq_false, decide_eq_true_eq, eq_self, Int.reduceEq, Int.reduceLT, Int.reduceLE, Bool.and_true, Bool.true_and, Bool.and_false, Bool.false_and, Nat.zero_add, ↓iso_1 hs, ↓inl_e (begun_e (n := n) (by omega) _ _), ↓iso_n3 _ hc1, ↓iso_n4 _ hc2, h1, h2]
            exact ans_t rfl (by simp) _
      · rw [if_pos h1] at h
        simp only [Option.some.injEq, Prod.mk.injEq] at h
        obtain ⟨rfl, rfl⟩ := h
        simp only [S55_77, S55_78, S55_79, S55_80, S55_81, S55_82, S55_83, S55_84, S55_85, S55_86, S55, ↓XX, ↓reduceIte, Nat.reduceBEq, decide_true, decide_false, Bool.not_true, Bool.not_false, List.map_cons, List.map_nil, List.length_map, List.length_cons, List.length_nil, Nat.reduceAdd, Int.cast_ofNat_Int, Int.natCast_zero, Int.natCast_one, Bool.false_eq_true, Bool.true_eq_false, decide_eq_true_eq, eq_self, Int.reduceEq, Int.reduceLT, Int.reduceLE, Bool.and_true, Bool.true_and, Bool.and_false, Bool.false_and, Nat.zero_add, ↓iso_1 hs, ↓inl_e (begun_e (n := n) (by omega) _ _), ↓iso_n3 _ hc1, h1]
        exact ans_t rfl (by simp) _
end Idl
end Go.Proofs.Ytaifgaidaglblaa

namespace Go.Proofs.Ytaifgaidaglblaa
namespace Idl
end Idl
end Go.Proofs.Ytaifgaidaglblaa

namespace Go.Proofs.Ytaifgaidaglblaa
namespace Idl
def ar (op : Int) : Option Nat :=
  if op = 1 ∨ op = 2 ∨ op = 10 ∨ op = 11 ∨ op = 14 ∨ op = 15 ∨ op = 25 then some 0
  else if op = 8 ∨ op = 9 ∨ op = 12 ∨ op = 18 ∨ op = 19 ∨ op = 23 ∨ op = 24 ∨ op = 30 then some 1
  else if op = 3 ∨ op = 4 ∨ op = 5 ∨ op = 6 ∨ op = 16 ∨ op = 17 ∨ op = 20 ∨ op = 21 ∨ op = 22 ∨ op = 26 ∨ op = 28 ∨ op = 29 then some 2
  else if op = 7 ∨ op = 27 then some 3 else if op = 13 then some 4 else none
def numok (op n : Int) : Prop := if op = 2 then 0 ≤ n ∧ n ≤ 2 else if op = 26 then 0 ≤ n ∧ n ≤ 4 else if op = 25 then -2305843009213693952 ≤ n ∧ n ≤ 2305843009213693952 else n = 0
mutual
def Tm.sc : Tm → Nat → Prop
  | .mk op n ks, k => ar op = some ks.length ∧ (if op = 1 then 0 ≤ n ∧ n < k else numok op n) ∧ Tm.scL op 0 ks k
def Tm.scL : Int → Nat → List Tm → Nat → Prop
  | _, _, [], _ => True
  | op, i, t :: l, k => t.sc (k + bindN op i) ∧ Tm.scL op (i + 1) l k
end
section
variable (k0 D : Nat) (L : Int)
end
end Idl
end Go.Proofs.Ytaifgaidaglblaa

namespace Go.Proofs.Ytaifgaidaglblaa
namespace Idl
theorem ar_le {op : Int} {n : Nat} (h : ar op = some n) : n ≤ 4 := by
  unfold ar at h
  repeat' split at h
  all_goals first | (simp only [Option.some.injEq] at h; omega) | cases h
section
variable {k0 D : Nat} {L : Int}
end
end Idl
end Go.Proofs.Ytaifgaidaglblaa

namespace Go.Proofs.Ytaifgaidaglblaa
namespace Idl
section
variable {k0 D : Nat} {L : Int}
end
end Idl
end Go.Proofs.Ytaifgaidaglblaa

namespace Go.Proofs.Ytaifgaidaglblaa
namespace Idl
section
variable {k0 D : Nat} {L L' : Int}
end
section
variable {k0 D : Nat}
end
end Idl
end Go.Proofs.Ytaifgaidaglblaa

namespace Go.Proofs.Ytaifgaidaglblaa
namespace Idl
mutual
theorem sc_wk : ∀ (t : Tm) (k : Nat), t.sc k → t.wk
  | .mk op n ks, k, h => by
    rw [Tm.sc] at h
    rw [Tm.wk]
    exact ⟨ar_le h.1, scL_wk ks op 0 k h.2.2⟩
theorem scL_wk : ∀ (l : List Tm) (op : Int) (i k : Nat), Tm.scL op i l k → Tm.wkL l
  | [], _, _, _, _ => by rw [Tm.wkL]; trivial
  | t :: l, op, i, k, h => by
    rw [Tm.scL] at h
    rw [Tm.wkL]
    exact ⟨sc_wk t _ h.1, scL_wk l op (i + 1) k h.2⟩
end
mutual
theorem shift_wt : ∀ (t : Tm) (d c : Int), (t.shift d c).wt = t.wt
  | .mk op n ks, d, c => by simp only [Tm.shift, Tm.wt, shiftL_wt ks op 0 d c]
theorem shiftL_wt : ∀ (l : List Tm) (op : Int) (i : Nat) (d c : Int), Tm.wtL (Tm.shiftL op i l d c) = Tm.wtL l
  | [], _, _, _, _ => rfl
  | t :: l, op, i, d, c => by simp only [Tm.shiftL, Tm.wtL, shift_wt t, shiftL_wt l]
end
mutual
theorem shift_sc : ∀ (t : Tm) (d c k : Nat), t.sc k → k + 2 * t.wt + d ≤ 9000000000000000000 → (t.shift d c).sc (k + d)
  | .mk op n ks, d, c, k, h, hk => by
    rw [Tm.sc] at h
    rw [Tm.wt] at hk
    rw [Tm.shift, Tm.sc, shiftL_len]
    refine ⟨h.1, ?_, shiftL_sc ks op 0 d c k h.2.2 (by omega)⟩
    by_cases h1 : op = 1
    · have := h.2.1
      rw [if_pos h1] at this ⊢
      by_cases h2 : (c : Int) ≤ n
      · rw [if_pos ⟨h1, h2⟩, w64_id (by omega) (by omega)]; omega
      · rw [if_neg (fun h => h2 h.2)]; omega
    · have := h.2.1
      rw [if_neg h1] at this ⊢
      rw [if_neg (fun h => h1 h.1)]
      exact this
theorem shiftL_sc : ∀ (l : List Tm) (op : Int) (i : Nat) (d c k : Nat), Tm.scL op i l k → k + 2 + 2 * Tm.wtL l + d ≤ 9000000000000000000 → Tm.scL op i (Tm.shiftL op i l d c) (k + d)
  | [], _, _, _, _, _, _, _ => by rw [Tm.shiftL, Tm.scL]; trivial
  | t :: l, op, i, d, c, k, h, hk => by
    rw [Tm.scL] at h
    simp only [Tm.wtL] at hk
    rw [Tm.shiftL, Tm.scL]
    refine ⟨?_, shiftL_sc l op (i + 1) d c k h.2 (by omega)⟩
    rw [show k + d + bindN op i = (k + bindN op i) + d by omega]
    have := bindN_le op i
    exact shift_sc t d (c + bindN op i) (k + bindN op i) h.1 (by omega)
end
mutual
theorem subst_sc : ∀ (t u : Tm) (j k : Nat), t.sc (k + 1 + j) → u.sc k → k + j + 2 * t.wt + 2 * u.wt ≤ 4000000000000000000 → (t.subst j j u).sc (k + j)
  | .mk op n ks, u, j, k, h, hu, hk => by
    rw [Tm.sc] at h
    rw [Tm.wt] at hk
    rw [Tm.subst]
    by_cases h1 : op = 1
    · rw [if_pos h1]
      have h2 := h.2.1
      rw [if_pos h1] at h2
      by_cases h3 : n = j
      · rw [if_pos h3]
        exact shift_sc u j 0 k hu (by omega)
      · rw [if_neg h3]
        by_cases h4 : (j : Int) < n
        · rw [if_pos h4, Tm.sc, if_pos rfl, Tm.scL, w64_id (by omega) (by omega)]
          exact ⟨rfl, by omega, trivial⟩
        · rw [if_neg h4, Tm.sc, if_pos h1]
          have hks : ks = [] := by
            have := h.1
            rw [h1] at this
            simp [ar] at this
            exact List.length_eq_zero_iff.1 this.symm
          subst hks
          exact ⟨h.1, by omega, by rw [Tm.scL]; trivial⟩
    · rw [if_neg h1, Tm.sc, if_neg h1, substL_len]
      have h2 := h.2.1
      rw [if_neg h1] at h2
      exact ⟨h.1, h2, substL_sc ks u op 0 j k h.2.2 hu (by omega)⟩
theorem substL_sc : ∀ (l : List Tm) (u : Tm) (op : Int) (i j k : Nat), Tm.scL op i l (k + 1 + j) → u.sc k → k + j + 2 + 2 * Tm.wtL l + 2 * u.wt ≤ 4000000000000000000 → Tm.scL op i (Tm.substL op i l j j u) (k + j)
  | [], _, _, _, _, _, _, _, _ => by rw [Tm.substL, Tm.scL]; trivial
  | t :: l, u, op, i, j, k, h, hu, hk => by
    rw [Tm.scL] at h
    simp only [Tm.wtL] at hk
    rw [Tm.substL, Tm.scL]
    refine ⟨?_, substL_sc l u op (i + 1) j k h.2 hu (by omega)⟩
    have := bindN_le op i
    have h1 := subst_sc t u (j + bindN op i) k (by rw [← Nat.add_assoc]; exact h.1) hu (by omega)
    rw [Nat.add_assoc]
    exact h1
end
mutual
theorem subst_wt : ∀ (t u : Tm) (c d : Int), (t.subst c d u).wt ≤ t.wt * u.wt
  | .mk op n ks, u, c, d => by
    have hu := wt_pos u
    rw [Tm.subst]
    by_cases h1 : op = 1
    · rw [if_pos h1]
      have key : u.wt ≤ (Tm.mk op n ks).wt * u.wt := Nat.le_mul_of_pos_left _ (wt_pos _)
      by_cases h3 : n = c
      · rw [if_pos h3, shift_wt]; exact key
      · rw [if_neg h3]
        by_cases h4 : c < n
        · rw [if_pos h4]; simp only [Tm.wt, Tm.wtL] at key ⊢; omega
        · rw [if_neg h4]; exact Nat.le_mul_of_pos_right _ hu
    · rw [if_neg h1]
      have := substL_wt ks u op 0 c d
      simp only [Tm.wt]
      rw [Nat.add_mul]
      omega
theorem substL_wt : ∀ (l : List Tm) (u : Tm) (op : Int) (i : Nat) (c d : Int), Tm.wtL (Tm.substL op i l c d u) ≤ Tm.wtL l * u.wt
  | [], _, _, _, _, _ => by simp [Tm.substL, Tm.wtL]
  | t :: l, u, op, i, c, d => by
    have h1 := subst_wt t u (c + bindN op i) (d + bindN op i)
    have h2 := substL_wt l u op (i + 1) c d
    simp only [Tm.substL, Tm.wtL]
    rw [Nat.add_mul]
    omega
end
end Idl
end Go.Proofs.Ytaifgaidaglblaa

namespace Go.Proofs.Ytaifgaidaglblaa
namespace Idl
theorem sc_get : ∀ {op : Int} {i j : Nat} {ks : List Tm} {k : Nat} {t : Tm}, Tm.scL op i ks k → ks[j]? = some t → t.sc (k + bindN op (i + j))
  | op, i, 0, x :: l, k, t, h, hg => by
    rw [Tm.scL] at h
    simp only [List.getElem?_cons_zero, Option.some.injEq] at hg
    subst hg
    exact h.1
  | op, i, j + 1, x :: l, k, t, h, hg => by
    rw [Tm.scL] at h
    rw [List.getElem?_cons_succ] at hg
    have := sc_get h.2 hg
    rwa [show i + 1 + j = i + (j + 1) by omega] at this
  | _, _, _, [], _, _, _, hg => by simp at hg
end Idl
end Go.Proofs.Ytaifgaidaglblaa

namespace Go.Proofs.Ytaifgaidaglblaa
namespace Idl
def zeroTm : Tm := .mk 11 0 []
def fnP (t : Tm) : Tm := match t with
  | .mk _ _ [_, .mk o1 _ [f, .mk o2 n2 _]] => if o1 = 5 ∧ o2 = 1 ∧ n2 = 0 ∧ f.free 0 = false then f.subst 0 0 zeroTm else t
  | _ => t
def prP (t : Tm) : Tm := match t with
  | .mk _ _ [_, .mk o1 _ [x], .mk o2 _ [y]] => if o1 = 8 ∧ o2 = 9 ∧ x.same y = true then x else t
  | _ => t
theorem fnP_ne {op m : Int} {z b : Tm} (h : b.op ≠ 5) : fnP (.mk op m [z, b]) = .mk op m [z, b] := by
  unfold fnP
  split
  · rename_i h1
    simp only [Tm.mk.injEq, List.cons.injEq, and_true] at h1
    obtain ⟨_, _, _, rfl⟩ := h1
    rw [if_neg (fun h2 => h h2.1)]
  · rfl
theorem zero_sc (k : Nat) : zeroTm.sc k := by
  rw [zeroTm, Tm.sc]
  exact ⟨by decide, by rw [if_neg (by decide), numok, if_neg (by decide), if_neg (by decide), if_neg (by decide)], trivial⟩
theorem prP_ne {op m : Int} {z a b : Tm} (h : ¬ (a.op = 8 ∧ b.op = 9)) : prP (.mk op m [z, a, b]) = .mk op m [z, a, b] := by
  unfold prP
  split
  · rename_i h1
    simp only [Tm.mk.injEq, List.cons.injEq, and_true] at h1
    obtain ⟨_, _, _, rfl, rfl⟩ := h1
    rw [if_neg (fun h2 => h ⟨h2.1, h2.2.1⟩)]
  · rfl
theorem sc_kids {t : Tm} {k : Nat} {o : Int} {r : Nat} (h : t.sc k) (ho : t.op = o) (hr : ar o = some r) : t.kids.length = r := by
  obtain ⟨op, m, ks⟩ := t
  simp only [Tm.op] at ho
  subst ho
  rw [Tm.sc, hr] at h
  have := h.1
  simp only [Option.some.injEq] at this
  exact this.symm
def setZ : List Tm → List Tm
  | [] => []
  | _ :: l => zeroTm :: l
mutual
def Tm.eta : Tm → Tm
  | .mk op m ks => if op = 4 then fnP (.mk 4 m (setZ (Tm.etaL ks))) else if op = 7 then prP (.mk 7 m (setZ (Tm.etaL ks))) else .mk op m (Tm.etaL ks)
def Tm.etaL : List Tm → List Tm
  | [] => []
  | t :: l => t.eta :: Tm.etaL l
end
theorem etaL_len : ∀ l : List Tm, (Tm.etaL l).length = l.length
  | [] => rfl
  | _ :: l => by simp only [Tm.etaL, List.length_cons, etaL_len l]
theorem fnP_sc {m : Int} {z b : Tm} {k : Nat} (hz : z.sc k) (hb : b.sc (k + 1)) (hm : m = 0) (hw : k + 2 * b.wt ≤ 1000000000) : (fnP (.mk 4 m [z, b])).sc k ∧ (fnP (.mk 4 m [z, b])).wt ≤ 1 + z.wt + b.wt := by
  have h0 : (Tm.mk 4 m [z, b]).sc k := by
    rw [Tm.sc]
    refine ⟨rfl, ?_, hz, hb, trivial⟩
    rw [if_neg (by decide), numok, if_neg (by decide), if_neg (by decide), if_neg (by decide)]
    exact hm
  have h1 : (Tm.mk 4 m [z, b]).wt = 1 + z.wt + b.wt := by simp only [Tm.wt, Tm.wtL]; omega
  unfold fnP
  split
  · rename_i o1 n1 f o2 n2 k2 heq
    simp only [Tm.mk.injEq, List.cons.injEq, and_true] at heq
    obtain ⟨_, _, rfl, rfl⟩ := heq
    split
    · rename_i hc
      obtain ⟨rfl, _, _, _⟩ := hc
      rw [Tm.sc] at hb
      have hf : f.sc (k + 1) := by
        have := hb.2.2
        rw [Tm.scL] at this
        exact this.1
      simp only [Tm.wt, Tm.wtL] at hw h1 ⊢
      have hs := subst_sc f zeroTm 0 k hf (zero_sc k) (by simp only [zeroTm, Tm.wt, Tm.wtL]; omega)
      have hwt := subst_wt f zeroTm 0 0
      have hz1 : zeroTm.wt = 1 := rfl
      rw [hz1, Nat.mul_one] at hwt
      exact ⟨hs, by omega⟩
    · exact ⟨h0, by rw [h1]; exact Nat.le_refl _⟩
  · exact ⟨h0, by rw [h1]; exact Nat.le_refl _⟩
theorem prP_sc {m : Int} {z a b : Tm} {k : Nat} (hz : z.sc k) (ha : a.sc k) (hb : b.sc k) (hm : m = 0) : (prP (.mk 7 m [z, a, b])).sc k ∧ (prP (.mk 7 m [z, a, b])).wt ≤ 1 + z.wt + a.wt + b.wt := by
  have h0 : (Tm.mk 7 m [z, a, b]).sc k := by
    rw [Tm.sc]
    refine ⟨rfl, ?_, hz, ha, hb, trivial⟩
    rw [if_neg (by decide), numok, if_neg (by decide), if_neg (by decide), if_neg (by decide)]
    exact hm
  have h1 : (Tm.mk 7 m [z, a, b]).wt = 1 + z.wt + a.wt + b.wt := by simp only [Tm.wt, Tm.wtL]; omega
  unfold prP
  split
  · rename_i o1 n1 x o2 n2 y heq
    simp only [Tm.mk.injEq, List.cons.injEq, and_true] at heq
    obtain ⟨_, _, rfl, rfl, rfl⟩ := heq
    split
    · rename_i hc
      obtain ⟨rfl, _, _⟩ := hc
      rw [Tm.sc] at ha
      have hf : x.sc k := by
        have := ha.2.2
        rw [Tm.scL] at this
        exact this.1
      simp only [Tm.wt, Tm.wtL] at h1 ⊢
      exact ⟨hf, by omega⟩
    · exact ⟨h0, by rw [h1]; exact Nat.le_refl _⟩
  · exact ⟨h0, by rw [h1]; exact Nat.le_refl _⟩
mutual
theorem eta_sc : ∀ (t : Tm) (k : Nat), t.sc k → k + 2 * t.wt ≤ 1000000000 → t.eta.sc k ∧ t.eta.wt ≤ t.wt
  | .mk op m ks, k, h, hw => by
    rw [Tm.sc] at h
    rw [Tm.wt] at hw
    have hl := etaL_sc op 0 ks k h.2.2 (by omega)
    have hll := etaL_len ks
    rw [Tm.eta]
    by_cases h4 : op = 4
    · subst h4
      rw [if_pos rfl]
      have h9 : ar 4 = some 2 := by decide
      rw [h9, if_neg (by decide), numok, if_neg (by decide), if_neg (by decide), if_neg (by decide)] at h
      match ks, h, hl, hw with
      | [a, b], h, hl, hw =>
        simp only [Tm.etaL, setZ]
        simp only [Tm.etaL, Tm.scL, Tm.wtL] at hl
        simp only [Tm.wtL] at hw
        have hb1 : bindN 4 1 = 1 := by decide
        have hr := fnP_sc (m := m) (z := zeroTm) (b := b.eta) (k := k) (zero_sc k) (by have := hl.1.2.1; rwa [hb1] at this) h.2.1 (by omega)
        have hz1 : zeroTm.wt = 1 := rfl
        have hp := wt_pos a
        have hp2 := wt_pos a.eta
        rw [hz1] at hr
        simp only [Tm.wt, Tm.wtL]
        exact ⟨hr.1, by omega⟩
      | [], h, _, _ => simp at h
      | [_], h, _, _ => simp at h
      | _ :: _ :: _ :: _, h, _, _ => simp at h
    · rw [if_neg h4]
      by_cases h7 : op = 7
      · subst h7
        rw [if_pos rfl]
        have h9 : ar 7 = some 3 := by decide
        rw [h9, if_neg (by decide), numok, if_neg (by decide), if_neg (by decide), if_neg (by decide)] at h
        match ks, h, hl, hw with
        | [a, b, c], h, hl, hw =>
          simp only [Tm.etaL, setZ]
          simp only [Tm.etaL, Tm.scL, Tm.wtL] at hl
          simp only [Tm.wtL] at hw
          have hb1 : bindN 7 1 = 0 := by decide
          have hb2 : bindN 7 2 = 0 := by decide
          have hr := prP_sc (m := m) (z := zeroTm) (a := b.eta) (b := c.eta) (k := k) (zero_sc k) (by have := hl.1.2.1; rwa [hb1] at this) (by have := hl.1.2.2.1; rwa [hb2] at this) h.2.1
          have hz1 : zeroTm.wt = 1 := rfl
          have hp := wt_pos a
          have hp2 := wt_pos a.eta
          rw [hz1] at hr
          simp only [Tm.wt, Tm.wtL]
          exact ⟨hr.1, by omega⟩
        | [], h, _, _ => simp at h
        | [_], h, _, _ => simp at h
        | [_, _], h, _, _ => simp at h
        | _ :: _ :: _ :: _ :: _, h, _, _ => simp at h
      · rw [if_neg h7, Tm.sc]
        refine ⟨⟨by rw [hll]; exact h.1, h.2.1, hl.1⟩, ?_⟩
        simp only [Tm.wt]
        omega
theorem etaL_sc : ∀ (op : Int) (i : Nat) (l : List Tm) (k : Nat), Tm.scL op i l k → k + 2 + 2 * Tm.wtL l ≤ 1000000000 → Tm.scL op i (Tm.etaL l) k ∧ Tm.wtL (Tm.etaL l) ≤ Tm.wtL l
  | _, _, [], _, _, _ => by simp only [Tm.etaL, Tm.scL, true_and]; exact Nat.le_refl _
  | op, i, t :: l, k, h, hw => by
    rw [Tm.scL] at h
    rw [Tm.wtL] at hw
    have hb := bindN_le op i
    have h1 := eta_sc t (k + bindN op i) h.1 (by omega)
    have h2 := etaL_sc op (i + 1) l k h.2 (by omega)
    rw [Tm.etaL, Tm.scL, Tm.wtL, Tm.wtL]
    exact ⟨⟨h1.1, h2.1⟩, by omega⟩
end
end Idl
end Go.Proofs.Ytaifgaidaglblaa

namespace Go.Proofs.Ytaifgaidaglblaa
namespace Idl
def numokB (op n : Int) : Bool := if op = 2 then decide (0 ≤ n) && decide (n ≤ 2) else if op = 26 then decide (0 ≤ n) && decide (n ≤ 4) else if op = 25 then decide (-2305843009213693952 ≤ n) && decide (n ≤ 2305843009213693952) else decide (n = 0)
theorem numokB_ok {op n : Int} (h : numokB op n = true) : numok op n := by
  unfold numokB at h
  unfold numok
  split
  · rename_i h1; rw [if_pos h1] at h; simpa using h
  · rename_i h1
    rw [if_neg h1] at h
    split
    · rename_i h2; rw [if_pos h2] at h; simpa using h
    · rename_i h2
      rw [if_neg h2] at h
      split
      · rename_i h3; rw [if_pos h3] at h; simpa using h
      · rename_i h3; rw [if_neg h3] at h; simpa using h
mutual
def Tm.scB : Tm → Nat → Bool
  | .mk op n ks, k => (ar op == some ks.length) && ((if op = 1 then decide (0 ≤ n) && decide (n < k) else numokB op n) && Tm.scBL op 0 ks k)
def Tm.scBL : Int → Nat → List Tm → Nat → Bool
  | _, _, [], _ => true
  | op, i, t :: l, k => t.scB (k + bindN op i) && Tm.scBL op (i + 1) l k
end
mutual
theorem scB_ok : ∀ (t : Tm) (k : Nat), t.scB k = true → t.sc k
  | .mk op n ks, k, h => by
    simp only [Tm.scB, Bool.and_eq_true, beq_iff_eq] at h
    rw [Tm.sc]
    refine ⟨h.1, ?_, scBL_ok op 0 ks k h.2.2⟩
    split
    · rename_i h1
      have h2 := h.2.1
      rw [if_pos h1] at h2
      simpa using h2
    · rename_i h1
      have h2 := h.2.1
      rw [if_neg h1] at h2
      exact numokB_ok h2
theorem scBL_ok : ∀ (op : Int) (i : Nat) (l : List Tm) (k : Nat), Tm.scBL op i l k = true → Tm.scL op i l k
  | _, _, [], _, _ => trivial
  | op, i, t :: l, k, h => by
    simp only [Tm.scBL, Bool.and_eq_true] at h
    exact ⟨scB_ok t _ h.1, scBL_ok op (i + 1) l k h.2⟩
end
def formB (F : Nat) (t : Tm) : Option Tm := match normP F t with
  | some (u, e) => if e = 0 ∧ u.scB 9 = true ∧ u.wt ≤ 3000 ∧ t.wt ≤ 3000 then some u.eta else none
  | none => none
theorem formB_ok {F : Nat} {t v : Tm} (h : formB F t = some v) : ∃ u, normP F t = some (u, 0) ∧ u.sc 9 ∧ u.wt ≤ 3000 ∧ t.wt ≤ 3000 ∧ v = u.eta := by
  unfold formB at h
  split at h
  · rename_i u e hn
    split at h
    · rename_i hc
      obtain ⟨rfl, h1, h2, h3⟩ := hc
      cases h
      exact ⟨u, hn, scB_ok u 9 h1, h2, h3, rfl⟩
    · cases h
  · cases h
def eqB (F : Nat) (t s : Tm) (b : Bool) : Bool := match formB F t, formB F s with
  | some u, some v => u.same v == b
  | _, _ => false
theorem eqB_ok {F : Nat} {t s : Tm} {b : Bool} (h : eqB F t s b = true) : ∃ u v, formB F t = some u ∧ formB F s = some v ∧ u.same v = b := by
  unfold eqB at h
  split at h
  · rename_i u v h1 h2
    exact ⟨u, v, h1, h2, by simpa using h⟩
  · cases h
end Idl
end Go.Proofs.Ytaifgaidaglblaa

namespace Go.Proofs.Ytaifgaidaglblaa
namespace Idl
def pT (a b : Tm) : Tm := .mk 13 0 [.mk 10 0 [], b, .mk 12 0 [.mk 1 0 []], a]
theorem sums1 : ∀ n m : Fin 12, eqB 200 (pT (tnum n) (tnum m)) (pT (tnum m) (tnum n)) true = true := by decide +kernel
theorem sums2_0 : ∀ m k : Fin 12, eqB 200 (pT (pT (tnum 0) (tnum m)) (tnum k)) (pT (tnum 0) (pT (tnum m) (tnum k))) true = true := by decide +kernel
theorem sums2_1 : ∀ m k : Fin 12, eqB 200 (pT (pT (tnum 1) (tnum m)) (tnum k)) (pT (tnum 1) (pT (tnum m) (tnum k))) true = true := by decide +kernel
theorem sums2_2 : ∀ m k : Fin 12, eqB 200 (pT (pT (tnum 2) (tnum m)) (tnum k)) (pT (tnum 2) (pT (tnum m) (tnum k))) true = true := by decide +kernel
theorem sums2_3 : ∀ m k : Fin 12, eqB 200 (pT (pT (tnum 3) (tnum m)) (tnum k)) (pT (tnum 3) (pT (tnum m) (tnum k))) true = true := by decide +kernel
theorem sums2_4 : ∀ m k : Fin 12, eqB 200 (pT (pT (tnum 4) (tnum m)) (tnum k)) (pT (tnum 4) (pT (tnum m) (tnum k))) true = true := by decide +kernel
theorem sums2_5 : ∀ m k : Fin 12, eqB 200 (pT (pT (tnum 5) (tnum m)) (tnum k)) (pT (tnum 5) (pT (tnum m) (tnum k))) true = true := by decide +kernel
theorem sums2_6 : ∀ m k : Fin 12, eqB 200 (pT (pT (tnum 6) (tnum m)) (tnum k)) (pT (tnum 6) (pT (tnum m) (tnum k))) true = true := by decide +kernel
theorem sums2_7 : ∀ m k : Fin 12, eqB 200 (pT (pT (tnum 7) (tnum m)) (tnum k)) (pT (tnum 7) (pT (tnum m) (tnum k))) true = true := by decide +kernel
theorem sums2_8 : ∀ m k : Fin 12, eqB 200 (pT (pT (tnum 8) (tnum m)) (tnum k)) (pT (tnum 8) (pT (tnum m) (tnum k))) true = true := by decide +kernel
theorem sums2_9 : ∀ m k : Fin 12, eqB 200 (pT (pT (tnum 9) (tnum m)) (tnum k)) (pT (tnum 9) (pT (tnum m) (tnum k))) true = true := by decide +kernel
theorem sums2_10 : ∀ m k : Fin 12, eqB 200 (pT (pT (tnum 10) (tnum m)) (tnum k)) (pT (tnum 10) (pT (tnum m) (tnum k))) true = true := by decide +kernel
theorem sums2_11 : ∀ m k : Fin 12, eqB 200 (pT (pT (tnum 11) (tnum m)) (tnum k)) (pT (tnum 11) (pT (tnum m) (tnum k))) true = true := by decide +kernel
theorem sums2 (n m k : Fin 12) : eqB 200 (pT (pT (tnum n) (tnum m)) (tnum k)) (pT (tnum n) (pT (tnum m) (tnum k))) true = true := by
  obtain ⟨n, hn⟩ := n
  have h : n = 0 ∨ n = 1 ∨ n = 2 ∨ n = 3 ∨ n = 4 ∨ n = 5 ∨ n = 6 ∨ n = 7 ∨ n = 8 ∨ n = 9 ∨ n = 10 ∨ n = 11 := by omega
  rcases h with rfl | rfl | rfl | rfl | rfl | rfl | rfl | rfl | rfl | rfl | rfl | rfl
  · exact sums2_0 m k
  · exact sums2_1 m k
  · exact sums2_2 m k
  · exact sums2_3 m k
  · exact sums2_4 m k
  · exact sums2_5 m k
  · exact sums2_6 m k
  · exact sums2_7 m k
  · exact sums2_8 m k
  · exact sums2_9 m k
  · exact sums2_10 m k
  · exact sums2_11 m k
theorem sums3 : ∀ n : Fin 12, eqB 200 (pT (tnum n) (.mk 1 0 [])) (pT (pT (.mk 11 0 []) (tnum n)) (.mk 1 0 [])) true = true := by decide +kernel
theorem sums4 : ∀ n : Fin 12, eqB 200 (pT (.mk 1 0 []) (tnum n)) (pT (tnum n) (.mk 1 0 [])) false = true := by decide +kernel
theorem sums5_0 : ∀ m k : Fin 12, eqB 200 (pT (tnum 0) (tnum m)) (tnum k) (decide (0 + m.val = k.val)) = true := by decide +kernel
theorem sums5_1 : ∀ m k : Fin 12, eqB 200 (pT (tnum 1) (tnum m)) (tnum k) (decide (1 + m.val = k.val)) = true := by decide +kernel
theorem sums5_2 : ∀ m k : Fin 12, eqB 200 (pT (tnum 2) (tnum m)) (tnum k) (decide (2 + m.val = k.val)) = true := by decide +kernel
theorem sums5_3 : ∀ m k : Fin 12, eqB 200 (pT (tnum 3) (tnum m)) (tnum k) (decide (3 + m.val = k.val)) = true := by decide +kernel
theorem sums5_4 : ∀ m k : Fin 12, eqB 200 (pT (tnum 4) (tnum m)) (tnum k) (decide (4 + m.val = k.val)) = true := by decide +kernel
theorem sums5_5 : ∀ m k : Fin 12, eqB 200 (pT (tnum 5) (tnum m)) (tnum k) (decide (5 + m.val = k.val)) = true := by decide +kernel
theorem sums5_6 : ∀ m k : Fin 12, eqB 200 (pT (tnum 6) (tnum m)) (tnum k) (decide (6 + m.val = k.val)) = true := by decide +kernel
theorem sums5_7 : ∀ m k : Fin 12, eqB 200 (pT (tnum 7) (tnum m)) (tnum k) (decide (7 + m.val = k.val)) = true := by decide +kernel
theorem sums5_8 : ∀ m k : Fin 12, eqB 200 (pT (tnum 8) (tnum m)) (tnum k) (decide (8 + m.val = k.val)) = true := by decide +kernel
theorem sums5_9 : ∀ m k : Fin 12, eqB 200 (pT (tnum 9) (tnum m)) (tnum k) (decide (9 + m.val = k.val)) = true := by decide +kernel
theorem sums5_10 : ∀ m k : Fin 12, eqB 200 (pT (tnum 10) (tnum m)) (tnum k) (decide (10 + m.val = k.val)) = true := by decide +kernel
theorem sums5_11 : ∀ m k : Fin 12, eqB 200 (pT (tnum 11) (tnum m)) (tnum k) (decide (11 + m.val = k.val)) = true := by decide +kernel
theorem sums5 (n m k : Fin 12) : eqB 200 (pT (tnum n) (tnum m)) (tnum k) (decide (n.val + m.val = k.val)) = true := by
  obtain ⟨n, hn⟩ := n
  have h : n = 0 ∨ n = 1 ∨ n = 2 ∨ n = 3 ∨ n = 4 ∨ n = 5 ∨ n = 6 ∨ n = 7 ∨ n = 8 ∨ n = 9 ∨ n = 10 ∨ n = 11 := by omega
  rcases h with rfl | rfl | rfl | rfl | rfl | rfl | rfl | rfl | rfl | rfl | rfl | rfl
  · exact sums5_0 m k
  · exact sums5_1 m k
  · exact sums5_2 m k
  · exact sums5_3 m k
  · exact sums5_4 m k
  · exact sums5_5 m k
  · exact sums5_6 m k
  · exact sums5_7 m k
  · exact sums5_8 m k
  · exact sums5_9 m k
  · exact sums5_10 m k
  · exact sums5_11 m k
end Idl
end Go.Proofs.Ytaifgaidaglblaa

namespace Go.Proofs.Ytaifgaidaglblaa
namespace Idl
theorem num_ok {n : Nat} (k : Nat) (hn : k + 3 < n) (hk : k ≤ 1000000) : Ans (SS dt n 29 [iv k] ⟨[], []⟩) (tnum k).enc := by
  obtain ⟨n, rfl⟩ : ∃ j, n = j + 1 := ⟨n - 1, by omega⟩
  rw [c29]
  have h0 := t0_ok (n := n) (by omega) 11
  rw [enc_mk] at h0
  simp only [S29_49, S29_50, S29_51, S29, ↓XX, ↓reduceIte, Nat.reduceBEq, decide_true, decide_false, Bool.not_true, Bool.not_false, List.map_cons, List.map_nil, List.length_map, List.length_cons, List.length_nil, Nat.reduceAdd, Int.cast_ofNat_Int, Int.natCast_zero, Int.natCast_one, Bool.false_eq_true, Bool.true_eq_false, decide_eq_true_eq, eq_self, Int.reduceEq, Int.reduceLT, Int.reduceLE, Bool.and_true, Bool.true_and, Bool.and_false, Bool.false_and, Nat.zero_add, ↓iso_2 h0]
  refine loop_run (Q := fun r => Ans r _) (fun j V H => ∃ (i : Nat), i + j = k ∧ V = [iv k, .ptr (.own 30408704) 0, .ptr (.own 30409729) 0, iv i] ∧
      H = ⟨[(30408704, .row [iv 0, iv 0, .nils] false), (30409729, .row [iv (tnum i).op, iv (tnum i).n, .fv (.sl ((tnum i).kids.map Tm.enc))] false)], []⟩) ?_ n k _ _ (by omega) ⟨0, by omega, rfl, rfl⟩
  rintro j V H rec ⟨i, hi, rfl, rfl⟩ hrec
  cases j with
  | zero =>
    have : i = k := by omega
    subst this
    have hno : ¬ ((i : Int) < i) := by omega
    generalize tnum i = t
    obtain ⟨o, p, l⟩ := t
    rw [enc_mk]
    simp only [S29_49, S29_50, S29_51, S29_52, S29, ↓XX, ↓reduceIte, Nat.reduceBEq, decide_true, decide_false, Bool.not_true, Bool.not_false, List.map_cons, List.map_nil, List.length_map, List.length_cons, List.length_nil, Nat.reduceAdd, Int.cast_ofNat_Int, Int.natCast_zero, Int.natCast_one, Bool.false_eq_true, Bool.true_eq_false, decide_eq_true_eq, eq_self, Int.reduceEq, Int.reduceLT, Int.reduceLE, Bool.and_true, Bool.true_and, Bool.and_false, Bool.false_and, Nat.zero_add, hno, Tm.op, Tm.n, Tm.kids]
    exact ans_fv _ _
  | succ j =>
    have hlt : (i : Int) < k := by omega
    have hw : w64 ((i : Int) + 1) = ((i + 1 : Nat) : Int) := (w64_id (by omega) (by omega)).trans (by simp)
    have ht := t_ok (n := n) (by omega) 12 [tnum i]
    have h9 := hrec j ([iv k, .ptr (.own 30408704) 0, .ptr (.own 30409729) 0, iv (i + 1 : Nat)]) (⟨[(30408704, .row [iv 0, iv 0, .nils] false), (30409729, .row [iv 12, iv 0, .fv (.sl ([tnum i].map Tm.enc))] false)], []⟩) (by omega) ⟨i + 1, by omega, rfl, rfl⟩
    generalize tnum i = t at *
    obtain ⟨o, p, l⟩ := t
    simp only [List.map_cons, List.map_nil, enc_mk] at ht h9
    simp only [S29_49, S29_50, S29_51, S29_52, S29, ↓XX, ↓reduceIte, Nat.reduceBEq, decide_true, decide_false, Bool.not_true, Bool.not_false, List.map_cons, List.map_nil, List.length_map, List.length_cons, List.length_nil, Nat.reduceAdd, Int.cast_ofNat_Int, Int.natCast_zero, Int.natCast_one, Bool.false_eq_true, Bool.true_eq_false, decide_eq_true_eq, eq_self, Int.reduceEq, Int.reduceLT, Int.reduceLE, Bool.and_true, Bool.true_and, Bool.and_false, Bool.false_and, Nat.zero_add, hlt, Tm.op, Tm.n, Tm.kids, ↓bs1_tm', ↓iso_2 ht, hw]
    exact h9
end Idl
end Go.Proofs.Ytaifgaidaglblaa

namespace Go.Proofs.Ytaifgaidaglblaa
namespace Idl
theorem kp_same (ih : Handler) (xs : List IV) (h0 : Hp) (k : IV → Hp → List Ref → List Ref → Option (IV × Hp)) : dynS EE ih (.fv (.func (.func 57) [] [])) xs h0 k = isoS [] false false ih 57 xs h0 k :=
  keep0 (by kernel_rfl) (by kernel_rfl) (by kernel_rfl) (by kernel_rfl) ..
theorem eqf_ok {n : Nat} (ka kb : List Tm) (hn : ka.length < n) (hl : ka.length ≤ 1000000000) (ih : ∀ a ∈ ka, ∀ b ∈ kb, Ans (SS dt n 57 [.fv a.enc, .fv b.enc] ⟨[], []⟩) (.bool (a.same b))) :
    Ans (SS dt (n + 1) 69 [.fv (.sl (ka.map Tm.enc)), .fv (.sl (kb.map Tm.enc)), .fv (.func (.func 57) [] [])] ⟨[], []⟩) (.bool (decide (ka.length = kb.length) && Tm.sameL ka kb)) := by
  rw [c69]
  by_cases h : ka.length = kb.length
  · have h' : (ka.length : Int) = kb.length := by omega
    rw [decide_eq_true h, Bool.true_and]
    simp only [S69_54, S69_55, S69_56, S69_57, S69_59, S69, ↓XX, ↓reduceIte, Nat.reduceBEq, decide_true, decide_false, Bool.not_true, Bool.not_false, List.map_cons, List.map_nil, List.length_map, List.length_cons, List.length_nil, Nat.reduceAdd, Int.cast_ofNat_Int, Int.natCast_zero, Int.natCast_one, Bool.false_eq_true, Bool.true_eq_false, decide_eq_true_eq, eq_self, Int.reduceEq, Int.reduceLT, Int.reduceLE, Bool.and_true, Bool.true_and, Bool.and_false, Bool.false_and, Nat.zero_add, h', ↓drop_e, XD, heldB, flatD, List.any_cons, List.any_nil, List.all_cons, List.all_nil, List.filter_cons, List.filter_nil, List.contains_cons, List.contains_nil, Bool.or_false, Bool.or_true, Bool.false_or, Bool.true_or, Bool.and_self, Bool.not_eq_true, BEq.rfl, beq_self_eq_true]
    refine loop_run (Q := fun r => Ans r _) (fun k V H => ∃ pa ra pb rb, ka = pa ++ ra ∧ kb = pb ++ rb ∧ pa.length = pb.length ∧ ra.length = k ∧ V = [.fv (.sl (kb.map Tm.enc)), .fv (.func (.func 57) [] []), .fv (.sl (ka.map Tm.enc)), iv ka.length, iv pa.length] ∧ H = ⟨[], []⟩ ∧ Tm.sameL ra rb = Tm.sameL ka kb)
      ?_ n ka.length _ _ hn ⟨[], ka, [], kb, rfl, rfl, rfl, rfl, by rw [h]; rfl, rfl, rfl⟩
    rintro k V H rec ⟨pa, ra, pb, rb, hka, hkb, hpl, hk, rfl, rfl, hs⟩ hrec
    have hal : ka.length = pa.length + ra.length := by rw [hka]; simp
    have hbl : kb.length = pb.length + rb.length := by rw [hkb]; simp
    cases ra with
    | nil =>
      have hno : ¬ ((pa.length : Int) < ka.length) := by rw [hal]; simp
      rw [← hs]
      simp only [S69_54, S69_55, S69_56, S69_57, S69_58, S69_59, S69, ↓XX, ↓reduceIte, Nat.reduceBEq, decide_true, decide_false, Bool.not_true, Bool.not_false, List.map_cons, List.map_nil, List.length_map, List.length_cons, List.length_nil, Nat.reduceAdd, Int.cast_ofNat_Int, Int.natCast_zero, Int.natCast_one, Bool.false_eq_true, Bool.true_eq_false, decide_eq_true_eq, eq_self, Int.reduceEq, Int.reduceLT, Int.reduceLE, Bool.and_true, Bool.true_and, Bool.and_false, Bool.false_and, Nat.zero_add, hno, Tm.sameL]
      exact ans_fv _ _
    | cons a ra =>
      simp only [List.length_cons] at hal hk
      cases rb with
      | nil => simp only [List.length_nil] at hbl; omega
      | cons b rb =>
        have hi : (pa.length : Int) < ka.length := by omega
        have hga := at_pre hka
        have hgb := at_pre hkb
        rw [← hpl] at hgb
        have hc := ih a (by rw [hka]; simp) b (by rw [hkb]; simp)
        have hwi : w64 ((pa.length : Int) + 1) = ((pa ++ [a]).length : Int) := (w64_id (by omega) (by omega)).trans (by simp)
        simp only [Tm.sameL] at hs
        generalize a.same b = v at hc hs
        obtain ⟨o, p, l⟩ := a
        obtain ⟨o2, p2, l2⟩ := b
        simp only [enc_mk] at hc
        cases v
        · rw [← hs]
          simp only [S69_54, S69_55, S69_56, S69_57, S69_58, S69_59, S69, ↓XX, ↓reduceIte, Nat.reduceBEq, decide_true, decide_false, Bool.not_true, Bool.not_false, List.map_cons, List.map_nil, List.length_map, List.length_cons, List.length_nil, Nat.reduceAdd, Int.cast_ofNat_Int, Int.natCast_zero, Int.natCast_one, Bool.false_eq_true, Bool.true_eq_false, decide_eq_true_eq, eq_self, Int.reduceEq, Int.reduceLT, Int.reduceLE, Bool.and_true, Bool.true_and, Bool.and_false, Bool.false_and, Nat.zero_add, hi, ↓ix_f (map_get hga) (agg3l _ _ _), ↓ix_f (map_get hgb) (agg3l _ _ _), ↓agg3, ↓kp_same, ↓iso_2 hc]
          exact ans_fv _ _
        · simp only [S69_54, S69_55, S69_56, S69_57, S69_58, S69_59, S69, ↓XX, ↓reduceIte, Nat.reduceBEq, decide_true, decide_false, Bool.not_true, Bool.not_false, List.map_cons, List.map_nil, List.length_map, List.length_cons, List.length_nil, Nat.reduceAdd, Int.cast_ofNat_Int, Int.natCast_zero, Int.natCast_one, Bool.false_eq_true, Bool.true_eq_false, decide_eq_true_eq, eq_self, Int.reduceEq, Int.reduceLT, Int.reduceLE, Bool.and_true, Bool.true_and, Bool.and_false, Bool.false_and, Nat.zero_add, hi, ↓ix_f (map_get hga) (agg3l _ _ _), ↓ix_f (map_get hgb) (agg3l _ _ _), ↓agg3, ↓kp_same, ↓iso_2 hc, hwi, ↓drop_e, XD, heldB, flatD, List.any_cons, List.any_nil, List.all_cons, List.all_nil, List.filter_cons, List.filter_nil, List.contains_cons, List.contains_nil, Bool.or_false, Bool.or_true, Bool.false_or, Bool.true_or, Bool.and_self, Bool.not_eq_true, BEq.rfl, beq_self_eq_true]
          exact hrec ra.length _ _ (by omega) ⟨pa ++ [.mk o p l], ra, pb ++ [.mk o2 p2 l2], rb, by rw [hka]; simp, by rw [hkb]; simp, by simp [hpl], rfl, rfl, rfl, by simpa using hs⟩
  · have h' : ¬ (ka.length : Int) = kb.length := by omega
    rw [decide_eq_false h, Bool.false_and]
    simp only [S69_54, S69_55, S69_56, S69_57, S69_58, S69_59, S69, ↓XX, ↓reduceIte, Nat.reduceBEq, decide_true, decide_false, Bool.not_true, Bool.not_false, List.map_cons, List.map_nil, List.length_map, List.length_cons, List.length_nil, Nat.reduceAdd, Int.cast_ofNat_Int, Int.natCast_zero, Int.natCast_one, Bool.false_eq_true, Bool.true_eq_false, decide_eq_true_eq, eq_self, Int.reduceEq, Int.reduceLT, Int.reduceLE, Bool.and_true, Bool.true_and, Bool.and_false, Bool.false_and, Nat.zero_add, h']
    exact ans_fv _ _
theorem psame_ok : ∀ (n : Nat) (a b : Tm), 2 * a.wt + 2 < n → a.wt ≤ 100000000 → Ans (SS dt n 57 [.fv a.enc, .fv b.enc] ⟨[], []⟩) (.bool (a.same b)) := by
  intro n
  induction n using Nat.strongRecOn with
  | ind n ih =>
    intro a b hn hw
    obtain ⟨o, m, ka⟩ := a
    obtain ⟨o', m', kb⟩ := b
    simp only [Tm.wt] at hn hw
    obtain ⟨n, rfl⟩ : ∃ k, n = k + 1 + 1 := ⟨n - 2, by omega⟩
    have hlen := wt_len ka
    have hq := eqf_ok (n := n) ka kb (by omega) (by omega) (fun a ha b _ => ih n (by omega) a b (by have := wt_mem ha; omega) (by have := wt_mem ha; omega))
    rw [c57, enc_mk, enc_mk, Tm.same]
    generalize (decide (ka.length = kb.length) && Tm.sameL ka kb) = v at hq
    by_cases h1 : o = o'
    · by_cases h2 : m = m'
      · subst h1 h2
        simp only [S57_83, S57_84, S57_85, S57, ↓XX, ↓reduceIte, Nat.reduceBEq, decide_true, decide_false, Bool.not_true, Bool.not_false, List.map_cons, List.map_nil, List.length_map, List.length_cons, List.length_nil, Nat.reduceAdd, Int.cast_ofNat_Int, Int.natCast_zero, Int.natCast_one, Bool.false_eq_true, Bool.true_eq_false, decide_eq_true_eq, eq_self, Int.reduceEq, Int.reduceLT, Int.reduceLE, Bool.and_true, Bool.true_and, Bool.and_false, Bool.false_and, Nat.zero_add, ↓iso_3 hq]
        exact ans_fv _ _
      · have h2' := decide_eq_false h2
        subst h1
        simp only [S57_83, S57_84, S57_85, S57, ↓XX, ↓reduceIte, Nat.reduceBEq, decide_true, decide_false, Bool.not_true, Bool.not_false, List.map_cons, List.map_nil, List.length_map, List.length_cons, List.length_nil, Nat.reduceAdd, Int.cast_ofNat_Int, Int.natCast_zero, Int.natCast_one, Bool.false_eq_true, Bool.true_eq_false, decide_eq_true_eq, eq_self, Int.reduceEq, Int.reduceLT, Int.reduceLE, Bool.and_true, Bool.true_and, Bool.and_false, Bool.false_and, Nat.zero_add, h2]
        exact ans_fv _ _
    · simp only [S57_83, S57_84, S57_85, S57, ↓XX, ↓reduceIte, Nat.reduceBEq, decide_true, decide_false, Bool.not_true, Bool.not_false, List.map_cons, List.map_nil, List.length_map, List.length_cons, List.length_nil, Nat.reduceAdd, Int.cast_ofNat_Int, Int.natCast_zero, Int.natCast_one, Bool.false_eq_true, Bool.true_eq_false, decide_eq_true_eq, eq_self, Int.reduceEq, Int.reduceLT, Int.reduceLE, Bool.and_true, Bool.true_and, Bool.and_false, Bool.false_and, Nat.zero_add, h1]
      exact ans_fv _ _
end Idl
end Go.Proofs.Ytaifgaidaglblaa

namespace Go.Proofs.Ytaifgaidaglblaa
namespace Idl
end Idl
end Go.Proofs.Ytaifgaidaglblaa

namespace Go.Proofs.Ytaifgaidaglblaa
namespace Idl
theorem moved_ok {n : Nat} (hn : 0 < n) (o m : Int) (ks : List Tm) (d : Int) (h1 : -4611686018427387904 ≤ m + d) (h2 : m + d ≤ 4611686018427387904) : Ans (SS dt n 93 [.fv (Tm.mk o m ks).enc, iv d] ⟨[], []⟩) (Tm.mk 1 (m + d) []).enc := by
  obtain ⟨n, rfl⟩ : ∃ k, n = k + 1 := ⟨n - 1, by omega⟩
  rw [c93, enc_mk, enc_mk]
  have hw : w64 (m + d) = m + d := by rw [w64_id] <;> omega
  simp only [S93_20, S93, ↓XX, ↓reduceIte, Nat.reduceBEq, decide_true, decide_false, Bool.not_true, Bool.not_false, List.map_cons, List.map_nil, List.length_map, List.length_cons, List.length_nil, Nat.reduceAdd, Int.cast_ofNat_Int, Int.natCast_zero, Int.natCast_one, Bool.false_eq_true, Bool.true_eq_false, decide_eq_true_eq, eq_self, Int.reduceEq, Int.reduceLT, Int.reduceLE, Bool.and_true, Bool.true_and, Bool.and_false, Bool.false_and, Nat.zero_add, hw]
  exact ans_p rfl _
end Idl
end Go.Proofs.Ytaifgaidaglblaa

namespace Go.Proofs.Ytaifgaidaglblaa
namespace Idl
theorem iso_gf {ks : List Bool} {ih : Handler} {f : FuncId} {args : List IV} {vs : List FV} {w : FV} {u : List (Ref × Blk)} {lg : List Ref} {own own' : List (Nat × Blk)}
    (hz : ∀ (e : Option (IV × Hp)) (k : List IV → List Ref → List (Ref × Blk) → List Ref → Option (IV × Hp)), fzA args ks ⟨own, []⟩ [] e k = k (vs.map .fv) [] u lg)
    (hr : AnsF (ih f (vs.map .fv) ⟨[], []⟩) w) (hlay : ∀ k : Hp → Option (IV × Hp), layU u ⟨own, []⟩ k = k ⟨own', []⟩) (k : IV → Hp → List Ref → List Ref → Option (IV × Hp)) :
    isoS ks false false ih f args ⟨own, []⟩ k = k (.fv w) ⟨own', []⟩ lg (keys u) := by
  rw [iso_e, hz, iso_c hr, hlay]
theorem keepc {g : FuncId} (h : EE.pol.inl g = false) (h1 : EE.pol.keep g = []) (h2 : EE.pol.split g = false) (h3 : EE.pol.raw g = false) (caps : List FV) (ih : Handler) (xs : List IV) (h0 : Hp) (k : IV → Hp → List Ref → List Ref → Option (IV × Hp)) :
    dynS EE ih (.fv (.func (.func g) [] caps)) xs h0 k = isoS [] false false ih g (xs ++ caps.map .fv) h0 k := by
  unfold dynS
  simp only [callee, h, cond_false, sp_e, h1, h2, h3, List.map_nil, List.nil_append]
theorem po_hit (s : Nat) (b c : Blk) (l : List (Nat × Blk)) : putOwn s b ((s, c) :: l) = (s, b) :: l := by simp only [putOwn, if_true]
theorem po_miss {s j : Nat} (h : (s == j) = false) (b c : Blk) (l : List (Nat × Blk)) : putOwn s b ((j, c) :: l) = (j, c) :: putOwn s b l := by
  have : ¬ s = j := by simpa using h
  simp only [putOwn, if_neg this]
theorem mkf_c (fn : Fn) (r r' : Ref) (o o' : Nat) : mkFunc fn [] [.ptr r o, .ptr r' o'] = .func fn [] [.ptr r o, .ptr r' o'] := rfl
theorem mkf_c1 (fn : Fn) (r : Ref) (o : Nat) : mkFunc fn [] [.ptr r o] = .func fn [] [.ptr r o] := rfl
theorem fz_pt {d s : Nat} {cs : List FV} {ro : Bool} {own : List (Nat × Blk)} {ext : List Blk} (hl : lookupOwn s own = some (.row (cs.map .fv) ro)) (hn : cs.length ≤ 300) (lg : List Ref) (e : Option (IV × Hp)) (k : FV → List (Ref × Blk) → List Ref → Option (IV × Hp)) :
    fzU (d + 2) (.ptr (.own s) 0) ⟨own, ext⟩ lg e k = k (.fp cs 0) [(.own s, .row (cs.map .fv) true)] (.own s :: lg) := by
  show (getK (.own s) ⟨own, ext⟩ fun b => asRow b fun cells => cond (Nat.ble cells.length 300) (fzLK (fzU (d + 1)) cells ⟨own, ext⟩ (.own s :: lg) e fun cs u lg => k (.fp cs 0) ((.own s, .row cells true) :: u) lg) e) = _
  rw [g_own, ownK_eq, hl]
  simp only [Option.bind_some, as_row, List.length_map]
  rw [ble_dec, decide_eq_true hn, c_t, fzl_fv]
theorem fz_fn2 {s1 s2 : Nat} {c1 c2 : List FV} {r1 r2 : Bool} {fn : Fn} {own : List (Nat × Blk)} {ext : List Blk} (h1 : lookupOwn s1 own = some (.row (c1.map .fv) r1)) (h2 : lookupOwn s2 own = some (.row (c2.map .fv) r2)) (n1 : c1.length ≤ 300) (n2 : c2.length ≤ 300)
    (lg : List Ref) (e : Option (IV × Hp)) (k : FV → List (Ref × Blk) → List Ref → Option (IV × Hp)) :
    fzU 12 (.func fn [] [.ptr (.own s1) 0, .ptr (.own s2) 0]) ⟨own, ext⟩ lg e k = k (.func fn [] [.fp c1 0, .fp c2 0]) [(.own s1, .row (c1.map .fv) true), (.own s2, .row (c2.map .fv) true)] (.own s2 :: .own s1 :: lg) := by
  show (fzLK (fzU 11) [] ⟨own, ext⟩ lg e fun x u lg => fzLK (fzU 11) [.ptr (.own s1) 0, .ptr (.own s2) 0] ⟨own, ext⟩ lg e fun y v lg => apK u v fun w => k (.func fn x y) w lg) = _
  rw [fl0, fl1, fz_pt (d := 9) h1 n1, fl1, fz_pt (d := 9) h2 n2, fl0]
  rfl
theorem fz_fn1 {s1 : Nat} {c1 : List FV} {r1 : Bool} {fn : Fn} {own : List (Nat × Blk)} {ext : List Blk} (h1 : lookupOwn s1 own = some (.row (c1.map .fv) r1)) (n1 : c1.length ≤ 300)
    (lg : List Ref) (e : Option (IV × Hp)) (k : FV → List (Ref × Blk) → List Ref → Option (IV × Hp)) :
    fzU 12 (.func fn [] [.ptr (.own s1) 0]) ⟨own, ext⟩ lg e k = k (.func fn [] [.fp c1 0]) [(.own s1, .row (c1.map .fv) true)] (.own s1 :: lg) := by
  show (fzLK (fzU 11) [] ⟨own, ext⟩ lg e fun x u lg => fzLK (fzU 11) [.ptr (.own s1) 0] ⟨own, ext⟩ lg e fun y v lg => apK u v fun w => k (.func fn x y) w lg) = _
  rw [fl0, fl1, fz_pt (d := 9) h1 n1, fl0]
  rfl
theorem iso_fn2 {ih : Handler} {f : FuncId} {x y w : FV} {a b : IV} {fn : Fn} {s1 s2 : Nat} {c1 c2 : List FV} {r1 r2 : Bool} {own own' : List (Nat × Blk)} (hr : AnsF (ih f [.fv x, .fv y, .fv (.func fn [] [.fp c1 0, .fp c2 0])] ⟨[], []⟩) w) (ha : frzP a = some x) (hb : frzP b = some y)
    (h1 : lookupOwn s1 own = some (.row (c1.map .fv) r1)) (h2 : lookupOwn s2 own = some (.row (c2.map .fv) r2)) (h2' : lookupOwn s2 (putOwn s1 (.row (c1.map .fv) true) own) = some (.row (c2.map .fv) r2)) (n1 : c1.length ≤ 300) (n2 : c2.length ≤ 300)
    (ho : putOwn s2 (.row (c2.map .fv) true) (putOwn s1 (.row (c1.map .fv) true) own) = own') (k : IV → Hp → List Ref → List Ref → Option (IV × Hp)) :
    isoS [] false false ih f [a, b, .func fn [] [.ptr (.own s1) 0, .ptr (.own s2) 0]] ⟨own, []⟩ k = k (.fv w) ⟨own', []⟩ [.own s2, .own s1] [.own s1, .own s2] := by
  subst ho
  refine iso_gf (vs := [x, y, .func fn [] [.fp c1 0, .fp c2 0]]) (u := [(.own s1, .row (c1.map .fv) true), (.own s2, .row (c2.map .fv) true)]) (lg := [.own s2, .own s1]) ?_ hr ?_ k
  · intro e k
    rw [fz1, fzp_u _ _ e _ ha, fz1, fzp_u _ _ e _ hb, fz1, fz_fn2 h1 h2 n1 n2, fz0]
    rfl
  · intro k
    show (ownK own s1 fun _ => putOwnK own s1 (.row (c1.map .fv) true) fun own => ownK own s2 fun _ => putOwnK own s2 (.row (c2.map .fv) true) fun own => k ⟨own, _⟩) = _
    rw [ownK_eq, h1, Option.bind_some, putOwnK_eq, ownK_eq, h2', Option.bind_some, putOwnK_eq]
theorem iso_fn1 {ih : Handler} {f : FuncId} {x y w : FV} {a b : IV} {fn : Fn} {s1 : Nat} {c1 : List FV} {r1 : Bool} {own own' : List (Nat × Blk)} (hr : AnsF (ih f [.fv x, .fv y, .fv (.func fn [] [.fp c1 0])] ⟨[], []⟩) w) (ha : frzP a = some x) (hb : frzP b = some y)
    (h1 : lookupOwn s1 own = some (.row (c1.map .fv) r1)) (n1 : c1.length ≤ 300) (ho : putOwn s1 (.row (c1.map .fv) true) own = own') (k : IV → Hp → List Ref → List Ref → Option (IV × Hp)) :
    isoS [] false false ih f [a, b, .func fn [] [.ptr (.own s1) 0]] ⟨own, []⟩ k = k (.fv w) ⟨own', []⟩ [.own s1] [.own s1] := by
  subst ho
  refine iso_gf (vs := [x, y, .func fn [] [.fp c1 0]]) (u := [(.own s1, .row (c1.map .fv) true)]) (lg := [.own s1]) ?_ hr ?_ k
  · intro e k
    rw [fz1, fzp_u _ _ e _ ha, fz1, fzp_u _ _ e _ hb, fz1, fz_fn1 h1 n1, fz0]
    rfl
  · intro k
    show (ownK own s1 fun _ => putOwnK own s1 (.row (c1.map .fv) true) fun own => k ⟨own, _⟩) = _
    rw [ownK_eq, h1, Option.bind_some, putOwnK_eq]
end Idl
end Go.Proofs.Ytaifgaidaglblaa

namespace Go.Proofs.Ytaifgaidaglblaa
namespace Idl
mutual
def Tm.each (g : Tm → Int → Tm) : Tm → Int → Tm
  | .mk op m ks, a => if op = 1 then g (.mk op m ks) a else .mk op m (Tm.eachL g op 0 ks a)
def Tm.eachL (g : Tm → Int → Tm) : Int → Nat → List Tm → Int → List Tm
  | _, _, [], _ => []
  | op, i, t :: l, a => t.each g (a + bindN op i) :: Tm.eachL g op (i + 1) l a
end
noncomputable abbrev Heach (op m : Int) (ks done : List Tm) (r : Nat) : Hp :=
  ⟨[(95420416, .row [iv op, iv m, .fv (.sl (ks.map Tm.enc))] false), (95420417, .row [iv 0, iv 0, .nils] false), (95423491, .row (cellsT done r) false)], []⟩
set_option maxRecDepth 20000 in
set_option maxHeartbeats 1000000 in
theorem each_ok {F : FuncId} {caps : List FV} {g : Tm → Int → Tm} {c : Nat} (hd : ∀ (ih : Handler) (xs : List IV) (h0 : Hp) (k : IV → Hp → List Ref → List Ref → Option (IV × Hp)), dynS EE ih (.fv (.func (.func F) [] caps)) xs h0 k = isoS [] false false ih F (xs ++ caps.map .fv) h0 k)
    (P : Tm → Int → Prop) (hP : ∀ op m ks a i t, P (.mk op m ks) a → ks[i]? = some t → op ≠ 1 → P t (a + bindN op i))
    (hg : ∀ n, c < n → ∀ m ks a, P (.mk 1 m ks) a → Ans (SS dt n F (.fv (Tm.mk 1 m ks).enc :: iv a :: caps.map .fv) ⟨[], []⟩) (g (.mk 1 m ks) a).enc) :
    ∀ (n : Nat) (t : Tm) (a : Int), t.wt + c + 3 < n → t.wk → 0 ≤ a → a + 2 * t.wt ≤ 1000000000 → P t a → AnsF (SS dt n 91 [.fv t.enc, iv a, .fv (.func (.func F) [] caps)] ⟨[], []⟩) (t.each g a).enc := by
  intro n
  induction n with
  | zero => intro t a h; omega
  | succ n ih =>
    intro t a hn hk ha ha2 hPt
    obtain ⟨op, m, ks⟩ := t
    simp only [Tm.wt] at hn ha2
    rw [c91]
    have hlen := wt_len ks
    rw [Tm.wk] at hk
    by_cases h1 : op = 1
    · subst h1
      rw [Tm.each, if_pos rfl]
      have hc := hg n (by omega) m ks a hPt
      generalize g (.mk 1 m ks) a = u at hc
      obtain ⟨o, p, l⟩ := u
      rw [enc_mk] at hc ⊢
      rw [enc_mk] at hc ⊢
      have hi : ∀ (own : List (Nat × Blk)) (k : IV → Hp → List Ref → List Ref → Option (IV × Hp)), isoS [] false false (SS dt n) F ([.fv (.agg [.int .i64 1, .int .i64 m, .sl (ks.map Tm.enc)]), iv a] ++ caps.map .fv) ⟨own, []⟩ k = k (.fv (.agg [.int .i64 o, .int .i64 p, .sl (l.map Tm.enc)])) ⟨own, []⟩ [] [] := by
        intro own k
        refine iso_p (vs := .agg [.int .i64 1, .int .i64 m, .sl (ks.map Tm.enc)] :: .int .i64 a :: caps) ?_ hc ⟨own, []⟩ k
        have hcaps : ∀ l : List FV, frzPL (l.map .fv) = some l := by
          intro l
          induction l with
          | nil => rfl
          | cons x l ih => simp [frzPL, ih, frzP, frz1]
        simp [frzPL, hcaps, frzP, frz1, iv]
      simp only [S91_100, S91_101, S91_102, S91_103, S91_104, S91_105, S91_106, S91_107, S91_109, S91_110, S91, ↓XX, ↓reduceIte, Nat.reduceBEq, decide_true, decide_false, Bool.not_true, Bool.not_false, List.map_cons, List.map_nil, List.length_map, List.length_cons, List.length_nil, Nat.reduceAdd, Int.cast_ofNat_Int, Int.natCast_zero, Int.natCast_one, Bool.false_eq_true, Bool.true_eq_false, decide_eq_true_eq, eq_self, Int.reduceEq, Int.reduceLT, Int.reduceLE, Bool.and_true, Bool.true_and, Bool.and_false, Bool.false_and, Nat.zero_add, ↓hd, ↓hi]
      exact ansf_fv _ _
    · rw [Tm.each, if_neg h1, enc_mk, enc_mk]
      simp only [S91_100, S91_101, S91_102, S91_103, S91_104, S91_105, S91_106, S91_107, S91_109, S91_110, S91, ↓XX, ↓reduceIte, Nat.reduceBEq, decide_true, decide_false, Bool.not_true, Bool.not_false, List.map_cons, List.map_nil, List.length_map, List.length_cons, List.length_nil, Nat.reduceAdd, Int.cast_ofNat_Int, Int.natCast_zero, Int.natCast_one, Bool.false_eq_true, Bool.true_eq_false, decide_eq_true_eq, eq_self, Int.reduceEq, Int.reduceLT, Int.reduceLE, Bool.and_true, Bool.true_and, Bool.and_false, Bool.false_and, Nat.zero_add, h1, ↓mk_t (show ks.length ≤ 1000 by omega), ↓drop_e, XD, heldB, flatD, List.any_cons, List.any_nil, List.all_cons, List.all_nil, List.filter_cons, List.filter_nil, List.contains_cons, List.contains_nil, Bool.or_false, Bool.or_true, Bool.false_or, Bool.true_or, Bool.and_self, Bool.not_eq_true, BEq.rfl, beq_self_eq_true, flat_t, names_t]
      refine loop_run (Q := fun r => AnsF r _) (fun k V H => ∃ (pre rest done : List Tm), ks = pre ++ rest ∧ rest.length = k ∧ done.length = pre.length ∧
          V = [iv a, .fv (.func (.func F) [] caps), .ptr (.own 95420416) 0, .ptr (.own 95420417) 0, .slc (.own 95423491) 3 ks.length, .fv (.sl (ks.map Tm.enc)), iv ks.length, iv pre.length] ∧
          H = Heach op m ks done rest.length ∧ done ++ Tm.eachL g op pre.length rest a = Tm.eachL g op 0 ks a)
        ?_ n ks.length _ _ (by omega) ⟨[], ks, [], rfl, rfl, rfl, rfl, rfl, rfl⟩
      rintro k V H rec ⟨pre, rest, done, hks, hl, hdl, rfl, rfl, hts⟩ hrec
      have hkl : ks.length = pre.length + rest.length := by rw [hks]; simp
      cases rest with
      | nil =>
        have hno : ¬ ((pre.length : Int) < ks.length) := by rw [hkl]; simp
        rw [Tm.eachL, List.append_nil] at hts
        rw [← hts]
        simp only [S91_100, S91_101, S91_102, S91_103, S91_104, S91_105, S91_106, S91_107, S91_108, S91_109, S91_110, S91, ↓XX, ↓reduceIte, Nat.reduceBEq, decide_true, decide_false, Bool.not_true, Bool.not_false, List.map_cons, List.map_nil, List.length_map, List.length_cons, List.length_nil, Nat.reduceAdd, Int.cast_ofNat_Int, Int.natCast_zero, Int.natCast_one, Bool.false_eq_true, Bool.true_eq_false, decide_eq_true_eq, eq_self, Int.reduceEq, Int.reduceLT, Int.reduceLE, Bool.and_true, Bool.true_and, Bool.and_false, Bool.false_and, Nat.zero_add, hno]
        rw [show ks.length = done.length by rw [hdl, hkl]; simp]
        exact ⟨_, _, rfl, _, _, fun e0 K => fz_tm (by rfl) (by simp only [List.length_nil] at hkl; omega) [] e0 K⟩
      | cons x rest =>
        have hi : (pre.length : Int) < ks.length := by rw [hkl]; simp; omega
        have hg2 := at_pre hks
        have hxw := wt_mem (t := x) (l := ks) (by rw [hks]; simp)
        have hb := pbind_ok (n := n) (by omega) op pre.length
        have hble := bindN_le op pre.length
        have hs := ih x (a + bindN op pre.length) (by omega) (wk_mem hk.2 (by rw [hks]; simp)) (by omega) (by omega) (hP _ _ _ _ _ _ hPt hg2 h1)
        have hwa : w64 (a + bindN op pre.length) = a + bindN op pre.length := by rw [w64_id] <;> omega
        have hwi : w64 ((pre.length : Int) + 1) = ((pre ++ [x]).length : Int) := (w64_id (by omega) (by omega)).trans (by simp)
        have hin : pre.length < ks.length := by omega
        rw [Tm.eachL] at hts
        generalize x.each g (a + bindN op pre.length) = y at hs hts
        have hst := fun {β : Type} => set_t (β := β) done rest.length y.op y.n y.kids
        rw [hdl] at hst
        obtain ⟨o, p, l⟩ := x
        obtain ⟨o2, p2, l2⟩ := y
        simp only [Tm.op, Tm.n, Tm.kids] at hst
        rw [enc_mk, enc_mk] at hs
        simp only [List.length_cons] at hl
        simp only [S91_100, S91_101, S91_102, S91_103, S91_104, S91_105, S91_106, S91_107, S91_108, S91_109, S91_110, S91, ↓XX, ↓reduceIte, Nat.reduceBEq, decide_true, decide_false, Bool.not_true, Bool.not_false, List.map_cons, List.map_nil, List.length_map, List.length_cons, List.length_nil, Nat.reduceAdd, Int.cast_ofNat_Int, Int.natCast_zero, Int.natCast_one, Bool.false_eq_true, Bool.true_eq_false, decide_eq_true_eq, eq_self, Int.reduceEq, Int.reduceLT, Int.reduceLE, Bool.and_true, Bool.true_and, Bool.and_false, Bool.false_and, Nat.zero_add, hi, ↓ix_f (map_get hg2) (agg3l _ _ _), ↓agg3, ↓iso_2 hb, hwa, hwi, ↓iso_3 (ansf hs), ↓ix_sl3 hin, ↓hst, ↓drop_e, XD, heldB, flatD, List.any_cons, List.any_nil, List.all_cons, List.all_nil, List.filter_cons, List.filter_nil, List.contains_cons, List.contains_nil, Bool.or_false, Bool.or_true, Bool.false_or, Bool.true_or, Bool.and_self, Bool.not_eq_true, BEq.rfl, beq_self_eq_true, flat_t, names_t]
        exact hrec rest.length _ _ (by omega) ⟨pre ++ [.mk o p l], rest, done ++ [.mk o2 p2 l2], by rw [hks]; simp, rfl, by simp [hdl], rfl, rfl, by rw [← hts]; simp⟩
end Idl
end Go.Proofs.Ytaifgaidaglblaa

namespace Go.Proofs.Ytaifgaidaglblaa
namespace Idl
def gShift (d c : Int) : Tm → Int → Tm
  | .mk _ m _, a => .mk 1 (if c ≤ m - a then m + d else m) []
def scP (K : Nat) (t : Tm) (a : Int) : Prop := 0 ≤ a ∧ ∃ k : Nat, t.sc k ∧ (k : Int) ≤ K + a
theorem scP_kid {K : Nat} (op m : Int) (ks : List Tm) (a : Int) (i : Nat) (t : Tm) (h : scP K (.mk op m ks) a) (hg : ks[i]? = some t) (_ : op ≠ 1) : scP K t (a + bindN op i) := by
  obtain ⟨h0, k, hk, hl⟩ := h
  rw [Tm.sc] at hk
  have := sc_get hk.2.2 hg
  rw [Nat.zero_add] at this
  exact ⟨by omega, _, this, by omega⟩
theorem scP_var {K : Nat} {m a : Int} {ks : List Tm} (h : scP K (.mk 1 m ks) a) : ks = [] ∧ 0 ≤ m ∧ m < K + a ∧ 0 ≤ a := by
  obtain ⟨h0, k, hk, hl⟩ := h
  rw [Tm.sc, if_pos rfl] at hk
  have h1 : ar 1 = some 0 := by decide
  rw [h1] at hk
  have h2 : ks.length = 0 := by have := hk.1; simp only [Option.some.injEq] at this; omega
  exact ⟨List.length_eq_zero_iff.1 h2, hk.2.1.1, by omega, h0⟩
theorem kp_shift (caps : List FV) (ih : Handler) (xs : List IV) (h0 : Hp) (k : IV → Hp → List Ref → List Ref → Option (IV × Hp)) : dynS EE ih (.fv (.func (.func 95) [] caps)) xs h0 k = isoS [] false false ih 95 (xs ++ caps.map .fv) h0 k :=
  keepc (by kernel_rfl) (by kernel_rfl) (by kernel_rfl) (by kernel_rfl) caps ..
theorem shift1_ok {n : Nat} (hn : 1 < n) (d c m a : Int) (ks : List Tm) (hm1 : 0 ≤ m) (hm2 : m ≤ 100000000000) (ha : 0 ≤ a) (ha2 : a ≤ 100000000000) (hd1 : -100000000000 ≤ d) (hd2 : d ≤ 100000000000) :
    Ans (SS dt n 95 [.fv (Tm.mk 1 m ks).enc, iv a, .fv (.fp [.int .i64 c] 0), .fv (.fp [.int .i64 d] 0)] ⟨[], []⟩) (gShift d c (.mk 1 m ks) a).enc := by
  obtain ⟨n, rfl⟩ : ∃ k, n = k + 1 := ⟨n - 1, by omega⟩
  rw [c95]
  have hw : w64 (m - a) = m - a := by rw [w64_id] <;> omega
  have h1 := moved_ok (n := n) (by omega) 1 m ks d (by omega) (by omega)
  have h0 := moved_ok (n := n) (by omega) 1 m ks 0 (by omega) (by omega)
  rw [enc_mk] at h1 h0 ⊢
  rw [gShift]
  by_cases h : c ≤ m - a
  · rw [if_pos h]
    rw [enc_mk] at h1 ⊢
    simp only [S95_42, S95_43, S95_44, S95, ↓XX, ↓reduceIte, Nat.reduceBEq, decide_true, decide_false, Bool.not_true, Bool.not_false, List.map_cons, List.map_nil, List.length_map, List.length_cons, List.length_nil, Nat.reduceAdd, Int.cast_ofNat_Int, Int.natCast_zero, Int.natCast_one, Bool.false_eq_true, Bool.true_eq_false, decide_eq_true_eq, eq_self, Int.reduceEq, Int.reduceLT, Int.reduceLE, Bool.and_true, Bool.true_and, Bool.and_false, Bool.false_and, Nat.zero_add, hw, h, ↓iso_2 h1]
    exact ans_fv _ _
  · rw [if_neg h]
    rw [Int.add_zero, enc_mk] at h0
    rw [enc_mk]
    simp only [S95_42, S95_43, S95_44, S95, ↓XX, ↓reduceIte, Nat.reduceBEq, decide_true, decide_false, Bool.not_true, Bool.not_false, List.map_cons, List.map_nil, List.length_map, List.length_cons, List.length_nil, Nat.reduceAdd, Int.cast_ofNat_Int, Int.natCast_zero, Int.natCast_one, Bool.false_eq_true, Bool.true_eq_false, decide_eq_true_eq, eq_self, Int.reduceEq, Int.reduceLT, Int.reduceLE, Bool.and_true, Bool.true_and, Bool.and_false, Bool.false_and, Nat.zero_add, hw, h, ↓iso_2 h0]
    exact ans_fv _ _
theorem pshift_e {n : Nat} {t : Tm} {d c : Int} {K : Nat} (hn : t.wt + 6 < n) (hw : t.wk) (h2 : 2 * t.wt ≤ 1000000000) (hs : t.sc K) (hK : K ≤ 1000000000) (hd1 : -1000000000 ≤ d) (hd2 : d ≤ 1000000000) :
    Ans (SS dt n 94 [.fv t.enc, iv d, iv c] ⟨[], []⟩) (t.each (gShift d c) 0).enc := by
  obtain ⟨n, rfl⟩ : ∃ k, n = k + 1 := ⟨n - 1, by omega⟩
  rw [c94]
  have hc := each_ok (F := 95) (caps := [.fp [.int .i64 c] 0, .fp [.int .i64 d] 0]) (g := gShift d c) (c := 1) (kp_shift _) (fun t a => scP K t a ∧ a ≤ 1000000000 ∧ a + 2 * t.wt ≤ 1000000000)
    (fun op m ks a i t h hg ho => ⟨scP_kid op m ks a i t h.1 hg ho, by
      have hb := bindN_le op i
      have hwm := wt_mem (List.mem_of_getElem? hg)
      have := h.2.2
      simp only [Tm.wt] at this
      omega, by
      have hb := bindN_le op i
      have hwm := wt_mem (List.mem_of_getElem? hg)
      have := h.2.2
      simp only [Tm.wt] at this
      omega⟩)
    (fun n hn m ks a h => by
      obtain ⟨rfl, h1, h2, h3⟩ := scP_var h.1
      exact shift1_ok hn d c m a [] h1 (by omega) h3 (by omega) (by omega) (by omega))
    n t 0 (by omega) hw (by omega) (by omega) ⟨⟨by omega, K, hs, by omega⟩, by omega, by omega⟩
  generalize t.each (gShift d c) 0 = y at hc
  obtain ⟨o2, p2, l2⟩ := y
  obtain ⟨o, p, l⟩ := t
  rw [enc_mk, enc_mk] at hc
  rw [enc_mk, enc_mk]
  simp only [S94_34, S94, ↓XX, ↓reduceIte, Nat.reduceBEq, decide_true, decide_false, Bool.not_true, Bool.not_false, List.map_cons, List.map_nil, List.length_map, List.length_cons, List.length_nil, Nat.reduceAdd, Int.cast_ofNat_Int, Int.natCast_zero, Int.natCast_one, Bool.false_eq_true, Bool.true_eq_false, decide_eq_true_eq, eq_self, Int.reduceEq, Int.reduceLT, Int.reduceLE, Bool.and_true, Bool.true_and, Bool.and_false, Bool.false_and, Nat.zero_add, ↓gen_val', ↓mkf_c]
  rw [iso_fn2 hc rfl rfl (by rfl) (by rfl) (by rfl) (by simp) (by simp) rfl]
  simp only [↓XX, ↓reduceIte, Nat.reduceBEq, decide_true, decide_false, Bool.not_true, Bool.not_false, List.map_cons, List.map_nil, List.length_map, List.length_cons, List.length_nil, Nat.reduceAdd, Int.cast_ofNat_Int, Int.natCast_zero, Int.natCast_one, Bool.false_eq_true, Bool.true_eq_false, decide_eq_true_eq, eq_self, Int.reduceEq, Int.reduceLT, Int.reduceLE, Bool.and_true, Bool.true_and, Bool.and_false, Bool.false_and, Nat.zero_add, ↓po_hit, ↓po_miss]
  exact ans_fv _ _
mutual
theorem each_shift (d c : Int) : ∀ (t : Tm) (k : Nat) (a : Int), t.sc k → k + 2 * t.wt ≤ 2000000000 → -1000000000 ≤ d → d ≤ 1000000000 → t.each (gShift d c) a = t.shift d (c + a)
  | .mk op m ks, k, a, h, hk, h1, h2 => by
    rw [Tm.sc] at h
    rw [Tm.wt] at hk
    by_cases ho : op = 1
    · subst ho
      have h3 : ar 1 = some 0 := by decide
      rw [h3, if_pos rfl] at h
      have h4 : ks = [] := List.length_eq_zero_iff.1 (by have := h.1; simp only [Option.some.injEq] at this; omega)
      subst h4
      rw [Tm.each, if_pos rfl, gShift, Tm.shift, Tm.shiftL]
      have hw : w64 (m + d) = m + d := by
        have := h.2.1
        rw [w64_id] <;> omega
      rw [hw]
      by_cases hc : c ≤ m - a
      · rw [if_pos hc, if_pos ⟨rfl, by omega⟩]
      · rw [if_neg hc, if_neg (fun h => hc (by omega))]
    · rw [Tm.each, if_neg ho, Tm.shift, if_neg (fun h => ho h.1)]
      congr 1
      have := eachL_shift d c op 0 ks k a h.2.2 (by omega) h1 h2
      exact this
theorem eachL_shift (d c : Int) : ∀ (op : Int) (i : Nat) (l : List Tm) (k : Nat) (a : Int), Tm.scL op i l k → k + 2 + 2 * Tm.wtL l ≤ 2000000000 → -1000000000 ≤ d → d ≤ 1000000000 → Tm.eachL (gShift d c) op i l a = Tm.shiftL op i l d (c + a)
  | _, _, [], _, _, _, _, _, _ => by rw [Tm.eachL, Tm.shiftL]
  | op, i, t :: l, k, a, h, hk, h1, h2 => by
    rw [Tm.scL] at h
    rw [Tm.eachL, Tm.shiftL]
    have hb := bindN_le op i
    rw [Tm.wtL] at hk
    rw [each_shift d c t (k + bindN op i) (a + bindN op i) h.1 (by omega) h1 h2, eachL_shift d c op (i + 1) l k a h.2 (by omega) h1 h2, Int.add_assoc]
end
end Idl
end Go.Proofs.Ytaifgaidaglblaa

namespace Go.Proofs.Ytaifgaidaglblaa
namespace Idl
def gSubst (n : Int) (u : Tm) : Tm → Int → Tm
  | .mk _ m _, a => if n < m - a then .mk 1 (m + -1) [] else if m - a = n then u.each (gShift a 0) 0 else .mk 1 (m + 0) []
theorem kp_sub (caps : List FV) (ih : Handler) (xs : List IV) (h0 : Hp) (k : IV → Hp → List Ref → List Ref → Option (IV × Hp)) : dynS EE ih (.fv (.func (.func 92) [] caps)) xs h0 k = isoS [] false false ih 92 (xs ++ caps.map .fv) h0 k :=
  keepc (by kernel_rfl) (by kernel_rfl) (by kernel_rfl) (by kernel_rfl) caps ..
theorem sub1_ok {n : Nat} {v : Int} {u : Tm} {K : Nat} (m a : Int) (ks : List Tm) (hn : u.wt + 8 < n) (hw : u.wk) (h2 : 2 * u.wt ≤ 1000000000) (hs : u.sc K) (hK : K ≤ 1000000000) (hm1 : 0 ≤ m) (hm2 : m ≤ 100000000000) (ha : 0 ≤ a) (ha2 : a ≤ 1000000000) :
    Ans (SS dt n 92 [.fv (Tm.mk 1 m ks).enc, iv a, .fv (.fp [.int .i64 v] 0), .fv (.fp [.int .i64 u.op, .int .i64 u.n, .sl (u.kids.map Tm.enc)] 0)] ⟨[], []⟩) (gSubst v u (.mk 1 m ks) a).enc := by
  obtain ⟨n, rfl⟩ : ∃ k, n = k + 1 := ⟨n - 1, by omega⟩
  rw [c92]
  have hw1 : w64 (m - a) = m - a := by rw [w64_id] <;> omega
  have h1 := moved_ok (n := n) (by omega) 1 m ks (-1) (by omega) (by omega)
  have h0 := moved_ok (n := n) (by omega) 1 m ks 0 (by omega) (by omega)
  have hsh := pshift_e (n := n) (d := a) (c := 0) (by omega) hw h2 hs hK (by omega) (by omega)
  rw [enc_mk] at h1 h0 ⊢
  rw [gSubst]
  by_cases h : v < m - a
  · rw [if_pos h]
    rw [enc_mk] at h1 ⊢
    simp only [S92_53, S92_54, S92_55, S92_56, S92_57, S92, ↓XX, ↓reduceIte, Nat.reduceBEq, decide_true, decide_false, Bool.not_true, Bool.not_false, List.map_cons, List.map_nil, List.length_map, List.length_cons, List.length_nil, Nat.reduceAdd, Int.cast_ofNat_Int, Int.natCast_zero, Int.natCast_one, Bool.false_eq_true, Bool.true_eq_false, decide_eq_true_eq, eq_self, Int.reduceEq, Int.reduceLT, Int.reduceLE, Bool.and_true, Bool.true_and, Bool.and_false, Bool.false_and, Nat.zero_add, hw1, h, ↓iso_2 h1]
    exact ans_fv _ _
  · rw [if_neg h]
    by_cases he : m - a = v
    · have hwv : w64 v = v := by rw [← he]; exact hw1
      rw [if_pos he]
      generalize u.each (gShift a 0) 0 = y at hsh
      obtain ⟨o2, p2, l2⟩ := y
      obtain ⟨o, p, l⟩ := u
      rw [enc_mk, enc_mk] at hsh
      rw [enc_mk]
      simp only [S92_53, S92_54, S92_55, S92_56, S92_57, S92, ↓XX, ↓reduceIte, Nat.reduceBEq, decide_true, decide_false, Bool.not_true, Bool.not_false, List.map_cons, List.map_nil, List.length_map, List.length_cons, List.length_nil, Nat.reduceAdd, Int.cast_ofNat_Int, Int.natCast_zero, Int.natCast_one, Bool.false_eq_true, Bool.true_eq_false, decide_eq_true_eq, eq_self, Int.reduceEq, Int.reduceLT, Int.reduceLE, Bool.and_true, Bool.true_and, Bool.and_false, Bool.false_and, Nat.zero_add, hw1, hwv, h, he, Tm.op, Tm.n, Tm.kids, ↓iso_3 hsh, Int.lt_irrefl]
      exact ans_fv _ _
    · rw [if_neg he]
      rw [enc_mk] at h0 ⊢
      simp only [S92_53, S92_54, S92_55, S92_56, S92_57, S92, ↓XX, ↓reduceIte, Nat.reduceBEq, decide_true, decide_false, Bool.not_true, Bool.not_false, List.map_cons, List.map_nil, List.length_map, List.length_cons, List.length_nil, Nat.reduceAdd, Int.cast_ofNat_Int, Int.natCast_zero, Int.natCast_one, Bool.false_eq_true, Bool.true_eq_false, decide_eq_true_eq, eq_self, Int.reduceEq, Int.reduceLT, Int.reduceLE, Bool.and_true, Bool.true_and, Bool.and_false, Bool.false_and, Nat.zero_add, hw1, h, he, ↓iso_2 h0]
      exact ans_fv _ _
theorem psub_e {n : Nat} {t u : Tm} {v : Int} {K : Nat} (hn : t.wt + u.wt + 14 < n) (hw : t.wk) (h2 : 2 * t.wt ≤ 1000000000) (hs : t.sc K) (hwu : u.wk) (hu2 : 2 * u.wt ≤ 1000000000) (hsu : u.sc K) (hK : K ≤ 1000000000) :
    Ans (SS dt n 88 [.fv t.enc, iv v, .fv u.enc] ⟨[], []⟩) (t.each (gSubst v u) 0).enc := by
  obtain ⟨n, rfl⟩ : ∃ k, n = k + 1 := ⟨n - 1, by omega⟩
  rw [c88]
  have hc := each_ok (F := 92) (caps := [.fp [.int .i64 v] 0, .fp [.int .i64 u.op, .int .i64 u.n, .sl (u.kids.map Tm.enc)] 0]) (g := gSubst v u) (c := u.wt + 8) (kp_sub _) (fun t a => scP K t a ∧ a ≤ 1000000000 ∧ a + 2 * t.wt ≤ 1000000000)
    (fun op m ks a i t h hg ho => ⟨scP_kid op m ks a i t h.1 hg ho, by
      have hb := bindN_le op i
      have hwm := wt_mem (List.mem_of_getElem? hg)
      have := h.2.2
      simp only [Tm.wt] at this
      omega, by
      have hb := bindN_le op i
      have hwm := wt_mem (List.mem_of_getElem? hg)
      have := h.2.2
      simp only [Tm.wt] at this
      omega⟩)
    (fun n hn m ks a h => by
      obtain ⟨rfl, h1, h2, h3⟩ := scP_var h.1
      exact sub1_ok m a [] hn hwu hu2 hsu hK h1 (by omega) h3 (by omega))
    n t 0 (by omega) hw (by omega) (by omega) ⟨⟨by omega, K, hs, by omega⟩, by omega, by omega⟩
  generalize t.each (gSubst v u) 0 = y at hc
  obtain ⟨o2, p2, l2⟩ := y
  obtain ⟨o, p, l⟩ := t
  obtain ⟨o3, p3, l3⟩ := u
  rw [enc_mk, enc_mk] at hc
  rw [enc_mk, enc_mk, enc_mk]
  simp only [Tm.op, Tm.n, Tm.kids] at hc
  simp only [S88_34, S88, ↓XX, ↓reduceIte, Nat.reduceBEq, decide_true, decide_false, Bool.not_true, Bool.not_false, List.map_cons, List.map_nil, List.length_map, List.length_cons, List.length_nil, Nat.reduceAdd, Int.cast_ofNat_Int, Int.natCast_zero, Int.natCast_one, Bool.false_eq_true, Bool.true_eq_false, decide_eq_true_eq, eq_self, Int.reduceEq, Int.reduceLT, Int.reduceLE, Bool.and_true, Bool.true_and, Bool.and_false, Bool.false_and, Nat.zero_add, ↓gen_val', ↓mkf_c]
  rw [iso_fn2 hc rfl rfl (by rfl) (by rfl) (by rfl) (by simp) (by simp) rfl]
  simp only [↓XX, ↓reduceIte, Nat.reduceBEq, decide_true, decide_false, Bool.not_true, Bool.not_false, List.map_cons, List.map_nil, List.length_map, List.length_cons, List.length_nil, Nat.reduceAdd, Int.cast_ofNat_Int, Int.natCast_zero, Int.natCast_one, Bool.false_eq_true, Bool.true_eq_false, decide_eq_true_eq, eq_self, Int.reduceEq, Int.reduceLT, Int.reduceLE, Bool.and_true, Bool.true_and, Bool.and_false, Bool.false_and, Nat.zero_add, ↓po_hit, ↓po_miss]
  exact ans_fv _ _
mutual
def Tm.some1 (g : Int → Int → Bool) : Tm → Int → Bool
  | .mk op m ks, a => if op = 1 then g m a else Tm.someL g op 0 ks a
def Tm.someL (g : Int → Int → Bool) : Int → Nat → List Tm → Int → Bool
  | _, _, [], _ => false
  | op, i, t :: l, a => t.some1 g (a + bindN op i) || Tm.someL g op (i + 1) l a
end
def gFree (v : Int) (m a : Int) : Bool := decide (m - a = v) && decide (a ≤ m)
theorem kp_free (caps : List FV) (ih : Handler) (xs : List IV) (h0 : Hp) (k : IV → Hp → List Ref → List Ref → Option (IV × Hp)) : dynS EE ih (.fv (.func (.func 90) [] caps)) xs h0 k = isoS [] false false ih 90 (xs ++ caps.map .fv) h0 k :=
  keepc (by kernel_rfl) (by kernel_rfl) (by kernel_rfl) (by kernel_rfl) caps ..
theorem free1_ok {n : Nat} (hn : 0 < n) (v m a : Int) (hm1 : 0 ≤ m) (hm2 : m ≤ 100000000000) (ha : 0 ≤ a) (ha2 : a ≤ 1000000000) : Ans (SS dt n 90 [iv m, iv a, .fv (.fp [.int .i64 v] 0)] ⟨[], []⟩) (.bool (gFree v m a)) := by
  obtain ⟨n, rfl⟩ : ∃ k, n = k + 1 := ⟨n - 1, by omega⟩
  rw [c90]
  have hw1 : w64 (m - a) = m - a := by rw [w64_id] <;> omega
  unfold gFree
  by_cases h : m - a = v
  · have hwv : w64 v = v := by rw [← h]; exact hw1
    rw [decide_eq_true h]
    by_cases h' : a ≤ m
    · rw [decide_eq_true h']
      simp only [S90_25, S90, ↓XX, ↓reduceIte, Nat.reduceBEq, decide_true, decide_false, Bool.not_true, Bool.not_false, List.map_cons, List.map_nil, List.length_map, List.length_cons, List.length_nil, Nat.reduceAdd, Int.cast_ofNat_Int, Int.natCast_zero, Int.natCast_one, Bool.false_eq_true, Bool.true_eq_false, decide_eq_true_eq, eq_self, Int.reduceEq, Int.reduceLT, Int.reduceLE, Bool.and_true, Bool.true_and, Bool.and_false, Bool.false_and, Nat.zero_add, hw1, hwv, h, h']
      exact ans_fv _ _
    · rw [decide_eq_false h']
      simp only [S90_25, S90, ↓XX, ↓reduceIte, Nat.reduceBEq, decide_true, decide_false, Bool.not_true, Bool.not_false, List.map_cons, List.map_nil, List.length_map, List.length_cons, List.length_nil, Nat.reduceAdd, Int.cast_ofNat_Int, Int.natCast_zero, Int.natCast_one, Bool.false_eq_true, Bool.true_eq_false, decide_eq_true_eq, eq_self, Int.reduceEq, Int.reduceLT, Int.reduceLE, Bool.and_true, Bool.true_and, Bool.and_false, Bool.false_and, Nat.zero_add, hw1, hwv, h, h']
      exact ans_fv _ _
  · rw [decide_eq_false h]
    simp only [S90_25, S90, ↓XX, ↓reduceIte, Nat.reduceBEq, decide_true, decide_false, Bool.not_true, Bool.not_false, List.map_cons, List.map_nil, List.length_map, List.length_cons, List.length_nil, Nat.reduceAdd, Int.cast_ofNat_Int, Int.natCast_zero, Int.natCast_one, Bool.false_eq_true, Bool.true_eq_false, decide_eq_true_eq, eq_self, Int.reduceEq, Int.reduceLT, Int.reduceLE, Bool.and_true, Bool.true_and, Bool.and_false, Bool.false_and, Nat.zero_add, hw1, h]
    exact ans_fv _ _
set_option maxRecDepth 20000 in
theorem some_ok {F : FuncId} {caps : List FV} {g : Int → Int → Bool} {c : Nat} (hd : ∀ (ih : Handler) (xs : List IV) (h0 : Hp) (k : IV → Hp → List Ref → List Ref → Option (IV × Hp)), dynS EE ih (.fv (.func (.func F) [] caps)) xs h0 k = isoS [] false false ih F (xs ++ caps.map .fv) h0 k)
    (P : Tm → Int → Prop) (hP : ∀ op m ks a i t, P (.mk op m ks) a → ks[i]? = some t → op ≠ 1 → P t (a + bindN op i))
    (hg : ∀ n, c < n → ∀ m ks a, P (.mk 1 m ks) a → Ans (SS dt n F (iv m :: iv a :: caps.map .fv) ⟨[], []⟩) (.bool (g m a))) :
    ∀ (n : Nat) (t : Tm) (a : Int), t.wt + c + 3 < n → 0 ≤ a → a + 2 * t.wt ≤ 1000000000 → P t a → AnsF (SS dt n 89 [.fv t.enc, iv a, .fv (.func (.func F) [] caps)] ⟨[], []⟩) (.bool (t.some1 g a)) := by
  intro n
  induction n with
  | zero => intro t a h; omega
  | succ n ih =>
    intro t a hn ha ha2 hPt
    obtain ⟨op, m, ks⟩ := t
    simp only [Tm.wt] at hn ha2
    rw [c89, enc_mk]
    have hlen := wt_len ks
    by_cases h1 : op = 1
    · subst h1
      rw [Tm.some1, if_pos rfl]
      have hc := hg n (by omega) m ks a hPt
      have hi : ∀ (own : List (Nat × Blk)) (k : IV → Hp → List Ref → List Ref → Option (IV × Hp)), isoS [] false false (SS dt n) F ([iv m, iv a] ++ caps.map .fv) ⟨own, []⟩ k = k (.fv (.bool (g m a))) ⟨own, []⟩ [] [] := by
        intro own k
        refine iso_p (vs := .int .i64 m :: .int .i64 a :: caps) ?_ hc ⟨own, []⟩ k
        have hcaps : ∀ l : List FV, frzPL (l.map .fv) = some l := by
          intro l
          induction l with
          | nil => rfl
          | cons x l ih => simp [frzPL, ih, frzP, frz1]
        simp [frzPL, hcaps, frzP, frz1, iv]
      simp only [S89_66, S89_67, S89_68, S89_69, S89_70, S89_71, S89_73, S89, ↓XX, ↓reduceIte, Nat.reduceBEq, decide_true, decide_false, Bool.not_true, Bool.not_false, List.map_cons, List.map_nil, List.length_map, List.length_cons, List.length_nil, Nat.reduceAdd, Int.cast_ofNat_Int, Int.natCast_zero, Int.natCast_one, Bool.false_eq_true, Bool.true_eq_false, decide_eq_true_eq, eq_self, Int.reduceEq, Int.reduceLT, Int.reduceLE, Bool.and_true, Bool.true_and, Bool.and_false, Bool.false_and, Nat.zero_add, ↓hd, ↓hi]
      exact ansf_fv _ _
    · rw [Tm.some1, if_neg h1]
      simp only [S89_66, S89_67, S89_68, S89_69, S89_70, S89_71, S89_73, S89, ↓XX, ↓reduceIte, Nat.reduceBEq, decide_true, decide_false, Bool.not_true, Bool.not_false, List.map_cons, List.map_nil, List.length_map, List.length_cons, List.length_nil, Nat.reduceAdd, Int.cast_ofNat_Int, Int.natCast_zero, Int.natCast_one, Bool.false_eq_true, Bool.true_eq_false, decide_eq_true_eq, eq_self, Int.reduceEq, Int.reduceLT, Int.reduceLE, Bool.and_true, Bool.true_and, Bool.and_false, Bool.false_and, Nat.zero_add, h1, ↓drop_e, XD, heldB, flatD, List.any_cons, List.any_nil, List.all_cons, List.all_nil, List.filter_cons, List.filter_nil, List.contains_cons, List.contains_nil, Bool.or_false, Bool.or_true, Bool.false_or, Bool.true_or, Bool.and_self, Bool.not_eq_true, BEq.rfl, beq_self_eq_true]
      refine loop_run (Q := fun r => AnsF r _) (fun k V H => ∃ (pre rest : List Tm), ks = pre ++ rest ∧ rest.length = k ∧
          V = [iv a, .fv (.func (.func F) [] caps), .ptr (.own 93323264) 0, .fv (.sl (ks.map Tm.enc)), iv ks.length, iv pre.length] ∧
          H = ⟨[(93323264, .row [iv op, iv m, .fv (.sl (ks.map Tm.enc))] false)], []⟩ ∧ Tm.someL g op pre.length rest a = Tm.someL g op 0 ks a)
        ?_ n ks.length _ _ (by omega) ⟨[], ks, rfl, rfl, rfl, rfl, rfl⟩
      rintro k V H rec ⟨pre, rest, hks, hl, rfl, rfl, hts⟩ hrec
      have hkl : ks.length = pre.length + rest.length := by rw [hks]; simp
      cases rest with
      | nil =>
        have hno : ¬ ((pre.length : Int) < ks.length) := by rw [hkl]; simp
        rw [Tm.someL] at hts
        rw [← hts]
        simp only [S89_66, S89_67, S89_68, S89_69, S89_70, S89_71, S89_72, S89_73, S89, ↓XX, ↓reduceIte, Nat.reduceBEq, decide_true, decide_false, Bool.not_true, Bool.not_false, List.map_cons, List.map_nil, List.length_map, List.length_cons, List.length_nil, Nat.reduceAdd, Int.cast_ofNat_Int, Int.natCast_zero, Int.natCast_one, Bool.false_eq_true, Bool.true_eq_false, decide_eq_true_eq, eq_self, Int.reduceEq, Int.reduceLT, Int.reduceLE, Bool.and_true, Bool.true_and, Bool.and_false, Bool.false_and, Nat.zero_add, hno]
        exact ansf_fv _ _
      | cons x rest =>
        have hi : (pre.length : Int) < ks.length := by rw [hkl]; simp; omega
        have hg2 := at_pre hks
        have hxw := wt_mem (t := x) (l := ks) (by rw [hks]; simp)
        have hb := pbind_ok (n := n) (by omega) op pre.length
        have hble := bindN_le op pre.length
        have hs := ih x (a + bindN op pre.length) (by omega) (by omega) (by omega) (hP _ _ _ _ _ _ hPt hg2 h1)
        have hwa : w64 (a + bindN op pre.length) = a + bindN op pre.length := by rw [w64_id] <;> omega
        have hwi : w64 ((pre.length : Int) + 1) = ((pre ++ [x]).length : Int) := (w64_id (by omega) (by omega)).trans (by simp)
        rw [Tm.someL] at hts
        generalize x.some1 g (a + bindN op pre.length) = y at hs hts
        obtain ⟨o, p, l⟩ := x
        rw [enc_mk] at hs
        simp only [List.length_cons] at hl
        cases y
        · simp only [S89_66, S89_67, S89_68, S89_69, S89_70, S89_71, S89_72, S89_73, S89, ↓XX, ↓reduceIte, Nat.reduceBEq, decide_true, decide_false, Bool.not_true, Bool.not_false, List.map_cons, List.map_nil, List.length_map, List.length_cons, List.length_nil, Nat.reduceAdd, Int.cast_ofNat_Int, Int.natCast_zero, Int.natCast_one, Bool.false_eq_true, Bool.true_eq_false, decide_eq_true_eq, eq_self, Int.reduceEq, Int.reduceLT, Int.reduceLE, Bool.and_true, Bool.true_and, Bool.and_false, Bool.false_and, Nat.zero_add, hi, ↓ix_f (map_get hg2) (agg3l _ _ _), ↓agg3, ↓iso_2 hb, hwa, hwi, ↓iso_3 (ansf hs), ↓drop_e, XD, heldB, flatD, List.any_cons, List.any_nil, List.all_cons, List.all_nil, List.filter_cons, List.filter_nil, List.contains_cons, List.contains_nil, Bool.or_false, Bool.or_true, Bool.false_or, Bool.true_or, Bool.and_self, Bool.not_eq_true, BEq.rfl, beq_self_eq_true]
          exact hrec rest.length _ _ (by omega) ⟨pre ++ [.mk o p l], rest, by rw [hks]; simp, rfl, rfl, rfl, by simpa using hts⟩
        · rw [← hts]
          simp only [S89_66, S89_67, S89_68, S89_69, S89_70, S89_71, S89_72, S89_73, S89, ↓XX, ↓reduceIte, Nat.reduceBEq, decide_true, decide_false, Bool.not_true, Bool.not_false, List.map_cons, List.map_nil, List.length_map, List.length_cons, List.length_nil, Nat.reduceAdd, Int.cast_ofNat_Int, Int.natCast_zero, Int.natCast_one, Bool.false_eq_true, Bool.true_eq_false, decide_eq_true_eq, eq_self, Int.reduceEq, Int.reduceLT, Int.reduceLE, Bool.and_true, Bool.true_and, Bool.and_false, Bool.false_and, Nat.zero_add, hi, ↓ix_f (map_get hg2) (agg3l _ _ _), ↓agg3, ↓iso_2 hb, hwa, hwi, ↓iso_3 (ansf hs), Bool.true_or]
          exact ansf_fv _ _
theorem pfree_e {n : Nat} {t : Tm} {v : Int} {K : Nat} (hn : t.wt + 6 < n) (h2 : 2 * t.wt ≤ 1000000000) (hs : t.sc K) (hK : K ≤ 1000000000) : Ans (SS dt n 87 [.fv t.enc, iv v] ⟨[], []⟩) (.bool (t.some1 (gFree v) 0)) := by
  obtain ⟨n, rfl⟩ : ∃ k, n = k + 1 := ⟨n - 1, by omega⟩
  rw [c87]
  have hc := some_ok (F := 90) (caps := [.fp [.int .i64 v] 0]) (g := gFree v) (c := 0) (kp_free _) (fun t a => scP K t a ∧ a ≤ 1000000000 ∧ a + 2 * t.wt ≤ 1000000000)
    (fun op m ks a i t h hg ho => ⟨scP_kid op m ks a i t h.1 hg ho, by
      have hb := bindN_le op i
      have hwm := wt_mem (List.mem_of_getElem? hg)
      have := h.2.2
      simp only [Tm.wt] at this
      omega, by
      have hb := bindN_le op i
      have hwm := wt_mem (List.mem_of_getElem? hg)
      have := h.2.2
      simp only [Tm.wt] at this
      omega⟩)
    (fun n hn m ks a h => by
      obtain ⟨rfl, h1, h2, h3⟩ := scP_var h.1
      exact free1_ok hn v m a h1 (by omega) h3 (by omega))
    n t 0 (by omega) (by omega) (by omega) ⟨⟨by omega, K, hs, by omega⟩, by omega, by omega⟩
  obtain ⟨o, p, l⟩ := t
  rw [enc_mk] at hc ⊢
  simp only [S87, ↓XX, ↓reduceIte, Nat.reduceBEq, decide_true, decide_false, Bool.not_true, Bool.not_false, List.map_cons, List.map_nil, List.length_map, List.length_cons, List.length_nil, Nat.reduceAdd, Int.cast_ofNat_Int, Int.natCast_zero, Int.natCast_one, Bool.false_eq_true, Bool.true_eq_false, decide_eq_true_eq, eq_self, Int.reduceEq, Int.reduceLT, Int.reduceLE, Bool.and_true, Bool.true_and, Bool.and_false, Bool.false_and, Nat.zero_add, ↓gen_val', ↓mkf_c1]
  rw [iso_fn1 hc rfl rfl (by rfl) (by simp) rfl]
  exact ans_fv _ _
mutual
theorem each_subst (v : Int) (u : Tm) {K : Nat} (hu : u.sc K) (huw : K + 2 * u.wt ≤ 1000000000) : ∀ (t : Tm) (k : Nat) (a : Int), t.sc k → k + 2 * t.wt ≤ 1000000000 → 0 ≤ a → a + 2 * t.wt ≤ 1000000000 → t.each (gSubst v u) a = t.subst (v + a) a u
  | .mk op m ks, k, a, h, hk, h1, h2 => by
    rw [Tm.sc] at h
    rw [Tm.wt] at hk h2
    by_cases ho : op = 1
    · subst ho
      have h3 : ar 1 = some 0 := by decide
      rw [h3, if_pos rfl] at h
      have h4 : ks = [] := List.length_eq_zero_iff.1 (by have := h.1; simp only [Option.some.injEq] at this; omega)
      subst h4
      rw [Tm.each, if_pos rfl, gSubst, Tm.subst, if_pos rfl]
      have hm := h.2.1
      by_cases hc : v < m - a
      · rw [if_pos hc, if_neg (by omega), if_pos (by omega), w64_id (by omega) (by omega)]
        rfl
      · rw [if_neg hc]
        by_cases he : m - a = v
        · rw [if_pos he, if_pos (by omega), each_shift a 0 u K 0 hu (by omega) (by omega) (by omega)]
          rfl
        · rw [if_neg he, if_neg (by omega), if_neg (by omega), Int.add_zero]
    · rw [Tm.each, if_neg ho, Tm.subst, if_neg ho]
      rw [eachL_subst v u hu huw op 0 ks k a h.2.2 (by omega) h1 (by omega)]
theorem eachL_subst (v : Int) (u : Tm) {K : Nat} (hu : u.sc K) (huw : K + 2 * u.wt ≤ 1000000000) : ∀ (op : Int) (i : Nat) (l : List Tm) (k : Nat) (a : Int), Tm.scL op i l k → k + 2 + 2 * Tm.wtL l ≤ 1000000000 → 0 ≤ a → a + 2 + 2 * Tm.wtL l ≤ 1000000000 → Tm.eachL (gSubst v u) op i l a = Tm.substL op i l (v + a) a u
  | _, _, [], _, _, _, _, _, _ => by rw [Tm.eachL, Tm.substL]
  | op, i, t :: l, k, a, h, hk, h1, h2 => by
    rw [Tm.scL] at h
    rw [Tm.eachL, Tm.substL]
    have hb := bindN_le op i
    rw [Tm.wtL] at hk h2
    rw [each_subst v u hu huw t (k + bindN op i) (a + bindN op i) h.1 (by omega) (by omega) (by omega), eachL_subst v u hu huw op (i + 1) l k a h.2 (by omega) h1 (by omega), Int.add_assoc]
end
mutual
theorem some_free (v : Int) (hv : 0 ≤ v) : ∀ (t : Tm) (a : Int), 0 ≤ a → t.some1 (gFree v) a = t.free (v + a)
  | .mk op m ks, a, h1 => by
    by_cases ho : op = 1
    · subst ho
      rw [Tm.some1, if_pos rfl, Tm.free, if_pos rfl, gFree]
      by_cases h : m = v + a
      · rw [decide_eq_true h, decide_eq_true (by omega : m - a = v), decide_eq_true (by omega : a ≤ m)]; rfl
      · rw [decide_eq_false h, decide_eq_false (by omega : ¬ m - a = v)]; rfl
    · rw [Tm.some1, if_neg ho, Tm.free, if_neg ho, someL_free v hv op 0 ks a h1]
theorem someL_free (v : Int) (hv : 0 ≤ v) : ∀ (op : Int) (i : Nat) (l : List Tm) (a : Int), 0 ≤ a → Tm.someL (gFree v) op i l a = Tm.freeL op i l (v + a)
  | _, _, [], _, _ => by rw [Tm.someL, Tm.freeL]
  | op, i, t :: l, a, h1 => by
    rw [Tm.someL, Tm.freeL, some_free v hv t (a + bindN op i) (by omega), someL_free v hv op (i + 1) l a h1, Int.add_assoc]
end
end Idl
end Go.Proofs.Ytaifgaidaglblaa

namespace Go.Proofs.Ytaifgaidaglblaa
namespace Idl
set_option maxRecDepth 20000 in
theorem function_ok {n : Nat} {K : Nat} {op m : Int} {z b : Tm} (hn : b.wt + 20 < n) (hk : b.op = 5 → ∃ f x, b.kids = [f, x]) (hw : b.wk) (h2 : 2 * b.wt ≤ 100000000) (hs : b.sc K) (hK : K ≤ 100000000) :
    AnsF (SS dt n 82 [.fv (Tm.mk op m [z, b]).enc] ⟨[], []⟩) (fnP (.mk op m [z, b])).enc := by
  obtain ⟨n, rfl⟩ : ∃ k, n = k + 1 := ⟨n - 1, by omega⟩
  rw [c82]
  obtain ⟨o1, n1, k1⟩ := b
  by_cases h5 : o1 = 5
  · subst h5
    obtain ⟨f, x, hkk⟩ := hk rfl
    simp only [Tm.kids] at hkk
    subst hkk
    obtain ⟨o2, n2, k2⟩ := x
    rw [Tm.sc] at hs
    have hf : f.sc K := by
      have := hs.2.2
      rw [Tm.scL] at this
      exact this.1
    have hwf : f.wk := by
      rw [Tm.wk] at hw
      exact wk_mem hw.2 (by simp)
    simp only [Tm.wt, Tm.wtL] at hn h2
    have hfree := pfree_e (n := n) (t := f) (v := 0) (K := K) (by omega) (by omega) hf (by omega)
    rw [some_free 0 (by omega) f 0 (by omega)] at hfree
    have hsub := psub_e (n := n) (t := f) (u := zeroTm) (v := 0) (K := K) (by simp only [zeroTm, Tm.wt, Tm.wtL]; omega) hwf (by omega) hf (by simp [zeroTm, Tm.wk, Tm.wkL]) (by simp [zeroTm, Tm.wt, Tm.wtL]) (zero_sc K) (by omega)
    rw [each_subst 0 zeroTm (K := K) (zero_sc K) (by simp only [zeroTm, Tm.wt, Tm.wtL]; omega) f K 0 hf (by omega) (by omega) (by omega)] at hsub
    simp only [Int.add_zero] at hfree hsub
    rw [fnP]
    generalize hr : f.subst 0 0 zeroTm = u at hsub
    generalize f.free 0 = fr at hfree
    obtain ⟨o4, n4, k4⟩ := u
    obtain ⟨o3, n3, k3⟩ := f
    obtain ⟨oz, nz, kz⟩ := z
    rw [zeroTm] at hsub
    simp only [enc_mk, List.map_nil] at hfree hsub
    by_cases h1 : o2 = 1
    · by_cases h0 : n2 = 0
      · cases fr
        · rw [if_pos ⟨rfl, h1, h0, rfl⟩]
          have hs3 := fun (own : List (Nat × Blk)) (k : IV → Hp → List Ref → List Ref → Option (IV × Hp)) => iso_3 (a := .fv (.agg [.int .i64 o3, .int .i64 n3, .sl (k3.map Tm.enc)])) (b := iv 0) (c := .agg [iv 11, iv 0, .nils]) hsub rfl rfl rfl ⟨own, []⟩ k
          simp only [enc_mk, List.map_cons, List.map_nil]
          simp only [S82_158, S82_159, S82_160, S82_161, S82_162, S82_163, S82_164, S82_165, S82_166, S82, ↓XX, ↓reduceIte, Nat.reduceBEq, decide_true, decide_false, Bool.not_true, Bool.not_false, List.map_cons, List.map_nil, List.length_map, List.length_cons, List.length_nil, Nat.reduceAdd, Int.cast_ofNat_Int, Int.natCast_zero, Int.natCast_one, Bool.false_eq_true, Bool.true_eq_false, decide_eq_true_eq, eq_self, Int.reduceEq, Int.reduceLT, Int.reduceLE, Bool.and_true, Bool.true_and, Bool.and_false, Bool.false_and, Nat.zero_add, ↓ixt0, ↓ixt1, ↓ixt2, h1, h0, ↓iso_2 hfree, ↓hs3]
          exact ansf_fv _ _
        · rw [if_neg (by simp)]
          simp only [enc_mk, List.map_cons, List.map_nil]
          simp only [S82_158, S82_159, S82_160, S82_161, S82_162, S82_163, S82_164, S82_165, S82_166, S82, ↓XX, ↓reduceIte, Nat.reduceBEq, decide_true, decide_false, Bool.not_true, Bool.not_false, List.map_cons, List.map_nil, List.length_map, List.length_cons, List.length_nil, Nat.reduceAdd, Int.cast_ofNat_Int, Int.natCast_zero, Int.natCast_one, Bool.false_eq_true, Bool.true_eq_false, decide_eq_true_eq, eq_self, Int.reduceEq, Int.reduceLT, Int.reduceLE, Bool.and_true, Bool.true_and, Bool.and_false, Bool.false_and, Nat.zero_add, ↓ixt0, ↓ixt1, ↓ixt2, h1, h0, ↓iso_2 hfree]
          exact ansf_fv _ _
      · rw [if_neg (by simp [h0])]
        simp only [enc_mk, List.map_cons, List.map_nil]
        simp only [S82_158, S82_159, S82_160, S82_161, S82_162, S82_163, S82_164, S82_165, S82_166, S82, ↓XX, ↓reduceIte, Nat.reduceBEq, decide_true, decide_false, Bool.not_true, Bool.not_false, List.map_cons, List.map_nil, List.length_map, List.length_cons, List.length_nil, Nat.reduceAdd, Int.cast_ofNat_Int, Int.natCast_zero, Int.natCast_one, Bool.false_eq_true, Bool.true_eq_false, decide_eq_true_eq, eq_self, Int.reduceEq, Int.reduceLT, Int.reduceLE, Bool.and_true, Bool.true_and, Bool.and_false, Bool.false_and, Nat.zero_add, ↓ixt0, ↓ixt1, ↓ixt2, h1, h0]
        exact ansf_fv _ _
    · rw [if_neg (by simp [h1])]
      simp only [enc_mk, List.map_cons, List.map_nil]
      simp only [S82_158, S82_159, S82_160, S82_161, S82_162, S82_163, S82_164, S82_165, S82_166, S82, ↓XX, ↓reduceIte, Nat.reduceBEq, decide_true, decide_false, Bool.not_true, Bool.not_false, List.map_cons, List.map_nil, List.length_map, List.length_cons, List.length_nil, Nat.reduceAdd, Int.cast_ofNat_Int, Int.natCast_zero, Int.natCast_one, Bool.false_eq_true, Bool.true_eq_false, decide_eq_true_eq, eq_self, Int.reduceEq, Int.reduceLT, Int.reduceLE, Bool.and_true, Bool.true_and, Bool.and_false, Bool.false_and, Nat.zero_add, ↓ixt0, ↓ixt1, ↓ixt2, h1]
      exact ansf_fv _ _
  · rw [fnP_ne (by simpa [Tm.op] using h5)]
    obtain ⟨oz, nz, kz⟩ := z
    simp only [enc_mk, List.map_cons, List.map_nil]
    simp only [S82_158, S82_159, S82_160, S82_161, S82_162, S82_163, S82_164, S82_165, S82_166, S82, ↓XX, ↓reduceIte, Nat.reduceBEq, decide_true, decide_false, Bool.not_true, Bool.not_false, List.map_cons, List.map_nil, List.length_map, List.length_cons, List.length_nil, Nat.reduceAdd, Int.cast_ofNat_Int, Int.natCast_zero, Int.natCast_one, Bool.false_eq_true, Bool.true_eq_false, decide_eq_true_eq, eq_self, Int.reduceEq, Int.reduceLT, Int.reduceLE, Bool.and_true, Bool.true_and, Bool.and_false, Bool.false_and, Nat.zero_add, ↓ixt0, ↓ixt1, ↓ixt2, h5]
    exact ansf_fv _ _
set_option maxRecDepth 20000 in
theorem pair_ok {n : Nat} {op m : Int} {z a b : Tm} (hn : 2 * a.wt + 10 < n) (hka : a.op = 8 → ∃ x, a.kids = [x]) (hkb : b.op = 9 → ∃ y, b.kids = [y]) (h2 : a.wt ≤ 100000000) :
    AnsF (SS dt n 83 [.fv (Tm.mk op m [z, a, b]).enc] ⟨[], []⟩) (prP (.mk op m [z, a, b])).enc := by
  obtain ⟨n, rfl⟩ : ∃ k, n = k + 1 := ⟨n - 1, by omega⟩
  rw [c83]
  obtain ⟨o1, n1, k1⟩ := a
  obtain ⟨o2, n2, k2⟩ := b
  obtain ⟨oz, nz, kz⟩ := z
  by_cases h8 : o1 = 8
  · by_cases h9 : o2 = 9
    · subst h8 h9
      obtain ⟨x, hx⟩ := hka rfl
      obtain ⟨y, hy⟩ := hkb rfl
      simp only [Tm.kids] at hx hy
      subst hx hy
      simp only [Tm.wt, Tm.wtL] at hn h2
      have hs := psame_ok n x y (by omega) (by omega)
      rw [prP]
      generalize x.same y = v at hs
      obtain ⟨o3, n3, k3⟩ := x
      obtain ⟨o4, n4, k4⟩ := y
      simp only [enc_mk] at hs
      cases v
      · rw [if_neg (by simp)]
        simp only [enc_mk, List.map_cons, List.map_nil]
        simp only [S83_140, S83_141, S83_142, S83_143, S83_144, S83_145, S83_146, S83_147, S83_148, S83_149, S83_150, S83, ↓XX, ↓reduceIte, Nat.reduceBEq, decide_true, decide_false, Bool.not_true, Bool.not_false, List.map_cons, List.map_nil, List.length_map, List.length_cons, List.length_nil, Nat.reduceAdd, Int.cast_ofNat_Int, Int.natCast_zero, Int.natCast_one, Bool.false_eq_true, Bool.true_eq_false, decide_eq_true_eq, eq_self, Int.reduceEq, Int.reduceLT, Int.reduceLE, Bool.and_true, Bool.true_and, Bool.and_false, Bool.false_and, Nat.zero_add, ↓ixt0, ↓ixt1, ↓ixt2, ↓iso_2 hs]
        exact ansf_fv _ _
      · rw [if_pos ⟨rfl, rfl, rfl⟩]
        simp only [enc_mk, List.map_cons, List.map_nil]
        simp only [S83_140, S83_141, S83_142, S83_143, S83_144, S83_145, S83_146, S83_147, S83_148, S83_149, S83_150, S83, ↓XX, ↓reduceIte, Nat.reduceBEq, decide_true, decide_false, Bool.not_true, Bool.not_false, List.map_cons, List.map_nil, List.length_map, List.length_cons, List.length_nil, Nat.reduceAdd, Int.cast_ofNat_Int, Int.natCast_zero, Int.natCast_one, Bool.false_eq_true, Bool.true_eq_false, decide_eq_true_eq, eq_self, Int.reduceEq, Int.reduceLT, Int.reduceLE, Bool.and_true, Bool.true_and, Bool.and_false, Bool.false_and, Nat.zero_add, ↓ixt0, ↓ixt1, ↓ixt2, ↓iso_2 hs]
        exact ansf_fv _ _
    · rw [prP_ne (by simp [Tm.op, h9])]
      simp only [enc_mk, List.map_cons, List.map_nil]
      simp only [S83_140, S83_141, S83_142, S83_143, S83_144, S83_145, S83_146, S83_147, S83_148, S83_149, S83_150, S83, ↓XX, ↓reduceIte, Nat.reduceBEq, decide_true, decide_false, Bool.not_true, Bool.not_false, List.map_cons, List.map_nil, List.length_map, List.length_cons, List.length_nil, Nat.reduceAdd, Int.cast_ofNat_Int, Int.natCast_zero, Int.natCast_one, Bool.false_eq_true, Bool.true_eq_false, decide_eq_true_eq, eq_self, Int.reduceEq, Int.reduceLT, Int.reduceLE, Bool.and_true, Bool.true_and, Bool.and_false, Bool.false_and, Nat.zero_add, ↓ixt0, ↓ixt1, ↓ixt2, h8, h9]
      exact ansf_fv _ _
  · rw [prP_ne (by simp [Tm.op, h8])]
    simp only [enc_mk, List.map_cons, List.map_nil]
    simp only [S83_140, S83_141, S83_142, S83_143, S83_144, S83_145, S83_146, S83_147, S83_148, S83_149, S83_150, S83, ↓XX, ↓reduceIte, Nat.reduceBEq, decide_true, decide_false, Bool.not_true, Bool.not_false, List.map_cons, List.map_nil, List.length_map, List.length_cons, List.length_nil, Nat.reduceAdd, Int.cast_ofNat_Int, Int.natCast_zero, Int.natCast_one, Bool.false_eq_true, Bool.true_eq_false, decide_eq_true_eq, eq_self, Int.reduceEq, Int.reduceLT, Int.reduceLE, Bool.and_true, Bool.true_and, Bool.and_false, Bool.false_and, Nat.zero_add, ↓ixt0, ↓ixt1, ↓ixt2, h8]
    exact ansf_fv _ _
end Idl
end Go.Proofs.Ytaifgaidaglblaa

namespace Go.Proofs.Ytaifgaidaglblaa
namespace Idl
theorem fzl_z {d : Nat} {l : List FV} (h : Hp) (lg : List Ref) (e : Option (IV × Hp)) (k : List FV → List (Ref × Blk) → List Ref → Option (IV × Hp)) :
    fzLK (fzU (d + 1)) (iv 11 :: iv 0 :: .nils :: l.map .fv) h lg e k = k (.int .i64 11 :: .int .i64 0 :: .sl [] :: l) [] lg := by
  show (fzLK (fzU (d + 1)) (l.map .fv) h lg e fun ys us lg => apK [] us fun w => apK [] w fun w => apK [] w fun w => k (.int .i64 11 :: .int .i64 0 :: .sl [] :: ys) w lg) = _
  rw [fzl_fv]
  rfl
theorem fz_tmz {s : Nat} {l : List Tm} {ro : Bool} {a b : FV} {own : List (Nat × Blk)} {ext : List Blk} (hl : lookupOwn s own = some (.row (iv 11 :: iv 0 :: .nils :: (cellsF l).map .fv) ro)) (hn : l.length ≤ 90) (lg : List Ref) (e : Option (IV × Hp))
    (k : FV → List (Ref × Blk) → List Ref → Option (IV × Hp)) : fzU 12 (.agg [.fv a, .fv b, .slc (.own s) 3 (l.length + 1)]) ⟨own, ext⟩ lg e k =
      k (.agg [a, b, .sl ((zeroTm :: l).map Tm.enc)]) [(.own s, .row (iv 11 :: iv 0 :: .nils :: (cellsF l).map .fv) true)] (.own s :: lg) := by
  have hz : ∀ (lg : List Ref) (k : FV → List (Ref × Blk) → List Ref → Option (IV × Hp)), fzU 11 (.slc (.own s) 3 (l.length + 1)) ⟨own, ext⟩ lg e k = k (.sl ((zeroTm :: l).map Tm.enc)) [(.own s, .row (iv 11 :: iv 0 :: .nils :: (cellsF l).map .fv) true)] (.own s :: lg) := by
    intro lg k
    have hlen : (iv 11 :: iv 0 :: .nils :: (cellsF l).map IV.fv).length = 3 * l.length + 3 := by simp [cellsF_len]
    show (getK (.own s) ⟨own, ext⟩ fun b => asRow b fun cells => cond (Nat.ble cells.length 300) (cond (or (Nat.beq 3 0) (not (Nat.ble ((l.length + 1) * 3) cells.length))) none
      (fzLK (fzU 10) cells ⟨own, ext⟩ (.own s :: lg) e fun cs u lg => chK 3 (l.length + 1) cs fun els => k (.sl els) ((.own s, .row cells true) :: u) lg)) e) = _
    rw [g_own, ownK_eq, hl]
    simp only [Option.bind_some, as_row]
    rw [hlen, ble_dec, decide_eq_true (by omega), c_t, ble_dec, decide_eq_true (by omega)]
    simp only [Bool.not_true]
    show (fzLK (fzU (9 + 1)) (iv 11 :: iv 0 :: .nils :: (cellsF l).map IV.fv) ⟨own, ext⟩ (.own s :: lg) e fun cs u lg => chK 3 (l.length + 1) cs fun els => k (.sl els) ((.own s, .row (iv 11 :: iv 0 :: .nils :: (cellsF l).map IV.fv) true) :: u) lg) = _
    rw [fzl_z]
    exact chk3 (zeroTm :: l) _
  rw [fu_agg, show Nat.ble [IV.fv a, .fv b, .slc (.own s) 3 (l.length + 1)].length 300 = true from rfl, c_t, fl1, fv_fv, fl1, fv_fv, fl1, hz, fl0]
  rfl
theorem iso_1z {ih : Handler} {f : FuncId} {w a b : FV} {s : Nat} {l : List Tm} {ro : Bool} {own own' : List (Nat × Blk)} (hr : AnsF (ih f [.fv (.agg [a, b, .sl ((zeroTm :: l).map Tm.enc)])] ⟨[], []⟩) w) (hl : lookupOwn s own = some (.row (iv 11 :: iv 0 :: .nils :: (cellsF l).map .fv) ro)) (hn : l.length ≤ 90)
    (ho : putOwn s (.row (iv 11 :: iv 0 :: .nils :: (cellsF l).map .fv) true) own = own') (k : IV → Hp → List Ref → List Ref → Option (IV × Hp)) :
    isoS [] false false ih f [.agg [.fv a, .fv b, .slc (.own s) 3 (l.length + 1)]] ⟨own, []⟩ k = k (.fv w) ⟨own', []⟩ [.own s] [.own s] := by
  subst ho
  refine iso_gf (vs := [.agg [a, b, .sl ((zeroTm :: l).map Tm.enc)]]) (u := [(.own s, .row (iv 11 :: iv 0 :: .nils :: (cellsF l).map .fv) true)]) (lg := [.own s]) ?_ hr ?_ k
  · intro e k
    rw [fz1, fz_tmz hl hn, fz0]
    rfl
  · intro k
    show (ownK own s fun _ => putOwnK own s (.row (iv 11 :: iv 0 :: .nils :: (cellsF l).map .fv) true) fun own => k ⟨own, _⟩) = _
    rw [ownK_eq, hl, Option.bind_some, putOwnK_eq]
theorem ix_sl30 {β : Type} {n : Nat} (h : 0 < n) (r : Ref) (k : IV → Option β) : ixS 3 (.slc r 3 n) (iv 0) k = k (.ptr r 0) := ix_sl3 (i := 0) h r k
theorem scz (x : Tm) (l : List Tm) : setCells (cellsT (x :: l) 0) 0 [iv 11, iv 0, .nils] = iv 11 :: iv 0 :: .nils :: (cellsF l).map .fv := by
  obtain ⟨o, p, k⟩ := x
  simp [cellsT, cellsF, zeroT, setCells]
theorem blz (x : Tm) (l : List Tm) : Nat.ble 3 (cellsT (x :: l) 0).length = true := by
  rw [ble_dec]
  apply decide_eq_true
  simp [cellsT, zeroT, cellsF_len]
  omega
noncomputable abbrev Heta (op m : Int) (ks done : List Tm) (r : Nat) : Hp :=
  ⟨[(71303168, .row [iv op, iv m, .fv (.sl (ks.map Tm.enc))] false), (71303169, .row [iv 0, iv 0, .nils] false), (71304199, .row (cellsT done r) false), (71304201, .row [iv op, iv m, .slc (.own 71304199) 3 ks.length] false)], []⟩
set_option maxRecDepth 20000 in
set_option maxHeartbeats 1000000 in
theorem eta_ok : ∀ (n : Nat) (t : Tm) (k : Nat), t.sc k → 2 * t.wt + 25 < n → k + 2 * t.wt ≤ 90000000 → AnsF (SS dt n 68 [.fv t.enc] ⟨[], []⟩) t.eta.enc := by
  intro n
  induction n with
  | zero => intro t k _ h; omega
  | succ n ih =>
    intro t k hs hn hw
    have hes := eta_sc t k hs (by omega)
    have hwk := sc_wk t k hs
    obtain ⟨op, m, ks⟩ := t
    rw [Tm.sc] at hs
    rw [Tm.wk] at hwk
    simp only [Tm.wt] at hn hw
    rw [c68, enc_mk]
    have hlen := wt_len ks
    have hkd := etaL_sc op 0 ks k hs.2.2 (by omega)
    simp only [S68_125, S68_126, S68_127, S68_128, S68_129, S68_130, S68_131, S68_132, S68_133, S68_134, S68_135, S68_137, S68_138, S68_139, S68_140, S68, ↓XX, ↓reduceIte, Nat.reduceBEq, decide_true, decide_false, Bool.not_true, Bool.not_false, List.map_cons, List.map_nil, List.length_map, List.length_cons, List.length_nil, Nat.reduceAdd, Int.cast_ofNat_Int, Int.natCast_zero, Int.natCast_one, Bool.false_eq_true, Bool.true_eq_false, decide_eq_true_eq, eq_self, Int.reduceEq, Int.reduceLT, Int.reduceLE, Bool.and_true, Bool.true_and, Bool.and_false, Bool.false_and, Nat.zero_add, ↓mk_t (show ks.length ≤ 1000 by omega), ↓drop_e, XD, heldB, flatD, List.any_cons, List.any_nil, List.all_cons, List.all_nil, List.filter_cons, List.filter_nil, List.contains_cons, List.contains_nil, Bool.or_false, Bool.or_true, Bool.false_or, Bool.true_or, Bool.and_self, Bool.not_eq_true, BEq.rfl, beq_self_eq_true, flat_t, names_t]
    have hR : (Tm.mk op m ks).eta = if op = 4 then fnP (.mk 4 m (setZ (Tm.etaL ks))) else if op = 7 then prP (.mk 7 m (setZ (Tm.etaL ks))) else .mk op m (Tm.etaL ks) := by rw [Tm.eta]
    rw [hR]
    refine loop_run (Q := fun r => AnsF r _) (fun j V H => ∃ (pre rest done : List Tm), ks = pre ++ rest ∧ rest.length = j ∧ done.length = pre.length ∧
        V = [.ptr (.own 71303168) 0, .ptr (.own 71303169) 0, .ptr (.own 71304201) 0, .fv (.sl (ks.map Tm.enc)), iv ks.length, iv pre.length] ∧
        H = Heta op m ks done rest.length ∧ done ++ Tm.etaL rest = Tm.etaL ks)
      ?_ n ks.length _ _ (by omega) ⟨[], ks, [], rfl, rfl, rfl, rfl, rfl, rfl⟩
    rintro j V H rec ⟨pre, rest, done, hks, hl, hdl, rfl, rfl, hts⟩ hrec
    have hkl : ks.length = pre.length + rest.length := by rw [hks]; simp
    cases rest with
    | nil =>
      have hno : ¬ ((pre.length : Int) < ks.length) := by rw [hkl]; simp
      rw [Tm.etaL, List.append_nil] at hts
      have hdk : ks.length = done.length := by rw [hdl, hkl]; simp
      rw [← hts] at hkd ⊢
      rw [List.length_nil]
      by_cases h4 : op = 4
      · subst h4
        rw [if_pos rfl]
        have h2 : ks.length = 2 := by have := hs.1; rw [show ar 4 = some 2 by decide] at this; simp only [Option.some.injEq] at this; omega
        have hd2 : done.length = 2 := by omega
        match done, hd2, hdk, hkd with
        | [a, b], _, hdk, hkd =>
          simp only [Tm.scL, Tm.wtL] at hkd
          have hb1 : bindN 4 1 = 1 := by decide
          have hbs := hkd.1.2.1
          rw [hb1] at hbs
          have hfn := function_ok (n := n) (K := k + 1) (op := 4) (m := m) (z := zeroTm) (b := b) (by omega) (fun h5 => by
            have := sc_kids hbs h5 (show ar 5 = some 2 by decide)
            match hbk : b.kids, this with
            | [f, x], _ => exact ⟨f, x, rfl⟩) (sc_wk b _ hbs) (by omega) hbs (by omega)
          rw [setZ]
          rw [enc_mk] at hfn
          generalize fnP (.mk 4 m [zeroTm, b]) = y at hfn
          obtain ⟨o5, p5, k5⟩ := y
          rw [enc_mk] at hfn
          rw [enc_mk]
          have h02 : 0 < ks.length := by omega
          have hi := fun (own own' : List (Nat × Blk)) (hlk : lookupOwn 71304199 own = some (.row (iv 11 :: iv 0 :: .nils :: (cellsF [b]).map .fv) false)) (ho : putOwn 71304199 (.row (iv 11 :: iv 0 :: .nils :: (cellsF [b]).map .fv) true) own = own') => iso_1z hfn hlk (by simp) ho
          simp only [S68_125, S68_126, S68_127, S68_128, S68_129, S68_130, S68_131, S68_132, S68_133, S68_134, S68_135, S68_136, S68_137, S68_138, S68_139, S68_140, S68, ↓XX, ↓reduceIte, Nat.reduceBEq, decide_true, decide_false, Bool.not_true, Bool.not_false, List.map_cons, List.map_nil, List.length_map, List.length_cons, List.length_nil, Nat.reduceAdd, Int.cast_ofNat_Int, Int.natCast_zero, Int.natCast_one, Bool.false_eq_true, Bool.true_eq_false, decide_eq_true_eq, eq_self, Int.reduceEq, Int.reduceLT, Int.reduceLE, Bool.and_true, Bool.true_and, Bool.and_false, Bool.false_and, Nat.zero_add, hno, ↓ix_sl30 h02, ↓blz, ↓scz]
          rw [show ks.length = [b].length + 1 by rw [h2]; rfl]
          rw [hi _ _ (by rfl) (by rfl)]
          simp only [↓XX, ↓reduceIte, Nat.reduceBEq, decide_true, decide_false, Bool.not_true, Bool.not_false, List.map_cons, List.map_nil, List.length_map, List.length_cons, List.length_nil, Nat.reduceAdd, Int.cast_ofNat_Int, Int.natCast_zero, Int.natCast_one, Bool.false_eq_true, Bool.true_eq_false, decide_eq_true_eq, eq_self, Int.reduceEq, Int.reduceLT, Int.reduceLE, Bool.and_true, Bool.true_and, Bool.and_false, Bool.false_and, Nat.zero_add, ↓po_hit, ↓po_miss]
          exact ansf_fv _ _
      · rw [if_neg h4]
        by_cases h7 : op = 7
        · subst h7
          rw [if_pos rfl]
          have h2 : ks.length = 3 := by have := hs.1; rw [show ar 7 = some 3 by decide] at this; simp only [Option.some.injEq] at this; omega
          have hd2 : done.length = 3 := by omega
          match done, hd2, hdk, hkd with
          | [a, b, c], _, hdk, hkd =>
            simp only [Tm.scL, Tm.wtL] at hkd
            have hb1 : bindN 7 1 = 0 := by decide
            have hb2 : bindN 7 2 = 0 := by decide
            have hbs := hkd.1.2.1
            have hcs := hkd.1.2.2.1
            rw [hb1] at hbs
            rw [hb2] at hcs
            have hfn := pair_ok (n := n) (op := 7) (m := m) (z := zeroTm) (a := b) (b := c) (by omega) (fun h5 => by
              have := sc_kids hbs h5 (show ar 8 = some 1 by decide)
              match hbk : b.kids, this with
              | [f], _ => exact ⟨f, rfl⟩) (fun h5 => by
              have := sc_kids hcs h5 (show ar 9 = some 1 by decide)
              match hbk : c.kids, this with
              | [f], _ => exact ⟨f, rfl⟩) (by omega)
            rw [setZ]
            rw [enc_mk] at hfn
            generalize prP (.mk 7 m [zeroTm, b, c]) = y at hfn
            obtain ⟨o5, p5, k5⟩ := y
            rw [enc_mk] at hfn
            rw [enc_mk]
            have h02 : 0 < ks.length := by omega
            have hi := fun (own own' : List (Nat × Blk)) (hlk : lookupOwn 71304199 own = some (.row (iv 11 :: iv 0 :: .nils :: (cellsF [b, c]).map .fv) false)) (ho : putOwn 71304199 (.row (iv 11 :: iv 0 :: .nils :: (cellsF [b, c]).map .fv) true) own = own') => iso_1z hfn hlk (by simp) ho
            simp only [S68_125, S68_126, S68_127, S68_128, S68_129, S68_130, S68_131, S68_132, S68_133, S68_134, S68_135, S68_136, S68_137, S68_138, S68_139, S68_140, S68, ↓XX, ↓reduceIte, Nat.reduceBEq, decide_true, decide_false, Bool.not_true, Bool.not_false, List.map_cons, List.map_nil, List.length_map, List.length_cons, List.length_nil, Nat.reduceAdd, Int.cast_ofNat_Int, Int.natCast_zero, Int.natCast_one, Bool.false_eq_true, Bool.true_eq_false, decide_eq_true_eq, eq_self, Int.reduceEq, Int.reduceLT, Int.reduceLE, Bool.and_true, Bool.true_and, Bool.and_false, Bool.false_and, Nat.zero_add, hno, ↓ix_sl30 h02, ↓blz, ↓scz]
            rw [show ks.length = [b, c].length + 1 by rw [h2]; rfl]
            rw [hi _ _ (by rfl) (by rfl)]
            simp only [↓XX, ↓reduceIte, Nat.reduceBEq, decide_true, decide_false, Bool.not_true, Bool.not_false, List.map_cons, List.map_nil, List.length_map, List.length_cons, List.length_nil, Nat.reduceAdd, Int.cast_ofNat_Int, Int.natCast_zero, Int.natCast_one, Bool.false_eq_true, Bool.true_eq_false, decide_eq_true_eq, eq_self, Int.reduceEq, Int.reduceLT, Int.reduceLE, Bool.and_true, Bool.true_and, Bool.and_false, Bool.false_and, Nat.zero_add, ↓po_hit, ↓po_miss]
            exact ansf_fv _ _
        · rw [if_neg h7, enc_mk]
          simp only [S68_125, S68_126, S68_127, S68_128, S68_129, S68_130, S68_131, S68_132, S68_133, S68_134, S68_135, S68_136, S68_137, S68_138, S68_139, S68_140, S68, ↓XX, ↓reduceIte, Nat.reduceBEq, decide_true, decide_false, Bool.not_true, Bool.not_false, List.map_cons, List.map_nil, List.length_map, List.length_cons, List.length_nil, Nat.reduceAdd, Int.cast_ofNat_Int, Int.natCast_zero, Int.natCast_one, Bool.false_eq_true, Bool.true_eq_false, decide_eq_true_eq, eq_self, Int.reduceEq, Int.reduceLT, Int.reduceLE, Bool.and_true, Bool.true_and, Bool.and_false, Bool.false_and, Nat.zero_add, hno, h4, h7]
          rw [hdk]
          exact ⟨_, _, rfl, _, _, fun e0 K => fz_tm (by rfl) (by omega) [] e0 K⟩
    | cons x rest =>
      have hi : (pre.length : Int) < ks.length := by rw [hkl]; simp; omega
      have hg2 := at_pre hks
      have hxw := wt_mem (t := x) (l := ks) (by rw [hks]; simp)
      have hxs := sc_get hs.2.2 hg2
      rw [Nat.zero_add] at hxs
      have hble := bindN_le op pre.length
      have hs5 := ih x _ hxs (by omega) (by omega)
      have hwi : w64 ((pre.length : Int) + 1) = ((pre ++ [x]).length : Int) := (w64_id (by omega) (by omega)).trans (by simp)
      have hin : pre.length < ks.length := by omega
      rw [Tm.etaL] at hts
      generalize x.eta = y at hs5 hts
      have hst := fun {β : Type} => set_t (β := β) done rest.length y.op y.n y.kids
      rw [hdl] at hst
      obtain ⟨o, p, l⟩ := x
      obtain ⟨o2, p2, l2⟩ := y
      simp only [Tm.op, Tm.n, Tm.kids] at hst
      rw [enc_mk, enc_mk] at hs5
      simp only [List.length_cons] at hl
      simp only [S68_125, S68_126, S68_127, S68_128, S68_129, S68_130, S68_131, S68_132, S68_133, S68_134, S68_135, S68_136, S68_137, S68_138, S68_139, S68_140, S68, ↓XX, ↓reduceIte, Nat.reduceBEq, decide_true, decide_false, Bool.not_true, Bool.not_false, List.map_cons, List.map_nil, List.length_map, List.length_cons, List.length_nil, Nat.reduceAdd, Int.cast_ofNat_Int, Int.natCast_zero, Int.natCast_one, Bool.false_eq_true, Bool.true_eq_false, decide_eq_true_eq, eq_self, Int.reduceEq, Int.reduceLT, Int.reduceLE, Bool.and_true, Bool.true_and, Bool.and_false, Bool.false_and, Nat.zero_add, hi, ↓ix_f (map_get hg2) (agg3l _ _ _), ↓agg3, hwi, ↓iso_1 (ansf hs5), ↓ix_sl3 hin, ↓hst, ↓drop_e, XD, heldB, flatD, List.any_cons, List.any_nil, List.all_cons, List.all_nil, List.filter_cons, List.filter_nil, List.contains_cons, List.contains_nil, Bool.or_false, Bool.or_true, Bool.false_or, Bool.true_or, Bool.and_self, Bool.not_eq_true, BEq.rfl, beq_self_eq_true, flat_t, names_t]
      exact hrec rest.length _ _ (by omega) ⟨pre ++ [.mk o p l], rest, done ++ [.mk o2 p2 l2], by rw [hks]; simp, rfl, by simp [hdl], rfl, rfl, by rw [← hts]; simp⟩
end Idl
end Go.Proofs.Ytaifgaidaglblaa

namespace Go.Proofs.Ytaifgaidaglblaa
namespace Idl
theorem knum_ar {op : Int} {r : Nat} (h : ar op = some r) : ¬ (0 ≤ knum op ∧ knum op ≠ (r : Int)) := by
  unfold knum
  by_cases h1 : op = 8 ∨ op = 9 ∨ op = 12 ∨ op = 19 ∨ op = 30
  · rw [if_pos h1]
    rcases h1 with rfl | rfl | rfl | rfl | rfl <;> (cases (show r = 1 from by have := h; revert this; simp [ar]; omega); decide)
  · rw [if_neg h1]
    by_cases h2 : op = 4 ∨ op = 5
    · rw [if_pos h2]
      rcases h2 with rfl | rfl <;> (cases (show r = 2 from by have := h; revert this; simp [ar]; omega); decide)
    · rw [if_neg h2]
      by_cases h7 : op = 7
      · subst h7
        cases (show r = 3 from by have := h; revert this; simp [ar]; omega); decide
      · rw [if_neg h7]
        by_cases h13 : op = 13
        · subst h13
          cases (show r = 4 from by have := h; revert this; simp [ar]; omega); decide
        · rw [if_neg h13]; omega
mutual
theorem sc_shaped : ∀ (t : Tm) (k : Nat), t.sc k → t.shaped = true
  | .mk op n ks, k, h => by
    rw [Tm.sc] at h
    rw [Tm.shaped, scL_shaped op 0 ks k h.2.2]
    have h1 := knum_ar h.1
    have h2 : ¬ (op = 1 ∧ n < 0) := by
      rintro ⟨rfl, h3⟩
      have := h.2.1
      rw [if_pos rfl] at this
      omega
    rw [decide_eq_false h1, decide_eq_false h2]
    rfl
theorem scL_shaped : ∀ (op : Int) (i : Nat) (l : List Tm) (k : Nat), Tm.scL op i l k → Tm.shapedL l = true
  | _, _, [], _, _ => by rw [Tm.shapedL]
  | op, i, t :: l, k, h => by
    rw [Tm.scL] at h
    rw [Tm.shapedL, sc_shaped t _ h.1, scL_shaped op (i + 1) l k h.2]
    rfl
end
theorem peta_ok {n : Nat} {t : Tm} {k : Nat} (hs : t.sc k) (hn : 2 * t.wt + 26 < n) (hw : k + 2 * t.wt ≤ 90000000) : Ans (SS dt n 56 [.fv t.enc] ⟨[], []⟩) t.eta.enc := by
  obtain ⟨n, rfl⟩ : ∃ k, n = k + 1 := ⟨n - 1, by omega⟩
  rw [c56]
  have h1 := shaped_ok n t (by omega) (by omega)
  rw [sc_shaped t k hs] at h1
  have h2 := ansf (eta_ok n t k hs (by omega) hw)
  generalize t.eta = y at h2
  obtain ⟨o, p, l⟩ := t
  obtain ⟨o2, p2, l2⟩ := y
  rw [enc_mk] at h1
  rw [enc_mk, enc_mk] at h2 ⊢
  simp only [S56_37, S56_38, S56, ↓XX, ↓reduceIte, Nat.reduceBEq, decide_true, decide_false, Bool.not_true, Bool.not_false, List.map_cons, List.map_nil, List.length_map, List.length_cons, List.length_nil, Nat.reduceAdd, Int.cast_ofNat_Int, Int.natCast_zero, Int.natCast_one, Bool.false_eq_true, Bool.true_eq_false, decide_eq_true_eq, eq_self, Int.reduceEq, Int.reduceLT, Int.reduceLE, Bool.and_true, Bool.true_and, Bool.and_false, Bool.false_and, Nat.zero_add, ↓iso_1 h1, ↓iso_1 h2]
  exact ans_fv _ _
end Idl
end Go.Proofs.Ytaifgaidaglblaa

namespace Go.Proofs.Ytaifgaidaglblaa
namespace Idl
theorem kp_fsame (ih : Handler) (xs : List IV) (h0 : Hp) (k : IV → Hp → List Ref → List Ref → Option (IV × Hp)) : dynS EE ih (.fv (.func (.func 40) [] [])) xs h0 k = isoS [] false false ih 40 xs h0 k :=
  keep0 (by kernel_rfl) (by kernel_rfl) (by kernel_rfl) (by kernel_rfl) ..
def fEnc (u : Tm) (e : Int) : FV := .agg [.int .i64 u.op, .int .i64 u.n, .sl (u.kids.map Tm.enc), .int .i64 e]
theorem of_ok {F n : Nat} {t v : Tm} (h : formB F t = some v) (hn : F + 9100 ≤ n) : Ans (SS dt n 39 [.fv t.enc] ⟨[], []⟩) (fEnc v 0) := by
  obtain ⟨u, h1, h2, h3, h4, rfl⟩ := formB_ok h
  obtain ⟨n, rfl⟩ : ∃ k, n = k + 1 := ⟨n - 1, by omega⟩
  rw [c39]
  have hN := normP_ok (n := n) h1 (by omega) (by omega) (by omega)
  have hE := peta_ok (n := n) h2 (by omega) (by omega)
  generalize u.eta = w at hE ⊢
  obtain ⟨o1, n1, k1⟩ := t
  obtain ⟨o2, n2, k2⟩ := u
  obtain ⟨o3, n3, k3⟩ := w
  simp only [enc_mk, fEnc, Tm.op, Tm.n, Tm.kids] at hN hE ⊢
  simp only [S39_42, S39_43, S39_44, S39, ↓XX, ↓reduceIte, Nat.reduceBEq, decide_true, decide_false, Bool.not_true, Bool.not_false, List.map_cons, List.map_nil, List.length_map, List.length_cons, List.length_nil, Nat.reduceAdd, Int.cast_ofNat_Int, Int.natCast_zero, Int.natCast_one, Bool.false_eq_true, Bool.true_eq_false, decide_eq_true_eq, eq_self, Int.reduceEq, Int.reduceLT, Int.reduceLE, Bool.and_true, Bool.true_and, Bool.and_false, Bool.false_and, Nat.zero_add, ↓iso_1 hN, ↓iso_1 hE]; exact ans_fv _ _
theorem fsame_ok {n : Nat} (u v : Tm) (e1 e2 : Int) (hn : 2 * u.wt + 4 < n) (hw : u.wt ≤ 100000000) : Ans (SS dt n 40 [.fv (fEnc u e1), .fv (fEnc v e2)] ⟨[], []⟩) (.bool (u.same v)) := by
  obtain ⟨n, rfl⟩ : ∃ k, n = k + 1 := ⟨n - 1, by omega⟩
  rw [c40]
  have h := psame_ok n u v (by omega) hw
  generalize u.same v = b at h ⊢
  obtain ⟨o1, n1, k1⟩ := u
  obtain ⟨o2, n2, k2⟩ := v
  simp only [enc_mk, fEnc, Tm.op, Tm.n, Tm.kids] at h ⊢
  simp only [S40_21, S40, ↓XX, ↓reduceIte, Nat.reduceBEq, decide_true, decide_false, Bool.not_true, Bool.not_false, List.map_cons, List.map_nil, List.length_map, List.length_cons, List.length_nil, Nat.reduceAdd, Int.cast_ofNat_Int, Int.natCast_zero, Int.natCast_one, Bool.false_eq_true, Bool.true_eq_false, decide_eq_true_eq, eq_self, Int.reduceEq, Int.reduceLT, Int.reduceLE, Bool.and_true, Bool.true_and, Bool.and_false, Bool.false_and, Nat.zero_add, ↓iso_2 h]; exact ans_fv _ _
theorem equal_ok {F n : Nat} {t s u v : Tm} (h1 : formB F t = some u) (h2 : formB F s = some v) (hn : F + 9200 ≤ n) : Ans (SS dt n 16 [.fv t.enc, .fv s.enc] ⟨[], []⟩) (.tuple [.bool (u.same v), .int .i64 0]) := by
  obtain ⟨n, rfl⟩ : ∃ k, n = k + 1 := ⟨n - 1, by omega⟩
  rw [c16]
  have a := of_ok (n := n) h1 (by omega)
  have b := of_ok (n := n) h2 (by omega)
  obtain ⟨u0, _, hu1, hu2, _, hu3⟩ := formB_ok h1
  have hw := (eta_sc u0 9 hu1 (by omega)).2
  rw [← hu3] at hw
  have c := fsame_ok (n := n) u v 0 0 (by omega) (by omega)
  generalize u.same v = q at c ⊢
  obtain ⟨o1, n1, k1⟩ := t
  obtain ⟨o2, n2, k2⟩ := s
  obtain ⟨o3, n3, k3⟩ := u
  obtain ⟨o4, n4, k4⟩ := v
  simp only [enc_mk, fEnc, Tm.op, Tm.n, Tm.kids] at a b c ⊢
  simp only [S16_59, S16_60, S16_61, S16_62, S16_63, S16_64, S16_65, S16_66, S16, ↓XX, ↓reduceIte, Nat.reduceBEq, decide_true, decide_false, Bool.not_true, Bool.not_false, List.map_cons, List.map_nil, List.length_map, List.length_cons, List.length_nil, Nat.reduceAdd, Int.cast_ofNat_Int, Int.natCast_zero, Int.natCast_one, Bool.false_eq_true, Bool.true_eq_false, decide_eq_true_eq, eq_self, Int.reduceEq, Int.reduceLT, Int.reduceLE, Bool.and_true, Bool.true_and, Bool.and_false, Bool.false_and, Nat.zero_add, ↓iso_1 a, ↓iso_1 b, ↓kp_fsame, ↓iso_2 c]; first | exact ans_fv _ _ | exact ans_t rfl (by simp) _
end Idl
end Go.Proofs.Ytaifgaidaglblaa

namespace Go.Proofs.Ytaifgaidaglblaa
namespace Idl
theorem known6_run (n : Nat) : isTrueN (SS dt (n + 100) 10 [] ⟨[], []⟩) = true := by kernel_rfl
theorem known6_ok {n : Nat} (h : 100 ≤ n) : Ans (SS dt n 10 [] ⟨[], []⟩) (.bool true) := by
  obtain ⟨k, rfl⟩ : ∃ k, n = k + 100 := ⟨n - 100, by omega⟩
  exact ans_trueN (known6_run k)
theorem within6_ok {n : Nat} (hn : 0 < n) (x : Int) {m : Int} (h1 : 0 < m) (h2 : m ≤ 4611686018427387904) : Ans (SS dt n 28 [iv x, iv m] ⟨[], []⟩) (.int .i64 (x % m)) := by
  obtain ⟨n, rfl⟩ := Nat.exists_eq_add_of_lt hn
  rw [Nat.zero_add, c28]
  simp only [S28, ↓XX, ↓reduceIte, Nat.reduceBEq, decide_true, decide_false, Bool.not_true, Bool.not_false, List.map_cons, List.map_nil, List.length_map, List.length_cons, List.length_nil, Nat.reduceAdd, Int.cast_ofNat_Int, Int.natCast_zero, Int.natCast_one, Bool.false_eq_true, Bool.true_eq_false, decide_eq_true_eq, eq_self, Int.reduceEq, Int.reduceLT, Int.reduceLE, Bool.and_true, Bool.true_and, Bool.and_false, Bool.false_and, Nat.zero_add, ↓rem_s (show m ≠ 0 by omega)]
  rw [← emod_w h1 h2]
  by_cases hc : x.tmod m < 0 <;> simp only [hc, if_true, if_false] <;> exact ans_fv _ _
theorem eq_b (a b : Bool) (k : IV → Option (IV × Hp)) : eqS EE 4 (.fv (.bool a)) (.fv (.bool b)) k = k (.fv (.bool (a == b))) := eq_sb a b (by kernel_rfl) k
theorem nat6_ok {n : Nat} (hn : 1 < n) : Ans (SS dt n 32 [] ⟨[], []⟩) (Tm.mk 10 0 []).enc := by
  obtain ⟨n, rfl⟩ : ∃ k, n = k + 1 := ⟨n - 1, by omega⟩
  rw [c32]
  have t := t0_ok (n := n) (by omega) 10
  rw [enc_mk] at t ⊢
  simp only [S32, ↓XX, ↓reduceIte, Nat.reduceBEq, decide_true, decide_false, Bool.not_true, Bool.not_false, List.map_cons, List.map_nil, List.length_map, List.length_cons, List.length_nil, Nat.reduceAdd, Int.cast_ofNat_Int, Int.natCast_zero, Int.natCast_one, Bool.false_eq_true, Bool.true_eq_false, decide_eq_true_eq, eq_self, Int.reduceEq, Int.reduceLT, Int.reduceLE, Bool.and_true, Bool.true_and, Bool.and_false, Bool.false_and, Nat.zero_add, ↓iso_2 t]; exact ans_fv _ _
theorem plus6_ok {n : Nat} (a b : Tm) (hn : 2 < n) : Ans (SS dt n 31 [.fv a.enc, .fv b.enc] ⟨[], []⟩) (pT a b).enc := by
  obtain ⟨n, rfl⟩ : ∃ k, n = k + 1 := ⟨n - 1, by omega⟩
  rw [c31]
  have h1 := nat6_ok (n := n) (by omega)
  have h2 := v_ok (n := n) (by omega) 0
  have h3 := t_ok (n := n) (by omega) 12 [.mk 1 0 []]
  have h4 := t_ok (n := n) (by omega) 13 [.mk 10 0 [], b, .mk 12 0 [.mk 1 0 []], a]
  rw [pT]
  obtain ⟨o1, n1, k1⟩ := a
  obtain ⟨o2, n2, k2⟩ := b
  simp only [List.map_cons, List.map_nil, enc_mk] at h1 h2 h3 h4 ⊢
  simp only [S31_47, S31_48, S31_49, S31_50, S31, ↓XX, ↓reduceIte, Nat.reduceBEq, decide_true, decide_false, Bool.not_true, Bool.not_false, List.map_cons, List.map_nil, List.length_map, List.length_cons, List.length_nil, Nat.reduceAdd, Int.cast_ofNat_Int, Int.natCast_zero, Int.natCast_one, Bool.false_eq_true, Bool.true_eq_false, decide_eq_true_eq, eq_self, Int.reduceEq, Int.reduceLT, Int.reduceLE, Bool.and_true, Bool.true_and, Bool.and_false, Bool.false_and, Nat.zero_add, ↓iso_0 h1, ↓iso_1 h2, ↓bs1_g, ↓iso_2 h3, ↓bs4_g, ↓iso_2 h4]; exact ans_fv _ _
theorem eq6_ok {n : Nat} {t s : Tm} {b : Bool} (h : eqB 200 t s b = true) (hn : 9500 ≤ n) : Ans (SS dt n 30 [.fv t.enc, .fv s.enc] ⟨[], []⟩) (.bool b) := by
  obtain ⟨n, rfl⟩ : ∃ k, n = k + 1 := ⟨n - 1, by omega⟩
  rw [c30]
  obtain ⟨u, v, h1, h2, rfl⟩ := eqB_ok h
  have c := equal_ok (n := n) h1 h2 (by omega)
  generalize u.same v = b at c ⊢
  obtain ⟨o1, n1, k1⟩ := t
  obtain ⟨o2, n2, k2⟩ := s
  simp only [enc_mk] at c ⊢
  simp only [S30_28, S30, ↓XX, ↓reduceIte, Nat.reduceBEq, decide_true, decide_false, Bool.not_true, Bool.not_false, List.map_cons, List.map_nil, List.length_map, List.length_cons, List.length_nil, Nat.reduceAdd, Int.cast_ofNat_Int, Int.natCast_zero, Int.natCast_one, Bool.false_eq_true, Bool.true_eq_false, decide_eq_true_eq, eq_self, Int.reduceEq, Int.reduceLT, Int.reduceLE, Bool.and_true, Bool.true_and, Bool.and_false, Bool.false_and, Nat.zero_add, ↓iso_2 c]; exact ans_fv _ _
set_option maxRecDepth 20000 in
set_option maxHeartbeats 2000000 in
theorem equalSums_ok (x y z : Int) : ∃ N, AnsV (SS dt N 6 [.fv (.int .i64 x), .fv (.int .i64 y), .fv (.int .i64 z)] ⟨[], []⟩) (.bool true) := by
  refine ⟨10000 + 1, ?_⟩
  generalize hn : 10000 = n
  rw [c6]
  have hk := known6_ok (n := n) (by omega)
  have ex : ∀ x : Int, ∃ j : Fin 12, Ans (SS dt n 28 [iv x, iv 12] ⟨[], []⟩) (.int .i64 ((j.val : Nat) : Int)) := by
    intro x
    have h1 := Int.emod_nonneg x (show (12 : Int) ≠ 0 by decide)
    have h2 := Int.emod_lt_of_pos x (show (0 : Int) < 12 by decide)
    refine ⟨⟨(x % 12).toNat, by omega⟩, ?_⟩
    have hw := within6_ok (n := n) (by omega) x (m := 12) (by decide) (by decide)
    rw [show (((x % 12).toNat : Nat) : Int) = x % 12 by omega]
    exact hw
  obtain ⟨a, wa⟩ := ex x
  obtain ⟨b, wb⟩ := ex y
  obtain ⟨c, wc⟩ := ex z
  have na := num_ok (n := n) a.val (by omega) (by omega)
  have nb := num_ok (n := n) b.val (by omega) (by omega)
  have nc := num_ok (n := n) c.val (by omega) (by omega)
  have v0 := v_ok (n := n) (by omega) 0
  have t11 := t0_ok (n := n) (by omega) 11
  have p1 := plus6_ok (n := n) (tnum a) (tnum b) (by omega)
  have p2 := plus6_ok (n := n) (tnum b) (tnum a) (by omega)
  have p3 := plus6_ok (n := n) (pT (tnum a) (tnum b)) (tnum c) (by omega)
  have p4 := plus6_ok (n := n) (tnum b) (tnum c) (by omega)
  have p5 := plus6_ok (n := n) (tnum a) (pT (tnum b) (tnum c)) (by omega)
  have p6 := plus6_ok (n := n) (tnum a) (.mk 1 0 []) (by omega)
  have p7 := plus6_ok (n := n) (.mk 11 0 []) (tnum a) (by omega)
  have p8 := plus6_ok (n := n) (pT (.mk 11 0 []) (tnum a)) (.mk 1 0 []) (by omega)
  have p9 := plus6_ok (n := n) (.mk 1 0 []) (tnum a) (by omega)
  have e1 := eq6_ok (n := n) (sums1 a b) (by omega)
  have e2 := eq6_ok (n := n) (sums2 a b c) (by omega)
  have e3 := eq6_ok (n := n) (sums3 a) (by omega)
  have e4 := eq6_ok (n := n) (sums4 a) (by omega)
  have e5 := eq6_ok (n := n) (sums5 a b c) (by omega)
  have wab : w64 ((a.val : Int) + (b.val : Int)) = ((a.val + b.val : Nat) : Int) := (w64_id (by omega) (by omega)).trans (by simp)
  have hb : decide (((a.val + b.val : Nat) : Int) = (c.val : Int)) = decide (a.val + b.val = c.val) := by
    by_cases h : a.val + b.val = c.val
    · rw [decide_eq_true h, decide_eq_true (by omega)]
    · rw [decide_eq_false h, decide_eq_false (by omega)]
  generalize tnum a.val = ta at na p1 p2 p3 p4 p5 p6 p7 p8 p9 e1 e2 e3 e4 e5
  generalize tnum b.val = tb at nb p1 p2 p3 p4 p5 e1 e2 e5
  generalize tnum c.val = tc at nc p3 p4 p5 e2 e5
  generalize decide (a.val + b.val = c.val) = q at hb e5
  generalize pT ta tb = s1 at p1 p3 e1 e2 e5
  generalize pT tb ta = s2 at p2 e1
  generalize pT s1 tc = s3 at p3 e2
  generalize pT tb tc = s4 at p4 p5 e2
  generalize pT ta s4 = s5 at p5 e2
  generalize pT ta (.mk 1 0 []) = s6 at p6 e3 e4
  generalize pT (.mk 11 0 []) ta = s7 at p7 p8 e3
  generalize pT s7 (.mk 1 0 []) = s8 at p8 e3
  generalize pT (.mk 1 0 []) ta = s9 at p9 e4
  obtain ⟨oa, ma, ka⟩ := ta
  obtain ⟨ob, mb, kb⟩ := tb
  obtain ⟨oc, mc, kc⟩ := tc
  obtain ⟨o1, m1, k1⟩ := s1
  obtain ⟨o2, m2, k2⟩ := s2
  obtain ⟨o3, m3, k3⟩ := s3
  obtain ⟨o4, m4, k4⟩ := s4
  obtain ⟨o5, m5, k5⟩ := s5
  obtain ⟨o6, m6, k6⟩ := s6
  obtain ⟨o7, m7, k7⟩ := s7
  obtain ⟨o8, m8, k8⟩ := s8
  obtain ⟨o9, m9, k9⟩ := s9
  simp only [List.map_nil, enc_mk] at na nb nc v0 t11 p1 p2 p3 p4 p5 p6 p7 p8 p9 e1 e2 e3 e4 e5
  simp only [S6_322, S6_323, S6_324, S6_325, S6_326, S6_327, S6_328, S6_329, S6_330, S6_331, S6_332, S6_333, S6_334, S6_335, S6_336, S6_337, S6_338, S6_339, S6_340, S6_341, S6_342, S6, ↓XX, ↓reduceIte, Nat.reduceBEq, decide_true, decide_false, Bool.not_true, Bool.not_false, List.map_cons, List.map_nil, List.length_map, List.length_cons, List.length_nil, Nat.reduceAdd, Int.cast_ofNat_Int, Int.natCast_zero, Int.natCast_one, Bool.false_eq_true, Bool.true_eq_false, decide_eq_true_eq, eq_self, Int.reduceEq, Int.reduceLT, Int.reduceLE, Bool.and_true, Bool.true_and, Bool.and_false, Bool.false_and, Nat.zero_add, ↓iso_0 hk, ↓iso_2 wa, ↓iso_2 wb, ↓iso_2 wc, ↓iso_1 na, ↓iso_1 nb, ↓iso_1 nc, ↓iso_1 v0, ↓iso_2 t11, ↓iso_2 p1, ↓iso_2 p2, ↓iso_2 p3, ↓iso_2 p4, ↓iso_2 p5, ↓iso_2 p6, ↓iso_2 p7, ↓iso_2 p8, ↓iso_2 p9, ↓iso_2 e1, ↓iso_2 e2, ↓iso_2 e3, ↓iso_2 e4, ↓iso_2 e5, ↓eq_b, BEq.rfl, wab, hb]
  exact ansv
end Idl
end Go.Proofs.Ytaifgaidaglblaa


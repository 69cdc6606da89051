/-
  THE IDEAL SEMANTICS AND MEMORY: operations, second part.
-/
import Derived.Test.YtbkdidonegggdaaIdl5
namespace Go.Proofs.Ytbkdidonegggdaa
namespace Idl

section
variable {E : Env} {μ : Ref → Nat} {w : World} {F : Prot} {hp hp' : Hp} {slots : List IV} {a : Act} {ih : Handler} {f : FuncId} {rid i k : Nat} {m : Made} {o : Oper}

theorem op_move (hr : HR μ w F hp) (hs : SlotsR μ w F hp slots a.tmps) {x : Operand} (ho : o.op = .move x ∨ o.op = .assign x)
    (h : (val (operand slots x)).run hp = some m) (h' : heapOf k hp m = some hp') : OpOk μ w F hp m.eff.val hp' ((execOp a.eval o).run E.P w) := by
  obtain ⟨e1, rfl⟩ := val_case h h'
  rw [e1]
  refine .val hr (operand_R hs x) ?_
  rcases ho with ho | ho <;> simp [execOp, ho]

theorem op_pick (hr : HR μ w F hp) (hs : SlotsR μ w F hp slots a.tmps) {c x y : Operand} (ho : o.op = .pick c x y)
    (h : (opR E ih f rid i slots o.op).run hp = some m) (h' : heapOf k hp m = some hp') : OpOk μ w F hp m.eff.val hp' ((execOp a.eval o).run E.P w) := by
  simp only [ho, opR, opG] at h
  split at h
  · rename_i t ht
    obtain ⟨e1, rfl⟩ := val_case h h'
    have hc := operand_R hs c
    rw [ht] at hc
    cases hc with | fv _ _ hc =>
    generalize hcv : a.eval c = cv at hc
    cases hc
    rw [e1]
    refine .val hr (x := if t then a.eval x else a.eval y) ?_ ?_
    · cases t
      · exact operand_R hs y
      · exact operand_R hs x
    · simp [execOp, ho, asBool, hcv]
  · exact fail_case h

theorem op_alloc (hE : EnvOk E) (hr : HR μ w F hp) {t : TypeId} (ho : o.op = .alloc t)
    (h : (opR E ih f rid i slots o.op).run hp = some m) (h' : heapOf (site f rid i) hp m = some hp') : OpOk μ w F hp m.eff.val hp' ((execOp a.eval o).run E.P w) := by
  simp only [ho, opR, opG] at h
  split at h
  · rename_i ti ht
    simp only [Rd.run, Option.some.injEq] at h
    subst h
    have hT := hE.types t ti ht
    obtain ⟨z, hz, hz1, hz2, _⟩ := zero_of hT
    simp only [heapOf, newOf, laid, Option.bind_some] at h'
    split at h'
    · cases h'
    rename_i hk
    simp only [Option.some.injEq] at h'
    subst h'
    obtain ⟨μ', F', h1, h2, h3⟩ := alloc_row hr (site f rid i) hk z.cells t ti.zero (by rw [← hz1]; simp) (fun j x hx => by
      rw [← hz1] at hx
      simp only [List.getElem?_map, Option.map_eq_some_iff, Array.getElem?_toList] at hx
      obtain ⟨c, hc, rfl⟩ := hx
      rw [Array.getD_eq_getD_getElem?, hc]
      exact const1_R c)
    refine ⟨.pointer (some ⟨w.heap.size, 0, none⟩), _, μ', F', .inl ?_, h1, h2, ?_⟩
    · simp [execOp, ho, Instr.alloc, hz, newVar, newRow]
    · rw [← h3]; exact .ptr _ _ ⟨_, _, get_set_own _ _ _⟩
  · exact fail_case h

theorem op_box (hr : HR μ w F hp) (hs : SlotsR μ w F hp slots a.tmps) {t : TypeId} {x : Operand} (ho : o.op = .box t x)
    (h : (opR E ih f rid i slots o.op).run hp = some m) (h' : heapOf (site f rid i) hp m = some hp') : OpOk μ w F hp m.eff.val hp' ((execOp a.eval o).run E.P w) := by
  simp only [ho, opR, opG] at h
  have hx := operand_R hs x
  have hrun : (execOp a.eval o).run E.P w = .ok (.value (.pointer (some ⟨w.heap.size, 0, none⟩))) (w.alloc (.cells (a.eval x).cells t)) := by
    simp [execOp, ho, Instr.box, newVar, newRow]
  split at h
  · exact fail_case h
  rename_i hal
  have hal : (operand slots x).alive = true := by simpa using hal
  obtain ⟨hc1, hc2⟩ := cells_R hx hal
  split at h
  · obtain ⟨⟨vs, u⟩, e1, e2⟩ := Rd.run_bind_some h
    simp only [Rd.run, Option.some.injEq] at e2
    subst e2
    simp only [heapOf] at h'
    cases hl : laid hp u with
    | none => rw [hl] at h'; cases h'
    | some hp1 =>
      rw [hl] at h'
      simp only [Option.bind_some, newOf, Option.some.injEq] at h'
      subst h'
      obtain ⟨m1, l1, r1⟩ := (frz_ok hr 4096).2 _ (fun j => (a.eval x).cells.getD j undef) vs u hc2 e1
      obtain ⟨s1, hr1⟩ := marks_stp hr m1 hl
      obtain ⟨s2, hr2⟩ := alloc_froz hr1 (a.eval x).cells t
      refine ⟨_, _, μ, _, .inl hrun, s1.trans s2, hr2, .fv _ _ ?_⟩
      have := RF.fp (w := w.alloc (.cells (a.eval x).cells t)) (F := fun c i => addF μ u F c i ∨ (c = w.heap.size ∧ i < (a.eval x).cells.size)) vs 0 w.heap.size 0 (fun j => (a.eval x).cells.getD j undef)
        (fun j hj => .inr ⟨rfl, by omega⟩)
        (fun j hj => by
          rw [World.cell?_alloc_new, Nat.zero_add, Array.getElem?_eq_getElem (by omega)]; simp [show j < (a.eval x).cells.size by omega])
        (fun j c hc => (r1 j c hc).mono s2.ws s2.sub)
      simpa using this
  · simp only [Rd.run, Option.some.injEq] at h
    subst h
    simp only [heapOf, newOf, laid, Option.bind_some] at h'
    split at h'
    · cases h'
    rename_i hk
    simp only [Option.some.injEq] at h'
    subst h'
    obtain ⟨μ', F', h1, h2, h3⟩ := alloc_row hr (site f rid i) hk (a.eval x).cells t (operand slots x).cells (by omega) hc2
    refine ⟨_, _, μ', F', .inl hrun, h1, h2, ?_⟩
    rw [← h3]; exact .ptr _ _ ⟨_, _, get_set_own _ _ _⟩

theorem op_load (hE : EnvOk E) (hr : HR μ w F hp) (hs : SlotsR μ w F hp slots a.tmps) {t : TypeId} {x : Operand} (ho : o.op = .load t x)
    (h : (opR E ih f rid i slots o.op).run hp = some m) (h' : heapOf k hp m = some hp') : OpOk μ w F hp m.eff.val hp' ((execOp a.eval o).run E.P w) := by
  simp only [ho, opR, opG] at h
  have hx := operand_R hs x
  split at h
  · exact fail_case h
  rename_i ti ht
  have hT := hE.types t ti ht
  split at h
  · rename_i r off hxe
    rw [hxe] at hx
    generalize hxv : a.eval x = xv at hx
    cases hx with | ptr _ _ hrow =>
    obtain ⟨b, hb, h⟩ := Rd.run_get_some h
    cases b with
    | tok => exact fail_case h
    | map => exact fail_case h
    | row cells ro =>
      obtain ⟨e1, rfl⟩ := valO_case h h'
      obtain ⟨c, e, hw, hlen, hcell, _⟩ := hr.blk _ _ hb
      have hlt := takeVar_lt e1 (size_one hT)
      refine .val hr (takeVar_R e1 (f := fun j => c.getD j undef) hcell) ?_
      simp only [execOp, ho, hxv, Instr.loadAt, Instr.sureAddr, Sem.run_bind, Sem.run_pure, Result.andThen_ok]
      rw [run_loadVar' hT (μ r) off (fun j => c.getD (off + j) undef) (fun j hj => by rw [cell_row hw, Array.getElem?_eq_getElem (by omega)]; simp [show off + j < c.size by omega])]
      cases ti.kind.isAgg <;> simp
  · rename_i cells off hxe
    rw [hxe] at hx
    generalize hxv : a.eval x = xv at hx
    cases hx with | fv _ _ hx =>
    cases hx with | fp _ _ b base vs hF hc hcs =>
    obtain ⟨e1, rfl⟩ := valO_case h h'
    simp only [Option.map_eq_some_iff] at e1
    obtain ⟨v, e1, e2⟩ := e1
    have hlt := takeVarF_lt e1 (size_one hT)
    rw [← e2]
    refine .val hr (.fv _ _ (takeVarF_R e1 (f := vs) hcs)) ?_
    simp only [execOp, ho, hxv, Instr.loadAt, Instr.sureAddr, Sem.run_bind, Sem.run_pure, Result.andThen_ok]
    rw [run_loadVar' hT b (base + off) (fun j => vs (off + j)) (fun j hj => by rw [Nat.add_assoc]; exact hc _ (by omega))]
    cases ti.kind.isAgg <;> simp
  · exact fail_case h

theorem setCells_length : ∀ (vs cs : List IV) (off : Nat), (setCells cs off vs).length = cs.length
  | [], _, _ => rfl
  | v :: l, cs, off => by simp [setCells, setCells_length l]
theorem setCells_get : ∀ (vs cs : List IV) (off j : Nat), (setCells cs off vs)[j]? = if off ≤ j ∧ j < off + vs.length ∧ j < cs.length then vs[j - off]? else cs[j]?
  | [], cs, off, j => by
    rw [if_neg (by simp; omega)]; rfl
  | v :: l, cs, off, j => by
    rw [setCells, setCells_get l (cs.set off v) (off + 1) j, List.length_set]
    by_cases h1 : off = j
    · subst h1
      rw [if_neg (by omega)]
      by_cases h2 : off < cs.length
      · rw [if_pos (by simp; omega)]; simp [h2]
      · rw [if_neg (by omega), List.getElem?_eq_none (by simp; omega), List.getElem?_eq_none (by omega)]
    · by_cases h2 : off + 1 ≤ j ∧ j < off + 1 + l.length ∧ j < cs.length
      · rw [if_pos h2, if_pos (by simp; omega), show j - off = (j - (off + 1)) + 1 by omega]; simp
      · rw [if_neg h2, if_neg (by simp; omega), List.getElem?_set_ne h1]

/-- A row with other cells in a part of it. -/
theorem row_part (c vs : Array Value) (off : Nat) (h : off + vs.size ≤ c.size) :
    (c.toList.take off ++ vs.toList ++ c.toList.drop (off + vs.size)).toArray.size = c.size ∧
    ∀ j, (c.toList.take off ++ vs.toList ++ c.toList.drop (off + vs.size)).toArray.getD j undef = if off ≤ j ∧ j < off + vs.size then vs.getD (j - off) undef else c.getD j undef := by
  refine ⟨by simp; omega, fun j => ?_⟩
  simp only [Array.getD_eq_getD_getElem?, List.getElem?_toArray]
  have hl : (c.toList.take off).length = off := by simp; omega
  by_cases h1 : j < off
  · rw [if_neg (by omega), List.append_assoc, List.getElem?_append_left (by omega), List.getElem?_take, if_pos h1]; simp
  · by_cases h2 : j < off + vs.size
    · rw [if_pos (by omega), List.append_assoc, List.getElem?_append_right (by omega), hl, List.getElem?_append_left (by simp; omega)]; simp
    · rw [if_neg (by omega), List.getElem?_append_right (by simp; omega), List.getElem?_drop]
      simp only [List.length_append, hl, Array.length_toList, Array.getElem?_toList]
      rw [show off + vs.size + (j - (off + vs.size)) = j by omega]

theorem op_store (hE : EnvOk E) (hr : HR μ w F hp) (hs : SlotsR μ w F hp slots a.tmps) {t : TypeId} {x y : Operand} (ho : o.op = .store t x y)
    (h : (opR E ih f rid i slots o.op).run hp = some m) (h' : heapOf k hp m = some hp') : OpOk μ w F hp m.eff.val hp' ((execOp a.eval o).run E.P w) := by
  simp only [ho, opR, opG] at h
  have hx := operand_R hs x
  have hy := operand_R hs y
  split at h
  · exact fail_case h
  rename_i ti ht
  have hT := hE.types t ti ht
  split at h
  · rename_i r off hxe
    rw [hxe] at hx
    generalize hxv : a.eval x = xv at hx
    cases hx with | ptr _ _ hrow =>
    obtain ⟨b, hb, h⟩ := Rd.run_get_some h
    cases b with
    | tok => exact fail_case h
    | map => exact fail_case h
    | row cells ro =>
      cases ro with
      | true => exact fail_case h
      | false =>
        simp only at h
        split at h
        · rename_i hc
          obtain ⟨hal, hsz, hoff, hone, _⟩ := hc
          simp only [Rd.run, Option.some.injEq] at h
          subst h
          simp only [heapOf, newOf, laid, hb, Option.bind_some, Option.some.injEq] at h'
          subst h'
          obtain ⟨hc1, hc2⟩ := cells_R hy hal
          obtain ⟨c, e, hw, hlen, hcell, _⟩ := hr.blk _ _ hb
          obtain ⟨hp1, hp2⟩ := row_part c (a.eval y).cells off (by omega)
          have hrun := run_storeCells_at (P := E.P) (μ r) off e (a.eval y).cells.toList 0 c w hw (by simp; omega) (fun v hv => by
            obtain ⟨j, hj, rfl⟩ := List.getElem_of_mem hv
            simp only [Array.length_toList] at hj
            have hj' : j < (operand slots y).cells.length := by omega
            have := hc2 j _ (List.getElem?_eq_getElem hj')
            rw [Array.getD_eq_getD_getElem?, Array.getElem?_eq_getElem hj] at this
            simp only [Option.getD_some] at this
            simp only [Array.getElem_toList]
            exact one_R this (List.all_eq_true.1 hone _ (List.getElem_mem hj')))
          simp only [Nat.add_zero, Array.length_toList] at hrun
          obtain ⟨s1, s2⟩ := store_stp hr r cells (setCells cells off (operand slots y).cells) c _ e hb hw hp1 (by rw [setCells_length, hp1]; exact hlen) (fun j z hz => by
            rw [hp2]
            rw [setCells_get] at hz
            split at hz
            · rename_i hj
              rw [if_pos (by omega)]
              exact hc2 _ _ hz
            · rename_i hj
              have hjl : j < cells.length := (List.getElem?_eq_some_iff.1 hz).1
              rw [if_neg (by omega)]
              exact hcell _ _ hz)
          refine ⟨undef, _, μ, F, .inr ⟨?_, rfl⟩, s1, s2, .dead _⟩
          simp only [execOp, ho, hxv, Instr.storeAt, Instr.sureAddr, storeVar, Sem.run_bind, Sem.run_pure, Result.andThen_ok, run_sizeOf' hT]
          rw [if_neg (by omega)]
          simp only [hrun, Result.andThen_ok]
        · exact fail_case h
  · exact fail_case h

theorem op_nilCheck (hr : HR μ w F hp) (hs : SlotsR μ w F hp slots a.tmps) {x : Operand} (ho : o.op = .nilCheck x)
    (h : (opR E ih f rid i slots o.op).run hp = some m) (h' : heapOf k hp m = some hp') : OpOk μ w F hp m.eff.val hp' ((execOp a.eval o).run E.P w) := by
  simp only [ho, opR, opG] at h
  have hx := operand_R hs x
  generalize hxv : a.eval x = xv at hx
  split at h
  · rename_i r off hxe
    obtain ⟨e1, rfl⟩ := val_case h h'
    rw [hxe] at hx; rw [e1]
    cases hx with | ptr _ _ hg =>
    exact .val hr (.ptr r off hg) (by simp [execOp, ho, hxv])
  · rename_i cs off hxe
    obtain ⟨e1, rfl⟩ := val_case h h'
    rw [hxe] at hx; rw [e1]
    cases hx with | fv _ _ hx =>
    cases hx with | fp _ _ b base vs h1 h2 h3 =>
    exact .val hr (.fv _ _ (.fp cs off b base vs h1 h2 h3)) (by simp [execOp, ho, hxv])
  · rename_i g p q hxe
    obtain ⟨e1, rfl⟩ := val_case h h'
    rw [hxe] at hx; rw [e1]
    cases hx with | func _ _ _ y z h1 h2 h3 h4 =>
    exact .val hr (.func _ p q y z h1 h2 h3 h4) (by simp [execOp, ho, hxv])
  · rename_i g p q hxe
    obtain ⟨e1, rfl⟩ := val_case h h'
    rw [hxe] at hx; rw [e1]
    cases hx with | fv _ _ hx =>
    cases hx with | func _ _ _ y z h1 h2 h3 h4 =>
    exact .val hr (.fv _ _ (.func _ p q y z h1 h2 h3 h4)) (by simp [execOp, ho, hxv])
  · exact fail_case h

theorem eqGuard_plain {P : Program} {op : BinOp} {t : TypeId} {x y : Operand} {u v : Value} (h1 : u ≠ .nilIface) (h2 : ∀ cs, u ≠ .agg cs) : (eqGuard op t x y u v).run P w = .ok () w := by
  cases u <;> first | exact absurd rfl h1 | exact absurd rfl (h2 _) | (cases op <;> rfl)
theorem pureVal_run {P : Program} {s : Sem Value} {v : Value} (h : pureVal s = some v) : s.run P w = .ok v w := by
  cases s <;> simp only [pureVal, reduceCtorEq] at h
  cases h; rfl
theorem ofScal_R {v : Value} {x : IV} (h : ofScal v = some x) : R μ w F hp x v := by
  unfold ofScal at h
  split at h <;> simp only [Option.some.injEq, reduceCtorEq] at h
  · subst h; exact .fv _ _ (.bool _)
  · subst h; exact .fv _ _ (.int _ _)
  · subst h; exact .fv _ _ (.str _)
theorem eqOp_some {op : BinOp} {b : Bool} {v : IV} (h : eqOp op b = some v) : (op = .eql ∧ v = .fv (.bool b)) ∨ (op = .neq ∧ v = .fv (.bool !b)) := by
  unfold eqOp at h
  split at h <;> simp only [Option.some.injEq, reduceCtorEq] at h
  · exact .inl ⟨rfl, h.symm⟩
  · exact .inr ⟨rfl, h.symm⟩

/-- '==' and '!=' by what 'equal' answers. -/
theorem eq_run {P : Program} {op : BinOp} {t : TypeId} {u v : Value} {b : Bool} {iv : IV} (he : eqOp op b = some iv) (hq : (Op.equal t u v).run P w = .ok b w)
    (hb : ∀ op, op = .eql → binOp op t u v = (do pure (.bool (← Op.equal t u v)))) (hb' : ∀ op, op = .neq → binOp op t u v = (do pure (.bool (!(← Op.equal t u v))))) :
    ∃ x, (binOp op t u v).run P w = .ok x w ∧ R μ w F hp iv x := by
  rcases eqOp_some he with ⟨rfl, rfl⟩ | ⟨rfl, rfl⟩
  · exact ⟨.bool b, by rw [hb _ rfl]; simp [hq], .fv _ _ (.bool b)⟩
  · exact ⟨.bool !b, by rw [hb' _ rfl]; simp [hq], .fv _ _ (.bool _)⟩

theorem equalIn_bool {P : Program} {t : TypeId} (d : Nat) (h : P.underlying t = some .bool) (a b : Bool) : (Op.equalIn (d + 1) t (.bool a) (.bool b)).run P w = .ok (a == b) w := by
  simp [Op.equalIn, run_underlying h]
theorem equalIn_ptr {P : Program} {t e : TypeId} (d : Nat) (h : P.underlying t = some (.pointer e)) (p : Option Addr) : (Op.equalIn (d + 1) t (.pointer p) (.pointer none)).run P w = .ok p.isNone w := by
  cases p <;> simp [Op.equalIn, run_underlying h]
theorem equalIn_slice {P : Program} {t e : TypeId} (d : Nat) (h : P.underlying t = some (.slice e)) (p : Option Addr) (l c : Nat) : (Op.equalIn (d + 1) t (.slice p l c) (.slice none 0 0)).run P w = .ok p.isNone w := by
  cases p <;> simp [Op.equalIn, run_underlying h]
theorem equalIn_func {P : Program} {t : TypeId} {x y : Array TypeId} {v : Bool} (d : Nat) (h : P.underlying t = some (.func x y v)) (u : Value) (hu : u = .nilFunc ∨ ∃ fn p q, u = .func fn p q) :
    (Op.equalIn (d + 1) t u .nilFunc).run P w = .ok (match u with | .nilFunc => true | _ => false) w := by
  rcases hu with rfl | ⟨fn, p, q, rfl⟩ <;> simp [Op.equalIn, run_underlying h]
theorem equal_bool {P : Program} {t : TypeId} (h : P.underlying t = some .bool) (a b : Bool) : (Op.equal t (.bool a) (.bool b)).run P w = .ok (a == b) w := equalIn_bool 9999 h a b
theorem equal_ptr {P : Program} {t e : TypeId} (h : P.underlying t = some (.pointer e)) (p : Option Addr) : (Op.equal t (.pointer p) (.pointer none)).run P w = .ok p.isNone w := equalIn_ptr 9999 h p
theorem equal_slice {P : Program} {t e : TypeId} (h : P.underlying t = some (.slice e)) (p : Option Addr) (l c : Nat) : (Op.equal t (.slice p l c) (.slice none 0 0)).run P w = .ok p.isNone w := equalIn_slice 9999 h p l c
theorem equal_func {P : Program} {t : TypeId} {x y : Array TypeId} {v : Bool} (h : P.underlying t = some (.func x y v)) (u : Value) (hu : u = .nilFunc ∨ ∃ fn p q, u = .func fn p q) :
    (Op.equal t u .nilFunc).run P w = .ok (match u with | .nilFunc => true | _ => false) w := equalIn_func 9999 h u hu

theorem binR_ok (hE : EnvOk E) {op : BinOp} {t : TypeId} {x y : IV} {u v : Value} {iv : IV} (hx : R μ w F hp x u) (hy : R μ w F hp y v) (h : binR E op t x y = some iv) (p q : Operand) :
    ∃ z, (do eqGuard op t p q u v; binOp op t u v : Sem Value).run E.P w = .ok z w ∧ R μ w F hp iv z := by
  have guard : u ≠ .nilIface → (∀ cs, u ≠ .agg cs) → (∃ z, (binOp op t u v).run E.P w = .ok z w ∧ R μ w F hp iv z) → ∃ z, (do eqGuard op t p q u v; binOp op t u v : Sem Value).run E.P w = .ok z w ∧ R μ w F hp iv z :=
    fun h1 h2 ⟨z, h3, h4⟩ => ⟨z, by simp only [Sem.run_bind, eqGuard_plain h1 h2, Result.andThen_ok]; exact h3, h4⟩
  unfold binR at h
  split at h
  · cases hx with | fv _ _ hx =>
    cases hy with | fv _ _ hy =>
    cases hx; cases hy
    simp only [Option.bind_eq_some_iff] at h
    obtain ⟨z, h1, h2⟩ := h
    exact guard (by simp) (by simp) ⟨z, pureVal_run h1, ofScal_R h2⟩
  · cases hx with | fv _ _ hx =>
    cases hy with | fv _ _ hy =>
    cases hx; cases hy
    simp only [Option.bind_eq_some_iff] at h
    obtain ⟨z, h1, h2⟩ := h
    exact guard (by simp) (by simp) ⟨z, pureVal_run h1, ofScal_R h2⟩
  · cases hx with | fv _ _ hx =>
    cases hy with | fv _ _ hy =>
    cases hx; cases hy
    split at h
    · rename_i ht
      have hu := und_bool (hE.types _ _ ht)
      exact guard (by simp) (by simp) (eq_run h (equal_bool hu _ _) (fun op e => by subst e; rfl) (fun op e => by subst e; rfl))
    · cases h
  · cases hy with | fv _ _ hy =>
    cases hy
    split at h
    · rename_i ht
      obtain ⟨e, hu⟩ := und_ptr (hE.types _ _ ht)
      simp only [Option.bind_eq_some_iff] at h
      obtain ⟨b, hb, h⟩ := h
      have hp' : ∃ a, u = .pointer a ∧ b = a.isNone := by
        unfold isNilP at hb
        split at hb <;> simp only [Option.some.injEq, reduceCtorEq] at hb
        · cases hx with | fv _ _ hx => cases hx; exact ⟨none, rfl, hb.symm⟩
        · cases hx with | fv _ _ hx => cases hx; exact ⟨_, rfl, hb.symm⟩
        · cases hx; exact ⟨_, rfl, hb.symm⟩
      obtain ⟨p, rfl, rfl⟩ := hp'
      exact guard (by simp) (by simp) (eq_run h (equal_ptr hu p) (fun op e => by subst e; rfl) (fun op e => by subst e; rfl))
    · cases h
  · cases hy with | fv _ _ hy =>
    cases hy
    split at h
    · rename_i ht
      obtain ⟨e1, e2, e3, hu⟩ := und_func (hE.types _ _ ht)
      simp only [Option.bind_eq_some_iff] at h
      obtain ⟨b, hb, h⟩ := h
      have hp' : (u = .nilFunc ∨ ∃ fn p q, u = .func fn p q) ∧ b = (match u with | .nilFunc => true | _ => false) := by
        unfold isNilF at hb
        split at hb <;> simp only [Option.some.injEq, reduceCtorEq] at hb
        · cases hx with | fv _ _ hx => cases hx; exact ⟨.inl rfl, hb.symm⟩
        · cases hx with | fv _ _ hx => cases hx; exact ⟨.inr ⟨_, _, _, rfl⟩, hb.symm⟩
        · cases hx; exact ⟨.inr ⟨_, _, _, rfl⟩, hb.symm⟩
      obtain ⟨hu2, rfl⟩ := hp'
      have hq := equal_func (w := w) hu u hu2
      rcases hu2 with rfl | ⟨fn, p', q', rfl⟩
      · exact guard (by simp) (by simp) (eq_run h hq (fun op e => by subst e; rfl) (fun op e => by subst e; rfl))
      · exact guard (by simp) (by simp) (eq_run h hq (fun op e => by subst e; rfl) (fun op e => by subst e; rfl))
    · cases h
  · cases hy
    split at h
    · rename_i ht
      have hu := und_slice (hE.types _ _ ht)
      simp only [Option.bind_eq_some_iff] at h
      obtain ⟨b, hb, h⟩ := h
      have hp' : ∃ a l c, u = .slice a l c ∧ b = a.isNone := by
        unfold isNilS at hb
        split at hb <;> simp only [Option.some.injEq, reduceCtorEq] at hb
        · cases hx; exact ⟨_, _, _, rfl, hb.symm⟩
        · cases hx; exact ⟨_, _, _, rfl, hb.symm⟩
        · cases hx; exact ⟨_, _, _, rfl, hb.symm⟩
        · cases hx; exact ⟨_, _, _, rfl, hb.symm⟩
        · cases hx with | app _ _ _ hx => cases hx; exact ⟨_, _, _, rfl, hb.symm⟩
        · cases hx with | fv _ _ hx => cases hx; exact ⟨_, _, _, rfl, hb.symm⟩
      obtain ⟨p, l, c, rfl, rfl⟩ := hp'
      exact guard (by simp) (by simp) (eq_run h (equal_slice hu p l c) (fun op e => by subst e; rfl) (fun op e => by subst e; rfl))
    · cases h
  · cases h
end
end Idl
end Go.Proofs.Ytbkdidonegggdaa

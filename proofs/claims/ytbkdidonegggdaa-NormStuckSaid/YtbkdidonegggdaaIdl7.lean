/-
  THE IDEAL SEMANTICS AND MEMORY: operations, third part.
-/
import Derived.Test.YtbkdidonegggdaaIdl6
namespace Go.Proofs.Ytbkdidonegggdaa
namespace Idl

section
variable {E : Env} {μ : Ref → Nat} {w : World} {F : Prot} {hp hp' : Hp} {slots : List IV} {a : Act} {ih : Handler} {f : FuncId} {rid i k : Nat} {m : Made} {o : Oper}

theorem op_binOp (hE : EnvOk E) (hr : HR μ w F hp) (hs : SlotsR μ w F hp slots a.tmps) {op : BinOp} {t u : TypeId} {x y : Operand} (ho : o.op = .binOp op t x y u)
    (h : (opR E ih f rid i slots o.op).run hp = some m) (h' : heapOf k hp m = some hp') : OpOk μ w F hp m.eff.val hp' ((execOp a.eval o).run E.P w) := by
  simp only [ho, opR, opG] at h
  obtain ⟨e1, rfl⟩ := valO_case h h'
  obtain ⟨z, h1, h2⟩ := binR_ok hE (operand_R hs x) (operand_R hs y) e1 x y
  refine .val hr h2 ?_
  simp only [execOp, ho, Sem.run_bind] at h1 ⊢
  rw [h1]; rfl

theorem toScal_R {x : IV} {u v : Value} (h : R μ w F hp x u) (e : toScal x = some v) : u = v := by
  unfold toScal at e
  split at e <;> simp only [Option.some.injEq, reduceCtorEq] at e
  all_goals (cases h with | fv _ _ h => cases h; exact e)

theorem op_unOp (hr : HR μ w F hp) (hs : SlotsR μ w F hp slots a.tmps) {op : UnOp} {t : TypeId} {x : Operand} (ho : o.op = .unOp op t x)
    (h : (opR E ih f rid i slots o.op).run hp = some m) (h' : heapOf k hp m = some hp') : OpOk μ w F hp m.eff.val hp' ((execOp a.eval o).run E.P w) := by
  simp only [ho, opR, opG] at h
  obtain ⟨e1, rfl⟩ := valO_case h h'
  simp only [unR, Option.bind_eq_some_iff] at e1
  obtain ⟨v, h1, z, h2, h3⟩ := e1
  have hx := toScal_R (operand_R hs x) h1
  refine .val hr (ofScal_R h3) ?_
  simp only [execOp, ho, Sem.run_bind, hx, pureVal_run h2]
  rfl

/-- A frozen slice, as it lies. -/
theorem sl_inv {es : List FV} {x : Value} (h : RF w F (.sl es) x) :
    (es = [] ∧ ∃ a cap, x = .slice a 0 cap ∧ (a = none → cap = 0)) ∨ (es ≠ [] ∧ ∃ b base sz cap, ∃ vs : Nat → Nat → Value, x = .slice (some ⟨b, base, none⟩) es.length cap ∧ es.length ≤ cap ∧ (∀ e ∈ es, e.cells.length = sz) ∧
      (∀ i j, i < es.length → j < sz → F b (base + (i * sz + j))) ∧ (∀ i j, i < es.length → j < sz → w.cell? ⟨b, base + (i * sz + j), none⟩ = some (vs i j)) ∧
      (∀ i j e c, es[i]? = some e → e.cells[j]? = some c → RF w F c (vs i j))) := by
  cases h with
  | sl0 a cap h => exact .inl ⟨rfl, a, cap, rfl, h⟩
  | sl es b base sz cap vs h1 h2 h3 h4 h5 h6 => exact .inr ⟨h1, b, base, sz, cap, vs, rfl, h2, h3, h4, h5, h6⟩
theorem elemsOf_R {x : IV} {u : Value} {es : List FV} (h : R μ w F hp x u) (e : elemsOf x = some es) : RF w F (.sl es) u := by
  unfold elemsOf at e
  split at e <;> simp only [Option.some.injEq, reduceCtorEq] at e <;> subst e
  · cases h; exact .sl0 _ _ (fun _ => rfl)
  · cases h; exact .sl0 _ _ (fun h => by cases h)
  · cases h with
    | clip _ _ h => exact h
    | clip0 => exact .sl0 _ _ (fun _ => rfl)
  · cases h with | app _ _ _ h => exact h
  · cases h with | fv _ _ h => exact h
theorem headOk_sz {s sz : Nat} {es : List FV} (h : headOk s es = true) (hne : es ≠ []) (hu : ∀ e ∈ es, e.cells.length = sz) : sz = s := by
  cases es with
  | nil => exact absurd rfl hne
  | cons e l =>
    have h1 := hu e List.mem_cons_self
    simp only [headOk, beq_iff_eq] at h
    omega

theorem bytesOf_ints : ∀ {es : List FV} {s0 s : ByteArray}, bytesOf es s0 = some s → ∃ ns : List Int, es = ns.map (FV.int .u8) ∧ s = ns.foldl (fun r n => r.push (UInt8.ofNat n.toNat)) s0
  | [], _, _, h => by simp only [bytesOf, Option.some.injEq] at h; exact ⟨[], rfl, h.symm⟩
  | e :: es, s0, s, h => by
    cases e with
    | int k n =>
      cases k with
      | u8 =>
        obtain ⟨ns, h1, h2⟩ := bytesOf_ints (es := es) h
        exact ⟨n :: ns, by rw [h1]; rfl, h2⟩
      | _ => simp [bytesOf] at h
    | _ => simp [bytesOf] at h

theorem op_convert (hE : EnvOk E) (hr : HR μ w F hp) (hs : SlotsR μ w F hp slots a.tmps) {s d : TypeId} {x : Operand} (ho : o.op = .convert s d x)
    (h : (opR E ih f rid i slots o.op).run hp = some m) (h' : heapOf k hp m = some hp') : OpOk μ w F hp m.eff.val hp' ((execOp a.eval o).run E.P w) := by
  simp only [ho, opR, opG] at h
  obtain ⟨e1, rfl⟩ := valO_case h h'
  have hx := operand_R hs x
  generalize hxv : a.eval x = xv at hx
  unfold convR at e1
  split at e1
  · rename_i ts _ _ kd _ _ kk n hts htd hxe
    simp only [Option.some.injEq] at e1
    rw [hxe] at hx
    cases hx with | fv _ _ hx =>
    cases hx
    obtain ⟨ds, hds, _⟩ := (hE.types _ _ hts).desc
    have hdd := und_int (hE.types _ _ htd)
    rw [← e1]
    refine .val hr (.fv _ _ (.int _ _)) ?_
    simp [execOp, ho, hxv, convert, run_underlying hds, run_underlying hdd, Conv.intToInt]
  · rename_i ts _ _ _ st hts htd hxe
    simp only [Option.some.injEq] at e1
    rw [hxe] at hx
    cases hx with | fv _ _ hx =>
    cases hx
    obtain ⟨ds, hds, _⟩ := (hE.types _ _ hts).desc
    have hdd := und_str (hE.types _ _ htd)
    rw [← e1]
    refine .val hr (.fv _ _ (.str _)) ?_
    simp [execOp, ho, hxv, convert, run_underlying hds, run_underlying hdd]
  · rename_i e _ _ _ _ hts htd _
    split at e1
    · rename_i es hte hes
      simp only [Option.map_eq_some_iff] at e1
      obtain ⟨st, h1, h2⟩ := e1
      have hsl := elemsOf_R hx hes
      have hus := und_slice (hE.types _ _ hts)
      have hud := und_str (hE.types _ _ htd)
      have hue := und_int (hE.types _ _ hte)
      obtain ⟨ns, rfl, rfl⟩ := bytesOf_ints h1
      rw [← h2]
      refine .val hr (.fv _ _ (.str _)) ?_
      rcases sl_inv hsl with ⟨hn, p, cap, rfl, _⟩ | ⟨hne, b, base, sz, cap, vs, rfl, _, hu, _, hc, hrf⟩
      · have : ns = [] := by simpa using hn
        subst this
        simp only [execOp, ho, hxv, Sem.run_bind]
        rw [run_convert_bytes_string w s d e p 0 cap hus hue hud]
        cases p with
        | none => simp [Conv.bytesToString]
        | some p => rw [run_bytesToString w p 0 cap [] (by simp [loadCells, loadCellsFrom])]; rfl
      · have hsz : sz = 1 := by
          cases ns with
          | nil => exact absurd rfl hne
          | cons n ns => exact (hu (.int .u8 n) (by simp)).symm
        subst hsz
        simp only [execOp, ho, hxv, Sem.run_bind]
        rw [run_convert_bytes_string w s d e _ _ cap hus hue hud]
        rw [run_bytesToString w ⟨b, base, none⟩ _ cap ns (by
          have hl := run_loadCells_list (P := E.P) w ⟨b, base, none⟩ (ns.map (Value.int .u8)) (fun j v hv => by
            simp only [List.getElem?_map, Option.map_eq_some_iff] at hv
            obtain ⟨n, hn, rfl⟩ := hv
            have hj : j < ns.length := (List.getElem?_eq_some_iff.1 hn).1
            have h1 := hc j 0 (by simpa using hj) (by omega)
            have h2 := hrf j 0 (.int .u8 n) (.int .u8 n) (by simp [hn]) rfl
            have h3 : vs j 0 = .int .u8 n := by generalize vs j 0 = z at h2; cases h2; rfl
            rw [Addr.add_lit, show base + j = base + (j * 1 + 0) by omega, h1, h3])
          simpa using hl)]
        rfl
    · cases e1
  · cases e1

theorem list_ops_R (hs : SlotsR μ w F hp slots a.tmps) (xs : Array Operand) : ∀ j y, (xs.toList.map (operand slots))[j]? = some y → R μ w F hp y ((xs.map a.eval).getD j undef) := by
  intro j y hy
  simp only [List.getElem?_map, Option.map_eq_some_iff, Array.getElem?_toList] at hy
  obtain ⟨c, hc, rfl⟩ := hy
  rw [Array.getD_eq_getD_getElem?, Array.getElem?_map, hc]
  exact operand_R hs c

theorem op_makeFunc (hr : HR μ w F hp) (hs : SlotsR μ w F hp slots a.tmps) {fn : Fn} {x y : Array Operand} (ho : o.op = .makeFunc fn x y)
    (h : (opR E ih f rid i slots o.op).run hp = some m) (h' : heapOf k hp m = some hp') : OpOk μ w F hp m.eff.val hp' ((execOp a.eval o).run E.P w) := by
  simp only [ho, opR, opG] at h
  obtain ⟨e1, rfl⟩ := val_case h h'
  rw [e1]
  refine .val hr (mkFunc_R (a := x.map a.eval) (b := y.map a.eval) (by simp) (by simp) (list_ops_R hs x) (list_ops_R hs y)) ?_
  simp [execOp, ho, Instr.makeFunc]

theorem op_makeMap (hr : HR μ w F hp) {t : TypeId} (ho : o.op = .makeMap t none)
    (h : (opR E ih f rid i slots o.op).run hp = some m) (h' : heapOf (site f rid i) hp m = some hp') : OpOk μ w F hp m.eff.val hp' ((execOp a.eval o).run E.P w) := by
  simp only [ho, opR, opG, Rd.run, Option.some.injEq] at h
  subst h
  simp only [heapOf, newOf, laid, Option.bind_some] at h'
  split at h'
  · cases h'
  rename_i hk
  simp only [Option.some.injEq] at h'
  subst h'
  obtain ⟨h1, h2⟩ := alloc_stp hr (site f rid i) hk (.map #[] 0) (.map []) (fun _ _ _ h => by cases h) (fun _ => False)
  refine ⟨.map (some w.heap.size), _, _, _, .inl ?_, h1, h2 ⟨#[], 0, ?_, rfl, fun j n x hx => by simp at hx⟩, ?_⟩
  · simp [execOp, ho, Instr.makeMap]
  · rw [updMu_same, heap_push, if_pos rfl]
  · have := R.mapr (μ := updMu μ (.own (site f rid i)) w.heap.size) (w := w.alloc (.map #[] 0)) (F := fun c i => F c i ∨ (c = w.heap.size ∧ False)) (hp := hp.set (.own (site f rid i)) (.map [])) (.own (site f rid i)) ⟨_, get_set_own _ _ _⟩
    rw [updMu_same] at this
    exact this

theorem fieldR_inv (hE : EnvOk E) {s : TypeId} {n off : Nat} {ti : TI} (h : fieldR E s n = some (off, ti)) :
    ∃ fs fd, E.P.underlying s = some (.struct fs) ∧ fs[n]? = some fd ∧ fd.offset = off ∧ TIok E.P fd.type ti := by
  unfold fieldR at h
  split at h
  · rename_i fl _ hts
    simp only [Option.bind_eq_some_iff, Option.map_eq_some_iff] at h
    obtain ⟨⟨o1, t1⟩, h1, ti', h2, h3⟩ := h
    cases h3
    obtain ⟨fs, h4, h5⟩ := und_struct (hE.types _ _ hts)
    rw [← h5] at h1
    simp only [List.getElem?_map, Option.map_eq_some_iff, Array.getElem?_toList] at h1
    obtain ⟨fd, h6, h7⟩ := h1
    cases h7
    exact ⟨fs, fd, h4, h6, rfl, hE.types _ _ h2⟩
  · cases h

theorem op_fieldAddr (hE : EnvOk E) (hr : HR μ w F hp) (hs : SlotsR μ w F hp slots a.tmps) {s : TypeId} {x : Operand} {n : Nat} (ho : o.op = .fieldAddr s x n)
    (h : (opR E ih f rid i slots o.op).run hp = some m) (h' : heapOf k hp m = some hp') : OpOk μ w F hp m.eff.val hp' ((execOp a.eval o).run E.P w) := by
  simp only [ho, opR, opG] at h
  have hx := operand_R hs x
  generalize hxv : a.eval x = xv at hx
  split at h
  · rename_i off ti hf
    obtain ⟨fs, fd, h1, h2, h3, h4⟩ := fieldR_inv hE hf
    split at h
    · exact fail_case h
    rename_i hsz
    split at h
    · rename_i r p hxe
      obtain ⟨e1, rfl⟩ := val_case h h'
      rw [hxe] at hx; rw [e1]
      cases hx with | ptr _ _ hg =>
      refine .val hr (.ptr r (p + off) hg) ?_
      simp [execOp, ho, hxv, Instr.fieldAt, run_underlying h1, h2, Instr.sureAddr, fieldPlace, run_sizeOf' h4, hsz, Addr.add_lit, h3]
    · rename_i cs p hxe
      obtain ⟨e1, rfl⟩ := val_case h h'
      rw [hxe] at hx; rw [e1]
      cases hx with | fv _ _ hx =>
      cases hx with | fp _ _ b base vs h5 h6 h7 =>
      refine .val hr (.fv _ _ (.fp cs (p + off) b base vs h5 h6 h7)) ?_
      simp [execOp, ho, hxv, Instr.fieldAt, run_underlying h1, h2, Instr.sureAddr, fieldPlace, run_sizeOf' h4, hsz, Addr.add_lit, h3, Nat.add_assoc]
    · exact fail_case h
  · exact fail_case h

theorem run_part {P : Program} {t : TypeId} {ti : TI} (h : TIok P t ti) (cs : Array Value) (off : Nat) (hl : off + ti.size ≤ cs.size) :
    (part t cs off).run P w = .ok (if ti.kind.isAgg then .agg ((List.range ti.size).map fun j => cs.getD (off + j) undef).toArray else cs.getD off undef) w := by
  simp only [part, Sem.run_bind, run_isAgg' h, Result.andThen_ok]
  cases ha : ti.kind.isAgg with
  | true =>
    simp only [if_true, Sem.run_bind, run_sizeOf' h, Result.andThen_ok, Sem.run_pure]
    congr 2
    apply Array.ext
    · simp; omega
    · intro j h1 h2
      simp only [List.size_toArray, List.length_map, List.length_range] at h2
      simp [show off + j < cs.size by omega]
  | false =>
    have := size_one h ha
    simp [show off < cs.size by omega]

theorem op_field (hE : EnvOk E) (hr : HR μ w F hp) (hs : SlotsR μ w F hp slots a.tmps) {s : TypeId} {x : Operand} {n : Nat} (ho : o.op = .field s x n)
    (h : (opR E ih f rid i slots o.op).run hp = some m) (h' : heapOf k hp m = some hp') : OpOk μ w F hp m.eff.val hp' ((execOp a.eval o).run E.P w) := by
  simp only [ho, opR, opG] at h
  have hx := operand_R hs x
  generalize hxv : a.eval x = xv at hx
  split at h
  · rename_i off ti hf
    obtain ⟨fs, fd, h1, h2, h3, h4⟩ := fieldR_inv hE hf
    split at h
    · rename_i cs hxe
      obtain ⟨e1, rfl⟩ := valO_case h h'
      rw [hxe] at hx
      cases hx with | agg _ y hl hy =>
      have hlt := takeVar_lt e1 (size_one h4)
      refine .val hr (takeVar_R e1 (f := fun j => y.getD j undef) hy) ?_
      simp only [execOp, ho, hxv, Instr.field, run_underlying h1, h2, asAgg, Sem.run_bind, Result.andThen_ok, Sem.run_pure, h3]
      rw [run_part h4 y off (by omega)]
      rfl
    · rename_i cs hxe
      obtain ⟨e1, rfl⟩ := valO_case h h'
      simp only [Option.map_eq_some_iff] at e1
      obtain ⟨v, e1, e2⟩ := e1
      rw [hxe] at hx; rw [← e2]
      cases hx with | fv _ _ hx =>
      cases hx with | agg _ y hl hy =>
      have hlt := takeVarF_lt e1 (size_one h4)
      refine .val hr (.fv _ _ (takeVarF_R e1 (f := fun j => y.getD j undef) hy)) ?_
      simp only [execOp, ho, hxv, Instr.field, run_underlying h1, h2, asAgg, Sem.run_bind, Result.andThen_ok, Sem.run_pure, h3]
      rw [run_part h4 y off (by omega)]
      rfl
    · exact fail_case h
  · exact fail_case h

theorem op_indexAddr (hE : EnvOk E) (hr : HR μ w F hp) (hs : SlotsR μ w F hp slots a.tmps) {t : TypeId} {x y : Operand} (ho : o.op = .indexAddr t x y)
    (h : (opR E ih f rid i slots o.op).run hp = some m) (h' : heapOf k hp m = some hp') : OpOk μ w F hp m.eff.val hp' ((execOp a.eval o).run E.P w) := by
  simp only [ho, opR, opG] at h
  have hx := operand_R hs x
  have hy := operand_R hs y
  generalize hxv : a.eval x = xv at hx
  generalize hyv : a.eval y = yv at hy
  unfold indexR at h
  split at h
  · rename_i e _ kk n htt hye
    have hut := und_slice (hE.types _ _ htt)
    rw [hye] at hy
    cases hy with | fv _ _ hy =>
    cases hy
    split at h
    · exact fail_case h
    rename_i ei hte
    have hTe := hE.types _ _ hte
    split at h
    · rename_i r sz len hxe
      split at h
      · rename_i hc
        obtain ⟨h0, h1, h2⟩ := hc
        obtain ⟨e1, rfl⟩ := val_case h h'
        rw [hxe] at hx; rw [e1]
        cases hx with | slc _ _ _ cap hg hle =>
        refine .val hr (.ptr r _ hg) ?_
        simp [execOp, ho, hxv, hyv, Instr.indexAt, asIntOf, run_underlying hut, h0, h1, run_sizeOf' hTe, Addr.add_lit, h2]
      · exact fail_case h
    · split at h
      · exact fail_case h
      rename_i es hes
      split at h
      · exact fail_case h
      rename_i h0
      split at h
      · rename_i el hel
        split at h
        · rename_i hcl
          obtain ⟨e1, rfl⟩ := val_case h h'
          rw [e1]
          have hlt : n.toNat < es.length := (List.getElem?_eq_some_iff.1 hel).1
          rcases sl_inv (elemsOf_R hx hes) with ⟨rfl, _⟩ | ⟨hne, b, base, sz, cap, vs, rfl, hcap, hu, hF, hc, hrf⟩
          · simp at hlt
          have hsz : sz = ei.size := by rw [← hu el (List.mem_of_getElem? hel)]; exact hcl
          subst hsz
          have hR := RF.fp (w := w) (F := F) el.cells 0 b (base + n.toNat * ei.size) (fun j => vs n.toNat j)
            (fun j hj => by rw [Nat.add_assoc]; exact hF _ _ hlt (by omega)) (fun j hj => by rw [Nat.add_assoc]; exact hc _ _ hlt (by omega)) (fun j c hcj => hrf _ _ _ _ hel hcj)
          refine .val hr (.fv _ _ hR) ?_
          have h0' : 0 ≤ n := by omega
          have h1' : n < (es.length : Int) := by omega
          simp [execOp, ho, hxv, hyv, Instr.indexAt, asIntOf, run_underlying hut, h0', h1', run_sizeOf' hTe, Addr.add_lit]
        · exact fail_case h
      · exact fail_case h
  · rename_i len e _ kk n htt hye
    have hut := und_arr (hE.types _ _ htt)
    rw [hye] at hy
    cases hy with | fv _ _ hy =>
    cases hy
    split at h
    · exact fail_case h
    rename_i ei hte
    have hTe := hE.types _ _ hte
    split at h
    · rename_i hc
      obtain ⟨h0, h1⟩ := hc
      split at h
      · rename_i r p hxe
        obtain ⟨e1, rfl⟩ := val_case h h'
        rw [hxe] at hx; rw [e1]
        cases hx with | ptr _ _ hg =>
        refine .val hr (.ptr r _ hg) ?_
        simp [execOp, ho, hxv, hyv, Instr.indexAt, asIntOf, run_underlying hut, h0, h1, Instr.sureAddr, run_sizeOf' hTe, Addr.add_lit]
      · rename_i cs p hxe
        obtain ⟨e1, rfl⟩ := val_case h h'
        rw [hxe] at hx; rw [e1]
        cases hx with | fv _ _ hx =>
        cases hx with | fp _ _ b base vs h5 h6 h7 =>
        refine .val hr (.fv _ _ (.fp cs _ b base vs h5 h6 h7)) ?_
        simp [execOp, ho, hxv, hyv, Instr.indexAt, asIntOf, run_underlying hut, h0, h1, Instr.sureAddr, run_sizeOf' hTe, Addr.add_lit, Nat.add_assoc]
      · exact fail_case h
    · exact fail_case h
  · exact fail_case h

theorem op_index (hE : EnvOk E) (hr : HR μ w F hp) (hs : SlotsR μ w F hp slots a.tmps) {t : TypeId} {x y : Operand} (ho : o.op = .index t x y)
    (h : (opR E ih f rid i slots o.op).run hp = some m) (h' : heapOf k hp m = some hp') : OpOk μ w F hp m.eff.val hp' ((execOp a.eval o).run E.P w) := by
  simp only [ho, opR, opG] at h
  have hx := operand_R hs x
  have hy := operand_R hs y
  generalize hxv : a.eval x = xv at hx
  generalize hyv : a.eval y = yv at hy
  split at h
  · rename_i s kk n htt hxe hye
    have hut := und_str (hE.types _ _ htt)
    rw [hye] at hy; rw [hxe] at hx
    cases hy with | fv _ _ hy =>
    cases hy
    cases hx with | fv _ _ hx =>
    cases hx
    split at h
    · exact fail_case h
    rename_i h0
    split at h
    · rename_i b hb
      obtain ⟨e1, rfl⟩ := val_case h h'
      rw [e1]
      refine .val hr (.fv _ _ (.int _ _)) ?_
      have h0' : 0 ≤ n := by omega
      simp [execOp, ho, hxv, hyv, Instr.index, asIntOf, run_underlying hut, h0', hb]
    · exact fail_case h
  · rename_i len e _ cs kk n htt hxe hye
    have hut := und_arr (hE.types _ _ htt)
    rw [hye] at hy; rw [hxe] at hx
    cases hy with | fv _ _ hy =>
    cases hy
    cases hx with | fv _ _ hx =>
    cases hx with | agg _ z hl hz =>
    split at h
    · rename_i ei hte
      have hTe := hE.types _ _ hte
      split at h
      · rename_i hc
        obtain ⟨h0, h1⟩ := hc
        obtain ⟨e1, rfl⟩ := valO_case h h'
        simp only [Option.map_eq_some_iff] at e1
        obtain ⟨v, e1, e2⟩ := e1
        rw [← e2]
        have hlt := takeVarF_lt e1 (size_one hTe)
        refine .val hr (.fv _ _ (takeVarF_R e1 (f := fun j => z.getD j undef) hz)) ?_
        simp only [execOp, ho, hxv, hyv, Instr.index, asIntOf, run_underlying hut, Sem.run_bind, Sem.run_pure, Result.andThen_ok, h0, h1, and_self, if_true, run_sizeOf' hTe]
        rw [run_part hTe z _ (by omega)]
        rfl
      · exact fail_case h
    · exact fail_case h
  · exact fail_case h

theorem op_extract (hr : HR μ w F hp) (hs : SlotsR μ w F hp slots a.tmps) {x : Operand} {n : Nat} (ho : o.op = .extract x n)
    (h : (opR E ih f rid i slots o.op).run hp = some m) (h' : heapOf k hp m = some hp') : OpOk μ w F hp m.eff.val hp' ((execOp a.eval o).run E.P w) := by
  simp only [ho, opR, opG] at h
  have hx := operand_R hs x
  generalize hxv : a.eval x = xv at hx
  split at h
  · rename_i vs hxe
    obtain ⟨e1, rfl⟩ := valO_case h h'
    rw [hxe] at hx
    cases hx with | tuple _ y hl hy =>
    have hlt : n < vs.length := (List.getElem?_eq_some_iff.1 e1).1
    refine .val hr (hy n _ e1) ?_
    simp [execOp, ho, hxv, Instr.extract, show n < y.size by omega]
  · rename_i vs hxe
    obtain ⟨e1, rfl⟩ := valO_case h h'
    simp only [Option.map_eq_some_iff] at e1
    obtain ⟨v, e1, e2⟩ := e1
    rw [hxe] at hx; rw [← e2]
    cases hx with | fv _ _ hx =>
    cases hx with | tuple _ y hl hy =>
    have hlt : n < vs.length := (List.getElem?_eq_some_iff.1 e1).1
    refine .val hr (.fv _ _ (hy n _ e1)) ?_
    simp [execOp, ho, hxv, Instr.extract, show n < y.size by omega]
  · exact fail_case h
end
end Idl
end Go.Proofs.Ytbkdidonegggdaa

/-
  THE IDEAL SEMANTICS AND MEMORY: operations, fourth part: composites, slices, maps.
-/
import Derived.Test.YtbkdidonegggdaaIdl7
namespace Go.Proofs.Ytbkdidonegggdaa
namespace Idl

section
variable {E : Env} {μ : Ref → Nat} {w : World} {F : Prot} {hp hp' : Hp} {slots : List IV} {a : Act} {ih : Handler} {f : FuncId} {rid i k : Nat} {m : Made} {o : Oper}

/-- Cells, as they lie in an array of just as many. -/
def Lie (μ : Ref → Nat) (w : World) (F : Prot) (hp : Hp) (cells : List IV) (arr : Array Value) : Prop :=
  cells.length = arr.size ∧ ∀ j x, cells[j]? = some x → R μ w F hp x (arr.getD j undef)

theorem foldl_set (off : Nat) : ∀ (l : List Value) (n : Nat) (arr : Array Value), off + n + l.length ≤ arr.size →
    ((l.zipIdx n).foldl (fun cs (p : Value × Nat) => cs.setIfInBounds (off + p.2) p.1) arr).size = arr.size ∧
    ∀ j, ((l.zipIdx n).foldl (fun cs (p : Value × Nat) => cs.setIfInBounds (off + p.2) p.1) arr).getD j undef = if off + n ≤ j ∧ j < off + n + l.length then l.getD (j - (off + n)) undef else arr.getD j undef
  | [], n, arr, _ => ⟨rfl, fun j => by rw [if_neg (by simp)]; rfl⟩
  | v :: l, n, arr, h => by
    simp only [List.length_cons] at h
    simp only [List.zipIdx_cons, List.foldl_cons]
    obtain ⟨h1, h2⟩ := foldl_set off l (n + 1) (arr.setIfInBounds (off + n) v) (by simp; omega)
    refine ⟨by rw [h1]; simp, fun j => ?_⟩
    rw [h2]
    by_cases c1 : off + (n + 1) ≤ j ∧ j < off + (n + 1) + l.length
    · rw [if_pos c1, if_pos (by simp; omega), show j - (off + n) = (j - (off + (n + 1))) + 1 by omega]; simp
    · rw [if_neg c1]
      by_cases c2 : j = off + n
      · subst c2
        rw [if_pos (by simp), Array.getD_eq_getD_getElem?, Array.getElem?_setIfInBounds]
        simp [show off + n < arr.size by omega]
      · rw [if_neg (by simp; omega), Array.getD_eq_getD_getElem?, Array.getElem?_setIfInBounds, if_neg (fun e => c2 e.symm), ← Array.getD_eq_getD_getElem?]

theorem fill_R (pI pC : Nat → Option (Nat × Nat)) (hpl : ∀ n q, pI n = some q → pC n = some q) (hs : SlotsR μ w F hp slots a.tmps) : ∀ (ps : List (Nat × Operand)) (cells cells' : List IV) (arr : Array Value),
    fillIn pI cells (ps.map fun p => (p.1, operand slots p.2)) = some cells' → Lie μ w F hp cells arr →
    ∃ arr', Instr.fill pC arr (ps.map fun p => (p.1, a.eval p.2)) = some arr' ∧ Lie μ w F hp cells' arr'
  | [], cells, cells', arr, h, hl => by
    simp only [List.map_nil, fillIn, Option.some.injEq] at h
    subst h
    exact ⟨arr, rfl, hl⟩
  | (n, x) :: ps, cells, cells', arr, h, hl => by
    simp only [List.map_cons, fillIn] at h
    split at h
    · cases h
    rename_i off size hq
    split at h
    · rename_i hc
      obtain ⟨hal, hsz, hle⟩ := hc
      obtain ⟨hc1, hc2⟩ := cells_R (operand_R hs x) hal
      obtain ⟨g1, g2⟩ := foldl_set off (a.eval x).cells.toList 0 arr (by rw [← hl.1]; simp; omega)
      have hnew : Lie μ w F hp (setCells cells off (operand slots x).cells) (((a.eval x).cells.toList.zipIdx 0).foldl (fun cs (p : Value × Nat) => cs.setIfInBounds (off + p.2) p.1) arr) := by
        refine ⟨by rw [setCells_length, g1]; exact hl.1, fun j y hy => ?_⟩
        rw [g2]
        rw [setCells_get] at hy
        have hla := hl.1
        split at hy
        · rename_i hj
          rw [if_pos (by simp; omega)]
          have := hc2 _ _ hy
          simpa [Array.getD_eq_getD_getElem?] using this
        · rename_i hj
          have hjl : j < cells.length := (List.getElem?_eq_some_iff.1 hy).1
          rw [if_neg (by simp; omega)]
          exact hl.2 _ _ hy
      obtain ⟨arr', r1, r2⟩ := fill_R pI pC hpl hs ps _ _ _ h hnew
      refine ⟨arr', ?_, r2⟩
      simp only [List.map_cons, Instr.fill, hpl _ _ hq]
      rw [if_neg (by simp; rw [← hl.1]; omega), ← r1]
      congr 1
      rw [← Array.foldl_toList, Array.toList_zipIdx]
    · cases h

theorem zero_lie {t : TypeId} {ti : TI} {P : Program} (h : TIok P t ti) : ∃ i z, P.info? t = some i ∧ i.zero = some z ∧ Lie μ w F hp ti.zero z.cells ∧ ti.zero.length = ti.size ∧ i.size = ti.size := by
  obtain ⟨i, z, h1, h2, _, h3, h4, h5, _⟩ := h.info
  refine ⟨i, z, h1, h3, ⟨by rw [← h4]; simp, fun j x hx => ?_⟩, by rw [← h4]; simp [h5], h2⟩
  rw [← h4] at hx
  simp only [List.getElem?_map, Option.map_eq_some_iff, Array.getElem?_toList] at hx
  obtain ⟨c, hc, rfl⟩ := hx
  rw [Array.getD_eq_getD_getElem?, hc]
  exact const1_R c

theorem parts_eq (parts : Array (Nat × Operand)) (g : Operand → IV) : (parts.toList.map fun (j, x) => (j, g x)) = parts.toList.map fun p => (p.1, g p.2) := rfl
theorem partsV_eq (parts : Array (Nat × Operand)) : (parts.map fun (j, x) => (j, a.eval x)).toList = parts.toList.map fun p => (p.1, a.eval p.2) := by simp

theorem mapM_all {α β : Type} {f : α → Option β} {g : α → β} : ∀ (l : List α), (∀ x ∈ l, f x = some (g x)) → l.mapM f = some (l.map g)
  | [], _ => rfl
  | x :: l, h => by
    rw [List.mapM_cons, h x List.mem_cons_self, mapM_all l fun y hy => h y (List.mem_cons_of_mem _ hy)]; rfl

theorem op_build (hE : EnvOk E) (hr : HR μ w F hp) (hs : SlotsR μ w F hp slots a.tmps) {t : TypeId} {parts : Array (Nat × Operand)} (ho : o.op = .build t parts)
    (h : (opR E ih f rid i slots o.op).run hp = some m) (h' : heapOf k hp m = some hp') : OpOk μ w F hp m.eff.val hp' ((execOp a.eval o).run E.P w) := by
  simp only [ho, opR, opG] at h
  have fin : ∀ {arr : Array Value} {cells : List IV}, E.P.built t (parts.map fun (j, x) => (j, a.eval x)).toList = some arr → Lie μ w F hp cells arr → some (mkAgg cells) = some m.eff.val → hp' = hp →
      OpOk μ w F hp m.eff.val hp' ((execOp a.eval o).run E.P w) := by
    intro arr cells hb hl e1 e2
    subst e2
    rw [← Option.some.inj e1]
    refine .val hr (mkAgg_R hl.1 hl.2) ?_
    have := run_build w t _ arr hb
    simp only [execOp, ho, Sem.run_bind, this, Result.andThen_ok, Sem.run_pure]
  split at h
  · rename_i fs z htt
    have hT := hE.types _ _ htt
    obtain ⟨e1, e2⟩ := valO_case h h'
    simp only [Option.map_eq_some_iff] at e1
    obtain ⟨cells, e1, e3⟩ := e1
    obtain ⟨flds, hu, hfl⟩ := und_struct hT
    obtain ⟨it, zv, hi, hz, hlz, _⟩ := zero_lie (μ := μ) (w := w) (F := F) (hp := hp) hT
    have hplaces : flds.toList.mapM (fun f => (E.P.info? f.type).map fun i => (f.offset, i.size)) = some (flds.toList.map fun f => (f.offset, ((E.P.info? f.type).map (·.size)).getD 0)) := by
      refine mapM_all _ fun fd hfd => ?_
      obtain ⟨i, hi⟩ := hT.fields fs rfl (fd.offset, fd.type) (by rw [← hfl]; exact List.mem_map.2 ⟨fd, hfd, rfl⟩)
      simp only at hi
      simp [hi]
    obtain ⟨arr, r1, r2⟩ := fill_R (fieldPlaces E fs) ((flds.toList.map fun f => (f.offset, ((E.P.info? f.type).map (·.size)).getD 0)).toArray[·]?) (fun n q hq => by
      simp only [fieldPlaces, Option.bind_eq_some_iff, Option.map_eq_some_iff] at hq
      obtain ⟨⟨o1, t1⟩, h1, ti, h2, rfl⟩ := hq
      rw [← hfl] at h1
      simp only [List.getElem?_map, Option.map_eq_some_iff, Array.getElem?_toList] at h1
      obtain ⟨fd, h3, h4⟩ := h1
      cases h4
      obtain ⟨i, z, g1, g2, _⟩ := (hE.types _ _ h2).info
      simp [h3, g1, g2]) hs parts.toList z cells zv.cells e1 hlz
    refine fin (arr := arr) ?_ r2 (by rw [e3]) e2
    unfold Program.built
    simp only [hi, hu, hz, hplaces, partsV_eq]
    exact r1
  · rename_i n e z htt
    have hT := hE.types _ _ htt
    split at h
    · rename_i ei hte
      obtain ⟨e1, e2⟩ := valO_case h h'
      simp only [Option.map_eq_some_iff] at e1
      obtain ⟨cells, e1, e3⟩ := e1
      have hu := und_arr hT
      obtain ⟨it, zv, hi, hz, hlz, _⟩ := zero_lie (μ := μ) (w := w) (F := F) (hp := hp) hT
      obtain ⟨ie, _, hie, hsz, _⟩ := (hE.types _ _ hte).info
      obtain ⟨arr, r1, r2⟩ := fill_R (fun j => some (j * ei.size, ei.size)) (fun i => some (i * ie.size, ie.size)) (fun n q hq => by rw [hsz]; exact hq) hs parts.toList z cells zv.cells e1 hlz
      refine fin (arr := arr) ?_ r2 (by rw [e3]) e2
      unfold Program.built
      simp only [hi, hu, hz, hie, partsV_eq]
      exact r1
    · exact fail_case h
  · exact fail_case h

theorem rep_length (n : Nat) (z : List IV) : (rep n z).length = n * z.length := by
  induction n with
  | zero => simp [rep]
  | succ n ih => simp [rep, ih, Nat.add_mul, Nat.add_comm]
theorem rep_get (z : List IV) (hz : 0 < z.length) : ∀ (n j : Nat), (rep n z)[j]? = if j < n * z.length then z[j % z.length]? else none
  | 0, j => by simp [rep]
  | n + 1, j => by
    rw [rep]
    by_cases h : j < z.length
    · rw [List.getElem?_append_left h, Nat.mod_eq_of_lt h, if_pos (by rw [Nat.add_mul]; omega)]
    · rw [List.getElem?_append_right (by omega), rep_get z hz n]
      have : j % z.length = (j - z.length) % z.length := by
        rw [Nat.mod_eq_sub_mod (by omega)]
      rw [this]
      by_cases c : j - z.length < n * z.length
      · rw [if_pos c, if_pos (by rw [Nat.add_mul]; omega)]
      · rw [if_neg c, if_neg (by rw [Nat.add_mul]; omega)]
theorem rep_lie {z : List IV} {zc : Array Value} (h : Lie μ w F hp z zc) (hz : 0 < z.length) (n : Nat) : Lie μ w F hp (rep n z) (madeCells zc (n * zc.size)) := by
  refine ⟨by rw [rep_length, size_madeCells, h.1], fun j x hx => ?_⟩
  rw [rep_get z hz] at hx
  split at hx
  · rename_i hj
    have := h.2 _ _ hx
    rw [h.1] at hj
    have hpos : 0 < zc.size := by rw [← h.1]; exact hz
    have hm : j % zc.size < zc.size := Nat.mod_lt _ hpos
    rw [h.1] at this
    rw [Array.getD_eq_getD_getElem?] at this ⊢
    simp only [madeCells, Array.getElem?_map]
    rw [Array.getElem?_range, if_pos hj]
    simp only [Option.map_some, Option.getD_some]
    rw [getElem!_pos zc _ hm]
    simpa [hm] using this
  · cases hx

theorem op_buildSlice (hE : EnvOk E) (hr : HR μ w F hp) (hs : SlotsR μ w F hp slots a.tmps) {t : TypeId} {len : Nat} {parts : Array (Nat × Operand)} (ho : o.op = .buildSlice t len parts)
    (h : (opR E ih f rid i slots o.op).run hp = some m) (h' : heapOf k hp m = some hp') : OpOk μ w F hp m.eff.val hp' ((execOp a.eval o).run E.P w) := by
  simp only [ho, opR, opG] at h
  split at h
  · rename_i e _ htt
    have hut := und_slice (hE.types _ _ htt)
    split at h
    · rename_i ei hte
      have hTe := hE.types _ _ hte
      split at h
      · exact fail_case h
      rename_i hsz
      have hs0 : 0 < ei.size := by omega
      have hbig : len * ei.size ≤ 65536 := by omega
      split at h
      · rename_i cells hfill
        obtain ⟨⟨vs, u⟩, e1, e2⟩ := Rd.run_bind_some h
        simp only [Rd.run, Option.some.injEq] at e2
        subst e2
        obtain ⟨ie, zv, hie, hz, hlz, hzl, hisz⟩ := zero_lie (μ := μ) (w := w) (F := F) (hp := hp) hTe
        have hzsz : zv.cells.size = ei.size := by rw [← hlz.1]; exact hzl
        have hl0 := rep_lie hlz (by omega) len
        obtain ⟨arr, r1, r2⟩ := fill_R (fun j => some (j * ei.size, ei.size)) (fun i => some (i * ei.size, ei.size)) (fun n q hq => hq) hs parts.toList _ cells _ hfill hl0
        simp only [heapOf] at h'
        cases hl : laid hp u with
        | none => rw [hl] at h'; cases h'
        | some hp1 =>
          rw [hl] at h'
          simp only [Option.bind_some, newOf, Option.some.injEq] at h'
          subst h'
          obtain ⟨m1, l1, q1⟩ := (frz_ok hr 65536).2 cells (fun j => arr.getD j undef) vs u r2.2 e1
          obtain ⟨s1, hr1⟩ := marks_stp hr m1 hl
          obtain ⟨s2, hr2⟩ := alloc_froz hr1 arr e
          have hrl : (rep len ei.zero).length = len * ei.size := by rw [rep_length, hzl]
          have hcl : cells.length = len * ei.size := by
            have : ∀ (ps : List (Nat × IV)) (c c' : List IV) (g : Nat → Option (Nat × Nat)), fillIn g c ps = some c' → c'.length = c.length := by
              intro ps
              induction ps with
              | nil => intro c c' g h; simp only [fillIn, Option.some.injEq] at h; rw [h]
              | cons p ps ihp =>
                intro c c' g h
                obtain ⟨n, v⟩ := p
                simp only [fillIn] at h
                split at h
                · cases h
                · split at h
                  · rw [ihp _ _ _ h, setCells_length]
                  · cases h
            rw [this _ _ _ _ hfill, hrl]
          have harr : arr.size = len * ei.size := by rw [← r2.1]; exact hcl
          have hrun : (Instr.buildSlice t len (parts.map fun (j, x) => (j, a.eval x))).run E.P w = .ok (.slice (some ⟨w.heap.size, 0, none⟩) len len) (w.alloc (.cells arr e)) := by
            have hnb : ¬ (16777216 < len * ei.size) := by omega
            simp only [madeCells, hzsz] at r1
            by_cases h0 : len * ei.size = 0
            · have r1' := r1
              simp only [h0, Array.range_zero', Array.map_empty] at r1'
              simp [Instr.buildSlice, run_underlying hut, run_sizeOf' hTe, h0, Array.range_zero', r1', newRow]
            · simp [Instr.buildSlice, run_underlying hut, run_sizeOf' hTe, hnb, h0, zeroValue, typeInfo, hie, hz, hzsz, r1, newRow]
          refine ⟨.slice (some ⟨w.heap.size, 0, none⟩) len len, _, μ, _, .inl ?_, s1.trans s2, hr2, ?_⟩
          · simp only [execOp, ho, Sem.run_bind, hrun, Result.andThen_ok, Sem.run_pure]
          · by_cases h0 : len = 0
            · subst h0; exact .clip0 _
            · have hlt : ∀ i j, i < len → j < ei.size → i * ei.size + j < len * ei.size := fun i j hi hj => by
                have : (i + 1) * ei.size ≤ len * ei.size := Nat.mul_le_mul_right _ hi
                rw [Nat.add_mul] at this; omega
              have hce : ∀ i j e, (chunks ei.size len vs)[i]? = some e → e.cells[j]? = if j < ei.size then vs[i * ei.size + j]? else none := fun i j e he => by
                rw [chunks_get ei.size len vs i e he, List.getElem?_take]
                split
                · rw [List.getElem?_drop]
                · rfl
              have hlen := chunks_length ei.size len vs
              have := RF.sl (w := w.alloc (.cells arr e)) (F := fun c i => addF μ u F c i ∨ (c = w.heap.size ∧ i < arr.size)) (chunks ei.size len vs) w.heap.size 0 ei.size len (fun i j => arr.getD (i * ei.size + j) undef)
                (fun e => by rw [e] at hlen; simp at hlen; omega) (by rw [hlen]; exact Nat.le_refl _)
                (fun e he => by
                  obtain ⟨i, hi, rfl⟩ := List.getElem_of_mem he
                  rw [chunks_get ei.size len vs i _ (List.getElem?_eq_getElem hi), List.length_take, List.length_drop]
                  rw [hlen] at hi
                  have := hlt i (ei.size - 1) hi (by omega)
                  omega)
                (fun i j hi hj => .inr ⟨rfl, by rw [hlen] at hi; have := hlt i j hi hj; omega⟩)
                (fun i j hi hj => by
                  rw [hlen] at hi
                  have := hlt i j hi hj
                  rw [World.cell?_alloc_new, Nat.zero_add, Array.getElem?_eq_getElem (by omega)]
                  simp [show i * ei.size + j < arr.size by omega])
                (fun i j e' c' he' hc' => by
                  rw [hce i j e' he'] at hc'
                  split at hc'
                  · exact (q1 _ _ hc').mono s2.ws s2.sub
                  · cases hc')
              rw [hlen] at this
              have h2 := R.clip (μ := μ) (hp := hp1) (chunks ei.size len vs) ⟨w.heap.size, 0, none⟩ (by rw [hlen]; exact this)
              rw [hlen] at h2
              exact h2
      · exact fail_case h
    · exact fail_case h
  · exact fail_case h

theorem op_makeSlice (hE : EnvOk E) (hr : HR μ w F hp) (hs : SlotsR μ w F hp slots a.tmps) {t : TypeId} {x y : Operand} (ho : o.op = .makeSlice t x y)
    (h : (opR E ih f rid i slots o.op).run hp = some m) (h' : heapOf (site f rid i) hp m = some hp') : OpOk μ w F hp m.eff.val hp' ((execOp a.eval o).run E.P w) := by
  simp only [ho, opR, opG] at h
  have hx := operand_R hs x
  have hy := operand_R hs y
  generalize hxv : a.eval x = xv at hx
  generalize hyv : a.eval y = yv at hy
  split at h
  · rename_i e _ htt
    have hut := und_slice (hE.types _ _ htt)
    split at h
    · rename_i ei p q hte hxe hye
      have hTe := hE.types _ _ hte
      rw [hxe] at hx; rw [hye] at hy
      cases hx with | fv _ _ hx =>
      cases hx
      cases hy with | fv _ _ hy =>
      cases hy
      split at h
      · rename_i hc
        obtain ⟨c1, c2, c3, c4, c5⟩ := hc
        simp only [Rd.run, Option.some.injEq] at h
        subst h
        simp only [heapOf, newOf, laid, Option.bind_some] at h'
        split at h'
        · cases h'
        rename_i hk
        simp only [Option.some.injEq] at h'
        subst h'
        obtain ⟨ie, zv, hie, hz, hlz, hzl, hisz⟩ := zero_lie (μ := μ) (w := w) (F := F) (hp := hp) hTe
        obtain ⟨ie', _, hie', _, hby, _⟩ := hTe.info
        have : ie' = ie := by rw [hie] at hie'; exact (Option.some.inj hie').symm
        subst this
        have hzsz : zv.cells.size = ei.size := by rw [← hlz.1]; exact hzl
        have hlie := rep_lie hlz (by omega) q.toNat
        rw [hzsz] at hlie
        have hb : (ie'.bytes : Int) * q ≤ 281474976710656 := by
          have h1 : (ie'.bytes : Int) ≤ 65536 := by omega
          have h2 : (ie'.bytes : Int) * q ≤ 65536 * 1048576 := Int.mul_le_mul h1 c3 (by omega) (by omega)
          omega
        have hrun := run_make (P := E.P) w t e ie' zv hut hie hz .i64 .i64 p q c1 c2 hb (by omega)
        rw [hisz] at hrun
        obtain ⟨μ', F', s1, s2, s3⟩ := alloc_row hr (site f rid i) hk (madeCells zv.cells (q.toNat * ei.size)) e (rep q.toNat ei.zero) (by rw [hlie.1]; exact Nat.le_refl _) hlie.2
        refine ⟨.slice (some ⟨w.heap.size, 0, none⟩) p.toNat q.toNat, _, μ', F', .inl ?_, s1, s2, ?_⟩
        · simp only [execOp, ho, hxv, hyv, Sem.run_bind, hrun, Result.andThen_ok, Sem.run_pure]
        · have := R.slc (μ := μ') (w := w.alloc (.cells (madeCells zv.cells (q.toNat * ei.size)) e)) (F := F') (hp := hp.set (.own (site f rid i)) (.row (rep q.toNat ei.zero) false)) (.own (site f rid i)) ei.size p.toNat q.toNat ⟨_, _, get_set_own _ _ _⟩ (by omega)
          rw [s3] at this
          exact this
      · exact fail_case h
    · exact fail_case h
  · exact fail_case h
end
end Idl
end Go.Proofs.Ytbkdidonegggdaa

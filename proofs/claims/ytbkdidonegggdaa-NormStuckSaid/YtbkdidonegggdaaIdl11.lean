/-
  THE IDEAL SEMANTICS AND MEMORY: operations, seventh part: the builtins.
-/
import Derived.Test.YtbkdidonegggdaaIdl10
namespace Go.Proofs.Ytbkdidonegggdaa
namespace Idl

section
variable {E : Env} {μ : Ref → Nat} {w : World} {F : Prot} {hp hp' : Hp} {slots : List IV} {a : Act} {ih : Handler} {f : FuncId} {rid i k : Nat} {m : Made} {o : Oper}

theorem flat_get {sz : Nat} : ∀ {es : List FV} {p : Nat} {c : FV}, (∀ e ∈ es, e.cells.length = sz) → (es.flatMap FV.cells)[p]? = some c → ∃ i j e, p = i * sz + j ∧ es[i]? = some e ∧ e.cells[j]? = some c
  | [], p, c, _, h => by simp at h
  | e :: es, p, c, hu, h => by
    simp only [List.flatMap_cons] at h
    have he := hu e List.mem_cons_self
    by_cases hp : p < sz
    · rw [List.getElem?_append_left (by omega)] at h
      exact ⟨0, p, e, by omega, rfl, h⟩
    · rw [List.getElem?_append_right (by omega), he] at h
      obtain ⟨i, j, e', h1, h2, h3⟩ := flat_get (fun e he => hu e (List.mem_cons_of_mem _ he)) h
      exact ⟨i + 1, j, e', by rw [Nat.add_mul]; omega, by simpa using h2, h3⟩
theorem flat_length {sz : Nat} : ∀ {es : List FV}, (∀ e ∈ es, e.cells.length = sz) → (es.flatMap FV.cells).length = es.length * sz
  | [], _ => by simp
  | e :: es, hu => by
    simp only [List.flatMap_cons, List.length_append, List.length_cons, hu e List.mem_cons_self, flat_length fun e he => hu e (List.mem_cons_of_mem _ he), Nat.add_mul]
    omega

theorem RF_one {v : FV} {x : Value} (h : RF w F v x) (ho : v.one = true) : x.oneCell' = true := by
  cases h <;> first | rfl | cases ho

/-- Elements in a row of their own. -/
theorem row_RF {es : List FV} {b cap sz : Nat} {all : List Value} {c : Array Value} {e : TypeId} (hg : w.heap[b]? = some (.cells c e (0, 0))) (hne : es ≠ []) (hcap : es.length ≤ cap) (hl : es.length * sz ≤ all.length) (hpre : ∀ j, j < all.length → c[j]? = all[j]?)
    (hF : ∀ i, i < es.length * sz → F b i) (hu : ∀ e ∈ es, e.cells.length = sz) (h : ∀ i j e c, es[i]? = some e → e.cells[j]? = some c → RF w F c (all.getD (i * sz + j) undef)) :
    RF w F (.sl es) (.slice (some ⟨b, 0, none⟩) es.length cap) := by
  have hlt : ∀ i j, i < es.length → j < sz → i * sz + j < es.length * sz := fun i j hi hj => by
    have : (i + 1) * sz ≤ es.length * sz := Nat.mul_le_mul_right _ hi
    rw [Nat.add_mul] at this; omega
  exact .sl es b 0 sz cap (fun i j => all.getD (i * sz + j) undef) hne hcap hu (fun i j hi hj => by rw [Nat.zero_add]; exact hF _ (hlt i j hi hj))
    (fun i j hi hj => by
      have := hlt i j hi hj
      rw [cell_row hg, Nat.zero_add, hpre _ (by omega), List.getD_eq_getElem?_getD, List.getElem?_eq_getElem (by omega)]; rfl) h

theorem op_append (hE : EnvOk E) (hr : HR μ w F hp) {t : TypeId} {xt : Option TypeId} {xt' ty : TypeId} (hxt : xt = some xt') {row : Bool} {s x : IV} {sv xv : Value} (hs : R μ w F hp s sv) (hx : R μ w F hp x xv)
    (h : (appendR E k t xt row s x).run hp = some m) (h' : heapOf k hp m = some hp') :
    ∃ z w' μ' F', (Builtin.append_ #[t, xt'] ty #[sv, xv]).run E.P w = .ok z w' ∧ Stp μ w F hp μ' w' F' hp' ∧ HR μ' w' F' hp' ∧ R μ' w' F' hp' m.eff.val z := by
  subst hxt
  simp only [appendR, Option.bind_some] at h
  split at h
  · rename_i e _ _ _ e2 _ htt hxtt
    have hut := und_slice (hE.types _ _ htt)
    have huxt := und_slice (hE.types _ _ hxtt)
    split at h
    · exact fail_case h
    rename_i ei hte
    have hTe := hE.types _ _ hte
    obtain ⟨ie, zv, hie, hz, hlz, hzl, hisz⟩ := zero_lie (μ := μ) (w := w) (F := F) (hp := hp) hTe
    obtain ⟨ie', _, hie', _, hby, _⟩ := hTe.info
    have : ie' = ie := by rw [hie] at hie'; exact (Option.some.inj hie').symm
    subst this
    have hzsz : zv.cells.size = ei.size := by rw [← hlz.1]; exact hzl
    obtain ⟨⟨fx, u⟩, e1, h⟩ := Rd.run_bind_some h
    obtain ⟨mk, hfx⟩ := (frz_ok hr 4096).1 _ _ fx u hx e1
    simp only at h
    split at h
    · rename_i es2
      split at h
      · exact fail_case h
      rename_i hc0
      have hsz0 : 0 < ei.size := by omega
      have hd2 : headOk ei.size es2 = true := by
        cases hh : headOk ei.size es2 with
        | true => rfl
        | false => exact absurd (.inr hh) hc0
      split at h
      · exact fail_case h
      rename_i es hes
      split at h
      · exact fail_case h
      rename_i hc1
      have hd1 : headOk ei.size es = true := by
        cases hh : headOk ei.size es with
        | true => rfl
        | false => exact absurd (.inl hh) hc1
      have hbytes : (es.length + es2.length) * ei.bytes ≤ 140737488355328 := by omega
      have hlen : es.length + es2.length ≤ 1073741824 := by omega
      -- the marks are laid first
      have hlaid : ∃ hp1, laid hp u = some hp1 ∧ (∀ v, m.eff.upd = u ++ v → (laid hp1 v).bind (newOf k m) = some hp') := by
        have hu : ∃ v, m.eff.upd = u ++ v := by
          split at h
          · split at h
            · simp only [Rd.run, Option.some.injEq] at h; subst h; exact ⟨[], by simp⟩
            · split at h <;> (simp only [Rd.run, Option.some.injEq] at h; subst h; exact ⟨[], by simp⟩)
          · split at h
            · simp only [Rd.run, Option.some.injEq] at h; subst h; exact ⟨[], by simp⟩
            · split at h <;> (simp only [Rd.run, Option.some.injEq] at h; subst h; exact ⟨[], by simp⟩)
          · obtain ⟨b, hb, h⟩ := Rd.run_get_some h
            split at h
            · split at h
              · simp only [Rd.run, Option.some.injEq] at h; subst h; exact ⟨_, rfl⟩
              · exact fail_case h
            · exact fail_case h
          · exact fail_case h
        obtain ⟨v, hv⟩ := hu
        simp only [heapOf, hv, laid_append] at h'
        cases hl : laid hp u with
        | none => rw [hl] at h'; cases h'
        | some hp1 =>
          rw [hl] at h'
          refine ⟨hp1, rfl, fun v' hv' => ?_⟩
          have : v = v' := List.append_cancel_left (hv.symm.trans hv')
          subst this
          simpa using h'
      obtain ⟨hp1, hl1, hfin⟩ := hlaid
      obtain ⟨s1, hr1⟩ := marks_stp hr mk hl1
      have hs1 := hs.mono s1
      have hes1 : RF w (addF μ u F) (.sl es) sv := elemsOf_R hs1 hes
      have hx2 : ∃ p2 cap2, xv = .slice p2 es2.length cap2 := by
        rcases sl_inv hfx with ⟨rfl, p, cap, rfl, _⟩ | ⟨_, b, base, sz, cap, vs, rfl, _⟩
        · exact ⟨p, cap, rfl⟩
        · exact ⟨_, cap, rfl⟩
      obtain ⟨p2, cap2, rfl⟩ := hx2
      obtain ⟨news, n1, n2, n3, n4⟩ := first_RF (P := E.P) hfx hd2
      have hs2 : ∃ p cap, sv = .slice p es.length cap := by
        rcases sl_inv hes1 with ⟨rfl, p, cap, rfl, _⟩ | ⟨_, b, base, sz, cap, vs, rfl, _⟩
        · exact ⟨p, cap, rfl⟩
        · exact ⟨_, cap, rfl⟩
      obtain ⟨p, cap, rfl⟩ := hs2
      obtain ⟨olds, o1, o2, o3, o4⟩ := first_RF (P := E.P) hes1 hd1
      obtain ⟨hu, hall⟩ := join_RF o1 o3 n3 o4 n4
      have hlx : Builtin.lenOf (.slice p2 es2.length cap2) = pure es2.length := rfl
      have hjl : (es ++ es2).length = es.length + es2.length := List.length_append
      have hall_len : (olds ++ news).length = (es.length + es2.length) * ei.size := by rw [List.length_append, o1, n1, Nat.add_mul]
      -- a new row, where there is no room
      have grow : cap < es.length + es2.length → (Builtin.append_ #[t, xt'] ty #[.slice p es.length cap, .slice p2 es2.length cap2]).run E.P w =
          .ok (.slice (some ⟨w.heap.size, 0, none⟩) (es ++ es2).length (grownCap w (es.length + es2.length) cap e))
            (w.drew.alloc (.cells (olds.toArray ++ news.toArray ++ Builtin.zeroCells zv.cells (grownCap w (es.length + es2.length) cap e - (es.length + es2.length))) e)) := fun hc => by
        rw [hjl]
        exact run_append_new hut huxt hie hz hlx (by rw [hisz]; exact o2) (by rw [hisz]; exact n2) (by rw [hby]; exact hbytes) hlen hc
      have hgc : es.length + es2.length ≤ grownCap w (es.length + es2.length) cap e := grownCap_ge w _ cap e
      generalize harr : (olds.toArray ++ news.toArray ++ Builtin.zeroCells zv.cells (grownCap w (es.length + es2.length) cap e - (es.length + es2.length))) = arr at grow
      have harr_size : arr.size = grownCap w (es.length + es2.length) cap e * ei.size := by
        rw [← harr]
        simp only [Array.size_append, List.size_toArray, size_zeroCells, hzsz, o1, n1]
        rw [← Nat.add_mul, ← Nat.add_mul]; congr 1; omega
      have harr_pre : ∀ j, j < (olds ++ news).length → arr[j]? = (olds ++ news)[j]? := fun j hj => by
        rw [← harr]
        have e1 : olds.toArray ++ news.toArray = (olds ++ news).toArray := by simp
        rw [e1, Array.getElem?_append_left (by simpa using hj)]
        simp
      obtain ⟨sd, hrd⟩ := drew_stp hr1
      have hfits : (es.length + es2.length) * ei.size ≤ arr.size := by rw [harr_size]; exact Nat.mul_le_mul_right _ hgc
      -- the fresh cases: nil, or what has no room at all
      have fresh : ∀ (hcap : cap = es.length) (h : (if es2.isEmpty then Rd.ret { eff := { val := s, upd := u } }
            else if row then Rd.ret { eff := { val := .slc (.own k) ei.size (es ++ es2).length, upd := u }, new := some (.row (((es ++ es2).flatMap FV.cells).map .fv) false) }
            else Rd.ret { eff := { val := .app (.own k) (es ++ es2), upd := u }, new := some (.tok (es ++ es2).length ei.size) } : Rd Made).run hp = some m),
          ∃ z w' μ' F', (Builtin.append_ #[t, xt'] ty #[.slice p es.length cap, .slice p2 es2.length cap2]).run E.P w = .ok z w' ∧ Stp μ w F hp μ' w' F' hp' ∧ HR μ' w' F' hp' ∧ R μ' w' F' hp' m.eff.val z := by
        intro hcap h
        by_cases h0 : es2 = []
        · subst h0
          simp only [List.isEmpty_nil, if_true, Rd.run, Option.some.injEq] at h
          subst h
          have := hfin [] (by simp)
          simp only [laid, newOf, Option.bind_some, Option.some.injEq] at this
          subst this
          have hnews : news = [] := List.eq_nil_of_length_eq_zero (by simpa using n1)
          subst hnews
          have hn := n2 w rfl
          refine ⟨.slice p es.length cap, w, μ, _, ?_, s1, hr1, hs1⟩
          cases p with
          | none => exact run_append_none hut huxt hie hlx (by rw [hisz]; exact hn) (by simp; omega)
          | some b => exact run_append_in hut huxt hie hlx (by rw [hisz]; exact hn) (by simp [storeCells]) (by simp; omega)
        · have hne : es2.isEmpty = false := by cases es2 <;> simp_all
          have hpos : 0 < es2.length := by cases es2 <;> simp_all
          simp only [hne, Bool.false_eq_true, if_false] at h
          have hg := grow (by omega)
          have hne2 : es ++ es2 ≠ [] := by simp [h0]
          cases row with
          | true =>
            simp only [if_true, Rd.run, Option.some.injEq] at h
            subst h
            have hf := hfin [] (by simp)
            simp only [laid, newOf, Option.bind_some] at hf
            split at hf
            · cases hf
            rename_i hk
            simp only [Option.some.injEq] at hf
            subst hf
            obtain ⟨μ', F', q1, q2, q3⟩ := alloc_row hrd k hk arr e (((es ++ es2).flatMap FV.cells).map .fv) (by rw [List.length_map, flat_length hu, hjl]; exact hfits) (fun j y hy => by
              simp only [List.getElem?_map, Option.map_eq_some_iff] at hy
              obtain ⟨c, hc, rfl⟩ := hy
              obtain ⟨i', j', e', g1, g2, g3⟩ := flat_get hu hc
              have hlt : j < (olds ++ news).length := by
                have := (List.getElem?_eq_some_iff.1 hc).1
                rw [flat_length hu, hjl] at this
                rw [hall_len]; exact this
              have hv := hall i' j' e' c g2 g3
              rw [← g1] at hv
              rw [Array.getD_eq_getD_getElem?, harr_pre j hlt, ← List.getD_eq_getElem?_getD]
              exact .fv _ _ (hv.mono sd.ws sd.sub))
            refine ⟨_, _, μ', F', hg, (s1.trans sd).trans q1, q2, ?_⟩
            have := R.slc (μ := μ') (w := w.drew.alloc (.cells arr e)) (F := F') (hp := hp1.set (.own k) (.row (((es ++ es2).flatMap FV.cells).map .fv) false)) (.own k) ei.size (es ++ es2).length (grownCap w (es.length + es2.length) cap e) ⟨_, _, get_set_own _ _ _⟩ (by rw [hjl]; exact hgc)
            rw [q3] at this
            exact this
          | false =>
            simp only [Bool.false_eq_true, if_false, Rd.run, Option.some.injEq] at h
            subst h
            have hf := hfin [] (by simp)
            simp only [laid, newOf, Option.bind_some] at hf
            split at hf
            · cases hf
            rename_i hk
            simp only [Option.some.injEq] at hf
            subst hf
            obtain ⟨q1, q2, q3⟩ := tok_alloc hrd (.own k) (es ++ es2).length ei.size (.inl ⟨hk, k, rfl⟩) arr e (by rw [hjl]; omega) hsz0 (by rw [hjl]; exact hfits)
            refine ⟨_, _, _, _, hg, (s1.trans sd).trans q1, q2, ?_⟩
            have hheap : (w.drew.alloc (.cells arr e)).heap[w.heap.size]? = some (.cells arr e (0, 0)) := by rw [heap_push, if_pos (show w.heap.size = w.drew.heap.size from rfl)]
            have hrow := row_RF (F := fun c i => addF μ u F c i ∨ (c = w.drew.heap.size ∧ i < (es ++ es2).length * ei.size)) hheap hne2 (cap := grownCap w (es.length + es2.length) cap e) (by rw [hjl]; exact hgc) (by rw [hjl, hall_len]; exact Nat.le_refl _) harr_pre
              (fun i hi => .inr ⟨rfl, hi⟩) hu (fun i j e' c he hc => ((hall i j e' c he hc).mono sd.ws sd.sub).mono q1.ws q1.sub)
            exact .app _ _ _ hrow hne2 ⟨_, _, q3, Nat.le_refl _, fun _ => ⟨_, arr, e, by rw [updMu_same]; rfl, by rw [updMu_same]; exact hheap, by rw [hjl]; exact hgc, by rw [harr_size]; exact Nat.le_refl _, hu⟩⟩
      split at h
      · simp only [elemsOf, Option.some.injEq] at hes
        subst hes
        have hcap : cap = 0 := by cases hs; rfl
        exact fresh hcap h
      · rename_i es' _
        simp only [elemsOf, Option.some.injEq] at hes
        subst hes
        have hcap : cap = es'.length := by cases hs <;> rfl
        exact fresh hcap h
      · rename_i r es' _
        simp only [elemsOf, Option.some.injEq] at hes
        subst hes
        obtain ⟨b, hb, h⟩ := Rd.run_get_some h
        split at h
        · rename_i n sz
          split at h
          · rename_i hcnd
            obtain ⟨c1, c2, c3⟩ := hcnd
            simp only [Rd.run, Option.some.injEq] at h
            subst h
            have hf := hfin [(r, .tok (n + es2.length) sz)] rfl
            obtain ⟨n', hb1, hle1, _⟩ := s1.tok r n sz hb
            have hb1' : hp1.get r = some (.tok n sz) := by
              rw [laid_get u hp hp1 hl1 r (fun q hq e => by
                obtain ⟨cs, ro, g1, _⟩ := mk q hq
                rw [e, hb] at g1; cases g1)]
              exact hb
            simp only [laid, newOf, hb1', Option.bind_some, Option.some.injEq] at hf
            subst hf
            cases hs1 with | app _ _ _ _ hne hfr =>
            obtain ⟨n0, sz0, g1, g2, g3⟩ := hfr
            rw [hb1'] at g1
            cases g1
            obtain ⟨cap', c, e', g4, g5, g6, g7, g8⟩ := g3 c1
            cases g4
            have hn0 : 0 < n := (hr1.blk r _ hb1').1
            have hne2 : es' ++ es2 ≠ [] := by simp [hne]
            by_cases hroom : es'.length + es2.length ≤ cap
            · -- in place
              have hfit : es'.length * ei.size + news.length ≤ c.size := by
                rw [n1, ← Nat.add_mul]
                exact Nat.le_trans (Nat.mul_le_mul_right _ hroom) (by rw [← c2]; exact g7)
              have hst := run_storeCells_at (P := E.P) (μ r) (es'.length * ei.size) e' news 0 c w g5 (by omega) (fun v hv => by
                obtain ⟨q, hq, rfl⟩ := List.getElem_of_mem hv
                rw [n1] at hq
                have h1 : q / ei.size < es2.length := (Nat.div_lt_iff_lt_mul hsz0).2 hq
                have h2 : q % ei.size < ei.size := Nat.mod_lt _ hsz0
                have hne3 : es2 ≠ [] := fun e => by rw [e] at h1; simp at h1
                have he := n4 hne3 es2[q / ei.size] (List.getElem_mem h1)
                have hrf := n3 (q / ei.size) (q % ei.size) es2[q / ei.size] (es2[q / ei.size].cells[q % ei.size]'(by omega)) (List.getElem?_eq_getElem h1) (List.getElem?_eq_getElem (by omega))
                have h4 : q / ei.size * ei.size + q % ei.size = q := by rw [Nat.mul_comm]; exact Nat.div_add_mod q ei.size
                rw [h4, List.getD_eq_getElem?_getD, List.getElem?_eq_getElem (by omega)] at hrf
                simp only [Option.getD_some] at hrf
                have hone := List.all_eq_true.1 (List.all_eq_true.1 c3 _ (List.getElem_mem h1)) _ (List.getElem_mem (by omega : q % ei.size < es2[q / ei.size].cells.length))
                exact RF_one hrf hone)
              simp only [Nat.add_zero] at hst
              obtain ⟨p1, p2'⟩ := row_part c news.toArray (es'.length * ei.size) (by simpa using hfit)
              simp only [List.size_toArray] at p1 p2'
              obtain ⟨q1, q2⟩ := tok_room hr1 r n (n + es2.length) sz c (c.toList.take (es'.length * ei.size) ++ news ++ c.toList.drop (es'.length * ei.size + news.length)).toArray e' hb1' g5 p1 (by omega)
                (by rw [c1, c2]; exact Nat.le_trans (Nat.mul_le_mul_right _ hroom) (by rw [← c2]; exact g7))
                (fun o ho => by
                  have ho' : o < es'.length * ei.size := by rw [← c1, ← c2]; exact ho
                  simp only [List.getElem?_toArray]
                  rw [List.append_assoc, List.getElem?_append_left (by simp; omega), List.getElem?_take, if_pos ho']; simp)
              have hrun := run_append_in (P := E.P) (t := t) (xt := xt') (ty := ty) (sCap := cap) (b := ⟨μ r, 0, none⟩) hut huxt hie hlx (by rw [hisz]; exact n2 w rfl) (by rw [hisz, Addr.add_lit, Nat.zero_add]; exact hst) hroom
              have hsame := get_set_same hp1 r (.tok (n + es2.length) sz) (by rw [hb1']; rfl)
              refine ⟨_, _, _, _, hrun, s1.trans q1, q2, ?_⟩
              have hheap : (w.setRow (μ r) (c.toList.take (es'.length * ei.size) ++ news ++ c.toList.drop (es'.length * ei.size + news.length)).toArray).heap[μ r]? = some (.cells (c.toList.take (es'.length * ei.size) ++ news ++ c.toList.drop (es'.length * ei.size + news.length)).toArray e' (0, 0)) := by
                rw [setRow_get]; simp [g5]
              have hpre : ∀ j, j < (olds ++ news).length → (c.toList.take (es'.length * ei.size) ++ news ++ c.toList.drop (es'.length * ei.size + news.length)).toArray[j]? = (olds ++ news)[j]? := fun j hj => by
                have h5 := o2 w rfl
                have h6 := run_firstCells_some (P := E.P) w ei.size es'.length ⟨μ r, 0, none⟩ es'.length cap (c.toList.take (es'.length * ei.size)) (by simp; rw [c2] at g7; have := Nat.mul_le_mul_right ei.size g6; omega) (fun j' v hv => by
                  rw [List.getElem?_take] at hv
                  split at hv
                  · rw [Addr.add_lit, cell_row g5, Nat.zero_add]; simpa using hv
                  · cases hv)
                rw [h5] at h6
                injection h6 with h7 _
                have h8 : c.toList.take (es'.length * ei.size) = olds := by
                  have := congrArg Array.toList h7; simpa using this.symm
                simp only [List.getElem?_toArray, h8]
                exact List.getElem?_append_left hj
              have hrow := row_RF (F := fun b i => addF μ u F b i ∨ (b = μ r ∧ i < (n + es2.length) * sz)) hheap hne2 (cap := cap) (by rw [hjl]; exact hroom) (by rw [hjl, hall_len]; exact Nat.le_refl _) hpre
                (fun i hi => .inr ⟨rfl, by rw [c1, c2, ← hjl]; exact hi⟩) hu (fun i j e'' c'' he hc => (hall i j e'' c'' he hc).mono q1.ws q1.sub)
              rw [hjl] at hrow
              refine .app _ _ _ hrow hne2 ⟨_, _, hsame, by rw [hjl]; omega, fun _ => ⟨cap, _, e', by rw [hjl], hheap, by rw [hjl]; exact hroom, by rw [List.size_toArray, p1]; exact g7, ?_⟩⟩
              rw [c2]; exact hu
            · -- a new row
              have hg := grow (by omega)
              obtain ⟨q1, q2, q3⟩ := tok_alloc hrd r (n + es2.length) sz (.inr ⟨n, sz, hb1', by omega, rfl⟩) arr e (by omega) (by omega) (by rw [c1, c2]; exact hfits)
              refine ⟨_, _, _, _, hg, (s1.trans sd).trans q1, q2, ?_⟩
              have hheap : (w.drew.alloc (.cells arr e)).heap[w.heap.size]? = some (.cells arr e (0, 0)) := by rw [heap_push, if_pos (show w.heap.size = w.drew.heap.size from rfl)]
              have hrow := row_RF (F := fun c i => addF μ u F c i ∨ (c = w.drew.heap.size ∧ i < (n + es2.length) * sz)) hheap hne2 (cap := grownCap w (es'.length + es2.length) cap e) (by rw [hjl]; exact hgc) (by rw [hjl, hall_len]; exact Nat.le_refl _) harr_pre
                (fun i hi => .inr ⟨rfl, by rw [c1, c2, ← hjl]; exact hi⟩) hu (fun i j e'' c'' he hc => ((hall i j e'' c'' he hc).mono sd.ws sd.sub).mono q1.ws q1.sub)
              refine .app _ _ _ hrow hne2 ⟨_, _, q3, by rw [hjl]; omega, fun _ => ⟨_, arr, e, by rw [updMu_same]; rfl, by rw [updMu_same]; exact hheap, by rw [hjl]; exact hgc, by rw [harr_size, c2]; exact Nat.le_refl _, ?_⟩⟩
              rw [c2]; exact hu
          · exact fail_case h
        · exact fail_case h
      · exact fail_case h
    · exact fail_case h
  · exact fail_case h
end
end Idl
end Go.Proofs.Ytbkdidonegggdaa

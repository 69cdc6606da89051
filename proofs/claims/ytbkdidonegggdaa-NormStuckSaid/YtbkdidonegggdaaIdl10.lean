/-
  THE IDEAL SEMANTICS AND MEMORY: operations, sixth part: lengths, append.
-/
import Derived.Test.YtbkdidonegggdaaIdl9
namespace Go.Proofs.Ytbkdidonegggdaa
namespace Idl

section
variable {E : Env} {μ : Ref → Nat} {w : World} {F : Prot} {hp hp' : Hp} {slots : List IV} {a : Act} {ih : Handler} {f : FuncId} {rid i k : Nat} {m : Made} {o : Oper}

/-- A row that grows gets a new block: it is the first of its name, or longer than it was. -/
theorem tok_alloc (hr : HR μ w F hp) (r : Ref) (n s : Nat) (hk : (hp.get r = none ∧ ∃ k, r = .own k) ∨ ∃ n0 sz, hp.get r = some (.tok n0 sz) ∧ n0 < n ∧ sz = s) (arr : Array Value) (e : TypeId) (hn : 0 < n) (hs : 0 < s) (hl : n * s ≤ arr.size) :
    let μ' := updMu μ r w.heap.size
    let F' : Prot := fun c i => F c i ∨ (c = w.heap.size ∧ i < n * s)
    Stp μ w F hp μ' (w.alloc (.cells arr e)) F' (hp.set r (.tok n s)) ∧ HR μ' (w.alloc (.cells arr e)) F' (hp.set r (.tok n s)) ∧ (hp.set r (.tok n s)).get r = some (.tok n s) := by
  intro μ' F'
  have hμ : μ' r = w.heap.size := updMu_same _ _ _
  have hmu : ∀ s, s ≠ r → μ' s = μ s := fun s h => updMu_other _ _ h
  have hsame : (hp.set r (.tok n s)).get r = some (.tok n s) := by
    rcases hk with ⟨_, k, rfl⟩ | ⟨n0, sz, h, _⟩
    · exact get_set_own _ _ _
    · exact get_set_same _ _ _ (by rw [h]; rfl)
  have hst : Stp μ w F hp μ' (w.alloc (.cells arr e)) F' (hp.set r (.tok n s)) := by
    refine ⟨.alloc F w _ (fun _ _ _ h => by cases h; rfl), fun _ _ h => .inl h, fun t cs ro h => ?_, fun t es h => ?_, fun t n1 sz h => ?_, fun t h h' => ?_, fun c hc _ => heap_push_lt _ _ hc, fun c i h => ?_⟩
    · have hne : t ≠ r := fun e => by
        subst e; rcases hk with ⟨h2, _⟩ | ⟨_, _, h2, _⟩ <;> rw [h] at h2 <;> cases h2
      exact ⟨⟨cs, ro, by rw [get_set_other _ _ _ _ hne]; exact h⟩, hmu t hne⟩
    · have hne : t ≠ r := fun e => by
        subst e; rcases hk with ⟨h2, _⟩ | ⟨_, _, h2, _⟩ <;> rw [h] at h2 <;> cases h2
      exact ⟨⟨es, by rw [get_set_other _ _ _ _ hne]; exact h⟩, hmu t hne⟩
    · by_cases hne : t = r
      · subst hne
        rcases hk with ⟨h2, _⟩ | ⟨n0, sz', h2, h3, h4⟩
        · rw [h] at h2; cases h2
        · rw [h] at h2; cases h2
          exact ⟨n, by rw [hsame, h4], by omega, .inr ⟨h3, by rw [hμ]; exact Nat.le_refl _⟩⟩
      · exact ⟨n1, by rw [get_set_other _ _ _ _ hne]; exact h, Nat.le_refl _, .inl (hmu t hne)⟩
    · by_cases hne : t = r
      · subst hne; rw [hμ]; exact Nat.le_refl _
      · rw [get_set_other _ _ _ _ hne, h] at h'; cases h'
    · rcases h with h | ⟨h, _⟩
      · exact .inl h
      · exact .inr (.inl (by omega))
  have hold : ∀ t, t ≠ r → ((hp.set r (.tok n s)).get t).isSome → μ' t = μ t ∧ μ t < w.heap.size ∧ (hp.get t).isSome := fun t ht h => by
    rw [get_set_other _ _ _ _ ht] at h
    exact ⟨hmu t ht, hr.lt h, h⟩
  refine ⟨hst, ⟨fun t b h => ?_, fun t u h1 h2 e => ?_, fun c i h => ?_⟩, hsame⟩
  · by_cases hne : t = r
    · subst hne
      rw [hsame] at h; cases h
      refine ⟨hn, hs, arr, e, by rw [hμ, heap_push, if_pos rfl], hl, fun i => ⟨fun h => ?_, fun h => .inr ⟨hμ, h⟩⟩⟩
      rcases h with h | ⟨_, h⟩
      · have := hr.wf _ _ h; rw [hμ] at this; omega
      · exact h
    · rw [get_set_other _ _ _ _ hne] at h
      have hlt := hr.lt (r := t) (by rw [h]; rfl)
      refine (hr.blk t b h).mono hst (hmu t hne) (heap_push_lt _ _ hlt) fun i hi => ?_
      rcases hi with hi | ⟨hi, _⟩
      · exact hi
      · omega
  · by_cases et : t = r
    · by_cases eu : u = r
      · rw [et, eu]
      · obtain ⟨e1, e2, _⟩ := hold u eu h2
        rw [et, hμ, e1] at e; omega
    · obtain ⟨e1, e2, e3⟩ := hold t et h1
      by_cases eu : u = r
      · rw [eu, hμ, e1] at e; omega
      · obtain ⟨f1, f2, f3⟩ := hold u eu h2
        exact hr.inj t u e3 f3 (by rw [← e1, ← f1]; exact e)
  · rcases h with h | ⟨h, _⟩
    · have := hr.wf c i h; simp; omega
    · simp; omega

/-- A row that grows, in its own block. -/
theorem tok_room (hr : HR μ w F hp) (r : Ref) (n n' s : Nat) (c c' : Array Value) (e : TypeId) (h : hp.get r = some (.tok n s)) (hg : w.heap[μ r]? = some (.cells c e (0, 0))) (hs : c'.size = c.size) (hn : n ≤ n') (hl : n' * s ≤ c.size)
    (hold : ∀ o, o < n * s → c'[o]? = c[o]?) :
    let F' : Prot := fun b i => F b i ∨ (b = μ r ∧ i < n' * s)
    Stp μ w F hp μ (w.setRow (μ r) c') F' (hp.set r (.tok n' s)) ∧ HR μ (w.setRow (μ r) c') F' (hp.set r (.tok n' s)) := by
  intro F'
  have hsome : (hp.get r).isSome := by rw [h]; rfl
  have hsame := get_set_same hp r (.tok n' s) hsome
  obtain ⟨b1, b2, _, _, b3, _, b4⟩ := hr.blk r _ h
  have hmul : n * s ≤ n' * s := Nat.mul_le_mul_right _ hn
  have hst : Stp μ w F hp μ (w.setRow (μ r) c') F' (hp.set r (.tok n' s)) := by
    refine ⟨.setRow F w (μ r) c c' e hg hs (fun o ho => hold o ((b4 o).1 ho)), fun _ _ h => .inl h, fun t cs ro hs' => ⟨?_, rfl⟩, fun t es hs' => ⟨?_, rfl⟩, fun t n1 sz hs' => ?_,
      fun t h1 h2 => ?_, fun b hb hb' => ?_, fun b i hi => ?_⟩
    · have hne : t ≠ r := fun e => by subst e; rw [h] at hs'; cases hs'
      exact ⟨cs, ro, by rw [get_set_other _ _ _ _ hne]; exact hs'⟩
    · have hne : t ≠ r := fun e => by subst e; rw [h] at hs'; cases hs'
      exact ⟨es, by rw [get_set_other _ _ _ _ hne]; exact hs'⟩
    · by_cases hne : t = r
      · subst hne; rw [h] at hs'; cases hs'
        exact ⟨n', hsame, hn, .inl rfl⟩
      · exact ⟨n1, by rw [get_set_other _ _ _ _ hne]; exact hs', Nat.le_refl _, .inl rfl⟩
    · by_cases hne : t = r
      · subst hne; rw [h] at h1; cases h1
      · rw [get_set_other _ _ _ _ hne, h1] at h2; cases h2
    · rw [setRow_get, if_neg (fun e => hb' r hsome e.symm)]
    · rcases hi with hi | ⟨hi, _⟩
      · exact .inl hi
      · exact .inr (.inr ⟨r, hsome, hi.symm⟩)
  have hsome' : ∀ t, ((hp.set r (.tok n' s)).get t).isSome → (hp.get t).isSome := fun t ht => by
    by_cases e : t = r
    · rw [e]; exact hsome
    · rwa [get_set_other _ _ _ _ e] at ht
  refine ⟨hst, ⟨fun t b hb => ?_, fun t u h1 h2 e => hr.inj t u (hsome' t h1) (hsome' u h2) e, fun b i hi => ?_⟩⟩
  · by_cases hne : t = r
    · subst hne
      rw [hsame] at hb; cases hb
      refine ⟨by omega, b2, c', e, by rw [setRow_get]; simp [hg], by omega, fun o => ⟨fun ho => ?_, fun ho => .inr ⟨rfl, ho⟩⟩⟩
      rcases ho with ho | ⟨_, ho⟩
      · have := (b4 o).1 ho; omega
      · exact ho
    · rw [get_set_other _ _ _ _ hne] at hb
      have hd : μ t ≠ μ r := fun e2 => hne (hr.inj t r (by rw [hb]; rfl) hsome e2)
      refine (hr.blk t b hb).mono hst rfl (by rw [setRow_get, if_neg hd]) fun i hi => ?_
      rcases hi with hi | ⟨hi, _⟩
      · exact hi
      · exact absurd hi hd
  · have hlt : μ r < w.heap.size := heap_lt hg
    have hsz : (w.setRow (μ r) c').heap.size = w.heap.size := by simp [World.setRow]
    rw [hsz]
    rcases hi with hi | ⟨hi, _⟩
    · exact hr.wf b i hi
    · omega

/-- A frozen slice's cells, one behind the other. -/
theorem first_RF {P : Program} {es : List FV} {p : Option Addr} {cap sz : Nat} (h : RF w F (.sl es) (.slice p es.length cap)) (hd : headOk sz es = true) :
    ∃ news : List Value, news.length = es.length * sz ∧ (∀ w1 : World, w1.heap = w.heap → (Builtin.firstCells sz es.length (.slice p es.length cap)).run P w1 = .ok news.toArray w1) ∧
      (∀ i j e c, es[i]? = some e → e.cells[j]? = some c → RF w F c (news.getD (i * sz + j) undef)) ∧ (es ≠ [] → ∀ e ∈ es, e.cells.length = sz) := by
  rcases sl_inv h with ⟨rfl, _⟩ | ⟨hne, b, base, s, cap', vs, e, hcap, hu, hF, hc, hrf⟩
  · refine ⟨[], by simp, fun w1 _ => ?_, fun i j e c he => by simp at he, fun h => absurd rfl h⟩
    cases p with
    | none => exact run_firstCells_none w1 sz 0 0 cap
    | some p => exact run_firstCells_some w1 sz 0 p 0 cap [] (by simp) (fun j v h => by simp at h)
  · cases e
    have hs := headOk_sz hd hne hu
    subst hs
    refine ⟨(List.range (es.length * s)).map fun q => vs (q / s) (q % s), by simp, fun w1 hw1 => ?_, fun i j e c he hc' => ?_, fun _ => hu⟩
    · refine run_firstCells_some w1 s es.length ⟨b, base, none⟩ es.length cap _ (by simp) fun q v hq => ?_
      simp only [List.getElem?_map, Option.map_eq_some_iff] at hq
      obtain ⟨q', hq1, hq2⟩ := hq
      have hlt : q < es.length * s := by
        have := (List.getElem?_eq_some_iff.1 hq1).1; simpa using this
      rw [List.getElem?_range hlt] at hq1
      cases hq1
      have hs0 : 0 < s := by
        rcases Nat.eq_zero_or_pos s with h0 | h0
        · subst h0; simp at hlt
        · exact h0
      have h1 : q / s < es.length := (Nat.div_lt_iff_lt_mul hs0).2 hlt
      have h2 : q % s < s := Nat.mod_lt _ hs0
      have h3 := hc (q / s) (q % s) h1 h2
      have h4 : q / s * s + q % s = q := by rw [Nat.mul_comm]; exact Nat.div_add_mod q s
      rw [h4] at h3
      rw [Addr.add_lit]
      simp only [World.cell?, hw1] at h3 ⊢
      rw [h3, hq2]
    · have hi : i < es.length := (List.getElem?_eq_some_iff.1 he).1
      have hj : j < s := by
        have := (List.getElem?_eq_some_iff.1 hc').1
        rwa [hu e (List.mem_of_getElem? he)] at this
      have hlt : i * s + j < es.length * s := by
        have : (i + 1) * s ≤ es.length * s := Nat.mul_le_mul_right _ hi
        rw [Nat.add_mul] at this; omega
      have e1 : (i * s + j) / s = i := by
        rw [Nat.mul_comm, Nat.mul_add_div (by omega), Nat.div_eq_of_lt hj]; rfl
      have e2 : (i * s + j) % s = j := by rw [Nat.mul_comm, Nat.mul_add_mod, Nat.mod_eq_of_lt hj]
      have := hrf i j e c he hc'
      rw [List.getD_eq_getElem?_getD, List.getElem?_map, List.getElem?_range hlt]
      simpa [e1, e2] using this

/-- Two rows of elements, one behind the other: they lie in an array that begins with their cells. -/
theorem join_RF {es es2 : List FV} {olds news : List Value} {sz : Nat} (h1 : olds.length = es.length * sz)
    (h3 : ∀ i j e c, es[i]? = some e → e.cells[j]? = some c → RF w F c (olds.getD (i * sz + j) undef)) (h4 : ∀ i j e c, es2[i]? = some e → e.cells[j]? = some c → RF w F c (news.getD (i * sz + j) undef))
    (h5 : es ≠ [] → ∀ e ∈ es, e.cells.length = sz) (h6 : es2 ≠ [] → ∀ e ∈ es2, e.cells.length = sz) :
    (∀ e ∈ es ++ es2, e.cells.length = sz) ∧ ∀ i j e c, (es ++ es2)[i]? = some e → e.cells[j]? = some c → RF w F c ((olds ++ news).getD (i * sz + j) undef) := by
  have hu : ∀ e ∈ es ++ es2, e.cells.length = sz := fun e he => by
    rcases List.mem_append.1 he with he | he
    · exact h5 (fun h => by rw [h] at he; cases he) e he
    · exact h6 (fun h => by rw [h] at he; cases he) e he
  refine ⟨hu, fun i j e c he hc => ?_⟩
  have hj : j < sz := by
    have := (List.getElem?_eq_some_iff.1 hc).1
    rwa [hu e (List.mem_of_getElem? he)] at this
  by_cases hi : i < es.length
  · rw [List.getElem?_append_left hi] at he
    have hlt : i * sz + j < olds.length := by
      have : (i + 1) * sz ≤ es.length * sz := Nat.mul_le_mul_right _ hi
      rw [Nat.add_mul] at this; omega
    have := h3 i j e c he hc
    rw [List.getD_eq_getElem?_getD] at this ⊢
    rwa [List.getElem?_append_left hlt]
  · rw [List.getElem?_append_right (by omega)] at he
    have := h4 _ j e c he hc
    have hge : olds.length ≤ i * sz + j := by
      have : es.length * sz ≤ i * sz := Nat.mul_le_mul_right _ (by omega)
      omega
    rw [List.getD_eq_getElem?_getD] at this ⊢
    rw [List.getElem?_append_right hge]
    have e1 : i * sz + j - olds.length = (i - es.length) * sz + j := by
      rw [h1, Nat.sub_mul]
      have : es.length * sz ≤ i * sz := Nat.mul_le_mul_right _ (by omega)
      omega
    rwa [e1]

theorem run_append_new {P : Program} {t xt ty e e2 : TypeId} {ie : TypeInfo} {z : Value} (ht : P.underlying t = some (.slice e)) (hxt : P.underlying xt = some (.slice e2)) (hi : P.info? e = some ie) (hz : ie.zero = some z)
    {base : Option Addr} {sLen sCap : Nat} {x : Value} {n : Nat} (hx : Builtin.lenOf x = pure n) {olds news : List Value}
    (ho : ∀ w1 : World, w1.heap = w.heap → (Builtin.firstCells ie.size sLen (.slice base sLen sCap)).run P w1 = .ok olds.toArray w1) (hn : ∀ w1 : World, w1.heap = w.heap → (Builtin.firstCells ie.size n x).run P w1 = .ok news.toArray w1)
    (hb : (sLen + n) * ie.bytes ≤ 140737488355328) (hlen : sLen + n ≤ 1073741824) (hc : sCap < sLen + n) :
    (Builtin.append_ #[t, xt] ty #[.slice base sLen sCap, x]).run P w =
      .ok (.slice (some ⟨w.heap.size, 0, none⟩) (sLen + n) (grownCap w (sLen + n) sCap e)) (w.drew.alloc (.cells (olds.toArray ++ news.toArray ++ Builtin.zeroCells z.cells (grownCap w (sLen + n) sCap e - (sLen + n))) e)) := by
  have hnc : ¬ (sLen + n ≤ sCap) := by omega
  have h63 : ¬ (9223372036854775807 < ((sLen : Int) + (n : Int))) := by omega
  have hfit := growslice_fits hc hb
  have h48 : ¬ (281474976710656 < Builtin.nextslicecap (sLen + n) sCap * ie.bytes) := by omega
  have ho1 := ho w.drew rfl
  have hn1 := hn w.drew rfl
  simp [Builtin.append_, run_underlying ht, run_underlying hxt, sizeOf, typeInfo, zeroValue, hi, hz, hx, hnc, h63, h48, Question.forced, ho1, hn1, newRow, grownCap]
  congr 2
  apply Array.ext'
  simp [List.append_assoc]

theorem run_append_in {P : Program} {t xt ty e e2 : TypeId} {ie : TypeInfo} (ht : P.underlying t = some (.slice e)) (hxt : P.underlying xt = some (.slice e2)) (hi : P.info? e = some ie)
    {b : Addr} {sLen sCap : Nat} {x : Value} {n : Nat} (hx : Builtin.lenOf x = pure n) {news : List Value} (hn : (Builtin.firstCells ie.size n x).run P w = .ok news.toArray w) {w' : World}
    (hst : (storeCells (b.add (sLen * ie.size)) news).run P w = .ok () w') (hc : sLen + n ≤ sCap) :
    (Builtin.append_ #[t, xt] ty #[.slice (some b) sLen sCap, x]).run P w = .ok (.slice (some b) (sLen + n) sCap) w' := by
  simp [Builtin.append_, run_underlying ht, run_underlying hxt, sizeOf, typeInfo, hi, hx, hc, hn, hst]
theorem run_append_none {P : Program} {t xt ty e e2 : TypeId} {ie : TypeInfo} (ht : P.underlying t = some (.slice e)) (hxt : P.underlying xt = some (.slice e2)) (hi : P.info? e = some ie)
    {sLen sCap : Nat} {x : Value} {n : Nat} (hx : Builtin.lenOf x = pure n) {news : List Value} (hn : (Builtin.firstCells ie.size n x).run P w = .ok news.toArray w) (hc : sLen + n ≤ sCap) :
    (Builtin.append_ #[t, xt] ty #[.slice none sLen sCap, x]).run P w = .ok (.slice none (sLen + n) sCap) w := by
  simp [Builtin.append_, run_underlying ht, run_underlying hxt, sizeOf, typeInfo, hi, hx, hc, hn]
end
end Idl
end Go.Proofs.Ytbkdidonegggdaa

/-
  THE IDEAL SEMANTICS AND MEMORY: operations, fifth part: slicing, maps, lengths.
-/
import Derived.Test.YtbkdidonegggdaaIdl8
namespace Go.Proofs.Ytbkdidonegggdaa
namespace Idl

section
variable {E : Env} {μ : Ref → Nat} {w : World} {F : Prot} {hp hp' : Hp} {slots : List IV} {a : Act} {ih : Handler} {f : FuncId} {rid i k : Nat} {m : Made} {o : Oper}

theorem natIn_R {v : IV} {u : Value} {n r : Nat} (h : R μ w F hp v u) (e : natIn v n = some r) : ∃ kk j, u = .int kk j ∧ 0 ≤ j ∧ j ≤ (n : Int) ∧ r = j.toNat := by
  unfold natIn at e
  split at e
  · split at e
    · rename_i hc
      cases h with | fv _ _ h =>
      cases h
      exact ⟨_, _, rfl, hc.1, hc.2, (Option.some.inj e).symm⟩
    · cases e
  · cases e
theorem run_bound {P : Program} {v : IV} {u : Value} {n r y : Nat} (h : R μ w F hp v u) (e : natIn v n = some r) (hy : n ≤ y) (code : BoundsCode) : (Instr.sliceBound u y code).run P w = .ok r w ∧ r ≤ n := by
  obtain ⟨kk, j, rfl, h0, h1, rfl⟩ := natIn_R h e
  exact ⟨run_sliceBound (P := P) w kk j y code h0 (by omega), by omega⟩

theorem run_bounds2 {P : Program} (hs : SlotsR μ w F hp slots a.tmps) {lo hi : Option Operand} (isS : Bool) {len cap H L : Nat} (hcap : len ≤ cap) (e1 : optIn (hi.map (operand slots)) len len = some H)
    (e2 : optIn (lo.map (operand slots)) H 0 = some L) : (Instr.sliceBounds isS len cap (lo.map a.eval) (hi.map a.eval) none).run P w = .ok (L, H, cap) w ∧ L ≤ H ∧ H ≤ len := by
  have hh : H ≤ len := by
    cases hi with
    | none => simp only [Option.map_none, optIn, Option.some.injEq] at e1; omega
    | some x => exact (run_bound (P := P) (operand_R hs x) e1 hcap .sliceB).2
  cases lo with
  | none =>
    simp only [Option.map_none, optIn, Option.some.injEq] at e2
    subst e2
    refine ⟨?_, Nat.zero_le _, hh⟩
    cases hi with
    | none => simp only [Option.map_none, optIn, Option.some.injEq] at e1; subst e1; simp [Instr.sliceBounds]
    | some y =>
      have g := fun code => (run_bound (P := P) (operand_R hs y) e1 hcap code).1
      simp [Instr.sliceBounds, g]
  | some x =>
    obtain ⟨g1, g2⟩ := run_bound (P := P) (operand_R hs x) e2 (Nat.le_refl H) .sliceB
    refine ⟨?_, g2, hh⟩
    cases hi with
    | none => simp only [Option.map_none, optIn, Option.some.injEq] at e1; subst e1; simp [Instr.sliceBounds, g1]
    | some y =>
      have g := fun code => (run_bound (P := P) (operand_R hs y) e1 hcap code).1
      simp [Instr.sliceBounds, g, g1]

theorem run_bounds3 {P : Program} (hs : SlotsR μ w F hp slots a.tmps) {lo : Option Operand} {hv mv : Operand} {len cap H L M : Nat} (hcap : len ≤ cap) (e0 : natIn (operand slots mv) len = some M)
    (e1 : natIn (operand slots hv) M = some H) (e2 : optIn (lo.map (operand slots)) H 0 = some L) :
    (Instr.sliceBounds true len cap (lo.map a.eval) (some (a.eval hv)) (some (a.eval mv))).run P w = .ok (L, H, M) w ∧ L ≤ H ∧ H ≤ M ∧ M ≤ len := by
  obtain ⟨r0, l0⟩ := run_bound (P := P) (operand_R hs mv) e0 hcap .slice3Acap
  obtain ⟨r1, l1⟩ := run_bound (P := P) (operand_R hs hv) e1 (Nat.le_refl M) .slice3B
  cases lo with
  | none =>
    simp only [Option.map_none, optIn, Option.some.injEq] at e2
    subst e2
    exact ⟨by simp [Instr.sliceBounds, r0, r1], Nat.zero_le _, l1, l0⟩
  | some x =>
    obtain ⟨g1, g2⟩ := run_bound (P := P) (operand_R hs x) e2 (Nat.le_refl H) .slice3C
    exact ⟨by simp [Instr.sliceBounds, r0, r1, g1], g2, l1, l0⟩

/-- A part of a frozen slice. -/
theorem sl_sub {es : List FV} {p : Option Addr} {cap sz L H M : Nat} (h : RF w F (.sl es) (.slice p es.length cap)) (hd : headOk sz es = true) (h1 : L ≤ H) (h2 : H ≤ es.length) (h3 : H ≤ M) (h4 : M ≤ cap) :
    RF w F (.sl ((es.drop L).take (H - L))) (.slice (if M = L then p else p.map (·.add (L * sz))) (H - L) (M - L)) := by
  by_cases h0 : H - L = 0
  · rw [h0, List.take_zero]
    refine .sl0 _ _ fun hn => ?_
    have hp : p = none := by
      split at hn
      · exact hn
      · simpa using hn
    subst hp
    rcases sl_inv h with ⟨_, a, c, e, hc⟩ | ⟨_, b, base, _, _, _, e, _⟩
    · injection e with e1 _ e3
      have := hc e1.symm
      omega
    · injection e with e1; cases e1
  · rcases sl_inv h with ⟨rfl, _⟩ | ⟨hne, b, base, s, cap', vs, e, hcap, hu, hF, hc, hrf⟩
    · simp at h2; omega
    · cases e
      have hs := headOk_sz hd hne hu
      subst hs
      have hlen : ((es.drop L).take (H - L)).length = H - L := by simp; omega
      have hget : ∀ i e, ((es.drop L).take (H - L))[i]? = some e → es[L + i]? = some e := fun i e he => by
        rw [List.getElem?_take] at he
        split at he
        · rwa [List.getElem?_drop] at he
        · cases he
      have := RF.sl (w := w) (F := F) ((es.drop L).take (H - L)) b (base + L * s) s (M - L) (fun i j => vs (L + i) j) (fun e => by rw [e] at hlen; simp at hlen; omega) (by rw [hlen]; omega)
        (fun e he => hu e (List.mem_of_mem_drop (List.mem_of_mem_take he)))
        (fun i j hi hj => by rw [hlen] at hi; have := hF (L + i) j (by omega) hj; rwa [Nat.add_mul, Nat.add_assoc, ← Nat.add_assoc base] at this)
        (fun i j hi hj => by rw [hlen] at hi; have := hc (L + i) j (by omega) hj; rwa [Nat.add_mul, Nat.add_assoc, ← Nat.add_assoc base] at this)
        (fun i j e c he hc => hrf _ _ _ _ (hget i e he) hc)
      rw [if_neg (by omega), Option.map_some, Addr.add_lit]
      rw [hlen] at this
      exact this

theorem op_slice (hE : EnvOk E) (hr : HR μ w F hp) (hs : SlotsR μ w F hp slots a.tmps) {t : TypeId} {x : Operand} {lo hi mx : Option Operand} (ho : o.op = .slice t x lo hi mx)
    (h : (opR E ih f rid i slots o.op).run hp = some m) (h' : heapOf k hp m = some hp') : OpOk μ w F hp m.eff.val hp' ((execOp a.eval o).run E.P w) := by
  simp only [ho, opR, opG, sliceR] at h
  have hx := operand_R hs x
  generalize hxv : a.eval x = xv at hx
  split at h
  · rename_i htt
    have hut := und_str (hE.types _ _ htt)
    split at h
    · rename_i s hxe hmx
      obtain ⟨e1, rfl⟩ := valO_case h h'
      simp only [Option.bind_eq_some_iff, Option.map_eq_some_iff] at e1
      obtain ⟨H, e1, L, e2, e3⟩ := e1
      have hmx' : mx = none := by cases mx <;> simp_all
      subst hmx'
      rw [hxe] at hx
      cases hx with | fv _ _ hx =>
      cases hx
      obtain ⟨hb, _, _⟩ := run_bounds2 (P := E.P) hs false (Nat.le_refl s.size) e1 e2
      rw [← e3]
      refine .val hr (.fv _ _ (.str _)) ?_
      simp [execOp, ho, hxv, Instr.sliceAt, run_underlying hut, Instr.slice, hb]
    · exact fail_case h
  · rename_i e _ htt
    have hut := und_slice (hE.types _ _ htt)
    split at h
    · exact fail_case h
    rename_i ei hte
    have hTe := hE.types _ _ hte
    obtain ⟨⟨fx, u⟩, e1, h⟩ := Rd.run_bind_some h
    obtain ⟨mk, hf⟩ := (frz_ok hr 4096).1 _ _ fx u hx e1
    simp only at h
    split at h
    · rename_i es
      split at h
      · exact fail_case h
      rename_i hd
      have hd : headOk ei.size es = true := by simpa using hd
      have hxs : ∃ p cap, xv = .slice p es.length cap ∧ es.length ≤ cap := by
        rcases sl_inv hf with ⟨rfl, p, cap, rfl, _⟩ | ⟨_, b, base, sz, cap, vs, rfl, hcap, _⟩
        · exact ⟨p, cap, rfl, Nat.zero_le _⟩
        · exact ⟨_, cap, rfl, hcap⟩
      obtain ⟨p, cap, rfl, hcap⟩ := hxs
      have fin : ∀ {v : IV} {y : Value}, m = { eff := { val := v, upd := u } } → (execOp a.eval o).run E.P w = .ok (.value y) w → R μ w (addF μ u F) hp' v y → OpOk μ w F hp m.eff.val hp' ((execOp a.eval o).run E.P w) := by
        intro v y e2 e3 e4
        subst e2
        simp only [heapOf] at h'
        cases hl : laid hp u with
        | none => rw [hl] at h'; cases h'
        | some hp1 =>
          rw [hl] at h'
          simp only [Option.bind_some, newOf, Option.some.injEq] at h'
          subst h'
          obtain ⟨s1, hr1⟩ := marks_stp hr mk hl
          exact ⟨y, w, μ, _, .inl e3, s1, hr1, e4⟩
      cases mx with
      | none =>
        simp only [Option.map_none] at h
        split at h
        · rename_i L H hb
          simp only [Option.bind_eq_some_iff, Option.map_eq_some_iff] at hb
          obtain ⟨H', e2, L', e3, e4⟩ := hb
          cases e4
          obtain ⟨hb, h1, h2⟩ := run_bounds2 (P := E.P) hs true hcap e2 e3
          simp only [Rd.run, Option.some.injEq] at h
          refine fin h.symm ?_ (.fv _ _ (sl_sub hf hd h1 h2 (M := cap) (by omega) (Nat.le_refl _)))
          simp [execOp, ho, hxv, Instr.sliceAt, run_underlying hut, Instr.slice, hb, run_sizeOf' hTe]
        · exact fail_case h
      | some mo =>
        simp only [Option.map_some] at h
        cases hi with
        | none => exact fail_case h
        | some hov =>
          simp only [Option.map_some] at h
          split at h
          · rename_i L H hb
            simp only [Option.bind_eq_some_iff] at hb
            obtain ⟨M, e2, H', e3, L', e4, e5⟩ := hb
            split at e5
            · rename_i hMH
              cases e5
              · obtain ⟨hb, h1, h2, h3⟩ := run_bounds3 (P := E.P) hs hcap e2 e3 e4
                simp only [Rd.run, Option.some.injEq] at h
                subst hMH
                have hlen : ((es.drop L).take (M - L)).length = M - L := by simp; omega
                have hrun : (execOp a.eval o).run E.P w = .ok (.value (.slice (if M = L then p else p.map (·.add (L * ei.size))) (M - L) (M - L))) w := by
                  simp [execOp, ho, hxv, Instr.sliceAt, run_underlying hut, Instr.slice, hb, run_sizeOf' hTe]
                refine fin h.symm hrun ?_
                have hsub := sl_sub hf hd h1 (by omega) (M := M) (Nat.le_refl M) (by omega)
                by_cases h0 : M - L = 0
                · rw [h0, List.take_zero]; exact .clip0 _
                · rcases sl_inv hsub with ⟨e6, _⟩ | ⟨_, b, base, sz, cap', vs, e6, _⟩
                  · rw [e6] at hlen; simp at hlen; omega
                  · have e7 : (if M = L then p else p.map (·.add (L * ei.size))) = some ⟨b, base, none⟩ := by
                      injection e6
                    rw [e7] at hsub ⊢
                    have h8 := R.clip (μ := μ) (hp := hp') ((es.drop L).take (M - L)) ⟨b, base, none⟩ (by rw [hlen]; exact hsub)
                    rw [hlen] at h8
                    exact h8
            · cases e5
          · exact fail_case h
    · exact fail_case h
  · exact fail_case h

/-! ## Maps -/
def posOf (n : Int) : List (Int × IV) → Option Nat
  | [] => none
  | (j, _) :: l => if n = j then some 0 else (posOf n l).map (· + 1)
theorem getMap_pos (n : Int) : ∀ l : List (Int × IV), getMap n l = (posOf n l).bind fun j => (l[j]?).map (·.2)
  | [] => rfl
  | (j, x) :: l => by
    by_cases h : n = j
    · simp [getMap, posOf, h]
    · simp only [getMap, posOf, if_neg h, getMap_pos n l, Option.bind_map]
      congr 1
theorem posOf_get {n : Int} : ∀ {l : List (Int × IV)} {p : Nat}, posOf n l = some p → ∃ x, l[p]? = some (n, x)
  | [], _, h => by cases h
  | (j, x) :: l, p, h => by
    by_cases e : n = j
    · simp [posOf, e] at h; subst h; exact ⟨x, by simp [e]⟩
    · simp only [posOf, if_neg e, Option.map_eq_some_iff] at h
      obtain ⟨q, h1, rfl⟩ := h
      obtain ⟨y, hy⟩ := posOf_get h1
      exact ⟨y, by simpa using hy⟩
theorem putMap_none {n : Int} {v : IV} : ∀ {l : List (Int × IV)}, posOf n l = none → putMap n v l = l ++ [(n, v)]
  | [], _ => rfl
  | (j, x) :: l, h => by
    by_cases e : n = j
    · simp [posOf, e] at h
    · simp only [posOf, if_neg e, Option.map_eq_none_iff] at h
      simp [putMap, e, putMap_none h]
theorem putMap_some {n : Int} {v : IV} : ∀ {l : List (Int × IV)} {p : Nat}, posOf n l = some p → putMap n v l = l.set p (n, v)
  | [], _, h => by cases h
  | (j, x) :: l, p, h => by
    by_cases e : n = j
    · simp [posOf, e] at h; subst h; simp [putMap, e]
    · simp only [posOf, if_neg e, Option.map_eq_some_iff] at h
      obtain ⟨q, h1, rfl⟩ := h
      simp [putMap, e, putMap_some h1]

theorem findNow_pos (n : Int) : ∀ (l : List (Int × IV)) (es : List MapEntry) (i0 : Nat), es.length = l.length → (∀ (j : Nat) k x, l[j]? = some (k, x) → ∃ me : MapEntry, es[j]? = some me ∧ me.key = .int .i64 k) →
    ∃ r, Instr.findNow (.int .i64) (.int .i64 n) es i0 = some r ∧ (posOf n l = none → r = none) ∧ ∀ p, posOf n l = some p → ∃ me : MapEntry, es[p]? = some me ∧ r = some (i0 + p, me.val)
  | [], es, i0, hl, _ => by
    have : es = [] := List.eq_nil_of_length_eq_zero hl
    subst this
    exact ⟨none, rfl, fun _ => rfl, fun p h => by cases h⟩
  | (j, x) :: l, es, i0, hl, h => by
    cases es with
    | nil => simp at hl
    | cons me es =>
      obtain ⟨me', h1, h2⟩ := h 0 j x rfl
      simp only [List.getElem?_cons_zero, Option.some.injEq] at h1
      subst h1
      by_cases e : n = j
      · subst e
        refine ⟨some (i0, me.val), by simp [Instr.findNow, h2, Instr.sameNow], fun hn => by simp [posOf] at hn, fun p hp => ?_⟩
        simp [posOf] at hp; subst hp
        exact ⟨me, rfl, rfl⟩
      · obtain ⟨r, h3, h4, h5⟩ := findNow_pos n l es (i0 + 1) (by simpa using hl) (fun q k y hq => h (q + 1) k y (by simpa using hq))
        have hb : (n == j) = false := by simpa using e
        refine ⟨r, by simp [Instr.findNow, h2, Instr.sameNow, hb, h3], fun hn => h4 (by simpa [posOf, e] using hn), fun p hp => ?_⟩
        simp only [posOf, if_neg e, Option.map_eq_some_iff] at hp
        obtain ⟨q, hq, rfl⟩ := hp
        obtain ⟨me2, h6, h7⟩ := h5 q hq
        exact ⟨me2, by simpa using h6, by rw [h7]; congr 2; omega⟩

theorem checkKey_int {P : Program} {t : TypeId} {k : IntKind} (h : P.underlying t = some (.int k)) (b : Bool) (n : Nat) (v : Value) : (Instr.checkKey b (n + 1) t v).run P w = .ok () w := by
  cases v <;> simp [Instr.checkKey, run_underlying h]
theorem getObj_run {P : Program} {r : Nat} {arr : Array MapEntry} {clk : Nat} (h : w.heap[r]? = some (.map arr clk)) : (getObj r).run P w = .ok (.map arr clk) w := by
  simp [getObj, Sem.run, h]
theorem setObj_run {P : Program} {r : Nat} {arr : Array MapEntry} {clk : Nat} (h : w.heap[r]? = some (.map arr clk)) (ob : Obj) : (setObj r ob).run P w = .ok () { w with heap := w.heap.setIfInBounds r ob } := by
  simp [setObj, Sem.run, h]

/-- A map of the call's own is written. -/
theorem map_stp (hr : HR μ w F hp) (r : Ref) (es es' : List (Int × IV)) (arr arr' : Array MapEntry) (clk clk' : Nat) (h : hp.get r = some (.map es)) (hg : w.heap[μ r]? = some (.map arr clk)) (hl : arr'.size = es'.length)
    (hc : ∀ (j : Nat) n x, es'[j]? = some (n, x) → ∃ me : MapEntry, arr'[j]? = some me ∧ me.key = .int .i64 n ∧ R μ w F hp x me.val) :
    let w' : World := { w with heap := w.heap.setIfInBounds (μ r) (.map arr' clk') }
    Stp μ w F hp μ w' F (hp.set r (.map es')) ∧ HR μ w' F (hp.set r (.map es')) := by
  intro w'
  have hlt : μ r < w.heap.size := heap_lt hg
  have hget : ∀ b, w'.heap[b]? = if b = μ r then some (.map arr' clk') else w.heap[b]? := fun b => by
    show (w.heap.setIfInBounds (μ r) _)[b]? = _
    rw [Array.getElem?_setIfInBounds]
    by_cases e : μ r = b
    · subst e; simp [hlt]
    · rw [if_neg e, if_neg (fun e2 => e e2.symm)]
  have hsome : (hp.get r).isSome := by rw [h]; rfl
  have hnF : ∀ o v, w.cell? ⟨μ r, o, none⟩ = some v → False := fun o v hv => by simp [World.cell?, hg] at hv
  have hsame := get_set_same hp r (.map es') hsome
  have hoth : ∀ s b', s ≠ r → hp.get s = some b' → (hp.set r (.map es')).get s = some b' := fun s b' hn h => by rw [get_set_other _ _ _ _ hn]; exact h
  have hst : Stp μ w F hp μ w' F (hp.set r (.map es')) := by
    refine ⟨⟨fun b c e fr hb => ⟨c, ?_, rfl⟩, fun b o v _ hv => ?_, ?_, fun x => ?_, rfl, rfl, rfl⟩, fun _ _ h => h, fun s cs ro hs' => ⟨?_, rfl⟩, fun s es hs' => ⟨?_, rfl⟩, fun s n sz hs' => ⟨n, ?_, Nat.le_refl _, .inl rfl⟩,
      fun s h1 h2 => ?_, fun b hb hb' => ?_, fun _ _ h => .inl h⟩
    · rw [hget, if_neg (fun e => by rw [e, hg] at hb; cases hb)]; exact hb
    · by_cases e : b = μ r
      · subst e; exact (hnF _ _ hv).elim
      · simp only [World.cell?, hget, if_neg e] at hv ⊢; exact hv
    · show w.heap.size ≤ (w.heap.setIfInBounds _ _).size
      simp
    · simp only [World.frozen?, hget]
      by_cases e : x.block = μ r
      · rw [if_pos e, e, hg]
      · rw [if_neg e]
    · by_cases e : s = r
      · subst e; rw [h] at hs'; cases hs'
      · exact ⟨cs, ro, hoth s _ e hs'⟩
    · by_cases e : s = r
      · subst e; exact ⟨_, hsame⟩
      · exact ⟨es, hoth s _ e hs'⟩
    · by_cases e : s = r
      · subst e; rw [h] at hs'; cases hs'
      · exact hoth s _ e hs'
    · by_cases e : s = r
      · subst e; rw [h] at h1; cases h1
      · rw [get_set_other _ _ _ _ e, h1] at h2; cases h2
    · rw [hget, if_neg (fun e => hb' r hsome e.symm)]
  have hsome' : ∀ s, ((hp.set r (.map es')).get s).isSome → (hp.get s).isSome := fun s hs' => by
    by_cases e : s = r
    · rw [e]; exact hsome
    · rwa [get_set_other _ _ _ _ e] at hs'
  refine ⟨hst, fun s b hb => ?_, fun s t h1 h2 e => hr.inj s t (hsome' s h1) (hsome' t h2) e, fun b o h => ?_⟩
  · by_cases e1 : s = r
    · subst e1
      rw [hsame] at hb; cases hb
      refine ⟨arr', clk', by rw [hget, if_pos rfl], hl, fun j n x hx => ?_⟩
      obtain ⟨me, g1, g2, g3⟩ := hc j n x hx
      exact ⟨me, g1, g2, g3.mono hst⟩
    · rw [get_set_other _ _ _ _ e1] at hb
      refine (hr.blk s b hb).mono hst rfl ?_ fun _ h => h
      rw [hget, if_neg (fun e2 => e1 (hr.inj s r (by rw [hb]; rfl) hsome e2))]
  · have := hr.wf b o h
    show b < (w.heap.setIfInBounds _ _).size
    simpa using this

theorem op_insert (hE : EnvOk E) (hr : HR μ w F hp) (hs : SlotsR μ w F hp slots a.tmps) {t : TypeId} {x y z : Operand} (ho : o.op = .insert t x y z ∨ o.op = .mapUpdate t x y z)
    (h : (opR E ih f rid i slots (.insert t x y z)).run hp = some m) (h' : heapOf k hp m = some hp') : OpOk μ w F hp m.eff.val hp' ((execOp a.eval o).run E.P w) := by
  simp only [opR, opG] at h
  have hx := operand_R hs x
  have hy := operand_R hs y
  have hz := operand_R hs z
  generalize hxv : a.eval x = xv at hx
  generalize hyv : a.eval y = yv at hy
  split at h
  · rename_i kt et _ htt
    have hut := und_map (hE.types _ _ htt)
    split at h
    · rename_i r n htk hxe hye
      have huk := und_int (hE.types _ _ htk)
      rw [hxe] at hx; rw [hye] at hy
      cases hx with | mapr _ hg =>
      cases hy with | fv _ _ hy =>
      cases hy
      obtain ⟨b, hb, h⟩ := Rd.run_get_some h
      cases b with
      | row => exact fail_case h
      | tok => exact fail_case h
      | map es =>
        simp only at h
        split at h
        · simp only [Rd.run, Option.some.injEq] at h
          subst h
          simp only [heapOf, newOf, laid, hb, Option.bind_some, Option.some.injEq] at h'
          subst h'
          obtain ⟨arr, clk, hw, hsz, hent⟩ := hr.blk _ _ hb
          obtain ⟨q, q1, q2, q3⟩ := findNow_pos n es arr.toList 0 (by simpa using hsz) (fun j k x hj => by
            obtain ⟨me, g1, g2, _⟩ := hent j k x hj
            exact ⟨me, by simpa using g1, g2⟩)
          have hexec : (execOp a.eval o).run E.P w = ((Instr.mapUpdate t (a.eval x) (a.eval y) (a.eval z)).run E.P w).andThen fun _ w' => .ok .skip w' := by
            rcases ho with ho | ho <;> simp [execOp, ho]
          have hfind : (Instr.findKey kt (.int .i64 n) arr.toList).run E.P w = .ok q w := by
            simp [Instr.findKey, run_underlying huk, q1]
          cases hpos : posOf n es with
          | none =>
            have := q2 hpos
            subst this
            obtain ⟨s1, s2⟩ := map_stp hr r es (putMap n (operand slots z) es) arr (arr.push { key := .int .i64 n, val := a.eval z, born := clk }) clk (clk + 1) hb hw (by rw [putMap_none hpos]; simp [hsz]) (fun j k' x' hj => by
              rw [putMap_none hpos] at hj
              by_cases c : j < es.length
              · rw [List.getElem?_append_left c] at hj
                obtain ⟨me, g1, g2, g3⟩ := hent j k' x' hj
                exact ⟨me, by rw [Array.getElem?_push, if_neg (by omega)]; exact g1, g2, g3⟩
              · rw [List.getElem?_append_right (by omega)] at hj
                have hj0 : j = es.length := by
                  rcases Nat.lt_or_ge (j - es.length) 1 with h | h
                  · omega
                  · rw [List.getElem?_eq_none (by simpa using h)] at hj; cases hj
                subst hj0
                simp at hj
                obtain ⟨rfl, rfl⟩ := hj
                exact ⟨_, by rw [Array.getElem?_push, if_pos hsz.symm], rfl, hz⟩)
            refine ⟨undef, _, μ, F, .inr ⟨?_, rfl⟩, s1, s2, .dead _⟩
            rw [hexec, hxv, hyv]
            simp only [Instr.mapUpdate, run_underlying hut, Sem.run_bind, Result.andThen_ok, getObj_run hw, checkKey_int huk false 9999, hfind, setObj_run hw]
          | some p =>
            obtain ⟨me0, g1, rfl⟩ := q3 p hpos
            obtain ⟨x0, hx0⟩ := posOf_get hpos
            obtain ⟨me1, g2, g3, _⟩ := hent p n x0 hx0
            have hme : me0 = me1 := by simp only [Array.getElem?_toList] at g1; rw [g1] at g2; exact Option.some.inj g2
            subst hme
            have hpl : p < arr.size := (Array.getElem?_eq_some_iff.1 g2).1
            obtain ⟨s1, s2⟩ := map_stp hr r es (putMap n (operand slots z) es) arr (arr.modify p fun e => { e with key := .int .i64 n, val := a.eval z }) clk clk hb hw (by rw [putMap_some hpos]; simp [hsz]) (fun j k' x' hj => by
              rw [putMap_some hpos] at hj
              by_cases c : p = j
              · subst c
                rw [List.getElem?_set_self (by omega)] at hj
                simp only [Option.some.injEq, Prod.mk.injEq] at hj
                obtain ⟨rfl, rfl⟩ := hj
                exact ⟨{ me0 with key := .int .i64 n, val := a.eval z }, by rw [Array.getElem?_modify, if_pos rfl, g2]; rfl, rfl, hz⟩
              · rw [List.getElem?_set_ne c] at hj
                obtain ⟨me, h1, h2, h3⟩ := hent j k' x' hj
                exact ⟨me, by rw [Array.getElem?_modify, if_neg c]; exact h1, h2, h3⟩)
            refine ⟨undef, _, μ, F, .inr ⟨?_, rfl⟩, s1, s2, .dead _⟩
            rw [hexec, hxv, hyv]
            have hkey : ((arr[p]?).map (·.key)).getD (.int .i64 n) = .int .i64 n := by rw [g2]; simp [g3]
            simp only [Instr.mapUpdate, run_underlying hut, Sem.run_bind, Result.andThen_ok, getObj_run hw, checkKey_int huk false 9999, hfind, Nat.zero_add, hkey, Instr.keyThatStays]
            have hsame : Instr.sameBits 10000 (.int .i64 n) (.int .i64 n) = true := by simp [Instr.sameBits]
            simp only [hsame, if_true, Sem.run_pure, Result.andThen_ok, setObj_run hw]
        · exact fail_case h
    · exact fail_case h
  · exact fail_case h

theorem op_lookup (hE : EnvOk E) (hr : HR μ w F hp) (hs : SlotsR μ w F hp slots a.tmps) {t : TypeId} {x y : Operand} {ok : Bool} (ho : o.op = .lookup t x y ok)
    (h : (opR E ih f rid i slots o.op).run hp = some m) (h' : heapOf k hp m = some hp') : OpOk μ w F hp m.eff.val hp' ((execOp a.eval o).run E.P w) := by
  simp only [ho, opR, opG] at h
  have hx := operand_R hs x
  have hy := operand_R hs y
  generalize hxv : a.eval x = xv at hx
  generalize hyv : a.eval y = yv at hy
  split at h
  · rename_i kt et _ htt
    have hut := und_map (hE.types _ _ htt)
    split at h
    · rename_i ei r n htk hte hxe hye
      have huk := und_int (hE.types _ _ htk)
      have hTe := hE.types _ _ hte
      rw [hxe] at hx; rw [hye] at hy
      cases hx with | mapr _ hg =>
      cases hy with | fv _ _ hy =>
      cases hy
      obtain ⟨b, hb, h⟩ := Rd.run_get_some h
      cases b with
      | row => exact fail_case h
      | tok => exact fail_case h
      | map es =>
        simp only at h
        obtain ⟨arr, clk, hw, hsz, hent⟩ := hr.blk _ _ hb
        obtain ⟨q, q1, q2, q3⟩ := findNow_pos n es arr.toList 0 (by simpa using hsz) (fun j k x hj => by
          obtain ⟨me, g1, g2, _⟩ := hent j k x hj
          exact ⟨me, by simpa using g1, g2⟩)
        have hfind : (Instr.findKey kt (.int .i64 n) arr.toList).run E.P w = .ok q w := by
          simp [Instr.findKey, run_underlying huk, q1]
        have pair : ∀ {v : IV} {z : Value} (bb : Bool), R μ w F hp v z → R μ w F hp (if ok then mkTuple [v, .fv (.bool bb)] else v) (if ok then .tuple #[z, .bool bb] else z) := by
          intro v z bb hv
          cases ok with
          | false => exact hv
          | true =>
            refine mkTuple_R rfl fun j y hy => ?_
            match j, hy with
            | 0, hy => simp at hy; subst hy; simpa using hv
            | 1, hy => simp at hy; subst hy; exact .fv _ _ (.bool bb)
            | j + 2, hy => simp at hy
        split at h
        · rename_i v hv
          obtain ⟨e1, rfl⟩ := val_case h h'
          rw [getMap_pos] at hv
          simp only [Option.bind_eq_some_iff, Option.map_eq_some_iff] at hv
          obtain ⟨p, hpos, ⟨n', v'⟩, g1, rfl⟩ := hv
          obtain ⟨me, g2, rfl⟩ := q3 p hpos
          obtain ⟨me', g3, g4, g5⟩ := hent p n' v' g1
          have hme : me = me' := by simp only [Array.getElem?_toList] at g2; rw [g2] at g3; exact Option.some.inj g3
          subst hme
          rw [e1]
          refine .val hr (pair true g5) ?_
          simp only [execOp, ho, hxv, hyv, Instr.lookup, run_underlying hut, Sem.run_bind, Result.andThen_ok, getObj_run hw, checkKey_int huk _ 9999, hfind, Sem.run_pure]
        · rename_i hv
          split at h
          · rename_i zv hzv
            obtain ⟨e1, rfl⟩ := val_case h h'
            have hpos : posOf n es = none := by
              rw [getMap_pos] at hv
              cases hp0 : posOf n es with
              | none => rfl
              | some p =>
                obtain ⟨x0, hx0⟩ := posOf_get hp0
                rw [hp0] at hv
                simp [hx0] at hv
            have := q2 hpos
            subst this
            obtain ⟨z, hz, hz1, hz2, hz3, hz4⟩ := zero_of hTe
            rw [e1]
            have hRz : R μ w F hp' zv z := by
              unfold zeroOf at hzv
              obtain ⟨_, z', g1, g2, g3, _⟩ := zero_lie (μ := μ) (w := w) (F := F) (hp := hp') hTe
              obtain ⟨_, z'', g4, _, _, g5, _⟩ := hTe.info
              have hzz : z' = z := by
                have e2 := hz w
                simp [zeroValue, typeInfo, g1, g2] at e2
                exact e2
              subst hzz
              split at hzv
              · rename_i hagg
                simp only [Option.some.injEq] at hzv
                rw [← hzv, hz3 hagg]
                exact mkAgg_R g3.1 g3.2
              · rename_i hagg
                split at hzv
                · rename_i x0 hx0
                  simp only [Option.some.injEq] at hzv
                  subst hzv
                  have := g3.2 0 x0 (by rw [hx0]; rfl)
                  rw [hz4 (by simpa using hagg)] at this
                  simpa using this
                · cases hzv
            refine .val hr (pair false hRz) ?_
            simp only [execOp, ho, hxv, hyv, Instr.lookup, run_underlying hut, Sem.run_bind, Result.andThen_ok, getObj_run hw, checkKey_int huk _ 9999, hfind, Sem.run_pure, hz]
          · exact fail_case h
    · exact fail_case h
  · exact fail_case h
end
end Idl
end Go.Proofs.Ytbkdidonegggdaa

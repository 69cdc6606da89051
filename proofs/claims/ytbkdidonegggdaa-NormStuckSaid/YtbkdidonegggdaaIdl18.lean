/-
  THE IDEAL SEMANTICS AND MEMORY: bodies; functions.
-/
import Derived.LoopN
import Derived.Test.YtbkdidonegggdaaIdl17
namespace Go.Proofs.Ytbkdidonegggdaa
namespace Idl

section
variable {μ : Ref → Nat} {w : World} {F : Prot} {hp hp' : Hp}
theorem kill_R : ∀ (is : List Nat) {slots : List IV} {tmps : Array Value}, SlotsR μ w F hp slots tmps → SlotsR μ w F hp (killSlots is slots) tmps
  | [], _, _, h => h
  | i :: is, slots, tmps, h => by
    refine kill_R is ⟨by simp [h.size], fun j v hv => ?_⟩
    by_cases e : i = j
    · subst e
      by_cases hl : i < slots.length
      · rw [List.getElem?_set_self hl] at hv; cases hv; exact .dead _
      · rw [List.getElem?_eq_none (by simp; omega)] at hv; cases hv
    · rw [List.getElem?_set_ne e] at hv; exact h.at_ j v hv
end

theorem lookup_filter (gone : List Nat) (k : Nat) : ∀ (l : List (Nat × Blk)), lookupOwn k (l.filter fun p => !gone.contains p.1) = if gone.contains k then none else lookupOwn k l
  | [] => by simp [lookupOwn]
  | (j, b) :: l => by
    have ih := lookup_filter gone k l
    by_cases hj : gone.contains j = true
    · rw [List.filter_cons_of_neg (by simpa using hj), ih]
      by_cases hk : gone.contains k = true
      · rw [if_pos hk, if_pos hk]
      · have : k ≠ j := fun e => hk (e ▸ hj)
        rw [if_neg hk, if_neg hk]
        simp [lookupOwn, this]
    · rw [List.filter_cons_of_pos (by simpa using hj)]
      by_cases hkj : k = j
      · subst hkj
        rw [if_neg hj]
        simp [lookupOwn]
      · simp only [lookupOwn, if_neg hkj]
        exact ih
theorem lookup_mem {k : Nat} {b : Blk} : ∀ {l : List (Nat × Blk)}, lookupOwn k l = some b → (k, b) ∈ l
  | [], h => by cases h
  | (j, c) :: l, h => by
    simp only [lookupOwn] at h
    split at h
    · rename_i e; subst e; simp only [Option.some.injEq] at h; subst h; exact List.mem_cons_self
    · exact List.mem_cons_of_mem _ (lookup_mem h)
theorem anyIn_false {gone : List Nat} : ∀ {l : List Ref}, anyIn gone l = false → ∀ k, Ref.own k ∈ l → gone.contains k = false
  | [], _, k, h => by cases h
  | .own j :: l, h, k, hk => by
    simp only [anyIn, Bool.or_eq_false_iff] at h
    rcases List.mem_cons.1 hk with e | e
    · cases e; exact h.1
    · exact anyIn_false h.2 k e
  | .ext j :: l, h, k, hk => by
    simp only [anyIn] at h
    rcases List.mem_cons.1 hk with e | e
    · cases e
    · exact anyIn_false h k e

section
variable {E : Env} {ih : Handler} {μ0 : Ref → Nat} {w0 : World} {F0 : Prot} {hp0 : Hp} {base : List Nat} {a : Act} {w : World}

theorem drop_ok (hb : ∀ k, (hp0.get (.own k)).isSome → k ∈ base) {kills rm : List Nat} {S S' : St} (h : dropAt base kills rm S = some S') (hat : At μ0 w0 F0 hp0 S a w) : At μ0 w0 F0 hp0 S' a w := by
  obtain ⟨hd, μ, F, hs, hr, st⟩ := hat
  unfold dropAt at h
  split at h
  · cases h
  rename_i hbase
  dsimp only at h
  split at h
  · simp only [Option.some.injEq] at h
    subst h
    exact ⟨hd, μ, F, kill_R kills hs, hr, st⟩
  · split at h
    · cases h
    · rename_i hany
      simp only [Option.some.injEq] at h
      generalize hg : (rm.filter fun k => !anyIn [k] (IV.refs.refsL (killSlots kills S.slots) ++ (S.hp.own.filter fun p => !rm.contains p.1).flatMap (fun p => p.2.refs) ++ S.hp.ext.flatMap Blk.refs)) = gone at h hany
      have hsub : ∀ k, gone.contains k = true → k ∈ rm := fun k hk => by
        rw [List.contains_iff_mem, ← hg] at hk
        exact (List.mem_filter.1 hk).1
      have hnb : ∀ k, (hp0.get (.own k)).isSome → gone.contains k = false := fun k hk => by
        cases hc : gone.contains k with
        | false => rfl
        | true =>
          exfalso
          refine hbase ?_
          rw [List.any_eq_true]
          exact ⟨k, hsub k hc, by simpa using hb k hk⟩
      have hget : ∀ r, S'.hp.get r = match r with | .own k => if gone.contains k then none else S.hp.get (.own k) | .ext j => S.hp.get (.ext j) := fun r => by
        rw [← h]
        cases r with
        | own k => exact lookup_filter gone k S.hp.own
        | ext j => rfl
      have hof : ∀ r b, S'.hp.get r = some b → S.hp.get r = some b := fun r b hb => by
        rw [hget] at hb
        cases r with
        | own k => simp only at hb; split at hb; · cases hb
                   · exact hb
        | ext j => exact hb
      have hany' : anyIn gone (refsOfSt S') = false := by rw [← h]; simpa using hany
      have href : ∀ r ∈ refsOfSt S', S'.hp.get r = S.hp.get r := fun r hr' => by
        rw [hget]
        cases r with
        | own k => simp only; rw [if_neg (by rw [anyIn_false hany' k hr']; simp)]
        | ext j => rfl
      have hkeep : ∀ r, (hp0.get r).isSome → S'.hp.get r = S.hp.get r := fun r hr' => by
        rw [hget]
        cases r with
        | own k => simp only; rw [if_neg (by rw [hnb k hr']; simp)]
        | ext j => rfl
      have hsl : S'.slots = killSlots kills S.slots := by rw [← h]
      refine ⟨hd, μ, F, ⟨?_, fun i v hv => ?_⟩, ⟨fun r b hb' => ?_, fun r s h1 h2 e => ?_, hr.wf⟩, ⟨st.ws, st.sub, fun r cs ro h1 => ?_, fun r es h1 => ?_, fun r n sz h1 => ?_, fun r h1 h2 => ?_, st.frame, st.newF⟩⟩
      · rw [hsl]; exact (kill_R kills hs).size
      · have := (kill_R kills hs).at_ i v (by rw [← hsl]; exact hv)
        refine R_keep this fun r hr' => href r ?_
        simp only [refsOfSt, List.mem_append]
        exact .inl (.inl (refsL_mem.2 ⟨v, List.mem_of_getElem? hv, hr'⟩))
      · refine BR_keep (hr.blk r b (hof r b hb')) fun r' hr' => href r' ?_
        simp only [refsOfSt, List.mem_append, List.mem_flatMap]
        cases r with
        | own k => exact .inl (.inr ⟨(k, b), lookup_mem hb', hr'⟩)
        | ext j => exact .inr ⟨b, List.mem_of_getElem? hb', hr'⟩
      · obtain ⟨b1, h1⟩ := Option.isSome_iff_exists.1 h1
        obtain ⟨b2, h2⟩ := Option.isSome_iff_exists.1 h2
        exact hr.inj r s (by rw [hof r b1 h1]; rfl) (by rw [hof s b2 h2]; rfl) e
      · rw [hkeep r (by rw [h1]; rfl)]; exact st.row r cs ro h1
      · rw [hkeep r (by rw [h1]; rfl)]; exact st.map r es h1
      · rw [hkeep r (by rw [h1]; rfl)]; exact st.tok r n sz h1
      · obtain ⟨b, h2⟩ := Option.isSome_iff_exists.1 h2
        exact st.new r h1 (by rw [hof r b h2]; rfl)

def toExit : Ex → Exit
  | .normal => .normal
  | .exit id => .exit id
  | .ret => .ret

theorem exec_ok (hE : EnvOk E) (hih : SimH E ih) (hb : ∀ k, (hp0.get (.own k)).isSome → k ∈ base) {f : FuncId} {k : Nat} : ∀ (c : Code), codeOk c = true → ∀ {S S' : St} {ex : Ex}, exec E ih f k base c S = some (ex, S') →
    ∀ {a : Act} {w : World} (Q : Exit → Act → World → Prop), At μ0 w0 F0 hp0 S a w → (∀ a' w', At μ0 w0 F0 hp0 S' a' w' → Q (toExit ex) a' w') → c.wp E.P Q a w := by
  intro c
  induction c with
  | skip =>
    intro _ S S' ex h a w Q hat hQ
    simp only [exec, Option.some.injEq, Prod.mk.injEq] at h
    obtain ⟨rfl, rfl⟩ := h
    exact wp_skip (hQ a w hat)
  | region rid ops d =>
    intro hc S S' ex h a w Q hat hQ
    simp only [exec, Option.map_eq_some_iff, Prod.mk.injEq] at h
    obtain ⟨S1, h1, rfl, rfl⟩ := h
    cases d with
    | false =>
      simp only [Bool.false_eq_true, if_false] at h1
      exact wp_region (runOps_ok hE hih _ h1 hat hQ)
    | true =>
      simp only [if_true] at h1
      exact region_ok hE hih (by simpa [codeOk] using hc) h1 hat hQ
  | seq x y ihx ihy =>
    intro hc S S' ex h a w Q hat hQ
    simp only [codeOk, Bool.and_eq_true] at hc
    simp only [exec] at h
    refine wp_seq ?_
    cases hx : exec E ih f k base x S with
    | none => rw [hx] at h; cases h
    | some r =>
      obtain ⟨e1, S1⟩ := r
      rw [hx] at h
      cases e1 with
      | normal => exact ihx hc.1 hx _ hat fun a' w' hat' => ihy hc.2 h Q hat' hQ
      | exit id =>
        simp only [Option.some.injEq, Prod.mk.injEq] at h
        obtain ⟨rfl, rfl⟩ := h
        exact ihx hc.1 hx _ hat hQ
      | ret =>
        simp only [Option.some.injEq, Prod.mk.injEq] at h
        obtain ⟨rfl, rfl⟩ := h
        exact ihx hc.1 hx _ hat hQ
  | cond c x y ihx ihy =>
    intro hc S S' ex h a w Q hat hQ
    simp only [codeOk, Bool.and_eq_true] at hc
    simp only [exec] at h
    obtain ⟨hd, μ, F, hs, hr, st⟩ := hat
    have hop := operand_R hs c
    split at h
    · rename_i he
      rw [he] at hop
      generalize hv : a.eval c = v at hop
      cases hop with | fv _ _ hop =>
      cases hop
      exact wp_cond_true hv (ihx hc.1 h Q ⟨hd, μ, F, hs, hr, st⟩ hQ)
    · rename_i he
      rw [he] at hop
      generalize hv : a.eval c = v at hop
      cases hop with | fv _ _ hop =>
      cases hop
      exact wp_cond_false hv (ihy hc.2 h Q ⟨hd, μ, F, hs, hr, st⟩ hQ)
    · cases h
  | block id x ihx =>
    intro hc S S' ex h a w Q hat hQ
    simp only [codeOk] at hc
    simp only [exec] at h
    refine wp_block ?_
    cases hx : exec E ih f k base x S with
    | none => rw [hx] at h; cases h
    | some r =>
      obtain ⟨e1, S1⟩ := r
      rw [hx] at h
      refine ihx hc hx _ hat fun a' w' hat' => ?_
      cases e1 with
      | normal =>
        simp only [Option.some.injEq, Prod.mk.injEq] at h
        obtain ⟨rfl, rfl⟩ := h
        exact hQ a' w' hat'
      | exit j =>
        simp only at h
        simp only [toExit, Exit.inBlock]
        by_cases hj : j = id
        · rw [if_pos hj] at h ⊢
          simp only [Option.some.injEq, Prod.mk.injEq] at h
          obtain ⟨rfl, rfl⟩ := h
          exact hQ a' w' hat'
        · rw [if_neg hj] at h ⊢
          simp only [Option.some.injEq, Prod.mk.injEq] at h
          obtain ⟨rfl, rfl⟩ := h
          exact hQ a' w' hat'
      | ret =>
        simp only [Option.some.injEq, Prod.mk.injEq] at h
        obtain ⟨rfl, rfl⟩ := h
        exact hQ a' w' hat'
  | loop x ihx =>
    intro hc S S' ex h a w Q hat hQ
    simp only [codeOk] at hc
    simp only [exec] at h
    refine wp_loop_rounds k ?_
    have key : ∀ (n : Nat) {S : St} {a : Act} {w : World}, iterate (dropAt base (E.pol.head f (firstRid x)).1 (E.pol.head f (firstRid x)).2) (exec E ih f k base x) n S = some (ex, S') →
        At μ0 w0 F0 hp0 S a w → Code.rounds E.P x Q n a w := by
      intro n
      induction n with
      | zero => intro S a w h; cases h
      | succ n ihn =>
        intro S a w h hat
        simp only [iterate] at h
        obtain ⟨S1, h1, h2⟩ := Option.bind_eq_some_iff.1 h
        have hat1 := drop_ok hb h1 hat
        rw [rounds_succ]
        cases hx : exec E ih f k base x S1 with
        | none => rw [hx] at h2; cases h2
        | some r =>
          obtain ⟨e1, S2⟩ := r
          rw [hx] at h2
          cases e1 with
          | normal => exact ihx hc hx _ hat1 fun a' w' hat' => ihn h2 hat'
          | exit j =>
            simp only [Option.some.injEq, Prod.mk.injEq] at h2
            obtain ⟨rfl, rfl⟩ := h2
            exact ihx hc hx _ hat1 hQ
          | ret =>
            simp only [Option.some.injEq, Prod.mk.injEq] at h2
            obtain ⟨rfl, rfl⟩ := h2
            exact ihx hc hx _ hat1 hQ
    exact key k h hat
  | exit id =>
    intro _ S S' ex h a w Q hat hQ
    simp only [exec, Option.some.injEq, Prod.mk.injEq] at h
    obtain ⟨rfl, rfl⟩ := h
    exact wp_exit (hQ a w hat)
  | ret =>
    intro _ S S' ex h a w Q hat hQ
    simp only [exec, Option.some.injEq, Prod.mk.injEq] at h
    obtain ⟨rfl, rfl⟩ := h
    exact wp_ret (hQ a w hat)
  | _ => intro _ S S' ex h; simp [exec] at h

variable {μ : Ref → Nat} {F : Prot}

def resSem (tmps : Array Value) : ResultVar → Sem Value
  | .tmp t => pure (tmps.getD t undef)
  | .cell a t => do loadVar t (← asAddr (tmps.getD a undef))

theorem resVar_ok (hE : EnvOk E) {S : St} (hs : SlotsR μ w F S.hp S.slots a.tmps) (hr : HR μ w F S.hp) {r : ResultVar} {v : IV} (h : resVar E S r = some v) :
    ∃ x, (resSem a.tmps r).run E.P w = .ok x w ∧ R μ w F S.hp v x := by
  cases r with
  | tmp t =>
    simp only [resVar, Option.some.injEq] at h
    subst h
    exact ⟨_, rfl, operand_R hs (.tmp t)⟩
  | cell ad t =>
    simp only [resVar] at h
    have hx := operand_R hs (.tmp ad)
    simp only [operand, Act.eval] at hx
    split at h
    · rename_i ti r off ht hxe
      have hT := hE.types t ti ht
      rw [hxe] at hx
      generalize hxv : a.tmps.getD ad undef = xv at hx
      cases hx with | ptr _ _ hrow =>
      split at h
      · rename_i cells ro hb
        obtain ⟨c, e, hw, hlen, hcell, _⟩ := hr.blk _ _ hb
        have hlt := takeVar_lt h (size_one hT)
        refine ⟨_, ?_, takeVar_R h (f := fun j => c.getD j undef) hcell⟩
        simp only [resSem, hxv, asAddr, Sem.run_bind, Sem.run_pure, Result.andThen_ok]
        rw [run_loadVar' hT (μ r) off (fun j => c.getD (off + j) undef) (fun j hj => by rw [cell_row hw, Array.getElem?_eq_getElem (by omega)]; simp [show off + j < c.size by omega])]
        cases ti.kind.isAgg <;> simp
      · cases h
    · rename_i ti cells off ht hxe
      have hT := hE.types t ti ht
      rw [hxe] at hx
      generalize hxv : a.tmps.getD ad undef = xv at hx
      cases hx with | fv _ _ hx =>
      cases hx with | fp _ _ b base vs hF hc hcs =>
      simp only [Option.map_eq_some_iff] at h
      obtain ⟨v, e1, e2⟩ := h
      have hlt := takeVarF_lt e1 (size_one hT)
      rw [← e2]
      refine ⟨_, ?_, .fv _ _ (takeVarF_R e1 (f := vs) hcs)⟩
      simp only [resSem, hxv, asAddr, Sem.run_bind, Sem.run_pure, Result.andThen_ok]
      rw [run_loadVar' hT b (base + off) (fun j => vs (off + j)) (fun j hj => by rw [Nat.add_assoc]; exact hc _ (by omega))]
      cases ti.kind.isAgg <;> simp
    · cases h

theorem resVars_ok (hE : EnvOk E) {S : St} (hs : SlotsR μ w F S.hp S.slots a.tmps) (hr : HR μ w F S.hp) : ∀ {rs : List ResultVar} {vs : List IV}, resVars E S rs = some vs →
    ∃ xs : List Value, (rs.mapM (resSem a.tmps)).run E.P w = .ok xs w ∧ vs.length = xs.length ∧ ∀ (j : Nat) (y : IV), vs[j]? = some y → R μ w F S.hp y (xs.getD j undef)
  | [], vs, h => by
    simp only [resVars, Option.some.injEq] at h
    subst h
    exact ⟨[], rfl, rfl, fun j y hy => by simp at hy⟩
  | r :: rs, vs, h => by
    simp only [resVars, Option.bind_eq_some_iff, Option.map_eq_some_iff] at h
    obtain ⟨v, h1, vs', h2, rfl⟩ := h
    obtain ⟨x, e1, e2⟩ := resVar_ok hE hs hr h1
    obtain ⟨xs, e3, e4, e5⟩ := resVars_ok hE hs hr h2
    refine ⟨x :: xs, ?_, by simp [e4], fun j y hy => ?_⟩
    · rw [List.mapM_cons]
      simp only [Sem.run_bind, e1, e3, Result.andThen_ok, Sem.run_pure]
    · cases j with
      | zero => simp at hy; subst hy; exact e2
      | succ j => exact e5 j y (by simpa using hy)

theorem results_ok (hE : EnvOk E) {fn : Func} {S : St} (hs : SlotsR μ w F S.hp S.slots a.tmps) (hr : HR μ w F S.hp) {v : IV} (h : resultOf E S fn.results.toList = some v) :
    ∃ x, (results fn a.tmps).run E.P w = .ok x w ∧ R μ w F S.hp v x := by
  simp only [resultOf, Option.map_eq_some_iff] at h
  obtain ⟨vs, h1, h2⟩ := h
  obtain ⟨xs, e1, e2, e3⟩ := resVars_ok hE hs hr h1
  have hm : (fn.results.mapM (resSem a.tmps)).run E.P w = .ok xs.toArray w := by
    rw [Array.mapM_eq_mapM_toList, map_eq_pure_bind]
    simp only [Sem.run_bind, e1, Result.andThen_ok, Sem.run_pure]
  have hrun : (results fn a.tmps).run E.P w = .ok (if h : xs.toArray.size = 1 then xs.toArray[0] else .tuple xs.toArray) w := by
    have : results fn a.tmps = (fn.results.mapM (resSem a.tmps)) >>= fun vs => pure (if h : vs.size = 1 then vs[0] else .tuple vs) := rfl
    rw [this]
    simp only [Sem.run_bind, hm, Result.andThen_ok, Sem.run_pure]
  refine ⟨_, hrun, ?_⟩
  by_cases h1 : xs.toArray.size = 1
  · rw [dif_pos h1]
    match xs, h1, e2, e3 with
    | [x], _, e2, e3 =>
      match vs, e2, h2, e3 with
      | [v'], _, h2, e3 =>
        simp only at h2
        subst h2
        exact e3 0 v' rfl
  · rw [dif_neg h1]
    have : mkTuple vs = v := by
      match vs, e2, h2 with
      | [], _, h2 => exact h2
      | [v'], e2, h2 => simp at e2 h1; omega
      | _ :: _ :: _, _, h2 => exact h2
    rw [← this]
    exact mkTuple_R (by simpa using e2) fun j y hy => by
      have := e3 j y hy
      rw [Array.getD_eq_getD_getElem?]
      simpa using this

theorem run_ok (hE : EnvOk E) : ∀ n, SimH E (run E n) := by
  intro n
  induction n with
  | zero => intro f args hp res hp' h; cases h
  | succ n ihn =>
    intro f args hp res hp' h
    simp only [run] at h
    split at h
    · cases h
    rename_i fn hfn
    split at h
    · cases h
    rename_i c hc
    refine ⟨⟨fn, hfn, by rw [hc]; rfl⟩, fun μ w F vals hr hs => ?_⟩
    have hbase : ∀ k, (hp.get (.own k)).isSome → k ∈ hp.own.map (·.1) := fun k hk => by
      obtain ⟨b, hb⟩ := Option.isSome_iff_exists.1 hk
      exact List.mem_map.2 ⟨(k, b), lookup_mem hb, rfl⟩
    have hstart : At μ w F hp ⟨args ++ List.replicate (fn.ntmps - args.length) .dead, hp⟩ { tmps := vals ++ Array.replicate (fn.ntmps - vals.size) undef, defers := [] } w := by
      refine ⟨rfl, μ, F, ?_, hr, .refl _ _ _ _⟩
      refine app_R hs ⟨by simp [hs.size], fun i v hv => ?_⟩
      rw [List.getElem?_replicate] at hv
      split at hv
      · cases hv; exact .dead _
      · cases hv
    have hpost : ∀ S v, resultOf E S fn.results.toList = some v → ∀ a' w', At μ w F hp S a' w' →
        a'.defers = [] ∧ ∃ x, (results fn a'.tmps).run E.P w' = .ok x w' ∧ ∃ v' μ' F', Ending.returned x = .returned v' ∧ Stp μ w F hp μ' w' F' S.hp ∧ HR μ' w' F' S.hp ∧ R μ' w' F' S.hp v v' := by
      rintro S v hv a' w' ⟨hd, μ', F', hs', hr', st⟩
      obtain ⟨x, h1, h2⟩ := results_ok hE hs' hr' hv
      exact ⟨hd, x, h1, x, μ', F', rfl, st, hr', h2⟩
    split at h
    · rename_i S hx
      simp only [Option.map_eq_some_iff, Prod.mk.injEq] at h
      obtain ⟨v, h1, rfl, rfl⟩ := h
      exact calls_of_wp hfn hc (exec_ok hE ihn hbase c (hE.code f fn c hfn hc) hx _ hstart fun a' w' hat => hpost S v h1 a' w' hat)
    · rename_i S hx
      simp only [Option.map_eq_some_iff, Prod.mk.injEq] at h
      obtain ⟨v, h1, rfl, rfl⟩ := h
      exact calls_of_wp hfn hc (exec_ok hE ihn hbase c (hE.code f fn c hfn hc) hx _ hstart fun a' w' hat => hpost S v h1 a' w' hat)
    · cases h
end
end Idl
end Go.Proofs.Ytbkdidonegggdaa

/-
  Texts of a proof, part 3: an ideal semantics of the program, its functions in shallow form, contracts of them. No statement of the seat is proved here.
-/
import Derived.LoopN
import Derived.Test.YtdibmackcbpniaaObjDeepK2
set_option linter.all false
namespace Go.Proofs.Ytdibmackcbpniaa
namespace Idl

section
variable {μ : Ref → Nat} {w : World} {F : Prot} {hp hp' : Hp}
theorem kill_R : ∀ (is : List Nat) {slots : List IV} {tmps : Array Value}, SlotsR μ w F hp slots tmps → SlotsR μ w F hp (killSlots is slots) tmps
  | [], _, _, h => h
  | i :: is, slots, tmps, h => by
    refine kill_R is ⟨by simp [h.size], fun j v hv => ?_⟩
    by_cases e : i = j
    · subst e
      by_cases hl : i < slots.length
      · rw [List.getElem?_set_self hl] at hv; cases hv; exact .dead _
      · rw [List.getElem?_eq_none (by simp; omega)] at hv; cases hv
    · rw [List.getElem?_set_ne e] at hv; exact h.at_ j v hv
end

theorem lookup_filter (gone : List Nat) (k : Nat) : ∀ (l : List (Nat × Blk)), lookupOwn k (l.filter fun p => !gone.contains p.1) = if gone.contains k then none else lookupOwn k l
  | [] => by simp [lookupOwn]
  | (j, b) :: l => by
    have ih := lookup_filter gone k l
    by_cases hj : gone.contains j = true
    · rw [List.filter_cons_of_neg (by simpa using hj), ih]
      by_cases hk : gone.contains k = true
      · rw [if_pos hk, if_pos hk]
      · have : k ≠ j := fun e => hk (e ▸ hj)
        rw [if_neg hk, if_neg hk]
        simp [lookupOwn, this]
    · rw [List.filter_cons_of_pos (by simpa using hj)]
      by_cases hkj : k = j
      · subst hkj
        rw [if_neg hj]
        simp [lookupOwn]
      · simp only [lookupOwn, if_neg hkj]
        exact ih
theorem lookup_mem {k : Nat} {b : Blk} : ∀ {l : List (Nat × Blk)}, lookupOwn k l = some b → (k, b) ∈ l
  | [], h => by cases h
  | (j, c) :: l, h => by
    simp only [lookupOwn] at h
    split at h
    · rename_i e; subst e; simp only [Option.some.injEq] at h; subst h; exact List.mem_cons_self
    · exact List.mem_cons_of_mem _ (lookup_mem h)
theorem anyIn_false {gone : List Nat} : ∀ {l : List Ref}, anyIn gone l = false → ∀ k, Ref.own k ∈ l → gone.contains k = false
  | [], _, k, h => by cases h
  | .own j :: l, h, k, hk => by
    simp only [anyIn, Bool.or_eq_false_iff] at h
    rcases List.mem_cons.1 hk with e | e
    · cases e; exact h.1
    · exact anyIn_false h.2 k e
  | .ext j :: l, h, k, hk => by
    simp only [anyIn] at h
    rcases List.mem_cons.1 hk with e | e
    · cases e
    · exact anyIn_false h k e

section
variable {E : Env} {ih : Handler} {μ0 : Ref → Nat} {w0 : World} {F0 : Prot} {hp0 : Hp} {base : List Nat} {a : Act} {w : World}

theorem drop_ok (hb : ∀ k, (hp0.get (.own k)).isSome → k ∈ base) {kills rm : List Nat} {S S' : St} (h : dropAt base kills rm S = some S') (hat : At μ0 w0 F0 hp0 S a w) : At μ0 w0 F0 hp0 S' a w := by
  obtain ⟨hd, μ, F, hs, hr, st⟩ := hat
  unfold dropAt at h
  split at h
  · cases h
  rename_i hbase
  dsimp only at h
  split at h
  · simp only [Option.some.injEq] at h
    subst h
    exact ⟨hd, μ, F, kill_R kills hs, hr, st⟩
  · split at h
    · cases h
    · rename_i hany
      simp only [Option.some.injEq] at h
      generalize hg : (rm.filter fun k => !anyIn [k] (IV.refs.refsL (killSlots kills S.slots) ++ (S.hp.own.filter fun p => !rm.contains p.1).flatMap (fun p => p.2.refs) ++ S.hp.ext.flatMap Blk.refs)) = gone at h hany
      have hsub : ∀ k, gone.contains k = true → k ∈ rm := fun k hk => by
        rw [List.contains_iff_mem, ← hg] at hk
        exact (List.mem_filter.1 hk).1
      have hnb : ∀ k, (hp0.get (.own k)).isSome → gone.contains k = false := fun k hk => by
        cases hc : gone.contains k with
        | false => rfl
        | true =>
          exfalso
          refine hbase ?_
          rw [List.any_eq_true]
          exact ⟨k, hsub k hc, by simpa using hb k hk⟩
      have hget : ∀ r, S'.hp.get r = match r with | .own k => if gone.contains k then none else S.hp.get (.own k) | .ext j => S.hp.get (.ext j) := fun r => by
        rw [← h]
        cases r with
        | own k => exact lookup_filter gone k S.hp.own
        | ext j => rfl
      have hof : ∀ r b, S'.hp.get r = some b → S.hp.get r = some b := fun r b hb => by
        rw [hget] at hb
        cases r with
        | own k => simp only at hb; split at hb; · cases hb
                   · exact hb
        | ext j => exact hb
      have hany' : anyIn gone (refsOfSt S') = false := by rw [← h]; simpa using hany
      have href : ∀ r ∈ refsOfSt S', S'.hp.get r = S.hp.get r := fun r hr' => by
        rw [hget]
        cases r with
        | own k => simp only; rw [if_neg (by rw [anyIn_false hany' k hr']; simp)]
        | ext j => rfl
      have hkeep : ∀ r, (hp0.get r).isSome → S'.hp.get r = S.hp.get r := fun r hr' => by
        rw [hget]
        cases r with
        | own k => simp only; rw [if_neg (by rw [hnb k hr']; simp)]
        | ext j => rfl
      have hsl : S'.slots = killSlots kills S.slots := by rw [← h]
      refine ⟨hd, μ, F, ⟨?_, fun i v hv => ?_⟩, ⟨fun r b hb' => ?_, fun r s h1 h2 e => ?_, hr.wf⟩, ⟨st.ws, st.sub, fun r cs ro h1 => ?_, fun r es h1 => ?_, fun r n sz h1 => ?_, fun r h1 h2 => ?_, st.frame, st.newF⟩⟩
      · rw [hsl]; exact (kill_R kills hs).size
      · have := (kill_R kills hs).at_ i v (by rw [← hsl]; exact hv)
        refine R_keep this fun r hr' => href r ?_
        simp only [refsOfSt, List.mem_append]
        exact .inl (.inl (refsL_mem.2 ⟨v, List.mem_of_getElem? hv, hr'⟩))
      · refine BR_keep (hr.blk r b (hof r b hb')) fun r' hr' => href r' ?_
        simp only [refsOfSt, List.mem_append, List.mem_flatMap]
        cases r with
        | own k => exact .inl (.inr ⟨(k, b), lookup_mem hb', hr'⟩)
        | ext j => exact .inr ⟨b, List.mem_of_getElem? hb', hr'⟩
      · obtain ⟨b1, h1⟩ := Option.isSome_iff_exists.1 h1
        obtain ⟨b2, h2⟩ := Option.isSome_iff_exists.1 h2
        exact hr.inj r s (by rw [hof r b1 h1]; rfl) (by rw [hof s b2 h2]; rfl) e
      · rw [hkeep r (by rw [h1]; rfl)]; exact st.row r cs ro h1
      · rw [hkeep r (by rw [h1]; rfl)]; exact st.map r es h1
      · rw [hkeep r (by rw [h1]; rfl)]; exact st.tok r n sz h1
      · obtain ⟨b, h2⟩ := Option.isSome_iff_exists.1 h2
        exact st.new r h1 (by rw [hof r b h2]; rfl)

def toExit : Ex → Exit
  | .normal => .normal
  | .exit id => .exit id
  | .ret => .ret

theorem exec_ok (hE : EnvOk E) (hih : SimH E ih) (hb : ∀ k, (hp0.get (.own k)).isSome → k ∈ base) {f : FuncId} {k : Nat} : ∀ (c : Code), codeOk c = true → ∀ {S S' : St} {ex : Ex}, exec E ih f k base c S = some (ex, S') →
    ∀ {a : Act} {w : World} (Q : Exit → Act → World → Prop), At μ0 w0 F0 hp0 S a w → (∀ a' w', At μ0 w0 F0 hp0 S' a' w' → Q (toExit ex) a' w') → c.wp E.P Q a w := by
  intro c
  induction c with
  | skip =>
    intro _ S S' ex h a w Q hat hQ
    simp only [exec, Option.some.injEq, Prod.mk.injEq] at h
    obtain ⟨rfl, rfl⟩ := h
    exact wp_skip (hQ a w hat)
  | region rid ops d =>
    intro hc S S' ex h a w Q hat hQ
    simp only [exec, Option.map_eq_some_iff, Prod.mk.injEq] at h
    obtain ⟨S1, h1, rfl, rfl⟩ := h
    cases d with
    | false =>
      simp only [Bool.false_eq_true, if_false] at h1
      exact wp_region (runOps_ok hE hih _ h1 hat hQ)
    | true =>
      simp only [if_true] at h1
      exact region_ok hE hih (by simpa [codeOk] using hc) h1 hat hQ
  | seq x y ihx ihy =>
    intro hc S S' ex h a w Q hat hQ
    simp only [codeOk, Bool.and_eq_true] at hc
    simp only [exec] at h
    refine wp_seq ?_
    cases hx : exec E ih f k base x S with
    | none => rw [hx] at h; cases h
    | some r =>
      obtain ⟨e1, S1⟩ := r
      rw [hx] at h
      cases e1 with
      | normal => exact ihx hc.1 hx _ hat fun a' w' hat' => ihy hc.2 h Q hat' hQ
      | exit id =>
        simp only [Option.some.injEq, Prod.mk.injEq] at h
        obtain ⟨rfl, rfl⟩ := h
        exact ihx hc.1 hx _ hat hQ
      | ret =>
        simp only [Option.some.injEq, Prod.mk.injEq] at h
        obtain ⟨rfl, rfl⟩ := h
        exact ihx hc.1 hx _ hat hQ
  | cond c x y ihx ihy =>
    intro hc S S' ex h a w Q hat hQ
    simp only [codeOk, Bool.and_eq_true] at hc
    simp only [exec] at h
    obtain ⟨hd, μ, F, hs, hr, st⟩ := hat
    have hop := operand_R hs c
    split at h
    · rename_i he
      rw [he] at hop
      generalize hv : a.eval c = v at hop
      cases hop with | fv _ _ hop =>
      cases hop
      exact wp_cond_true hv (ihx hc.1 h Q ⟨hd, μ, F, hs, hr, st⟩ hQ)
    · rename_i he
      rw [he] at hop
      generalize hv : a.eval c = v at hop
      cases hop with | fv _ _ hop =>
      cases hop
      exact wp_cond_false hv (ihy hc.2 h Q ⟨hd, μ, F, hs, hr, st⟩ hQ)
    · cases h
  | block id x ihx =>
    intro hc S S' ex h a w Q hat hQ
    simp only [codeOk] at hc
    simp only [exec] at h
    refine wp_block ?_
    cases hx : exec E ih f k base x S with
    | none => rw [hx] at h; cases h
    | some r =>
      obtain ⟨e1, S1⟩ := r
      rw [hx] at h
      refine ihx hc hx _ hat fun a' w' hat' => ?_
      cases e1 with
      | normal =>
        simp only [Option.some.injEq, Prod.mk.injEq] at h
        obtain ⟨rfl, rfl⟩ := h
        exact hQ a' w' hat'
      | exit j =>
        simp only at h
        simp only [toExit, Exit.inBlock]
        by_cases hj : j = id
        · rw [if_pos hj] at h ⊢
          simp only [Option.some.injEq, Prod.mk.injEq] at h
          obtain ⟨rfl, rfl⟩ := h
          exact hQ a' w' hat'
        · rw [if_neg hj] at h ⊢
          simp only [Option.some.injEq, Prod.mk.injEq] at h
          obtain ⟨rfl, rfl⟩ := h
          exact hQ a' w' hat'
      | ret =>
        simp only [Option.some.injEq, Prod.mk.injEq] at h
        obtain ⟨rfl, rfl⟩ := h
        exact hQ a' w' hat'
  | loop x ihx =>
    intro hc S S' ex h a w Q hat hQ
    simp only [codeOk] at hc
    simp only [exec] at h
    refine wp_loop_rounds k ?_
    have key : ∀ (n : Nat) {S : St} {a : Act} {w : World}, iterate (dropAt base (E.pol.head f (firstRid x)).1 (E.pol.head f (firstRid x)).2) (exec E ih f k base x) n S = some (ex, S') →
        At μ0 w0 F0 hp0 S a w → Code.rounds E.P x Q n a w := by
      intro n
      induction n with
      | zero => intro S a w h; cases h
      | succ n ihn =>
        intro S a w h hat
        simp only [iterate] at h
        obtain ⟨S1, h1, h2⟩ := Option.bind_eq_some_iff.1 h
        have hat1 := drop_ok hb h1 hat
        rw [rounds_succ]
        cases hx : exec E ih f k base x S1 with
        | none => rw [hx] at h2; cases h2
        | some r =>
          obtain ⟨e1, S2⟩ := r
          rw [hx] at h2
          cases e1 with
          | normal => exact ihx hc hx _ hat1 fun a' w' hat' => ihn h2 hat'
          | exit j =>
            simp only [Option.some.injEq, Prod.mk.injEq] at h2
            obtain ⟨rfl, rfl⟩ := h2
            exact ihx hc hx _ hat1 hQ
          | ret =>
            simp only [Option.some.injEq, Prod.mk.injEq] at h2
            obtain ⟨rfl, rfl⟩ := h2
            exact ihx hc hx _ hat1 hQ
    exact key k h hat
  | exit id =>
    intro _ S S' ex h a w Q hat hQ
    simp only [exec, Option.some.injEq, Prod.mk.injEq] at h
    obtain ⟨rfl, rfl⟩ := h
    exact wp_exit (hQ a w hat)
  | ret =>
    intro _ S S' ex h a w Q hat hQ
    simp only [exec, Option.some.injEq, Prod.mk.injEq] at h
    obtain ⟨rfl, rfl⟩ := h
    exact wp_ret (hQ a w hat)
  | _ => intro _ S S' ex h; simp [exec] at h

variable {μ : Ref → Nat} {F : Prot}

def resSem (tmps : Array Value) : ResultVar → Sem Value
  | .tmp t => pure (tmps.getD t undef)
  | .cell a t => do loadVar t (← asAddr (tmps.getD a undef))

theorem resVar_ok (hE : EnvOk E) {S : St} (hs : SlotsR μ w F S.hp S.slots a.tmps) (hr : HR μ w F S.hp) {r : ResultVar} {v : IV} (h : resVar E S r = some v) :
    ∃ x, (resSem a.tmps r).run E.P w = .ok x w ∧ R μ w F S.hp v x := by
  cases r with
  | tmp t =>
    simp only [resVar, Option.some.injEq] at h
    subst h
    exact ⟨_, rfl, operand_R hs (.tmp t)⟩
  | cell ad t =>
    simp only [resVar] at h
    have hx := operand_R hs (.tmp ad)
    simp only [operand, Act.eval] at hx
    split at h
    · rename_i ti r off ht hxe
      have hT := hE.types t ti ht
      rw [hxe] at hx
      generalize hxv : a.tmps.getD ad undef = xv at hx
      cases hx with | ptr _ _ hrow =>
      split at h
      · rename_i cells ro hb
        obtain ⟨c, e, hw, hlen, hcell, _⟩ := hr.blk _ _ hb
        have hlt := takeVar_lt h (size_one hT)
        refine ⟨_, ?_, takeVar_R h (f := fun j => c.getD j undef) hcell⟩
        simp only [resSem, hxv, asAddr, Sem.run_bind, Sem.run_pure, Result.andThen_ok]
        rw [run_loadVar' hT (μ r) off (fun j => c.getD (off + j) undef) (fun j hj => by rw [cell_row hw, Array.getElem?_eq_getElem (by omega)]; simp [show off + j < c.size by omega])]
        cases ti.kind.isAgg <;> simp
      · cases h
    · rename_i ti cells off ht hxe
      have hT := hE.types t ti ht
      rw [hxe] at hx
      generalize hxv : a.tmps.getD ad undef = xv at hx
      cases hx with | fv _ _ hx =>
      cases hx with | fp _ _ b base vs hF hc hcs =>
      simp only [Option.map_eq_some_iff] at h
      obtain ⟨v, e1, e2⟩ := h
      have hlt := takeVarF_lt e1 (size_one hT)
      rw [← e2]
      refine ⟨_, ?_, .fv _ _ (takeVarF_R e1 (f := vs) hcs)⟩
      simp only [resSem, hxv, asAddr, Sem.run_bind, Sem.run_pure, Result.andThen_ok]
      rw [run_loadVar' hT b (base + off) (fun j => vs (off + j)) (fun j hj => by rw [Nat.add_assoc]; exact hc _ (by omega))]
      cases ti.kind.isAgg <;> simp
    · cases h

theorem resVars_ok (hE : EnvOk E) {S : St} (hs : SlotsR μ w F S.hp S.slots a.tmps) (hr : HR μ w F S.hp) : ∀ {rs : List ResultVar} {vs : List IV}, resVars E S rs = some vs →
    ∃ xs : List Value, (rs.mapM (resSem a.tmps)).run E.P w = .ok xs w ∧ vs.length = xs.length ∧ ∀ (j : Nat) (y : IV), vs[j]? = some y → R μ w F S.hp y (xs.getD j undef)
  | [], vs, h => by
    simp only [resVars, Option.some.injEq] at h
    subst h
    exact ⟨[], rfl, rfl, fun j y hy => by simp at hy⟩
  | r :: rs, vs, h => by
    simp only [resVars, Option.bind_eq_some_iff, Option.map_eq_some_iff] at h
    obtain ⟨v, h1, vs', h2, rfl⟩ := h
    obtain ⟨x, e1, e2⟩ := resVar_ok hE hs hr h1
    obtain ⟨xs, e3, e4, e5⟩ := resVars_ok hE hs hr h2
    refine ⟨x :: xs, ?_, by simp [e4], fun j y hy => ?_⟩
    · rw [List.mapM_cons]
      simp only [Sem.run_bind, e1, e3, Result.andThen_ok, Sem.run_pure]
    · cases j with
      | zero => simp at hy; subst hy; exact e2
      | succ j => exact e5 j y (by simpa using hy)

theorem results_ok (hE : EnvOk E) {fn : Func} {S : St} (hs : SlotsR μ w F S.hp S.slots a.tmps) (hr : HR μ w F S.hp) {v : IV} (h : resultOf E S fn.results.toList = some v) :
    ∃ x, (results fn a.tmps).run E.P w = .ok x w ∧ R μ w F S.hp v x := by
  simp only [resultOf, Option.map_eq_some_iff] at h
  obtain ⟨vs, h1, h2⟩ := h
  obtain ⟨xs, e1, e2, e3⟩ := resVars_ok hE hs hr h1
  have hm : (fn.results.mapM (resSem a.tmps)).run E.P w = .ok xs.toArray w := by
    rw [Array.mapM_eq_mapM_toList, map_eq_pure_bind]
    simp only [Sem.run_bind, e1, Result.andThen_ok, Sem.run_pure]
  have hrun : (results fn a.tmps).run E.P w = .ok (if h : xs.toArray.size = 1 then xs.toArray[0] else .tuple xs.toArray) w := by
    have : results fn a.tmps = (fn.results.mapM (resSem a.tmps)) >>= fun vs => pure (if h : vs.size = 1 then vs[0] else .tuple vs) := rfl
    rw [this]
    simp only [Sem.run_bind, hm, Result.andThen_ok, Sem.run_pure]
  refine ⟨_, hrun, ?_⟩
  by_cases h1 : xs.toArray.size = 1
  · rw [dif_pos h1]
    match xs, h1, e2, e3 with
    | [x], _, e2, e3 =>
      match vs, e2, h2, e3 with
      | [v'], _, h2, e3 =>
        simp only at h2
        subst h2
        exact e3 0 v' rfl
  · rw [dif_neg h1]
    have : mkTuple vs = v := by
      match vs, e2, h2 with
      | [], _, h2 => exact h2
      | [v'], e2, h2 => simp at e2 h1; omega
      | _ :: _ :: _, _, h2 => exact h2
    rw [← this]
    exact mkTuple_R (by simpa using e2) fun j y hy => by
      have := e3 j y hy
      rw [Array.getD_eq_getD_getElem?]
      simpa using this

theorem run_ok (hE : EnvOk E) : ∀ n, SimH E (run E n) := by
  intro n
  induction n with
  | zero => intro f args hp res hp' h; cases h
  | succ n ihn =>
    intro f args hp res hp' h
    simp only [run] at h
    split at h
    · cases h
    rename_i fn hfn
    split at h
    · cases h
    rename_i c hc
    refine ⟨⟨fn, hfn, by rw [hc]; rfl⟩, fun μ w F vals hr hs => ?_⟩
    have hbase : ∀ k, (hp.get (.own k)).isSome → k ∈ hp.own.map (·.1) := fun k hk => by
      obtain ⟨b, hb⟩ := Option.isSome_iff_exists.1 hk
      exact List.mem_map.2 ⟨(k, b), lookup_mem hb, rfl⟩
    have hstart : At μ w F hp ⟨args ++ List.replicate (fn.ntmps - args.length) .dead, hp⟩ { tmps := vals ++ Array.replicate (fn.ntmps - vals.size) undef, defers := [] } w := by
      refine ⟨rfl, μ, F, ?_, hr, .refl _ _ _ _⟩
      refine app_R hs ⟨by simp [hs.size], fun i v hv => ?_⟩
      rw [List.getElem?_replicate] at hv
      split at hv
      · cases hv; exact .dead _
      · cases hv
    have hpost : ∀ S v, resultOf E S fn.results.toList = some v → ∀ a' w', At μ w F hp S a' w' →
        a'.defers = [] ∧ ∃ x, (results fn a'.tmps).run E.P w' = .ok x w' ∧ ∃ v' μ' F', Ending.returned x = .returned v' ∧ Stp μ w F hp μ' w' F' S.hp ∧ HR μ' w' F' S.hp ∧ R μ' w' F' S.hp v v' := by
      rintro S v hv a' w' ⟨hd, μ', F', hs', hr', st⟩
      obtain ⟨x, h1, h2⟩ := results_ok hE hs' hr' hv
      exact ⟨hd, x, h1, x, μ', F', rfl, st, hr', h2⟩
    split at h
    · rename_i S hx
      simp only [Option.map_eq_some_iff, Prod.mk.injEq] at h
      obtain ⟨v, h1, rfl, rfl⟩ := h
      exact calls_of_wp hfn hc (exec_ok hE ihn hbase c (hE.code f fn c hfn hc) hx _ hstart fun a' w' hat => hpost S v h1 a' w' hat)
    · rename_i S hx
      simp only [Option.map_eq_some_iff, Prod.mk.injEq] at h
      obtain ⟨v, h1, rfl, rfl⟩ := h
      exact calls_of_wp hfn hc (exec_ok hE ihn hbase c (hE.code f fn c hfn hc) hx _ hstart fun a' w' hat => hpost S v h1 a' w' hat)
    · cases h
end
end Idl
end Go.Proofs.Ytdibmackcbpniaa
namespace Go.Proofs.Ytdibmackcbpniaa
namespace Idl

def kindOf : TypeDesc → Option TK
  | .int k => some (.int k)
  | .bool => some .bool
  | .string => some .str
  | .pointer _ => some .ptr
  | .func .. => some .func
  | .slice e => some (.slice e)
  | .array n e => some (.arr n e)
  | .struct fs => some (.struct (fs.toList.map fun f => (f.offset, f.type)))
  | .map k e => some (.map k e)
  | _ => none
def isAggV : Value → Bool
  | .agg _ => true
  | _ => false
def fieldsOk (P : Program) : TK → Bool
  | .struct fs => fs.all fun p => (P.info? p.2).isSome
  | _ => true
/-- What a program tells of a type. -/
def tiOf (P : Program) (t : TypeId) : Option TI :=
  match P.info? t, P.underlying t with
  | some i, some d => match kindOf d, i.zero with
    | some k, some z =>
      if z.cells.size = i.size ∧ isAggV z = k.isAgg ∧ fieldsOk P k = true then
        some ⟨i.size, i.bytes, k, z.cells.toList.map ofConst1⟩ else none
    | _, _ => none
  | _, _ => none

theorem kindOf_ok {d : TypeDesc} {k : TK} (h : kindOf d = some k) : kindOk d k := by
  cases d <;> simp only [kindOf, Option.some.injEq, reduceCtorEq] at h <;> subst h <;> simp [kindOk]
theorem tiOf_ok {P : Program} {t : TypeId} {ti : TI} (h : tiOf P t = some ti) : TIok P t ti := by
  unfold tiOf at h
  split at h
  · rename_i i d hi hd
    split at h
    · rename_i k z hk hz
      split at h
      · rename_i hc
        obtain ⟨c1, c2, c3⟩ := hc
        simp only [Option.some.injEq] at h
        subst h
        refine ⟨⟨i, z, hi, rfl, rfl, hz, rfl, c1, fun ha => ?_, fun ha => ?_⟩, ⟨d, hd, kindOf_ok hk⟩, fun fs hf p hp => ?_⟩
        · rw [← c2] at ha
          cases z <;> simp [isAggV] at ha
          rfl
        · rw [← c2] at ha
          cases z <;> simp [isAggV] at ha <;> rfl
        · simp only at hf
          subst hf
          exact Option.isSome_iff_exists.1 (List.all_eq_true.1 c3 p hp)
      · cases h
    · cases h
  · cases h

inductive TTree where
  | nil
  | leaf (t : Nat) (ti : TI)
  | node (m : Nat) (l r : TTree)
def TTree.get : TTree → Nat → Option TI
  | .nil, _ => none
  | .leaf j ti, t => if Nat.beq t j then some ti else none
  | .node m l r, t => if Nat.blt t m then l.get t else r.get t
def TTree.leaves : TTree → List (Nat × TI)
  | .nil => []
  | .leaf t ti => [(t, ti)]
  | .node _ l r => l.leaves ++ r.leaves
theorem TTree.get_mem : ∀ {tr : TTree} {t : Nat} {ti : TI}, tr.get t = some ti → (t, ti) ∈ tr.leaves
  | .nil, _, _, h => by cases h
  | .leaf j ti, t, ti', h => by
    simp only [TTree.get] at h
    split at h
    · rename_i e
      simp only [Option.some.injEq] at h
      subst h
      rw [Nat.eq_of_beq_eq_true e]
      exact List.mem_cons_self
    · cases h
  | .node m l r, t, ti, h => by
    simp only [TTree.get] at h
    simp only [TTree.leaves, List.mem_append]
    split at h
    · exact .inl (get_mem h)
    · exact .inr (get_mem h)

def namesOk (P : Program) : Bool := P.funcs.toList.all fun fn => fn.body.isNone || !(fn.name == "runtime.NumGoroutine")
def codesOk (P : Program) : Bool := P.funcs.toList.all fun fn => match fn.body with | some c => codeOk c | none => true

theorem env_ok {P : Program} {tr : TTree} {pol : Pol} (h1 : tr.leaves.map (fun p => tiOf P p.1) = tr.leaves.map (fun p => some p.2)) (h2 : P.follows .mixedOrders = true)
    (h3 : namesOk P = true) (h4 : codesOk P = true) : EnvOk ⟨P, tr.get, pol⟩ := by
  refine ⟨fun t ti h => tiOf_ok ?_, h2, fun f fn hf hb => ?_, fun f fn c hf hc => ?_⟩
  · have := List.map_inj_left.1 h1 _ (TTree.get_mem h)
    exact this
  · have hm : fn ∈ P.funcs.toList := by
      have := Array.mem_of_getElem? hf
      simpa using this
    have := List.all_eq_true.1 h3 fn hm
    simp only [Bool.or_eq_true, Bool.not_eq_true'] at this
    rcases this with h | h
    · cases hq : fn.body with
      | none => rw [hq] at hb; cases hb
      | some c => rw [hq] at h; cases h
    · exact h
  · have hm : fn ∈ P.funcs.toList := by
      have := Array.mem_of_getElem? hf
      simpa using this
    have := List.all_eq_true.1 h4 fn hm
    rw [hc] at this
    exact this
end Idl
end Go.Proofs.Ytdibmackcbpniaa
namespace Go.Proofs.Ytdibmackcbpniaa
namespace Idl

section force
variable {α : Type}
noncomputable def fNat (m : Nat) (k : Nat → α) : α := Nat.rec (k 0) (fun p _ => k (Nat.succ p)) m
noncomputable def fInt (n : Int) (k : Int → α) : α := match n with
  | .ofNat m => fNat m fun m => k (.ofNat m)
  | .negSucc m => fNat m fun m => k (.negSucc m)
noncomputable def fL {β : Type} (g : β → (β → α) → α) (l : List β) (k : List β → α) : α :=
  List.rec (motive := fun _ => (List β → α) → α) (fun k => k []) (fun x _ ih k => g x fun x => ih fun xs => k (x :: xs)) l k
noncomputable def fFV : Nat → FV → (FV → α) → α
  | 0, v, k => k v
  | d + 1, v, k => match v with
    | .bool b => k (.bool b)
    | .int t n => k (.int t n)
    | .str s => k (.str s)
    | .nilp => k .nilp
    | .nilf => k .nilf
    | .fp cs o => fL (fFV d) cs fun cs => k (.fp cs o)
    | .sl cs => fL (fFV d) cs fun cs => k (.sl cs)
    | .func fn a b => fL (fFV d) a fun a => fL (fFV d) b fun b => k (.func fn a b)
    | .agg cs => fL (fFV d) cs fun cs => k (.agg cs)
    | .tuple cs => fL (fFV d) cs fun cs => k (.tuple cs)
noncomputable def fIV : Nat → IV → (IV → α) → α
  | 0, v, k => k v
  | d + 1, v, k => match v with
    | .dead => k .dead
    | .fv v => fFV d v fun v => k (.fv v)
    | .ptr r o => fNat o fun o => k (.ptr r o)
    | .slc r sz n => fNat n fun n => k (.slc r sz n)
    | .nils => k .nils
    | .emp => k .emp
    | .clip es => fL (fFV d) es fun es => k (.clip es)
    | .app r es => fL (fFV d) es fun es => k (.app r es)
    | .func fn a b => fL (fIV d) a fun a => fL (fIV d) b fun b => k (.func fn a b)
    | .agg cs => fL (fIV d) cs fun cs => k (.agg cs)
    | .tuple cs => fL (fIV d) cs fun cs => k (.tuple cs)
    | .mapr r => k (.mapr r)
/-- Numbers, truths. -/
noncomputable def fS (v : IV) (k : IV → α) : α := match v with
  | .fv (.int t n) => fInt n fun n => k (.fv (.int t n))
  | .fv (.bool true) => k (.fv (.bool true))
  | .fv (.bool false) => k (.fv (.bool false))
  | v => fIV 3 v k
noncomputable def fBlk (b : Blk) (k : Blk → α) : α := match b with
  | .row cs ro => fL (fIV 2) cs fun cs => k (.row cs ro)
  | .tok n sz => fNat n fun n => k (.tok n sz)
  | .map es => fL (fun (p : Int × IV) k => match p with | (n, v) => fInt n fun n => fIV 2 v fun v => k (n, v)) es fun es => k (.map es)
noncomputable def fOwn (p : Nat × Blk) (k : Nat × Blk → α) : α := match p with | (n, b) => fNat n fun n => fBlk b fun b => k (n, b)
noncomputable def fHp (h : Hp) (k : Hp → α) : α := match h with | ⟨own, ext⟩ => fL fOwn own fun own => fL fBlk ext fun ext => k ⟨own, ext⟩

theorem fNat_eq (m : Nat) (k : Nat → α) : fNat m k = k m := by cases m <;> rfl
theorem fInt_eq (n : Int) (k : Int → α) : fInt n k = k n := by cases n <;> simp [fInt, fNat_eq]
theorem fL_eq {β : Type} {g : β → (β → α) → α} (hg : ∀ x k, g x k = k x) (l : List β) (k : List β → α) : fL g l k = k l := by
  induction l generalizing k with
  | nil => rfl
  | cons x l ih =>
    show g x (fun x => fL g l fun xs => k (x :: xs)) = _
    rw [hg, ih]
theorem fFV_eq : ∀ (d : Nat) (v : FV) (k : FV → α), fFV d v k = k v
  | 0, _, _ => rfl
  | d + 1, v, k => by cases v <;> simp [fFV, fL_eq (fFV_eq d)]
theorem fIV_eq : ∀ (d : Nat) (v : IV) (k : IV → α), fIV d v k = k v
  | 0, _, _ => rfl
  | d + 1, v, k => by cases v <;> simp [fIV, fL_eq (fIV_eq d), fL_eq (fFV_eq d), fFV_eq, fNat_eq]
theorem fS_eq (v : IV) (k : IV → α) : fS v k = k v := by
  unfold fS
  split
  · rw [fInt_eq]
  · rfl
  · rfl
  · rw [fIV_eq]
theorem fBlk_eq (b : Blk) (k : Blk → α) : fBlk b k = k b := by
  cases b with
  | row cs ro => simp only [fBlk]; rw [fL_eq (fIV_eq 2)]
  | tok n sz => simp only [fBlk]; rw [fNat_eq]
  | map es =>
    simp only [fBlk]
    rw [fL_eq]
    rintro ⟨n, v⟩ k
    simp only
    rw [fInt_eq, fIV_eq]
theorem fOwn_eq (p : Nat × Blk) (k : Nat × Blk → α) : fOwn p k = k p := by
  obtain ⟨n, b⟩ := p
  simp only [fOwn]
  rw [fNat_eq, fBlk_eq]
theorem fHp_eq (h : Hp) (k : Hp → α) : fHp h k = k h := by
  obtain ⟨a, b⟩ := h
  simp only [fHp]
  rw [fL_eq fOwn_eq, fL_eq fBlk_eq]
end force

/-! ## Slots -/
inductive SlT where
  | leaf (j : Nat) (v : IV)
  | node (m : Nat) (l r : SlT)
noncomputable def SlT.get (t : SlT) : Nat → IV := SlT.rec (motive := fun _ => Nat → IV) (fun j v i => cond (Nat.beq i j) v .dead) (fun m _ _ gl gr i => cond (Nat.ble m i) (gr i) (gl i)) t
noncomputable def SlT.has (t : SlT) : Nat → Bool := SlT.rec (motive := fun _ => Nat → Bool) (fun j _ i => Nat.beq i j) (fun m _ _ gl gr i => cond (Nat.ble m i) (gr i) (gl i)) t
noncomputable def SlT.set (t : SlT) : Nat → IV → SlT :=
  SlT.rec (motive := fun _ => Nat → IV → SlT) (fun j v i x => cond (Nat.beq i j) (.leaf j x) (.leaf j v)) (fun m l r gl gr i x => cond (Nat.ble m i) (.node m l (gr i x)) (.node m (gl i x) r)) t
noncomputable def SlT.setK {α : Type} (t : SlT) : Nat → IV → (SlT → α) → α :=
  SlT.rec (motive := fun _ => Nat → IV → (SlT → α) → α) (fun j v i x k => cond (Nat.beq i j) (k (.leaf j x)) (k (.leaf j v)))
    (fun m l r gl gr i x k => cond (Nat.ble m i) (gr i x fun r' => k (.node m l r')) (gl i x fun l' => k (.node m l' r))) t
/-- All dead. -/
noncomputable def dT : Nat → Nat → Nat → SlT
  | 0, lo, _ => .leaf lo .dead
  | d + 1, lo, n => cond (Nat.ble n 1) (.leaf lo .dead) (fNat (n / 2) fun h => fNat (lo + h) fun m => fNat (n - h) fun q => .node m (dT d lo h) (dT d m q))

theorem setK_eq {α : Type} (t : SlT) (i : Nat) (x : IV) (k : SlT → α) : t.setK i x k = k (t.set i x) := by
  induction t generalizing k with
  | leaf j v => show cond _ _ _ = k (cond _ _ _); cases Nat.beq i j <;> rfl
  | node m l r ihl ihr =>
    show cond _ (r.setK i x _) (l.setK i x _) = k (cond _ (.node m l (r.set i x)) (.node m (l.set i x) r))
    cases Nat.ble m i
    · simp only [cond]; rw [ihl]
    · simp only [cond]; rw [ihr]
theorem has_set (t : SlT) (i : Nat) (x : IV) (j : Nat) : (t.set i x).has j = t.has j := by
  induction t with
  | leaf k v => show SlT.has (cond _ _ _) j = _; cases Nat.beq i k <;> rfl
  | node m l r ihl ihr =>
    show SlT.has (cond (Nat.ble m i) (.node m l (r.set i x)) (.node m (l.set i x) r)) j = cond (Nat.ble m j) (r.has j) (l.has j)
    cases Nat.ble m i
    · show cond (Nat.ble m j) (r.has j) ((l.set i x).has j) = _; rw [ihl]
    · show cond (Nat.ble m j) ((r.set i x).has j) (l.has j) = _; rw [ihr]
theorem get_set (t : SlT) (i : Nat) (x : IV) (h : t.has i = true) (j : Nat) : (t.set i x).get j = if j = i then x else t.get j := by
  induction t with
  | leaf k v =>
    have hik : Nat.beq i k = true := h
    have e := Nat.eq_of_beq_eq_true hik
    show SlT.get (cond (Nat.beq i k) _ _) j = _
    rw [hik]
    show cond (Nat.beq j k) x .dead = if j = i then x else cond (Nat.beq j k) v .dead
    subst e
    by_cases hj : j = i
    · subst hj; rw [if_pos rfl, show Nat.beq j j = true from Nat.beq_refl j]; rfl
    · have : Nat.beq j i = false := by cases hb : Nat.beq j i; rfl; exact absurd (Nat.eq_of_beq_eq_true hb) hj
      rw [if_neg hj, this]; rfl
  | node m l r ihl ihr =>
    have h' : cond (Nat.ble m i) (r.has i) (l.has i) = true := h
    show SlT.get (cond (Nat.ble m i) (.node m l (r.set i x)) (.node m (l.set i x) r)) j = if j = i then x else cond (Nat.ble m j) (r.get j) (l.get j)
    cases hm : Nat.ble m i with
    | true =>
      rw [hm] at h'
      show cond (Nat.ble m j) ((r.set i x).get j) (l.get j) = _
      rw [ihr h']
      by_cases hj : j = i
      · subst hj; rw [hm]; simp
      · simp only [if_neg hj]
    | false =>
      rw [hm] at h'
      show cond (Nat.ble m j) (r.get j) ((l.set i x).get j) = _
      rw [ihl h']
      by_cases hj : j = i
      · subst hj; rw [hm]; simp
      · simp only [if_neg hj]
theorem dT_ok : ∀ (d lo n i : Nat), n ≤ 2 ^ d → lo ≤ i → i < lo + n → (dT d lo n).has i = true ∧ (dT d lo n).get i = .dead := by
  intro d
  induction d with
  | zero =>
    intro lo n i h1 h2 h3
    have : i = lo := by simp at h1; omega
    subst this
    refine ⟨Nat.beq_refl i, ?_⟩
    show cond (Nat.beq i i) IV.dead .dead = .dead
    cases Nat.beq i i <;> rfl
  | succ d ih =>
    intro lo n i h1 h2 h3
    simp only [dT, fNat_eq]
    cases hn : Nat.ble n 1 with
    | true =>
      have := Nat.le_of_ble_eq_true hn
      have : i = lo := by omega
      subst this
      refine ⟨Nat.beq_refl i, ?_⟩
      show cond (Nat.beq i i) IV.dead .dead = .dead
      cases Nat.beq i i <;> rfl
    | false =>
      have hp : 2 ^ (d + 1) = 2 * 2 ^ d := by rw [Nat.pow_succ]; omega
      show cond (Nat.ble (lo + n / 2) i) ((dT d (lo + n / 2) (n - n / 2)).has i) ((dT d lo (n / 2)).has i) = true ∧ cond (Nat.ble (lo + n / 2) i) ((dT d (lo + n / 2) (n - n / 2)).get i) ((dT d lo (n / 2)).get i) = .dead
      cases hm : Nat.ble (lo + n / 2) i with
      | true =>
        have := Nat.le_of_ble_eq_true hm
        exact ih _ _ i (by omega) this (by omega)
      | false =>
        have : ¬ (lo + n / 2 ≤ i) := fun h => by rw [Nat.ble_eq_true_of_le h] at hm; cases hm
        exact ih _ _ i (by omega) h2 (by omega)

structure FS where
  n : Nat
  t : SlT
  hp : Hp
noncomputable def FS.get (T : FS) (i : Nat) : IV := cond (Nat.ble T.n i) .dead (T.t.get i)
structure Rep (T : FS) (S : St) : Prop where
  hp : S.hp = T.hp
  len : S.slots.length = T.n
  has : ∀ i, i < T.n → T.t.has i = true
  get : ∀ i, i < T.n → T.t.get i = S.slots.getD i .dead
theorem Rep.at_ {T : FS} {S : St} (h : Rep T S) (i : Nat) : T.get i = S.slots.getD i .dead := by
  unfold FS.get
  cases hb : Nat.ble T.n i with
  | true =>
    have := Nat.le_of_ble_eq_true hb
    rw [List.getD_eq_getElem?_getD, List.getElem?_eq_none (by rw [h.len]; exact this)]
    rfl
  | false =>
    have : ¬ T.n ≤ i := fun h => by rw [Nat.ble_eq_true_of_le h] at hb; cases hb
    exact h.get i (by omega)
noncomputable def operandT (T : FS) : Operand → IV
  | .tmp t => T.get t
  | .const v => ofConst v
  | .global _ => .dead
  | .func f => .fv (.func (.func f) [] [])
theorem operandT_eq {T : FS} {S : St} (h : Rep T S) : operandT T = operand S.slots := by
  funext x
  cases x with
  | tmp t => exact h.at_ t
  | _ => rfl
noncomputable def putK {α : Type} (d : Option Nat) (v : IV) (T : FS) (K : FS → α) : α :=
  match d with
  | none => K T
  | some d => cond (Nat.ble T.n d) (K T) (T.t.setK d v fun t => K ⟨T.n, t, T.hp⟩)
noncomputable def putT (d : Option Nat) (v : IV) (T : FS) : FS :=
  match d with
  | none => T
  | some d => cond (Nat.ble T.n d) T ⟨T.n, T.t.set d v, T.hp⟩
theorem putK_eq {α : Type} (d : Option Nat) (v : IV) (T : FS) (K : FS → α) : putK d v T K = K (putT d v T) := by
  cases d with
  | none => rfl
  | some d =>
    simp only [putK, putT]
    cases Nat.ble T.n d
    · simp only [cond]; rw [setK_eq]
    · rfl
theorem put_rep {T : FS} {S : St} (h : Rep T S) (d : Option Nat) (v : IV) : Rep (putT d v T) { S with slots := putSlot d v S.slots } := by
  cases d with
  | none => exact h
  | some d =>
    simp only [putT, putSlot]
    cases hb : Nat.ble T.n d with
    | true =>
      have := Nat.le_of_ble_eq_true hb
      simp only [cond]
      rw [List.set_eq_of_length_le (by rw [h.len]; exact this)]
      exact h
    | false =>
      have hd : d < T.n := by
        have : ¬ T.n ≤ d := fun h => by rw [Nat.ble_eq_true_of_le h] at hb; cases hb
        omega
      refine ⟨h.hp, by simp [h.len], fun i hi => by show (T.t.set d v).has i = true; rw [has_set]; exact h.has i hi, fun i hi => ?_⟩
      show (T.t.set d v).get i = _
      rw [get_set _ _ _ (h.has d hd), List.getD_eq_getElem?_getD]
      by_cases e : i = d
      · subst e; rw [if_pos rfl, List.getElem?_set_self (by rw [h.len]; exact hi)]; rfl
      · rw [if_neg e, List.getElem?_set_ne (Ne.symm e), ← List.getD_eq_getElem?_getD]; exact h.get i hi
end Idl
end Go.Proofs.Ytdibmackcbpniaa
namespace Go.Proofs.Ytdibmackcbpniaa
namespace Idl

theorem runLog_bind {α β : Type} : ∀ (r : Rd α) (f : α → Rd β) (h : Hp) (l : List Ref), (r.bind f).runLog h l = (r.runLog h l).bind fun p => (f p.1).runLog h p.2
  | .ret a, f, h, l => rfl
  | .fail, f, h, l => rfl
  | .get r k, f, h, l => by
    simp only [Rd.bind, Rd.runLog]
    cases h.get r with
    | none => rfl
    | some b => exact runLog_bind (k b) f h (r :: l)

/-- A run that is handed on. -/
abbrev KR (β : Type) := FuncId → List IV → Hp → (IV → Hp → Option β) → Option β

section
variable (E : Env) {β : Type} (R : KR β)

noncomputable def askedK (f : FuncId) (args : List IV) (ext : List Blk) (K : IV → Hp → Option β) : Option β :=
  if E.pol.split f then match args, ext with
    | [.fv (.sl [])], [] => R f [.nils] ⟨[], []⟩ fun r hp => if isEmptySl (some (r, hp)) then R f [.emp] ⟨[], []⟩ fun r hp => if isEmptySl (some (r, hp)) then K (.fv (.sl [])) ⟨[], []⟩ else none else none
    | _, _ => R f args ⟨[], ext⟩ K
  else R f args ⟨[], ext⟩ K
/-- A call: its outcome, what it looks at, what it lays. -/
noncomputable def isoK (f : FuncId) (args : List IV) (hp : Hp) (K : IV → List (Ref × Blk) → List Ref → Option β) : Option β :=
  match (frzArgs (E.pol.keep f) args).runLog hp [] with
  | none => none
  | some ((vs, rs, u), l1) => match (gather 4096 rs []).runLog hp l1 with
    | none => none
    | some (l, l2) => match IV.ren.renL (into l) vs with
      | none => none
      | some vs' => match renBlks (into l) (l.map (·.2)) with
        | none => none
        | some ext => fL (fIV 3) vs' fun vs' => fL fBlk ext fun ext => askedK E R f vs' ext fun res hp' =>
          match handBack E f res hp' with
          | none => none
          | some res => match res.ren (back l) with
            | none => none
            | some res => match renBlks (back l) hp'.ext with
              | none => none
              | some ext' => if ext'.length = l.length ∧ (keys u).all (fun r => !hasRef r l) then fIV 3 res fun res => K res (u ++ (keys l).zip ext') l2 else none

noncomputable def wantedT (T : FS) (ops : Array Oper) (o : Oper) : Option Bool :=
  match o.guard with
  | none => some true
  | some (j, want) => match (ops[j]?).bind (·.dst) with
    | none => none
    | some d => cond (Nat.ble T.n d) none (match T.t.get d with
      | .fv (.bool b) => some (b == want)
      | .fv (.tuple []) => some false
      | _ => none)

/-- Does it make numbers? -/
def scal : Op → Bool
  | .binOp .. | .unOp .. | .convert .. | .call .. => true
  | _ => false
noncomputable def fC {α : Type} (sc : Bool) (v : IV) (k : IV → α) : α := cond sc (fS v k) (fIV 3 v k)
theorem fC_eq {α : Type} (sc : Bool) (v : IV) (k : IV → α) : fC sc v k = k v := by cases sc <;> simp [fC, fS_eq, fIV_eq]
noncomputable def applyK (sc : Bool) (k : Nat) (d : Option Nat) (T : FS) (m : Made) (K : FS → Option β) : Option β :=
  match m.eff.upd, m.new with
  | [], none => fC sc m.eff.val fun v => putK d v T K
  | _, _ => match heapOf k T.hp m with
    | none => none
    | some hp => fHp hp fun hp => fC sc m.eff.val fun v => putK d v ⟨T.n, T.t, hp⟩ K
noncomputable def newRefs (k : Nat) (m : Made) : List Ref := match m.new with | some _ => [.own k] | none => []
def dumb : Handler := fun _ _ _ => none
/-- The callee of a call of a function value. -/
def callOf : Op → Option (Operand × Array Operand)
  | .call { callee := .value g, args, .. } => some (g, args)
  | _ => none

noncomputable def stepK (f : FuncId) (rid : Nat) (ops : Array Oper) (i : Nat) (o : Oper) (drawn : Bool) (T : FS) (K : FS → List Ref → List Ref → Option β) : Option β :=
  match wantedT T ops o with
  | none => none
  | some false => putK o.dst undefV T fun T => K T [] []
  | some true => match callOf o.op with
    | some (g, args) => match callee (operandT T g) with
      | none => none
      | some (h, first, cap) =>
        cond (E.pol.inl h) (cond drawn none (R h (first ++ args.toList.map (operandT T) ++ cap) T.hp fun v hp => fHp hp fun hp => fIV 3 v fun v => putK o.dst v ⟨T.n, T.t, hp⟩ fun T => K T [] []))
          (isoK E R h (first ++ args.toList.map (operandT T) ++ cap) T.hp fun v upd rd => applyK false (site f rid i) o.dst T { eff := { val := v, upd := upd } } fun T => K T rd (keys upd))
    | none => match (opG E dumb f rid i (operandT T) o.op).runLog T.hp [] with
      | none => none
      | some (m, rd) => applyK (scal o.op) (site f rid i) o.dst T m fun T => K T rd (keys m.eff.upd ++ newRefs (site f rid i) m)

noncomputable def opsK (f : FuncId) (rid : Nat) (ops : Array Oper) (l : List Oper) : Nat → FS → (FS → Option β) → Option β :=
  List.rec (motive := fun _ => Nat → FS → (FS → Option β) → Option β) (fun _ T K => K T) (fun o _ ih i T K => stepK E R f rid ops i o false T fun T _ _ => ih (Nat.succ i) T K) l
noncomputable def drawK (f : FuncId) (rid : Nat) (ops : Array Oper) (before : Array Nat) (l : List Oper) : Nat → List (Nat × List Ref × List Ref) → FS → (FS → Option β) → Option β :=
  List.rec (motive := fun _ => Nat → List (Nat × List Ref × List Ref) → FS → (FS → Option β) → Option β) (fun _ _ T K => K T)
    (fun o _ ih i done T K => stepK E R f rid ops i o true T fun T rd wr => match rd, wr with
      | [], [] => ih (Nat.succ i) done T K
      | _, _ => cond (done.all fun (j, q) => (before.getD i 0).testBit j || clash q (rd, wr)) (ih (Nat.succ i) ((i, rd, wr) :: done) T K) none) l

noncomputable def FS.list (T : FS) : List IV := (List.range T.n).map T.t.get
noncomputable def killK {α : Type} (ks : List Nat) : FS → (FS → α) → α :=
  List.rec (motive := fun _ => FS → (FS → α) → α) (fun T K => K T) (fun i _ ih T K => putK (some i) .dead T fun T => ih T K) ks
noncomputable def dropK (base kills rm : List Nat) (T : FS) (K : FS → Option β) : Option β :=
  match rm with
  | [] => killK kills T K
  | _ :: _ => match dropAt base kills rm ⟨T.list, T.hp⟩ with
    | none => none
    | some S => fHp S.hp fun hp => killK kills ⟨T.n, T.t, hp⟩ K
noncomputable def iterK (head : FS → (FS → Option β) → Option β) (body : FS → (Ex → FS → Option β) → Option β) (k : Nat) : FS → (Ex → FS → Option β) → Option β :=
  Nat.rec (motive := fun _ => FS → (Ex → FS → Option β) → Option β) (fun _ _ => none) (fun _ ih T K => head T fun T => body T fun ex T => match ex with
    | .normal => ih T K
    | .exit j => K (.exit j) T
    | .ret => K .ret T) k

noncomputable def execK (f : FuncId) (k : Nat) (base : List Nat) : Code → FS → (Ex → FS → Option β) → Option β
  | .skip, T, K => K .normal T
  | .region rid ops draw, T, K => cond draw (drawK E R f rid ops (Region.before ops) ops.toList 0 [] T fun T => K .normal T) (opsK E R f rid ops ops.toList 0 T fun T => K .normal T)
  | .seq a b, T, K => execK f k base a T fun ex T => match ex with
    | .normal => execK f k base b T K
    | .exit j => K (.exit j) T
    | .ret => K .ret T
  | .cond c a b, T, K => match operandT T c with
    | .fv (.bool true) => execK f k base a T K
    | .fv (.bool false) => execK f k base b T K
    | _ => none
  | .block id c, T, K => execK f k base c T fun ex T => match ex with
    | .normal => K .normal T
    | .exit j => cond (Nat.beq j id) (K .normal T) (K (.exit j) T)
    | .ret => K .ret T
  | .loop c, T, K => iterK (dropK base (E.pol.head f (firstRid c)).1 (E.pol.head f (firstRid c)).2) (execK f k base c) k T K
  | .exit id, T, K => K (.exit id) T
  | .ret, T, K => K .ret T
  | _, _, _ => none

noncomputable def resVarT (T : FS) : ResultVar → Option IV
  | .tmp t => some (T.get t)
  | .cell a t => match E.T t, T.get a with
    | some ti, .ptr r off => match T.hp.get r with
      | some (.row cells _) => takeVar ti.kind.isAgg ti.size off cells
      | _ => none
    | some ti, .fv (.fp cells off) => (takeVarF ti.kind.isAgg ti.size off cells).map .fv
    | _, _ => none
noncomputable def resVarsT (T : FS) : List ResultVar → Option (List IV)
  | [] => some []
  | r :: l => (resVarT E T r).bind fun v => (resVarsT T l).map fun vs => v :: vs
noncomputable def argsK {α : Type} (args : List IV) : Nat → FS → (FS → α) → α :=
  List.rec (motive := fun _ => Nat → FS → (FS → α) → α) (fun _ T K => K T) (fun v _ ih i T K => putK (some i) v T fun T => ih (Nat.succ i) T K) args
/-- A function's call, its own calls handed to `R`; the functions, by a way that finds them. -/
noncomputable def callK (FT : Nat → Option Func) (n : Nat) : KR β := fun f args hp K => match FT f with
    | none => none
    | some fn => match fn.body with
      | none => none
      | some c => cond (Nat.ble args.length fn.ntmps && Nat.ble fn.ntmps 1024)
        (argsK args 0 ⟨fn.ntmps, dT 10 0 fn.ntmps, hp⟩ fun T => execK E R f n (hp.own.map (·.1)) c T fun ex T => match ex with
          | .exit _ => none
          | .normal => match resVarsT E T fn.results.toList with
            | none => none
            | some [v] => fIV 3 v fun v => K v T.hp
            | some vs => fIV 3 (mkTuple vs) fun v => K v T.hp
          | .ret => match resVarsT E T fn.results.toList with
            | none => none
            | some [v] => fIV 3 v fun v => K v T.hp
            | some vs => fIV 3 (mkTuple vs) fun v => K v T.hp) none
noncomputable def runK (FT : Nat → Option Func) (n : Nat) : KR β :=
  Nat.rec (motive := fun _ => KR β) (fun _ _ _ _ => none) (fun n ih => callK E ih FT n) n
end

section
variable {E : Env} {β : Type} {R : KR β} {ih : Handler}

/-- What is handed on is what the run answers. -/
def Snd (G : Option β → Prop) (R : KR β) (ih : Handler) : Prop := ∀ f args hp K, G (R f args hp K) → ∃ r hp', ih f args hp = some (r, hp') ∧ G (K r hp')

theorem askedK_ok {G : Option β → Prop} (hG : ¬ G none) (hR : Snd G R ih) {f : FuncId} {args : List IV} {ext : List Blk} {K : IV → Hp → Option β} (h : G (askedK E R f args ext K)) :
    ∃ r hp', asked E ih f args ext = some (r, hp') ∧ G (K r hp') := by
  unfold askedK at h
  unfold asked
  split at h
  · rename_i hs
    rw [if_pos hs]
    split at h
    · obtain ⟨r, hp, e1, h⟩ := hR _ _ _ _ h
      split at h
      · rename_i h1
        obtain ⟨r', hp', e2, h⟩ := hR _ _ _ _ h
        split at h
        · rename_i h2
          refine ⟨_, _, ?_, h⟩
          simp only [e1, e2, h1, h2, Bool.and_self, if_true]
        · exact absurd h hG
      · exact absurd h hG
    · rename_i hne
      obtain ⟨r, hp, e1, h⟩ := hR _ _ _ _ h
      refine ⟨r, hp, ?_, h⟩
      split
      · rename_i _ _ _ _ _ _
        exact absurd rfl (fun e => hne rfl e)
      · exact e1
  · rename_i hs
    rw [if_neg hs]
    exact hR _ _ _ _ h

theorem isoK_ok {G : Option β → Prop} (hG : ¬ G none) (hR : Snd G R ih) {f : FuncId} {args : List IV} {hp : Hp} {K : IV → List (Ref × Blk) → List Ref → Option β} (h : G (isoK E R f args hp K)) :
    ∃ v u rd, (isoCall E ih f args).runLog hp [] = some ({ val := v, upd := u }, rd) ∧ G (K v u rd) := by
  unfold isoK at h
  cases h1 : (frzArgs (E.pol.keep f) args).runLog hp [] with
  | none => rw [h1] at h; exact absurd h hG
  | some p =>
    obtain ⟨⟨vs, rs, u⟩, l1⟩ := p
    rw [h1] at h
    simp only at h
    cases h2 : (gather 4096 rs []).runLog hp l1 with
    | none => rw [h2] at h; exact absurd h hG
    | some p =>
      obtain ⟨l, l2⟩ := p
      rw [h2] at h
      simp only at h
      cases h3 : IV.ren.renL (into l) vs with
      | none => rw [h3] at h; exact absurd h hG
      | some vs' =>
        rw [h3] at h
        simp only at h
        cases h4 : renBlks (into l) (l.map (·.2)) with
        | none => rw [h4] at h; exact absurd h hG
        | some ext =>
          rw [h4] at h
          simp only [fL_eq (fIV_eq 3), fL_eq fBlk_eq] at h
          obtain ⟨res, hp', h5, h⟩ := askedK_ok hG hR h
          cases h6 : handBack E f res hp' with
          | none => rw [h6] at h; exact absurd h hG
          | some res1 =>
            rw [h6] at h
            simp only at h
            cases h7 : res1.ren (back l) with
            | none => rw [h7] at h; exact absurd h hG
            | some res2 =>
              rw [h7] at h
              simp only at h
              cases h8 : renBlks (back l) hp'.ext with
              | none => rw [h8] at h; exact absurd h hG
              | some ext' =>
                rw [h8] at h
                simp only [fIV_eq] at h
                split at h
                · rename_i hc
                  refine ⟨res2, _, l2, ?_, h⟩
                  simp only [isoCall, runLog_bind, h1, h2, Option.bind_some, h3, h4, h5, h6, h7, h8]
                  rw [if_pos hc]
                  rfl
                · exact absurd h hG

theorem wantedT_eq {T : FS} {S : St} (h : Rep T S) (ops : Array Oper) (o : Oper) {b : Bool} (e : wantedT T ops o = some b) : wantedI ops S.slots o = some b := by
  unfold wantedT at e
  unfold wantedI
  cases hg : o.guard with
  | none => rw [hg] at e; exact e
  | some gw =>
    obtain ⟨j, want⟩ := gw
    rw [hg] at e
    simp only at e ⊢
    cases hd : (ops[j]?).bind (·.dst) with
    | none => rw [hd] at e; cases e
    | some d =>
      rw [hd] at e
      simp only [Option.bind_some] at e ⊢
      cases hb : Nat.ble T.n d with
      | true => rw [hb] at e; cases e
      | false =>
        rw [hb] at e
        have hdn : d < T.n := by
          exact Nat.lt_of_not_le fun h => by rw [Nat.ble_eq_true_of_le h] at hb; cases hb
        have hget := h.get d hdn
        have hs : S.slots[d]? = some (T.t.get d) := by
          rw [hget, List.getD_eq_getElem?_getD, List.getElem?_eq_getElem (by rw [h.len]; exact hdn)]; rfl
        rw [hs]
        simp only [cond] at e
        revert e
        generalize T.t.get d = v
        intro e
        split at e
        · exact e
        · exact e
        · cases e

theorem applyK_ok {sc : Bool} {k : Nat} {d : Option Nat} {T : FS} {S : St} (hr : Rep T S) {m : Made} {G : Option β → Prop} (hG : ¬ G none) {K : FS → Option β} (h : G (applyK sc k d T m K)) :
    ∃ S' T', applyMade k d S m = some S' ∧ Rep T' S' ∧ G (K T') := by
  unfold applyK at h
  unfold applyMade
  rw [hr.hp]
  split at h
  · rename_i hu hn
    rw [fC_eq, putK_eq] at h
    have hh : heapOf k T.hp m = some T.hp := by simp [heapOf, newOf, hu, hn, laid]
    rw [hh]
    refine ⟨_, _, rfl, ?_, h⟩
    have := put_rep hr d m.eff.val
    rw [hr.hp] at this
    exact this
  · cases hh : heapOf k T.hp m with
    | none => rw [hh] at h; exact absurd h hG
    | some hp =>
      rw [hh] at h
      simp only [fHp_eq, fC_eq, putK_eq] at h
      refine ⟨_, _, rfl, ?_, h⟩
      exact put_rep (T := ⟨T.n, T.t, hp⟩) (S := ⟨S.slots, hp⟩) ⟨rfl, hr.len, hr.has, hr.get⟩ d m.eff.val

theorem opG_noCall {ih' : Handler} {f : FuncId} {rid i : Nat} {ρ : Operand → IV} {o : Op} (h : callOf o = none) : opG E ih f rid i ρ o = opG E ih' f rid i ρ o := by
  cases o with
  | call c =>
    obtain ⟨cl, args, ts⟩ := c
    cases cl with
    | value g => cases h
    | _ => rfl
  | makeMap t r => cases r <;> rfl
  | _ => rfl
theorem inl_noCall {slots : List IV} {o : Op} (h : callOf o = none) : inlCall E slots o = none := by
  cases o with
  | call c =>
    obtain ⟨cl, args, ts⟩ := c
    cases cl with
    | value g => cases h
    | _ => rfl
  | _ => rfl
theorem callOf_some {o : Op} {g : Operand} {args : Array Operand} (h : callOf o = some (g, args)) : ∃ ts, o = .call { callee := .value g, args := args, argTypes := ts } := by
  cases o with
  | call c =>
    obtain ⟨cl, as, ts⟩ := c
    cases cl with
    | value g' => simp only [callOf, Option.some.injEq, Prod.mk.injEq] at h; obtain ⟨rfl, rfl⟩ := h; exact ⟨ts, rfl⟩
    | _ => cases h
  | _ => cases h

theorem stepK_ok {G : Option β → Prop} (hG : ¬ G none) (hR : Snd G R ih) {f : FuncId} {rid : Nat} {ops : Array Oper} {i : Nat} {o : Oper} (ho : ops[i]? = some o) {drawn : Bool} {T : FS} {S : St} (hr : Rep T S)
    {K : FS → List Ref → List Ref → Option β} (h : G (stepK E R f rid ops i o drawn T K)) :
    ∃ S' T' rd wr, step E ih f rid ops i S = some S' ∧ (drawn = true → stepP E ih f rid ops i S = some (S', rd, wr)) ∧ Rep T' S' ∧ G (K T' rd wr) := by
  unfold stepK at h
  unfold step stepP
  rw [ho]
  simp only
  cases hw : wantedT T ops o with
  | none => rw [hw] at h; exact absurd h hG
  | some t =>
    rw [hw] at h
    rw [wantedT_eq hr ops o hw]
    cases t with
    | false =>
      simp only [putK_eq] at h
      exact ⟨_, _, [], [], rfl, fun _ => rfl, put_rep hr o.dst undefV, h⟩
    | true =>
      simp only at h ⊢
      rw [operandT_eq hr, hr.hp.symm] at h
      cases hc : callOf o.op with
      | none =>
        rw [hc] at h
        simp only at h
        rw [inl_noCall hc]
        simp only [opR]
        rw [opG_noCall (ih := ih) (ih' := dumb) hc]
        cases hl : (opG E dumb f rid i (operand S.slots) o.op).runLog S.hp [] with
        | none => rw [hl] at h; exact absurd h hG
        | some p =>
          obtain ⟨m, rd⟩ := p
          rw [hl] at h
          simp only at h
          obtain ⟨S', T', h1, h2, h3⟩ := applyK_ok hr hG h
          refine ⟨S', T', rd, _, ?_, fun _ => ?_, h2, h3⟩
          · rw [runLog_run _ _ _ _ _ hl]; exact h1
          · simp only [h1, Option.map_some, newRefs]; rfl
      | some ga =>
        obtain ⟨g, args⟩ := ga
        rw [hc] at h
        obtain ⟨ts, hop⟩ := callOf_some hc
        simp only at h
        cases hce : callee (operand S.slots g) with
        | none => rw [hce] at h; exact absurd h hG
        | some p =>
          obtain ⟨h', first, cap⟩ := p
          rw [hce] at h
          simp only at h
          cases hin : E.pol.inl h' with
          | true =>
            rw [hin] at h
            cases drawn with
            | true => exact absurd h hG
            | false =>
              simp only [cond] at h
              obtain ⟨v, hp', e1, h2⟩ := hR _ _ _ _ h
              simp only [fHp_eq, fIV_eq, putK_eq] at h2
              refine ⟨⟨putSlot o.dst v S.slots, hp'⟩, _, [], [], ?_, fun e => (by cases e), ?_, h2⟩
              · simp only [hop, inlCall, hce, hin, if_true, e1, Option.map_some]
              · exact put_rep (T := ⟨T.n, T.t, hp'⟩) (S := ⟨S.slots, hp'⟩) ⟨rfl, hr.len, hr.has, hr.get⟩ o.dst v
          | false =>
            rw [hin] at h
            simp only [cond] at h
            obtain ⟨v, u, rd, e1, h2⟩ := isoK_ok hG hR h
            obtain ⟨S', T', h3, h4, h5⟩ := applyK_ok hr hG h2
            have e2 : (opR E ih f rid i S.slots o.op).runLog S.hp [] = some ({ eff := { val := v, upd := u } }, rd) := by
              rw [hop]
              simp only [opR, opG, hce, hin, Bool.false_eq_true, if_false, Rd.eff, runLog_bind, e1, Option.bind_some, Rd.runLog]
            have e3 : inlCall E S.slots o.op = none := by
              rw [hop]
              simp only [inlCall, hce, hin, Bool.false_eq_true, if_false]
            refine ⟨S', T', rd, _, ?_, fun _ => ?_, h4, h5⟩
            · rw [e3, runLog_run _ _ _ _ _ e2]; exact h3
            · rw [e3, e2]; simp only [h3, Option.map_some, List.append_nil]
end
end Idl
end Go.Proofs.Ytdibmackcbpniaa
namespace Go.Proofs.Ytdibmackcbpniaa
namespace Idl

section
variable {E : Env} {β : Type} {R : KR β} {ih : Handler}

theorem opsK_ok {G : Option β → Prop} (hG : ¬ G none) (hR : Snd G R ih) {f : FuncId} {rid : Nat} {ops : Array Oper} : ∀ (l : List Oper) (i : Nat), ops.toList.drop i = l → ∀ {T : FS} {S : St}, Rep T S → ∀ {K : FS → Option β}, G (opsK E R f rid ops l i T K) →
    ∃ S' T', runOps E ih f rid ops (List.range' i l.length) S = some S' ∧ Rep T' S' ∧ G (K T') := by
  intro l
  induction l with
  | nil => intro i _ T S hr K h; exact ⟨S, T, rfl, hr, h⟩
  | cons o l ihl =>
    intro i hd T S hr K h
    have ho : ops[i]? = some o := by
      have : ops.toList[i]? = some o := by rw [← List.head?_drop, hd]; rfl
      simpa using this
    have hd' : ops.toList.drop (i + 1) = l := by rw [← List.tail_drop, hd]; rfl
    have h : G (stepK E R f rid ops i o false T (fun T _ _ => opsK E R f rid ops l (Nat.succ i) T K)) := h
    obtain ⟨S1, T1, rd, wr, h1, _, h2, h3⟩ := stepK_ok hG hR ho hr h
    obtain ⟨S', T', h4, h5, h6⟩ := ihl (i + 1) hd' h2 h3
    refine ⟨S', T', ?_, h5, h6⟩
    rw [List.length_cons, List.range'_succ]
    simp only [runOps, h1, Option.bind_some]
    exact h4

theorem clash_nil (q : List Ref × List Ref) : clash q ([], []) = true := by
  have : ∀ l : List Ref, disj l [] = true := fun l => by induction l with | nil => rfl | cons x l ih => simp [disj]
  simp only [clash, this, Bool.true_and]
  rfl
theorem nil_clash (p : List Ref × List Ref) : clash ([], []) p = true := by
  have : ∀ l : List Ref, disj l [] = true := fun l => by induction l with | nil => rfl | cons x l ih => simp [disj]
  have h2 : ∀ l : List Ref, disj [] l = true := fun l => rfl
  simp only [clash, this, h2, Bool.true_and]

theorem drawK_ok {G : Option β → Prop} (hG : ¬ G none) (hR : Snd G R ih) {f : FuncId} {rid : Nat} {ops : Array Oper} {before : Array Nat} : ∀ (l : List Oper) (i : Nat), ops.toList.drop i = l → ∀ {T : FS} {S : St} (done full : List (Nat × List Ref × List Ref)),
    (∀ x ∈ full, x.2 = ([], []) ∨ x ∈ done) → Rep T S → ∀ {K : FS → Option β}, G (drawK E R f rid ops before l i done T K) →
    ∃ S' T', runDraw E ih f rid ops before (List.range' i l.length) full S = some S' ∧ Rep T' S' ∧ G (K T') := by
  intro l
  induction l with
  | nil => intro i _ T S done full _ hr K h; exact ⟨S, T, rfl, hr, h⟩
  | cons o l ihl =>
    intro i hd T S done full hf hr K h
    have ho : ops[i]? = some o := by
      have : ops.toList[i]? = some o := by rw [← List.head?_drop, hd]; rfl
      simpa using this
    have hd' : ops.toList.drop (i + 1) = l := by rw [← List.tail_drop, hd]; rfl
    have h : G (stepK E R f rid ops i o true T (fun T rd wr => match rd, wr with
      | [], [] => drawK E R f rid ops before l (Nat.succ i) done T K
      | _, _ => cond (done.all fun (j, q) => (before.getD i 0).testBit j || clash q (rd, wr)) (drawK E R f rid ops before l (Nat.succ i) ((i, rd, wr) :: done) T K) none)) := h
    obtain ⟨S1, T1, rd, wr, _, h1, h2, h3⟩ := stepK_ok hG hR ho hr h
    have h1 := h1 rfl
    rw [List.length_cons, List.range'_succ]
    simp only [runDraw, h1]
    split at h3
    · obtain ⟨S', T', h4, h5, h6⟩ := ihl (i + 1) hd' done ((i, [], []) :: full) (fun x hx => by
        rcases List.mem_cons.1 hx with rfl | hx
        · exact .inl rfl
        · exact hf x hx) h2 h3
      refine ⟨S', T', ?_, h5, h6⟩
      have : (full.all fun x => (before.getD i 0).testBit x.1 || clash x.2 ([], [])) = true := List.all_eq_true.2 fun x _ => by rw [clash_nil]; simp
      rw [if_pos this]
      exact h4
    · cases hc : (done.all fun (j, q) => (before.getD i 0).testBit j || clash q (rd, wr)) with
      | false => rw [hc] at h3; exact absurd h3 hG
      | true =>
        rw [hc] at h3
        simp only [cond] at h3
        obtain ⟨S', T', h4, h5, h6⟩ := ihl (i + 1) hd' _ ((i, rd, wr) :: full) (fun x hx => by
          rcases List.mem_cons.1 hx with rfl | hx
          · exact .inr List.mem_cons_self
          · exact (hf x hx).imp id (List.mem_cons_of_mem _)) h2 h3
        refine ⟨S', T', ?_, h5, h6⟩
        have : (full.all fun x => (before.getD i 0).testBit x.1 || clash x.2 (rd, wr)) = true := List.all_eq_true.2 fun x hx => by
          rcases hf x hx with e | e
          · rw [e, nil_clash]; simp
          · exact List.all_eq_true.1 hc x e
        rw [if_pos this]
        exact h4

theorem kill_ok : ∀ (ks : List Nat) {α : Type} {T : FS} {S : St} {K : FS → α}, Rep T S → ∃ T', killK ks T K = K T' ∧ Rep T' { S with slots := killSlots ks S.slots } := by
  intro ks
  induction ks with
  | nil => intro α T S K hr; exact ⟨T, rfl, hr⟩
  | cons i ks ih =>
    intro α T S K hr
    obtain ⟨T', h1, h2⟩ := ih (K := K) (put_rep hr (some i) .dead)
    refine ⟨T', ?_, h2⟩
    show putK (some i) .dead T (fun T => killK ks T K) = K T'
    rw [putK_eq]
    exact h1
theorem list_eq {T : FS} {S : St} (hr : Rep T S) : T.list = S.slots := by
  apply List.ext_getElem?
  intro i
  unfold FS.list
  by_cases hi : i < T.n
  · rw [List.getElem?_map, List.getElem?_range hi, Option.map_some, hr.get i hi, List.getD_eq_getElem?_getD, List.getElem?_eq_getElem (by rw [hr.len]; exact hi)]; rfl
  · rw [List.getElem?_eq_none (by simp; omega), List.getElem?_eq_none (by rw [hr.len]; omega)]
theorem dropAt_slots {base kills rm : List Nat} {S S' : St} (h : dropAt base kills rm S = some S') : S'.slots = killSlots kills S.slots := by
  unfold dropAt at h
  split at h
  · cases h
  dsimp only at h
  split at h
  · simp only [Option.some.injEq] at h; rw [← h]
  · split at h
    · cases h
    · simp only [Option.some.injEq] at h; rw [← h]
theorem dropK_ok {base kills rm : List Nat} {T : FS} {S : St} (hr : Rep T S) {G : Option β → Prop} (hG : ¬ G none) {K : FS → Option β} (h : G (dropK base kills rm T K)) :
    ∃ S' T', dropAt base kills rm S = some S' ∧ Rep T' S' ∧ G (K T') := by
  unfold dropK at h
  split at h
  · obtain ⟨T', h1, h2⟩ := kill_ok kills (K := K) hr
    rw [h1] at h
    refine ⟨_, T', ?_, h2, h⟩
    simp [dropAt]
  · rw [list_eq hr, ← hr.hp] at h
    split at h
    · exact absurd h hG
    · rename_i S' hd
      rw [fHp_eq] at h
      obtain ⟨T', h1, h2⟩ := kill_ok kills (K := K) (T := ⟨T.n, T.t, S'.hp⟩) (S := ⟨S.slots, S'.hp⟩) ⟨rfl, hr.len, hr.has, hr.get⟩
      rw [h1] at h
      refine ⟨S', T', hd, ?_, h⟩
      have := dropAt_slots hd
      simp only at this
      cases S' with
      | mk sl hp => simp only at this; subst this; exact h2

theorem iterK_ok {G : Option β → Prop} (hG : ¬ G none) {head : FS → (FS → Option β) → Option β} {body : FS → (Ex → FS → Option β) → Option β} {head' : St → Option St} {body' : St → Option (Ex × St)}
    (hh : ∀ {T S K}, Rep T S → G (head T K) → ∃ S' T', head' S = some S' ∧ Rep T' S' ∧ G (K T'))
    (hb : ∀ {T S K}, Rep T S → G (body T K) → ∃ ex S' T', body' S = some (ex, S') ∧ Rep T' S' ∧ G (K ex T')) : ∀ (k : Nat) {T : FS} {S : St}, Rep T S → ∀ {K : Ex → FS → Option β},
    G (iterK head body k T K) → ∃ ex S' T', iterate head' body' k S = some (ex, S') ∧ Rep T' S' ∧ G (K ex T') := by
  intro k
  induction k with
  | zero => intro T S hr K h; exact absurd h hG
  | succ k ih =>
    intro T S hr K h
    have h : G (head T (fun T => body T fun ex T => match ex with
      | .normal => iterK head body k T K
      | .exit j => K (.exit j) T
      | .ret => K .ret T)) := h
    obtain ⟨S1, T1, h1, h2, h3⟩ := hh hr h
    obtain ⟨ex, S2, T2, h4, h5, h6⟩ := hb h2 h3
    simp only [iterate, h1, Option.bind_some, h4]
    cases ex with
    | normal => exact ih h5 h6
    | exit j => exact ⟨_, _, _, rfl, h5, h6⟩
    | ret => exact ⟨_, _, _, rfl, h5, h6⟩

theorem execK_ok {G : Option β → Prop} (hG : ¬ G none) (hR : Snd G R ih) {f : FuncId} {k : Nat} {base : List Nat} : ∀ (c : Code) {T : FS} {S : St}, Rep T S → ∀ {K : Ex → FS → Option β}, G (execK E R f k base c T K) →
    ∃ ex S' T', exec E ih f k base c S = some (ex, S') ∧ Rep T' S' ∧ G (K ex T') := by
  intro c
  induction c with
  | skip => intro T S hr K h; exact ⟨_, S, T, rfl, hr, h⟩
  | region rid ops d =>
    intro T S hr K h
    simp only [execK] at h
    simp only [exec]
    rw [List.range_eq_range']
    cases d with
    | true =>
      obtain ⟨S', T', h1, h2, h3⟩ := drawK_ok hG hR ops.toList 0 rfl [] [] (fun x hx => by cases hx) hr h
      simp only [Array.length_toList] at h1
      exact ⟨_, S', T', by simp only [if_true, h1, Option.map_some], h2, h3⟩
    | false =>
      obtain ⟨S', T', h1, h2, h3⟩ := opsK_ok hG hR ops.toList 0 rfl hr h
      simp only [Array.length_toList] at h1
      exact ⟨_, S', T', by simp only [Bool.false_eq_true, if_false, h1, Option.map_some], h2, h3⟩
  | seq x y ihx ihy =>
    intro T S hr K h
    simp only [execK] at h
    obtain ⟨ex, S1, T1, h1, h2, h3⟩ := ihx hr h
    simp only [exec, h1]
    cases ex with
    | normal => exact ihy h2 h3
    | exit j => exact ⟨_, _, _, rfl, h2, h3⟩
    | ret => exact ⟨_, _, _, rfl, h2, h3⟩
  | cond c x y ihx ihy =>
    intro T S hr K h
    simp only [execK, operandT_eq hr] at h
    simp only [exec]
    split at h
    · rename_i he; rw [he]; exact ihx hr h
    · rename_i he; rw [he]; exact ihy hr h
    · exact absurd h hG
  | block id x ihx =>
    intro T S hr K h
    simp only [execK] at h
    obtain ⟨ex, S1, T1, h1, h2, h3⟩ := ihx hr h
    simp only [exec, h1]
    cases ex with
    | normal => exact ⟨_, _, _, rfl, h2, h3⟩
    | exit j =>
      simp only at h3 ⊢
      cases hj : Nat.beq j id with
      | true =>
        rw [hj] at h3
        rw [if_pos (Nat.eq_of_beq_eq_true hj)]
        exact ⟨_, _, _, rfl, h2, h3⟩
      | false =>
        rw [hj] at h3
        rw [if_neg (fun e => by rw [e, show Nat.beq id id = true from Nat.beq_refl id] at hj; cases hj)]
        exact ⟨_, _, _, rfl, h2, h3⟩
    | ret => exact ⟨_, _, _, rfl, h2, h3⟩
  | loop x ihx =>
    intro T S hr K h
    simp only [execK] at h
    simp only [exec]
    exact iterK_ok hG (fun hr h => dropK_ok hr hG h) (fun hr h => ihx hr h) k hr h
  | exit id => intro T S hr K h; exact ⟨_, S, T, rfl, hr, h⟩
  | ret => intro T S hr K h; exact ⟨_, S, T, rfl, hr, h⟩
  | _ => intro T S hr K h; simp only [execK] at h; exact absurd h hG

theorem resVarsT_eq {T : FS} {S : St} (hr : Rep T S) : ∀ rs : List ResultVar, resVarsT E T rs = resVars E S rs
  | [] => rfl
  | r :: l => by
    have : resVarT E T r = resVar E S r := by
      cases r with
      | tmp t => simp only [resVarT, resVar, hr.at_]
      | cell a t => simp only [resVarT, resVar, hr.at_, hr.hp]; rfl
    simp only [resVarsT, resVars, this, resVarsT_eq hr l]

def setArgs : List IV → Nat → List IV → List IV
  | [], _, s => s
  | v :: l, i, s => setArgs l (i + 1) (s.set i v)
theorem setArgs_len : ∀ (l : List IV) (i : Nat) (s : List IV), (setArgs l i s).length = s.length
  | [], _, _ => rfl
  | v :: l, i, s => by simp [setArgs, setArgs_len l]
theorem setArgs_get : ∀ (l : List IV) (i : Nat) (s : List IV) (j : Nat), i + l.length ≤ s.length → (setArgs l i s)[j]? = if i ≤ j ∧ j < i + l.length then l[j - i]? else s[j]?
  | [], i, s, j, _ => by rw [if_neg (by simp)]; rfl
  | v :: l, i, s, j, h => by
    simp only [List.length_cons] at h
    rw [setArgs, setArgs_get l (i + 1) (s.set i v) j (by simp; omega)]
    by_cases h1 : i = j
    · subst h1
      rw [if_neg (by omega), if_pos (by simp), List.getElem?_set_self (by omega)]
      simp
    · by_cases h2 : i + 1 ≤ j ∧ j < i + 1 + l.length
      · rw [if_pos h2, if_pos (by simp; omega), show j - i = (j - (i + 1)) + 1 by omega]; simp
      · rw [if_neg h2, if_neg (by simp; omega), List.getElem?_set_ne h1]
theorem argsK_ok : ∀ (l : List IV) {α : Type} (i : Nat) {T : FS} {S : St} {K : FS → α}, Rep T S → ∃ T', argsK l i T K = K T' ∧ Rep T' { S with slots := setArgs l i S.slots } := by
  intro l
  induction l with
  | nil => intro α i T S K hr; exact ⟨T, rfl, hr⟩
  | cons v l ih =>
    intro α i T S K hr
    obtain ⟨T', h1, h2⟩ := ih (i + 1) (K := K) (put_rep hr (some i) v)
    refine ⟨T', ?_, h2⟩
    show putK (some i) v T (fun T => argsK l (Nat.succ i) T K) = K T'
    rw [putK_eq]
    exact h1

theorem callK_ok {G : Option β → Prop} (hG : ¬ G none) {FT : Nat → Option Func} (hFT : ∀ f fn, FT f = some fn → E.P.funcs[f]? = some fn) {n : Nat} (ihn : Snd G R (run E n)) : Snd G (callK E R FT n) (run E (n + 1)) := by
    intro f args hp K h
    unfold callK at h
    simp only [run]
    cases hf : FT f with
    | none => rw [hf] at h; exact absurd h hG
    | some fn =>
      rw [hf] at h
      rw [hFT f fn hf]
      simp only at h ⊢
      cases hc : fn.body with
      | none => rw [hc] at h; exact absurd h hG
      | some c =>
        rw [hc] at h
        simp only at h ⊢
        cases hl : (Nat.ble args.length fn.ntmps && Nat.ble fn.ntmps 1024) with
        | false => rw [hl] at h; exact absurd h hG
        | true =>
          rw [hl] at h
          simp only [Bool.and_eq_true] at hl
          have hl1 := Nat.le_of_ble_eq_true hl.1
          have hl2 := Nat.le_of_ble_eq_true hl.2
          simp only [cond] at h
          have hrep0 : Rep ⟨fn.ntmps, dT 10 0 fn.ntmps, hp⟩ ⟨List.replicate fn.ntmps .dead, hp⟩ := by
            refine ⟨rfl, by simp, fun i hi => (dT_ok 10 0 fn.ntmps i (by simpa using hl2) (Nat.zero_le _) (by simpa using hi)).1, fun i hi => ?_⟩
            rw [(dT_ok 10 0 fn.ntmps i (by simpa using hl2) (Nat.zero_le _) (by simpa using hi)).2, List.getD_eq_getElem?_getD, List.getElem?_replicate]
            simp [hi]
          obtain ⟨T0, h1, h2⟩ := argsK_ok args 0 (K := _) hrep0
          rw [h1] at h
          have hs : setArgs args 0 (List.replicate fn.ntmps .dead) = args ++ List.replicate (fn.ntmps - args.length) .dead := by
            apply List.ext_getElem?
            intro j
            rw [setArgs_get _ _ _ _ (by simpa using hl1)]
            by_cases hj : j < args.length
            · rw [if_pos (by omega), List.getElem?_append_left hj]; simp
            · rw [if_neg (by omega), List.getElem?_append_right (by omega), List.getElem?_replicate, List.getElem?_replicate]
              by_cases hj2 : j < fn.ntmps
              · rw [if_pos hj2, if_pos (by omega)]
              · rw [if_neg hj2, if_neg (by omega)]
          simp only [hs] at h2
          obtain ⟨ex, S', T', h3, h4, h5⟩ := execK_ok hG ihn c h2 h
          rw [h3]
          have hres : ∀ {vs : Option (List IV)}, vs = resVars E S' fn.results.toList → G (match vs with
              | none => none
              | some [v] => fIV 3 v fun v => K v T'.hp
              | some vs => fIV 3 (mkTuple vs) fun v => K v T'.hp) → ∃ v, resultOf E S' fn.results.toList = some v ∧ G (K v T'.hp) := by
            intro vs e hk
            unfold resultOf
            rw [← e]
            cases vs with
            | none => exact absurd hk hG
            | some vs =>
              match vs, hk with
              | [], hk => simp only [fIV_eq] at hk; exact ⟨_, rfl, hk⟩
              | [v], hk => simp only [fIV_eq] at hk; exact ⟨_, rfl, hk⟩
              | v :: w :: l, hk => simp only [fIV_eq] at hk; exact ⟨_, rfl, hk⟩
          cases ex with
          | exit j => exact absurd h5 hG
          | normal =>
            simp only at h5 ⊢
            obtain ⟨v, e1, e2⟩ := hres (resVarsT_eq h4 _) h5
            exact ⟨v, T'.hp, by rw [e1, h4.hp]; rfl, e2⟩
          | ret =>
            simp only at h5 ⊢
            obtain ⟨v, e1, e2⟩ := hres (resVarsT_eq h4 _) h5
            exact ⟨v, T'.hp, by rw [e1, h4.hp]; rfl, e2⟩
theorem runK_ok {G : Option β → Prop} (hG : ¬ G none) {FT : Nat → Option Func} (hFT : ∀ f fn, FT f = some fn → E.P.funcs[f]? = some fn) : ∀ n, Snd G (runK E (β := β) FT n) (run E n) := by
  intro n
  induction n with
  | zero => intro f args hp K h; exact absurd h hG
  | succ n ihn => exact callK_ok hG hFT ihn
end
end Idl
end Go.Proofs.Ytdibmackcbpniaa
namespace Go.Proofs.Ytdibmackcbpniaa
namespace Idl
inductive FTr where
  | nil
  | leaf (f : Nat) (fn : Func)
  | node (m : Nat) (l r : FTr)
noncomputable def FTr.get (t : FTr) : Nat → Option Func :=
  FTr.rec (motive := fun _ => Nat → Option Func) (fun _ => none) (fun j fn i => cond (Nat.beq i j) (some fn) none) (fun m _ _ gl gr i => cond (Nat.ble m i) (gr i) (gl i)) t
def FTr.leaves : FTr → List (Nat × Func)
  | .nil => []
  | .leaf f fn => [(f, fn)]
  | .node _ l r => l.leaves ++ r.leaves
theorem FTr.get_mem {t : FTr} {f : Nat} {fn : Func} (h : t.get f = some fn) : (f, fn) ∈ t.leaves := by
  induction t with
  | nil => cases h
  | leaf j g =>
    have h : cond (Nat.beq f j) (some g) none = some fn := h
    cases hb : Nat.beq f j with
    | false => rw [hb] at h; cases h
    | true =>
      rw [hb] at h
      simp only [cond, Option.some.injEq] at h
      subst h
      rw [Nat.eq_of_beq_eq_true hb]
      exact List.mem_cons_self
  | node m l r ihl ihr =>
    have h : cond (Nat.ble m f) (r.get f) (l.get f) = some fn := h
    simp only [FTr.leaves, List.mem_append]
    cases hb : Nat.ble m f with
    | true => rw [hb] at h; exact .inr (ihr h)
    | false => rw [hb] at h; exact .inl (ihl h)
theorem FTr.ok {P : Program} {t : FTr} (h : t.leaves.map (fun p => P.funcs[p.1]?) = t.leaves.map (fun p => some p.2)) : ∀ f fn, t.get f = some fn → P.funcs[f]? = some fn :=
  fun _ _ hf => List.map_inj_left.1 h _ (FTr.get_mem hf)

/-- The outcome of a run, reckoned. -/
noncomputable def outK (E : Env) (FT : FTr) (n : Nat) (f : FuncId) (args : List IV) : Option IV := runK E FT.get n f args ⟨[], []⟩ fun v _ => some v
theorem outK_run {E : Env} {FT : FTr} (hFT : ∀ f fn, FT.get f = some fn → E.P.funcs[f]? = some fn) {n : Nat} {f : FuncId} {args : List IV} {v : IV} (h : outK E FT n f args = some v) :
    ∃ hp', run E n f args ⟨[], []⟩ = some (v, hp') := by
  obtain ⟨r, hp', h1, h2⟩ := runK_ok (G := fun o => o = some v) (fun e => by cases e) hFT n f args ⟨[], []⟩ _ h
  simp only [Option.some.injEq] at h2
  subst h2
  exact ⟨hp', h1⟩
/-- Does it answer true? -/
noncomputable def trueK (E : Env) (FT : FTr) (n : Nat) (f : FuncId) (args : List IV) : Bool :=
  match outK E FT n f args with
  | some (.fv (.bool b)) => b
  | _ => false
theorem trueK_run {E : Env} {FT : FTr} (hFT : ∀ f fn, FT.get f = some fn → E.P.funcs[f]? = some fn) {n : Nat} {f : FuncId} {args : List IV} (h : trueK E FT n f args = true) :
    ∃ hp', run E n f args ⟨[], []⟩ = some (.fv (.bool true), hp') := by
  unfold trueK at h
  split at h
  · rename_i b hb
    subst h
    exact outK_run hFT hb
  · cases h
end Idl
end Go.Proofs.Ytdibmackcbpniaa
namespace Go.Proofs.Ytdibmackcbpniaa
namespace Idl
/-- What is asked of that function; what it is said to answer. -/
abbrev Asks := List (List IV × Int)
abbrev KS := List Int → Option (Asks × IV)
noncomputable def saidK (W : FuncId) (R : KR KS) : KR KS := fun f args hp K =>
  cond (Nat.beq f W)
    (match hp with
      | ⟨[], []⟩ => some fun st => match st with
        | [] => none
        | k :: st => match K (.fv (.int .i64 k)) ⟨[], []⟩ with
          | none => none
          | some g => match g st with
            | none => none
            | some (log, v) => some ((args, k) :: log, v)
      | _ => none)
    (R f args hp K)
noncomputable def outS (E : Env) (FT : FTr) (W : FuncId) (n : Nat) (f : FuncId) (args : List IV) (st : List Int) : Option (Asks × IV) :=
  match callK E (saidK W (runK E FT.get n)) FT.get n f args ⟨[], []⟩ (fun v _ => some fun _ => some ([], v)) with
  | none => none
  | some g => g st
/-- What is said of that function holds. -/
def Stand (ih : Handler) (W : FuncId) (log : Asks) : Prop := ∀ q ∈ log, ih W q.1 ⟨[], []⟩ = some (.fv (.int .i64 q.2), ⟨[], []⟩)
def SG (ih : Handler) (W : FuncId) (v : IV) (o : Option KS) : Prop := ∃ g st log, o = some g ∧ g st = some (log, v) ∧ Stand ih W log
theorem sg_none {ih : Handler} {W : FuncId} {v : IV} : ¬ SG ih W v none := fun ⟨_, _, _, h, _⟩ => by cases h
theorem said_ok {ih : Handler} {W : FuncId} {v : IV} {R : KR KS} (hR : Snd (SG ih W v) R ih) : Snd (SG ih W v) (saidK W R) ih := by
  intro f args hp K h
  unfold saidK at h
  cases hb : Nat.beq f W with
  | false => rw [hb] at h; exact hR _ _ _ _ h
  | true =>
    rw [hb] at h
    simp only [cond] at h
    rw [Nat.eq_of_beq_eq_true hb]
    split at h
    · obtain ⟨g, st, log, e1, e2, e3⟩ := h
      simp only [Option.some.injEq] at e1
      subst e1
      simp only at e2
      split at e2
      · cases e2
      · rename_i k st
        cases hk : K (.fv (.int .i64 k)) ⟨[], []⟩ with
        | none => simp only [hk] at e2; cases e2
        | some g' =>
          simp only [hk] at e2
          cases hg : g' st with
          | none => simp only [hg] at e2; cases e2
          | some p =>
            obtain ⟨log', v'⟩ := p
            simp only [hg, Option.some.injEq, Prod.mk.injEq] at e2
            obtain ⟨rfl, rfl⟩ := e2
            exact ⟨_, _, e3 _ List.mem_cons_self, g', st, log', hk, hg, fun q hq => e3 q (List.mem_cons_of_mem _ hq)⟩
    · exact absurd h sg_none
theorem outS_run {E : Env} {FT : FTr} (hFT : ∀ f fn, FT.get f = some fn → E.P.funcs[f]? = some fn) {W : FuncId} {n : Nat} {f : FuncId} {args : List IV} {st : List Int} {log : Asks} {v : IV}
    (h : outS E FT W n f args st = some (log, v)) (hs : Stand (run E n) W log) : ∃ hp', run E (n + 1) f args ⟨[], []⟩ = some (v, hp') := by
  unfold outS at h
  split at h
  · cases h
  · rename_i g hg
    have hG : SG (run E n) W v (callK E (saidK W (runK E FT.get n)) FT.get n f args ⟨[], []⟩ (fun v _ => some fun _ => some ([], v))) := ⟨g, st, log, hg, h, hs⟩
    obtain ⟨r, hp', h1, h2⟩ := callK_ok sg_none hFT (said_ok (runK_ok sg_none hFT n)) f args ⟨[], []⟩ _ hG
    obtain ⟨g', st', log', e1, e2, _⟩ := h2
    simp only [Option.some.injEq] at e1
    subst e1
    simp only [Option.some.injEq, Prod.mk.injEq] at e2
    exact ⟨hp', by rw [h1, e2.2]⟩
end Idl
end Go.Proofs.Ytdibmackcbpniaa

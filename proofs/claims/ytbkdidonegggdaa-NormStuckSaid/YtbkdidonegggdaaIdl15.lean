/-
  THE IDEAL SEMANTICS AND MEMORY: one operation of a region.
-/
import Derived.Test.YtbkdidonegggdaaIdl14
namespace Go.Proofs.Ytbkdidonegggdaa
namespace Idl

section
variable {μ : Ref → Nat} {w : World} {F : Prot} {hp hp' : Hp}

theorem refsL_mem {r : Ref} : ∀ {l : List IV}, r ∈ IV.refs.refsL l ↔ ∃ v ∈ l, r ∈ v.refs
  | [] => by simp [IV.refs.refsL]
  | v :: l => by simp [IV.refs.refsL, refsL_mem (l := l)]

/-- A value stands where its blocks do. -/
theorem R_keep {v : IV} {x : Value} (h : R μ w F hp v x) : (∀ r ∈ v.refs, hp'.get r = hp.get r) → R μ w F hp' v x := by
  induction h with
  | dead x => exact fun _ => .dead x
  | fv v x h => exact fun _ => .fv v x h
  | ptr r off h => intro e; refine .ptr r off ?_; rw [e r (by simp [IV.refs])]; exact h
  | slc r sz len cap h hle => intro e; refine .slc r sz len cap ?_ hle; rw [e r (by simp [IV.refs])]; exact h
  | nils => exact fun _ => .nils
  | emp a cap => exact fun _ => .emp a cap
  | clip es a h => exact fun _ => .clip es a h
  | clip0 a => exact fun _ => .clip0 a
  | app r es x hx hne h => intro e; refine .app r es x hx hne ?_; rw [e r (by simp [IV.refs])]; exact h
  | func fn a b x y ha hb h1 h2 ih1 ih2 =>
    intro e
    refine .func fn a b x y ha hb (fun j c hc => ih1 j c hc fun r hr => e r ?_) (fun j c hc => ih2 j c hc fun r hr => e r ?_)
    · simp only [IV.refs, List.mem_append]; exact .inl (refsL_mem.2 ⟨c, List.mem_of_getElem? hc, hr⟩)
    · simp only [IV.refs, List.mem_append]; exact .inr (refsL_mem.2 ⟨c, List.mem_of_getElem? hc, hr⟩)
  | agg cs x hl h ih =>
    intro e
    refine .agg cs x hl fun j c hc => ih j c hc fun r hr => e r ?_
    simp only [IV.refs]; exact refsL_mem.2 ⟨c, List.mem_of_getElem? hc, hr⟩
  | tuple cs x hl h ih =>
    intro e
    refine .tuple cs x hl fun j c hc => ih j c hc fun r hr => e r ?_
    simp only [IV.refs]; exact refsL_mem.2 ⟨c, List.mem_of_getElem? hc, hr⟩
  | mapr r h => intro e; refine .mapr r ?_; rw [e r (by simp [IV.refs])]; exact h
theorem BR_keep {r : Ref} {b : Blk} (h : BR μ w F hp r b) (e : ∀ r ∈ b.refs, hp'.get r = hp.get r) : BR μ w F hp' r b := by
  cases b with
  | row cells ro =>
    obtain ⟨c, t, h1, h2, h3, h4, h5⟩ := h
    exact ⟨c, t, h1, h2, fun j x hx => R_keep (h3 j x hx) fun r hr => e r (by simp only [Blk.refs]; exact refsL_mem.2 ⟨x, List.mem_of_getElem? hx, hr⟩), h4, h5⟩
  | tok n sz => exact h
  | map es =>
    obtain ⟨arr, clk, h1, h2, h3⟩ := h
    refine ⟨arr, clk, h1, h2, fun j n x hx => ?_⟩
    obtain ⟨me, m1, m2, m3⟩ := h3 j n x hx
    exact ⟨me, m1, m2, R_keep m3 fun r hr => e r (by simp only [Blk.refs]; exact refsL_mem.2 ⟨x, List.mem_map.2 ⟨(n, x), List.mem_of_getElem? hx, rfl⟩, hr⟩)⟩

theorem put_R {slots : List IV} {a : Act} (h : SlotsR μ w F hp slots a.tmps) (d : Option Nat) {v : IV} {x : Value} (hv : R μ w F hp v x) :
    SlotsR μ w F hp (putSlot d v slots) (a.put d x).tmps := by
  cases d with
  | none => exact h
  | some d =>
    refine ⟨by simp [putSlot, Act.put, h.size], fun i y hy => ?_⟩
    simp only [putSlot, Act.put] at hy ⊢
    rw [Array.getD_eq_getD_getElem?]
    by_cases e : d = i
    · subst e
      by_cases hl : d < slots.length
      · rw [List.getElem?_set_self hl] at hy
        cases hy
        rw [Array.getElem?_setIfInBounds_self_of_lt (by rw [← h.size]; exact hl)]
        exact hv
      · rw [List.getElem?_eq_none (by simp; omega)] at hy
        cases hy
    · rw [List.getElem?_set_ne e] at hy
      rw [Array.getElem?_setIfInBounds_ne e, ← Array.getD_eq_getD_getElem?]
      exact h.at_ i y hy
theorem put_def (a : Act) (d : Option Nat) (x : Value) : (a.put d x).defers = a.defers := by cases d <;> rfl

theorem app_R {l m : List IV} {x y : Array Value} (h1 : SlotsR μ w F hp l x) (h2 : SlotsR μ w F hp m y) : SlotsR μ w F hp (l ++ m) (x ++ y) := by
  refine ⟨by simp [h1.size, h2.size], fun i v hv => ?_⟩
  rw [Array.getD_eq_getD_getElem?]
  by_cases hi : i < l.length
  · rw [List.getElem?_append_left hi] at hv
    rw [Array.getElem?_append_left (by rw [← h1.size]; exact hi), ← Array.getD_eq_getD_getElem?]
    exact h1.at_ i v hv
  · rw [List.getElem?_append_right (by omega)] at hv
    rw [Array.getElem?_append_right (by rw [← h1.size]; omega), ← Array.getD_eq_getD_getElem?, ← h1.size]
    exact h2.at_ _ v hv
theorem args_R {slots : List IV} {a : Act} (h : SlotsR μ w F hp slots a.tmps) (args : Array Operand) : SlotsR μ w F hp (args.toList.map (operand slots)) (args.map a.eval) := by
  refine ⟨by simp, fun i v hv => ?_⟩
  simp only [List.getElem?_map, Array.getElem?_toList, Option.map_eq_some_iff] at hv
  obtain ⟨c, hc, rfl⟩ := hv
  rw [Array.getD_eq_getD_getElem?]
  simp only [Array.getElem?_map, hc, Option.map_some, Option.getD_some]
  exact operand_R h c

theorem wanted_R {ops : Array Oper} {slots : List IV} {a : Act} {o : Oper} {b : Bool} (h : SlotsR μ w F hp slots a.tmps) (e : wantedI ops slots o = some b) :
    Region.wanted o (yielded ops a.tmps) = b := by
  unfold wantedI at e
  unfold Region.wanted
  split at e
  · rename_i hg; rw [hg]; simpa using e
  · rename_i j want hg
    rw [hg]
    simp only [yielded]
    have key : ∀ v, ((ops[j]?).bind (·.dst)).bind (slots[·]?) = some v → ∃ x, ((ops[j]?).bind (·.dst)).bind (a.tmps[·]?) = some x ∧ R μ w F hp v x := by
      intro v hv
      obtain ⟨d, h1, h2⟩ := Option.bind_eq_some_iff.1 hv
      rw [h1]
      have hd : d < a.tmps.size := by rw [← h.size]; exact (List.getElem?_eq_some_iff.1 h2).1
      refine ⟨a.tmps[d], by simp [hd], ?_⟩
      have := h.at_ d v h2
      rw [Array.getD_eq_getD_getElem?, Array.getElem?_eq_getElem hd] at this
      exact this
    split at e
    · rename_i b' hv
      obtain ⟨x, h1, h2⟩ := key _ hv
      cases h2 with | fv _ _ h2 =>
      cases h2
      rw [h1]
      simp only [Option.some.injEq] at e
      rw [← e]
      rfl
    · rename_i hv
      obtain ⟨x, h1, h2⟩ := key _ hv
      cases h2 with | fv _ _ h2 =>
      cases h2 with | tuple _ x _ _ =>
      rw [h1]
      simp only [Option.some.injEq] at e
      rw [← e]
      rfl
    · cases e
end

section
variable {E : Env} {μ : Ref → Nat} {w : World} {F : Prot} {hp hp' : Hp} {ih : Handler} {slots : List IV} {a : Act} {o : Oper}

theorem op_call (hE : EnvOk E) (hs : SlotsR μ w F hp slots a.tmps) {g : Operand} {args : Array Operand} {ts : Array TypeId} (ho : o.op = .call { callee := .value g, args := args, argTypes := ts })
    {h : FuncId} {first cap : List IV} (hc : callee (operand slots g) = some (h, first, cap)) (hf : ∃ fn, E.P.funcs[h]? = some fn ∧ fn.body.isSome) :
    ∃ vals, (execOp a.eval o).run E.P w = .ok (.enter h vals) w ∧ SlotsR μ w F hp (first ++ args.toList.map (operand slots) ++ cap) vals := by
  have hg := operand_R hs g
  have key : ∃ x y, a.eval g = .func (.func h) x y ∧ SlotsR μ w F hp first x ∧ SlotsR μ w F hp cap y := by
    unfold callee at hc
    split at hc
    · rename_i f p q he
      rw [he] at hg
      simp only [Option.some.injEq, Prod.mk.injEq] at hc
      obtain ⟨rfl, rfl, rfl⟩ := hc
      generalize hxv : a.eval g = xv at hg
      cases hg with | fv _ _ hg =>
      cases hg with | func _ _ _ x y ha hb h1 h2 =>
      refine ⟨x, y, rfl, ⟨by simpa using ha, fun i v hv => ?_⟩, ⟨by simpa using hb, fun i v hv => ?_⟩⟩ <;>
        simp only [List.getElem?_map, Option.map_eq_some_iff] at hv <;> obtain ⟨c, hc, rfl⟩ := hv
      · exact .fv _ _ (h1 i c hc)
      · exact .fv _ _ (h2 i c hc)
    · rename_i f p q he
      rw [he] at hg
      simp only [Option.some.injEq, Prod.mk.injEq] at hc
      obtain ⟨rfl, rfl, rfl⟩ := hc
      generalize hxv : a.eval g = xv at hg
      cases hg with | func _ _ _ x y ha hb h1 h2 =>
      exact ⟨x, y, rfl, ⟨ha, h1⟩, ⟨hb, h2⟩⟩
    · cases hc
  obtain ⟨x, y, h1, h2, h3⟩ := key
  obtain ⟨fn, hfn, hb⟩ := hf
  refine ⟨(x ++ args.map a.eval) ++ y, ?_, app_R (app_R h2 (args_R hs args)) h3⟩
  have hn := hE.names h fn hfn hb
  have hn' : fn.name ≠ "runtime.NumGoroutine" := by simpa using hn
  obtain ⟨c, hbc⟩ := Option.isSome_iff_exists.1 hb
  simp [execOp, ho, resolve, h1, Deferred.ofValue, invoke, callFunc, hfn, hn', hbc]

/-- A state of a body, as it stands; and what became of the world that the call was entered with. -/
def At (μ0 : Ref → Nat) (w0 : World) (F0 : Prot) (hp0 : Hp) (S : St) (a : Act) (w : World) : Prop :=
  a.defers = [] ∧ ∃ μ F, SlotsR μ w F S.hp S.slots a.tmps ∧ HR μ w F S.hp ∧ Stp μ0 w0 F0 hp0 μ w F S.hp

variable {μ0 : Ref → Nat} {w0 : World} {F0 : Prot} {hp0 : Hp} {Q : Exit → Act → World → Prop} {K : Act → World → Prop}

theorem step_ok (hE : EnvOk E) (hih : SimH E ih) {f : FuncId} {rid i : Nat} {ops : Array Oper} {S S' : St} (h : step E ih f rid ops i S = some S')
    (hat : At μ0 w0 F0 hp0 S a w) (hK : ∀ a' w', At μ0 w0 F0 hp0 S' a' w' → K a' w') : wpOp E.P ops Q i K a w := by
  obtain ⟨hd, μ, F, hs, hr, hst⟩ := hat
  unfold step at h
  unfold wpOp
  split at h
  · rename_i ho
    rw [ho]
    simp only [Option.some.injEq] at h
    subst h
    exact hK a w ⟨hd, μ, F, hs, hr, hst⟩
  · rename_i o ho
    rw [ho]
    split at h
    · cases h
    · rename_i hw
      simp only [Option.some.injEq] at h
      subst h
      simp only [wanted_R hs hw, Bool.false_eq_true, if_false]
      exact hK _ w ⟨by rw [put_def]; exact hd, μ, F, put_R hs o.dst (.fv _ _ (.tuple [] #[] rfl fun j c h => by simp at h)), hr, hst⟩
    · rename_i hw
      simp only [wanted_R hs hw, if_true]
      refine .inl ?_
      unfold Oper.wp
      -- the outcome of a call
      have call : ∀ {g args ts h' first cap res hp1}, o.op = .call { callee := .value g, args := args, argTypes := ts } → callee (operand S.slots g) = some (h', first, cap) →
          (∃ fn, E.P.funcs[h']? = some fn ∧ fn.body.isSome) →
          (∀ vals, SlotsR μ w F S.hp (first ++ args.toList.map (operand S.slots) ++ cap) vals → SimC E μ w F S.hp h' vals res hp1) →
          S' = ⟨putSlot o.dst res S.slots, hp1⟩ → o.upon E.P a K Q ((execOp a.eval o).run E.P w) := by
        intro g args ts h' first cap res hp1 ho' hc hf hsim hS
        subst hS
        obtain ⟨vals, e1, e2⟩ := op_call hE hs ho' hc hf
        rw [e1]
        refine (hsim vals e2).mono ?_
        rintro e w' ⟨v, μ', F', rfl, st, hr', hv⟩
        exact hK _ w' ⟨by rw [put_def]; exact hd, μ', F', put_R (hs.mono st) o.dst hv, hr', hst.trans st⟩
      split at h
      · rename_i h' args' hin
        simp only [Option.map_eq_some_iff] at h
        obtain ⟨⟨v, hp1⟩, h1, h2⟩ := h
        unfold inlCall at hin
        split at hin
        · rename_i g args ts ho'
          split at hin
          · rename_i h'' first cap hc
            split at hin
            · simp only [Option.some.injEq, Prod.mk.injEq] at hin
              obtain ⟨rfl, rfl⟩ := hin
              obtain ⟨hf, hsim⟩ := hih _ _ _ _ _ h1
              exact call ho' hc hf (fun vals hv => hsim μ w F vals hr hv) h2.symm
            · cases hin
          · cases hin
        · cases hin
      · rename_i hin
        obtain ⟨m, h1, h2⟩ := Option.bind_eq_some_iff.1 h
        simp only [applyMade, Option.map_eq_some_iff] at h2
        obtain ⟨hp1, h2, h3⟩ := h2
        by_cases hic : isCall o.op = true
        · cases hop : o.op with
          | call c =>
            obtain ⟨cl, args, ts⟩ := c
            cases cl with
            | value g =>
              rw [hop] at h1
              simp only [opR, opG] at h1
              split at h1
              · rename_i h'' first cap hc
                split at h1
                · exact fail_case h1
                · obtain ⟨eff, h4, h5⟩ := Rd.run_bind_some h1
                  simp only [Rd.run, Option.some.injEq] at h5
                  subst h5
                  simp only [heapOf] at h2
                  have h6 : laid S.hp eff.upd = some hp1 := by
                    cases hl : laid S.hp eff.upd with
                    | none => rw [hl] at h2; cases h2
                    | some q => rw [hl] at h2; exact h2
                  -- the callee has a body
                  by_cases hany : ∃ vals, SlotsR μ w F S.hp (first ++ args.toList.map (operand S.slots) ++ cap) vals
                  · obtain ⟨vals, hv⟩ := hany
                    exact call hop hc (iso_ok hr hih hv h4 h6).1 (fun vals hv => (iso_ok hr hih hv h4 h6).2) h3.symm
                  · refine absurd ?_ hany
                    have hg := operand_R hs g
                    unfold callee at hc
                    split at hc
                    · rename_i he
                      rw [he] at hg
                      simp only [Option.some.injEq, Prod.mk.injEq] at hc
                      obtain ⟨rfl, rfl, rfl⟩ := hc
                      generalize a.eval g = xv at hg
                      cases hg with | fv _ _ hg =>
                      cases hg with | func _ _ _ x y ha hb q1 q2 =>
                      refine ⟨(x ++ args.map a.eval) ++ y, app_R (app_R ⟨by simpa using ha, fun i v hv => ?_⟩ (args_R hs args)) ⟨by simpa using hb, fun i v hv => ?_⟩⟩ <;>
                        simp only [List.getElem?_map, Option.map_eq_some_iff] at hv <;> obtain ⟨c, hc, rfl⟩ := hv
                      · exact .fv _ _ (q1 i c hc)
                      · exact .fv _ _ (q2 i c hc)
                    · rename_i he
                      rw [he] at hg
                      simp only [Option.some.injEq, Prod.mk.injEq] at hc
                      obtain ⟨rfl, rfl, rfl⟩ := hc
                      generalize a.eval g = xv at hg
                      cases hg with | func _ _ _ x y ha hb q1 q2 =>
                      exact ⟨(x ++ args.map a.eval) ++ y, app_R (app_R ⟨ha, q1⟩ (args_R hs args)) ⟨hb, q2⟩⟩
                    · cases hc
              · exact fail_case h1
            | builtin b => rw [hop] at hic; cases hic
            | invoke r n => rw [hop] at hic; cases hic
          | _ => rw [hop] at hic; cases hic
        · obtain ⟨x, w', μ', F', e1, st, hr', hv⟩ := op_ok hE hr hs (by simpa using hic) h1 h2
          have hfin : K (a.put o.dst x) w' := by
            refine hK _ w' ?_
            rw [← h3]
            exact ⟨by rw [put_def]; exact hd, μ', F', put_R (hs.mono st) o.dst hv, hr', hst.trans st⟩
          rcases e1 with e1 | ⟨e1, rfl⟩
          · rw [e1]; exact hfin
          · rw [e1]; exact hfin

theorem runOps_ok (hE : EnvOk E) (hih : SimH E ih) {f : FuncId} {rid : Nat} {ops : Array Oper} : ∀ (l : List Nat) {S S' : St} {a : Act} {w : World}, runOps E ih f rid ops l S = some S' →
    At μ0 w0 F0 hp0 S a w → (∀ a' w', At μ0 w0 F0 hp0 S' a' w' → Q .normal a' w') → wpOps E.P ops Q l a w
  | [], S, S', a, w, h, hat, hQ => by
    simp only [runOps, Option.some.injEq] at h
    subst h
    exact hQ a w hat
  | i :: l, S, S', a, w, h, hat, hQ => by
    simp only [runOps, Option.bind_eq_some_iff] at h
    obtain ⟨S1, h1, h2⟩ := h
    rw [wpOps_cons]
    exact step_ok hE hih h1 hat fun a' w' hat' => runOps_ok hE hih l h2 hat' hQ
end
end Idl
end Go.Proofs.Ytbkdidonegggdaa

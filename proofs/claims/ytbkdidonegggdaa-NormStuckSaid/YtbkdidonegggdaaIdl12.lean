/-
  THE IDEAL SEMANTICS AND MEMORY: every operation but a call of a Go function.
-/
import Derived.Test.YtbkdidonegggdaaIdl11
namespace Go.Proofs.Ytbkdidonegggdaa
namespace Idl

section
variable {E : Env} {μ : Ref → Nat} {w : World} {F : Prot} {hp hp' : Hp} {slots : List IV} {a : Act} {ih : Handler} {f : FuncId} {rid i : Nat} {m : Made} {o : Oper}

theorem lenOf_R {x : IV} {u : Value} {es : List FV} (h : R μ w F hp x u) (e : elemsOf x = some es) : ∃ p c, u = .slice p es.length c := by
  rcases sl_inv (elemsOf_R h e) with ⟨rfl, p, c, rfl, _⟩ | ⟨_, b, base, _, cap, _, rfl, _⟩
  · exact ⟨p, c, rfl⟩
  · exact ⟨_, cap, rfl⟩

theorem op_builtin (hE : EnvOk E) (hr : HR μ w F hp) (hs : SlotsR μ w F hp slots a.tmps) {b : Builtin} {args : Array Operand} {ts : Array TypeId} (ho : o.op = .call { callee := .builtin b, args := args, argTypes := ts })
    (h : (opR E ih f rid i slots o.op).run hp = some m) (h' : heapOf (site f rid i) hp m = some hp') : OpOk μ w F hp m.eff.val hp' ((execOp a.eval o).run E.P w) := by
  simp only [ho, opR, opG] at h
  have hex : ∃ k, (execOp a.eval o).run E.P w = (builtin b ts o.type k (args.map a.eval)).run E.P w :=
    ⟨_, by simp only [execOp, ho, resolve, invoke, Sem.run_bind, Sem.run_pure, Result.andThen_ok]; rfl⟩
  obtain ⟨kc, hex⟩ := hex
  have hops : ∀ j y, (args.toList.map (operand slots))[j]? = some y → R μ w F hp y ((args.map a.eval).getD j undef) := list_ops_R hs args
  have hlen : (args.toList.map (operand slots)).length = (args.map a.eval).size := by simp
  generalize hxs : args.toList.map (operand slots) = xs at h hops hlen
  generalize hvs : args.map a.eval = vs at hex hops hlen
  unfold builtinR at h
  split at h
  · rename_i t x hts
    have htsa : ts = #[t] := by apply Array.ext'; exact hts
    subst htsa
    obtain ⟨v, hv⟩ : ∃ v, vs = #[v] := by
      match vs, hlen with
      | ⟨[v]⟩, _ => exact ⟨v, rfl⟩
    subst hv
    have hx := hops 0 x rfl
    simp only [Array.getD_eq_getD_getElem?, List.getElem?_toArray, List.getElem?_cons_zero, Option.getD_some] at hx
    split at h
    · rename_i s htt
      have hut := und_str (hE.types _ _ htt)
      obtain ⟨e1, rfl⟩ := val_case h h'
      cases hx with | fv _ _ hx =>
      cases hx
      rw [e1]
      refine .val hr (.fv _ _ (.int _ _)) ?_
      rw [hex]
      simp [builtin, Builtin.len_, run_underlying hut, goInt]
    · rename_i e _ _ htt
      have hut := und_slice (hE.types _ _ htt)
      split at h
      · rename_i r sz n
        obtain ⟨e1, rfl⟩ := val_case h h'
        cases hx with | slc _ _ _ cap _ _ =>
        rw [e1]
        refine .val hr (.fv _ _ (.int _ _)) ?_
        rw [hex]
        simp [builtin, Builtin.len_, run_underlying hut, goInt]
      · obtain ⟨e1, rfl⟩ := valO_case h h'
        simp only [Option.map_eq_some_iff] at e1
        obtain ⟨es, e1, e2⟩ := e1
        obtain ⟨p, c, rfl⟩ := lenOf_R hx e1
        rw [← e2]
        refine .val hr (.fv _ _ (.int _ _)) ?_
        rw [hex]
        simp [builtin, Builtin.len_, run_underlying hut, goInt]
    · exact fail_case h
  · rename_i t xt s x hts
    have htsa : ts = #[t, xt] := by apply Array.ext'; exact hts
    subst htsa
    obtain ⟨v, u, hv⟩ : ∃ v u, vs = #[v, u] := by
      match vs, hlen with
      | ⟨[v, u]⟩, _ => exact ⟨v, u, rfl⟩
    subst hv
    have hs0 := hops 0 s rfl
    have hx0 := hops 1 x rfl
    simp only [Array.getD_eq_getD_getElem?, List.getElem?_toArray, List.getElem?_cons_zero, List.getElem?_cons_succ, Option.getD_some] at hs0 hx0
    obtain ⟨z, w', μ', F', h1, h2, h3, h4⟩ := op_append (ty := o.type) hE hr rfl hs0 hx0 h h'
    refine ⟨z, w', μ', F', .inl ?_, h2, h3, h4⟩
    rw [hex]
    simp [builtin, h1]
  · rename_i kk x ll y _
    obtain ⟨v, u, hv⟩ : ∃ v u, vs = #[v, u] := by
      match vs, hlen with
      | ⟨[v, u]⟩, _ => exact ⟨v, u, rfl⟩
    subst hv
    have hs0 := hops 0 _ rfl
    have hx0 := hops 1 _ rfl
    simp only [Array.getD_eq_getD_getElem?, List.getElem?_toArray, List.getElem?_cons_zero, List.getElem?_cons_succ, Option.getD_some] at hs0 hx0
    obtain ⟨e1, rfl⟩ := val_case h h'
    cases hs0 with | fv _ _ hs0 =>
    cases hx0 with | fv _ _ hx0 =>
    cases hs0; cases hx0
    rw [e1]
    refine .val hr (.fv _ _ (.int _ _)) ?_
    rw [hex]
    simp [builtin, Builtin.max_, Builtin.max2]
  · rename_i kk x ll y _
    obtain ⟨v, u, hv⟩ : ∃ v u, vs = #[v, u] := by
      match vs, hlen with
      | ⟨[v, u]⟩, _ => exact ⟨v, u, rfl⟩
    subst hv
    have hs0 := hops 0 _ rfl
    have hx0 := hops 1 _ rfl
    simp only [Array.getD_eq_getD_getElem?, List.getElem?_toArray, List.getElem?_cons_zero, List.getElem?_cons_succ, Option.getD_some] at hs0 hx0
    obtain ⟨e1, rfl⟩ := val_case h h'
    cases hs0 with | fv _ _ hs0 =>
    cases hx0 with | fv _ _ hx0 =>
    cases hs0; cases hx0
    rw [e1]
    refine .val hr (.fv _ _ (.int _ _)) ?_
    rw [hex]
    simp [builtin, Builtin.min_, Builtin.min2]
  · exact fail_case h

/-- Is it a call of a function value? -/
def isCall : Op → Bool
  | .call { callee := .value _, .. } => true
  | _ => false

theorem op_ok (hE : EnvOk E) (hr : HR μ w F hp) (hs : SlotsR μ w F hp slots a.tmps) (hnc : isCall o.op = false)
    (h : (opR E ih f rid i slots o.op).run hp = some m) (h' : heapOf (site f rid i) hp m = some hp') : OpOk μ w F hp m.eff.val hp' ((execOp a.eval o).run E.P w) := by
  cases ho : o.op with
  | move x => rw [ho] at h; exact op_move hr hs (.inl ho) h h'
  | assign x => rw [ho] at h; exact op_move hr hs (.inr ho) h h'
  | pick c x y => exact op_pick hr hs ho h h'
  | alloc t => exact op_alloc hE hr ho h h'
  | box t x => exact op_box hr hs ho h h'
  | build t ps => exact op_build hE hr hs ho h h'
  | buildSlice t n ps => exact op_buildSlice hE hr hs ho h h'
  | load t x => exact op_load hE hr hs ho h h'
  | store t x y => exact op_store hE hr hs ho h h'
  | nilCheck x => exact op_nilCheck hr hs ho h h'
  | binOp op t x y u => exact op_binOp hE hr hs ho h h'
  | unOp op t x => exact op_unOp hr hs ho h h'
  | convert s d x => exact op_convert hE hr hs ho h h'
  | makeFunc fn x y => exact op_makeFunc hr hs ho h h'
  | makeMap t r =>
    cases r with
    | none => exact op_makeMap hr ho h h'
    | some r => rw [ho] at h; exact fail_case h
  | makeSlice t x y => exact op_makeSlice hE hr hs ho h h'
  | slice t x lo hi mx => exact op_slice hE hr hs ho h h'
  | fieldAddr s x n => exact op_fieldAddr hE hr hs ho h h'
  | field s x n => exact op_field hE hr hs ho h h'
  | indexAddr t x y => exact op_indexAddr hE hr hs ho h h'
  | index t x y => exact op_index hE hr hs ho h h'
  | lookup t x y ok => exact op_lookup hE hr hs ho h h'
  | mapUpdate t x y z => rw [ho] at h; exact op_insert (ih := ih) (f := f) (rid := rid) (i := i) hE hr hs (.inr ho) h h'
  | insert t x y z => rw [ho] at h; exact op_insert (ih := ih) (f := f) (rid := rid) (i := i) hE hr hs (.inl ho) h h'
  | extract x n => exact op_extract hr hs ho h h'
  | call c =>
    obtain ⟨cl, args, ts⟩ := c
    cases cl with
    | builtin b => exact op_builtin hE hr hs ho h h'
    | value g => rw [ho] at hnc; cases hnc
    | invoke r n => rw [ho] at h; exact fail_case h
  | _ => rw [ho] at h; exact fail_case h
end
end Idl
end Go.Proofs.Ytbkdidonegggdaa

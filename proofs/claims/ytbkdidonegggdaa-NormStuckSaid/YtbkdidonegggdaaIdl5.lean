/-
  THE IDEAL SEMANTICS AND MEMORY: operations, first part: those that make nothing; loads, stores, variables.
-/
import Derived.Test.YtbkdidonegggdaaIdl4
namespace Go.Proofs.Ytbkdidonegggdaa
namespace Idl

def kindOk : TypeDesc → TK → Prop
  | .int k, .int l => k = l
  | .bool, .bool => True
  | .string, .str => True
  | .pointer _, .ptr => True
  | .func .., .func => True
  | .slice e, .slice f => e = f
  | .array n e, .arr m f => n = m ∧ e = f
  | .struct fs, .struct l => fs.toList.map (fun f => (f.offset, f.type)) = l
  | .map k e, .map l f => k = l ∧ e = f
  | _, _ => False
structure TIok (P : Program) (t : TypeId) (ti : TI) : Prop where
  info : ∃ i z, P.info? t = some i ∧ i.size = ti.size ∧ i.bytes = ti.bytes ∧ i.zero = some z ∧ z.cells.toList.map ofConst1 = ti.zero ∧ z.cells.size = ti.size ∧
    (ti.kind.isAgg = true → z = .agg z.cells) ∧ (ti.kind.isAgg = false → z.cells = #[z])
  desc : ∃ d, P.underlying t = some d ∧ kindOk d ti.kind
  fields : ∀ fs, ti.kind = .struct fs → ∀ p ∈ fs, ∃ i, P.info? p.2 = some i

structure EnvOk (E : Env) : Prop where
  types : ∀ t ti, E.T t = some ti → TIok E.P t ti
  mixed : E.P.follows .mixedOrders = true
  names : ∀ (f : FuncId) fn, E.P.funcs[f]? = some fn → fn.body.isSome → (fn.name == "runtime.NumGoroutine") = false
  code : ∀ (f : FuncId) fn c, E.P.funcs[f]? = some fn → fn.body = some c → codeOk c = true

section
variable {P : Program} {w : World}
theorem run_sizeOf' {t : TypeId} {ti : TI} (h : TIok P t ti) : (sizeOf t).run P w = .ok ti.size w := by
  obtain ⟨i, z, h1, h2, _⟩ := h.info
  simp [sizeOf, typeInfo, h1, h2]
theorem run_bytes' {t : TypeId} {ti : TI} (h : TIok P t ti) : (typeInfo t).run P w = .ok ((P.info? t).getD default) w ∧ ((P.info? t).getD default).bytes = ti.bytes := by
  obtain ⟨i, z, h1, _, h2, _⟩ := h.info
  simp [typeInfo, h1, h2]
theorem run_isAgg' {t : TypeId} {ti : TI} (h : TIok P t ti) : (isAgg t).run P w = .ok ti.kind.isAgg w := by
  obtain ⟨d, h1, h2⟩ := h.desc
  have h3 := run_underlying h1 w
  simp only [isAgg, Sem.run_bind, h3, Result.andThen_ok]
  cases d <;> cases hk : ti.kind <;> simp_all [kindOk, TK.isAgg]
theorem zero_of {t : TypeId} {ti : TI} (h : TIok P t ti) : ∃ z, (∀ w, (zeroValue t).run P w = .ok z w) ∧ z.cells.toList.map ofConst1 = ti.zero ∧ z.cells.size = ti.size ∧
    (ti.kind.isAgg = true → z = .agg z.cells) ∧ (ti.kind.isAgg = false → z.cells = #[z]) := by
  obtain ⟨i, z, h1, _, _, h2, h3, h4, h5, h6⟩ := h.info
  exact ⟨z, fun w => by simp [zeroValue, typeInfo, h1, h2], h3, h4, h5, h6⟩
theorem size_one {t : TypeId} {ti : TI} (h : TIok P t ti) (ha : ti.kind.isAgg = false) : ti.size = 1 := by
  obtain ⟨z, _, _, h1, _, h2⟩ := zero_of h
  rw [← h1, h2 ha]; rfl
theorem und {t : TypeId} {ti : TI} (h : TIok P t ti) : ∃ d, (∀ w, (underlying t).run P w = .ok d w) ∧ P.underlying t = some d ∧ kindOk d ti.kind := by
  obtain ⟨d, h1, h2⟩ := h.desc
  exact ⟨d, fun w => run_underlying h1 w, h1, h2⟩
theorem und_slice {t : TypeId} {s b : Nat} {e : TypeId} {z : List IV} (h : TIok P t ⟨s, b, .slice e, z⟩) : P.underlying t = some (.slice e) := by
  obtain ⟨d, h1, h2⟩ := h.desc; cases d <;> simp_all [kindOk]
theorem und_int {t : TypeId} {s b : Nat} {k : IntKind} {z : List IV} (h : TIok P t ⟨s, b, .int k, z⟩) : P.underlying t = some (.int k) := by
  obtain ⟨d, h1, h2⟩ := h.desc; cases d <;> simp_all [kindOk]
theorem und_str {t : TypeId} {s b : Nat} {z : List IV} (h : TIok P t ⟨s, b, .str, z⟩) : P.underlying t = some .string := by
  obtain ⟨d, h1, h2⟩ := h.desc; cases d <;> simp_all [kindOk]
theorem und_bool {t : TypeId} {s b : Nat} {z : List IV} (h : TIok P t ⟨s, b, .bool, z⟩) : P.underlying t = some .bool := by
  obtain ⟨d, h1, h2⟩ := h.desc; cases d <;> simp_all [kindOk]
theorem und_ptr {t : TypeId} {s b : Nat} {z : List IV} (h : TIok P t ⟨s, b, .ptr, z⟩) : ∃ e, P.underlying t = some (.pointer e) := by
  obtain ⟨d, h1, h2⟩ := h.desc; cases d <;> simp_all [kindOk]
theorem und_func {t : TypeId} {s b : Nat} {z : List IV} (h : TIok P t ⟨s, b, .func, z⟩) : ∃ x y v, P.underlying t = some (.func x y v) := by
  obtain ⟨d, h1, h2⟩ := h.desc; cases d <;> simp_all [kindOk]
theorem und_arr {t : TypeId} {s b n : Nat} {e : TypeId} {z : List IV} (h : TIok P t ⟨s, b, .arr n e, z⟩) : P.underlying t = some (.array n e) := by
  obtain ⟨d, h1, h2⟩ := h.desc; cases d <;> simp_all [kindOk]
theorem und_struct {t : TypeId} {s b : Nat} {l : List (Nat × TypeId)} {z : List IV} (h : TIok P t ⟨s, b, .struct l, z⟩) :
    ∃ fs, P.underlying t = some (.struct fs) ∧ fs.toList.map (fun f => (f.offset, f.type)) = l := by
  obtain ⟨d, h1, h2⟩ := h.desc; cases d <;> simp_all [kindOk]
theorem und_map {t : TypeId} {s b : Nat} {k e : TypeId} {z : List IV} (h : TIok P t ⟨s, b, .map k e, z⟩) : P.underlying t = some (.map k e) := by
  obtain ⟨d, h1, h2⟩ := h.desc; cases d <;> simp_all [kindOk]
end

/-- What an operation's run comes to. -/
def OpOk (μ : Ref → Nat) (w : World) (F : Prot) (hp : Hp) (v : IV) (hp' : Hp) (res : Result Next) : Prop :=
  ∃ x w' μ' F', (res = .ok (.value x) w' ∨ (res = .ok .skip w' ∧ x = undef)) ∧ Stp μ w F hp μ' w' F' hp' ∧ HR μ' w' F' hp' ∧ R μ' w' F' hp' v x

section
variable {μ : Ref → Nat} {w : World} {F : Prot} {hp : Hp}

theorem OpOk.val (hr : HR μ w F hp) {v : IV} {x : Value} {res : Result Next} (hv : R μ w F hp v x) (e : res = .ok (.value x) w) : OpOk μ w F hp v hp res :=
  ⟨x, w, μ, F, .inl e, .refl _ _ _ _, hr, hv⟩

/-- The operation answers a value, and nothing else happens. -/
theorem val_case {k : Nat} {hp' : Hp} {v : IV} {m : Made} (h : (val v).run hp = some m) (h' : heapOf k hp m = some hp') : m.eff.val = v ∧ hp' = hp := by
  simp only [Idl.val, Rd.run, Option.some.injEq] at h
  subst h
  simp only [heapOf, newOf, laid, Option.bind_some, Option.some.injEq] at h'
  exact ⟨rfl, h'.symm⟩
theorem valO_case {k : Nat} {hp' : Hp} {v : Option IV} {m : Made} (h : (valO v).run hp = some m) (h' : heapOf k hp m = some hp') : v = some m.eff.val ∧ hp' = hp := by
  cases v with
  | none => simp [valO, Rd.run] at h
  | some v => obtain ⟨e1, e2⟩ := val_case h h'; exact ⟨by rw [e1], e2⟩
theorem fail_case {m : Made} {α : Prop} (h : (Rd.fail : Rd Made).run hp = some m) : α := by cases h

theorem const1_R (v : Value) : R μ w F hp (ofConst1 v) v := by
  unfold ofConst1
  split
  · exact .fv _ _ (.bool _)
  · exact .fv _ _ (.int _ _)
  · exact .fv _ _ (.str _)
  · exact .fv _ _ .nilp
  · exact .nils
  · exact .fv _ _ .nilf
  · exact .dead _
theorem allFv_R {l : List IV} {vs : List FV} {x : Nat → Value} (h : allFv l = some vs) (hx : ∀ j y, l[j]? = some y → R μ w F hp y (x j)) :
    vs.length = l.length ∧ ∀ j c, vs[j]? = some c → RF w F c (x j) := by
  induction l generalizing vs x with
  | nil => simp only [allFv, Option.some.injEq] at h; subst h; exact ⟨rfl, fun j c hc => by simp at hc⟩
  | cons v l ih =>
    cases v with
    | fv v =>
      simp only [allFv, Option.map_eq_some_iff] at h
      obtain ⟨ws, h1, rfl⟩ := h
      obtain ⟨e, h2⟩ := ih (x := fun j => x (j + 1)) h1 (fun j y hy => hx (j + 1) y hy)
      refine ⟨by simp [e], fun j c hc => ?_⟩
      cases j with
      | zero => simp at hc; subst hc; have := hx 0 _ rfl; cases this with | fv _ _ h => exact h
      | succ j => exact h2 j c (by simpa using hc)
    | _ => simp [allFv] at h
theorem mkAgg_R {l : List IV} {a : Array Value} (hl : l.length = a.size) (h : ∀ j y, l[j]? = some y → R μ w F hp y (a.getD j undef)) : R μ w F hp (mkAgg l) (.agg a) := by
  unfold mkAgg
  split
  · rename_i vs hv
    obtain ⟨e, h1⟩ := allFv_R hv h
    exact .fv _ _ (.agg vs a (by omega) h1)
  · exact .agg l a hl h
theorem mkTuple_R {l : List IV} {a : Array Value} (hl : l.length = a.size) (h : ∀ j y, l[j]? = some y → R μ w F hp y (a.getD j undef)) : R μ w F hp (mkTuple l) (.tuple a) := by
  unfold mkTuple
  split
  · rename_i vs hv
    obtain ⟨e, h1⟩ := allFv_R hv h
    exact .fv _ _ (.tuple vs a (by omega) h1)
  · exact .tuple l a hl h
theorem mkFunc_R {fn : Fn} {l m : List IV} {a b : Array Value} (hl : l.length = a.size) (hm : m.length = b.size) (h : ∀ j y, l[j]? = some y → R μ w F hp y (a.getD j undef))
    (h' : ∀ j y, m[j]? = some y → R μ w F hp y (b.getD j undef)) : R μ w F hp (mkFunc fn l m) (.func fn a b) := by
  unfold mkFunc
  split
  · rename_i vs ws hv hw
    obtain ⟨e, h1⟩ := allFv_R hv h
    obtain ⟨e', h2⟩ := allFv_R hw h'
    exact .fv _ _ (.func fn vs ws a b (by omega) (by omega) h1 h2)
  · exact .func fn l m a b hl hm h h'
theorem const_R (v : Value) : R μ w F hp (ofConst v) v := by
  unfold ofConst
  split
  · rename_i cs
    refine mkAgg_R (by simp) fun j y hy => ?_
    simp only [List.getElem?_map, Option.map_eq_some_iff, Array.getElem?_toList] at hy
    obtain ⟨c, hc, rfl⟩ := hy
    rw [Array.getD_eq_getD_getElem?, hc]
    exact const1_R c
  · exact const1_R v

/-- Slots. -/
structure SlotsR (μ : Ref → Nat) (w : World) (F : Prot) (hp : Hp) (slots : List IV) (tmps : Array Value) : Prop where
  size : slots.length = tmps.size
  at_ : ∀ i v, slots[i]? = some v → R μ w F hp v (tmps.getD i undef)
theorem SlotsR.mono {μ' : Ref → Nat} {w' : World} {F' : Prot} {hp' : Hp} {slots : List IV} {tmps : Array Value} (h : SlotsR μ w F hp slots tmps) (st : Stp μ w F hp μ' w' F' hp') :
    SlotsR μ' w' F' hp' slots tmps := ⟨h.size, fun i v hv => (h.at_ i v hv).mono st⟩
theorem operand_R {slots : List IV} {a : Act} (h : SlotsR μ w F hp slots a.tmps) (x : Operand) : R μ w F hp (operand slots x) (a.eval x) := by
  cases x with
  | tmp t =>
    simp only [operand, Act.eval]
    rw [List.getD_eq_getElem?_getD]
    cases hs : slots[t]? with
    | none => exact .dead _
    | some v => exact h.at_ t v hs
  | const v => exact const_R v
  | global g => exact .dead _
  | func f => exact .fv _ _ (.func _ [] [] #[] #[] rfl rfl (fun j c h => by simp at h) (fun j c h => by simp at h))

/-- A value's cells. -/
theorem cells_R {v : IV} {x : Value} (h : R μ w F hp v x) (ha : v.alive = true) :
    v.cells.length = x.cells.size ∧ ∀ j y, v.cells[j]? = some y → R μ w F hp y (x.cells.getD j undef) := by
  have one : ∀ {v : IV} {x : Value}, R μ w F hp v x → v.cells = [v] → x.cells = #[x] → v.cells.length = x.cells.size ∧ ∀ j y, v.cells[j]? = some y → R μ w F hp y (x.cells.getD j undef) := by
    intro v x h e1 e2
    rw [e1, e2]
    refine ⟨rfl, fun j y hy => ?_⟩
    cases j with
    | zero => simp at hy; subst hy; simpa using h
    | succ j => simp at hy
  cases h with
  | dead => cases ha
  | fv v x hx =>
    cases hx with
    | agg cs x hl h =>
      refine ⟨by simpa [IV.cells, Value.cells] using hl, fun j y hy => ?_⟩
      simp only [IV.cells, List.getElem?_map, Option.map_eq_some_iff] at hy
      obtain ⟨c, hc, rfl⟩ := hy
      exact .fv _ _ (h j c hc)
    | tuple => cases ha
    | bool b => exact one (.fv _ _ (.bool b)) rfl rfl
    | int k n => exact one (.fv _ _ (.int k n)) rfl rfl
    | str s => exact one (.fv _ _ (.str s)) rfl rfl
    | nilp => exact one (.fv _ _ .nilp) rfl rfl
    | nilf => exact one (.fv _ _ .nilf) rfl rfl
    | fp cs off b base vs h1 h2 h3 => exact one (.fv _ _ (.fp cs off b base vs h1 h2 h3)) rfl rfl
    | sl0 a cap h => exact one (.fv _ _ (.sl0 a cap h)) rfl rfl
    | sl es b base sz cap vs h1 h2 h3 h4 h5 h6 => exact one (.fv _ _ (.sl es b base sz cap vs h1 h2 h3 h4 h5 h6)) rfl rfl
    | func fn a b x y h1 h2 h3 h4 => exact one (.fv _ _ (.func fn a b x y h1 h2 h3 h4)) rfl rfl
  | ptr r off h => exact one (.ptr r off h) rfl rfl
  | slc r sz len cap h hle => exact one (.slc r sz len cap h hle) rfl rfl
  | nils => exact one .nils rfl rfl
  | emp a cap => exact one (.emp a cap) rfl rfl
  | clip es a h => exact one (.clip es a h) rfl rfl
  | clip0 a => exact one (.clip0 a) rfl rfl
  | app r es x hx hne h =>
    have : x.cells = #[x] := by cases hx <;> rfl
    exact one (.app r es x hx hne h) rfl this
  | func fn a b x y h1 h2 h3 h4 => exact one (.func fn a b x y h1 h2 h3 h4) rfl rfl
  | agg cs x hl h => exact ⟨hl, h⟩
  | tuple => cases ha
  | mapr r h => exact one (.mapr r h) rfl rfl
theorem one_R {v : IV} {x : Value} (h : R μ w F hp v x) (ho : v.one = true) : x.oneCell' = true := by
  cases h with
  | dead => cases ho
  | fv v x hx => cases hx <;> first | rfl | cases ho
  | app r es x hx _ _ => cases hx <;> rfl
  | agg => cases ho
  | tuple => cases ho
  | _ => rfl

/-- A variable that is read: the cells of it. -/
theorem run_loadVar' {P : Program} {t : TypeId} {ti : TI} (h : TIok P t ti) (b off : Nat) (f : Nat → Value) (hc : ∀ j, j < ti.size → w.cell? ⟨b, off + j, none⟩ = some (f j)) :
    (loadVar t ⟨b, off, none⟩).run P w = .ok (if ti.kind.isAgg then .agg ((List.range ti.size).map f).toArray else f 0) w := by
  simp only [loadVar, Sem.run_bind, run_isAgg' h, Result.andThen_ok]
  cases ha : ti.kind.isAgg with
  | true =>
    simp only [if_true, Sem.run_bind, run_sizeOf' h, Result.andThen_ok]
    rw [run_loadCells w ⟨b, off, none⟩ ti.size f (fun j hj => by rw [Addr.add_lit]; exact hc j hj)]
    rfl
  | false =>
    have := hc 0 (by rw [size_one h ha]; omega)
    simp only [Nat.add_zero] at this
    simp [this]
theorem takeVar_R {agg : Bool} {size off : Nat} {cells : List IV} {v : IV} {f : Nat → Value} (h : takeVar agg size off cells = some v) (hc : ∀ j x, cells[j]? = some x → R μ w F hp x (f j)) :
    R μ w F hp v (if agg then .agg ((List.range size).map fun j => f (off + j)).toArray else f off) := by
  cases agg with
  | true =>
    simp only [takeVar, if_true] at h ⊢
    split at h
    · simp only [Option.some.injEq] at h
      subst h
      refine mkAgg_R (by simp; omega) fun j y hy => ?_
      rw [List.getElem?_take] at hy
      split at hy
      · rename_i hj
        rw [List.getElem?_drop] at hy
        have := hc _ _ hy
        rw [Array.getD_eq_getD_getElem?]
        simpa [hj] using this
      · cases hy
    · cases h
  | false => simp only [takeVar, Bool.false_eq_true, if_false] at h ⊢; exact hc _ _ h
theorem takeVar_lt {agg : Bool} {size off : Nat} {cells : List IV} {v : IV} (h : takeVar agg size off cells = some v) (hs : agg = false → size = 1) : off + size ≤ cells.length := by
  cases agg with
  | true => simp only [takeVar, if_true] at h; split at h; · assumption
            · cases h
  | false =>
    simp only [takeVar, Bool.false_eq_true, if_false] at h
    have := (List.getElem?_eq_some_iff.1 h).1
    rw [hs rfl]; omega
theorem takeVarF_R {agg : Bool} {size off : Nat} {cells : List FV} {v : FV} {f : Nat → Value} (h : takeVarF agg size off cells = some v) (hc : ∀ j x, cells[j]? = some x → RF w F x (f j)) :
    RF w F v (if agg then .agg ((List.range size).map fun j => f (off + j)).toArray else f off) := by
  cases agg with
  | true =>
    simp only [takeVarF, if_true] at h ⊢
    split at h
    · simp only [Option.some.injEq] at h
      subst h
      refine .agg _ _ (by simp; omega) fun j y hy => ?_
      rw [List.getElem?_take] at hy
      split at hy
      · rename_i hj
        rw [List.getElem?_drop] at hy
        have := hc _ _ hy
        rw [Array.getD_eq_getD_getElem?]
        simpa [hj] using this
      · cases hy
    · cases h
  | false => simp only [takeVarF, Bool.false_eq_true, if_false] at h ⊢; exact hc _ _ h
theorem takeVarF_lt {agg : Bool} {size off : Nat} {cells : List FV} {v : FV} (h : takeVarF agg size off cells = some v) (hs : agg = false → size = 1) : off + size ≤ cells.length := by
  cases agg with
  | true => simp only [takeVarF, if_true] at h; split at h; · assumption
            · cases h
  | false =>
    simp only [takeVarF, Bool.false_eq_true, if_false] at h
    have := (List.getElem?_eq_some_iff.1 h).1
    rw [hs rfl]; omega
end
end Idl
end Go.Proofs.Ytbkdidonegggdaa

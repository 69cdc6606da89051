/-
  THE IDEAL SEMANTICS AND MEMORY: what an ideal value stands for in a world; what a step may do to it.
-/
import Derived.Test.YtbkdidonegggdaaIdl1
import Derived.WalkKit
namespace Go.Proofs.Ytbkdidonegggdaa
namespace Idl

/-- Cells that are never written again. -/
abbrev Prot := Nat → Nat → Prop

/-- A frozen value, as it lies in memory. -/
inductive RF (w : World) (F : Prot) : FV → Value → Prop
  | bool (b : Bool) : RF w F (.bool b) (.bool b)
  | int (k : IntKind) (n : Int) : RF w F (.int k n) (.int k n)
  | str (s : ByteArray) : RF w F (.str s) (.string s)
  | nilp : RF w F .nilp (.pointer none)
  | nilf : RF w F .nilf .nilFunc
  | fp (cs : List FV) (off b base : Nat) (vs : Nat → Value) (hF : ∀ j, j < cs.length → F b (base + j))
      (hc : ∀ j, j < cs.length → w.cell? ⟨b, base + j, none⟩ = some (vs j)) (h : ∀ j c, cs[j]? = some c → RF w F c (vs j)) :
      RF w F (.fp cs off) (.pointer (some ⟨b, base + off, none⟩))
  | sl0 (a : Option Addr) (cap : Nat) (h : a = none → cap = 0) : RF w F (.sl []) (.slice a 0 cap)
  | sl (es : List FV) (b base sz cap : Nat) (vs : Nat → Nat → Value) (hne : es ≠ []) (hcap : es.length ≤ cap) (hu : ∀ e ∈ es, e.cells.length = sz)
      (hF : ∀ i j, i < es.length → j < sz → F b (base + (i * sz + j))) (hc : ∀ i j, i < es.length → j < sz → w.cell? ⟨b, base + (i * sz + j), none⟩ = some (vs i j))
      (h : ∀ i j e c, es[i]? = some e → e.cells[j]? = some c → RF w F c (vs i j)) :
      RF w F (.sl es) (.slice (some ⟨b, base, none⟩) es.length cap)
  | func (fn : Fn) (a b : List FV) (x y : Array Value) (ha : a.length = x.size) (hb : b.length = y.size)
      (h1 : ∀ j c, a[j]? = some c → RF w F c (x.getD j undef)) (h2 : ∀ j c, b[j]? = some c → RF w F c (y.getD j undef)) :
      RF w F (.func fn a b) (.func fn x y)
  | agg (cs : List FV) (x : Array Value) (hl : cs.length = x.size) (h : ∀ j c, cs[j]? = some c → RF w F c (x.getD j undef)) : RF w F (.agg cs) (.agg x)
  | tuple (cs : List FV) (x : Array Value) (hl : cs.length = x.size) (h : ∀ j c, cs[j]? = some c → RF w F c (x.getD j undef)) : RF w F (.tuple cs) (.tuple x)

/-- What the newest header of a row that grows knows. -/
def Front (μ : Ref → Nat) (w : World) (r : Ref) (es : List FV) (sz : Nat) (x : Value) : Prop :=
  ∃ cap c e, x = .slice (some ⟨μ r, 0, none⟩) es.length cap ∧ w.heap[μ r]? = some (.cells c e (0, 0)) ∧ es.length ≤ cap ∧ cap * sz ≤ c.size ∧ ∀ e ∈ es, e.cells.length = sz

/-- A live value, as it stands. -/
inductive R (μ : Ref → Nat) (w : World) (F : Prot) (hp : Hp) : IV → Value → Prop
  | dead (x : Value) : R μ w F hp .dead x
  | fv (v : FV) (x : Value) (h : RF w F v x) : R μ w F hp (.fv v) x
  | ptr (r : Ref) (off : Nat) (h : ∃ cs ro, hp.get r = some (.row cs ro)) : R μ w F hp (.ptr r off) (.pointer (some ⟨μ r, off, none⟩))
  | slc (r : Ref) (sz len cap : Nat) (h : ∃ cs ro, hp.get r = some (.row cs ro)) (hle : len ≤ cap) : R μ w F hp (.slc r sz len) (.slice (some ⟨μ r, 0, none⟩) len cap)
  | nils : R μ w F hp .nils (.slice none 0 0)
  | emp (a : Addr) (cap : Nat) : R μ w F hp .emp (.slice (some a) 0 cap)
  | clip (es : List FV) (a : Addr) (h : RF w F (.sl es) (.slice (some a) es.length es.length)) : R μ w F hp (.clip es) (.slice (some a) es.length es.length)
  | clip0 (a : Option Addr) : R μ w F hp (.clip []) (.slice a 0 0)
  | app (r : Ref) (es : List FV) (x : Value) (hx : RF w F (.sl es) x) (hne : es ≠ []) (h : ∃ n sz, hp.get r = some (.tok n sz) ∧ es.length ≤ n ∧ (n = es.length → Front μ w r es sz x)) :
      R μ w F hp (.app r es) x
  | func (fn : Fn) (a b : List IV) (x y : Array Value) (ha : a.length = x.size) (hb : b.length = y.size)
      (h1 : ∀ j c, a[j]? = some c → R μ w F hp c (x.getD j undef)) (h2 : ∀ j c, b[j]? = some c → R μ w F hp c (y.getD j undef)) :
      R μ w F hp (.func fn a b) (.func fn x y)
  | agg (cs : List IV) (x : Array Value) (hl : cs.length = x.size) (h : ∀ j c, cs[j]? = some c → R μ w F hp c (x.getD j undef)) : R μ w F hp (.agg cs) (.agg x)
  | tuple (cs : List IV) (x : Array Value) (hl : cs.length = x.size) (h : ∀ j c, cs[j]? = some c → R μ w F hp c (x.getD j undef)) : R μ w F hp (.tuple cs) (.tuple x)
  | mapr (r : Ref) (h : ∃ es, hp.get r = some (.map es)) : R μ w F hp (.mapr r) (.map (some (μ r)))

/-- A block, as it lies. -/
def BR (μ : Ref → Nat) (w : World) (F : Prot) (hp : Hp) (r : Ref) : Blk → Prop
  | .row cells ro => ∃ c e, w.heap[μ r]? = some (.cells c e (0, 0)) ∧ cells.length ≤ c.size ∧ (∀ j x, cells[j]? = some x → R μ w F hp x (c.getD j undef)) ∧
      (ro = false → ∀ o, ¬ F (μ r) o) ∧ (ro = true → ∀ o, o < cells.length → F (μ r) o)
  | .tok n sz => 0 < n ∧ 0 < sz ∧ ∃ c e, w.heap[μ r]? = some (.cells c e (0, 0)) ∧ n * sz ≤ c.size ∧ ∀ o, F (μ r) o ↔ o < n * sz
  | .map es => ∃ (arr : Array MapEntry) (clk : Nat), w.heap[μ r]? = some (.map arr clk) ∧ arr.size = es.length ∧
      ∀ (j : Nat) n x, es[j]? = some (n, x) → ∃ me : MapEntry, arr[j]? = some me ∧ me.key = .int .i64 n ∧ R μ w F hp x me.val

structure HR (μ : Ref → Nat) (w : World) (F : Prot) (hp : Hp) : Prop where
  blk : ∀ r b, hp.get r = some b → BR μ w F hp r b
  inj : ∀ r s, (hp.get r).isSome → (hp.get s).isSome → μ r = μ s → r = s
  wf : ∀ b o, F b o → b < w.heap.size

/-- What becomes of a world. -/
structure WS (F : Prot) (w w' : World) : Prop where
  rows : ∀ (b : Nat) c e fr, w.heap[b]? = some (.cells c e fr) → ∃ c', w'.heap[b]? = some (.cells c' e fr) ∧ c'.size = c.size
  prot : ∀ b o v, F b o → w.cell? ⟨b, o, none⟩ = some v → w'.cell? ⟨b, o, none⟩ = some v
  size : w.heap.size ≤ w'.heap.size
  frozen : ∀ a, w'.frozen? a = w.frozen? a
  os : w'.os = w.os
  output : w'.output = w.output
  tape : w'.tape = w.tape

structure Stp (μ : Ref → Nat) (w : World) (F : Prot) (hp : Hp) (μ' : Ref → Nat) (w' : World) (F' : Prot) (hp' : Hp) : Prop where
  ws : WS F w w'
  sub : ∀ b o, F b o → F' b o
  row : ∀ r cs ro, hp.get r = some (.row cs ro) → (∃ cs' ro', hp'.get r = some (.row cs' ro')) ∧ μ' r = μ r
  map : ∀ r es, hp.get r = some (.map es) → (∃ es', hp'.get r = some (.map es')) ∧ μ' r = μ r
  tok : ∀ r n sz, hp.get r = some (.tok n sz) → ∃ n', hp'.get r = some (.tok n' sz) ∧ n ≤ n' ∧ (μ' r = μ r ∨ (n < n' ∧ w.heap.size ≤ μ' r))
  new : ∀ r, hp.get r = none → (hp'.get r).isSome → w.heap.size ≤ μ' r
  frame : ∀ b, b < w.heap.size → (∀ r, (hp.get r).isSome → μ r ≠ b) → w'.heap[b]? = w.heap[b]?
  newF : ∀ b o, F' b o → F b o ∨ w.heap.size ≤ b ∨ ∃ r, (hp.get r).isSome ∧ μ r = b

section
variable {μ μ' μ'' : Ref → Nat} {w w' w'' : World} {F F' F'' : Prot} {hp hp' hp'' : Hp}

theorem cell_row {b o : Nat} {c : Array Value} {e : TypeId} {fr : Nat × Nat} (h : w.heap[b]? = some (.cells c e fr)) : w.cell? ⟨b, o, none⟩ = c[o]? := by
  simp [World.cell?, h]

theorem WS.refl (F : Prot) (w : World) : WS F w w := ⟨fun _ c _ _ h => ⟨c, h, rfl⟩, fun _ _ _ _ h => h, Nat.le_refl _, fun _ => rfl, rfl, rfl, rfl⟩
theorem WS.trans (h1 : WS F w w') (hs : ∀ b o, F b o → F' b o) (h2 : WS F' w' w'') : WS F w w'' where
  rows b c e fr h := by
    obtain ⟨c1, h1', e1⟩ := h1.rows b c e fr h
    obtain ⟨c2, h2', e2⟩ := h2.rows b c1 e fr h1'
    exact ⟨c2, h2', e2.trans e1⟩
  prot b o v hF h := h2.prot b o v (hs b o hF) (h1.prot b o v hF h)
  size := Nat.le_trans h1.size h2.size
  frozen a := (h2.frozen a).trans (h1.frozen a)
  os := h2.os.trans h1.os
  output := h2.output.trans h1.output
  tape := h2.tape.trans h1.tape

theorem RF.mono {v : FV} {x : Value} (hw : WS F w w') (hs : ∀ b o, F b o → F' b o) (h : RF w F v x) : RF w' F' v x := by
  induction h with
  | bool b => exact .bool b
  | int k n => exact .int k n
  | str s => exact .str s
  | nilp => exact .nilp
  | nilf => exact .nilf
  | fp cs off b base vs hF hc h ih => exact .fp cs off b base vs (fun j hj => hs _ _ (hF j hj)) (fun j hj => hw.prot _ _ _ (hF j hj) (hc j hj)) ih
  | sl0 a cap h => exact .sl0 a cap h
  | sl es b base sz cap vs hne hcap hu hF hc h ih =>
    exact .sl es b base sz cap vs hne hcap hu (fun i j hi hj => hs _ _ (hF i j hi hj)) (fun i j hi hj => hw.prot _ _ _ (hF i j hi hj) (hc i j hi hj)) ih
  | func fn a b x y ha hb h1 h2 ih1 ih2 => exact .func fn a b x y ha hb ih1 ih2
  | agg cs x hl h ih => exact .agg cs x hl ih
  | tuple cs x hl h ih => exact .tuple cs x hl ih

theorem R.mono {v : IV} {x : Value} (st : Stp μ w F hp μ' w' F' hp') (h : R μ w F hp v x) : R μ' w' F' hp' v x := by
  induction h with
  | dead x => exact .dead x
  | fv v x h => exact .fv v x (h.mono st.ws st.sub)
  | ptr r off h => obtain ⟨cs, ro, h⟩ := h; obtain ⟨h1, h2⟩ := st.row r cs ro h; rw [← h2]; exact .ptr r off h1
  | slc r sz len cap h hle => obtain ⟨cs, ro, h⟩ := h; obtain ⟨h1, h2⟩ := st.row r cs ro h; rw [← h2]; exact .slc r sz len cap h1 hle
  | nils => exact .nils
  | emp a cap => exact .emp a cap
  | clip es a h => exact .clip es a (h.mono st.ws st.sub)
  | clip0 a => exact .clip0 a
  | app r es x hx hne h =>
    obtain ⟨n, sz, hg, hle, hf⟩ := h
    obtain ⟨n', hg', hle', hμ⟩ := st.tok r n sz hg
    refine .app r es x (hx.mono st.ws st.sub) hne ⟨n', sz, hg', by omega, fun e => ?_⟩
    have hn : n = es.length := by omega
    have hμ' : μ' r = μ r := by rcases hμ with h | ⟨h, _⟩; exact h; omega
    obtain ⟨cap, c, t, hx', hw, hc, hs, hu⟩ := hf hn
    obtain ⟨c', hw', hsz⟩ := st.ws.rows _ _ _ _ hw
    exact ⟨cap, c', t, by rw [hμ']; exact hx', by rw [hμ']; exact hw', hc, by omega, hu⟩
  | func fn a b x y ha hb h1 h2 ih1 ih2 => exact .func fn a b x y ha hb ih1 ih2
  | agg cs x hl h ih => exact .agg cs x hl ih
  | tuple cs x hl h ih => exact .tuple cs x hl ih
  | mapr r h => obtain ⟨es, h⟩ := h; obtain ⟨h1, h2⟩ := st.map r es h; rw [← h2]; exact .mapr r h1

theorem Stp.refl (μ : Ref → Nat) (w : World) (F : Prot) (hp : Hp) : Stp μ w F hp μ w F hp where
  ws := .refl F w
  sub _ _ h := h
  row r cs ro h := ⟨⟨cs, ro, h⟩, rfl⟩
  map r es h := ⟨⟨es, h⟩, rfl⟩
  tok r n sz h := ⟨n, h, Nat.le_refl _, .inl rfl⟩
  new r h h' := by rw [h] at h'; cases h'
  frame _ _ _ := rfl
  newF _ _ h := .inl h

theorem Stp.some_of (st : Stp μ w F hp μ' w' F' hp') {r : Ref} (h : (hp.get r).isSome) : (hp'.get r).isSome := by
  cases hb : hp.get r with
  | none => rw [hb] at h; cases h
  | some b => cases b with
    | row cs ro => obtain ⟨⟨a, b, e⟩, _⟩ := st.row r cs ro hb; rw [e]; rfl
    | map es => obtain ⟨⟨a, e⟩, _⟩ := st.map r es hb; rw [e]; rfl
    | tok n sz => obtain ⟨a, e, _⟩ := st.tok r n sz hb; rw [e]; rfl

theorem Stp.place (st : Stp μ w F hp μ' w' F' hp') {r : Ref} (h : (hp.get r).isSome) : μ' r = μ r ∨ w.heap.size ≤ μ' r := by
  cases hb : hp.get r with
  | none => rw [hb] at h; cases h
  | some b => cases b with
    | row cs ro => exact .inl (st.row r cs ro hb).2
    | map es => exact .inl (st.map r es hb).2
    | tok n sz => obtain ⟨a, _, _, h⟩ := st.tok r n sz hb; exact h.imp id (·.2)

theorem Stp.trans (h1 : Stp μ w F hp μ' w' F' hp') (h2 : Stp μ' w' F' hp' μ'' w'' F'' hp'') : Stp μ w F hp μ'' w'' F'' hp'' where
  ws := h1.ws.trans h1.sub h2.ws
  sub b o h := h2.sub b o (h1.sub b o h)
  row r cs ro h := by
    obtain ⟨⟨a, b, e⟩, m⟩ := h1.row r cs ro h
    obtain ⟨e2, m2⟩ := h2.row r a b e
    exact ⟨e2, m2.trans m⟩
  map r es h := by
    obtain ⟨⟨a, e⟩, m⟩ := h1.map r es h
    obtain ⟨e2, m2⟩ := h2.map r a e
    exact ⟨e2, m2.trans m⟩
  tok r n sz h := by
    obtain ⟨a, e, l, m⟩ := h1.tok r n sz h
    obtain ⟨a2, e2, l2, m2⟩ := h2.tok r a sz e
    refine ⟨a2, e2, Nat.le_trans l l2, ?_⟩
    have hs := h1.ws.size
    rcases m2 with m2 | ⟨m2, m3⟩
    · rcases m with m | ⟨m, m4⟩
      · exact .inl (m2.trans m)
      · exact .inr ⟨by omega, by omega⟩
    · exact .inr ⟨by omega, by omega⟩
  new r h h' := by
    have hs := h1.ws.size
    cases hb : hp'.get r with
    | none => have := h2.new r hb h'; omega
    | some b =>
      have hs1 : (hp'.get r).isSome := by rw [hb]; rfl
      have h3 := h1.new r h hs1
      rcases h2.place hs1 with e | e <;> omega
  frame b hb h := by
    rw [h2.frame b (by have := h1.ws.size; omega), h1.frame b hb h]
    intro r hr e
    cases hq : hp.get r with
    | none => have := h1.new r hq hr; omega
    | some q =>
      have hs1 : (hp.get r).isSome := by rw [hq]; rfl
      rcases h1.place hs1 with e2 | e2
      · exact h r hs1 (e2 ▸ e)
      · omega
  newF b o h := by
    have hs := h1.ws.size
    rcases h2.newF b o h with h | h | ⟨r, hr, e⟩
    · exact h1.newF b o h
    · exact .inr (.inl (by omega))
    · cases hq : hp.get r with
      | none => have := h1.new r hq hr; exact .inr (.inl (by omega))
      | some q =>
        have hs1 : (hp.get r).isSome := by rw [hq]; rfl
        rcases h1.place hs1 with e2 | e2
        · exact .inr (.inr ⟨r, hs1, by omega⟩)
        · exact .inr (.inl (by omega))

/-- A block that a step did not touch. -/
theorem BR.mono {r : Ref} {b : Blk} (st : Stp μ w F hp μ' w' F' hp') (h : BR μ w F hp r b) (hμ : μ' r = μ r) (hw : w'.heap[μ r]? = w.heap[μ r]?)
    (hF : ∀ o, F' (μ r) o → F (μ r) o) : BR μ' w' F' hp' r b := by
  cases b with
  | row cells ro =>
    obtain ⟨c, e, h1, h2, h3, h4, h5⟩ := h
    refine ⟨c, e, by rw [hμ, hw]; exact h1, h2, fun j x hx => (h3 j x hx).mono st, fun hr o hf => h4 hr o ?_, fun hr o ho => ?_⟩
    · rw [hμ] at hf; exact hF o hf
    · rw [hμ]; exact st.sub _ _ (h5 hr o ho)
  | tok n sz =>
    obtain ⟨h1, h2, c, e, h3, h4, h5⟩ := h
    refine ⟨h1, h2, c, e, by rw [hμ, hw]; exact h3, h4, fun o => ?_⟩
    rw [hμ, ← h5 o]
    exact ⟨hF o, st.sub _ _⟩
  | map es =>
    obtain ⟨arr, clk, h1, h2, h3⟩ := h
    refine ⟨arr, clk, by rw [hμ, hw]; exact h1, h2, fun j n x hx => ?_⟩
    obtain ⟨me, e1, e2, e3⟩ := h3 j n x hx
    exact ⟨me, e1, e2, e3.mono st⟩

theorem HR.lt (h : HR μ w F hp) {r : Ref} (hr : (hp.get r).isSome) : μ r < w.heap.size := by
  cases hb : hp.get r with
  | none => rw [hb] at hr; cases hr
  | some b =>
    have := h.blk r b hb
    cases b with
    | row cells ro => obtain ⟨c, e, h1, _⟩ := this; exact (Array.getElem?_eq_some_iff.1 h1).1
    | tok n sz => obtain ⟨_, _, c, e, h1, _⟩ := this; exact (Array.getElem?_eq_some_iff.1 h1).1
    | map es => obtain ⟨arr, clk, h1, _⟩ := this; exact (Array.getElem?_eq_some_iff.1 h1).1
end

/-! ## Blocks by their names -/
theorem lookup_put_same (k : Nat) (b : Blk) (l : List (Nat × Blk)) : lookupOwn k (putOwn k b l) = some b := by
  induction l with
  | nil => simp [putOwn, lookupOwn]
  | cons p l ih =>
    obtain ⟨j, c⟩ := p
    by_cases h : k = j
    · simp [putOwn, lookupOwn, h]
    · simp [putOwn, lookupOwn, h, ih]
theorem lookup_put_other (k j : Nat) (b : Blk) (h : j ≠ k) (l : List (Nat × Blk)) : lookupOwn j (putOwn k b l) = lookupOwn j l := by
  induction l with
  | nil => simp [putOwn, lookupOwn, h]
  | cons p l ih =>
    obtain ⟨i, c⟩ := p
    by_cases h1 : k = i
    · subst h1; simp [putOwn, lookupOwn, h]
    · by_cases h2 : j = i
      · subst h2; simp [putOwn, lookupOwn, h1]
      · simp [putOwn, lookupOwn, h1, h2, ih]
theorem get_set_other (h : Hp) (r s : Ref) (b : Blk) (hne : s ≠ r) : (h.set r b).get s = h.get s := by
  cases r with
  | own k => cases s with
    | own j => exact lookup_put_other k j b (fun e => hne (by rw [e])) _
    | ext j => rfl
  | ext k => cases s with
    | own j => rfl
    | ext j =>
      have hne' : j ≠ k := fun e => hne (by rw [e])
      simp only [Hp.set, Hp.get]
      rw [List.getElem?_set_ne (Ne.symm hne')]
theorem get_set_own (h : Hp) (k : Nat) (b : Blk) : (h.set (.own k) b).get (.own k) = some b := lookup_put_same k b _
theorem get_set_same (h : Hp) (r : Ref) (b : Blk) (hs : (h.get r).isSome) : (h.set r b).get r = some b := by
  cases r with
  | own k => exact get_set_own h k b
  | ext k =>
    simp only [Hp.set, Hp.get] at hs ⊢
    have : k < h.ext.length := by
      rcases Nat.lt_or_ge k h.ext.length with hl | hl
      · exact hl
      · rw [List.getElem?_eq_none hl] at hs; cases hs
    simp [this]

end Idl
end Go.Proofs.Ytbkdidonegggdaa

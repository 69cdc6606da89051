/-
  Texts of a proof, part 6: an ideal semantics of the program, its functions in shallow form, contracts of them. No statement of the seat is proved here.
-/
import Derived.ChangeBook
import Derived.ChangeSame
import Derived.WalkKit
import Derived.ProofKit
import Derived.OpenShut
import Derived.Test.YtdibmackcbpniaaObjValuesK5
set_option linter.all false
namespace Go.Proofs.Ytdibmackcbpniaa
namespace Idl
open Go.ChangeShapes Go.WideShapes Go.ChangeAt Go.RowKit
section
variable {H : Type} {enc : TypeId × Value → H} {P : Program} {w : World} {sp : Nat → Bool} {held : Bool}
theorem ints_slice {tk ti : TypeId} (hk : P.underlying tk = some (.slice ti)) (hi : P.underlying ti = some (.int .i64)) (c1 : P.cellsOf ti = 1) {n : Nat} {cs : List Value} {x : DataW H × List MemPlace}
    (h : DataW.trod enc P w 0 sp held n tk cs = some x) : ∃ ns : List Int, ∃ v, cs = [v] ∧ RF w (all w) (.sl (ns.map (FV.int .i64))) v := by
  rcases DataW.trod_slice hk h with ⟨rfl, _⟩ | ⟨a, len, cap, elems, rest, m, rfl, rfl, _, _, hlc, _, hlen, hel, _, _⟩
  · exact ⟨[], _, rfl, .sl0 none 0 fun _ => rfl⟩
  · rw [c1] at hel
    have he : ∀ i, i < len → ∃ t : Int, w.cell? (a.add i) = some (.int .i64 t) := by
      intro i hi'
      have h1 := hel i hi'
      rw [Nat.mul_one] at h1
      have h2 : ∃ y, elems[i]? = some y := by
        rw [List.getElem?_eq_getElem (by omega)]
        exact ⟨_, rfl⟩
      obtain ⟨y, hy⟩ := h2
      rw [hy] at h1
      cases hc : w.cells? 0 (a.add i) 1 with
      | none => rw [hc] at h1; cases h1
      | some c =>
        rw [hc] at h1
        obtain ⟨t, e0, _⟩ := DataW.trod_int hi h1
        obtain ⟨c1', c2⟩ := cells_get hc
        refine ⟨t, ?_⟩
        have := c2 0 (by omega)
        rw [e0] at this
        simpa [Addr.add] using this
    obtain ⟨ns, hl, hq⟩ := exists_list len he
    refine ⟨ns, _, rfl, ?_⟩
    cases hn : len with
    | zero =>
      have : ns = [] := List.length_eq_zero_iff.1 (by omega)
      subst this
      exact .sl0 (some a) cap fun e => by cases e
    | succ len' =>
      have hspot : a.spot = none := by
        obtain ⟨t, ht⟩ := he 0 (by omega)
        simp only [Addr.add, if_pos] at ht
        unfold World.cell? at ht
        split at ht
        · split at ht
          · cases ht
          · rename_i hs
            cases e : a.spot with
            | none => rfl
            | some _ => rw [e] at hs; exact absurd rfl hs
        · cases ht
      obtain ⟨b, off, spot⟩ := a
      simp only at hspot
      subst hspot
      have hadd : ∀ i : Nat, (Addr.mk b off none).add i = ⟨b, off + i, none⟩ := by
        intro i
        unfold Addr.add
        split
        · rename_i e; subst e; rfl
        · rfl
      have hes : (ns.map (FV.int .i64)).length = len' + 1 := by simp; omega
      have hcell : ∀ i, i < len → w.cell? ⟨b, off + i, none⟩ = some (.int .i64 (ns.getD i 0)) := by
        intro i hi'
        have hti : ns[i]? = some (ns.getD i 0) := by rw [List.getD_eq_getElem?_getD, List.getElem?_eq_getElem (by omega)]; rfl
        have := hq i _ hti
        rwa [hadd] at this
      rw [← hes]
      refine .sl (ns.map (FV.int .i64)) b off 1 cap (fun i j => .int .i64 (ns.getD i 0)) (fun e => by rw [e] at hes; simp at hes) (by omega) (fun e he => ?_) (fun i j hi hj => ?_) (fun i j hi hj => ?_) (fun i j e c he hc => ?_)
      · obtain ⟨t, _, rfl⟩ := List.mem_map.1 he
        rfl
      · have := hcell i (by omega)
        show b < w.heap.size
        unfold World.cell? at this
        split at this
        · rename_i hb
          exact (Array.getElem?_eq_some_iff.1 hb).1
        · cases this
      · have : i * 1 + j = i := by omega
        rw [this]
        exact hcell i (by omega)
      · rw [List.getElem?_map] at he
        cases ht : ns[i]? with
        | none => rw [ht] at he; cases he
        | some t =>
          rw [ht] at he
          simp only [Option.map_some, Option.some.injEq] at he
          subst he
          rw [List.getD_eq_getElem?_getD, ht]
          cases j with
          | zero => simp [FV.cells] at hc; subst hc; exact .int _ _
          | succ j => simp [FV.cells] at hc
end
section
variable {H : Type} {enc : TypeId × Value → H} {P : Program} {W W' : World} {sp : Nat → Bool}
theorem trod_after (hl : laidOutB P = true) {t : TypeId} (hr : P.readableRec t = true) (ht : t < P.types.size) {v : Value} {d : DataW H} {p : List MemPlace} (h : DataW.Trod enc P W 0 (fun _ => true) true t v d p) (hg : Grown W W')
    (hlt : ∀ q ∈ p, q.block < W.heap.size) (hs : ∀ q ∈ p, sp q.block = true) : DataW.Trod enc P W' 0 sp true t v d p := by
  obtain ⟨n, h⟩ := h
  refine ⟨n, DataW.trod_stays (kids_book hl hr) (book_sized hr) (fun h => by cases h) ⟨ht, book_self t⟩ h (fun q hq => ?_) hs⟩
  cases q with
  | cell b off => exact hg.1.cell (hlt _ hq) (fun h => h)
  | map b => exact hg.1.block (hlt _ hq) (fun _ h => h.elim)
theorem trodAll_after (hl : laidOutB P = true) : ∀ (ts : List TypeId) (vs : List Value) (ds : List (DataW H)) (p : List MemPlace), (∀ t ∈ ts, P.readableRec t = true ∧ t < P.types.size) → DataW.TrodAll enc P W 0 (fun _ => true) true ts vs ds p → Grown W W' →
    (∀ q ∈ p, q.block < W.heap.size) → (∀ q ∈ p, sp q.block = true) → DataW.TrodAll enc P W' 0 sp true ts vs ds p
  | [], vs, ds, p, _, h, _, _, _ => by
    obtain ⟨rfl, rfl, rfl⟩ := trodAll_nil h
    exact trodAll_mk0
  | t :: ts, vs, ds, p, ht, h, hg, hlt, hs => by
    obtain ⟨v, vs', d, ds', p1, p2, rfl, rfl, rfl, h1, h2⟩ := trodAll_cons h
    refine trodAll_cons_mk (trod_after hl (ht t List.mem_cons_self).1 (ht t List.mem_cons_self).2 h1 hg (fun q hq => hlt q (by simp [hq])) (fun q hq => hs q (by simp [hq]))) ?_
    exact trodAll_after hl ts vs' ds' p2 (fun u hu => ht u (List.mem_cons_of_mem _ hu)) h2 hg (fun q hq => hlt q (by simp [hq])) (fun q hq => hs q (by simp [hq]))
end
inductive Args (w : World) : List FV → List Value → Prop
  | nil : Args w [] []
  | cons {v : FV} {x : Value} {vs : List FV} {xs : List Value} (h : RF w (all w) v x) (t : Args w vs xs) : Args w (v :: vs) (x :: xs)
theorem args_len {w : World} {vs : List FV} {xs : List Value} (h : Args w vs xs) : vs.length = xs.length := by
  induction h with
  | nil => rfl
  | cons _ _ ih => simp [ih]
theorem args_get {w : World} {vs : List FV} {xs : List Value} (h : Args w vs xs) : ∀ i v, vs[i]? = some v → RF w (all w) v (xs.getD i undef) := by
  induction h with
  | nil => intro i v hv; simp at hv
  | cons h1 _ ih =>
    intro i v hv
    cases i with
    | zero => simp at hv; subst hv; exact h1
    | succ i => simp at hv; simpa using ih i v hv
theorem slots_mk {w : World} {vs : List FV} {xs : List Value} (h : Args w vs xs) : SlotsR (fun _ => 0) w (all w) ⟨[], []⟩ (vs.map .fv) xs.toArray := by
  refine ⟨by simpa using args_len h, fun i v hv => ?_⟩
  rw [List.getElem?_map] at hv
  cases hi : vs[i]? with
  | none => rw [hi] at hv; cases hv
  | some u =>
    rw [hi] at hv
    simp only [Option.map_some, Option.some.injEq] at hv
    subst hv
    have := args_get h i u hi
    refine .fv _ _ ?_
    simpa using this
end Idl
end Go.Proofs.Ytdibmackcbpniaa


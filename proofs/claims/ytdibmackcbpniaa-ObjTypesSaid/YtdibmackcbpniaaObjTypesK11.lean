/-
  Texts of a proof, part 11: an ideal semantics of the program, its functions in shallow form, contracts of them. No statement of the seat is proved here.
-/
import Derived.KernelRfl
import Derived.Test.YtdibmackcbpniaaObjTypesK10
set_option linter.all false
namespace Go.Proofs.Ytdibmackcbpniaa
namespace Idl
theorem call_0 {f : Nat} {G : Handler → Nat → Hp → Option (IV × Hp)} (e : dt.call f = fun ih n => ar0 (G ih n)) (n : Nat) (h : Hp) : SS dt (n + 1) f [] h = G (SS dt n) n  h := by
  show dt.call f (SS dt n) n _ h = _
  rw [e]
  rfl
theorem call_1 {f : Nat} {G : Handler → Nat → IV → Hp → Option (IV × Hp)} (e : dt.call f = fun ih n => ar1 (G ih n)) (n : Nat) (a0 : IV) (h : Hp) : SS dt (n + 1) f [a0] h = G (SS dt n) n a0 h := by
  show dt.call f (SS dt n) n _ h = _
  rw [e]
  rfl
theorem call_2 {f : Nat} {G : Handler → Nat → IV → IV → Hp → Option (IV × Hp)} (e : dt.call f = fun ih n => ar2 (G ih n)) (n : Nat) (a0 a1 : IV) (h : Hp) : SS dt (n + 1) f [a0, a1] h = G (SS dt n) n a0 a1 h := by
  show dt.call f (SS dt n) n _ h = _
  rw [e]
  rfl
theorem call_3 {f : Nat} {G : Handler → Nat → IV → IV → IV → Hp → Option (IV × Hp)} (e : dt.call f = fun ih n => ar3 (G ih n)) (n : Nat) (a0 a1 a2 : IV) (h : Hp) : SS dt (n + 1) f [a0, a1, a2] h = G (SS dt n) n a0 a1 a2 h := by
  show dt.call f (SS dt n) n _ h = _
  rw [e]
  rfl
theorem call_4 {f : Nat} {G : Handler → Nat → IV → IV → IV → IV → Hp → Option (IV × Hp)} (e : dt.call f = fun ih n => ar4 (G ih n)) (n : Nat) (a0 a1 a2 a3 : IV) (h : Hp) : SS dt (n + 1) f [a0, a1, a2, a3] h = G (SS dt n) n a0 a1 a2 a3 h := by
  show dt.call f (SS dt n) n _ h = _
  rw [e]
  rfl
theorem c2 (n : Nat) (h : Hp) : SS dt (n + 1) 2 [] h = S2 (SS dt n) n  h := call_0 (show dt.call 2 = fun ih n => ar0 (S2 ih n) by kernel_rfl) ..
theorem c3 (n : Nat) (a0 a1 a2 a3 : IV) (h : Hp) : SS dt (n + 1) 3 [a0, a1, a2, a3] h = S3 (SS dt n) n a0 a1 a2 a3 h := call_4 (show dt.call 3 = fun ih n => ar4 (S3 ih n) by kernel_rfl) ..
theorem c6 (n : Nat) (a0 a1 a2 : IV) (h : Hp) : SS dt (n + 1) 6 [a0, a1, a2] h = S6 (SS dt n) n a0 a1 a2 h := call_3 (show dt.call 6 = fun ih n => ar3 (S6 ih n) by kernel_rfl) ..
theorem c12 (n : Nat) (a0 : IV) (h : Hp) : SS dt (n + 1) 12 [a0] h = S12 (SS dt n) n a0 h := call_1 (show dt.call 12 = fun ih n => ar1 (S12 ih n) by kernel_rfl) ..
theorem c14 (n : Nat) (a0 a1 : IV) (h : Hp) : SS dt (n + 1) 14 [a0, a1] h = S14 (SS dt n) n a0 a1 h := call_2 (show dt.call 14 = fun ih n => ar2 (S14 ih n) by kernel_rfl) ..
theorem c20 (n : Nat) (a0 : IV) (h : Hp) : SS dt (n + 1) 20 [a0] h = S20 (SS dt n) n a0 h := call_1 (show dt.call 20 = fun ih n => ar1 (S20 ih n) by kernel_rfl) ..
theorem c21 (n : Nat) (a0 : IV) (h : Hp) : SS dt (n + 1) 21 [a0] h = S21 (SS dt n) n a0 h := call_1 (show dt.call 21 = fun ih n => ar1 (S21 ih n) by kernel_rfl) ..
theorem c22 (n : Nat) (a0 a1 a2 : IV) (h : Hp) : SS dt (n + 1) 22 [a0, a1, a2] h = S22 (SS dt n) n a0 a1 a2 h := call_3 (show dt.call 22 = fun ih n => ar3 (S22 ih n) by kernel_rfl) ..
theorem c23 (n : Nat) (a0 a1 : IV) (h : Hp) : SS dt (n + 1) 23 [a0, a1] h = S23 (SS dt n) n a0 a1 h := call_2 (show dt.call 23 = fun ih n => ar2 (S23 ih n) by kernel_rfl) ..
theorem c24 (n : Nat) (a0 : IV) (h : Hp) : SS dt (n + 1) 24 [a0] h = S24 (SS dt n) n a0 h := call_1 (show dt.call 24 = fun ih n => ar1 (S24 ih n) by kernel_rfl) ..
theorem c26 (n : Nat) (a0 a1 a2 : IV) (h : Hp) : SS dt (n + 1) 26 [a0, a1, a2] h = S26 (SS dt n) n a0 a1 a2 h := call_3 (show dt.call 26 = fun ih n => ar3 (S26 ih n) by kernel_rfl) ..
theorem c30 (n : Nat) (a0 a1 : IV) (h : Hp) : SS dt (n + 1) 30 [a0, a1] h = S30 (SS dt n) n a0 a1 h := call_2 (show dt.call 30 = fun ih n => ar2 (S30 ih n) by kernel_rfl) ..
theorem c40 (n : Nat) (a0 a1 : IV) (h : Hp) : SS dt (n + 1) 40 [a0, a1] h = S40 (SS dt n) n a0 a1 h := call_2 (show dt.call 40 = fun ih n => ar2 (S40 ih n) by kernel_rfl) ..
theorem c41 (n : Nat) (a0 a1 : IV) (h : Hp) : SS dt (n + 1) 41 [a0, a1] h = S41 (SS dt n) n a0 a1 h := call_2 (show dt.call 41 = fun ih n => ar2 (S41 ih n) by kernel_rfl) ..
theorem c42 (n : Nat) (a0 a1 : IV) (h : Hp) : SS dt (n + 1) 42 [a0, a1] h = S42 (SS dt n) n a0 a1 h := call_2 (show dt.call 42 = fun ih n => ar2 (S42 ih n) by kernel_rfl) ..
theorem c52 (n : Nat) (a0 : IV) (h : Hp) : SS dt (n + 1) 52 [a0] h = S52 (SS dt n) n a0 h := call_1 (show dt.call 52 = fun ih n => ar1 (S52 ih n) by kernel_rfl) ..
theorem c61 (n : Nat) (a0 a1 a2 a3 : IV) (h : Hp) : SS dt (n + 1) 61 [a0, a1, a2, a3] h = S61 (SS dt n) n a0 a1 a2 a3 h := call_4 (show dt.call 61 = fun ih n => ar4 (S61 ih n) by kernel_rfl) ..
theorem c62 (n : Nat) (a0 a1 a2 a3 : IV) (h : Hp) : SS dt (n + 1) 62 [a0, a1, a2, a3] h = S62 (SS dt n) n a0 a1 a2 a3 h := call_4 (show dt.call 62 = fun ih n => ar4 (S62 ih n) by kernel_rfl) ..
end Idl
end Go.Proofs.Ytdibmackcbpniaa

namespace Go.Proofs.Ytdibmackcbpniaa
namespace Idl
end Idl
end Go.Proofs.Ytdibmackcbpniaa

namespace Go.Proofs.Ytdibmackcbpniaa
namespace Idl

section
variable {β : Type} {E : Env} {t : TypeId}
abbrev iv (n : Int) : IV := .fv (.int .i64 n)
theorem x_cond (c : Prop) [Decidable c] (a b : Option β) : condS (.fv (.bool (decide c))) a b = if c then a else b := by
  by_cases h : c
  · rw [decide_eq_true h, if_pos h]; rfl
  · rw [decide_eq_false h, if_neg h]; rfl
theorem x_faddr (o : Nat) (r : Ref) (off : Nat) (k : IV → Option β) : faddrS o (.ptr r off) k = k (.ptr r (off + o)) := by
  show (fNat (off + o) fun o => k (.ptr r o)) = _
  rw [fNat_eq]
theorem x_faddr_f (o : Nat) (cs : List FV) (off : Nat) (k : IV → Option β) : faddrS o (.fv (.fp cs off)) k = k (.fv (.fp cs (off + o))) := by
  show (fNat (off + o) fun o => k (.fv (.fp cs o))) = _
  rw [fNat_eq]
theorem x_ix {size : Nat} {es : List FV} {n : Nat} {el : FV} (he : es[n]? = some el) (hl : el.cells.length = size) (k : IV → Option β) : ixS size (.fv (.sl es)) (iv n) k = k (.fv (.fp el.cells 0)) := by
  show (nthK es n fun el => elK size el k) = _
  rw [nthK_eq, he]
  show elK size el k = _
  rw [elK_eq, if_pos hl]
theorem x_cmpI {op : BinOp} {g : Nat → Nat → Bool} (hg : ∀ a b : Nat, binR E op t (iv a) (iv b) = some (.fv (.bool (g a b)))) (a b : Int) (k : IV → Option β) :
    cmpS E t op g (iv a) (iv b) k = (binR E op t (iv a) (iv b)).bind k := by
  cases a with
  | ofNat a =>
    cases b with
    | ofNat b =>
      show boolK (g a b) k = _
      rw [boolK_eq, show binR E op t (iv (Int.ofNat a)) (iv (Int.ofNat b)) = some (.fv (.bool (g a b))) from hg a b]
      rfl
    | negSucc b =>
      show binS E t op _ _ k = _
      rw [binS, optS_eq]
  | negSucc a =>
    show binS E t op _ _ k = _
    rw [binS, optS_eq]
theorem x_eqI (a b : Int) (k : IV → Option β) : eqS E t (iv a) (iv b) k = k (.fv (.bool (decide (a = b)))) := by
  rw [eqS, x_cmpI (fun a b => by
    show some (IV.fv (.bool ((a : Int) == (b : Int)))) = _
    rw [beq_dec]
    congr 3
    exact decide_eq_decide.2 Int.ofNat_inj)]
  rfl
theorem x_neI (a b : Int) (k : IV → Option β) : neS E t (iv a) (iv b) k = k (.fv (.bool (!decide (a = b)))) := by
  rw [neS, x_cmpI (fun a b => by
    show some (IV.fv (.bool ((a : Int) != (b : Int)))) = _
    rw [beq_dec]
    congr 3
    show (!decide ((a : Int) = (b : Int))) = !decide (a = b)
    congr 1
    exact decide_eq_decide.2 Int.ofNat_inj)]
  rfl
theorem x_ltI (a b : Int) (k : IV → Option β) : ltS E t (iv a) (iv b) k = k (.fv (.bool (decide (a < b)))) := by
  rw [ltS, x_cmpI (fun a b => by
    show some (IV.fv (.bool (decide ((a : Int) < (b : Int))))) = _
    rw [ble_dec]
    congr 3
    exact decide_eq_decide.2 (by omega))]
  rfl
theorem x_leI (a b : Int) (k : IV → Option β) : leS E t (iv a) (iv b) k = k (.fv (.bool (decide (a ≤ b)))) := by
  rw [leS, x_cmpI (fun a b => by
    show some (IV.fv (.bool (decide ((a : Int) ≤ (b : Int))))) = _
    rw [ble_dec]
    congr 3
    exact decide_eq_decide.2 (by omega))]
  rfl
theorem x_not (b : Bool) (k : IV → Option β) : optS (unR .not (.fv (.bool b))) k = k (.fv (.bool !b)) := by
  rw [optS_eq]
  rfl
end
end Idl
end Go.Proofs.Ytdibmackcbpniaa

namespace Go.Proofs.Ytdibmackcbpniaa
namespace Idl

section
variable {β : Type} {α : Type}
theorem n0 (a : α) (l : List α) (k : α → Option β) : nthK (a :: l) 0 k = k a := rfl
theorem n1 (a b : α) (l : List α) (k : α → Option β) : nthK (a :: b :: l) 1 k = k b := rfl
theorem n2 (a b c : α) (l : List α) (k : α → Option β) : nthK (a :: b :: c :: l) 2 k = k c := rfl
theorem n3 (a b c d : α) (l : List α) (k : α → Option β) : nthK (a :: b :: c :: d :: l) 3 k = k d := rfl
theorem n4 (a b c d e : α) (l : List α) (k : α → Option β) : nthK (a :: b :: c :: d :: e :: l) 4 k = k e := rfl
theorem n5 (a b c d e f : α) (l : List α) (k : α → Option β) : nthK (a :: b :: c :: d :: e :: f :: l) 5 k = k f := rfl
theorem n6 (a b c d e f g : α) (l : List α) (k : α → Option β) : nthK (a :: b :: c :: d :: e :: f :: g :: l) 6 k = k g := rfl
theorem d0 (l : List α) (k : List α → Option β) : drpK l 0 k = k l := by cases l <;> rfl
theorem d1 (a : α) (l : List α) (k : List α → Option β) : drpK (a :: l) 1 k = k l := by cases l <;> rfl
theorem d2 (a b : α) (l : List α) (k : List α → Option β) : drpK (a :: b :: l) 2 k = k l := by cases l <;> rfl
theorem d3 (a b c : α) (l : List α) (k : List α → Option β) : drpK (a :: b :: c :: l) 3 k = k l := by cases l <;> rfl
theorem d4 (a b c d : α) (l : List α) (k : List α → Option β) : drpK (a :: b :: c :: d :: l) 4 k = k l := by cases l <;> rfl
theorem t1 (a : α) (l : List α) (k : List α → Option β) : takK (a :: l) 1 k = k [a] := by cases l <;> rfl
theorem t2 (a b : α) (l : List α) (k : List α → Option β) : takK (a :: b :: l) 2 k = k [a, b] := by cases l <;> rfl
theorem t3 (a b c : α) (l : List α) (k : List α → Option β) : takK (a :: b :: c :: l) 3 k = k [a, b, c] := by cases l <;> rfl
theorem t4 (a b c d : α) (l : List α) (k : List α → Option β) : takK (a :: b :: c :: d :: l) 4 k = k [a, b, c, d] := by cases l <;> rfl
theorem t7 (a b c d e f g : α) (l : List α) (k : List α → Option β) : takK (a :: b :: c :: d :: e :: f :: g :: l) 7 k = k [a, b, c, d, e, f, g] := by cases l <;> rfl
theorem ap0 (us : List α) (k : List α → Option β) : apK [] us k = k us := rfl
theorem ap1 (u : α) (l us : List α) (k : List α → Option β) : apK (u :: l) us k = apK l us fun w => k (u :: w) := rfl
theorem unc_c (a : α) (l : List α) (k : α → List α → Option β) : uncS (a :: l) k = k a l := rfl
theorem c_t {γ : Type} (a b : γ) : cond true a b = a := rfl
theorem c_f {γ : Type} (a b : γ) : cond false a b = b := rfl
end

section
variable {β : Type}
theorem N_bf {s j : Nat} (h : (s == j) = false) : Nat.beq s j = false := by
  rw [beq_dec]
  simpa using h
theorem g_own (s : Nat) (own : List (Nat × Blk)) (ext : List Blk) (k : Blk → Option β) : getK (.own s) ⟨own, ext⟩ k = ownK own s k := rfl
theorem g_ext (j : Nat) (own : List (Nat × Blk)) (ext : List Blk) (k : Blk → Option β) : getK (.ext j) ⟨own, ext⟩ k = nthK ext j k := rfl
theorem o_hit (s : Nat) (b : Blk) (l : List (Nat × Blk)) (k : Blk → Option β) : ownK ((s, b) :: l) s k = k b := by
  show cond (Nat.beq s s) (k b) _ = _
  rw [show Nat.beq s s = true from Nat.beq_refl s]
  rfl
theorem o_miss {s j : Nat} (hne : (s == j) = false) (b : Blk) (l : List (Nat × Blk)) (k : Blk → Option β) : ownK ((j, b) :: l) s k = ownK l s k := by
  show cond (Nat.beq s j) (k b) _ = _
  rw [show Nat.beq s j = false from N_bf hne]
  rfl
theorem p_nil (s : Nat) (b : Blk) (k : List (Nat × Blk) → Option β) : putOwnK [] s b k = k [(s, b)] := rfl
theorem p_hit (s : Nat) (b c : Blk) (l : List (Nat × Blk)) (k : List (Nat × Blk) → Option β) : putOwnK ((s, c) :: l) s b k = k ((s, b) :: l) := by
  show cond (Nat.beq s s) _ _ = _
  rw [show Nat.beq s s = true from Nat.beq_refl s]
  rfl
theorem p_miss {s j : Nat} (hne : (s == j) = false) (b c : Blk) (l : List (Nat × Blk)) (k : List (Nat × Blk) → Option β) : putOwnK ((j, c) :: l) s b k = putOwnK l s b fun l => k ((j, c) :: l) := by
  show cond (Nat.beq s j) _ _ = _
  rw [show Nat.beq s j = false from N_bf hne]
  rfl
theorem f_nil (s : Nat) (a : Option β) : freshK [] s a = a := rfl
theorem f_cons {s j : Nat} (hne : (s == j) = false) (b : Blk) (l : List (Nat × Blk)) (a : Option β) : freshK ((j, b) :: l) s a = freshK l s a := by
  show cond (Nat.beq s j) none _ = _
  rw [show Nat.beq s j = false from N_bf hne]
  rfl
theorem lay_own (s : Nat) (b : Blk) (own : List (Nat × Blk)) (ext : List Blk) (k : Hp → Option β) : layK (.own s) b ⟨own, ext⟩ k = putOwnK own s b fun own => k ⟨own, ext⟩ := rfl
theorem lay_ext (j : Nat) (b : Blk) (own : List (Nat × Blk)) (ext : List Blk) (k : Hp → Option β) : layK (.ext j) b ⟨own, ext⟩ k = setNK ext j b fun ext => k ⟨own, ext⟩ := rfl
theorem sn0 {α : Type} (a b : α) (l : List α) (k : List α → Option β) : setNK (a :: l) 0 b k = k (b :: l) := rfl
theorem new_e (s : Nat) (b : Blk) (v : IV) (own : List (Nat × Blk)) (ext : List Blk) (k : IV → Hp → List Ref → List Ref → Option β) :
    newS s b v ⟨own, ext⟩ k = freshK own s (putOwnK own s b fun own => k v ⟨own, ext⟩ [] [.own s]) := rfl
theorem box_agg (s : Nat) (cs : List FV) (h : Hp) (k : IV → Hp → List Ref → List Ref → Option β) : boxS s (.fv (.agg cs)) h k = newS s (.row (cs.map .fv) false) (.ptr (.own s) 0) h k := by
  show spK (cs.map IV.fv) _ = _
  rw [spK_eq]
theorem box_agg' (s : Nat) (cs : List IV) (h : Hp) (k : IV → Hp → List Ref → List Ref → Option β) : boxS s (.agg cs) h k = newS s (.row cs false) (.ptr (.own s) 0) h k := by
  show spK cs _ = _
  rw [spK_eq]
theorem box_one {x : IV} (hx : x.one = true) (s : Nat) (h : Hp) (k : IV → Hp → List Ref → List Ref → Option β) : boxS s x h k = newS s (.row [x] false) (.ptr (.own s) 0) h k := by
  unfold boxS; rw [hx]; rfl
theorem on_int (k : IntKind) (n : Int) : IV.one (.fv (.int k n)) = true := rfl
theorem on_bool (b : Bool) : IV.one (.fv (.bool b)) = true := rfl
theorem on_sl (l : List FV) : IV.one (.fv (.sl l)) = true := rfl
theorem on_fp (l : List FV) (o : Nat) : IV.one (.fv (.fp l o)) = true := rfl
theorem on_func (fn : Fn) (a b : List FV) : IV.one (.fv (.func fn a b)) = true := rfl
theorem on_nilp : IV.one (.fv .nilp) = true := rfl
theorem on_nils : IV.one .nils = true := rfl
theorem on_ptr (r : Ref) (o : Nat) : IV.one (.ptr r o) = true := rfl
theorem on_slc (r : Ref) (a b : Nat) : IV.one (.slc r a b) = true := rfl
theorem on_app (r : Ref) (l : List FV) : IV.one (.app r l) = true := rfl
theorem on_clip (l : List FV) : IV.one (.clip l) = true := rfl
theorem on_emp : IV.one .emp = true := rfl
theorem on_agg (l : List IV) : IV.one (.agg l) = false := rfl
theorem on_fagg (l : List FV) : IV.one (.fv (.agg l)) = false := rfl
theorem of_int (k : IntKind) (n : Int) : oneF (.int k n) = true := rfl
theorem of_bool (b : Bool) : oneF (.bool b) = true := rfl
theorem of_sl (l : List FV) : oneF (.sl l) = true := rfl
theorem of_fp (l : List FV) (o : Nat) : oneF (.fp l o) = true := rfl
theorem of_nilp : oneF .nilp = true := rfl
theorem of_agg (l : List FV) : oneF (.agg l) = false := rfl
theorem aof_nil : allOneF [] = true := rfl
theorem aof_cons {v : FV} (h : oneF v = true) (l : List FV) : allOneF (v :: l) = allOneF l := by
  show cond (oneF v) (allOneF l) false = _
  rw [h]; rfl
theorem as_p (r : Ref) (o : Nat) (k : Ref → Nat → Option β) (kf : List FV → Nat → Option β) : asPtr (.ptr r o) k kf = k r o := rfl
theorem as_f (cs : List FV) (o : Nat) (k : Ref → Nat → Option β) (kf : List FV → Nat → Option β) : asPtr (.fv (.fp cs o)) k kf = kf cs o := rfl
theorem as_row (cs : List IV) (ro : Bool) (k : List IV → Option β) : asRow (.row cs ro) k = k cs := rfl
theorem as_free (cs : List IV) (k : List IV → Option β) : asFree (.row cs false) k = k cs := rfl
theorem as_fv (v : FV) (e : Option β) (k : FV → Option β) : asF (.fv v) e k = k v := rfl
theorem as_nf1 (l : List IV) (e : Option β) (k : FV → Option β) : asF (.agg l) e k = e := rfl
theorem as_nf2 (e : Option β) (k : FV → Option β) : asF .nils e k = e := rfl
theorem as_nf3 (r : Ref) (o : Nat) (e : Option β) (k : FV → Option β) : asF (.ptr r o) e k = e := rfl
theorem as_nf4 (r : Ref) (o : List FV) (e : Option β) (k : FV → Option β) : asF (.app r o) e k = e := rfl
theorem as_nf5 (o : List FV) (e : Option β) (k : FV → Option β) : asF (.clip o) e k = e := rfl
theorem as_nf6 (r : Ref) (a b : Nat) (e : Option β) (k : FV → Option β) : asF (.slc r a b) e k = e := rfl
theorem as_nf7 (e : Option β) (k : FV → Option β) : asF .emp e k = e := rfl
theorem as_agF (cs : List FV) (k : List FV → Option β) : asAggF (.agg cs) k = k cs := rfl
theorem as_ag (cs : List IV) (k : List IV → Option β) (kf : List FV → Option β) : asAgg (.agg cs) k kf = k cs := rfl
theorem as_ag' (cs : List FV) (k : List IV → Option β) (kf : List FV → Option β) : asAgg (.fv (.agg cs)) k kf = kf cs := rfl
theorem alv_nil (e : Option β) (k : List FV → Option β) : allFvK [] e k = k [] := rfl
theorem alv_fv (v : FV) (l : List IV) (e : Option β) (k : List FV → Option β) : allFvK (.fv v :: l) e k = allFvK l e fun vs => k (v :: vs) := rfl
theorem alv_nils (l : List IV) (e : Option β) (k : List FV → Option β) : allFvK (.nils :: l) e k = e := rfl
theorem alv_app (r : Ref) (es : List FV) (l : List IV) (e : Option β) (k : List FV → Option β) : allFvK (.app r es :: l) e k = e := rfl
theorem alv_clip (es : List FV) (l : List IV) (e : Option β) (k : List FV → Option β) : allFvK (.clip es :: l) e k = e := rfl
theorem alv_ptr (r : Ref) (o : Nat) (l : List IV) (e : Option β) (k : List FV → Option β) : allFvK (.ptr r o :: l) e k = e := rfl
theorem alv_slc (r : Ref) (a b : Nat) (l : List IV) (e : Option β) (k : List FV → Option β) : allFvK (.slc r a b :: l) e k = e := rfl
theorem alv_agg (es l : List IV) (e : Option β) (k : List FV → Option β) : allFvK (.agg es :: l) e k = e := rfl
theorem alv_mapr (r : Ref) (l : List IV) (e : Option β) (k : List FV → Option β) : allFvK (.mapr r :: l) e k = e := rfl
theorem agg_e (l : List IV) (k : IV → Option β) : aggK l k = allFvK l (k (.agg l)) fun vs => k (.fv (.agg vs)) := rfl
theorem tup_e (l : List IV) (k : IV → Option β) : tupK l k = allFvK l (k (.tuple l)) fun vs => k (.fv (.tuple vs)) := rfl
theorem l1_e (a : IV) (h : Hp) (k : IV → List Ref → Option β) : load1 a h k = asPtr a (fun r o => getK r h fun b => asRow b fun cells => nthK cells o fun v => k v [r]) fun cells o => nthK cells o fun v => k (.fv v) [] := rfl
theorem lA_e (size : Nat) (a : IV) (h : Hp) (k : IV → List Ref → Option β) : loadA size a h k =
    asPtr a (fun r o => getK r h fun b => asRow b fun cells => drpK cells o fun cs => takK cs size fun cs => aggK cs fun v => k v [r]) fun cells o => drpK cells o fun cs => takK cs size fun cs => k (.fv (.agg cs)) [] := rfl
theorem cell_t (size : Nat) (a : IV) (h : Hp) (k : IV → Option β) : cellS true size a h k = loadA size a h fun v _ => k v := rfl
theorem cell_f (size : Nat) (a : IV) (h : Hp) (k : IV → Option β) : cellS false size a h k = load1 a h fun v _ => k v := rfl
theorem wr0 (l : List IV) (k : List IV → Option β) : wrK [] l k = k l := rfl
theorem wr1 (c : FV) (cs : List FV) (x : IV) (l : List IV) (k : List IV → Option β) : wrK (c :: cs) (x :: l) k = wrK cs l fun t => k (.fv c :: t) := rfl
theorem sf0 (x : IV) (l : List IV) (cs : List FV) (k : List IV → Option β) : setFK (x :: l) 0 cs k = wrK cs (x :: l) k := rfl
theorem sf1 (x : IV) (l : List IV) (cs : List FV) (k : List IV → Option β) : setFK (x :: l) 1 cs k = setFK l 0 cs fun t => k (x :: t) := rfl
theorem sf2 (x y : IV) (l : List IV) (cs : List FV) (k : List IV → Option β) : setFK (x :: y :: l) 2 cs k = setFK l 0 cs fun t => k (x :: y :: t) := rfl
theorem sf3 (x y z : IV) (l : List IV) (cs : List FV) (k : List IV → Option β) : setFK (x :: y :: z :: l) 3 cs k = setFK l 0 cs fun t => k (x :: y :: z :: t) := rfl
theorem sf4 (x y z u : IV) (l : List IV) (cs : List FV) (k : List IV → Option β) : setFK (x :: y :: z :: u :: l) 4 cs k = setFK l 0 cs fun t => k (x :: y :: z :: u :: t) := rfl
theorem of0 (x b : IV) (l : List IV) (k : List IV → Option β) : offK (x :: l) 0 b k = k (b :: l) := rfl
theorem of1 (x y b : IV) (l : List IV) (k : List IV → Option β) : offK (x :: y :: l) 1 b k = k (x :: b :: l) := rfl
theorem of2 (x y z b : IV) (l : List IV) (k : List IV → Option β) : offK (x :: y :: z :: l) 2 b k = k (x :: y :: b :: l) := rfl
theorem of3 (x y z u b : IV) (l : List IV) (k : List IV → Option β) : offK (x :: y :: z :: u :: l) 3 b k = k (x :: y :: z :: b :: l) := rfl
theorem of6 (x y z u v w s b : IV) (l : List IV) (k : List IV → Option β) : offK (x :: y :: z :: u :: v :: w :: s :: l) 6 b k = k (x :: y :: z :: u :: v :: w :: b :: l) := rfl
theorem sA_f (size : Nat) (a : IV) (cs : List FV) (h : Hp) (k : Hp → List Ref → List Ref → Option β) : storeA size a (.fv (.agg cs)) h k =
    asPtr a (fun r o => getK r h fun b => asFree b fun cells => cond (and (Nat.beq cs.length size) (allOneF cs)) (setFK cells o cs fun cells => layK r (.row cells false) h fun h => k h [r] [r]) none) fun _ _ => none := rfl
theorem ml_own (s : Nat) (x : IV) : mayLie (.own s) x = true := rfl
theorem sA_3 (s : Nat) (a b c : IV) (ha : a.one = true) (hb : b.one = true) (hc : c.one = true) (own : List (Nat × Blk)) (ext : List Blk) (k : Hp → List Ref → List Ref → Option β) :
    storeA 3 (.ptr (.own s) 0) (.agg [a, b, c]) ⟨own, ext⟩ k = ownK own s fun bl => asFree bl fun cells => cond (Nat.ble 3 cells.length) (layK (.own s) (.row (setCells cells 0 [a, b, c]) false) ⟨own, ext⟩ fun h => k h [.own s] [.own s]) none := by
  show ownK own s (fun bl => asFree bl fun cells => if IV.alive (.agg [a, b, c]) = true ∧ (IV.cells (.agg [a, b, c])).length = 3 ∧ 0 + 3 ≤ cells.length ∧ (IV.cells (.agg [a, b, c])).all IV.one = true ∧ mayLie (.own s) (.agg [a, b, c]) = true then
    spK (setCells cells 0 (IV.cells (.agg [a, b, c]))) fun cells => layK (.own s) (.row cells false) ⟨own, ext⟩ fun h => k h [.own s] [.own s] else none) = _
  congr 1
  funext bl
  congr 1
  funext cells
  by_cases h3 : 3 ≤ cells.length
  · rw [if_pos ⟨rfl, rfl, by omega, by simp [IV.cells, ha, hb, hc], rfl⟩, spK_eq, ble_dec, decide_eq_true h3]
    rfl
  · rw [if_neg (fun h => h3 (by omega)), ble_dec, decide_eq_false h3]
    rfl
theorem sc3 (a b c x y z : IV) : setCells [x, y, z] 0 [a, b, c] = [a, b, c] := rfl
theorem s1_e (a x : IV) (h : Hp) (k : Hp → List Ref → List Ref → Option β) : store1 a x h k =
    cond x.one (asPtr a (fun r o => getK r h fun b => asFree b fun cells => cond (mayLie r x) (offK cells o x fun cells => layK r (.row cells false) h fun h => k h [r] [r]) none) fun _ _ => none) (storeA 1 a x h k) := rfl
theorem fa_p (o : Nat) (r : Ref) (k : IV → Option β) : faddrS o (.ptr r 0) k = k (.ptr r o) := by rw [x_faddr, Nat.zero_add]
theorem fa_f (o : Nat) (cs : List FV) (k : IV → Option β) : faddrS o (.fv (.fp cs 0)) k = k (.fv (.fp cs o)) := by rw [x_faddr_f, Nat.zero_add]
theorem nil_p (r : Ref) (o : Nat) (k : IV → Option β) : nilS (.ptr r o) k = k (.ptr r o) := rfl
theorem nil_f (cs : List FV) (o : Nat) (k : IV → Option β) : nilS (.fv (.fp cs o)) k = k (.fv (.fp cs o)) := rfl
theorem nil_func (g : FuncId) (a b : List FV) (k : IV → Option β) : nilS (.fv (.func (.func g) a b)) k = k (.fv (.func (.func g) a b)) := rfl
theorem ex_t (ix : Nat) (vs : List IV) (k : IV → Option β) : extS ix (.tuple vs) k = nthK vs ix k := rfl
theorem ex_f (ix : Nat) (vs : List FV) (k : IV → Option β) : extS ix (.fv (.tuple vs)) k = nthK vs ix fun v => k (.fv v) := rfl
theorem f1_e (o : Nat) (x : IV) (k : IV → Option β) : fld1 o x k = asAgg x (fun cs => nthK cs o k) fun cs => nthK cs o fun v => k (.fv v) := rfl
theorem fA_e (size o : Nat) (x : IV) (k : IV → Option β) : fldA size o x k = asAgg x (fun cs => drpK cs o fun cs => takK cs size fun cs => aggK cs k) fun cs => drpK cs o fun cs => takK cs size fun cs => k (.fv (.agg cs)) := rfl
theorem bld_e (z : List IV) (pl : List (Nat × Nat × IV)) (k : IV → Option β) : bldS z pl k = fillK z pl fun cells => aggK cells k := rfl
theorem fk0 (z : List IV) (k : List IV → Option β) : fillK z [] k = k z := rfl
theorem fk1 (z : List IV) (o sz : Nat) (v : IV) (pl : List (Nat × Nat × IV)) (k : List IV → Option β) : fillK z ((o, sz, v) :: pl) k = fillP z o sz v fun z => fillK z pl k := rfl
theorem fp_one {v : IV} (hv : v.one = true) (z : List IV) (o : Nat) (k : List IV → Option β) : fillP z o 1 v k = offK z o v k := by
  unfold fillP
  cases v with
  | fv w =>
    show cond (oneF w) _ _ = _
    have : oneF w = true := by cases w <;> first | rfl | cases hv
    rw [this]; rfl
  | _ => show fillG _ _ _ _ _ = _; unfold fillG; rw [hv]; rfl
theorem fp_agg (z : List IV) (o sz : Nat) (cs : List FV) (k : List IV → Option β) : fillP z o sz (.fv (.agg cs)) k = cond (Nat.beq cs.length sz) (setFK z o cs k) none := rfl
theorem nb3 (a b c : FV) : Nat.beq [a, b, c].length 3 = true := rfl
theorem nb4 (a b c d : FV) : Nat.beq [a, b, c, d].length 4 = true := rfl
theorem nb7 (a b c d e f g : FV) : Nat.beq [a, b, c, d, e, f, g].length 7 = true := rfl
theorem nl3 (a b c : IV) : Nat.ble 3 [a, b, c].length = true := rfl
theorem and_tt : (and true true) = true := rfl
end
end Idl
end Go.Proofs.Ytdibmackcbpniaa

namespace Go.Proofs.Ytdibmackcbpniaa
namespace Idl

section
variable {β : Type} {E : Env} {t : TypeId}
def w64 (n : Int) : Int := IntKind.i64.wrap n
theorem w64_id {n : Int} (h1 : -9223372036854775808 ≤ n) (h2 : n ≤ 9223372036854775807) : w64 n = n := by
  show (if (true && decide ((n % (18446744073709551616 : Int)) ≥ (9223372036854775808 : Int))) = true then (n % (18446744073709551616 : Int)) - (18446744073709551616 : Int) else (n % (18446744073709551616 : Int))) = n
  by_cases h : 0 ≤ n
  · have e : n % (18446744073709551616 : Int) = n := by omega
    have e2 : ¬ n ≥ (9223372036854775808 : Int) := by omega
    rw [e, decide_eq_false e2]
    rfl
  · have e : n % (18446744073709551616 : Int) = n + 18446744073709551616 := by omega
    have e2 : n + 18446744073709551616 ≥ (9223372036854775808 : Int) := by omega
    rw [e, decide_eq_true e2]
    simp
theorem add_s (a b : Int) (k : IV → Option β) : addS E t (iv a) (iv b) k = k (iv (w64 (a + b))) := by
  have hg : binS E t .add (iv a) (iv b) k = k (iv (w64 (a + b))) := by
    rw [binS, optS_eq]; rfl
  cases a with
  | negSucc a => exact hg
  | ofNat a => cases b with
    | negSucc b => exact hg
    | ofNat b =>
      show cond (Nat.ble (a + b) 9223372036854775807) (intK (a + b) k) _ = _
      rw [ble_dec]
      by_cases h : a + b ≤ 9223372036854775807
      · rw [decide_eq_true h]
        show intK (a + b) k = _
        rw [intK_eq]
        have : w64 (Int.ofNat a + Int.ofNat b) = ((a + b : Nat) : Int) := by
          rw [w64_id (by simp only [Int.ofNat_eq_natCast]; omega) (by simp only [Int.ofNat_eq_natCast]; omega)]
          simp only [Int.ofNat_eq_natCast]; omega
        rw [this]
      · rw [decide_eq_false h]
        exact hg
theorem sub_s (a b : Int) (k : IV → Option β) : subS E t (iv a) (iv b) k = k (iv (w64 (a - b))) := by
  have hg : binS E t .sub (iv a) (iv b) k = k (iv (w64 (a - b))) := by
    rw [binS, optS_eq]; rfl
  cases a with
  | negSucc a => exact hg
  | ofNat a => cases b with
    | negSucc b => exact hg
    | ofNat b =>
      show cond (and (Nat.ble b a) (Nat.ble a 9223372036854775807)) (intK (a - b) k) _ = _
      rw [ble_dec, ble_dec]
      by_cases h : b ≤ a ∧ a ≤ 9223372036854775807
      · rw [decide_eq_true h.1, decide_eq_true h.2]
        show intK (a - b) k = _
        rw [intK_eq]
        have : w64 (Int.ofNat a - Int.ofNat b) = ((a - b : Nat) : Int) := by
          rw [w64_id (by simp only [Int.ofNat_eq_natCast]; omega) (by simp only [Int.ofNat_eq_natCast]; omega)]
          simp only [Int.ofNat_eq_natCast]; omega
        rw [this]
      · have : (decide (b ≤ a) && decide (a ≤ 9223372036854775807)) = false := by
          rw [← Bool.decide_and]; exact decide_eq_false h
        rw [show and (decide (b ≤ a)) (decide (a ≤ 9223372036854775807)) = false from this]
        exact hg
theorem mul_s (a b : Int) (k : IV → Option β) : binS E t .mul (iv a) (iv b) k = k (iv (w64 (a * b))) := by
  rw [binS, optS_eq]; rfl
theorem quo_s {b : Int} (hb : b ≠ 0) (a : Int) (k : IV → Option β) : binS E t .quo (iv a) (iv b) k = k (iv (w64 (a.tdiv b))) := by
  rw [binS, optS_eq]
  have : binR E .quo t (iv a) (iv b) = some (iv (w64 (a.tdiv b))) := by
    show (pureVal (Op.intDiv .quo .i64 a b)).bind ofScal = _
    simp only [Op.intDiv, hb, if_false]
    rfl
  rw [this]; rfl
theorem rem_s {b : Int} (hb : b ≠ 0) (a : Int) (k : IV → Option β) : binS E t .rem (iv a) (iv b) k = k (iv (a.tmod b)) := by
  rw [binS, optS_eq]
  have : binR E .rem t (iv a) (iv b) = some (iv (a.tmod b)) := by
    show (pureVal (Op.intDiv .rem .i64 a b)).bind ofScal = _
    simp only [Op.intDiv, hb, if_false]
    rfl
  rw [this]; rfl
theorem eq_s (a b : Int) (k : IV → Option β) : eqS E t (iv a) (iv b) k = k (.fv (.bool (decide (a = b)))) := x_eqI a b k
theorem ne_s (a b : Int) (k : IV → Option β) : neS E t (iv a) (iv b) k = k (.fv (.bool (!decide (a = b)))) := x_neI a b k
theorem lt_s (a b : Int) (k : IV → Option β) : ltS E t (iv a) (iv b) k = k (.fv (.bool (decide (a < b)))) := x_ltI a b k
theorem le_s (a b : Int) (k : IV → Option β) : leS E t (iv a) (iv b) k = k (.fv (.bool (decide (a ≤ b)))) := x_leI a b k
theorem gt_s (a b : Int) (k : IV → Option β) : gtS E t (iv a) (iv b) k = k (.fv (.bool (decide (b < a)))) := by
  rw [gtS, x_cmpI (fun a b => by
    show some (IV.fv (.bool (decide ((a : Int) > (b : Int))))) = _
    rw [ble_dec]
    congr 3
    exact decide_eq_decide.2 (by omega))]
  rfl
theorem ge_s (a b : Int) (k : IV → Option β) : geS E t (iv a) (iv b) k = k (.fv (.bool (decide (b ≤ a)))) := by
  rw [geS, x_cmpI (fun a b => by
    show some (IV.fv (.bool (decide ((a : Int) ≥ (b : Int))))) = _
    rw [ble_dec]
    congr 3
    exact decide_eq_decide.2 (by omega))]
  rfl
theorem eq_sb (a b : Bool) (hT : E.T t = some ⟨1, 1, .bool, [.fv (.bool false)]⟩) (k : IV → Option β) : eqS E t (.fv (.bool a)) (.fv (.bool b)) k = k (.fv (.bool (a == b))) := by
  show binS E t .eql _ _ k = _
  rw [binS, optS_eq]
  have : binR E .eql t (.fv (.bool a)) (.fv (.bool b)) = some (.fv (.bool (a == b))) := by
    simp only [binR, hT, eqOp]
  rw [this]; rfl
theorem not_s (b : Bool) (k : IV → Option β) : optS (unR .not (.fv (.bool b))) k = k (.fv (.bool !b)) := x_not b k
theorem cd_t (a b : Option β) : condS (.fv (.bool true)) a b = a := rfl
theorem cd_f (a b : Option β) : condS (.fv (.bool false)) a b = b := rfl
theorem cd_d (c : Prop) [Decidable c] (a b : Option β) : condS (.fv (.bool (decide c))) a b = if c then a else b := x_cond c a b
theorem cd_n (c : Prop) [Decidable c] (a b : Option β) : condS (.fv (.bool (!decide c))) a b = if c then b else a := by
  by_cases h : c
  · rw [decide_eq_true h, if_pos h]; rfl
  · rw [decide_eq_false h, if_neg h]; rfl
theorem cd_b (c : Bool) (a b : Option β) : condS (.fv (.bool c)) a b = if c = true then a else b := by
  cases c <;> rfl
theorem pk_e (c a b : IV) (k : IV → Option β) : pickS c a b k = condS c (k a) (k b) := rfl
theorem gd_mt {b : Bool} (hb : b = true) (h : Hp) (m : (IV → Hp → List Ref → List Ref → Option β) → Option β) (k : IV → Hp → List Ref → List Ref → Option β) : guardS (.fv (.bool b)) true h m k = m k := by rw [hb]; rfl
theorem gd_mf {b : Bool} (hb : b = false) (h : Hp) (m : (IV → Hp → List Ref → List Ref → Option β) → Option β) (k : IV → Hp → List Ref → List Ref → Option β) : guardS (.fv (.bool b)) false h m k = m k := by rw [hb]; rfl
theorem gd_sf {b : Bool} (hb : b = true) (h : Hp) (m : (IV → Hp → List Ref → List Ref → Option β) → Option β) (k : IV → Hp → List Ref → List Ref → Option β) : guardS (.fv (.bool b)) false h m k = k undefV h [] [] := by rw [hb]; rfl
theorem gd_st {b : Bool} (hb : b = false) (h : Hp) (m : (IV → Hp → List Ref → List Ref → Option β) → Option β) (k : IV → Hp → List Ref → List Ref → Option β) : guardS (.fv (.bool b)) true h m k = k undefV h [] [] := by rw [hb]; rfl
theorem gd_u (w : Bool) (h : Hp) (m : (IV → Hp → List Ref → List Ref → Option β) → Option β) (k : IV → Hp → List Ref → List Ref → Option β) : guardS undefV w h m k = k undefV h [] [] := rfl
theorem ch0 (rd wr : List Ref) (a : Option β) : chkS [] rd wr a = a := rfl
theorem ch1 (q1 q2 : List Ref) (l : List (List Ref × List Ref)) (rd wr : List Ref) (a : Option β) : chkS ((q1, q2) :: l) rd wr a = cond (djB q2 rd) (cond (djB q2 wr) (cond (djB wr q1) (chkS l rd wr a) none) none) none := rfl
theorem dj0 (b : List Ref) : djB [] b = true := rfl
theorem djn : ∀ (a : List Ref), djB a [] = true
  | [] => rfl
  | _ :: a => djn a
theorem dj1 (r : Ref) (a b : List Ref) : djB (r :: a) b = cond (allNe r b) (djB a b) false := rfl
theorem an0 (r : Ref) : allNe r [] = true := rfl
theorem an1 (r s : Ref) (l : List Ref) : allNe r (s :: l) = cond (refNe r s) (allNe r l) false := rfl
theorem rn_o {i j : Nat} (h : (i == j) = false) : refNe (.own i) (.own j) = true := by
  show not (Nat.beq i j) = true
  rw [show Nat.beq i j = false from N_bf h]; rfl
theorem rn_oe (i j : Nat) : refNe (.own i) (.ext j) = true := rfl
theorem rn_eo (i j : Nat) : refNe (.ext i) (.own j) = true := rfl
theorem out1 (v : IV) (h : Hp) : outS1 [v] h = some (v, h) := rfl
theorem out0 (h : Hp) : outS1 [] h = some (.fv (.tuple []), h) := rfl
theorem out2 (a b : IV) (h : Hp) : outS1 [a, b] h = tupK [a, b] fun v => some (v, h) := rfl
theorem out3 (a b c : IV) (h : Hp) : outS1 [a, b, c] h = tupK [a, b, c] fun v => some (v, h) := rfl
theorem out4 (a b c d : IV) (h : Hp) : outS1 [a, b, c, d] h = tupK [a, b, c, d] fun v => some (v, h) := rfl
theorem len_f (es : List FV) (k : IV → Option β) : lenS (.fv (.sl es)) k = k (iv es.length) := intK_eq ..
theorem len_0 (k : IV → Option β) : lenS .nils k = k (iv 0) := rfl
theorem len_c (es : List FV) (k : IV → Option β) : lenS (.clip es) k = k (iv es.length) := intK_eq ..
theorem len_a (r : Ref) (es : List FV) (k : IV → Option β) : lenS (.app r es) k = k (iv es.length) := intK_eq ..
theorem len_s (r : Ref) (sz n : Nat) (k : IV → Option β) : lenS (.slc r sz n) k = k (iv n) := intK_eq ..
theorem ix_f {size : Nat} {es : List FV} {n : Nat} {el : FV} (he : es[n]? = some el) (hl : el.cells.length = size) (k : IV → Option β) : ixS size (.fv (.sl es)) (iv n) k = k (.fv (.fp el.cells 0)) := x_ix he hl k
theorem ix_a {size : Nat} {r : Ref} {es : List FV} {n : Nat} {el : FV} (he : es[n]? = some el) (hl : el.cells.length = size) (k : IV → Option β) : ixS size (.app r es) (iv n) k = k (.fv (.fp el.cells 0)) := x_ix he hl k
theorem ix_c {size : Nat} {es : List FV} {n : Nat} {el : FV} (he : es[n]? = some el) (hl : el.cells.length = size) (k : IV → Option β) : ixS size (.clip es) (iv n) k = k (.fv (.fp el.cells 0)) := x_ix he hl k
theorem ix_s {size sz len : Nat} {r : Ref} {n : Nat} (hn : n < len) (hs : sz = size) (k : IV → Option β) : ixS size (.slc r sz len) (iv n) k = k (.ptr r (n * sz)) := by
  show cond (and (Nat.ble (Nat.succ n) len) (Nat.beq sz size)) (fNat (n * sz) fun o => k (.ptr r o)) none = _
  rw [ble_dec, decide_eq_true (show Nat.succ n ≤ len from hn), hs, show Nat.beq size size = true from Nat.beq_refl size]
  simp only [Bool.and_self, cond_true]
  rw [fNat_eq]
theorem ix0_agg (size : Nat) (cs : List FV) (es : List FV) (hl : cs.length = size) (k : IV → Option β) : ixS size (.fv (.sl (.agg cs :: es))) (iv 0) k = k (.fv (.fp cs 0)) := ix_f (el := .agg cs) (n := 0) rfl hl k
theorem ix1_agg (size : Nat) (cs : List FV) (e : FV) (es : List FV) (hl : cs.length = size) (k : IV → Option β) : ixS size (.fv (.sl (e :: .agg cs :: es))) (iv 1) k = k (.fv (.fp cs 0)) := ix_f (el := .agg cs) (n := 1) rfl hl k
theorem ix2_agg (size : Nat) (cs : List FV) (e e' : FV) (es : List FV) (hl : cs.length = size) (k : IV → Option β) : ixS size (.fv (.sl (e :: e' :: .agg cs :: es))) (iv 2) k = k (.fv (.fp cs 0)) := ix_f (el := .agg cs) (n := 2) rfl hl k
theorem ix3_agg (size : Nat) (cs : List FV) (e e' e'' : FV) (es : List FV) (hl : cs.length = size) (k : IV → Option β) : ixS size (.fv (.sl (e :: e' :: e'' :: .agg cs :: es))) (iv 3) k = k (.fv (.fp cs 0)) := ix_f (el := .agg cs) (n := 3) rfl hl k

def Fz (v : IV) (own : List (Nat × Blk)) (w : FV) : Prop := ∃ u lg, ∀ (e : Option (IV × Hp)) (K : FV → List (Ref × Blk) → List Ref → Option (IV × Hp)), fzU 12 v ⟨own, []⟩ [] e K = K w u lg
def Ans (r : Option (IV × Hp)) (w : FV) : Prop := ∃ v own, r = some (v, ⟨own, []⟩) ∧
  (Fz v own w ∨ ((∀ (e : Option (IV × Hp)) (K : FV → List (Ref × Blk) → List Ref → Option (IV × Hp)), fzU 12 v ⟨own, []⟩ [] e K = e) ∧ ∃ u, (frz 4096 v).run ⟨own, []⟩ = some (w, u)))
def AnsF (r : Option (IV × Hp)) (w : FV) : Prop := ∃ v own, r = some (v, ⟨own, []⟩) ∧ Fz v own w
theorem fz_fv (w : FV) (own : List (Nat × Blk)) : Fz (.fv w) own w := ⟨[], [], fun _ _ => rfl⟩
theorem ans_fv (w : FV) (own : List (Nat × Blk)) : Ans (some (.fv w, ⟨own, []⟩)) w := ⟨_, own, rfl, .inl (fz_fv w own)⟩
def frz1 : IV → Option FV
  | .fv v => some v
  | .nils => some (.sl [])
  | .emp => some (.sl [])
  | .clip es => some (.sl es)
  | .app _ es => some (.sl es)
  | _ => none
def frz1L : List IV → Option (List FV)
  | [] => some []
  | v :: l => (frz1 v).bind fun x => (frz1L l).map fun xs => x :: xs
def frzP (v : IV) : Option FV := match v with
  | .agg cs => if cs.length ≤ 8 then (frz1L cs).map .agg else none
  | v => frz1 v
def frzPL : List IV → Option (List FV)
  | [] => some []
  | v :: l => (frzP v).bind fun x => (frzPL l).map fun xs => x :: xs
theorem zp_fv (v : FV) : frzP (.fv v) = some v := rfl
theorem zp_nils : frzP .nils = some (.sl []) := rfl
theorem zp_emp : frzP .emp = some (.sl []) := rfl
theorem zp_clip (es : List FV) : frzP (.clip es) = some (.sl es) := rfl
theorem zp_app (r : Ref) (es : List FV) : frzP (.app r es) = some (.sl es) := rfl
theorem zq_fv (v : FV) : frz1 (.fv v) = some v := rfl
theorem zq_nils : frz1 .nils = some (.sl []) := rfl
theorem zq_emp : frz1 .emp = some (.sl []) := rfl
theorem zq_clip (es : List FV) : frz1 (.clip es) = some (.sl es) := rfl
theorem zq_app (r : Ref) (es : List FV) : frz1 (.app r es) = some (.sl es) := rfl
theorem zp_3 {a b c : IV} {x y z : FV} (ha : frz1 a = some x) (hb : frz1 b = some y) (hc : frz1 c = some z) : frzP (.agg [a, b, c]) = some (.agg [x, y, z]) := by
  show (if 3 ≤ 8 then (frz1L [a, b, c]).map FV.agg else none) = _
  simp [frz1L, ha, hb, hc]
theorem zp_4 {a b c d : IV} {x y z u : FV} (ha : frz1 a = some x) (hb : frz1 b = some y) (hc : frz1 c = some z) (hd : frz1 d = some u) : frzP (.agg [a, b, c, d]) = some (.agg [x, y, z, u]) := by
  show (if 4 ≤ 8 then (frz1L [a, b, c, d]).map FV.agg else none) = _
  simp [frz1L, ha, hb, hc, hd]
theorem fz1_u {v : IV} {x : FV} (d : Nat) (h : Hp) (lg : List Ref) (e : Option β) (k : FV → List (Ref × Blk) → List Ref → Option β) (hz : frz1 v = some x) : fzU (d + 1) v h lg e k = k x [] lg := by
  cases v <;> first | (cases hz; rfl) | (cases hz)
theorem fz1_l (d : Nat) (h : Hp) (lg : List Ref) (e : Option β) : ∀ (cs : List IV) (k : List FV → List (Ref × Blk) → List Ref → Option β) {xs : List FV}, frz1L cs = some xs → fzLK (fzU (d + 1)) cs h lg e k = k xs [] lg
  | [], k, xs, hz => by cases hz; rfl
  | v :: cs, k, xs, hz => by
    simp only [frz1L] at hz
    cases h1 : frz1 v with
    | none => rw [h1] at hz; cases hz
    | some x =>
      rw [h1] at hz
      cases h2 : frz1L cs with
      | none => rw [h2] at hz; cases hz
      | some ys =>
        rw [h2] at hz
        cases hz
        show fzU (d + 1) v h lg e (fun y u lg => fzLK (fzU (d + 1)) cs h lg e fun ys us lg => apK u us fun w => k (y :: ys) w lg) = _
        rw [fz1_u d h lg e _ h1, fz1_l d h lg e cs _ h2]
        rfl
theorem fzp_u {v : IV} {x : FV} (h : Hp) (lg : List Ref) (e : Option β) (k : FV → List (Ref × Blk) → List Ref → Option β) (hz : frzP v = some x) : fzU 12 v h lg e k = k x [] lg := by
  cases v with
  | agg cs =>
    simp only [frzP] at hz
    split at hz
    · rename_i hl
      cases h2 : frz1L cs with
      | none => rw [h2] at hz; cases hz
      | some ys =>
        rw [h2] at hz
        cases hz
        show cond (Nat.ble cs.length 300) (fzLK (fzU 11) cs h lg e fun cs u lg => k (.agg cs) u lg) e = _
        rw [ble_dec, decide_eq_true (show cs.length ≤ 300 by omega)]
        exact fz1_l 10 h lg e cs _ h2
    · cases hz
  | _ => exact fz1_u 11 h lg e k hz
theorem fz_p {v : IV} {x : FV} (hz : frzP v = some x) (own : List (Nat × Blk)) : Fz v own x := ⟨[], [], fun e K => fzp_u _ _ e K hz⟩
theorem ans_p {v : IV} {x : FV} (hz : frzP v = some x) (own : List (Nat × Blk)) : Ans (some (v, ⟨own, []⟩)) x := ⟨v, own, rfl, .inl (fz_p hz own)⟩
theorem fr1 {v : IV} {x : FV} (n : Nat) (hz : frz1 v = some x) : frz (n + 1) v = .ret (x, []) := by
  cases v <;> first | (cases hz; rfl) | (cases hz)
theorem fr1_l : ∀ (cs : List IV) (n : Nat) {xs : List FV}, cs.length + 1 < n → frz1L cs = some xs → frzL n cs = .ret (xs, [])
  | [], n + 1, xs, _, hz => by cases hz; rfl
  | v :: cs, n + 2, xs, hn, hz => by
    simp only [frz1L] at hz
    cases h1 : frz1 v with
    | none => rw [h1] at hz; cases hz
    | some x =>
      rw [h1] at hz
      cases h2 : frz1L cs with
      | none => rw [h2] at hz; cases hz
      | some ys =>
        rw [h2] at hz
        cases hz
        simp only [List.length_cons] at hn
        simp only [frzL, fr1 n h1, Rd.bind, fr1_l cs (n + 1) (by omega) h2]
        rfl
theorem frp {v : IV} {x : FV} (n : Nat) (hn : 20 < n) (hz : frzP v = some x) : frz n v = .ret (x, []) := by
  cases n with
  | zero => omega
  | succ n =>
    cases v with
    | agg cs =>
      simp only [frzP] at hz
      split at hz
      · rename_i hl
        cases h2 : frz1L cs with
        | none => rw [h2] at hz; cases hz
        | some ys =>
          rw [h2] at hz
          cases hz
          simp only [frz, fr1_l cs n (by omega) h2, Rd.bind]
      · cases hz
    | _ => exact fr1 n hz
theorem frp_l : ∀ (cs : List IV) (n : Nat) {xs : List FV}, cs.length + 30 < n → frzPL cs = some xs → frzL n cs = .ret (xs, [])
  | [], n + 1, xs, _, hz => by cases hz; rfl
  | v :: cs, n + 1, xs, hn, hz => by
    simp only [frzPL] at hz
    cases h1 : frzP v with
    | none => rw [h1] at hz; cases hz
    | some x =>
      rw [h1] at hz
      cases h2 : frzPL cs with
      | none => rw [h2] at hz; cases hz
      | some ys =>
        rw [h2] at hz
        cases hz
        simp only [List.length_cons] at hn
        simp only [frzL, frp n (by omega) h1, Rd.bind, frp_l cs n (by omega) h2]
        rfl
theorem ans_t {vs : List IV} {xs : List FV} (hz : frzPL vs = some xs) (hl : vs.length ≤ 100) (own : List (Nat × Blk)) : Ans (some (.tuple vs, ⟨own, []⟩)) (.tuple xs) :=
  ⟨_, own, rfl, .inr ⟨fun _ _ => rfl, [], by
    show (frz (4095 + 1) (.tuple vs)).run _ = _
    simp only [frz, frp_l vs 4095 (by omega) hz, Rd.bind]
    rfl⟩⟩
theorem zl_nil : frzPL [] = some [] := rfl
theorem zl_2 {a b : IV} {x y : FV} (ha : frzP a = some x) (hb : frzP b = some y) : frzPL [a, b] = some [x, y] := by simp [frzPL, ha, hb]
theorem zl_3 {a b c : IV} {x y z : FV} (ha : frzP a = some x) (hb : frzP b = some y) (hc : frzP c = some z) : frzPL [a, b, c] = some [x, y, z] := by simp [frzPL, ha, hb, hc]
theorem zl_4 {a b c d : IV} {x y z u : FV} (ha : frzP a = some x) (hb : frzP b = some y) (hc : frzP c = some z) (hd : frzP d = some u) : frzPL [a, b, c, d] = some [x, y, z, u] := by simp [frzPL, ha, hb, hc, hd]
theorem zl_1 {a : IV} {x : FV} (ha : frzP a = some x) : frzPL [a] = some [x] := by simp [frzPL, ha]
theorem frz_args : ∀ (args : List IV) {vs : List FV}, frzPL args = some vs → frzArgs [] args = .ret (vs.map .fv, [], [])
  | [], vs, hz => by cases hz; rfl
  | v :: l, vs, hz => by
    simp only [frzPL] at hz
    cases h1 : frzP v with
    | none => rw [h1] at hz; cases hz
    | some x =>
      rw [h1] at hz
      cases h2 : frzPL l with
      | none => rw [h2] at hz; cases hz
      | some ys =>
        rw [h2] at hz
        cases hz
        simp only [frzArgs, frp 4096 (by omega) h1, Rd.bind, frz_args l h2]
        rfl
section
variable (d : Nat) (h : Hp) (lg : List Ref) (e : Option β) (k : FV → List (Ref × Blk) → List Ref → Option β)
theorem fu_agg (cs : List IV) : fzU 12 (.agg cs) h lg e k = cond (Nat.ble cs.length 300) (fzLK (fzU 11) cs h lg e fun cs u lg => k (.agg cs) u lg) e := rfl
theorem fv_fv (v : FV) : fzU 11 (.fv v) h lg e k = k v [] lg := rfl
theorem fl0 (g : FzK β) (k : List FV → List (Ref × Blk) → List Ref → Option β) : fzLK g [] h lg e k = k [] [] lg := rfl
theorem fl1 (g : FzK β) (x : IV) (l : List IV) (k : List FV → List (Ref × Blk) → List Ref → Option β) : fzLK g (x :: l) h lg e k = g x h lg e fun y u lg => fzLK g l h lg e fun ys us lg => apK u us fun w => k (y :: ys) w lg := rfl
end
noncomputable def isoC (rs : List Ref) (r : Option (IV × Hp)) (h : Hp) (u : List (Ref × Blk)) (lg : List Ref) (e : Option (IV × Hp)) (g : List Ref → Option (IV × Hp)) (k : IV → Hp → List Ref → List Ref → Option (IV × Hp)) : Option (IV × Hp) := match rs with
  | [] => (match r with
    | none => none
    | some p => match p with
      | (v, h') => match h' with
        | ⟨own, ext⟩ => List.casesOn (motive := fun _ => Option (IV × Hp)) ext (fzU 12 v ⟨own, []⟩ [] e fun w _ _ => layU u h fun h2 => k (.fv w) h2 lg (keys u)) fun _ _ => none)
  | r :: rs => g (r :: rs)
theorem iso_e (keep : List Bool) (ih : Handler) (f : FuncId) (args : List IV) (h : Hp) (k : IV → Hp → List Ref → List Ref → Option (IV × Hp)) : isoS keep false false ih f args h k =
    fzA args keep h [] (isoD keep false false ih f args h k) fun vs rs u lg => isoC rs (ih f vs ⟨[], []⟩) h u lg (isoD keep false false ih f args h k) (fun rs => match rs with
      | [] => none
      | r :: rs => (match h with
        | ⟨own, ext⟩ => cond (goB 400 (r :: rs) 0 ext) (match ih f vs ⟨[], ext⟩ with
          | none => none
          | some p => match p with
            | (v, h') => match h' with
              | ⟨own', ext'⟩ => cond (and (Nat.beq ext'.length ext.length) (okB ext.length ext'))
                (fzU 12 v ⟨own', ext'⟩ [] (isoD keep false false ih f args h k) fun w _ _ => layU u ⟨own, ext'⟩ fun h2 => k (.fv w) h2 ((extsUp ext.length).reverse ++ lg) (keys u ++ extsUp ext.length)) none)
          (isoD keep false false ih f args h k))) k := by
  unfold isoS
  simp only [cond_false]
  congr 1
theorem fza_p : ∀ (args : List IV) {vs : List FV} (h : Hp) (lg : List Ref) (e : Option β) (k : List IV → List Ref → List (Ref × Blk) → List Ref → Option β), frzPL args = some vs → fzA args [] h lg e k = k (vs.map .fv) [] [] lg
  | [], vs, h, lg, e, k, hz => by cases hz; rfl
  | v :: l, vs, h, lg, e, k, hz => by
    simp only [frzPL] at hz
    cases h1 : frzP v with
    | none => rw [h1] at hz; cases hz
    | some x =>
      rw [h1] at hz
      cases h2 : frzPL l with
      | none => rw [h2] at hz; cases hz
      | some ys =>
        rw [h2] at hz
        cases hz
        show fzU 12 v h lg e (fun y u lg => fzA l [] h lg e fun vs rs us lg => apK u us fun w => k (.fv y :: vs) rs w lg) = _
        rw [fzp_u h lg e _ h1, fza_p l h lg e _ h2]
        rfl
theorem renL_fv (f : Ref → Option Ref) : ∀ l : List FV, IV.ren.renL f (l.map .fv) = some (l.map .fv)
  | [] => rfl
  | v :: l => by
    simp only [List.map_cons, IV.ren.renL, IV.ren, renL_fv f l]
    rfl
theorem iso_p {ih : Handler} {f : FuncId} {args : List IV} {vs : List FV} {w : FV} (hz : frzPL args = some vs) (hr : Ans (ih f (vs.map .fv) ⟨[], []⟩) w) (h : Hp) (k : IV → Hp → List Ref → List Ref → Option (IV × Hp)) :
    isoS [] false false ih f args h k = k (.fv w) h [] [] := by
  obtain ⟨v, own, e, hv⟩ := hr
  have hD : (∃ u, (frz 4096 v).run ⟨own, []⟩ = some (w, u)) → isoD [] false false ih f args h k = k (.fv w) h [] [] := by
    rintro ⟨u, hu⟩
    unfold isoD
    simp only [frz_args args hz, Rd.runLog, gather, renL_fv, List.map_nil, renBlks, fL_eq (fV_eq 3), fL_eq fBk_eq, askedD, Bool.false_eq_true, if_false, e, hu, Option.map_some, IV.ren]
    show (match laid h ([] ++ (keys []).zip []) with | none => none | some h' => fH h' fun h' => fV 3 (.fv w) fun res => k res h' [] _) = _
    simp only [keys, List.map_nil, List.zip_nil_left, List.append_nil, laid, fH_eq, fV_eq]
  rw [iso_e, fza_p args h [] _ _ hz, e]
  simp only [isoC]
  rcases hv with ⟨u', lg', hf⟩ | ⟨hf, hu⟩
  · rw [hf]; rfl
  · rw [hf]; exact hD hu
theorem iso_0 {ih : Handler} {f : FuncId} {w : FV} (hr : Ans (ih f [] ⟨[], []⟩) w) (h : Hp) (k : IV → Hp → List Ref → List Ref → Option (IV × Hp)) :
    isoS [] false false ih f [] h k = k (.fv w) h [] [] := iso_p (vs := []) rfl hr h k
theorem iso_1 {ih : Handler} {f : FuncId} {a : IV} {x w : FV} (hr : Ans (ih f [.fv x] ⟨[], []⟩) w) (ha : frzP a = some x) (h : Hp) (k : IV → Hp → List Ref → List Ref → Option (IV × Hp)) :
    isoS [] false false ih f [a] h k = k (.fv w) h [] [] := iso_p (zl_1 ha) hr h k
theorem iso_2 {ih : Handler} {f : FuncId} {a b : IV} {x y w : FV} (hr : Ans (ih f [.fv x, .fv y] ⟨[], []⟩) w) (ha : frzP a = some x) (hb : frzP b = some y) (h : Hp) (k : IV → Hp → List Ref → List Ref → Option (IV × Hp)) :
    isoS [] false false ih f [a, b] h k = k (.fv w) h [] [] := iso_p (zl_2 ha hb) hr h k
theorem iso_3 {ih : Handler} {f : FuncId} {a b c : IV} {x y z w : FV} (hr : Ans (ih f [.fv x, .fv y, .fv z] ⟨[], []⟩) w) (ha : frzP a = some x) (hb : frzP b = some y) (hc : frzP c = some z) (h : Hp) (k : IV → Hp → List Ref → List Ref → Option (IV × Hp)) :
    isoS [] false false ih f [a, b, c] h k = k (.fv w) h [] [] := iso_p (zl_3 ha hb hc) hr h k
theorem iso_4 {ih : Handler} {f : FuncId} {a b c d : IV} {x y z u w : FV} (hr : Ans (ih f [.fv x, .fv y, .fv z, .fv u] ⟨[], []⟩) w) (ha : frzP a = some x) (hb : frzP b = some y) (hc : frzP c = some z) (hd : frzP d = some u) (h : Hp)
    (k : IV → Hp → List Ref → List Ref → Option (IV × Hp)) : isoS [] false false ih f [a, b, c, d] h k = k (.fv w) h [] [] := iso_p (zl_4 ha hb hc hd) hr h k
theorem gen_val (v : IV) (s : Nat) (h : Hp) (k : IV → Hp → List Ref → List Ref → Option β) : genS (.ret { eff := { val := v } }) s h k = k v h [] [] := by
  unfold genS
  simp only [Rd.runLog, newRefs, fV_eq]
  rfl
theorem gen_val' (v : IV) (s : Nat) (h : Hp) (k : IV → Hp → List Ref → List Ref → Option β) : genS (Idl.val v) s h k = k v h [] [] := gen_val v s h k
theorem bs_tm {e : TypeId} {a b : Nat} {ei : TI} {z : List IV} (hT : E.T t = some ⟨a, b, .slice e, z⟩) (he : E.T e = some ei) {len : Nat} (hs : ¬ (ei.size = 0 ∨ len * ei.size > 65536)) {parts : List (Nat × IV)} {cells : List FV}
    (hf : fillIn (fun j => some (j * ei.size, ei.size)) (rep len ei.zero) parts = some (cells.map .fv)) {s : Nat} {h : Hp} (k : IV → Hp → List Ref → List Ref → Option β) (hc : cells.length < 65000 := by simp) :
    genS (pcBuildSlice E t len parts) s h k = k (.clip (chunks ei.size len cells)) h [] [] := by
  have key : ∀ (l : List FV) (n : Nat), l.length < n → frzL n (l.map .fv) = .ret (l, []) := by
    intro l
    induction l with
    | nil => intro n hn; cases n with
      | zero => simp at hn
      | succ n => rfl
    | cons x l ih => intro n hn; cases n with
      | zero => simp at hn
      | succ n =>
        simp only [List.length_cons] at hn
        cases n with
        | zero => omega
        | succ n =>
          simp only [List.map_cons, frzL, frz, Rd.bind]
          rw [ih (n + 1) (by omega)]
          rfl
  have : pcBuildSlice E t len parts = .ret { eff := { val := .clip (chunks ei.size len cells), upd := [] } } := by
    simp only [pcBuildSlice, hT, he, if_neg hs, hf]
    rw [key _ _ (by omega)]
    rfl
  rw [this, gen_val]
end
end Idl
end Go.Proofs.Ytdibmackcbpniaa

namespace Go.Proofs.Ytdibmackcbpniaa
namespace Idl
def XX := And.intro @n0 <| And.intro @n1 <| And.intro @n2 <| And.intro @n3 <| And.intro @n4 <| And.intro @n5 <| And.intro @n6 <| And.intro @d0 <| And.intro @d1 <| And.intro @d2 <| And.intro @d3 <| And.intro @d4 <| And.intro @t1 <| And.intro @t2 <| And.intro @t3 <| And.intro @t4 <| And.intro @t7 <| And.intro @ap0 <| And.intro @ap1 <| And.intro @unc_c <| And.intro @c_t <| And.intro @c_f <| And.intro @g_own <| And.intro @g_ext <| And.intro @o_hit <| And.intro @o_miss <| And.intro @p_nil <| And.intro @p_hit <| And.intro @p_miss <| And.intro @f_nil <| And.intro @f_cons <| And.intro @lay_own <| And.intro @lay_ext <| And.intro @sn0 <| And.intro @new_e <| And.intro @box_agg <| And.intro @box_agg' <| And.intro @box_one <| And.intro @on_int <| And.intro @on_bool <| And.intro @on_sl <| And.intro @on_fp <| And.intro @on_func <| And.intro @on_nilp <| And.intro @on_nils <| And.intro @on_ptr <| And.intro @on_slc <| And.intro @on_app <| And.intro @on_clip <| And.intro @on_emp <| And.intro @on_agg <| And.intro @on_fagg <| And.intro @of_int <| And.intro @of_bool <| And.intro @of_sl <| And.intro @of_fp <| And.intro @of_nilp <| And.intro @of_agg <| And.intro @aof_nil <| And.intro @aof_cons <| And.intro @as_p <| And.intro @as_f <| And.intro @as_row <| And.intro @as_free <| And.intro @as_fv <| And.intro @as_nf1 <| And.intro @as_nf2 <| And.intro @as_nf3 <| And.intro @as_nf4 <| And.intro @as_nf5 <| And.intro @as_nf6 <| And.intro @as_nf7 <| And.intro @as_agF <| And.intro @as_ag <| And.intro @as_ag' <| And.intro @alv_nil <| And.intro @alv_fv <| And.intro @alv_nils <| And.intro @alv_app <| And.intro @alv_clip <| And.intro @alv_ptr <| And.intro @alv_slc <| And.intro @alv_agg <| And.intro @alv_mapr <| And.intro @agg_e <| And.intro @tup_e <| And.intro @l1_e <| And.intro @lA_e <| And.intro @cell_t <| And.intro @cell_f <| And.intro @wr0 <| And.intro @wr1 <| And.intro @sf0 <| And.intro @sf1 <| And.intro @sf2 <| And.intro @sf3 <| And.intro @sf4 <| And.intro @of0 <| And.intro @of1 <| And.intro @of2 <| And.intro @of3 <| And.intro @of6 <| And.intro @sA_f <| And.intro @ml_own <| And.intro @sA_3 <| And.intro @sc3 <| And.intro @s1_e <| And.intro @fa_p <| And.intro @fa_f <| And.intro @nil_p <| And.intro @nil_f <| And.intro @nil_func <| And.intro @ex_t <| And.intro @ex_f <| And.intro @f1_e <| And.intro @fA_e <| And.intro @bld_e <| And.intro @fk0 <| And.intro @fk1 <| And.intro @fp_one <| And.intro @fp_agg <| And.intro @nb3 <| And.intro @nb4 <| And.intro @nb7 <| And.intro @nl3 <| And.intro @and_tt <| And.intro @add_s <| And.intro @sub_s <| And.intro @mul_s <| And.intro @quo_s <| And.intro @rem_s <| And.intro @eq_s <| And.intro @ne_s <| And.intro @lt_s <| And.intro @le_s <| And.intro @gt_s <| And.intro @ge_s <| And.intro @eq_sb <| And.intro @not_s <| And.intro @cd_t <| And.intro @cd_f <| And.intro @cd_d <| And.intro @cd_n <| And.intro @cd_b <| And.intro @pk_e <| And.intro @gd_mt <| And.intro @gd_mf <| And.intro @gd_sf <| And.intro @gd_st <| And.intro @gd_u <| And.intro @ch0 <| And.intro @ch1 <| And.intro @dj0 <| And.intro @djn <| And.intro @dj1 <| And.intro @an0 <| And.intro @an1 <| And.intro @rn_o <| And.intro @rn_oe <| And.intro @rn_eo <| And.intro @out1 <| And.intro @out0 <| And.intro @out2 <| And.intro @out3 <| And.intro @out4 <| And.intro @len_f <| And.intro @len_0 <| And.intro @len_c <| And.intro @len_a <| And.intro @len_s <| And.intro @ix_f <| And.intro @ix_a <| And.intro @ix_c <| And.intro @ix_s <| And.intro @ix0_agg <| And.intro @ix1_agg <| And.intro @ix2_agg <| And.intro @ix3_agg <| And.intro @zp_fv <| And.intro @zp_nils <| And.intro @zp_emp <| And.intro @zp_clip <| And.intro @zp_app <| And.intro @zq_fv <| And.intro @zq_nils <| And.intro @zq_emp <| And.intro @zq_clip <| And.intro @zq_app <| And.intro @zp_3 <| And.intro @zp_4 <| And.intro @zl_nil <| And.intro @zl_2 <| And.intro @zl_3 <| And.intro @zl_4 <| And.intro @zl_1 <| And.intro @gen_val <| @gen_val'
end Idl
end Go.Proofs.Ytdibmackcbpniaa

namespace Go.Proofs.Ytdibmackcbpniaa
namespace Idl
theorem loop_run {F : (List IV → Hp → Option (IV × Hp)) → List IV → Hp → Option (IV × Hp)} {Q : Option (IV × Hp) → Prop} (P : Nat → List IV → Hp → Prop)
    (step : ∀ k V H rec, P k V H → (∀ k' V' H', k' < k → P k' V' H' → Q (rec V' H')) → Q (F rec V H)) : ∀ m k V H, k < m → P k V H → Q (loopS m F V H) := by
  intro m
  induction m with
  | zero => intro k V H h; omega
  | succ m ih => intro k V H hk hP; exact step k V H (loopS m F) hP fun k' V' H' h1 h2 => ih k' V' H' (by omega) h2
mutual
def Tm.wt : Tm → Nat
  | .mk _ _ l => 1 + Tm.wtL l
def Tm.wtL : List Tm → Nat
  | [] => 0
  | t :: l => t.wt + Tm.wtL l
end
theorem wt_mem {t : Tm} : ∀ {l : List Tm}, t ∈ l → t.wt ≤ Tm.wtL l
  | a :: l, h => by
    rcases List.mem_cons.1 h with rfl | h
    · simp only [Tm.wtL]; omega
    · have := wt_mem h; simp only [Tm.wtL]; omega
theorem wt_len : ∀ (l : List Tm), l.length ≤ Tm.wtL l
  | [] => Nat.zero_le _
  | (.mk _ _ k) :: l => by have := wt_len l; simp only [Tm.wtL, Tm.wt, List.length_cons]; omega
theorem wt_pos (t : Tm) : 0 < t.wt := by cases t; simp only [Tm.wt]; omega
theorem enc_mk (op n : Int) (l : List Tm) : (Tm.mk op n l).enc = .agg [.int .i64 op, .int .i64 n, .sl (l.map Tm.enc)] := by simp only [Tm.enc, encL_eq]
theorem map_get {l : List Tm} {i : Nat} {op n : Int} {k : List Tm} (h : l[i]? = some (.mk op n k)) : (l.map Tm.enc)[i]? = some (.agg [.int .i64 op, .int .i64 n, .sl (k.map Tm.enc)]) := by
  rw [List.getElem?_map, h, Option.map_some, enc_mk]
theorem at_pre {α : Type} {l pre rest : List α} {a : α} (h : l = pre ++ a :: rest) : l[pre.length]? = some a := by
  rw [h, List.getElem?_append_right (Nat.le_refl _), Nat.sub_self]; rfl
theorem agg3 (a b c : FV) : (FV.agg [a, b, c]).cells = [a, b, c] := rfl
theorem agg3l (a b c : FV) : (FV.agg [a, b, c]).cells.length = 3 := rfl
end Idl
end Go.Proofs.Ytdibmackcbpniaa

namespace Go.Proofs.Ytdibmackcbpniaa
namespace Idl
section
variable {β : Type} {E : Env}
inductive Plain2 : IV → List FV → Prop
  | clip (es : List FV) : Plain2 (.clip es) es
  | sl (es : List FV) : Plain2 (.fv (.sl es)) es
  | app (r : Ref) (es : List FV) : Plain2 (.app r es) es
theorem p2_frz {x : IV} {es : List FV} (h : Plain2 x es) : frz 4096 x = .ret (.sl es, []) := by cases h <;> rfl
structure SliceT (E : Env) (t : TypeId) (size : Nat) : Prop where
  h : ∃ a b e z ei, E.T t = some ⟨a, b, .slice e, z⟩ ∧ E.T e = some ei ∧ ei.size = size ∧ size ≠ 0 ∧ ei.bytes ≤ 100000
end
end Idl
end Go.Proofs.Ytdibmackcbpniaa

namespace Go.Proofs.Ytdibmackcbpniaa
namespace Idl
theorem tTms : EE.T 28 = some ⟨1, 24, .slice 30, [.nils]⟩ := by kernel_rfl
theorem tTm : EE.T 30 = some ⟨3, 40, .struct [(0, 3), (1, 3), (2, 28)], [.fv (.int .i64 0), .fv (.int .i64 0), .nils]⟩ := by kernel_rfl
theorem sTm : SliceT EE 28 3 := ⟨_, _, _, _, _, tTms, tTm, rfl, by decide, by decide⟩
theorem bs2_tm (a b : Tm) (s : Nat) (h : Hp) (k : IV → Hp → List Ref → List Ref → Option (IV × Hp)) : genS (pcBuildSlice EE 28 2 [(0, .fv a.enc), (1, .fv b.enc)]) s h k = k (.clip [a.enc, b.enc]) h [] [] := by
  obtain ⟨o1, n1, k1⟩ := a
  obtain ⟨o2, n2, k2⟩ := b
  exact bs_tm tTms tTm (by decide) (cells := [.int .i64 o1, .int .i64 n1, .sl (Tm.enc.encL k1), .int .i64 o2, .int .i64 n2, .sl (Tm.enc.encL k2)]) rfl k
theorem enc_len (a : Tm) : a.enc.cells.length = 3 := by cases a; rfl
theorem head_tm (l : List Tm) : headOk 3 (l.map Tm.enc) = true := by
  cases l with
  | nil => rfl
  | cons a l => simp only [List.map_cons, headOk, enc_len, beq_self_eq_true]
theorem emod_w {x m : Int} (h1 : 0 < m) (h2 : m ≤ 4611686018427387904) : (if x.tmod m < 0 then w64 (x.tmod m + m) else x.tmod m) = x % m := by
  have a1 := Int.emod_nonneg x (show m ≠ 0 by omega)
  have a2 := Int.emod_lt_of_pos x h1
  have e1 : x.tmod m = x - m * x.tdiv m := by have := Int.mul_tdiv_add_tmod x m; omega
  have e2 : x % m = x - m * (x / m) := by have := Int.mul_ediv_add_emod x m; omega
  have b1 : -m < x.tmod m := Int.lt_tmod_of_pos x h1
  have b2 : x.tmod m < m := Int.tmod_lt_of_pos x h1
  have key : ∃ q, x.tmod m = x % m + m * q := ⟨x / m - x.tdiv m, by rw [e1, e2, Int.mul_sub]; omega⟩
  obtain ⟨q, hq⟩ := key
  have hq2 : q = 0 ∨ q = -1 := by
    rcases Int.lt_trichotomy q 0 with h | h | h
    · right
      rcases Int.lt_trichotomy q (-1) with h' | h' | h'
      · have : m * q ≤ m * (-2) := Int.mul_le_mul_of_nonneg_left (by omega) (by omega)
        omega
      · exact h'
      · omega
    · exact .inl h
    · have : m * 1 ≤ m * q := Int.mul_le_mul_of_nonneg_left (by omega) (by omega)
      omega
  rcases hq2 with rfl | rfl
  · rw [if_neg (by omega)]; omega
  · rw [if_pos (by omega), w64_id (by omega) (by omega)]; omega
theorem within4_ok {n : Nat} (hn : 0 < n) (x : Int) {m : Int} (h1 : 0 < m) (h2 : m ≤ 4611686018427387904) : Ans (SS dt n 41 [iv x, iv m] ⟨[], []⟩) (.int .i64 (x % m)) := by
  obtain ⟨n, rfl⟩ := Nat.exists_eq_add_of_lt hn
  rw [Nat.zero_add, c41]
  simp only [S41, ↓XX, ↓reduceIte, Nat.reduceBEq, decide_true, decide_false, Bool.not_true, Bool.not_false, List.map_cons, List.map_nil, List.length_map, List.length_cons, List.length_nil, Nat.reduceAdd, Int.cast_ofNat_Int, Int.natCast_zero, Int.natCast_one, Bool.false_eq_true, Bool.true_eq_false, decide_eq_true_eq, eq_self, Int.reduceEq, Int.reduceLT, Int.reduceLE, Bool.and_true, Bool.true_and, Bool.and_false, Bool.false_and, Nat.zero_add, ↓rem_s (show m ≠ 0 by omega)]
  rw [← emod_w h1 h2]
  by_cases hc : x.tmod m < 0 <;> simp only [hc, if_true, if_false] <;> exact ans_fv _ _
theorem t0_ok {n : Nat} (hn : 0 < n) (op : Int) : Ans (SS dt n 30 [iv op, .fv (.sl [])] ⟨[], []⟩) (Tm.mk op 0 []).enc := by
  obtain ⟨n, rfl⟩ := Nat.exists_eq_add_of_lt hn
  rw [Nat.zero_add, c30]
  simp only [S30, ↓XX, ↓reduceIte, Nat.reduceBEq, decide_true, decide_false, Bool.not_true, Bool.not_false, List.map_cons, List.map_nil, List.length_map, List.length_cons, List.length_nil, Nat.reduceAdd, Int.cast_ofNat_Int, Int.natCast_zero, Int.natCast_one, Bool.false_eq_true, Bool.true_eq_false, decide_eq_true_eq, eq_self, Int.reduceEq, Int.reduceLT, Int.reduceLE, Bool.and_true, Bool.true_and, Bool.and_false, Bool.false_and, Nat.zero_add]
  exact ans_fv _ _
theorem t_ok {n : Nat} (hn : 0 < n) (op : Int) (l : List Tm) : Ans (SS dt n 30 [iv op, .fv (.sl (l.map Tm.enc))] ⟨[], []⟩) (Tm.mk op 0 l).enc := by
  obtain ⟨n, rfl⟩ := Nat.exists_eq_add_of_lt hn
  rw [Nat.zero_add, c30]
  simp only [S30, ↓XX, ↓reduceIte, Nat.reduceBEq, decide_true, decide_false, Bool.not_true, Bool.not_false, List.map_cons, List.map_nil, List.length_map, List.length_cons, List.length_nil, Nat.reduceAdd, Int.cast_ofNat_Int, Int.natCast_zero, Int.natCast_one, Bool.false_eq_true, Bool.true_eq_false, decide_eq_true_eq, eq_self, Int.reduceEq, Int.reduceLT, Int.reduceLE, Bool.and_true, Bool.true_and, Bool.and_false, Bool.false_and, Nat.zero_add, enc_mk]
  exact ans_fv _ _
def Tm.kids : Tm → List Tm
  | .mk _ _ l => l
def Tm.op : Tm → Int
  | .mk o _ _ => o
def Tm.n : Tm → Int
  | .mk _ n _ => n
def Tm.pick (r : Tm) (i : Nat) : Tm := match r.kids[i]? with
  | some k => k
  | none => .mk (w64 (w64 (r.op.tdiv 3) + i)) (w64 (w64 (r.n.tdiv 5) + w64 (7 * i))) []
theorem pick_ok {n : Nat} (hn : 0 < n) (r : Tm) (i : Nat) : Ans (SS dt n 42 [.fv r.enc, iv i] ⟨[], []⟩) (r.pick i).enc := by
  obtain ⟨n, rfl⟩ := Nat.exists_eq_add_of_lt hn
  rw [Nat.zero_add, c42]
  obtain ⟨op, m, ks⟩ := r
  rw [enc_mk]
  simp only [Tm.pick, Tm.kids, Tm.op, Tm.n]
  cases hk : ks[i]? with
  | some k =>
    have hi : (i : Int) < ks.length := by have := (List.getElem?_eq_some_iff.1 hk).1; omega
    obtain ⟨o, p, l⟩ := k
    simp only [S42_42, S42_43, S42_44, S42_45, S42, ↓XX, ↓reduceIte, Nat.reduceBEq, decide_true, decide_false, Bool.not_true, Bool.not_false, List.map_cons, List.map_nil, List.length_map, List.length_cons, List.length_nil, Nat.reduceAdd, Int.cast_ofNat_Int, Int.natCast_zero, Int.natCast_one, Bool.false_eq_true, Bool.true_eq_false, decide_eq_true_eq, eq_self, Int.reduceEq, Int.reduceLT, Int.reduceLE, Bool.and_true, Bool.true_and, Bool.and_false, Bool.false_and, Nat.zero_add, hi, ↓ix_f (map_get hk) (agg3l _ _ _), ↓agg3, enc_mk]
    exact ans_fv _ _
  | none =>
    have hi : ¬ (i : Int) < ks.length := by have := List.getElem?_eq_none_iff.1 hk; omega
    simp only [S42_42, S42_43, S42_44, S42_45, S42, ↓XX, ↓reduceIte, Nat.reduceBEq, decide_true, decide_false, Bool.not_true, Bool.not_false, List.map_cons, List.map_nil, List.length_map, List.length_cons, List.length_nil, Nat.reduceAdd, Int.cast_ofNat_Int, Int.natCast_zero, Int.natCast_one, Bool.false_eq_true, Bool.true_eq_false, decide_eq_true_eq, eq_self, Int.reduceEq, Int.reduceLT, Int.reduceLE, Bool.and_true, Bool.true_and, Bool.and_false, Bool.false_and, Nat.zero_add, hi, ↓quo_s (show (3 : Int) ≠ 0 by decide), ↓quo_s (show (5 : Int) ≠ 0 by decide)]
    exact ans_p rfl _
end Idl
end Go.Proofs.Ytdibmackcbpniaa

namespace Go.Proofs.Ytdibmackcbpniaa
namespace Idl
section
variable {β : Type}
end
section
variable (s j : Nat)
end
end Idl
end Go.Proofs.Ytdibmackcbpniaa

namespace Go.Proofs.Ytdibmackcbpniaa
namespace Idl
def bindN (op : Int) (i : Nat) : Nat :=
  if op = 3 ∨ op = 4 ∨ op = 6 ∨ op = 20 ∨ op = 28 ∨ op = 29 then (if i = 1 then 1 else 0) else if op = 13 then (if i = 0 then 1 else if i = 2 then 2 else 0) else 0
mutual
def Tm.shift : Tm → Int → Int → Tm
  | .mk op n ks, d, c => .mk op (if op = 1 ∧ c ≤ n then w64 (n + d) else n) (Tm.shiftL op 0 ks d c)
def Tm.shiftL : Int → Nat → List Tm → Int → Int → List Tm
  | _, _, [], _, _ => []
  | op, i, t :: l, d, c => t.shift d (c + bindN op i) :: Tm.shiftL op (i + 1) l d c
end
end Idl
end Go.Proofs.Ytdibmackcbpniaa

namespace Go.Proofs.Ytdibmackcbpniaa
namespace Idl
mutual
def Tm.subst : Tm → Int → Int → Tm → Tm
  | .mk op m ks, n, d, u => if op = 1 then (if m = n then u.shift d 0 else if n < m then .mk 1 (w64 (m - 1)) [] else .mk op m ks) else .mk op m (Tm.substL op 0 ks n d u)
def Tm.substL : Int → Nat → List Tm → Int → Int → Tm → List Tm
  | _, _, [], _, _, _ => []
  | op, i, t :: l, n, d, u => t.subst (n + bindN op i) (d + bindN op i) u :: Tm.substL op (i + 1) l n d u
end
end Idl
end Go.Proofs.Ytdibmackcbpniaa

namespace Go.Proofs.Ytdibmackcbpniaa
namespace Idl
def AnsV (r : Option (IV × Hp)) (v : FV) : Prop := ∃ own, r = some (.fv v, ⟨own, []⟩)
theorem ansv {v : FV} {own : List (Nat × Blk)} : AnsV (some (.fv v, ⟨own, []⟩)) v := ⟨own, rfl⟩
theorem bs0_tm' (s : Nat) (h : Hp) (k : IV → Hp → List Ref → List Ref → Option (IV × Hp)) : genS (pcBuildSlice EE 28 0 []) s h k = k (.clip []) h [] [] := bs_tm tTms tTm (by decide) (cells := []) rfl k
end Idl
end Go.Proofs.Ytdibmackcbpniaa

namespace Go.Proofs.Ytdibmackcbpniaa
namespace Idl
section
variable {β : Type} {E : Env}
structure OneX (ext ext' : List Blk) : Prop where
  g : goB 400 [.ext 0] 0 ext = true
  l : ext.length = 1
  l' : ext'.length = 1
  o : okB 1 ext' = true
end
end Idl
end Go.Proofs.Ytdibmackcbpniaa

namespace Go.Proofs.Ytdibmackcbpniaa
namespace Idl
end Idl
end Go.Proofs.Ytdibmackcbpniaa

namespace Go.Proofs.Ytdibmackcbpniaa
namespace Idl
section
variable {β : Type}
structure ExtX (ext ext' : List Blk) : Prop where
  g : goB 400 [.ext 0] 0 ext = true
  l : ext'.length = ext.length
  o : okB ext.length ext' = true
theorem fzl_fv (d : Nat) (h : Hp) (lg : List Ref) (e : Option β) : ∀ (l : List FV) (k : List FV → List (Ref × Blk) → List Ref → Option β), fzLK (fzU (d + 1)) (l.map .fv) h lg e k = k l [] lg
  | [], k => rfl
  | v :: l, k => by
    show (fzU (d + 1) (.fv v) h lg e fun y u lg => fzLK (fzU (d + 1)) (l.map .fv) h lg e fun ys us lg => apK u us fun w => k (y :: ys) w lg) = _
    show (fzLK (fzU (d + 1)) (l.map .fv) h lg e fun ys us lg => apK [] us fun w => k (v :: ys) w lg) = _
    rw [fzl_fv d h lg e l]
    rfl
end
end Idl
end Go.Proofs.Ytdibmackcbpniaa

namespace Go.Proofs.Ytdibmackcbpniaa
namespace Idl
def cellsF : List Tm → List FV
  | [] => []
  | .mk o n k :: l => .int .i64 o :: .int .i64 n :: .sl (k.map Tm.enc) :: cellsF l
def zeroT : Nat → List IV
  | 0 => []
  | n + 1 => iv 0 :: iv 0 :: .nils :: zeroT n
def cellsT (ts : List Tm) (r : Nat) : List IV := (cellsF ts).map .fv ++ zeroT r
theorem cellsF_len (ts : List Tm) : (cellsF ts).length = 3 * ts.length := by
  induction ts with
  | nil => rfl
  | cons t l ih => obtain ⟨o, n, k⟩ := t; simp only [cellsF, List.length_cons, ih]; omega
theorem setFK_app {β : Type} : ∀ (A : List IV) (x y z : IV) (B : List IV) (a b c : FV) (k : List IV → Option β), setFK (A ++ x :: y :: z :: B) A.length [a, b, c] k = k (A ++ .fv a :: .fv b :: .fv c :: B)
  | [], x, y, z, B, a, b, c, k => rfl
  | w :: A, x, y, z, B, a, b, c, k => by
    show setFK (A ++ x :: y :: z :: B) A.length [a, b, c] (fun t => k (w :: t)) = _
    rw [setFK_app A]
    rfl
theorem chk3 {β : Type} : ∀ (ts : List Tm) (k : List FV → Option β), chK 3 ts.length (cellsF ts) k = k (ts.map Tm.enc)
  | [], k => rfl
  | .mk o n ks :: l, k => by
    show (takK (cellsF (.mk o n ks :: l)) 3 fun a => drpK (cellsF (.mk o n ks :: l)) 3 fun b => elK2 a fun x => chK 3 l.length b fun xs => k (x :: xs)) = _
    rw [cellsF, t3, d3]
    show (chK 3 l.length (cellsF l) fun xs => k (.agg [.int .i64 o, .int .i64 n, .sl (ks.map Tm.enc)] :: xs)) = _
    rw [chk3 l, List.map_cons, enc_mk]
theorem ix_sl3 {β : Type} {n i : Nat} (h : i < n) (r : Ref) (k : IV → Option β) : ixS 3 (.slc r 3 n) (iv i) k = k (.ptr r (i * 3)) := by
  have e1 : Nat.ble (Nat.succ i) n = true := by rw [ble_dec]; exact decide_eq_true h
  show (cond (and (Nat.ble (Nat.succ i) n) (Nat.beq 3 3)) (fNat (i * 3) fun o => k (.ptr r o)) none) = _
  rw [e1]
  simp only [fNat_eq]
  rfl
theorem fz_slc3 {s d : Nat} {ts : List Tm} {ro : Bool} {own : List (Nat × Blk)} {ext : List Blk} (hl : lookupOwn s own = some (.row (cellsT ts 0) ro)) (hn : ts.length ≤ 100) (lg : List Ref) (e : Option (IV × Hp))
    (k : FV → List (Ref × Blk) → List Ref → Option (IV × Hp)) : fzU (d + 2) (.slc (.own s) 3 ts.length) ⟨own, ext⟩ lg e k = k (.sl (ts.map Tm.enc)) [(.own s, .row (cellsT ts 0) true)] (.own s :: lg) := by
  have hlen : (cellsT ts 0).length = 3 * ts.length := by simp [cellsT, zeroT, cellsF_len]
  show (getK (.own s) ⟨own, ext⟩ fun b => asRow b fun cells => cond (Nat.ble cells.length 300) (cond (or (Nat.beq 3 0) (not (Nat.ble (ts.length * 3) cells.length))) none
    (fzLK (fzU (d + 1)) cells ⟨own, ext⟩ (.own s :: lg) e fun cs u lg => chK 3 ts.length cs fun els => k (.sl els) ((.own s, .row cells true) :: u) lg)) e) = _
  rw [g_own, ownK_eq, hl]
  simp only [Option.bind_some, as_row]
  rw [hlen, ble_dec, decide_eq_true (by omega), c_t, ble_dec, decide_eq_true (by omega)]
  simp only [Bool.not_true]
  show (fzLK (fzU (d + 1)) (cellsT ts 0) ⟨own, ext⟩ (.own s :: lg) e fun cs u lg => chK 3 ts.length cs fun els => k (.sl els) ((.own s, .row (cellsT ts 0) true) :: u) lg) = _
  rw [show cellsT ts 0 = (cellsF ts).map .fv by simp [cellsT, zeroT], fzl_fv, chk3]
theorem fz_tm {s : Nat} {ts : List Tm} {ro : Bool} {a b : FV} {own : List (Nat × Blk)} {ext : List Blk} (hl : lookupOwn s own = some (.row (cellsT ts 0) ro)) (hn : ts.length ≤ 100) (lg : List Ref) (e : Option (IV × Hp))
    (k : FV → List (Ref × Blk) → List Ref → Option (IV × Hp)) : fzU 12 (.agg [.fv a, .fv b, .slc (.own s) 3 ts.length]) ⟨own, ext⟩ lg e k = k (.agg [a, b, .sl (ts.map Tm.enc)]) [(.own s, .row (cellsT ts 0) true)] (.own s :: lg) := by
  rw [fu_agg, show Nat.ble [IV.fv a, .fv b, .slc (.own s) 3 ts.length].length 300 = true from rfl, c_t, fl1, fv_fv, fl1, fv_fv, fl1, fz_slc3 (d := 9) hl hn, fl0]
  rfl
theorem ansf_fv (w : FV) (own : List (Nat × Blk)) : AnsF (some (.fv w, ⟨own, []⟩)) w := ⟨_, own, rfl, fz_fv w own⟩
theorem ansf {r : Option (IV × Hp)} {w : FV} (h : AnsF r w) : Ans r w := by
  obtain ⟨v, own, e, hz⟩ := h
  exact ⟨v, own, e, .inl hz⟩
end Idl
end Go.Proofs.Ytdibmackcbpniaa

namespace Go.Proofs.Ytdibmackcbpniaa
namespace Idl
theorem tsize_ok : ∀ (n : Nat) (t : Tm), t.wt < n → t.wt ≤ 1152921504606846976 → Ans (SS dt n 24 [.fv t.enc] ⟨[], []⟩) (.int .i64 t.wt) := by
  intro n
  induction n with
  | zero => intro t h; omega
  | succ n ih =>
    intro t h hw
    obtain ⟨op, m, ks⟩ := t
    simp only [Tm.wt] at h hw ⊢
    rw [c24, enc_mk]
    have hlen := wt_len ks
    simp only [S24_32, S24_33, S24_34, S24, ↓XX, ↓reduceIte, Nat.reduceBEq, decide_true, decide_false, Bool.not_true, Bool.not_false, List.map_cons, List.map_nil, List.length_map, List.length_cons, List.length_nil, Nat.reduceAdd, Int.cast_ofNat_Int, Int.natCast_zero, Int.natCast_one, Bool.false_eq_true, Bool.true_eq_false, decide_eq_true_eq, eq_self, Int.reduceEq, Int.reduceLT, Int.reduceLE, Bool.and_true, Bool.true_and, Bool.and_false, Bool.false_and, Nat.zero_add]
    refine loop_run (Q := fun r => Ans r _) (fun k V H => ∃ (pre rest : List Tm) (acc : Nat), ks = pre ++ rest ∧ rest.length = k ∧ V = [.ptr (.own 25165824) 0, iv acc, iv pre.length] ∧ H = ⟨[(25165824, .row [iv op, iv m, .fv (.sl (ks.map Tm.enc))] false)], []⟩ ∧ acc + Tm.wtL rest = 1 + Tm.wtL ks)
      ?_ n ks.length _ _ (by omega) ⟨[], ks, 1, rfl, rfl, rfl, rfl, rfl⟩
    rintro k V H rec ⟨pre, rest, acc, hk, hl, rfl, rfl, ht⟩ hrec
    have hkl : ks.length = pre.length + rest.length := by rw [hk]; simp
    cases rest with
    | nil =>
      have hno : ¬ ((pre.length : Int) < ks.length) := by rw [hkl]; simp
      simp only [Tm.wtL] at ht
      rw [← ht]
      simp only [S24_32, S24_33, S24_34, S24_35, S24, ↓XX, ↓reduceIte, Nat.reduceBEq, decide_true, decide_false, Bool.not_true, Bool.not_false, List.map_cons, List.map_nil, List.length_map, List.length_cons, List.length_nil, Nat.reduceAdd, Int.cast_ofNat_Int, Int.natCast_zero, Int.natCast_one, Bool.false_eq_true, Bool.true_eq_false, decide_eq_true_eq, eq_self, Int.reduceEq, Int.reduceLT, Int.reduceLE, Bool.and_true, Bool.true_and, Bool.and_false, Bool.false_and, Nat.zero_add, hno]
      exact ans_fv _ _
    | cons t rest =>
      have hi : (pre.length : Int) < ks.length := by rw [hkl]; simp; omega
      have hg := at_pre hk
      have htw := wt_mem (t := t) (l := ks) (by rw [hk]; simp)
      have hs := ih t (by omega) (by omega)
      simp only [Tm.wtL] at ht
      have hwi : w64 ((pre.length : Int) + 1) = ((pre ++ [t]).length : Int) := (w64_id (by omega) (by omega)).trans (by simp)
      have hwa : w64 ((acc : Int) + (t.wt : Int)) = ((acc + t.wt : Nat) : Int) := (w64_id (by omega) (by omega)).trans (by simp)
      have h9 := hrec rest.length ([.ptr (.own 25165824) 0, iv (acc + t.wt : Nat), iv (pre ++ [t]).length]) _ (by simp only [List.length_cons] at hl; omega) ⟨pre ++ [t], rest, acc + t.wt, by rw [hk]; simp, rfl, rfl, rfl, by omega⟩
      generalize t.wt = v at hs hwa h9
      obtain ⟨o, p, l⟩ := t
      rw [enc_mk] at hs
      simp only [S24_32, S24_33, S24_34, S24_35, S24, ↓XX, ↓reduceIte, Nat.reduceBEq, decide_true, decide_false, Bool.not_true, Bool.not_false, List.map_cons, List.map_nil, List.length_map, List.length_cons, List.length_nil, Nat.reduceAdd, Int.cast_ofNat_Int, Int.natCast_zero, Int.natCast_one, Bool.false_eq_true, Bool.true_eq_false, decide_eq_true_eq, eq_self, Int.reduceEq, Int.reduceLT, Int.reduceLE, Bool.and_true, Bool.true_and, Bool.and_false, Bool.false_and, Nat.zero_add, hi, ↓ix_f (map_get hg) (agg3l _ _ _), ↓agg3, ↓iso_1 hs, hwi, hwa]
      exact h9
end Idl
end Go.Proofs.Ytdibmackcbpniaa

namespace Go.Proofs.Ytdibmackcbpniaa
namespace Idl
end Idl
end Go.Proofs.Ytdibmackcbpniaa

namespace Go.Proofs.Ytdibmackcbpniaa
namespace Idl
def kidsN (op : Int) : Int := if op < 0 then -1 else ([-1, 0, 0, 2, 2, 2, 2, 3, 1, 1, 0, 0, 1, 4, 0, 0, 2, 2, 1, 1, 2, 2, 2, 1, 1, 0, 2, 3, 2, 2, 1] : List Int).getD op.toNat (-1)
theorem op_cases (op : Int) : (0 ≤ op ∧ op ≤ 30) ∨ op < 0 ∨ 30 < op := by omega
theorem kidsN_out {op : Int} (h : op < 0 ∨ 30 < op) : kidsN op = -1 := by
  unfold kidsN
  split
  · rfl
  · rw [List.getD_eq_getElem?_getD, List.getElem?_eq_none (by simp; omega)]; rfl
theorem op_in {P : Int → Prop} (h : ∀ k : Nat, k < 31 → P k) {op : Int} (h1 : 0 ≤ op ∧ op ≤ 30) : P op := by
  have := h op.toNat (by omega)
  rwa [Int.toNat_of_nonneg h1.1] at this
end Idl
end Go.Proofs.Ytdibmackcbpniaa

namespace Go.Proofs.Ytdibmackcbpniaa
namespace Idl
theorem kidsN_le (op : Int) : kidsN op ≤ 4 := by
  rcases op_cases op with h | h
  · exact op_in (P := fun op => kidsN op ≤ 4) (by intro k hk; have : ∀ k : Fin 31, kidsN (k.val : Int) ≤ 4 := by decide
                                                  exact this ⟨k, hk⟩) h
  · rw [kidsN_out h]; omega
end Idl
end Go.Proofs.Ytdibmackcbpniaa

namespace Go.Proofs.Ytdibmackcbpniaa
namespace Idl
def Tm.typed : Tm → Bool
  | .mk op _ [] => decide (op = 15)
  | .mk op _ [a, b] => (decide (op = 16) || decide (op = 17)) && (a.typed && b.typed)
  | _ => false
theorem typed1 (op m : Int) (a : Tm) : (Tm.mk op m [a]).typed = false := by rw [Tm.typed] <;> simp
theorem typed3 (op m : Int) (a b c : Tm) (l : List Tm) : (Tm.mk op m (a :: b :: c :: l)).typed = false := by rw [Tm.typed] <;> simp
end Idl
end Go.Proofs.Ytdibmackcbpniaa

namespace Go.Proofs.Ytdibmackcbpniaa
namespace Idl
inductive RV where
  | mk (op n : Int) (k env : List RV) (b : Tm)
def Tm.z : Tm := .mk 0 0 []
def RV.enc : RV → FV
  | .mk op n k env (.mk bo bn bk) => .fp [.int .i64 op, .int .i64 n, .sl (encL k), .sl (encL env), .int .i64 bo, .int .i64 bn, .sl (bk.map Tm.enc)] 0
where
  encL : List RV → List FV
    | [] => []
    | v :: l => v.enc :: encL l
def RV.op : RV → Int
  | .mk op _ _ _ _ => op
def RV.n : RV → Int
  | .mk _ n _ _ _ => n
def RV.k : RV → List RV
  | .mk _ _ k _ _ => k
def RV.b : RV → Tm
  | .mk _ _ _ _ b => b
def RV.zero : RV := .mk 11 0 [] [] .z
end Idl
end Go.Proofs.Ytdibmackcbpniaa

namespace Go.Proofs.Ytdibmackcbpniaa
namespace Idl
mutual
def Tm.shp : Tm → Prop
  | .mk op n l => (l.length : Int) = kidsN op ∧ (op = 1 → 0 ≤ n) ∧ Tm.shpL l
def Tm.shpL : List Tm → Prop
  | [] => True
  | t :: l => t.shp ∧ Tm.shpL l
end
theorem typed_op {t : Tm} (h : t.typed = true) : (t.op = 15 ∧ t.kids = []) ∨ ((t.op = 16 ∨ t.op = 17) ∧ ∃ a b, t.kids = [a, b] ∧ a.typed = true ∧ b.typed = true) := by
  obtain ⟨op, m, l⟩ := t
  match l, h with
  | [], h => exact .inl ⟨by simpa [Tm.typed, Tm.op] using h, rfl⟩
  | [_], h => rw [typed1] at h; cases h
  | x :: y :: z :: l, h => rw [typed3] at h; cases h
  | [a, b], h =>
    simp only [Tm.typed, Bool.and_eq_true, Bool.or_eq_true, decide_eq_true_eq] at h
    exact .inr ⟨h.1, a, b, rfl, h.2.1, h.2.2⟩
theorem len0 {l : List Tm} (h : (l.length : Int) = 0) : l = [] := List.eq_nil_of_length_eq_zero (by omega)
theorem len2 {l : List Tm} (h : (l.length : Int) = 2) : ∃ a b, l = [a, b] := by
  match l, h with
  | [a, b], _ => exact ⟨a, b, rfl⟩
  | [], h => simp at h
  | [_], h => simp at h
  | a :: b :: c :: l, h => simp only [List.length_cons] at h; omega
mutual
theorem typed_shp : ∀ (t : Tm), t.typed = true → t.shp
  | .mk op m [], h => by
    have h1 : op = 15 := by simpa [Tm.typed] using h
    subst h1
    rw [Tm.shp]
    exact ⟨rfl, (fun h => by cases h), trivial⟩
  | .mk op m [_], h => by rw [typed1] at h; cases h
  | .mk op m (_ :: _ :: _ :: _), h => by rw [typed3] at h; cases h
  | .mk op m [a, b], h => by
    simp only [Tm.typed, Bool.and_eq_true, Bool.or_eq_true, decide_eq_true_eq] at h
    rw [Tm.shp]
    exact ⟨(by rcases h.1 with rfl | rfl <;> rfl), (fun h1 => by omega), typed_shp a h.2.1, typed_shp b h.2.2, trivial⟩
end
end Idl
end Go.Proofs.Ytdibmackcbpniaa

namespace Go.Proofs.Ytdibmackcbpniaa
namespace Idl
section
variable {β : Type} {E : Env}
theorem app_row {t : TypeId} {size : Nat} (T : SliceT E t size) {x : IV} {es2 : List FV} (hx : Plain2 x es2) (h1 : headOk size es2 = true) (hne : es2.isEmpty = false) (hb : es2.length ≤ 1000000) (s : Nat) (own : List (Nat × Blk)) (ext : List Blk)
    (k : IV → Hp → List Ref → List Ref → Option β) : genS (builtinR E s true .append [t, t] [.clip [], x]) s ⟨own, ext⟩ k = freshK own s (putOwnK own s (.row ((es2.flatMap FV.cells).map .fv) false) fun own => k (.slc (.own s) size es2.length) ⟨own, ext⟩ [] [.own s]) := by
  obtain ⟨a, b, e, z, ei, hT, he, rfl, h0, hby⟩ := T.h
  have hlen : ¬ (headOk ei.size [] = false ∨ (([] : List FV).length + es2.length) * ei.bytes > 140737488355328 ∨ ([] : List FV).length + es2.length > 1073741824) := by
    have : es2.length * ei.bytes ≤ 1000000 * 100000 := Nat.mul_le_mul hb hby
    rintro (h | h | h)
    · cases h
    · simp only [List.length_nil, Nat.zero_add] at h; omega
    · simp only [List.length_nil, Nat.zero_add] at h; omega
  have key : builtinR E s true .append [t, t] [.clip [], x] = .ret { eff := { val := .slc (.own s) ei.size es2.length, upd := [] }, new := some (.row ((es2.flatMap FV.cells).map .fv) false) } := by
    show appendR E s t (some t) true (.clip []) x = _
    simp only [appendR, hT, Option.bind_some, he, p2_frz hx, Rd.bind, h0, h1, false_or, Bool.true_eq_false, if_false]
    simp only [elemsOf, if_neg hlen, hne, List.nil_append, Bool.false_eq_true, if_false, if_true]
  rw [key]
  unfold genS
  simp only [Rd.runLog]
  show (newK (some (.row ((es2.flatMap FV.cells).map .fv) false)) s ⟨own, ext⟩ fun h => fV 3 (.slc (.own s) ei.size es2.length) fun v => k v h [] ([] ++ [.own s])) = _
  simp only [newK, fBk_eq, fV_eq]
  rfl
theorem app_re {t : TypeId} {size : Nat} (T : SliceT E t size) {x : IV} (hx : Plain2 x []) (s : Nat) (h : Hp) (k : IV → Hp → List Ref → List Ref → Option β) :
    genS (builtinR E s true .append [t, t] [.clip [], x]) s h k = k (.clip []) h [] [] := by
  obtain ⟨a, b, e, z, ei, hT, he, rfl, h0, hby⟩ := T.h
  have hlen : ¬ (headOk ei.size [] = false ∨ (([] : List FV).length + ([] : List FV).length) * ei.bytes > 140737488355328 ∨ ([] : List FV).length + ([] : List FV).length > 1073741824) := by
    rintro (h | h | h)
    · cases h
    · simp at h
    · simp at h
  have key : builtinR E s true .append [t, t] [.clip [], x] = .ret { eff := { val := .clip [], upd := [] } } := by
    show appendR E s t (some t) true (.clip []) x = _
    have h1 : headOk ei.size [] = true := rfl
    simp only [appendR, hT, Option.bind_some, he, p2_frz hx, Rd.bind, h0, h1, false_or, Bool.true_eq_false, if_false]
    simp only [elemsOf]
    rw [if_neg hlen]
    simp
  rw [key]
  exact gen_val _ s h k
end
end Idl
end Go.Proofs.Ytdibmackcbpniaa

namespace Go.Proofs.Ytdibmackcbpniaa
namespace Idl
mutual
def Tm.swapM : Tm → Int → Tm → Tm
  | .mk op n l, at_, u => if at_ = 0 then u else .mk op n (Tm.swapL l (at_ - 1) u)
def Tm.swapL : List Tm → Int → Tm → List Tm
  | [], _, _ => []
  | t :: l, at_, u => (if 0 ≤ at_ ∧ at_ < t.wt then t.swapM at_ u else t) :: Tm.swapL l (at_ - t.wt) u
end
theorem cellsF_cat (a b : List Tm) : cellsF (a ++ b) = cellsF a ++ cellsF b := by
  induction a with
  | nil => rfl
  | cons x a ih => obtain ⟨o, n, k⟩ := x; simp only [List.cons_append, cellsF, ih]
theorem cells_flat (ks : List Tm) : (ks.map Tm.enc).flatMap FV.cells = cellsF ks := by
  induction ks with
  | nil => rfl
  | cons x l ih => obtain ⟨o, n, k⟩ := x; rw [List.map_cons, List.flatMap_cons, ih, enc_mk]; rfl
theorem set_m {β : Type} (pre rest : List Tm) (x : Tm) (o n : Int) (ks : List FV) (y : Tm) (hy : y.enc = .agg [.int .i64 o, .int .i64 n, .sl ks]) (k : List IV → Option β) :
    setFK ((cellsF (pre ++ x :: rest)).map .fv) (pre.length * 3) [.int .i64 o, .int .i64 n, .sl ks] k = k ((cellsF (pre ++ y :: rest)).map .fv) := by
  obtain ⟨ox, nx, kx⟩ := x
  obtain ⟨oy, ny, ky⟩ := y
  rw [enc_mk] at hy
  simp only [FV.agg.injEq, List.cons.injEq, FV.int.injEq, true_and, FV.sl.injEq, and_true] at hy
  obtain ⟨rfl, rfl, rfl⟩ := hy
  have h := setFK_app (β := β) ((cellsF pre).map .fv) (.fv (.int .i64 ox)) (.fv (.int .i64 nx)) (.fv (.sl (kx.map Tm.enc))) ((cellsF rest).map .fv) (.int .i64 oy) (.int .i64 ny) (.sl (ky.map Tm.enc)) k
  rw [List.length_map, cellsF_len, Nat.mul_comm] at h
  simp only [cellsF_cat, cellsF, List.map_append, List.map_cons]
  exact h
theorem drp_app {β α : Type} : ∀ (A B : List α) (k : List α → Option β), drpK (A ++ B) A.length k = k B
  | [], B, k => d0 B k
  | a :: A, B, k => by
    show drpK (A ++ B) A.length k = _
    exact drp_app A B k
theorem drp_m {β : Type} (pre rest : List Tm) (o n : Int) (ks : List Tm) (k : List IV → Option β) : drpK ((cellsF (pre ++ .mk o n ks :: rest)).map IV.fv) (pre.length * 3) k = k (iv o :: iv n :: .fv (.sl (ks.map Tm.enc)) :: (cellsF rest).map .fv) := by
  have h := drp_app ((cellsF pre).map IV.fv) (iv o :: iv n :: .fv (.sl (ks.map Tm.enc)) :: (cellsF rest).map .fv) k
  rw [List.length_map, cellsF_len, Nat.mul_comm] at h
  simp only [cellsF_cat, cellsF, List.map_append, List.map_cons]
  exact h
theorem len_slc {β : Type} (r : Ref) (s n : Nat) (k : IV → Option β) : lenS (.slc r s n) k = k (iv n) := by
  show (fNat n fun n => k (.fv (.int .i64 (Int.ofNat n)))) = _
  rw [fNat_eq]
  rfl
noncomputable abbrev Hsw (op m : Int) (ks done : List Tm) (o n : Int) (k : List Tm) : Hp :=
  ⟨[(23068672, .row [iv op, iv m, .fv (.sl (ks.map Tm.enc))] false), (23068673, .row [iv o, iv n, .fv (.sl (k.map Tm.enc))] false), (23068674, .row [iv 0, iv 0, .nils] false),
    (23072775, .row ((cellsF done).map .fv) false), (23072777, .row [iv op, iv m, .slc (.own 23072775) 3 ks.length] false)], []⟩
set_option maxRecDepth 20000 in
set_option maxHeartbeats 2000000 in
theorem swap_ok (u : Tm) : ∀ (n : Nat) (t : Tm) (at_ : Int), 2 * t.wt + 3 < n → t.shp → t.wt ≤ 1000000 → 0 ≤ at_ → at_ ≤ 1000000 → AnsF (SS dt n 22 [.fv t.enc, iv at_, .fv u.enc] ⟨[], []⟩) (t.swapM at_ u).enc := by
  intro n
  induction n using Nat.strongRecOn with
  | ind n ih =>
    intro t at_ hn hs hw h0 h1
    obtain ⟨op, m, ks⟩ := t
    simp only [Tm.wt] at hn hw
    rw [Tm.shp] at hs
    obtain ⟨hk, _, hsl⟩ := hs
    have hk4 := kidsN_le op
    obtain ⟨n, rfl⟩ : ∃ k, n = k + 1 := ⟨n - 1, by omega⟩
    have hlen := wt_len ks
    rw [c22, Tm.swapM]
    by_cases hz : at_ = 0
    · rw [if_pos hz]
      obtain ⟨o, p, k⟩ := u
      simp only [enc_mk]
      simp only [S22_124, S22_125, S22_126, S22_127, S22_128, S22_129, S22_130, S22_131, S22_132, S22_133, S22_135, S22_136, S22_137, S22_138, S22, ↓XX, ↓reduceIte, Nat.reduceBEq, decide_true, decide_false, Bool.not_true, Bool.not_false, List.map_cons, List.map_nil, List.length_map, List.length_cons, List.length_nil, Nat.reduceAdd, Int.cast_ofNat_Int, Int.natCast_zero, Int.natCast_one, Bool.false_eq_true, Bool.true_eq_false, decide_eq_true_eq, eq_self, Int.reduceEq, Int.reduceLT, Int.reduceLE, Bool.and_true, Bool.true_and, Bool.and_false, Bool.false_and, Nat.zero_add, hz]; exact ansf_fv _ _
    rw [if_neg hz]
    have w1 : w64 (at_ - 1) = at_ - 1 := by rw [w64_id] <;> omega
    cases ks with
    | nil =>
      have hre := fun {β : Type} => app_re (β := β) (E := EE) sTm (.sl [])
      obtain ⟨o, p, k⟩ := u
      simp only [Tm.swapL, enc_mk, List.map_nil]
      simp only [S22_124, S22_125, S22_126, S22_127, S22_128, S22_129, S22_130, S22_131, S22_132, S22_133, S22_135, S22_136, S22_137, S22_138, S22, ↓XX, ↓reduceIte, Nat.reduceBEq, decide_true, decide_false, Bool.not_true, Bool.not_false, List.map_cons, List.map_nil, List.length_map, List.length_cons, List.length_nil, Nat.reduceAdd, Int.cast_ofNat_Int, Int.natCast_zero, Int.natCast_one, Bool.false_eq_true, Bool.true_eq_false, decide_eq_true_eq, eq_self, Int.reduceEq, Int.reduceLT, Int.reduceLE, Bool.and_true, Bool.true_and, Bool.and_false, Bool.false_and, Nat.zero_add, hz, w1, ↓bs0_tm', ↓hre]
      refine loop_run (Q := fun r => AnsF r _) (fun k' V H => V = [iv (at_ - 1), .ptr (.own 23068673) 0, .ptr (.own 23068674) 0, .ptr (.own 23072777) 0, iv 0] ∧
        H = ⟨[(23068672, .row [iv op, iv m, .fv (.sl [])] false), (23068673, .row [iv o, iv p, .fv (.sl (k.map Tm.enc))] false), (23068674, .row [iv 0, iv 0, .nils] false), (23072777, .row [iv op, iv m, .clip []] false)], []⟩) ?_ n 0 _ _ (by omega) ⟨rfl, rfl⟩
      rintro k' V H rec ⟨rfl, rfl⟩ hrec
      simp only [S22_124, S22_125, S22_126, S22_127, S22_128, S22_129, S22_130, S22_131, S22_132, S22_133, S22_134, S22_135, S22_136, S22_137, S22_138, S22, ↓XX, ↓reduceIte, Nat.reduceBEq, decide_true, decide_false, Bool.not_true, Bool.not_false, List.map_cons, List.map_nil, List.length_map, List.length_cons, List.length_nil, Nat.reduceAdd, Int.cast_ofNat_Int, Int.natCast_zero, Int.natCast_one, Bool.false_eq_true, Bool.true_eq_false, decide_eq_true_eq, eq_self, Int.reduceEq, Int.reduceLT, Int.reduceLE, Bool.and_true, Bool.true_and, Bool.and_false, Bool.false_and, Nat.zero_add]
      exact ⟨_, _, rfl, [], [], fun e K => fzp_u _ _ e K rfl⟩
    | cons t0 ks0 =>
      generalize hks : t0 :: ks0 = ks at *
      have hne : ks ≠ [] := by rw [← hks]; simp
      have happ := fun {β : Type} => app_row (β := β) sTm (.sl (ks.map Tm.enc)) (head_tm ks) (by cases ks with | nil => exact absurd rfl hne | cons _ _ => rfl) (by simp; omega)
      simp only [cells_flat, List.length_map] at happ
      obtain ⟨o, p, k⟩ := u
      rw [enc_mk, enc_mk, enc_mk]
      simp only [S22_124, S22_125, S22_126, S22_127, S22_128, S22_129, S22_130, S22_131, S22_132, S22_133, S22_135, S22_136, S22_137, S22_138, S22, ↓XX, ↓reduceIte, Nat.reduceBEq, decide_true, decide_false, Bool.not_true, Bool.not_false, List.map_cons, List.map_nil, List.length_map, List.length_cons, List.length_nil, Nat.reduceAdd, Int.cast_ofNat_Int, Int.natCast_zero, Int.natCast_one, Bool.false_eq_true, Bool.true_eq_false, decide_eq_true_eq, eq_self, Int.reduceEq, Int.reduceLT, Int.reduceLE, Bool.and_true, Bool.true_and, Bool.and_false, Bool.false_and, Nat.zero_add, hz, w1, ↓bs0_tm', ↓happ]
      refine loop_run (Q := fun r => AnsF r _) (fun k' V H => ∃ (pre rest done : List Tm) (at' : Int), ks = pre ++ rest ∧ rest.length = k' ∧ done.length = pre.length ∧ Tm.shpL rest ∧ -1000001 ≤ at' - Tm.wtL rest ∧ at' ≤ 1000000 ∧
          V = [iv at', .ptr (.own 23068673) 0, .ptr (.own 23068674) 0, .ptr (.own 23072777) 0, iv pre.length] ∧ H = Hsw op m ks (done ++ rest) o p k ∧ done ++ Tm.swapL rest at' (.mk o p k) = Tm.swapL ks (at_ - 1) (.mk o p k))
        ?_ n ks.length _ _ (by omega) ⟨[], ks, [], at_ - 1, rfl, rfl, rfl, hsl, by omega, by omega, rfl, rfl, rfl⟩
      rintro k' V H rec ⟨pre, rest, done, at', hpk, hl, hdl, hsr, hb1, hb2, rfl, rfl, hts⟩ hrec
      have hkl : ks.length = pre.length + rest.length := by rw [hpk]; simp
      cases rest with
      | nil =>
        have hno : ¬ ((pre.length : Int) < ks.length) := by rw [hkl]; simp
        rw [Tm.swapL, List.append_nil] at hts
        rw [← hts]
        simp only [S22_124, S22_125, S22_126, S22_127, S22_128, S22_129, S22_130, S22_131, S22_132, S22_133, S22_134, S22_135, S22_136, S22_137, S22_138, S22, ↓XX, ↓reduceIte, Nat.reduceBEq, decide_true, decide_false, Bool.not_true, Bool.not_false, List.map_cons, List.map_nil, List.length_map, List.length_cons, List.length_nil, Nat.reduceAdd, Int.cast_ofNat_Int, Int.natCast_zero, Int.natCast_one, Bool.false_eq_true, Bool.true_eq_false, decide_eq_true_eq, eq_self, Int.reduceEq, Int.reduceLT, Int.reduceLE, Bool.and_true, Bool.true_and, Bool.and_false, Bool.false_and, Nat.zero_add, hno, ↓len_slc, List.append_nil]
        rw [show ks.length = done.length by rw [hdl, hkl]; simp]
        exact ⟨_, _, rfl, _, _, fun e0 K => fz_tm (ts := done) (by simp [cellsT, zeroT, lookupOwn]; rfl) (by simp only [List.length_nil] at hkl; omega) [] e0 K⟩
      | cons x rest =>
        have hi : (pre.length : Int) < ks.length := by rw [hkl]; simp; omega
        have hin : pre.length < ks.length := by omega
        have hxw := wt_mem (t := x) (l := ks) (by rw [hpk]; simp)
        have hsz := tsize_ok n x (by omega) (by omega)
        have hwi : w64 ((pre.length : Int) + 1) = ((pre ++ [x]).length : Int) := (w64_id (by omega) (by omega)).trans (by simp)
        have hpx := wt_pos x
        have hwL : Tm.wtL (x :: rest) = x.wt + Tm.wtL rest := rfl
        rw [hwL] at hb1
        have hws : w64 (at' - x.wt) = at' - x.wt := by rw [w64_id] <;> omega
        rw [Tm.swapL] at hts
        simp only [List.length_cons] at hl
        have h9 := fun (y : Tm) (e : y = if 0 ≤ at' ∧ at' < x.wt then x.swapM at' (.mk o p k) else x) => hrec rest.length [iv (at' - x.wt), .ptr (.own 23068673) 0, .ptr (.own 23068674) 0, .ptr (.own 23072777) 0, iv (pre ++ [x]).length] (Hsw op m ks ((done ++ [y]) ++ rest) o p k) (by omega)
          ⟨pre ++ [x], rest, done ++ [y], at' - x.wt, by rw [hpk]; simp, rfl, by simp [hdl], hsr.2, by omega, by omega, rfl, rfl, by rw [← hts, e]; simp⟩
        have hdm := fun {β : Type} => drp_m (β := β) done rest x.op x.n x.kids
        have hsm := fun {β : Type} (y : Tm) => set_m (β := β) done rest x y.op y.n (y.kids.map Tm.enc) y (by obtain ⟨o, n, k⟩ := y; exact enc_mk _ _ _)
        rw [hdl] at hdm hsm
        by_cases c1 : 0 ≤ at' ∧ at' < x.wt
        · have hs := ih n (by omega) x at' (by omega) hsr.1 (by omega) c1.1 (by omega)
          rw [if_pos c1] at h9
          have h9 := h9 _ rfl
          have hsm := fun {β : Type} => hsm (β := β) (x.swapM at' (.mk o p k))
          generalize x.swapM at' (.mk o p k) = y at hs h9 hsm
          generalize x.wt = q at hsz c1 hws h9
          obtain ⟨o2, p2, l2⟩ := x
          obtain ⟨o3, p3, l3⟩ := y
          simp only [enc_mk, Tm.op, Tm.n, Tm.kids] at hsz hs hdm hsm
          simp only [S22_124, S22_125, S22_126, S22_127, S22_128, S22_129, S22_130, S22_131, S22_132, S22_133, S22_134, S22_135, S22_136, S22_137, S22_138, S22, ↓XX, ↓reduceIte, Nat.reduceBEq, decide_true, decide_false, Bool.not_true, Bool.not_false, List.map_cons, List.map_nil, List.length_map, List.length_cons, List.length_nil, Nat.reduceAdd, Int.cast_ofNat_Int, Int.natCast_zero, Int.natCast_one, Bool.false_eq_true, Bool.true_eq_false, decide_eq_true_eq, eq_self, Int.reduceEq, Int.reduceLT, Int.reduceLE, Bool.and_true, Bool.true_and, Bool.and_false, Bool.false_and, Nat.zero_add, ↓len_slc, hi, ↓ix_sl3 hin, ↓hdm, ↓iso_1 hsz, c1.1, c1.2, ↓iso_3 (ansf hs), ↓hsm, hws, hwi]
          simp only [List.append_assoc, List.cons_append, List.nil_append] at h9
          exact h9
        · rw [if_neg c1] at h9
          have h9 := h9 _ rfl
          generalize x.wt = q at hsz c1 hws h9
          obtain ⟨o2, p2, l2⟩ := x
          simp only [enc_mk, Tm.op, Tm.n, Tm.kids] at hsz hdm
          by_cases c2 : 0 ≤ at'
          · have c3 : ¬ at' < q := fun h => c1 ⟨c2, h⟩
            simp only [S22_124, S22_125, S22_126, S22_127, S22_128, S22_129, S22_130, S22_131, S22_132, S22_133, S22_134, S22_135, S22_136, S22_137, S22_138, S22, ↓XX, ↓reduceIte, Nat.reduceBEq, decide_true, decide_false, Bool.not_true, Bool.not_false, List.map_cons, List.map_nil, List.length_map, List.length_cons, List.length_nil, Nat.reduceAdd, Int.cast_ofNat_Int, Int.natCast_zero, Int.natCast_one, Bool.false_eq_true, Bool.true_eq_false, decide_eq_true_eq, eq_self, Int.reduceEq, Int.reduceLT, Int.reduceLE, Bool.and_true, Bool.true_and, Bool.and_false, Bool.false_and, Nat.zero_add, ↓len_slc, hi, ↓ix_sl3 hin, ↓hdm, ↓iso_1 hsz, c2, c3, hws, hwi]
            simp only [List.append_assoc, List.cons_append, List.nil_append] at h9
            exact h9
          · simp only [S22_124, S22_125, S22_126, S22_127, S22_128, S22_129, S22_130, S22_131, S22_132, S22_133, S22_134, S22_135, S22_136, S22_137, S22_138, S22, ↓XX, ↓reduceIte, Nat.reduceBEq, decide_true, decide_false, Bool.not_true, Bool.not_false, List.map_cons, List.map_nil, List.length_map, List.length_cons, List.length_nil, Nat.reduceAdd, Int.cast_ofNat_Int, Int.natCast_zero, Int.natCast_one, Bool.false_eq_true, Bool.true_eq_false, decide_eq_true_eq, eq_self, Int.reduceEq, Int.reduceLT, Int.reduceLE, Bool.and_true, Bool.true_and, Bool.and_false, Bool.false_and, Nat.zero_add, ↓len_slc, hi, ↓ix_sl3 hin, ↓hdm, ↓iso_1 hsz, c2, hws, hwi]
            simp only [List.append_assoc, List.cons_append, List.nil_append] at h9
            exact h9
end Idl
end Go.Proofs.Ytdibmackcbpniaa

namespace Go.Proofs.Ytdibmackcbpniaa
namespace Idl
mutual
def Tm.rty : Tm → Bool
  | .mk op _ l => (decide (op = 15) || (decide (op = 16) || decide (op = 17))) && Tm.rtyL l
def Tm.rtyL : List Tm → Bool
  | [] => true
  | t :: l => t.rty && Tm.rtyL l
end
mutual
theorem rty_typed : ∀ t : Tm, t.shp → t.rty = t.typed
  | .mk op m l, h => by
    rw [Tm.shp] at h
    obtain ⟨h1, h2, h3⟩ := h
    have hl := rtyL_typed l h3
    rw [Tm.rty]
    by_cases h15 : op = 15
    · subst h15
      have := len0 h1
      subst this
      simp [Tm.typed, Tm.rtyL]
    · by_cases h16 : op = 16 ∨ op = 17
      · have hk2 : kidsN op = 2 := by rcases h16 with rfl | rfl <;> rfl
        obtain ⟨a, b, rfl⟩ := len2 (h1.trans hk2)
        have ha := hl a (by simp)
        have hb := hl b (by simp)
        simp only [Tm.rtyL, Tm.typed, ha, hb, Bool.and_true, h15, decide_false, Bool.false_or]
      · have : (Tm.mk op m l).typed = false := by
          match l with
          | [] => simp [Tm.typed, h15]
          | [_] => exact typed1 ..
          | [_, _] => simp [Tm.typed]; omega
          | x :: y :: z :: l => exact typed3 ..
        rw [this]
        simp only [Bool.and_eq_false_iff, Bool.or_eq_false_iff, decide_eq_false_iff_not]
        left
        omega
theorem rtyL_typed : ∀ l : List Tm, Tm.shpL l → ∀ x ∈ l, x.rty = x.typed
  | [], _, x, hx => by cases hx
  | t :: l, h, x, hx => by
    rcases List.mem_cons.1 hx with e | hx
    · rw [e]; exact rty_typed t h.1
    · exact rtyL_typed l h.2 x hx
end
theorem rtype_ok : ∀ (n : Nat) (t : Tm), t.wt < n → t.wt ≤ 1000000000 → Ans (SS dt n 21 [.fv t.enc] ⟨[], []⟩) (.bool t.rty) := by
  intro n
  induction n with
  | zero => intro t h; omega
  | succ n ih =>
    intro t hn hw
    obtain ⟨op, m, ks⟩ := t
    simp only [Tm.wt] at hn hw
    rw [c21, enc_mk, Tm.rty]
    have hlen := wt_len ks
    by_cases h : op = 15 ∨ op = 16 ∨ op = 17
    · have e : (decide (op = 15) || (decide (op = 16) || decide (op = 17))) = true := by
        simpa using h
      rw [e, Bool.true_and]
      have hl : Ans (loopS n (fun q l h => S21_77 l h (SS dt n) q) [.ptr (.own 22020096) 0, iv 0] ⟨[(22020096, .row [iv op, iv m, .fv (.sl (ks.map Tm.enc))] false)], []⟩) (.bool (Tm.rtyL ks)) := by
        refine loop_run (Q := fun r => Ans r _) (fun k V H => ∃ pre rest, ks = pre ++ rest ∧ rest.length = k ∧ V = [.ptr (.own 22020096) 0, iv pre.length] ∧ H = ⟨[(22020096, .row [iv op, iv m, .fv (.sl (ks.map Tm.enc))] false)], []⟩ ∧ Tm.rtyL rest = Tm.rtyL ks)
          ?_ n ks.length _ _ (by omega) ⟨[], ks, rfl, rfl, rfl, rfl, rfl⟩
        rintro k V H rec ⟨pre, rest, hk, hkl, rfl, rfl, hr⟩ hrec
        have hkk : ks.length = pre.length + rest.length := by rw [hk]; simp
        cases rest with
        | nil =>
          have hno : ¬ ((pre.length : Int) < ks.length) := by rw [hkk]; simp
          rw [← hr]
          simp only [S21_74, S21_75, S21_76, S21_77, S21_78, S21_79, S21, ↓XX, ↓reduceIte, Nat.reduceBEq, decide_true, decide_false, Bool.not_true, Bool.not_false, List.map_cons, List.map_nil, List.length_map, List.length_cons, List.length_nil, Nat.reduceAdd, Int.cast_ofNat_Int, Int.natCast_zero, Int.natCast_one, Bool.false_eq_true, Bool.true_eq_false, decide_eq_true_eq, eq_self, Int.reduceEq, Int.reduceLT, Int.reduceLE, Bool.and_true, Bool.true_and, Bool.and_false, Bool.false_and, Nat.zero_add, hno, Tm.rtyL]; exact ans_fv _ _
        | cons t rest =>
          have hi : (pre.length : Int) < ks.length := by rw [hkk]; simp; omega
          have hg := at_pre hk
          have htw := wt_mem (t := t) (l := ks) (by rw [hk]; simp)
          have hc := ih t (by omega) (by omega)
          have hwi : w64 ((pre.length : Int) + 1) = ((pre ++ [t]).length : Int) := (w64_id (by omega) (by omega)).trans (by simp)
          have h9 := fun e => hrec rest.length [.ptr (.own 22020096) 0, iv (pre ++ [t]).length] _ (by simp only [List.length_cons] at hkl; omega) ⟨pre ++ [t], rest, by rw [hk]; simp, rfl, rfl, rfl, e⟩
          rw [Tm.rtyL] at hr
          generalize t.rty = b at hc hr
          cases b
          · rw [Bool.false_and] at hr
            rw [← hr]
            obtain ⟨o, p, l⟩ := t
            rw [enc_mk] at hc
            simp only [S21_74, S21_75, S21_76, S21_77, S21_78, S21_79, S21, ↓XX, ↓reduceIte, Nat.reduceBEq, decide_true, decide_false, Bool.not_true, Bool.not_false, List.map_cons, List.map_nil, List.length_map, List.length_cons, List.length_nil, Nat.reduceAdd, Int.cast_ofNat_Int, Int.natCast_zero, Int.natCast_one, Bool.false_eq_true, Bool.true_eq_false, decide_eq_true_eq, eq_self, Int.reduceEq, Int.reduceLT, Int.reduceLE, Bool.and_true, Bool.true_and, Bool.and_false, Bool.false_and, Nat.zero_add, hi, ↓ix_f (map_get hg) (agg3l _ _ _), ↓agg3, ↓iso_1 hc]; exact ans_fv _ _
          · rw [Bool.true_and] at hr
            have h9 := h9 hr
            obtain ⟨o, p, l⟩ := t
            rw [enc_mk] at hc
            simp only [S21_74, S21_75, S21_76, S21_77, S21_78, S21_79, S21, ↓XX, ↓reduceIte, Nat.reduceBEq, decide_true, decide_false, Bool.not_true, Bool.not_false, List.map_cons, List.map_nil, List.length_map, List.length_cons, List.length_nil, Nat.reduceAdd, Int.cast_ofNat_Int, Int.natCast_zero, Int.natCast_one, Bool.false_eq_true, Bool.true_eq_false, decide_eq_true_eq, eq_self, Int.reduceEq, Int.reduceLT, Int.reduceLE, Bool.and_true, Bool.true_and, Bool.and_false, Bool.false_and, Nat.zero_add, hi, ↓ix_f (map_get hg) (agg3l _ _ _), ↓agg3, ↓iso_1 hc, hwi]
            exact h9
      by_cases h1 : op = 15
      · simp only [S21_74, S21_75, S21_76, S21_78, S21_79, S21, ↓XX, ↓reduceIte, Nat.reduceBEq, decide_true, decide_false, Bool.not_true, Bool.not_false, List.map_cons, List.map_nil, List.length_map, List.length_cons, List.length_nil, Nat.reduceAdd, Int.cast_ofNat_Int, Int.natCast_zero, Int.natCast_one, Bool.false_eq_true, Bool.true_eq_false, decide_eq_true_eq, eq_self, Int.reduceEq, Int.reduceLT, Int.reduceLE, Bool.and_true, Bool.true_and, Bool.and_false, Bool.false_and, Nat.zero_add, h1]; simp only [h1] at hl; exact hl
      · by_cases h2 : op = 16
        · simp only [S21_74, S21_75, S21_76, S21_78, S21_79, S21, ↓XX, ↓reduceIte, Nat.reduceBEq, decide_true, decide_false, Bool.not_true, Bool.not_false, List.map_cons, List.map_nil, List.length_map, List.length_cons, List.length_nil, Nat.reduceAdd, Int.cast_ofNat_Int, Int.natCast_zero, Int.natCast_one, Bool.false_eq_true, Bool.true_eq_false, decide_eq_true_eq, eq_self, Int.reduceEq, Int.reduceLT, Int.reduceLE, Bool.and_true, Bool.true_and, Bool.and_false, Bool.false_and, Nat.zero_add, h1, h2]; simp only [h2] at hl; exact hl
        · have h3 : op = 17 := by omega
          simp only [S21_74, S21_75, S21_76, S21_78, S21_79, S21, ↓XX, ↓reduceIte, Nat.reduceBEq, decide_true, decide_false, Bool.not_true, Bool.not_false, List.map_cons, List.map_nil, List.length_map, List.length_cons, List.length_nil, Nat.reduceAdd, Int.cast_ofNat_Int, Int.natCast_zero, Int.natCast_one, Bool.false_eq_true, Bool.true_eq_false, decide_eq_true_eq, eq_self, Int.reduceEq, Int.reduceLT, Int.reduceLE, Bool.and_true, Bool.true_and, Bool.and_false, Bool.false_and, Nat.zero_add, h1, h2, h3]; simp only [h3] at hl; exact hl
    · have h1 : op ≠ 15 := by omega
      have h2 : op ≠ 16 := by omega
      have h3 : op ≠ 17 := by omega
      simp only [S21_74, S21_75, S21_76, S21_77, S21_78, S21_79, S21, ↓XX, ↓reduceIte, Nat.reduceBEq, decide_true, decide_false, Bool.not_true, Bool.not_false, List.map_cons, List.map_nil, List.length_map, List.length_cons, List.length_nil, Nat.reduceAdd, Int.cast_ofNat_Int, Int.natCast_zero, Int.natCast_one, Bool.false_eq_true, Bool.true_eq_false, decide_eq_true_eq, eq_self, Int.reduceEq, Int.reduceLT, Int.reduceLE, Bool.and_true, Bool.true_and, Bool.and_false, Bool.false_and, Nat.zero_add, h1, h2, h3, Bool.or_false]; exact ans_fv _ _
end Idl
end Go.Proofs.Ytdibmackcbpniaa

namespace Go.Proofs.Ytdibmackcbpniaa
namespace Idl
mutual
def Tm.count : Tm → Int → Int
  | .mk _ _ l, most => Tm.countL l 1 most
def Tm.countL : List Tm → Int → Int → Int
  | [], n, _ => n
  | t :: l, n, most => if n < most then Tm.countL l (n + t.count (most - n)) most else n
end
mutual
theorem count_le : ∀ (t : Tm) (m : Int), 1 ≤ t.count m ∧ (1 ≤ m → t.count m ≤ m)
  | .mk _ _ l, m => by
    have := countL_le l 1 m
    simp only [Tm.count]
    omega
theorem countL_le : ∀ (l : List Tm) (n m : Int), n ≤ Tm.countL l n m ∧ (n ≤ m → Tm.countL l n m ≤ m)
  | [], n, m => by simp only [Tm.countL]; omega
  | t :: l, n, m => by
    simp only [Tm.countL]
    split
    · have h1 := count_le t (m - n)
      have h2 := countL_le l (n + t.count (m - n)) m
      omega
    · omega
end
theorem count_ok : ∀ (n : Nat) (t : Tm) (most : Int), t.wt < n → most ≤ 4611686018427387904 → -4611686018427387904 ≤ most → Ans (SS dt n 40 [.fv t.enc, iv most] ⟨[], []⟩) (.int .i64 (t.count most)) := by
  intro n
  induction n with
  | zero => intro t most h; omega
  | succ n ih =>
    intro t most h hm hm'
    obtain ⟨op, m, ks⟩ := t
    simp only [Tm.wt] at h
    rw [c40, enc_mk]
    simp only [S40_53, S40_54, S40_55, S40_56, S40, ↓XX, ↓reduceIte, Nat.reduceBEq, decide_true, decide_false, Bool.not_true, Bool.not_false, List.map_cons, List.map_nil, List.length_map, List.length_cons, List.length_nil, Nat.reduceAdd, Int.cast_ofNat_Int, Int.natCast_zero, Int.natCast_one, Bool.false_eq_true, Bool.true_eq_false, decide_eq_true_eq, eq_self, Int.reduceEq, Int.reduceLT, Int.reduceLE, Bool.and_true, Bool.true_and, Bool.and_false, Bool.false_and, Nat.zero_add, Tm.count]
    refine loop_run (Q := fun r => Ans r _) (fun k V H => ∃ rest pre acc, ks = pre ++ rest ∧ rest.length = k ∧ (pre.length : Int) < acc ∧ (acc ≤ 1 ∨ acc ≤ most) ∧ V = [iv most, .ptr (.own 41943040) 0, iv acc, iv pre.length] ∧
      H = ⟨[(41943040, .row [iv op, iv m, .fv (.sl (ks.map Tm.enc))] false)], []⟩ ∧ Tm.countL rest acc most = Tm.countL ks 1 most) ?_ n ks.length _ _ (by have := wt_len ks; omega) ⟨ks, [], 1, rfl, rfl, by simp, .inl (by omega), rfl, rfl, rfl⟩
    rintro k V H rec ⟨rest, pre, acc, hk, hl, hpre, hacc, rfl, rfl, ht⟩ hrec
    have hlen : ks.length = pre.length + rest.length := by rw [hk]; simp
    cases rest with
    | nil =>
      rw [← ht]
      simp only [S40_53, S40_54, S40_55, S40_56, S40_57, S40, ↓XX, ↓reduceIte, Nat.reduceBEq, decide_true, decide_false, Bool.not_true, Bool.not_false, List.map_cons, List.map_nil, List.length_map, List.length_cons, List.length_nil, Nat.reduceAdd, Int.cast_ofNat_Int, Int.natCast_zero, Int.natCast_one, Bool.false_eq_true, Bool.true_eq_false, decide_eq_true_eq, eq_self, Int.reduceEq, Int.reduceLT, Int.reduceLE, Bool.and_true, Bool.true_and, Bool.and_false, Bool.false_and, Nat.zero_add, List.length_map, show ¬ ((pre.length : Int) < ks.length) by simp [hlen], Tm.countL]
      exact ans_fv _ _
    | cons t rest =>
      have hi : (pre.length : Int) < ks.length := by rw [hlen]; simp; omega
      by_cases ha : acc < most
      · have hg := at_pre hk
        obtain ⟨o, p, l⟩ := t
        have hb := count_le (.mk o p l) (most - acc)
        have hc := ih (.mk o p l) (most - acc) (by have := wt_mem (t := .mk o p l) (l := ks) (by rw [hk]; simp); omega) (by omega) (by omega)
        rw [enc_mk] at hc
        simp only [S40_53, S40_54, S40_55, S40_56, S40_57, S40, ↓XX, ↓reduceIte, Nat.reduceBEq, decide_true, decide_false, Bool.not_true, Bool.not_false, List.map_cons, List.map_nil, List.length_map, List.length_cons, List.length_nil, Nat.reduceAdd, Int.cast_ofNat_Int, Int.natCast_zero, Int.natCast_one, Bool.false_eq_true, Bool.true_eq_false, decide_eq_true_eq, eq_self, Int.reduceEq, Int.reduceLT, Int.reduceLE, Bool.and_true, Bool.true_and, Bool.and_false, Bool.false_and, Nat.zero_add, List.length_map, hi, ha, ↓ix_f (map_get hg) (agg3l _ _ _), ↓agg3, w64_id (show -9223372036854775808 ≤ most - acc by omega) (show most - acc ≤ 9223372036854775807 by omega), ↓iso_2 hc,
          w64_id (show -9223372036854775808 ≤ acc + (Tm.mk o p l).count (most - acc) by omega) (show acc + (Tm.mk o p l).count (most - acc) ≤ 9223372036854775807 by omega), w64_id (show -9223372036854775808 ≤ (pre.length : Int) + 1 by omega) (show (pre.length : Int) + 1 ≤ 9223372036854775807 by omega)]
        simp only [List.length_cons] at hl
        refine hrec rest.length _ _ (by omega) ?_
        refine ⟨rest, pre ++ [.mk o p l], acc + (Tm.mk o p l).count (most - acc), by rw [hk]; simp, rfl, by simp; omega, .inr (by omega), by simp, rfl, ?_⟩
        rw [← ht]
        simp only [Tm.countL, if_pos ha]
      · rw [← ht]
        simp only [S40_53, S40_54, S40_55, S40_56, S40_57, S40, ↓XX, ↓reduceIte, Nat.reduceBEq, decide_true, decide_false, Bool.not_true, Bool.not_false, List.map_cons, List.map_nil, List.length_map, List.length_cons, List.length_nil, Nat.reduceAdd, Int.cast_ofNat_Int, Int.natCast_zero, Int.natCast_one, Bool.false_eq_true, Bool.true_eq_false, decide_eq_true_eq, eq_self, Int.reduceEq, Int.reduceLT, Int.reduceLE, Bool.and_true, Bool.true_and, Bool.and_false, Bool.false_and, Nat.zero_add, List.length_map, hi, ha, Tm.countL]
        exact ans_fv _ _
end Idl
end Go.Proofs.Ytdibmackcbpniaa

namespace Go.Proofs.Ytdibmackcbpniaa
namespace Idl
theorem few_ok {n : Nat} (t : Tm) (h : t.wt < n) : Ans (SS dt (n + 1) 12 [.fv t.enc] ⟨[], []⟩) (.bool (decide (t.count 300 < 300))) := by
  rw [c12]
  have hc := count_ok n t 300 h (by omega) (by omega)
  obtain ⟨op, m, ks⟩ := t
  rw [enc_mk] at hc ⊢
  simp only [S12, ↓XX, ↓reduceIte, Nat.reduceBEq, decide_true, decide_false, Bool.not_true, Bool.not_false, List.map_cons, List.map_nil, List.length_map, List.length_cons, List.length_nil, Nat.reduceAdd, Int.cast_ofNat_Int, Int.natCast_zero, Int.natCast_one, Bool.false_eq_true, Bool.true_eq_false, decide_eq_true_eq, eq_self, Int.reduceEq, Int.reduceLT, Int.reduceLE, Bool.and_true, Bool.true_and, Bool.and_false, Bool.false_and, Nat.zero_add, ↓iso_2 hc]
  exact ans_fv _ _
def Tm.plainT : Nat → Tm → Tm
  | 0, _ => .mk 15 0 []
  | d + 1, r => if r.n % 4 < 2 then .mk 15 0 [] else .mk (16 + r.n % 4 - 2) 0 [plainT d (r.pick 0), plainT d (r.pick 1)]
theorem plainT_ok : ∀ (d n : Nat) (r : Tm), d + 1 < n → d ≤ 1000 → Ans (SS dt n 14 [.fv r.enc, iv d] ⟨[], []⟩) (r.plainT d).enc := by
  intro d
  induction d with
  | zero =>
    intro n r hn _
    obtain ⟨n, rfl⟩ : ∃ k, n = k + 1 := ⟨n - 1, by omega⟩
    rw [c14]
    have hw := within4_ok (n := n) (by omega) r.n (m := 4) (by omega) (by omega)
    obtain ⟨op, m, ks⟩ := r
    rw [enc_mk]
    simp only [Tm.n] at hw
    simp only [S14_75, S14_76, S14_77, S14_78, S14_79, S14_80, S14_81, S14, ↓XX, ↓reduceIte, Nat.reduceBEq, decide_true, decide_false, Bool.not_true, Bool.not_false, List.map_cons, List.map_nil, List.length_map, List.length_cons, List.length_nil, Nat.reduceAdd, Int.cast_ofNat_Int, Int.natCast_zero, Int.natCast_one, Bool.false_eq_true, Bool.true_eq_false, decide_eq_true_eq, eq_self, Int.reduceEq, Int.reduceLT, Int.reduceLE, Bool.and_true, Bool.true_and, Bool.and_false, Bool.false_and, Nat.zero_add, ↓iso_2 hw, ↓iso_2 (t0_ok (n := n) (by omega) 15), Tm.plainT, enc_mk]
    exact ans_p rfl _
  | succ d ih =>
    intro n r hn hd
    obtain ⟨n, rfl⟩ : ∃ k, n = k + 1 := ⟨n - 1, by omega⟩
    rw [c14]
    have hw := within4_ok (n := n) (by omega) r.n (m := 4) (by omega) (by omega)
    have h0 := ih n (r.pick 0) (by omega) (by omega)
    have h1 := ih n (r.pick 1) (by omega) (by omega)
    have p0 := pick_ok (n := n) (by omega) r 0
    have p1 := pick_ok (n := n) (by omega) r 1
    have ht := t_ok (n := n) (by omega) (16 + r.n % 4 - 2) [(r.pick 0).plainT d, (r.pick 1).plainT d]
    have hb0 : ¬ ((d + 1 : Nat) : Int) ≤ 0 := by omega
    have hm : w64 (((d + 1 : Nat) : Int) - 1) = d := by rw [w64_id] <;> omega
    have hr := Int.emod_nonneg r.n (show (4 : Int) ≠ 0 by decide)
    have hr2 := Int.emod_lt_of_pos r.n (show (0 : Int) < 4 by decide)
    have e1 : w64 (16 + r.n % 4) = 16 + r.n % 4 := by rw [w64_id] <;> omega
    have e2 : w64 (16 + r.n % 4 - 2) = 16 + r.n % 4 - 2 := by rw [w64_id] <;> omega
    simp only [List.map_cons, List.map_nil] at ht
    rw [Tm.plainT]
    obtain ⟨op, m, ks⟩ := r
    rw [enc_mk] at p0 p1 ⊢
    simp only [Tm.n] at *
    by_cases hk : m % 4 < 2
    · simp only [S14_75, S14_76, S14_77, S14_78, S14_79, S14_80, S14_81, S14, ↓XX, ↓reduceIte, Nat.reduceBEq, decide_true, decide_false, Bool.not_true, Bool.not_false, List.map_cons, List.map_nil, List.length_map, List.length_cons, List.length_nil, Nat.reduceAdd, Int.cast_ofNat_Int, Int.natCast_zero, Int.natCast_one, Bool.false_eq_true, Bool.true_eq_false, decide_eq_true_eq, eq_self, Int.reduceEq, Int.reduceLT, Int.reduceLE, Bool.and_true, Bool.true_and, Bool.and_false, Bool.false_and, Nat.zero_add, ↓iso_2 hw, Tm.n, ↓iso_2 (t0_ok (n := n) (by omega) 15), hb0, hk, enc_mk]
      exact ans_p rfl _
    · simp only [S14_75, S14_76, S14_77, S14_78, S14_79, S14_80, S14_81, S14, ↓XX, ↓reduceIte, Nat.reduceBEq, decide_true, decide_false, Bool.not_true, Bool.not_false, List.map_cons, List.map_nil, List.length_map, List.length_cons, List.length_nil, Nat.reduceAdd, Int.cast_ofNat_Int, Int.natCast_zero, Int.natCast_one, Bool.false_eq_true, Bool.true_eq_false, decide_eq_true_eq, eq_self, Int.reduceEq, Int.reduceLT, Int.reduceLE, Bool.and_true, Bool.true_and, Bool.and_false, Bool.false_and, Nat.zero_add, ↓iso_2 hw, hb0, hk, e1, e2, hm, ↓iso_2 p0, ↓iso_2 p1, ↓iso_2 h0, ↓iso_2 h1, ↓bs2_tm, ↓iso_2 ht]
      simp only [↓XX, ↓reduceIte, Nat.reduceBEq, decide_true, decide_false, Bool.not_true, Bool.not_false, List.map_cons, List.map_nil, List.length_map, List.length_cons, List.length_nil, Nat.reduceAdd, Int.cast_ofNat_Int, Int.natCast_zero, Int.natCast_one, Bool.false_eq_true, Bool.true_eq_false, decide_eq_true_eq, eq_self, Int.reduceEq, Int.reduceLT, Int.reduceLE, Bool.and_true, Bool.true_and, Bool.and_false, Bool.false_and, Nat.zero_add, enc_mk]
      exact ans_p rfl _
end Idl
end Go.Proofs.Ytdibmackcbpniaa

namespace Go.Proofs.Ytdibmackcbpniaa
namespace Idl
def isTrueE (o : Option (IV × Hp)) : Bool := match o with
  | some (.fv (.bool b), ⟨_, []⟩) => b
  | _ => false
theorem ans_true {o : Option (IV × Hp)} (h : isTrueE o = true) : Ans o (.bool true) := by
  unfold isTrueE at h
  split at h
  · subst h; exact ans_fv _ _
  · cases h
theorem typed_ok : ∀ (n : Nat) (t : Tm), t.wt < n → Ans (SS dt n 52 [.fv t.enc] ⟨[], []⟩) (.bool t.typed) := by
  intro n
  induction n with
  | zero => intro t h; omega
  | succ n ih =>
    intro t h
    rw [c52]
    obtain ⟨op, m, ks⟩ := t
    simp only [Tm.wt] at h
    rw [enc_mk]
    by_cases h1 : op = 15
    · subst h1
      match ks with
      | [] => simp only [S52_89, S52_90, S52_91, S52_92, S52_93, S52_94, S52, ↓XX, ↓reduceIte, Nat.reduceBEq, decide_true, decide_false, Bool.not_true, Bool.not_false, List.map_cons, List.map_nil, List.length_map, List.length_cons, List.length_nil, Nat.reduceAdd, Int.cast_ofNat_Int, Int.natCast_zero, Int.natCast_one, Bool.false_eq_true, Bool.true_eq_false, decide_eq_true_eq, eq_self, Int.reduceEq, Int.reduceLT, Int.reduceLE, Bool.and_true, Bool.true_and, Bool.and_false, Bool.false_and, Nat.zero_add, Tm.typed]; exact ans_fv _ _
      | [_] => simp only [S52_89, S52_90, S52_91, S52_92, S52_93, S52_94, S52, ↓XX, ↓reduceIte, Nat.reduceBEq, decide_true, decide_false, Bool.not_true, Bool.not_false, List.map_cons, List.map_nil, List.length_map, List.length_cons, List.length_nil, Nat.reduceAdd, Int.cast_ofNat_Int, Int.natCast_zero, Int.natCast_one, Bool.false_eq_true, Bool.true_eq_false, decide_eq_true_eq, eq_self, Int.reduceEq, Int.reduceLT, Int.reduceLE, Bool.and_true, Bool.true_and, Bool.and_false, Bool.false_and, Nat.zero_add, typed1]; exact ans_fv _ _
      | [a, b] => simp only [S52_89, S52_90, S52_91, S52_92, S52_93, S52_94, S52, ↓XX, ↓reduceIte, Nat.reduceBEq, decide_true, decide_false, Bool.not_true, Bool.not_false, List.map_cons, List.map_nil, List.length_map, List.length_cons, List.length_nil, Nat.reduceAdd, Int.cast_ofNat_Int, Int.natCast_zero, Int.natCast_one, Bool.false_eq_true, Bool.true_eq_false, decide_eq_true_eq, eq_self, Int.reduceEq, Int.reduceLT, Int.reduceLE, Bool.and_true, Bool.true_and, Bool.and_false, Bool.false_and, Nat.zero_add, Tm.typed]; exact ans_fv _ _
      | a :: b :: c :: l =>
        have : ¬ ((l.length : Int) + 1 + 1 + 1 = 0) := by omega
        simp only [S52_89, S52_90, S52_91, S52_92, S52_93, S52_94, S52, ↓XX, ↓reduceIte, Nat.reduceBEq, decide_true, decide_false, Bool.not_true, Bool.not_false, List.map_cons, List.map_nil, List.length_map, List.length_cons, List.length_nil, Nat.reduceAdd, Int.cast_ofNat_Int, Int.natCast_zero, Int.natCast_one, Bool.false_eq_true, Bool.true_eq_false, decide_eq_true_eq, eq_self, Int.reduceEq, Int.reduceLT, Int.reduceLE, Bool.and_true, Bool.true_and, Bool.and_false, Bool.false_and, Nat.zero_add, Int.natCast_add, typed3, this]; exact ans_fv _ _
    · by_cases h2 : op = 16 ∨ op = 17
      · match ks with
        | [] => rcases h2 with rfl | rfl <;> (simp only [S52_89, S52_90, S52_91, S52_92, S52_93, S52_94, S52, ↓XX, ↓reduceIte, Nat.reduceBEq, decide_true, decide_false, Bool.not_true, Bool.not_false, List.map_cons, List.map_nil, List.length_map, List.length_cons, List.length_nil, Nat.reduceAdd, Int.cast_ofNat_Int, Int.natCast_zero, Int.natCast_one, Bool.false_eq_true, Bool.true_eq_false, decide_eq_true_eq, eq_self, Int.reduceEq, Int.reduceLT, Int.reduceLE, Bool.and_true, Bool.true_and, Bool.and_false, Bool.false_and, Nat.zero_add, Tm.typed]; exact ans_fv _ _)
        | [_] => rcases h2 with rfl | rfl <;> (simp only [S52_89, S52_90, S52_91, S52_92, S52_93, S52_94, S52, ↓XX, ↓reduceIte, Nat.reduceBEq, decide_true, decide_false, Bool.not_true, Bool.not_false, List.map_cons, List.map_nil, List.length_map, List.length_cons, List.length_nil, Nat.reduceAdd, Int.cast_ofNat_Int, Int.natCast_zero, Int.natCast_one, Bool.false_eq_true, Bool.true_eq_false, decide_eq_true_eq, eq_self, Int.reduceEq, Int.reduceLT, Int.reduceLE, Bool.and_true, Bool.true_and, Bool.and_false, Bool.false_and, Nat.zero_add, typed1]; exact ans_fv _ _)
        | [a, b] =>
          simp only [Tm.wtL] at h
          have ha := ih a (by omega)
          have hb := ih b (by omega)
          rw [Tm.typed]
          generalize a.typed = x at ha ⊢
          generalize b.typed = y at hb ⊢
          obtain ⟨o1, n1, k1⟩ := a
          obtain ⟨o2, n2, k2⟩ := b
          simp only [enc_mk] at ha hb
          cases x
          · rcases h2 with rfl | rfl <;> (simp only [S52_89, S52_90, S52_91, S52_92, S52_93, S52_94, S52, ↓XX, ↓reduceIte, Nat.reduceBEq, decide_true, decide_false, Bool.not_true, Bool.not_false, List.map_cons, List.map_nil, List.length_map, List.length_cons, List.length_nil, Nat.reduceAdd, Int.cast_ofNat_Int, Int.natCast_zero, Int.natCast_one, Bool.false_eq_true, Bool.true_eq_false, decide_eq_true_eq, eq_self, Int.reduceEq, Int.reduceLT, Int.reduceLE, Bool.and_true, Bool.true_and, Bool.and_false, Bool.false_and, Nat.zero_add, enc_mk, ↓iso_1 ha]; exact ans_fv _ _)
          · rcases h2 with rfl | rfl <;> (simp only [S52_89, S52_90, S52_91, S52_92, S52_93, S52_94, S52, ↓XX, ↓reduceIte, Nat.reduceBEq, decide_true, decide_false, Bool.not_true, Bool.not_false, List.map_cons, List.map_nil, List.length_map, List.length_cons, List.length_nil, Nat.reduceAdd, Int.cast_ofNat_Int, Int.natCast_zero, Int.natCast_one, Bool.false_eq_true, Bool.true_eq_false, decide_eq_true_eq, eq_self, Int.reduceEq, Int.reduceLT, Int.reduceLE, Bool.and_true, Bool.true_and, Bool.and_false, Bool.false_and, Nat.zero_add, enc_mk, ↓iso_1 ha, ↓iso_1 hb]; exact ans_fv _ _)
        | a :: b :: c :: l =>
          have : ¬ ((l.length : Int) + 1 + 1 + 1 = 2) := by omega
          rcases h2 with rfl | rfl <;> (simp only [S52_89, S52_90, S52_91, S52_92, S52_93, S52_94, S52, ↓XX, ↓reduceIte, Nat.reduceBEq, decide_true, decide_false, Bool.not_true, Bool.not_false, List.map_cons, List.map_nil, List.length_map, List.length_cons, List.length_nil, Nat.reduceAdd, Int.cast_ofNat_Int, Int.natCast_zero, Int.natCast_one, Bool.false_eq_true, Bool.true_eq_false, decide_eq_true_eq, eq_self, Int.reduceEq, Int.reduceLT, Int.reduceLE, Bool.and_true, Bool.true_and, Bool.and_false, Bool.false_and, Nat.zero_add, Int.natCast_add, typed3, this]; exact ans_fv _ _)
      · have h3 : op ≠ 16 := fun e => h2 (.inl e)
        have h4 : op ≠ 17 := fun e => h2 (.inr e)
        have : (Tm.mk op m ks).typed = false := by
          match ks with
          | [] => simp [Tm.typed, h1]
          | [_] => exact typed1 ..
          | [a, b] => simp [Tm.typed, h3, h4]
          | a :: b :: c :: l => exact typed3 ..
        rw [this]
        simp only [S52_89, S52_90, S52_91, S52_92, S52_93, S52_94, S52, ↓XX, ↓reduceIte, Nat.reduceBEq, decide_true, decide_false, Bool.not_true, Bool.not_false, List.map_cons, List.map_nil, List.length_map, List.length_cons, List.length_nil, Nat.reduceAdd, Int.cast_ofNat_Int, Int.natCast_zero, Int.natCast_one, Bool.false_eq_true, Bool.true_eq_false, decide_eq_true_eq, eq_self, Int.reduceEq, Int.reduceLT, Int.reduceLE, Bool.and_true, Bool.true_and, Bool.and_false, Bool.false_and, Nat.zero_add, h1, h3, h4]
        exact ans_fv _ _
end Idl
end Go.Proofs.Ytdibmackcbpniaa

namespace Go.Proofs.Ytdibmackcbpniaa
namespace Idl
end Idl
end Go.Proofs.Ytdibmackcbpniaa

namespace Go.Proofs.Ytdibmackcbpniaa
namespace Idl
theorem plainT_typed : ∀ (d : Nat) (r : Tm), (r.plainT d).typed = true
  | 0, r => by simp [Tm.plainT, Tm.typed]
  | d + 1, r => by
    have h1 := Int.emod_nonneg r.n (show (4 : Int) ≠ 0 by decide)
    have h2 := Int.emod_lt_of_pos r.n (show (0 : Int) < 4 by decide)
    simp only [Tm.plainT]
    split
    · simp [Tm.typed]
    · simp only [Tm.typed, plainT_typed d, Bool.and_self, Bool.and_true, Bool.or_eq_true, decide_eq_true_eq]
      omega
theorem plainT_wt : ∀ (d : Nat) (r : Tm), (r.plainT d).wt ≤ 2 ^ (d + 1) - 1
  | 0, r => by simp [Tm.plainT, Tm.wt, Tm.wtL]
  | d + 1, r => by
    have h1 := plainT_wt d (r.pick 0)
    have h2 := plainT_wt d (r.pick 1)
    have h3 : 0 < 2 ^ (d + 1) := Nat.pow_pos (by decide)
    simp only [Tm.plainT]
    split
    · simp only [Tm.wt, Tm.wtL, Nat.pow_succ] at *; omega
    · simp only [Tm.wt, Tm.wtL, Nat.pow_succ] at *; omega
end Idl
end Go.Proofs.Ytdibmackcbpniaa

namespace Go.Proofs.Ytdibmackcbpniaa
namespace Idl
theorem known_run (n : Nat) : isTrueE (SS dt (n + 60) 11 [] ⟨[], []⟩) = true := by kernel_rfl
theorem known_ok {n : Nat} (h : 60 ≤ n) : Ans (SS dt n 11 [] ⟨[], []⟩) (.bool true) := by
  obtain ⟨k, rfl⟩ : ∃ k, n = k + 60 := ⟨n - 60, by omega⟩
  exact ans_true (known_run k)
end Idl
end Go.Proofs.Ytdibmackcbpniaa

namespace Go.Proofs.Ytdibmackcbpniaa
namespace Idl
def isTB (o : Option (IV × Hp)) : Bool := match o with
  | some (.fv (.tuple [.bool b, .int .i64 e]), ⟨_, []⟩) => b && decide (e = 0)
  | _ => false
theorem ans_tb {o : Option (IV × Hp)} (h : isTB o = true) : Ans o (.tuple [.bool true, .int .i64 0]) := by
  unfold isTB at h
  split at h
  · simp only [Bool.and_eq_true, decide_eq_true_eq] at h
    obtain ⟨rfl, rfl⟩ := h
    exact ans_fv _ _
  · cases h
def tyTm : Tm := .mk 14 0 []
theorem eqTy_run (n : Nat) : isTB (SS dt (n + 60) 87 [.fv tyTm.enc, .fv tyTm.enc] ⟨[], []⟩) = true := by kernel_rfl
theorem eqTy_ok {n : Nat} (hn : 60 ≤ n) : Ans (SS dt n 87 [.fv tyTm.enc, .fv tyTm.enc] ⟨[], []⟩) (.tuple [.bool true, .int .i64 0]) := by
  obtain ⟨k, rfl⟩ : ∃ k, n = k + 60 := ⟨n - 60, by omega⟩
  exact ans_tb (eqTy_run k)
theorem kchk_ok {n : Nat} {t : Tm} (hn : 60 ≤ n) (h : Ans (SS dt n 26 [.fv (.sl []), iv 1, .fv t.enc] ⟨[], []⟩) (.tuple [tyTm.enc, .int .i64 0])) :
    Ans (SS dt (n + 1) 61 [.fv (.sl []), iv 1, .fv t.enc, .fv tyTm.enc] ⟨[], []⟩) (.int .i64 0) := by
  rw [c61]
  have he := eqTy_ok hn
  obtain ⟨o, p, k⟩ := t
  simp only [tyTm, enc_mk, List.map_nil] at h he ⊢
  simp only [S61_55, S61_56, S61_57, S61, ↓XX, ↓reduceIte, Nat.reduceBEq, decide_true, decide_false, Bool.not_true, Bool.not_false, List.map_cons, List.map_nil, List.length_map, List.length_cons, List.length_nil, Nat.reduceAdd, Int.cast_ofNat_Int, Int.natCast_zero, Int.natCast_one, Bool.false_eq_true, Bool.true_eq_false, decide_eq_true_eq, eq_self, Int.reduceEq, Int.reduceLT, Int.reduceLE, Bool.and_true, Bool.true_and, Bool.and_false, Bool.false_and, Nat.zero_add, ↓iso_3 h, ↓iso_2 he]; exact ans_fv _ _
theorem kchks_ok {n : Nat} (ks : List Tm) (hl : ks.length ≤ 1000) (hn : ks.length < n) (h : ∀ t ∈ ks, Ans (SS dt n 61 [.fv (.sl []), iv 1, .fv t.enc, .fv tyTm.enc] ⟨[], []⟩) (.int .i64 0)) :
    Ans (SS dt (n + 1) 62 [.fv (.sl []), iv 1, .fv (.sl (ks.map Tm.enc)), .fv tyTm.enc] ⟨[], []⟩) (.int .i64 0) := by
  rw [c62]
  simp only [tyTm, enc_mk, List.map_nil] at h ⊢
  simp only [S62_35, S62_36, S62_37, S62, ↓XX, ↓reduceIte, Nat.reduceBEq, decide_true, decide_false, Bool.not_true, Bool.not_false, List.map_cons, List.map_nil, List.length_map, List.length_cons, List.length_nil, Nat.reduceAdd, Int.cast_ofNat_Int, Int.natCast_zero, Int.natCast_one, Bool.false_eq_true, Bool.true_eq_false, decide_eq_true_eq, eq_self, Int.reduceEq, Int.reduceLT, Int.reduceLE, Bool.and_true, Bool.true_and, Bool.and_false, Bool.false_and, Nat.zero_add]
  refine loop_run (Q := fun r => Ans r _) (fun k V H => ∃ pre rest, ks = pre ++ rest ∧ rest.length = k ∧ V = [.fv (.sl []), iv 1, .fv (.sl (ks.map Tm.enc)), .ptr (.own 65011712) 0, iv pre.length] ∧
    H = ⟨[(65011712, .row [iv 14, iv 0, .fv (.sl [])] false)], []⟩) ?_ n ks.length _ _ (by omega) ⟨[], ks, rfl, rfl, rfl, rfl⟩
  rintro k V H rec ⟨pre, rest, hk, hkl, rfl, rfl⟩ hrec
  have hkk : ks.length = pre.length + rest.length := by rw [hk]; simp
  cases rest with
  | nil =>
    have hno : ¬ ((pre.length : Int) < ks.length) := by rw [hkk]; simp
    simp only [S62_35, S62_36, S62_37, S62_38, S62, ↓XX, ↓reduceIte, Nat.reduceBEq, decide_true, decide_false, Bool.not_true, Bool.not_false, List.map_cons, List.map_nil, List.length_map, List.length_cons, List.length_nil, Nat.reduceAdd, Int.cast_ofNat_Int, Int.natCast_zero, Int.natCast_one, Bool.false_eq_true, Bool.true_eq_false, decide_eq_true_eq, eq_self, Int.reduceEq, Int.reduceLT, Int.reduceLE, Bool.and_true, Bool.true_and, Bool.and_false, Bool.false_and, Nat.zero_add, hno]; exact ans_fv _ _
  | cons t rest =>
    have hi : (pre.length : Int) < ks.length := by rw [hkk]; simp; omega
    have hg := at_pre hk
    have hc := h t (by rw [hk]; simp)
    have hwi : w64 ((pre.length : Int) + 1) = ((pre ++ [t]).length : Int) := (w64_id (by omega) (by omega)).trans (by simp)
    simp only [List.length_cons] at hkl
    have h9 := hrec rest.length [.fv (.sl []), iv 1, .fv (.sl (ks.map Tm.enc)), .ptr (.own 65011712) 0, iv (pre ++ [t]).length] _ (by omega) ⟨pre ++ [t], rest, by rw [hk]; simp, rfl, rfl, rfl⟩
    obtain ⟨o, p, l⟩ := t
    rw [enc_mk] at hc
    simp only [S62_35, S62_36, S62_37, S62_38, S62, ↓XX, ↓reduceIte, Nat.reduceBEq, decide_true, decide_false, Bool.not_true, Bool.not_false, List.map_cons, List.map_nil, List.length_map, List.length_cons, List.length_nil, Nat.reduceAdd, Int.cast_ofNat_Int, Int.natCast_zero, Int.natCast_one, Bool.false_eq_true, Bool.true_eq_false, decide_eq_true_eq, eq_self, Int.reduceEq, Int.reduceLT, Int.reduceLE, Bool.and_true, Bool.true_and, Bool.and_false, Bool.false_and, Nat.zero_add, hi, ↓ix_f (map_get hg) (agg3l _ _ _), ↓agg3, ↓iso_4 hc, hwi]
    exact h9
theorem kinf_ok : ∀ (n : Nat) (t : Tm), 4 * t.wt + 100 < n → t.typed = true → Ans (SS dt n 26 [.fv (.sl []), iv 1, .fv t.enc] ⟨[], []⟩) (.tuple [tyTm.enc, .int .i64 0]) := by
  intro n
  induction n using Nat.strongRecOn with
  | ind n ih =>
    intro t hn ht
    obtain ⟨n, rfl⟩ : ∃ k, n = k + 1 + 1 + 1 := ⟨n - 3, by omega⟩
    have hkids : ∀ x ∈ t.kids, x.wt < t.wt ∧ x.typed = true := by
      intro x hx
      obtain ⟨o, p, l⟩ := t
      have := wt_mem hx
      refine ⟨by simp only [Tm.kids] at this; simp only [Tm.wt]; omega, ?_⟩
      rcases typed_op ht with ⟨_, h2⟩ | ⟨_, a, b, h2, ta, tb⟩
      · rw [h2] at hx; cases hx
      · rw [h2] at hx
        simp only [List.mem_cons, List.not_mem_nil, or_false] at hx
        rcases hx with rfl | rfl <;> assumption
    have hop : t.op = 15 ∨ t.op = 16 ∨ t.op = 17 := by
      rcases typed_op ht with ⟨h, _⟩ | ⟨h, _⟩
      · exact .inl h
      · exact .inr h
    have hl2 : t.kids.length ≤ 2 := by
      rcases typed_op ht with ⟨_, h2⟩ | ⟨_, a, b, h2, _⟩ <;> (rw [h2]; simp)
    have hc := kchks_ok (n := n + 1) t.kids (by omega) (by omega) (fun x hx => kchk_ok (by omega) (ih n (by omega) x (by have := (hkids x hx).1; omega) (hkids x hx).2))
    have t14 := t0_ok (n := n + 1 + 1) (by omega) 14
    rw [c26]
    obtain ⟨o, p, l⟩ := t
    simp only [tyTm, Tm.op, Tm.kids, enc_mk, List.map_nil] at hop hc t14 ⊢
    rcases hop with rfl | rfl | rfl
    · simp only [S26_324, S26_325, S26_326, S26_327, S26_328, S26_329, S26_330, S26_331, S26_332, S26_333, S26_334, S26_335, S26_336, S26_337, S26_338, S26_339, S26_340, S26_341, S26_342, S26_343, S26_344, S26_345, S26_346, S26_347, S26_348, S26_349, S26_350, S26_351, S26_352, S26_353, S26_354, S26_355, S26_356, S26_357, S26_358, S26_359, S26_360, S26_361, S26_362, S26_363, S26_364, S26_365, S26_366, S26_367, S26, ↓XX, ↓reduceIte, Nat.reduceBEq, decide_true, decide_false, Bool.not_true, Bool.not_false, List.map_cons, List.map_nil, List.length_map, List.length_cons, List.length_nil, Nat.reduceAdd, Int.cast_ofNat_Int, Int.natCast_zero, Int.natCast_one, Bool.false_eq_true, Bool.true_eq_false, decide_eq_true_eq, eq_self, Int.reduceEq, Int.reduceLT, Int.reduceLE, Bool.and_true, Bool.true_and, Bool.and_false, Bool.false_and, Nat.zero_add, ↓iso_2 t14, ↓iso_4 hc]; first | exact ans_fv _ _ | exact ans_t rfl (by simp) _
    · simp only [S26_324, S26_325, S26_326, S26_327, S26_328, S26_329, S26_330, S26_331, S26_332, S26_333, S26_334, S26_335, S26_336, S26_337, S26_338, S26_339, S26_340, S26_341, S26_342, S26_343, S26_344, S26_345, S26_346, S26_347, S26_348, S26_349, S26_350, S26_351, S26_352, S26_353, S26_354, S26_355, S26_356, S26_357, S26_358, S26_359, S26_360, S26_361, S26_362, S26_363, S26_364, S26_365, S26_366, S26_367, S26, ↓XX, ↓reduceIte, Nat.reduceBEq, decide_true, decide_false, Bool.not_true, Bool.not_false, List.map_cons, List.map_nil, List.length_map, List.length_cons, List.length_nil, Nat.reduceAdd, Int.cast_ofNat_Int, Int.natCast_zero, Int.natCast_one, Bool.false_eq_true, Bool.true_eq_false, decide_eq_true_eq, eq_self, Int.reduceEq, Int.reduceLT, Int.reduceLE, Bool.and_true, Bool.true_and, Bool.and_false, Bool.false_and, Nat.zero_add, ↓iso_2 t14, ↓iso_4 hc]; first | exact ans_fv _ _ | exact ans_t rfl (by simp) _
    · simp only [S26_324, S26_325, S26_326, S26_327, S26_328, S26_329, S26_330, S26_331, S26_332, S26_333, S26_334, S26_335, S26_336, S26_337, S26_338, S26_339, S26_340, S26_341, S26_342, S26_343, S26_344, S26_345, S26_346, S26_347, S26_348, S26_349, S26_350, S26_351, S26_352, S26_353, S26_354, S26_355, S26_356, S26_357, S26_358, S26_359, S26_360, S26_361, S26_362, S26_363, S26_364, S26_365, S26_366, S26_367, S26, ↓XX, ↓reduceIte, Nat.reduceBEq, decide_true, decide_false, Bool.not_true, Bool.not_false, List.map_cons, List.map_nil, List.length_map, List.length_cons, List.length_nil, Nat.reduceAdd, Int.cast_ofNat_Int, Int.natCast_zero, Int.natCast_one, Bool.false_eq_true, Bool.true_eq_false, decide_eq_true_eq, eq_self, Int.reduceEq, Int.reduceLT, Int.reduceLE, Bool.and_true, Bool.true_and, Bool.and_false, Bool.false_and, Nat.zero_add, ↓iso_2 t14, ↓iso_4 hc]; first | exact ans_fv _ _ | exact ans_t rfl (by simp) _
theorem swap_not {o : Int} (ho : kidsN o = 0) (h1 : o ≠ 15) (h2 : o ≠ 16) (h3 : o ≠ 17) : ∀ (n : Nat) (t : Tm) (at_ : Int), t.wt < n → t.typed = true → 0 ≤ at_ → at_ < t.wt → (t.swapM at_ (.mk o 0 [])).typed = false ∧ (t.swapM at_ (.mk o 0 [])).shp ∧ (t.swapM at_ (.mk o 0 [])).wt ≤ t.wt := by
  have hleaf : (Tm.mk o 0 []).typed = false ∧ (Tm.mk o 0 []).shp := by
    refine ⟨by simp [Tm.typed, h1], ?_⟩
    rw [Tm.shp]
    exact ⟨by rw [ho]; rfl, (fun _ => by omega), trivial⟩
  intro n
  induction n with
  | zero => intro t at_ h; omega
  | succ n ih =>
    intro t at_ hn ht h0 hlt
    rcases typed_op ht with ⟨h4, h5⟩ | ⟨h4, a, b, h5, ta, tb⟩
    · obtain ⟨op, m, l⟩ := t
      simp only [Tm.kids, Tm.op] at h4 h5
      subst h5
      simp only [Tm.wt, Tm.wtL] at hlt
      rw [Tm.swapM, if_pos (by omega)]
      exact ⟨hleaf.1, hleaf.2, by simp [Tm.wt, Tm.wtL]⟩
    · obtain ⟨op, m, l⟩ := t
      simp only [Tm.kids, Tm.op] at h4 h5
      subst h5
      simp only [Tm.wt, Tm.wtL] at hlt hn
      have hpa := wt_pos a
      have hpb := wt_pos b
      rw [Tm.swapM]
      by_cases hz : at_ = 0
      · rw [if_pos hz]
        exact ⟨hleaf.1, hleaf.2, by simp only [Tm.wt, Tm.wtL]; omega⟩
      · rw [if_neg hz]
        simp only [Tm.swapL]
        by_cases c1 : at_ - 1 < a.wt
        · have := ih a (at_ - 1) (by omega) ta (by omega) c1
          rw [if_pos ⟨by omega, c1⟩, if_neg (by omega)]
          refine ⟨by simp only [Tm.typed, this.1, Bool.false_and, Bool.and_false], ?_, by simp only [Tm.wt, Tm.wtL]; omega⟩
          rw [Tm.shp]
          exact ⟨by rcases h4 with rfl | rfl <;> rfl, (fun h => by omega), this.2.1, typed_shp b tb, trivial⟩
        · have := ih b (at_ - 1 - a.wt) (by omega) tb (by omega) (by omega)
          rw [if_neg (by omega), if_pos ⟨by omega, by omega⟩]
          refine ⟨by simp only [Tm.typed, this.1, Bool.and_false], ?_, by simp only [Tm.wt, Tm.wtL]; omega⟩
          rw [Tm.shp]
          exact ⟨by rcases h4 with rfl | rfl <;> rfl, (fun h => by omega), typed_shp a ta, this.2.1, trivial⟩
theorem within11_ok {n : Nat} (hn : 0 < n) (x : Int) {m : Int} (h1 : 0 < m) (h2 : m ≤ 4611686018427387904) : Ans (SS dt n 23 [iv x, iv m] ⟨[], []⟩) (.int .i64 (x % m)) := by
  obtain ⟨n, rfl⟩ := Nat.exists_eq_add_of_lt hn
  rw [Nat.zero_add, c23]
  simp only [S23, ↓XX, ↓reduceIte, Nat.reduceBEq, decide_true, decide_false, Bool.not_true, Bool.not_false, List.map_cons, List.map_nil, List.length_map, List.length_cons, List.length_nil, Nat.reduceAdd, Int.cast_ofNat_Int, Int.natCast_zero, Int.natCast_one, Bool.false_eq_true, Bool.true_eq_false, decide_eq_true_eq, eq_self, Int.reduceEq, Int.reduceLT, Int.reduceLE, Bool.and_true, Bool.true_and, Bool.and_false, Bool.false_and, Nat.zero_add, ↓rem_s (show m ≠ 0 by omega)]
  rw [← emod_w h1 h2]
  by_cases hc : x.tmod m < 0 <;> simp only [hc, if_true, if_false] <;> exact ans_fv _ _
theorem pType_ok {n : Nat} (t : Tm) (hn : t.wt + 1 < n) : Ans (SS dt n 20 [.fv t.enc] ⟨[], []⟩) (.bool t.typed) := by
  obtain ⟨n, rfl⟩ : ∃ k, n = k + 1 := ⟨n - 1, by omega⟩
  rw [c20]
  have h := typed_ok n t (by omega)
  obtain ⟨o, p, l⟩ := t
  rw [enc_mk] at h ⊢
  simp only [S20, ↓XX, ↓reduceIte, Nat.reduceBEq, decide_true, decide_false, Bool.not_true, Bool.not_false, List.map_cons, List.map_nil, List.length_map, List.length_cons, List.length_nil, Nat.reduceAdd, Int.cast_ofNat_Int, Int.natCast_zero, Int.natCast_one, Bool.false_eq_true, Bool.true_eq_false, decide_eq_true_eq, eq_self, Int.reduceEq, Int.reduceLT, Int.reduceLE, Bool.and_true, Bool.true_and, Bool.and_false, Bool.false_and, Nat.zero_add, ↓iso_1 h]; exact ans_fv _ _
theorem tInts : EE.T 51 = some ⟨1, 24, .slice 3, [.nils]⟩ := by kernel_rfl
theorem tInt : EE.T 3 = some ⟨1, 8, .int .i64, [.fv (.int .i64 0)]⟩ := by kernel_rfl
theorem bs5_i (a b c d e : Int) (s : Nat) (h : Hp) (k : IV → Hp → List Ref → List Ref → Option (IV × Hp)) : genS (pcBuildSlice EE 51 5 [(0, iv a), (1, iv b), (2, iv c), (3, iv d), (4, iv e)]) s h k = k (.clip [.int .i64 a, .int .i64 b, .int .i64 c, .int .i64 d, .int .i64 e]) h [] [] :=
  bs_tm tInts tInt (by decide) (cells := [.int .i64 a, .int .i64 b, .int .i64 c, .int .i64 d, .int .i64 e]) rfl k
theorem ix_cl1 {β : Type} (es : List FV) (x : IV) (k : IV → Option β) : ixS 1 (.clip es) x k = ixS 1 (.fv (.sl es)) x k := rfl
def opsL : List FV := [.int .i64 10, .int .i64 1, .int .i64 25, .int .i64 14, .int .i64 11]
set_option maxRecDepth 20000 in
set_option maxHeartbeats 2000000 in
theorem objTypes_ok (q : Tm) (x y : Int) : ∃ N, AnsV (SS dt N 6 [.fv q.enc, .fv (.int .i64 x), .fv (.int .i64 y)] ⟨[], []⟩) (.bool true) := by
  refine ⟨q.wt + 2000 + 1, ?_⟩
  rw [c6]
  generalize hn : q.wt + 2000 = n
  have hk := known_ok (n := n) (by omega)
  obtain ⟨m, hm⟩ : ∃ m, n = m + 1 := ⟨n - 1, by omega⟩
  have fq := few_ok (n := m) q (by omega)
  rw [← hm] at fq
  cases h2 : decide (q.count 300 < 300)
  · rw [h2] at fq
    obtain ⟨o2, n2, k2⟩ := q
    simp only [enc_mk] at fq ⊢
    simp (maxSteps := 1000000) only [S6_159, S6_160, S6_161, S6_162, S6_163, S6_164, S6_165, S6_166, S6_167, S6_168, S6_169, S6, ↓XX, ↓reduceIte, Nat.reduceBEq, decide_true, decide_false, Bool.not_true, Bool.not_false, List.map_cons, List.map_nil, List.length_map, List.length_cons, List.length_nil, Nat.reduceAdd, Int.cast_ofNat_Int, Int.natCast_zero, Int.natCast_one, Bool.false_eq_true, Bool.true_eq_false, decide_eq_true_eq, eq_self, Int.reduceEq, Int.reduceLT, Int.reduceLE, Bool.and_true, Bool.true_and, Bool.and_false, Bool.false_and, Nat.zero_add, ↓iso_0 hk, ↓iso_1 fq]
    exact ansv
  rw [h2] at fq
  have pq := plainT_ok 5 n q (by omega) (by omega)
  have ta := plainT_typed 5 q
  have wa := plainT_wt 5 q
  generalize q.plainT 5 = a at pq ta wa
  have hpa := wt_pos a
  have hI := kinf_ok n a (by omega) ta
  have hsz := tsize_ok n a (by omega) (by omega)
  have hwt := within11_ok (n := n) (by omega) x (m := a.wt) (by omega) (by omega)
  have hw5 := within11_ok (n := n) (by omega) y (m := 5) (by omega) (by omega)
  have hx1 := Int.emod_nonneg x (show (a.wt : Int) ≠ 0 by omega)
  have hx2 := Int.emod_lt_of_pos x (show (0 : Int) < a.wt by omega)
  have hy1 := Int.emod_nonneg y (show (5 : Int) ≠ 0 by decide)
  have hy2 := Int.emod_lt_of_pos y (show (0 : Int) < 5 by decide)
  have hTa := pType_ok (n := n) a (by omega)
  rw [ta] at hTa
  obtain ⟨j, o, hj, hg, ho, h15, h16, h17⟩ : ∃ (j : Nat) (o : Int), y % 5 = j ∧ opsL[j]? = some (.int .i64 o) ∧ kidsN o = 0 ∧ o ≠ 15 ∧ o ≠ 16 ∧ o ≠ 17 := by
    have h : y % 5 = 0 ∨ y % 5 = 1 ∨ y % 5 = 2 ∨ y % 5 = 3 ∨ y % 5 = 4 := by omega
    rcases h with h | h | h | h | h
    · exact ⟨0, 10, h, rfl, rfl, by decide, by decide, by decide⟩
    · exact ⟨1, 1, h, rfl, rfl, by decide, by decide, by decide⟩
    · exact ⟨2, 25, h, rfl, rfl, by decide, by decide, by decide⟩
    · exact ⟨3, 14, h, rfl, rfl, by decide, by decide, by decide⟩
    · exact ⟨4, 11, h, rfl, rfl, by decide, by decide, by decide⟩
  rw [hj] at hw5
  obtain ⟨s1, s2, s3⟩ := swap_not ho h15 h16 h17 (a.wt + 1) a (x % a.wt) (by omega) ta hx1 hx2
  have hS := swap_ok (.mk o 0 []) n a (x % a.wt) (by omega) (typed_shp a ta) (by omega) hx1 (by omega)
  generalize a.swapM (x % a.wt) (.mk o 0 []) = w at hS s1 s2 s3
  have hTw := pType_ok (n := n) w (by omega)
  have hRw := rtype_ok n w (by omega) (by omega)
  rw [rty_typed w s2] at hRw
  rw [s1] at hTw hRw
  clear s1 s2 s3 hx1 hx2 hy1 hy2 hpa wa ta hj
  generalize x % (a.wt : Int) = xw at hwt hS
  generalize a.wt = aw at hsz hwt
  have hix := fun {β : Type} => ix_f (β := β) (size := 1) hg rfl
  simp only [opsL] at hix
  obtain ⟨o1, n1, k1⟩ := a
  obtain ⟨o2, n2, k2⟩ := q
  obtain ⟨o3, n3, k3⟩ := w
  simp only [tyTm, enc_mk, List.map_nil] at fq pq hI hsz hTa hS hTw hRw ⊢
  have hs3 := fun (h : Hp) (k : IV → Hp → List Ref → List Ref → Option (IV × Hp)) => iso_3 (ansf hS) (a := .fv (.agg [.int .i64 o1, .int .i64 n1, .sl (k1.map Tm.enc)])) (b := iv xw) (c := .agg [.fv (.int .i64 o), .fv (.int .i64 0), .nils]) rfl rfl rfl h k
  simp (maxSteps := 1000000) only [S6_159, S6_160, S6_161, S6_162, S6_163, S6_164, S6_165, S6_166, S6_167, S6_168, S6_169, S6, ↓XX, ↓reduceIte, Nat.reduceBEq, decide_true, decide_false, Bool.not_true, Bool.not_false, List.map_cons, List.map_nil, List.length_map, List.length_cons, List.length_nil, Nat.reduceAdd, Int.cast_ofNat_Int, Int.natCast_zero, Int.natCast_one, Bool.false_eq_true, Bool.true_eq_false, decide_eq_true_eq, eq_self, Int.reduceEq, Int.reduceLT, Int.reduceLE, Bool.and_true, Bool.true_and, Bool.and_false, Bool.false_and, Nat.zero_add, ↓hs3, ↓iso_0 hk, ↓iso_1 fq, ↓iso_2 pq, ↓iso_3 hI, ↓iso_1 hsz, ↓iso_2 hwt, ↓bs5_i, ↓iso_2 hw5, ↓ix_cl1, ↓hix, FV.cells, ↓iso_3 (ansf hS), ↓iso_1 hTa, ↓iso_1 hTw, ↓iso_1 hRw]
  exact ansv
end Idl
end Go.Proofs.Ytdibmackcbpniaa


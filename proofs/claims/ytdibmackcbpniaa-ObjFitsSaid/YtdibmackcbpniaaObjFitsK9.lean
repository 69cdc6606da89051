/-
  Texts of a proof, part 9: an ideal semantics of the program, its functions in shallow form, contracts of them. No statement of the seat is proved here.
-/
import Derived.KernelRfl
import Derived.Test.YtdibmackcbpniaaObjFitsK8
set_option linter.all false
namespace Go.Proofs.Ytdibmackcbpniaa
namespace Idl
theorem c8 (n : Nat) (a0 a1 a2 : IV) (h : Hp) : SS dt (n + 1) 8 [a0, a1, a2] h = S8 (SS dt n) n a0 a1 a2 h := by kernel_rfl
theorem c11 (n : Nat) (h : Hp) : SS dt (n + 1) 11 [] h = S11 (SS dt n) n  h := by kernel_rfl
theorem c12 (n : Nat) (a0 : IV) (h : Hp) : SS dt (n + 1) 12 [a0] h = S12 (SS dt n) n a0 h := by kernel_rfl
theorem c14 (n : Nat) (a0 a1 : IV) (h : Hp) : SS dt (n + 1) 14 [a0, a1] h = S14 (SS dt n) n a0 a1 h := by kernel_rfl
theorem c17 (n : Nat) (a0 a1 : IV) (h : Hp) : SS dt (n + 1) 17 [a0, a1] h = S17 (SS dt n) n a0 a1 h := by kernel_rfl
theorem c20 (n : Nat) (a0 : IV) (h : Hp) : SS dt (n + 1) 20 [a0] h = S20 (SS dt n) n a0 h := by kernel_rfl
theorem c23 (n : Nat) (a0 a1 : IV) (h : Hp) : SS dt (n + 1) 23 [a0, a1] h = S23 (SS dt n) n a0 a1 h := by kernel_rfl
theorem c30 (n : Nat) (a0 a1 : IV) (h : Hp) : SS dt (n + 1) 30 [a0, a1] h = S30 (SS dt n) n a0 a1 h := by kernel_rfl
theorem c31 (n : Nat) (a0 : IV) (h : Hp) : SS dt (n + 1) 31 [a0] h = S31 (SS dt n) n a0 h := by kernel_rfl
theorem c32 (n : Nat) (a0 a1 : IV) (h : Hp) : SS dt (n + 1) 32 [a0, a1] h = S32 (SS dt n) n a0 a1 h := by kernel_rfl
theorem c33 (n : Nat) (a0 a1 a2 : IV) (h : Hp) : SS dt (n + 1) 33 [a0, a1, a2] h = S33 (SS dt n) n a0 a1 a2 h := by kernel_rfl
theorem c34 (n : Nat) (a0 a1 : IV) (h : Hp) : SS dt (n + 1) 34 [a0, a1] h = S34 (SS dt n) n a0 a1 h := by kernel_rfl
theorem c40 (n : Nat) (a0 a1 : IV) (h : Hp) : SS dt (n + 1) 40 [a0, a1] h = S40 (SS dt n) n a0 a1 h := by kernel_rfl
theorem c41 (n : Nat) (a0 a1 : IV) (h : Hp) : SS dt (n + 1) 41 [a0, a1] h = S41 (SS dt n) n a0 a1 h := by kernel_rfl
theorem c42 (n : Nat) (a0 a1 : IV) (h : Hp) : SS dt (n + 1) 42 [a0, a1] h = S42 (SS dt n) n a0 a1 h := by kernel_rfl
theorem c49 (n : Nat) (a0 : IV) (h : Hp) : SS dt (n + 1) 49 [a0] h = S49 (SS dt n) n a0 h := by kernel_rfl
theorem c50 (n : Nat) (a0 a1 : IV) (h : Hp) : SS dt (n + 1) 50 [a0, a1] h = S50 (SS dt n) n a0 a1 h := by kernel_rfl
theorem c51 (n : Nat) (a0 : IV) (h : Hp) : SS dt (n + 1) 51 [a0] h = S51 (SS dt n) n a0 h := by kernel_rfl
theorem c52 (n : Nat) (a0 : IV) (h : Hp) : SS dt (n + 1) 52 [a0] h = S52 (SS dt n) n a0 h := by kernel_rfl
theorem c53 (n : Nat) (a0 a1 : IV) (h : Hp) : SS dt (n + 1) 53 [a0, a1] h = S53 (SS dt n) n a0 a1 h := by kernel_rfl
theorem c54 (n : Nat) (a0 : IV) (h : Hp) : SS dt (n + 1) 54 [a0] h = S54 (SS dt n) n a0 h := by kernel_rfl
theorem c64 (n : Nat) (a0 a1 : IV) (h : Hp) : SS dt (n + 1) 64 [a0, a1] h = S64 (SS dt n) n a0 a1 h := by kernel_rfl
theorem c71 (n : Nat) (a0 a1 a2 : IV) (h : Hp) : SS dt (n + 1) 71 [a0, a1, a2] h = S71 (SS dt n) n a0 a1 a2 h := by kernel_rfl
theorem c72 (n : Nat) (a0 a1 : IV) (h : Hp) : SS dt (n + 1) 72 [a0, a1] h = S72 (SS dt n) n a0 a1 h := by kernel_rfl
theorem c73 (n : Nat) (a0 a1 a2 : IV) (h : Hp) : SS dt (n + 1) 73 [a0, a1, a2] h = S73 (SS dt n) n a0 a1 a2 h := by kernel_rfl
theorem c74 (n : Nat) (a0 a1 : IV) (h : Hp) : SS dt (n + 1) 74 [a0, a1] h = S74 (SS dt n) n a0 a1 h := by kernel_rfl
theorem c75 (n : Nat) (a0 a1 : IV) (h : Hp) : SS dt (n + 1) 75 [a0, a1] h = S75 (SS dt n) n a0 a1 h := by kernel_rfl
theorem c76 (n : Nat) (a0 a1 : IV) (h : Hp) : SS dt (n + 1) 76 [a0, a1] h = S76 (SS dt n) n a0 a1 h := by kernel_rfl
theorem c102 (n : Nat) (a0 : IV) (h : Hp) : SS dt (n + 1) 102 [a0] h = S102 (SS dt n) n a0 h := by kernel_rfl
theorem c103 (n : Nat) (a0 a1 : IV) (h : Hp) : SS dt (n + 1) 103 [a0, a1] h = S103 (SS dt n) n a0 a1 h := by kernel_rfl
theorem c104 (n : Nat) (a0 a1 : IV) (h : Hp) : SS dt (n + 1) 104 [a0, a1] h = S104 (SS dt n) n a0 a1 h := by kernel_rfl
theorem c105 (n : Nat) (a0 a1 : IV) (h : Hp) : SS dt (n + 1) 105 [a0, a1] h = S105 (SS dt n) n a0 a1 h := by kernel_rfl
theorem c106 (n : Nat) (a0 : IV) (h : Hp) : SS dt (n + 1) 106 [a0] h = S106 (SS dt n) n a0 h := by kernel_rfl
theorem c107 (n : Nat) (a0 : IV) (h : Hp) : SS dt (n + 1) 107 [a0] h = S107 (SS dt n) n a0 h := by kernel_rfl
theorem c108 (n : Nat) (a0 a1 a2 : IV) (h : Hp) : SS dt (n + 1) 108 [a0, a1, a2] h = S108 (SS dt n) n a0 a1 a2 h := by kernel_rfl
theorem c116 (n : Nat) (a0 a1 a2 : IV) (h : Hp) : SS dt (n + 1) 116 [a0, a1, a2] h = S116 (SS dt n) n a0 a1 a2 h := by kernel_rfl

end Idl
end Go.Proofs.Ytdibmackcbpniaa
namespace Go.Proofs.Ytdibmackcbpniaa
namespace Idl
noncomputable def ssK (t : DT) (n : Nat) : KR KS := fun f args hp K => match SS t n f args hp with
  | none => none
  | some p => match p with
    | (v, hp) => K v hp
theorem ssK_ok {E : Env} {FT : Nat → Option Func} (hFT : ∀ f fn, FT f = some fn → E.P.funcs[f]? = some fn) {t : DT} (ht : t.Ok E FT) {G : Option KS → Prop} (hG : ¬ G none) (n : Nat) : Snd G (ssK t n) (run E n) := by
  intro f args hp K h
  unfold ssK at h
  cases e : SS t n f args hp with
  | none => rw [e] at h; exact absurd h hG
  | some p =>
    obtain ⟨v, hp'⟩ := p
    rw [e] at h
    exact ⟨v, hp', SS_ok hFT ht n f args hp _ e, h⟩
noncomputable def outT (E : Env) (FT : FTr) (t : DT) (W : FuncId) (n : Nat) (f : FuncId) (args : List IV) (st : List Int) : Option (Asks × IV) :=
  match callK E (saidK W (ssK t n)) FT.get n f args ⟨[], []⟩ (fun v _ => some fun _ => some ([], v)) with
  | none => none
  | some g => g st
theorem outT_run {E : Env} {FT : FTr} (hFT : ∀ f fn, FT.get f = some fn → E.P.funcs[f]? = some fn) {t : DT} (ht : t.Ok E FT.get) {W : FuncId} {n : Nat} {f : FuncId} {args : List IV} {st : List Int} {log : Asks} {v : IV}
    (h : outT E FT t W n f args st = some (log, v)) (hs : Stand (run E n) W log) : ∃ hp', run E (n + 1) f args ⟨[], []⟩ = some (v, hp') := by
  unfold outT at h
  split at h
  · cases h
  · rename_i g hg
    have hG : SG (run E n) W v (callK E (saidK W (ssK t n)) FT.get n f args ⟨[], []⟩ (fun v _ => some fun _ => some ([], v))) := ⟨g, st, log, hg, h, hs⟩
    obtain ⟨r, hp', h1, h2⟩ := callK_ok sg_none hFT (said_ok (ssK_ok hFT ht sg_none n)) f args ⟨[], []⟩ _ hG
    obtain ⟨g', st', log', e1, e2, _⟩ := h2
    simp only [Option.some.injEq] at e1
    subst e1
    simp only [Option.some.injEq, Prod.mk.injEq] at e2
    exact ⟨hp', by rw [h1, e2.2]⟩
end Idl
end Go.Proofs.Ytdibmackcbpniaa
namespace Go.Proofs.Ytdibmackcbpniaa
namespace Idl

section
variable {β : Type} {E : Env} {t : TypeId}
/-- A number of 64 bits. -/
abbrev iv (n : Int) : IV := .fv (.int .i64 n)
theorem x_uncS {α : Type} (a : α) (l : List α) (k : α → List α → Option β) : uncS (a :: l) k = k a l := rfl
theorem x_cond_t (a b : Option β) : condS (.fv (.bool true)) a b = a := rfl
theorem x_cond_f (a b : Option β) : condS (.fv (.bool false)) a b = b := rfl
theorem x_cond (c : Prop) [Decidable c] (a b : Option β) : condS (.fv (.bool (decide c))) a b = if c then a else b := by
  by_cases h : c
  · rw [decide_eq_true h, if_pos h]; rfl
  · rw [decide_eq_false h, if_neg h]; rfl
theorem x_pick_t (a b : IV) (k : IV → Option β) : pickS (.fv (.bool true)) a b k = k a := rfl
theorem x_pick_f (a b : IV) (k : IV → Option β) : pickS (.fv (.bool false)) a b k = k b := rfl
theorem x_faddr (o : Nat) (r : Ref) (off : Nat) (k : IV → Option β) : faddrS o (.ptr r off) k = k (.ptr r (off + o)) := by
  show (fNat (off + o) fun o => k (.ptr r o)) = _
  rw [fNat_eq]
theorem x_faddr_f (o : Nat) (cs : List FV) (off : Nat) (k : IV → Option β) : faddrS o (.fv (.fp cs off)) k = k (.fv (.fp cs (off + o))) := by
  show (fNat (off + o) fun o => k (.fv (.fp cs o))) = _
  rw [fNat_eq]
theorem x_nil_p (r : Ref) (o : Nat) (k : IV → Option β) : nilS (.ptr r o) k = k (.ptr r o) := rfl
theorem x_nil_f (cs : List FV) (o : Nat) (k : IV → Option β) : nilS (.fv (.fp cs o)) k = k (.fv (.fp cs o)) := rfl
theorem x_load1 {r : Ref} {h : Hp} {cells : List IV} {ro : Bool} (hg : h.get r = some (.row cells ro)) (o : Nat) (k : IV → List Ref → Option β) : load1 (.ptr r o) h k = (cells[o]?).bind fun v => k v [r] := by
  show (getK r h fun b => asRow b fun cells => nthK cells o fun v => k v [r]) = _
  rw [getK_eq, hg]
  exact nthK_eq ..
theorem x_load1_f (cs : List FV) (o : Nat) (h : Hp) (k : IV → List Ref → Option β) : load1 (.fv (.fp cs o)) h k = (cs[o]?).bind fun v => k (.fv v) [] := nthK_eq ..
theorem x_loadA_f (size : Nat) (cs : List FV) (o : Nat) (h : Hp) (k : IV → List Ref → Option β) (hl : o + size ≤ cs.length) : loadA size (.fv (.fp cs o)) h k = k (.fv (.agg ((cs.drop o).take size))) [] := by
  show (drpK cs o fun cs => takK cs size fun cs => k (.fv (.agg cs)) []) = _
  rw [drpK_eq, if_pos (by omega), takK_eq, if_pos (by simp; omega)]
theorem x_len (es : List FV) (k : IV → Option β) : lenS (.fv (.sl es)) k = k (iv es.length) := intK_eq ..
theorem x_len_nils (k : IV → Option β) : lenS .nils k = k (iv 0) := rfl
theorem x_lt (a b : Nat) (k : IV → Option β) : ltS E t (iv a) (iv b) k = k (.fv (.bool (decide (a < b)))) := by
  show boolK (Nat.ble (Nat.succ a) b) k = _
  rw [boolK_eq, ble_dec]
  rfl
theorem x_eq (a b : Nat) (k : IV → Option β) : eqS E t (iv a) (iv b) k = k (.fv (.bool (decide (a = b)))) := by
  show boolK (Nat.beq a b) k = _
  rw [boolK_eq, beq_dec]
theorem x_ne (a b : Nat) (k : IV → Option β) : neS E t (iv a) (iv b) k = k (.fv (.bool (!decide (a = b)))) := by
  show boolK (not (Nat.beq a b)) k = _
  rw [boolK_eq, beq_dec]
theorem x_add (a b : Nat) (h : a + b ≤ 9223372036854775807) (k : IV → Option β) : addS E t (iv a) (iv b) k = k (iv ((a + b : Nat) : Int)) := by
  show cond (Nat.ble (a + b) 9223372036854775807) (intK (a + b) k) _ = _
  rw [ble_dec, decide_eq_true h]
  exact intK_eq ..
theorem x_ix {size : Nat} {es : List FV} {n : Nat} {el : FV} (he : es[n]? = some el) (hl : el.cells.length = size) (k : IV → Option β) : ixS size (.fv (.sl es)) (iv n) k = k (.fv (.fp el.cells 0)) := by
  show (nthK es n fun el => elK size el k) = _
  rw [nthK_eq, he]
  show elK size el k = _
  rw [elK_eq, if_pos hl]
theorem x_chk (l : List (List Ref × List Ref)) (hl : ∀ q ∈ l, q.2 = []) (rd : List Ref) (a : Option β) : chkS l rd [] a = a := by
  induction l with
  | nil => rfl
  | cons q l ih =>
    obtain ⟨q1, q2⟩ := q
    have e : q2 = [] := hl _ List.mem_cons_self
    subst e
    show chkS l rd [] a = a
    exact ih fun q hq => hl q (List.mem_cons_of_mem _ hq)
/-- A call of frozen values. -/
theorem x_iso {ih : Handler} {f : FuncId} {args : List FV} {h : Hp} {v' : FV} {own : List (Nat × Blk)} (e : ih f (args.map .fv) ⟨[], []⟩ = some (.fv v', ⟨own, []⟩)) (k : IV → Hp → List Ref → List Ref → Option β) :
    isoS [] false false ih f (args.map .fv) h k = k (.fv v') h [] [] := by
  have ha : ∀ (l : List FV) (k : List IV → List Ref → List (Ref × Blk) → List Ref → Option β) (e : Option β), fzA (l.map .fv) [] h [] e k = k (l.map .fv) [] [] [] := by
    intro l
    induction l with
    | nil => intro k e; rfl
    | cons a l ih =>
      intro k e
      show (fzA (l.map .fv) [] h [] e fun vs rs us lg => k (.fv a :: vs) rs us lg) = _
      rw [ih]
      rfl
  unfold isoS
  show fzA (args.map .fv) [] h [] _ _ = _
  rw [ha]
  simp only [e]
  rfl
/-! Numbers of any kind. -/
theorem x_cmpI {op : BinOp} {g : Nat → Nat → Bool} (hg : ∀ a b : Nat, binR E op t (iv a) (iv b) = some (.fv (.bool (g a b)))) (a b : Int) (k : IV → Option β) :
    cmpS E t op g (iv a) (iv b) k = (binR E op t (iv a) (iv b)).bind k := by
  cases a with
  | ofNat a =>
    cases b with
    | ofNat b =>
      show boolK (g a b) k = _
      rw [boolK_eq, show binR E op t (iv (Int.ofNat a)) (iv (Int.ofNat b)) = some (.fv (.bool (g a b))) from hg a b]
      rfl
    | negSucc b =>
      show binS E t op _ _ k = _
      rw [binS, optS_eq]
  | negSucc a =>
    show binS E t op _ _ k = _
    rw [binS, optS_eq]
theorem x_eqI (a b : Int) (k : IV → Option β) : eqS E t (iv a) (iv b) k = k (.fv (.bool (decide (a = b)))) := by
  rw [eqS, x_cmpI (fun a b => by
    show some (IV.fv (.bool ((a : Int) == (b : Int)))) = _
    rw [beq_dec]
    congr 3
    exact decide_eq_decide.2 Int.ofNat_inj)]
  rfl
theorem x_neI (a b : Int) (k : IV → Option β) : neS E t (iv a) (iv b) k = k (.fv (.bool (!decide (a = b)))) := by
  rw [neS, x_cmpI (fun a b => by
    show some (IV.fv (.bool ((a : Int) != (b : Int)))) = _
    rw [beq_dec]
    congr 3
    show (!decide ((a : Int) = (b : Int))) = !decide (a = b)
    congr 1
    exact decide_eq_decide.2 Int.ofNat_inj)]
  rfl
theorem x_ltI (a b : Int) (k : IV → Option β) : ltS E t (iv a) (iv b) k = k (.fv (.bool (decide (a < b)))) := by
  rw [ltS, x_cmpI (fun a b => by
    show some (IV.fv (.bool (decide ((a : Int) < (b : Int))))) = _
    rw [ble_dec]
    congr 3
    exact decide_eq_decide.2 (by omega))]
  rfl
theorem x_leI (a b : Int) (k : IV → Option β) : leS E t (iv a) (iv b) k = k (.fv (.bool (decide (a ≤ b)))) := by
  rw [leS, x_cmpI (fun a b => by
    show some (IV.fv (.bool (decide ((a : Int) ≤ (b : Int))))) = _
    rw [ble_dec]
    congr 3
    exact decide_eq_decide.2 (by omega))]
  rfl
/-! What is guarded. -/
theorem x_guard (b want : Bool) (h : Hp) (m : (IV → Hp → List Ref → List Ref → Option β) → Option β) (k : IV → Hp → List Ref → List Ref → Option β) :
    guardS (.fv (.bool b)) want h m k = if b = want then m k else k undefV h [] [] := by
  cases b <;> cases want <;> rfl
theorem x_not (b : Bool) (k : IV → Option β) : optS (unR .not (.fv (.bool b))) k = k (.fv (.bool !b)) := by
  rw [optS_eq]
  rfl
end
end Idl
end Go.Proofs.Ytdibmackcbpniaa
namespace Go.Proofs.Ytdibmackcbpniaa
namespace Idl

section
variable {β : Type} {α : Type}
/-! Lists. -/
theorem n0 (a : α) (l : List α) (k : α → Option β) : nthK (a :: l) 0 k = k a := rfl
theorem n1 (a b : α) (l : List α) (k : α → Option β) : nthK (a :: b :: l) 1 k = k b := rfl
theorem n2 (a b c : α) (l : List α) (k : α → Option β) : nthK (a :: b :: c :: l) 2 k = k c := rfl
theorem n3 (a b c d : α) (l : List α) (k : α → Option β) : nthK (a :: b :: c :: d :: l) 3 k = k d := rfl
theorem n4 (a b c d e : α) (l : List α) (k : α → Option β) : nthK (a :: b :: c :: d :: e :: l) 4 k = k e := rfl
theorem n5 (a b c d e f : α) (l : List α) (k : α → Option β) : nthK (a :: b :: c :: d :: e :: f :: l) 5 k = k f := rfl
theorem n6 (a b c d e f g : α) (l : List α) (k : α → Option β) : nthK (a :: b :: c :: d :: e :: f :: g :: l) 6 k = k g := rfl
theorem d0 (l : List α) (k : List α → Option β) : drpK l 0 k = k l := by cases l <;> rfl
theorem d1 (a : α) (l : List α) (k : List α → Option β) : drpK (a :: l) 1 k = k l := by cases l <;> rfl
theorem d2 (a b : α) (l : List α) (k : List α → Option β) : drpK (a :: b :: l) 2 k = k l := by cases l <;> rfl
theorem d3 (a b c : α) (l : List α) (k : List α → Option β) : drpK (a :: b :: c :: l) 3 k = k l := by cases l <;> rfl
theorem d4 (a b c d : α) (l : List α) (k : List α → Option β) : drpK (a :: b :: c :: d :: l) 4 k = k l := by cases l <;> rfl
theorem t1 (a : α) (l : List α) (k : List α → Option β) : takK (a :: l) 1 k = k [a] := by cases l <;> rfl
theorem t2 (a b : α) (l : List α) (k : List α → Option β) : takK (a :: b :: l) 2 k = k [a, b] := by cases l <;> rfl
theorem t3 (a b c : α) (l : List α) (k : List α → Option β) : takK (a :: b :: c :: l) 3 k = k [a, b, c] := by cases l <;> rfl
theorem t4 (a b c d : α) (l : List α) (k : List α → Option β) : takK (a :: b :: c :: d :: l) 4 k = k [a, b, c, d] := by cases l <;> rfl
theorem t7 (a b c d e f g : α) (l : List α) (k : List α → Option β) : takK (a :: b :: c :: d :: e :: f :: g :: l) 7 k = k [a, b, c, d, e, f, g] := by cases l <;> rfl
theorem sp_e (l : List α) (k : List α → Option β) : spK l k = k l := spK_eq l k
theorem ap0 (us : List α) (k : List α → Option β) : apK [] us k = k us := rfl
theorem ap1 (u : α) (l us : List α) (k : List α → Option β) : apK (u :: l) us k = apK l us fun w => k (u :: w) := rfl
theorem unc_c (a : α) (l : List α) (k : α → List α → Option β) : uncS (a :: l) k = k a l := rfl
theorem c_t {γ : Type} (a b : γ) : cond true a b = a := rfl
theorem c_f {γ : Type} (a b : γ) : cond false a b = b := rfl
end

section
variable {β : Type}
/-! Blocks. -/
theorem N_bf {s j : Nat} (h : (s == j) = false) : Nat.beq s j = false := by
  rw [beq_dec]
  simpa using h
theorem g_own (s : Nat) (own : List (Nat × Blk)) (ext : List Blk) (k : Blk → Option β) : getK (.own s) ⟨own, ext⟩ k = ownK own s k := rfl
theorem g_ext (j : Nat) (own : List (Nat × Blk)) (ext : List Blk) (k : Blk → Option β) : getK (.ext j) ⟨own, ext⟩ k = nthK ext j k := rfl
theorem o_hit (s : Nat) (b : Blk) (l : List (Nat × Blk)) (k : Blk → Option β) : ownK ((s, b) :: l) s k = k b := by
  show cond (Nat.beq s s) (k b) _ = _
  rw [show Nat.beq s s = true from Nat.beq_refl s]
  rfl
theorem o_miss {s j : Nat} (hne : (s == j) = false) (b : Blk) (l : List (Nat × Blk)) (k : Blk → Option β) : ownK ((j, b) :: l) s k = ownK l s k := by
  show cond (Nat.beq s j) (k b) _ = _
  rw [show Nat.beq s j = false from N_bf hne]
  rfl
theorem p_nil (s : Nat) (b : Blk) (k : List (Nat × Blk) → Option β) : putOwnK [] s b k = k [(s, b)] := rfl
theorem p_hit (s : Nat) (b c : Blk) (l : List (Nat × Blk)) (k : List (Nat × Blk) → Option β) : putOwnK ((s, c) :: l) s b k = k ((s, b) :: l) := by
  show cond (Nat.beq s s) _ _ = _
  rw [show Nat.beq s s = true from Nat.beq_refl s]
  rfl
theorem p_miss {s j : Nat} (hne : (s == j) = false) (b c : Blk) (l : List (Nat × Blk)) (k : List (Nat × Blk) → Option β) : putOwnK ((j, c) :: l) s b k = putOwnK l s b fun l => k ((j, c) :: l) := by
  show cond (Nat.beq s j) _ _ = _
  rw [show Nat.beq s j = false from N_bf hne]
  rfl
theorem f_nil (s : Nat) (a : Option β) : freshK [] s a = a := rfl
theorem f_cons {s j : Nat} (hne : (s == j) = false) (b : Blk) (l : List (Nat × Blk)) (a : Option β) : freshK ((j, b) :: l) s a = freshK l s a := by
  show cond (Nat.beq s j) none _ = _
  rw [show Nat.beq s j = false from N_bf hne]
  rfl
theorem lay_own (s : Nat) (b : Blk) (own : List (Nat × Blk)) (ext : List Blk) (k : Hp → Option β) : layK (.own s) b ⟨own, ext⟩ k = putOwnK own s b fun own => k ⟨own, ext⟩ := rfl
theorem lay_ext (j : Nat) (b : Blk) (own : List (Nat × Blk)) (ext : List Blk) (k : Hp → Option β) : layK (.ext j) b ⟨own, ext⟩ k = setNK ext j b fun ext => k ⟨own, ext⟩ := rfl
theorem sn0 {α : Type} (a b : α) (l : List α) (k : List α → Option β) : setNK (a :: l) 0 b k = k (b :: l) := rfl
theorem new_e (s : Nat) (b : Blk) (v : IV) (own : List (Nat × Blk)) (ext : List Blk) (k : IV → Hp → List Ref → List Ref → Option β) :
    newS s b v ⟨own, ext⟩ k = freshK own s (putOwnK own s b fun own => k v ⟨own, ext⟩ [] [.own s]) := rfl
theorem box_agg (s : Nat) (cs : List FV) (h : Hp) (k : IV → Hp → List Ref → List Ref → Option β) : boxS s (.fv (.agg cs)) h k = newS s (.row (cs.map .fv) false) (.ptr (.own s) 0) h k := by
  show spK (cs.map IV.fv) _ = _
  rw [spK_eq]
theorem box_agg' (s : Nat) (cs : List IV) (h : Hp) (k : IV → Hp → List Ref → List Ref → Option β) : boxS s (.agg cs) h k = newS s (.row cs false) (.ptr (.own s) 0) h k := by
  show spK cs _ = _
  rw [spK_eq]
theorem box_one {x : IV} (hx : x.one = true) (s : Nat) (h : Hp) (k : IV → Hp → List Ref → List Ref → Option β) : boxS s x h k = newS s (.row [x] false) (.ptr (.own s) 0) h k := by
  unfold boxS; rw [hx]; rfl
theorem on_int (k : IntKind) (n : Int) : IV.one (.fv (.int k n)) = true := rfl
theorem on_bool (b : Bool) : IV.one (.fv (.bool b)) = true := rfl
theorem on_sl (l : List FV) : IV.one (.fv (.sl l)) = true := rfl
theorem on_fp (l : List FV) (o : Nat) : IV.one (.fv (.fp l o)) = true := rfl
theorem on_func (fn : Fn) (a b : List FV) : IV.one (.fv (.func fn a b)) = true := rfl
theorem on_nilp : IV.one (.fv .nilp) = true := rfl
theorem on_nils : IV.one .nils = true := rfl
theorem on_ptr (r : Ref) (o : Nat) : IV.one (.ptr r o) = true := rfl
theorem on_slc (r : Ref) (a b : Nat) : IV.one (.slc r a b) = true := rfl
theorem on_app (r : Ref) (l : List FV) : IV.one (.app r l) = true := rfl
theorem on_clip (l : List FV) : IV.one (.clip l) = true := rfl
theorem on_emp : IV.one .emp = true := rfl
theorem on_agg (l : List IV) : IV.one (.agg l) = false := rfl
theorem on_fagg (l : List FV) : IV.one (.fv (.agg l)) = false := rfl
theorem of_int (k : IntKind) (n : Int) : oneF (.int k n) = true := rfl
theorem of_bool (b : Bool) : oneF (.bool b) = true := rfl
theorem of_sl (l : List FV) : oneF (.sl l) = true := rfl
theorem of_fp (l : List FV) (o : Nat) : oneF (.fp l o) = true := rfl
theorem of_nilp : oneF .nilp = true := rfl
theorem of_agg (l : List FV) : oneF (.agg l) = false := rfl
theorem aof_nil : allOneF [] = true := rfl
theorem aof_cons {v : FV} (h : oneF v = true) (l : List FV) : allOneF (v :: l) = allOneF l := by
  show cond (oneF v) (allOneF l) false = _
  rw [h]; rfl
/-! Forms. -/
theorem as_p (r : Ref) (o : Nat) (k : Ref → Nat → Option β) (kf : List FV → Nat → Option β) : asPtr (.ptr r o) k kf = k r o := rfl
theorem as_f (cs : List FV) (o : Nat) (k : Ref → Nat → Option β) (kf : List FV → Nat → Option β) : asPtr (.fv (.fp cs o)) k kf = kf cs o := rfl
theorem as_row (cs : List IV) (ro : Bool) (k : List IV → Option β) : asRow (.row cs ro) k = k cs := rfl
theorem as_free (cs : List IV) (k : List IV → Option β) : asFree (.row cs false) k = k cs := rfl
theorem as_fv (v : FV) (e : Option β) (k : FV → Option β) : asF (.fv v) e k = k v := rfl
theorem as_nf1 (l : List IV) (e : Option β) (k : FV → Option β) : asF (.agg l) e k = e := rfl
theorem as_nf2 (e : Option β) (k : FV → Option β) : asF .nils e k = e := rfl
theorem as_nf3 (r : Ref) (o : Nat) (e : Option β) (k : FV → Option β) : asF (.ptr r o) e k = e := rfl
theorem as_nf4 (r : Ref) (o : List FV) (e : Option β) (k : FV → Option β) : asF (.app r o) e k = e := rfl
theorem as_nf5 (o : List FV) (e : Option β) (k : FV → Option β) : asF (.clip o) e k = e := rfl
theorem as_nf6 (r : Ref) (a b : Nat) (e : Option β) (k : FV → Option β) : asF (.slc r a b) e k = e := rfl
theorem as_nf7 (e : Option β) (k : FV → Option β) : asF .emp e k = e := rfl
theorem as_agF (cs : List FV) (k : List FV → Option β) : asAggF (.agg cs) k = k cs := rfl
theorem as_ag (cs : List IV) (k : List IV → Option β) (kf : List FV → Option β) : asAgg (.agg cs) k kf = k cs := rfl
theorem as_ag' (cs : List FV) (k : List IV → Option β) (kf : List FV → Option β) : asAgg (.fv (.agg cs)) k kf = kf cs := rfl
theorem alv_nil (e : Option β) (k : List FV → Option β) : allFvK [] e k = k [] := rfl
theorem alv_fv (v : FV) (l : List IV) (e : Option β) (k : List FV → Option β) : allFvK (.fv v :: l) e k = allFvK l e fun vs => k (v :: vs) := rfl
theorem alv_nils (l : List IV) (e : Option β) (k : List FV → Option β) : allFvK (.nils :: l) e k = e := rfl
theorem alv_app (r : Ref) (es : List FV) (l : List IV) (e : Option β) (k : List FV → Option β) : allFvK (.app r es :: l) e k = e := rfl
theorem alv_clip (es : List FV) (l : List IV) (e : Option β) (k : List FV → Option β) : allFvK (.clip es :: l) e k = e := rfl
theorem alv_ptr (r : Ref) (o : Nat) (l : List IV) (e : Option β) (k : List FV → Option β) : allFvK (.ptr r o :: l) e k = e := rfl
theorem alv_slc (r : Ref) (a b : Nat) (l : List IV) (e : Option β) (k : List FV → Option β) : allFvK (.slc r a b :: l) e k = e := rfl
theorem alv_agg (es l : List IV) (e : Option β) (k : List FV → Option β) : allFvK (.agg es :: l) e k = e := rfl
theorem alv_mapr (r : Ref) (l : List IV) (e : Option β) (k : List FV → Option β) : allFvK (.mapr r :: l) e k = e := rfl
theorem agg_e (l : List IV) (k : IV → Option β) : aggK l k = allFvK l (k (.agg l)) fun vs => k (.fv (.agg vs)) := rfl
theorem tup_e (l : List IV) (k : IV → Option β) : tupK l k = allFvK l (k (.tuple l)) fun vs => k (.fv (.tuple vs)) := rfl
/-! Loads, stores. -/
theorem l1_e (a : IV) (h : Hp) (k : IV → List Ref → Option β) : load1 a h k = asPtr a (fun r o => getK r h fun b => asRow b fun cells => nthK cells o fun v => k v [r]) fun cells o => nthK cells o fun v => k (.fv v) [] := rfl
theorem lA_e (size : Nat) (a : IV) (h : Hp) (k : IV → List Ref → Option β) : loadA size a h k =
    asPtr a (fun r o => getK r h fun b => asRow b fun cells => drpK cells o fun cs => takK cs size fun cs => aggK cs fun v => k v [r]) fun cells o => drpK cells o fun cs => takK cs size fun cs => k (.fv (.agg cs)) [] := rfl
theorem cell_t (size : Nat) (a : IV) (h : Hp) (k : IV → Option β) : cellS true size a h k = loadA size a h fun v _ => k v := rfl
theorem cell_f (size : Nat) (a : IV) (h : Hp) (k : IV → Option β) : cellS false size a h k = load1 a h fun v _ => k v := rfl
theorem wr0 (l : List IV) (k : List IV → Option β) : wrK [] l k = k l := rfl
theorem wr1 (c : FV) (cs : List FV) (x : IV) (l : List IV) (k : List IV → Option β) : wrK (c :: cs) (x :: l) k = wrK cs l fun t => k (.fv c :: t) := rfl
theorem sf0 (x : IV) (l : List IV) (cs : List FV) (k : List IV → Option β) : setFK (x :: l) 0 cs k = wrK cs (x :: l) k := rfl
theorem sf1 (x : IV) (l : List IV) (cs : List FV) (k : List IV → Option β) : setFK (x :: l) 1 cs k = setFK l 0 cs fun t => k (x :: t) := rfl
theorem of0 (x b : IV) (l : List IV) (k : List IV → Option β) : offK (x :: l) 0 b k = k (b :: l) := rfl
theorem of1 (x y b : IV) (l : List IV) (k : List IV → Option β) : offK (x :: y :: l) 1 b k = k (x :: b :: l) := rfl
theorem of2 (x y z b : IV) (l : List IV) (k : List IV → Option β) : offK (x :: y :: z :: l) 2 b k = k (x :: y :: b :: l) := rfl
theorem of3 (x y z u b : IV) (l : List IV) (k : List IV → Option β) : offK (x :: y :: z :: u :: l) 3 b k = k (x :: y :: z :: b :: l) := rfl
theorem of6 (x y z u v w s b : IV) (l : List IV) (k : List IV → Option β) : offK (x :: y :: z :: u :: v :: w :: s :: l) 6 b k = k (x :: y :: z :: u :: v :: w :: b :: l) := rfl
theorem sA_f (size : Nat) (a : IV) (cs : List FV) (h : Hp) (k : Hp → List Ref → List Ref → Option β) : storeA size a (.fv (.agg cs)) h k =
    asPtr a (fun r o => getK r h fun b => asFree b fun cells => cond (and (Nat.beq cs.length size) (allOneF cs)) (setFK cells o cs fun cells => layK r (.row cells false) h fun h => k h [r] [r]) none) fun _ _ => none := rfl
theorem ml_own (s : Nat) (x : IV) : mayLie (.own s) x = true := rfl
/-- Three live cells. -/
theorem sA_3 (s : Nat) (a b c : IV) (ha : a.one = true) (hb : b.one = true) (hc : c.one = true) (own : List (Nat × Blk)) (ext : List Blk) (k : Hp → List Ref → List Ref → Option β) :
    storeA 3 (.ptr (.own s) 0) (.agg [a, b, c]) ⟨own, ext⟩ k = ownK own s fun bl => asFree bl fun cells => cond (Nat.ble 3 cells.length) (layK (.own s) (.row (setCells cells 0 [a, b, c]) false) ⟨own, ext⟩ fun h => k h [.own s] [.own s]) none := by
  show ownK own s (fun bl => asFree bl fun cells => if IV.alive (.agg [a, b, c]) = true ∧ (IV.cells (.agg [a, b, c])).length = 3 ∧ 0 + 3 ≤ cells.length ∧ (IV.cells (.agg [a, b, c])).all IV.one = true ∧ mayLie (.own s) (.agg [a, b, c]) = true then
    spK (setCells cells 0 (IV.cells (.agg [a, b, c]))) fun cells => layK (.own s) (.row cells false) ⟨own, ext⟩ fun h => k h [.own s] [.own s] else none) = _
  congr 1
  funext bl
  congr 1
  funext cells
  by_cases h3 : 3 ≤ cells.length
  · rw [if_pos ⟨rfl, rfl, by omega, by simp [IV.cells, ha, hb, hc], rfl⟩, spK_eq, ble_dec, decide_eq_true h3]
    rfl
  · rw [if_neg (fun h => h3 (by omega)), ble_dec, decide_eq_false h3]
    rfl
theorem sc3 (a b c x y z : IV) : setCells [x, y, z] 0 [a, b, c] = [a, b, c] := rfl
theorem s1_e (a x : IV) (h : Hp) (k : Hp → List Ref → List Ref → Option β) : store1 a x h k =
    cond x.one (asPtr a (fun r o => getK r h fun b => asFree b fun cells => cond (mayLie r x) (offK cells o x fun cells => layK r (.row cells false) h fun h => k h [r] [r]) none) fun _ _ => none) (storeA 1 a x h k) := rfl
theorem fa_p (o : Nat) (r : Ref) (k : IV → Option β) : faddrS o (.ptr r 0) k = k (.ptr r o) := by rw [x_faddr, Nat.zero_add]
theorem fa_f (o : Nat) (cs : List FV) (k : IV → Option β) : faddrS o (.fv (.fp cs 0)) k = k (.fv (.fp cs o)) := by rw [x_faddr_f, Nat.zero_add]
theorem nil_p (r : Ref) (o : Nat) (k : IV → Option β) : nilS (.ptr r o) k = k (.ptr r o) := rfl
theorem nil_f (cs : List FV) (o : Nat) (k : IV → Option β) : nilS (.fv (.fp cs o)) k = k (.fv (.fp cs o)) := rfl
theorem nil_func (g : FuncId) (a b : List FV) (k : IV → Option β) : nilS (.fv (.func (.func g) a b)) k = k (.fv (.func (.func g) a b)) := rfl
theorem ex_t (ix : Nat) (vs : List IV) (k : IV → Option β) : extS ix (.tuple vs) k = nthK vs ix k := rfl
theorem ex_f (ix : Nat) (vs : List FV) (k : IV → Option β) : extS ix (.fv (.tuple vs)) k = nthK vs ix fun v => k (.fv v) := rfl
theorem f1_e (o : Nat) (x : IV) (k : IV → Option β) : fld1 o x k = asAgg x (fun cs => nthK cs o k) fun cs => nthK cs o fun v => k (.fv v) := rfl
theorem fA_e (size o : Nat) (x : IV) (k : IV → Option β) : fldA size o x k = asAgg x (fun cs => drpK cs o fun cs => takK cs size fun cs => aggK cs k) fun cs => drpK cs o fun cs => takK cs size fun cs => k (.fv (.agg cs)) := rfl
/-! Composites. -/
theorem bld_e (z : List IV) (pl : List (Nat × Nat × IV)) (k : IV → Option β) : bldS z pl k = fillK z pl fun cells => aggK cells k := rfl
theorem fk0 (z : List IV) (k : List IV → Option β) : fillK z [] k = k z := rfl
theorem fk1 (z : List IV) (o sz : Nat) (v : IV) (pl : List (Nat × Nat × IV)) (k : List IV → Option β) : fillK z ((o, sz, v) :: pl) k = fillP z o sz v fun z => fillK z pl k := rfl
theorem fp_one {v : IV} (hv : v.one = true) (z : List IV) (o : Nat) (k : List IV → Option β) : fillP z o 1 v k = offK z o v k := by
  unfold fillP
  cases v with
  | fv w =>
    show cond (oneF w) _ _ = _
    have : oneF w = true := by cases w <;> first | rfl | cases hv
    rw [this]; rfl
  | _ => show fillG _ _ _ _ _ = _; unfold fillG; rw [hv]; rfl
theorem fp_agg (z : List IV) (o sz : Nat) (cs : List FV) (k : List IV → Option β) : fillP z o sz (.fv (.agg cs)) k = cond (Nat.beq cs.length sz) (setFK z o cs k) none := rfl
theorem nb3 (a b c : FV) : Nat.beq [a, b, c].length 3 = true := rfl
theorem nb4 (a b c d : FV) : Nat.beq [a, b, c, d].length 4 = true := rfl
theorem nb7 (a b c d e f g : FV) : Nat.beq [a, b, c, d, e, f, g].length 7 = true := rfl
theorem nl3 (a b c : IV) : Nat.ble 3 [a, b, c].length = true := rfl
theorem and_tt : (and true true) = true := rfl
end
end Idl
end Go.Proofs.Ytdibmackcbpniaa
namespace Go.Proofs.Ytdibmackcbpniaa
namespace Idl

section
variable {β : Type} {E : Env} {t : TypeId}
/-! Numbers. -/
theorem iv_e (n : Int) : IV.fv (.int .i64 n) = iv n := rfl
/-- 64 bits. -/
def w64 (n : Int) : Int := IntKind.i64.wrap n
theorem w64_id {n : Int} (h1 : -9223372036854775808 ≤ n) (h2 : n ≤ 9223372036854775807) : w64 n = n := by
  show (if (true && decide ((n % (18446744073709551616 : Int)) ≥ (9223372036854775808 : Int))) = true then (n % (18446744073709551616 : Int)) - (18446744073709551616 : Int) else (n % (18446744073709551616 : Int))) = n
  by_cases h : 0 ≤ n
  · have e : n % (18446744073709551616 : Int) = n := by omega
    have e2 : ¬ n ≥ (9223372036854775808 : Int) := by omega
    rw [e, decide_eq_false e2]
    rfl
  · have e : n % (18446744073709551616 : Int) = n + 18446744073709551616 := by omega
    have e2 : n + 18446744073709551616 ≥ (9223372036854775808 : Int) := by omega
    rw [e, decide_eq_true e2]
    simp
theorem w64_range (n : Int) : -9223372036854775808 ≤ w64 n ∧ w64 n ≤ 9223372036854775807 := by
  show -9223372036854775808 ≤ (if (true && decide ((n % (18446744073709551616 : Int)) ≥ (9223372036854775808 : Int))) = true then (n % (18446744073709551616 : Int)) - (18446744073709551616 : Int) else (n % (18446744073709551616 : Int))) ∧
    (if (true && decide ((n % (18446744073709551616 : Int)) ≥ (9223372036854775808 : Int))) = true then (n % (18446744073709551616 : Int)) - (18446744073709551616 : Int) else (n % (18446744073709551616 : Int))) ≤ 9223372036854775807
  by_cases h : n % (18446744073709551616 : Int) ≥ (9223372036854775808 : Int)
  · rw [decide_eq_true h]
    simp only [Bool.and_self, if_true]
    omega
  · rw [decide_eq_false h]
    simp only [Bool.and_false, Bool.false_eq_true, if_false]
    omega
theorem add_s (a b : Int) (k : IV → Option β) : addS E t (iv a) (iv b) k = k (iv (w64 (a + b))) := by
  have hg : binS E t .add (iv a) (iv b) k = k (iv (w64 (a + b))) := by
    rw [binS, optS_eq]; rfl
  cases a with
  | negSucc a => exact hg
  | ofNat a => cases b with
    | negSucc b => exact hg
    | ofNat b =>
      show cond (Nat.ble (a + b) 9223372036854775807) (intK (a + b) k) _ = _
      rw [ble_dec]
      by_cases h : a + b ≤ 9223372036854775807
      · rw [decide_eq_true h]
        show intK (a + b) k = _
        rw [intK_eq]
        have : w64 (Int.ofNat a + Int.ofNat b) = ((a + b : Nat) : Int) := by
          rw [w64_id (by simp only [Int.ofNat_eq_natCast]; omega) (by simp only [Int.ofNat_eq_natCast]; omega)]
          simp only [Int.ofNat_eq_natCast]; omega
        rw [this]
      · rw [decide_eq_false h]
        exact hg
theorem sub_s (a b : Int) (k : IV → Option β) : subS E t (iv a) (iv b) k = k (iv (w64 (a - b))) := by
  have hg : binS E t .sub (iv a) (iv b) k = k (iv (w64 (a - b))) := by
    rw [binS, optS_eq]; rfl
  cases a with
  | negSucc a => exact hg
  | ofNat a => cases b with
    | negSucc b => exact hg
    | ofNat b =>
      show cond (and (Nat.ble b a) (Nat.ble a 9223372036854775807)) (intK (a - b) k) _ = _
      rw [ble_dec, ble_dec]
      by_cases h : b ≤ a ∧ a ≤ 9223372036854775807
      · rw [decide_eq_true h.1, decide_eq_true h.2]
        show intK (a - b) k = _
        rw [intK_eq]
        have : w64 (Int.ofNat a - Int.ofNat b) = ((a - b : Nat) : Int) := by
          rw [w64_id (by simp only [Int.ofNat_eq_natCast]; omega) (by simp only [Int.ofNat_eq_natCast]; omega)]
          simp only [Int.ofNat_eq_natCast]; omega
        rw [this]
      · have : (decide (b ≤ a) && decide (a ≤ 9223372036854775807)) = false := by
          rw [← Bool.decide_and]; exact decide_eq_false h
        rw [show and (decide (b ≤ a)) (decide (a ≤ 9223372036854775807)) = false from this]
        exact hg
theorem mul_s (a b : Int) (k : IV → Option β) : binS E t .mul (iv a) (iv b) k = k (iv (w64 (a * b))) := by
  rw [binS, optS_eq]; rfl
theorem quo_s {b : Int} (hb : b ≠ 0) (a : Int) (k : IV → Option β) : binS E t .quo (iv a) (iv b) k = k (iv (w64 (a.tdiv b))) := by
  rw [binS, optS_eq]
  have : binR E .quo t (iv a) (iv b) = some (iv (w64 (a.tdiv b))) := by
    show (pureVal (Op.intDiv .quo .i64 a b)).bind ofScal = _
    simp only [Op.intDiv, hb, if_false]
    rfl
  rw [this]; rfl
theorem rem_s {b : Int} (hb : b ≠ 0) (a : Int) (k : IV → Option β) : binS E t .rem (iv a) (iv b) k = k (iv (a.tmod b)) := by
  rw [binS, optS_eq]
  have : binR E .rem t (iv a) (iv b) = some (iv (a.tmod b)) := by
    show (pureVal (Op.intDiv .rem .i64 a b)).bind ofScal = _
    simp only [Op.intDiv, hb, if_false]
    rfl
  rw [this]; rfl
theorem eq_s (a b : Int) (k : IV → Option β) : eqS E t (iv a) (iv b) k = k (.fv (.bool (decide (a = b)))) := x_eqI a b k
theorem ne_s (a b : Int) (k : IV → Option β) : neS E t (iv a) (iv b) k = k (.fv (.bool (!decide (a = b)))) := x_neI a b k
theorem lt_s (a b : Int) (k : IV → Option β) : ltS E t (iv a) (iv b) k = k (.fv (.bool (decide (a < b)))) := x_ltI a b k
theorem le_s (a b : Int) (k : IV → Option β) : leS E t (iv a) (iv b) k = k (.fv (.bool (decide (a ≤ b)))) := x_leI a b k
theorem gt_s (a b : Int) (k : IV → Option β) : gtS E t (iv a) (iv b) k = k (.fv (.bool (decide (b < a)))) := by
  rw [gtS, x_cmpI (fun a b => by
    show some (IV.fv (.bool (decide ((a : Int) > (b : Int))))) = _
    rw [ble_dec]
    congr 3
    exact decide_eq_decide.2 (by omega))]
  rfl
theorem ge_s (a b : Int) (k : IV → Option β) : geS E t (iv a) (iv b) k = k (.fv (.bool (decide (b ≤ a)))) := by
  rw [geS, x_cmpI (fun a b => by
    show some (IV.fv (.bool (decide ((a : Int) ≥ (b : Int))))) = _
    rw [ble_dec]
    congr 3
    exact decide_eq_decide.2 (by omega))]
  rfl
theorem eq_sb (a b : Bool) (hT : E.T t = some ⟨1, 1, .bool, [.fv (.bool false)]⟩) (k : IV → Option β) : eqS E t (.fv (.bool a)) (.fv (.bool b)) k = k (.fv (.bool (a == b))) := by
  show binS E t .eql _ _ k = _
  rw [binS, optS_eq]
  have : binR E .eql t (.fv (.bool a)) (.fv (.bool b)) = some (.fv (.bool (a == b))) := by
    simp only [binR, hT, eqOp]
  rw [this]; rfl
theorem not_s (b : Bool) (k : IV → Option β) : optS (unR .not (.fv (.bool b))) k = k (.fv (.bool !b)) := x_not b k
/-! Choices. -/
theorem cd_t (a b : Option β) : condS (.fv (.bool true)) a b = a := rfl
theorem cd_f (a b : Option β) : condS (.fv (.bool false)) a b = b := rfl
theorem cd_d (c : Prop) [Decidable c] (a b : Option β) : condS (.fv (.bool (decide c))) a b = if c then a else b := x_cond c a b
theorem cd_n (c : Prop) [Decidable c] (a b : Option β) : condS (.fv (.bool (!decide c))) a b = if c then b else a := by
  by_cases h : c
  · rw [decide_eq_true h, if_pos h]; rfl
  · rw [decide_eq_false h, if_neg h]; rfl
theorem cd_b (c : Bool) (a b : Option β) : condS (.fv (.bool c)) a b = if c = true then a else b := by
  cases c <;> rfl
theorem pk_e (c a b : IV) (k : IV → Option β) : pickS c a b k = condS c (k a) (k b) := rfl
theorem gd_mt {b : Bool} (hb : b = true) (h : Hp) (m : (IV → Hp → List Ref → List Ref → Option β) → Option β) (k : IV → Hp → List Ref → List Ref → Option β) : guardS (.fv (.bool b)) true h m k = m k := by rw [hb]; rfl
theorem gd_mf {b : Bool} (hb : b = false) (h : Hp) (m : (IV → Hp → List Ref → List Ref → Option β) → Option β) (k : IV → Hp → List Ref → List Ref → Option β) : guardS (.fv (.bool b)) false h m k = m k := by rw [hb]; rfl
theorem gd_sf {b : Bool} (hb : b = true) (h : Hp) (m : (IV → Hp → List Ref → List Ref → Option β) → Option β) (k : IV → Hp → List Ref → List Ref → Option β) : guardS (.fv (.bool b)) false h m k = k undefV h [] [] := by rw [hb]; rfl
theorem gd_st {b : Bool} (hb : b = false) (h : Hp) (m : (IV → Hp → List Ref → List Ref → Option β) → Option β) (k : IV → Hp → List Ref → List Ref → Option β) : guardS (.fv (.bool b)) true h m k = k undefV h [] [] := by rw [hb]; rfl
theorem gd_u (w : Bool) (h : Hp) (m : (IV → Hp → List Ref → List Ref → Option β) → Option β) (k : IV → Hp → List Ref → List Ref → Option β) : guardS undefV w h m k = k undefV h [] [] := rfl
/-! What is not ordered. -/
theorem ch0 (rd wr : List Ref) (a : Option β) : chkS [] rd wr a = a := rfl
theorem ch1 (q1 q2 : List Ref) (l : List (List Ref × List Ref)) (rd wr : List Ref) (a : Option β) : chkS ((q1, q2) :: l) rd wr a = cond (djB q2 rd) (cond (djB q2 wr) (cond (djB wr q1) (chkS l rd wr a) none) none) none := rfl
theorem dj0 (b : List Ref) : djB [] b = true := rfl
theorem djn : ∀ (a : List Ref), djB a [] = true
  | [] => rfl
  | _ :: a => djn a
theorem dj1 (r : Ref) (a b : List Ref) : djB (r :: a) b = cond (allNe r b) (djB a b) false := rfl
theorem an0 (r : Ref) : allNe r [] = true := rfl
theorem an1 (r s : Ref) (l : List Ref) : allNe r (s :: l) = cond (refNe r s) (allNe r l) false := rfl
theorem rn_o {i j : Nat} (h : (i == j) = false) : refNe (.own i) (.own j) = true := by
  show not (Nat.beq i j) = true
  rw [show Nat.beq i j = false from N_bf h]; rfl
theorem rn_oe (i j : Nat) : refNe (.own i) (.ext j) = true := rfl
theorem rn_eo (i j : Nat) : refNe (.ext i) (.own j) = true := rfl
theorem out1 (v : IV) (h : Hp) : outS1 [v] h = some (v, h) := rfl
theorem out0 (h : Hp) : outS1 [] h = some (.fv (.tuple []), h) := rfl
theorem out2 (a b : IV) (h : Hp) : outS1 [a, b] h = tupK [a, b] fun v => some (v, h) := rfl
theorem out3 (a b c : IV) (h : Hp) : outS1 [a, b, c] h = tupK [a, b, c] fun v => some (v, h) := rfl
theorem out4 (a b c d : IV) (h : Hp) : outS1 [a, b, c, d] h = tupK [a, b, c, d] fun v => some (v, h) := rfl
/-! Slices that are not written. -/
theorem len_f (es : List FV) (k : IV → Option β) : lenS (.fv (.sl es)) k = k (iv es.length) := intK_eq ..
theorem len_0 (k : IV → Option β) : lenS .nils k = k (iv 0) := rfl
theorem len_c (es : List FV) (k : IV → Option β) : lenS (.clip es) k = k (iv es.length) := intK_eq ..
theorem len_a (r : Ref) (es : List FV) (k : IV → Option β) : lenS (.app r es) k = k (iv es.length) := intK_eq ..
theorem len_s (r : Ref) (sz n : Nat) (k : IV → Option β) : lenS (.slc r sz n) k = k (iv n) := intK_eq ..
theorem ix_f {size : Nat} {es : List FV} {n : Nat} {el : FV} (he : es[n]? = some el) (hl : el.cells.length = size) (k : IV → Option β) : ixS size (.fv (.sl es)) (iv n) k = k (.fv (.fp el.cells 0)) := x_ix he hl k
theorem ix_a {size : Nat} {r : Ref} {es : List FV} {n : Nat} {el : FV} (he : es[n]? = some el) (hl : el.cells.length = size) (k : IV → Option β) : ixS size (.app r es) (iv n) k = k (.fv (.fp el.cells 0)) := x_ix he hl k
theorem ix_c {size : Nat} {es : List FV} {n : Nat} {el : FV} (he : es[n]? = some el) (hl : el.cells.length = size) (k : IV → Option β) : ixS size (.clip es) (iv n) k = k (.fv (.fp el.cells 0)) := x_ix he hl k
theorem ix_s {size sz len : Nat} {r : Ref} {n : Nat} (hn : n < len) (hs : sz = size) (k : IV → Option β) : ixS size (.slc r sz len) (iv n) k = k (.ptr r (n * sz)) := by
  show cond (and (Nat.ble (Nat.succ n) len) (Nat.beq sz size)) (fNat (n * sz) fun o => k (.ptr r o)) none = _
  rw [ble_dec, decide_eq_true (show Nat.succ n ≤ len from hn), hs, show Nat.beq size size = true from Nat.beq_refl size]
  simp only [Bool.and_self, cond_true]
  rw [fNat_eq]
theorem ix0_agg (size : Nat) (cs : List FV) (es : List FV) (hl : cs.length = size) (k : IV → Option β) : ixS size (.fv (.sl (.agg cs :: es))) (iv 0) k = k (.fv (.fp cs 0)) := ix_f (el := .agg cs) (n := 0) rfl hl k
theorem ix1_agg (size : Nat) (cs : List FV) (e : FV) (es : List FV) (hl : cs.length = size) (k : IV → Option β) : ixS size (.fv (.sl (e :: .agg cs :: es))) (iv 1) k = k (.fv (.fp cs 0)) := ix_f (el := .agg cs) (n := 1) rfl hl k
theorem ix2_agg (size : Nat) (cs : List FV) (e e' : FV) (es : List FV) (hl : cs.length = size) (k : IV → Option β) : ixS size (.fv (.sl (e :: e' :: .agg cs :: es))) (iv 2) k = k (.fv (.fp cs 0)) := ix_f (el := .agg cs) (n := 2) rfl hl k
theorem ix3_agg (size : Nat) (cs : List FV) (e e' e'' : FV) (es : List FV) (hl : cs.length = size) (k : IV → Option β) : ixS size (.fv (.sl (e :: e' :: e'' :: .agg cs :: es))) (iv 3) k = k (.fv (.fp cs 0)) := ix_f (el := .agg cs) (n := 3) rfl hl k

/-! Freezing; calls. -/
/-- A value of these blocks, frozen. -/
def Fz (v : IV) (own : List (Nat × Blk)) (w : FV) : Prop := ∃ u lg, ∀ (e : Option (IV × Hp)) (K : FV → List (Ref × Blk) → List Ref → Option (IV × Hp)), fzU 12 v ⟨own, []⟩ [] e K = K w u lg
/-- What a call answers. -/
def Ans (r : Option (IV × Hp)) (w : FV) : Prop := ∃ v own, r = some (v, ⟨own, []⟩) ∧
  (Fz v own w ∨ ((∀ (e : Option (IV × Hp)) (K : FV → List (Ref × Blk) → List Ref → Option (IV × Hp)), fzU 12 v ⟨own, []⟩ [] e K = e) ∧ ∃ u, (frz 4096 v).run ⟨own, []⟩ = some (w, u)))
/-- Likewise, of a value that is no tuple. -/
def AnsF (r : Option (IV × Hp)) (w : FV) : Prop := ∃ v own, r = some (v, ⟨own, []⟩) ∧ Fz v own w
theorem fz_fv (w : FV) (own : List (Nat × Blk)) : Fz (.fv w) own w := ⟨[], [], fun _ _ => rfl⟩
theorem ans_fv (w : FV) (own : List (Nat × Blk)) : Ans (some (.fv w, ⟨own, []⟩)) w := ⟨_, own, rfl, .inl (fz_fv w own)⟩
/-- What freezes without a look at blocks. -/
def frz1 : IV → Option FV
  | .fv v => some v
  | .nils => some (.sl [])
  | .emp => some (.sl [])
  | .clip es => some (.sl es)
  | .app _ es => some (.sl es)
  | _ => none
def frz1L : List IV → Option (List FV)
  | [] => some []
  | v :: l => (frz1 v).bind fun x => (frz1L l).map fun xs => x :: xs
def frzP (v : IV) : Option FV := match v with
  | .agg cs => if cs.length ≤ 8 then (frz1L cs).map .agg else none
  | v => frz1 v
def frzPL : List IV → Option (List FV)
  | [] => some []
  | v :: l => (frzP v).bind fun x => (frzPL l).map fun xs => x :: xs
theorem zp_fv (v : FV) : frzP (.fv v) = some v := rfl
theorem zp_nils : frzP .nils = some (.sl []) := rfl
theorem zp_emp : frzP .emp = some (.sl []) := rfl
theorem zp_clip (es : List FV) : frzP (.clip es) = some (.sl es) := rfl
theorem zp_app (r : Ref) (es : List FV) : frzP (.app r es) = some (.sl es) := rfl
theorem zq_fv (v : FV) : frz1 (.fv v) = some v := rfl
theorem zq_nils : frz1 .nils = some (.sl []) := rfl
theorem zq_emp : frz1 .emp = some (.sl []) := rfl
theorem zq_clip (es : List FV) : frz1 (.clip es) = some (.sl es) := rfl
theorem zq_app (r : Ref) (es : List FV) : frz1 (.app r es) = some (.sl es) := rfl
theorem zp_3 {a b c : IV} {x y z : FV} (ha : frz1 a = some x) (hb : frz1 b = some y) (hc : frz1 c = some z) : frzP (.agg [a, b, c]) = some (.agg [x, y, z]) := by
  show (if 3 ≤ 8 then (frz1L [a, b, c]).map FV.agg else none) = _
  simp [frz1L, ha, hb, hc]
theorem zp_4 {a b c d : IV} {x y z u : FV} (ha : frz1 a = some x) (hb : frz1 b = some y) (hc : frz1 c = some z) (hd : frz1 d = some u) : frzP (.agg [a, b, c, d]) = some (.agg [x, y, z, u]) := by
  show (if 4 ≤ 8 then (frz1L [a, b, c, d]).map FV.agg else none) = _
  simp [frz1L, ha, hb, hc, hd]
theorem fz1_u {v : IV} {x : FV} (d : Nat) (h : Hp) (lg : List Ref) (e : Option β) (k : FV → List (Ref × Blk) → List Ref → Option β) (hz : frz1 v = some x) : fzU (d + 1) v h lg e k = k x [] lg := by
  cases v <;> first | (cases hz; rfl) | (cases hz)
theorem fz1_l (d : Nat) (h : Hp) (lg : List Ref) (e : Option β) : ∀ (cs : List IV) (k : List FV → List (Ref × Blk) → List Ref → Option β) {xs : List FV}, frz1L cs = some xs → fzLK (fzU (d + 1)) cs h lg e k = k xs [] lg
  | [], k, xs, hz => by cases hz; rfl
  | v :: cs, k, xs, hz => by
    simp only [frz1L] at hz
    cases h1 : frz1 v with
    | none => rw [h1] at hz; cases hz
    | some x =>
      rw [h1] at hz
      cases h2 : frz1L cs with
      | none => rw [h2] at hz; cases hz
      | some ys =>
        rw [h2] at hz
        cases hz
        show fzU (d + 1) v h lg e (fun y u lg => fzLK (fzU (d + 1)) cs h lg e fun ys us lg => apK u us fun w => k (y :: ys) w lg) = _
        rw [fz1_u d h lg e _ h1, fz1_l d h lg e cs _ h2]
        rfl
theorem fzp_u {v : IV} {x : FV} (h : Hp) (lg : List Ref) (e : Option β) (k : FV → List (Ref × Blk) → List Ref → Option β) (hz : frzP v = some x) : fzU 12 v h lg e k = k x [] lg := by
  cases v with
  | agg cs =>
    simp only [frzP] at hz
    split at hz
    · rename_i hl
      cases h2 : frz1L cs with
      | none => rw [h2] at hz; cases hz
      | some ys =>
        rw [h2] at hz
        cases hz
        show cond (Nat.ble cs.length 300) (fzLK (fzU 11) cs h lg e fun cs u lg => k (.agg cs) u lg) e = _
        rw [ble_dec, decide_eq_true (show cs.length ≤ 300 by omega)]
        exact fz1_l 10 h lg e cs _ h2
    · cases hz
  | _ => exact fz1_u 11 h lg e k hz
theorem fz_p {v : IV} {x : FV} (hz : frzP v = some x) (own : List (Nat × Blk)) : Fz v own x := ⟨[], [], fun e K => fzp_u _ _ e K hz⟩
theorem ans_p {v : IV} {x : FV} (hz : frzP v = some x) (own : List (Nat × Blk)) : Ans (some (v, ⟨own, []⟩)) x := ⟨v, own, rfl, .inl (fz_p hz own)⟩
theorem fr1 {v : IV} {x : FV} (n : Nat) (hz : frz1 v = some x) : frz (n + 1) v = .ret (x, []) := by
  cases v <;> first | (cases hz; rfl) | (cases hz)
theorem fr1_l : ∀ (cs : List IV) (n : Nat) {xs : List FV}, cs.length + 1 < n → frz1L cs = some xs → frzL n cs = .ret (xs, [])
  | [], n + 1, xs, _, hz => by cases hz; rfl
  | v :: cs, n + 2, xs, hn, hz => by
    simp only [frz1L] at hz
    cases h1 : frz1 v with
    | none => rw [h1] at hz; cases hz
    | some x =>
      rw [h1] at hz
      cases h2 : frz1L cs with
      | none => rw [h2] at hz; cases hz
      | some ys =>
        rw [h2] at hz
        cases hz
        simp only [List.length_cons] at hn
        simp only [frzL, fr1 n h1, Rd.bind, fr1_l cs (n + 1) (by omega) h2]
        rfl
theorem frp {v : IV} {x : FV} (n : Nat) (hn : 20 < n) (hz : frzP v = some x) : frz n v = .ret (x, []) := by
  cases n with
  | zero => omega
  | succ n =>
    cases v with
    | agg cs =>
      simp only [frzP] at hz
      split at hz
      · rename_i hl
        cases h2 : frz1L cs with
        | none => rw [h2] at hz; cases hz
        | some ys =>
          rw [h2] at hz
          cases hz
          simp only [frz, fr1_l cs n (by omega) h2, Rd.bind]
      · cases hz
    | _ => exact fr1 n hz
theorem frp_l : ∀ (cs : List IV) (n : Nat) {xs : List FV}, cs.length + 30 < n → frzPL cs = some xs → frzL n cs = .ret (xs, [])
  | [], n + 1, xs, _, hz => by cases hz; rfl
  | v :: cs, n + 1, xs, hn, hz => by
    simp only [frzPL] at hz
    cases h1 : frzP v with
    | none => rw [h1] at hz; cases hz
    | some x =>
      rw [h1] at hz
      cases h2 : frzPL cs with
      | none => rw [h2] at hz; cases hz
      | some ys =>
        rw [h2] at hz
        cases hz
        simp only [List.length_cons] at hn
        simp only [frzL, frp n (by omega) h1, Rd.bind, frp_l cs n (by omega) h2]
        rfl
/-- A tuple of such is answered. -/
theorem ans_t {vs : List IV} {xs : List FV} (hz : frzPL vs = some xs) (hl : vs.length ≤ 100) (own : List (Nat × Blk)) : Ans (some (.tuple vs, ⟨own, []⟩)) (.tuple xs) :=
  ⟨_, own, rfl, .inr ⟨fun _ _ => rfl, [], by
    show (frz (4095 + 1) (.tuple vs)).run _ = _
    simp only [frz, frp_l vs 4095 (by omega) hz, Rd.bind]
    rfl⟩⟩
theorem zl_nil : frzPL [] = some [] := rfl
theorem zl_2 {a b : IV} {x y : FV} (ha : frzP a = some x) (hb : frzP b = some y) : frzPL [a, b] = some [x, y] := by simp [frzPL, ha, hb]
theorem zl_3 {a b c : IV} {x y z : FV} (ha : frzP a = some x) (hb : frzP b = some y) (hc : frzP c = some z) : frzPL [a, b, c] = some [x, y, z] := by simp [frzPL, ha, hb, hc]
theorem zl_4 {a b c d : IV} {x y z u : FV} (ha : frzP a = some x) (hb : frzP b = some y) (hc : frzP c = some z) (hd : frzP d = some u) : frzPL [a, b, c, d] = some [x, y, z, u] := by simp [frzPL, ha, hb, hc, hd]
theorem zl_1 {a : IV} {x : FV} (ha : frzP a = some x) : frzPL [a] = some [x] := by simp [frzPL, ha]
theorem frz_args : ∀ (args : List IV) {vs : List FV}, frzPL args = some vs → frzArgs [] args = .ret (vs.map .fv, [], [])
  | [], vs, hz => by cases hz; rfl
  | v :: l, vs, hz => by
    simp only [frzPL] at hz
    cases h1 : frzP v with
    | none => rw [h1] at hz; cases hz
    | some x =>
      rw [h1] at hz
      cases h2 : frzPL l with
      | none => rw [h2] at hz; cases hz
      | some ys =>
        rw [h2] at hz
        cases hz
        simp only [frzArgs, frp 4096 (by omega) h1, Rd.bind, frz_args l h2]
        rfl
theorem fz0 (keep : List Bool) (h : Hp) (lg : List Ref) (e : Option β) (k : List IV → List Ref → List (Ref × Blk) → List Ref → Option β) : fzA [] keep h lg e k = k [] [] [] lg := rfl
theorem fz1 (x : IV) (l : List IV) (h : Hp) (lg : List Ref) (e : Option β) (k : List IV → List Ref → List (Ref × Blk) → List Ref → Option β) :
    fzA (x :: l) [] h lg e k = fzU 12 x h lg e fun y u lg => fzA l [] h lg e fun vs rs us lg => apK u us fun w => k (.fv y :: vs) rs w lg := rfl
theorem fz1k (x : IV) (l : List IV) (ks : List Bool) (h : Hp) (lg : List Ref) (e : Option β) (k : List IV → List Ref → List (Ref × Blk) → List Ref → Option β) :
    fzA (x :: l) (true :: ks) h lg e k = asPtr x (fun r o => fzA l ks h lg e fun vs rs us lg => k (.ptr r o :: vs) (r :: rs) us lg) fun _ _ => e := rfl
theorem fz1f (x : IV) (l : List IV) (ks : List Bool) (h : Hp) (lg : List Ref) (e : Option β) (k : List IV → List Ref → List (Ref × Blk) → List Ref → Option β) :
    fzA (x :: l) (false :: ks) h lg e k = fzU 12 x h lg e fun y u lg => fzA l ks h lg e fun vs rs us lg => apK u us fun w => k (.fv y :: vs) rs w lg := rfl
section
variable (d : Nat) (h : Hp) (lg : List Ref) (e : Option β) (k : FV → List (Ref × Blk) → List Ref → Option β)
theorem fu_fv (v : FV) : fzU 12 (.fv v) h lg e k = k v [] lg := rfl
theorem fu_nils : fzU 12 .nils h lg e k = k (.sl []) [] lg := rfl
theorem fu_emp : fzU 12 .emp h lg e k = k (.sl []) [] lg := rfl
theorem fu_clip (es : List FV) : fzU 12 (.clip es) h lg e k = k (.sl es) [] lg := rfl
theorem fu_app (r : Ref) (es : List FV) : fzU 12 (.app r es) h lg e k = k (.sl es) [] lg := rfl
theorem fu_agg (cs : List IV) : fzU 12 (.agg cs) h lg e k = cond (Nat.ble cs.length 300) (fzLK (fzU 11) cs h lg e fun cs u lg => k (.agg cs) u lg) e := rfl
theorem fu_ptr (s : Nat) (off : Nat) : fzU 12 (.ptr (.own s) off) h lg e k = getK (.own s) h fun b => asRow b fun cells => cond (Nat.ble cells.length 300) (fzLK (fzU 11) cells h (.own s :: lg) e fun cs u lg => k (.fp cs off) ((.own s, .row cells true) :: u) lg) e := rfl
theorem fu_slc (s sz len : Nat) : fzU 12 (.slc (.own s) sz len) h lg e k = getK (.own s) h fun b => asRow b fun cells => cond (Nat.ble cells.length 300) (cond (or (Nat.beq sz 0) (not (Nat.ble (len * sz) cells.length))) none
        (fzLK (fzU 11) cells h (.own s :: lg) e fun cs u lg => chK sz len cs fun els => k (.sl els) ((.own s, .row cells true) :: u) lg)) e := rfl
theorem fv_fv (v : FV) : fzU 11 (.fv v) h lg e k = k v [] lg := rfl
theorem fv_nils : fzU 11 .nils h lg e k = k (.sl []) [] lg := rfl
theorem fv_emp : fzU 11 .emp h lg e k = k (.sl []) [] lg := rfl
theorem fv_clip (es : List FV) : fzU 11 (.clip es) h lg e k = k (.sl es) [] lg := rfl
theorem fv_app (r : Ref) (es : List FV) : fzU 11 (.app r es) h lg e k = k (.sl es) [] lg := rfl
theorem fv_agg (cs : List IV) : fzU 11 (.agg cs) h lg e k = cond (Nat.ble cs.length 300) (fzLK (fzU 10) cs h lg e fun cs u lg => k (.agg cs) u lg) e := rfl
theorem fw_fv (v : FV) : fzU 10 (.fv v) h lg e k = k v [] lg := rfl
theorem fw_nils : fzU 10 .nils h lg e k = k (.sl []) [] lg := rfl
theorem fw_emp : fzU 10 .emp h lg e k = k (.sl []) [] lg := rfl
theorem fw_clip (es : List FV) : fzU 10 (.clip es) h lg e k = k (.sl es) [] lg := rfl
theorem fw_app (r : Ref) (es : List FV) : fzU 10 (.app r es) h lg e k = k (.sl es) [] lg := rfl
theorem fu_tup (cs : List IV) : fzU 12 (.tuple cs) h lg e k = e := rfl
theorem fl0 (g : FzK β) (k : List FV → List (Ref × Blk) → List Ref → Option β) : fzLK g [] h lg e k = k [] [] lg := rfl
theorem fl1 (g : FzK β) (x : IV) (l : List IV) (k : List FV → List (Ref × Blk) → List Ref → Option β) : fzLK g (x :: l) h lg e k = g x h lg e fun y u lg => fzLK g l h lg e fun ys us lg => apK u us fun w => k (y :: ys) w lg := rfl
end
/-- What comes after the arguments are frozen. -/
noncomputable def isoC (rs : List Ref) (r : Option (IV × Hp)) (h : Hp) (u : List (Ref × Blk)) (lg : List Ref) (e : Option (IV × Hp)) (g : List Ref → Option (IV × Hp)) (k : IV → Hp → List Ref → List Ref → Option (IV × Hp)) : Option (IV × Hp) := match rs with
  | [] => (match r with
    | none => none
    | some p => match p with
      | (v, h') => match h' with
        | ⟨own, ext⟩ => List.casesOn (motive := fun _ => Option (IV × Hp)) ext (fzU 12 v ⟨own, []⟩ [] e fun w _ _ => layU u h fun h2 => k (.fv w) h2 lg (keys u)) fun _ _ => none)
  | r :: rs => g (r :: rs)
theorem iso_e (keep : List Bool) (ih : Handler) (f : FuncId) (args : List IV) (h : Hp) (k : IV → Hp → List Ref → List Ref → Option (IV × Hp)) : isoS keep false false ih f args h k =
    fzA args keep h [] (isoD keep false false ih f args h k) fun vs rs u lg => isoC rs (ih f vs ⟨[], []⟩) h u lg (isoD keep false false ih f args h k) (fun rs => match rs with
      | [] => none
      | r :: rs => (match h with
        | ⟨own, ext⟩ => cond (goB 400 (r :: rs) 0 ext) (match ih f vs ⟨[], ext⟩ with
          | none => none
          | some p => match p with
            | (v, h') => match h' with
              | ⟨own', ext'⟩ => cond (and (Nat.beq ext'.length ext.length) (okB ext.length ext'))
                (fzU 12 v ⟨own', ext'⟩ [] (isoD keep false false ih f args h k) fun w _ _ => layU u ⟨own, ext'⟩ fun h2 => k (.fv w) h2 ((extsUp ext.length).reverse ++ lg) (keys u ++ extsUp ext.length)) none)
          (isoD keep false false ih f args h k))) k := by
  unfold isoS
  simp only [cond_false]
  congr 1
theorem iso_c {r : Option (IV × Hp)} {w : FV} (hr : AnsF r w) (h : Hp) (u : List (Ref × Blk)) (lg : List Ref) (e : Option (IV × Hp)) (g : List Ref → Option (IV × Hp)) (k : IV → Hp → List Ref → List Ref → Option (IV × Hp)) :
    isoC [] r h u lg e g k = layU u h fun h2 => k (.fv w) h2 lg (keys u) := by
  obtain ⟨v, own, rfl, u', lg', hz⟩ := hr
  simp only [isoC]
  rw [hz]
theorem lu0 (h : Hp) (k : Hp → Option β) : layU [] h k = k h := rfl
theorem lu1 (s : Nat) (b : Blk) (u : List (Ref × Blk)) (own : List (Nat × Blk)) (ext : List Blk) (k : Hp → Option β) : layU ((.own s, b) :: u) ⟨own, ext⟩ k = ownK own s fun _ => putOwnK own s b fun own => layU u ⟨own, ext⟩ k := rfl
theorem ky0 : keys [] = [] := rfl
theorem ky1 (r : Ref) (b : Blk) (u : List (Ref × Blk)) : keys ((r, b) :: u) = r :: keys u := rfl

/-! Calls of what freezes as it is. -/
theorem fza_p : ∀ (args : List IV) {vs : List FV} (h : Hp) (lg : List Ref) (e : Option β) (k : List IV → List Ref → List (Ref × Blk) → List Ref → Option β), frzPL args = some vs → fzA args [] h lg e k = k (vs.map .fv) [] [] lg
  | [], vs, h, lg, e, k, hz => by cases hz; rfl
  | v :: l, vs, h, lg, e, k, hz => by
    simp only [frzPL] at hz
    cases h1 : frzP v with
    | none => rw [h1] at hz; cases hz
    | some x =>
      rw [h1] at hz
      cases h2 : frzPL l with
      | none => rw [h2] at hz; cases hz
      | some ys =>
        rw [h2] at hz
        cases hz
        show fzU 12 v h lg e (fun y u lg => fzA l [] h lg e fun vs rs us lg => apK u us fun w => k (.fv y :: vs) rs w lg) = _
        rw [fzp_u h lg e _ h1, fza_p l h lg e _ h2]
        rfl
theorem renL_fv (f : Ref → Option Ref) : ∀ l : List FV, IV.ren.renL f (l.map .fv) = some (l.map .fv)
  | [] => rfl
  | v :: l => by
    simp only [List.map_cons, IV.ren.renL, IV.ren, renL_fv f l]
    rfl
theorem iso_p {ih : Handler} {f : FuncId} {args : List IV} {vs : List FV} {w : FV} (hz : frzPL args = some vs) (hr : Ans (ih f (vs.map .fv) ⟨[], []⟩) w) (h : Hp) (k : IV → Hp → List Ref → List Ref → Option (IV × Hp)) :
    isoS [] false false ih f args h k = k (.fv w) h [] [] := by
  obtain ⟨v, own, e, hv⟩ := hr
  have hD : (∃ u, (frz 4096 v).run ⟨own, []⟩ = some (w, u)) → isoD [] false false ih f args h k = k (.fv w) h [] [] := by
    rintro ⟨u, hu⟩
    unfold isoD
    simp only [frz_args args hz, Rd.runLog, gather, renL_fv, List.map_nil, renBlks, fL_eq (fV_eq 3), fL_eq fBk_eq, askedD, Bool.false_eq_true, if_false, e, hu, Option.map_some, IV.ren]
    show (match laid h ([] ++ (keys []).zip []) with | none => none | some h' => fH h' fun h' => fV 3 (.fv w) fun res => k res h' [] _) = _
    simp only [keys, List.map_nil, List.zip_nil_left, List.append_nil, laid, fH_eq, fV_eq]
  rw [iso_e, fza_p args h [] _ _ hz, e]
  simp only [isoC]
  rcases hv with ⟨u', lg', hf⟩ | ⟨hf, hu⟩
  · rw [hf]; rfl
  · rw [hf]; exact hD hu
theorem iso_0 {ih : Handler} {f : FuncId} {w : FV} (hr : Ans (ih f [] ⟨[], []⟩) w) (h : Hp) (k : IV → Hp → List Ref → List Ref → Option (IV × Hp)) :
    isoS [] false false ih f [] h k = k (.fv w) h [] [] := iso_p (vs := []) rfl hr h k
theorem iso_1 {ih : Handler} {f : FuncId} {a : IV} {x w : FV} (hr : Ans (ih f [.fv x] ⟨[], []⟩) w) (ha : frzP a = some x) (h : Hp) (k : IV → Hp → List Ref → List Ref → Option (IV × Hp)) :
    isoS [] false false ih f [a] h k = k (.fv w) h [] [] := iso_p (zl_1 ha) hr h k
theorem iso_2 {ih : Handler} {f : FuncId} {a b : IV} {x y w : FV} (hr : Ans (ih f [.fv x, .fv y] ⟨[], []⟩) w) (ha : frzP a = some x) (hb : frzP b = some y) (h : Hp) (k : IV → Hp → List Ref → List Ref → Option (IV × Hp)) :
    isoS [] false false ih f [a, b] h k = k (.fv w) h [] [] := iso_p (zl_2 ha hb) hr h k
theorem iso_3 {ih : Handler} {f : FuncId} {a b c : IV} {x y z w : FV} (hr : Ans (ih f [.fv x, .fv y, .fv z] ⟨[], []⟩) w) (ha : frzP a = some x) (hb : frzP b = some y) (hc : frzP c = some z) (h : Hp) (k : IV → Hp → List Ref → List Ref → Option (IV × Hp)) :
    isoS [] false false ih f [a, b, c] h k = k (.fv w) h [] [] := iso_p (zl_3 ha hb hc) hr h k
theorem iso_4 {ih : Handler} {f : FuncId} {a b c d : IV} {x y z u w : FV} (hr : Ans (ih f [.fv x, .fv y, .fv z, .fv u] ⟨[], []⟩) w) (ha : frzP a = some x) (hb : frzP b = some y) (hc : frzP c = some z) (hd : frzP d = some u) (h : Hp)
    (k : IV → Hp → List Ref → List Ref → Option (IV × Hp)) : isoS [] false false ih f [a, b, c, d] h k = k (.fv w) h [] [] := iso_p (zl_4 ha hb hc hd) hr h k
/-! What is done by the ideal run's own operation. -/
theorem gen_val (v : IV) (s : Nat) (h : Hp) (k : IV → Hp → List Ref → List Ref → Option β) : genS (.ret { eff := { val := v } }) s h k = k v h [] [] := by
  unfold genS
  simp only [Rd.runLog, newRefs, fV_eq]
  rfl
theorem gen_val' (v : IV) (s : Nat) (h : Hp) (k : IV → Hp → List Ref → List Ref → Option β) : genS (Idl.val v) s h k = k v h [] [] := gen_val v s h k
theorem mkf (fn : Fn) (a b : List FV) : mkFunc fn (a.map .fv) (b.map .fv) = .fv (.func fn a b) := by
  have key : ∀ l : List FV, allFv (l.map .fv) = some l := by
    intro l
    induction l with
    | nil => rfl
    | cons x l ih => simp [allFv, ih]
  simp only [mkFunc, key]
/-- A slice that is made of elements. -/
theorem bs_tm {e : TypeId} {a b : Nat} {ei : TI} {z : List IV} (hT : E.T t = some ⟨a, b, .slice e, z⟩) (he : E.T e = some ei) {len : Nat} (hs : ¬ (ei.size = 0 ∨ len * ei.size > 65536)) {parts : List (Nat × IV)} {cells : List FV}
    (hf : fillIn (fun j => some (j * ei.size, ei.size)) (rep len ei.zero) parts = some (cells.map .fv)) {s : Nat} {h : Hp} (k : IV → Hp → List Ref → List Ref → Option β) (hc : cells.length < 65000 := by simp) :
    genS (pcBuildSlice E t len parts) s h k = k (.clip (chunks ei.size len cells)) h [] [] := by
  have key : ∀ (l : List FV) (n : Nat), l.length < n → frzL n (l.map .fv) = .ret (l, []) := by
    intro l
    induction l with
    | nil => intro n hn; cases n with
      | zero => simp at hn
      | succ n => rfl
    | cons x l ih => intro n hn; cases n with
      | zero => simp at hn
      | succ n =>
        simp only [List.length_cons] at hn
        cases n with
        | zero => omega
        | succ n =>
          simp only [List.map_cons, frzL, frz, Rd.bind]
          rw [ih (n + 1) (by omega)]
          rfl
  have : pcBuildSlice E t len parts = .ret { eff := { val := .clip (chunks ei.size len cells), upd := [] } } := by
    simp only [pcBuildSlice, hT, he, if_neg hs, hf]
    rw [key _ _ (by omega)]
    rfl
  rw [this, gen_val]
end
end Idl
end Go.Proofs.Ytdibmackcbpniaa
namespace Go.Proofs.Ytdibmackcbpniaa
namespace Idl
def XX := And.intro @n0 <| And.intro @n1 <| And.intro @n2 <| And.intro @n3 <| And.intro @n4 <| And.intro @n5 <| And.intro @n6 <| And.intro @d0 <| And.intro @d1 <| And.intro @d2 <| And.intro @d3 <| And.intro @d4 <| And.intro @t1 <| And.intro @t2 <| And.intro @t3 <| And.intro @t4 <| And.intro @t7 <| And.intro @ap0 <| And.intro @ap1 <| And.intro @unc_c <| And.intro @c_t <| And.intro @c_f <| And.intro @g_own <| And.intro @g_ext <| And.intro @o_hit <| And.intro @o_miss <| And.intro @p_nil <| And.intro @p_hit <| And.intro @p_miss <| And.intro @f_nil <| And.intro @f_cons <| And.intro @lay_own <| And.intro @lay_ext <| And.intro @sn0 <| And.intro @new_e <| And.intro @box_agg <| And.intro @box_agg' <| And.intro @box_one <| And.intro @on_int <| And.intro @on_bool <| And.intro @on_sl <| And.intro @on_fp <| And.intro @on_func <| And.intro @on_nilp <| And.intro @on_nils <| And.intro @on_ptr <| And.intro @on_slc <| And.intro @on_app <| And.intro @on_clip <| And.intro @on_emp <| And.intro @on_agg <| And.intro @on_fagg <| And.intro @of_int <| And.intro @of_bool <| And.intro @of_sl <| And.intro @of_fp <| And.intro @of_nilp <| And.intro @of_agg <| And.intro @aof_nil <| And.intro @aof_cons <| And.intro @as_p <| And.intro @as_f <| And.intro @as_row <| And.intro @as_free <| And.intro @as_fv <| And.intro @as_nf1 <| And.intro @as_nf2 <| And.intro @as_nf3 <| And.intro @as_nf4 <| And.intro @as_nf5 <| And.intro @as_nf6 <| And.intro @as_nf7 <| And.intro @as_agF <| And.intro @as_ag <| And.intro @as_ag' <| And.intro @alv_nil <| And.intro @alv_fv <| And.intro @alv_nils <| And.intro @alv_app <| And.intro @alv_clip <| And.intro @alv_ptr <| And.intro @alv_slc <| And.intro @alv_agg <| And.intro @alv_mapr <| And.intro @agg_e <| And.intro @tup_e <| And.intro @l1_e <| And.intro @lA_e <| And.intro @cell_t <| And.intro @cell_f <| And.intro @wr0 <| And.intro @wr1 <| And.intro @sf0 <| And.intro @sf1 <| And.intro @of0 <| And.intro @of1 <| And.intro @of2 <| And.intro @of3 <| And.intro @of6 <| And.intro @sA_f <| And.intro @ml_own <| And.intro @sA_3 <| And.intro @sc3 <| And.intro @s1_e <| And.intro @fa_p <| And.intro @fa_f <| And.intro @nil_p <| And.intro @nil_f <| And.intro @nil_func <| And.intro @ex_t <| And.intro @ex_f <| And.intro @f1_e <| And.intro @fA_e <| And.intro @bld_e <| And.intro @fk0 <| And.intro @fk1 <| And.intro @fp_one <| And.intro @fp_agg <| And.intro @nb3 <| And.intro @nb4 <| And.intro @nb7 <| And.intro @nl3 <| And.intro @and_tt <| And.intro @add_s <| And.intro @sub_s <| And.intro @mul_s <| And.intro @quo_s <| And.intro @rem_s <| And.intro @eq_s <| And.intro @ne_s <| And.intro @lt_s <| And.intro @le_s <| And.intro @gt_s <| And.intro @ge_s <| And.intro @eq_sb <| And.intro @not_s <| And.intro @cd_t <| And.intro @cd_f <| And.intro @cd_d <| And.intro @cd_n <| And.intro @cd_b <| And.intro @pk_e <| And.intro @gd_mt <| And.intro @gd_mf <| And.intro @gd_sf <| And.intro @gd_st <| And.intro @gd_u <| And.intro @ch0 <| And.intro @ch1 <| And.intro @dj0 <| And.intro @djn <| And.intro @dj1 <| And.intro @an0 <| And.intro @an1 <| And.intro @rn_o <| And.intro @rn_oe <| And.intro @rn_eo <| And.intro @out1 <| And.intro @out0 <| And.intro @out2 <| And.intro @out3 <| And.intro @out4 <| And.intro @len_f <| And.intro @len_0 <| And.intro @len_c <| And.intro @len_a <| And.intro @len_s <| And.intro @ix_f <| And.intro @ix_a <| And.intro @ix_c <| And.intro @ix_s <| And.intro @ix0_agg <| And.intro @ix1_agg <| And.intro @ix2_agg <| And.intro @ix3_agg <| And.intro @zp_fv <| And.intro @zp_nils <| And.intro @zp_emp <| And.intro @zp_clip <| And.intro @zp_app <| And.intro @zq_fv <| And.intro @zq_nils <| And.intro @zq_emp <| And.intro @zq_clip <| And.intro @zq_app <| And.intro @zp_3 <| And.intro @zp_4 <| And.intro @zl_nil <| And.intro @zl_2 <| And.intro @zl_3 <| And.intro @zl_4 <| And.intro @zl_1 <| And.intro @gen_val <| @gen_val'
end Idl
end Go.Proofs.Ytdibmackcbpniaa
namespace Go.Proofs.Ytdibmackcbpniaa
namespace Idl
/-- With enough to go on, a call answers just this. -/
def Ev (f : FuncId) (args : List IV) (w : FV) : Prop := ∃ N, ∀ n, N ≤ n → Ans (SS dt n f args ⟨[], []⟩) w
/-- A loop: what is so at its head, going down by a number. -/
theorem loop_run {F : (List IV → Hp → Option (IV × Hp)) → List IV → Hp → Option (IV × Hp)} {Q : Option (IV × Hp) → Prop} (P : Nat → List IV → Hp → Prop)
    (step : ∀ k V H rec, P k V H → (∀ k' V' H', k' < k → P k' V' H' → Q (rec V' H')) → Q (F rec V H)) : ∀ m k V H, k < m → P k V H → Q (loopS m F V H) := by
  intro m
  induction m with
  | zero => intro k V H h; omega
  | succ m ih => intro k V H hk hP; exact step k V H (loopS m F) hP fun k' V' H' h1 h2 => ih k' V' H' (by omega) h2
theorem ans_fun {r : Option (IV × Hp)} {a b : FV} (h1 : Ans r a) (h2 : Ans r b) : a = b := by
  obtain ⟨v, own, rfl, h1⟩ := h1
  obtain ⟨v', own', e, h2⟩ := h2
  simp only [Option.some.injEq, Prod.mk.injEq, Hp.mk.injEq] at e
  obtain ⟨rfl, rfl, _⟩ := e
  rcases h1 with ⟨u, lg, hz⟩ | ⟨hz, u, hf⟩ <;> rcases h2 with ⟨u', lg', hz'⟩ | ⟨hz', u', hf'⟩
  · have h1 := hz none fun w _ _ => some (.fv w, ⟨[], []⟩)
    rw [hz' none fun w _ _ => some (.fv w, ⟨[], []⟩)] at h1
    simp only [Option.some.injEq, Prod.mk.injEq, IV.fv.injEq] at h1
    exact h1.1.symm
  · have h1 := hz none fun w _ _ => some (.fv w, ⟨[], []⟩)
    rw [hz' none fun w _ _ => some (.fv w, ⟨[], []⟩)] at h1
    cases h1
  · have h1 := hz' none fun w _ _ => some (.fv w, ⟨[], []⟩)
    rw [hz none fun w _ _ => some (.fv w, ⟨[], []⟩)] at h1
    cases h1
  · rw [hf] at hf'
    simp only [Option.some.injEq, Prod.mk.injEq] at hf'
    exact hf'.1
theorem ev_fun {f : FuncId} {args : List IV} {a b : FV} (h1 : Ev f args a) (h2 : Ev f args b) : a = b := by
  obtain ⟨N, h1⟩ := h1
  obtain ⟨M, h2⟩ := h2
  exact ans_fun (h1 (N + M) (by omega)) (h2 (N + M) (by omega))
mutual
def Tm.wt : Tm → Nat
  | .mk _ _ l => 1 + Tm.wtL l
def Tm.wtL : List Tm → Nat
  | [] => 0
  | t :: l => t.wt + Tm.wtL l
end
theorem wt_mem {t : Tm} : ∀ {l : List Tm}, t ∈ l → t.wt ≤ Tm.wtL l
  | a :: l, h => by
    rcases List.mem_cons.1 h with rfl | h
    · simp only [Tm.wtL]; omega
    · have := wt_mem h; simp only [Tm.wtL]; omega
theorem wt_len : ∀ (l : List Tm), l.length ≤ Tm.wtL l
  | [] => Nat.zero_le _
  | (.mk _ _ k) :: l => by have := wt_len l; simp only [Tm.wtL, Tm.wt, List.length_cons]; omega
theorem wt_pos (t : Tm) : 0 < t.wt := by cases t; simp only [Tm.wt]; omega
theorem enc_mk (op n : Int) (l : List Tm) : (Tm.mk op n l).enc = .agg [.int .i64 op, .int .i64 n, .sl (l.map Tm.enc)] := by simp only [Tm.enc, encL_eq]
theorem map_get {l : List Tm} {i : Nat} {op n : Int} {k : List Tm} (h : l[i]? = some (.mk op n k)) : (l.map Tm.enc)[i]? = some (.agg [.int .i64 op, .int .i64 n, .sl (k.map Tm.enc)]) := by
  rw [List.getElem?_map, h, Option.map_some, enc_mk]
theorem at_pre {α : Type} {l pre rest : List α} {a : α} (h : l = pre ++ a :: rest) : l[pre.length]? = some a := by
  rw [h, List.getElem?_append_right (Nat.le_refl _), Nat.sub_self]; rfl
theorem agg3 (a b c : FV) : (FV.agg [a, b, c]).cells = [a, b, c] := rfl
theorem agg3l (a b c : FV) : (FV.agg [a, b, c]).cells.length = 3 := rfl
end Idl
end Go.Proofs.Ytdibmackcbpniaa
namespace Go.Proofs.Ytdibmackcbpniaa
namespace Idl
section
variable {β : Type} {E : Env}
/-- A block that counts an append's elements. -/
noncomputable def tokK (b : Blk) (n sz : Nat) (x : Option β) : Option β := match b with
  | .tok a s => if a = n ∧ s = sz then x else none
  | _ => none
theorem tok_k (n sz : Nat) (x : Option β) : tokK (.tok n sz) n sz x = x := by
  show (if n = n ∧ sz = sz then x else none) = x
  rw [if_pos ⟨rfl, rfl⟩]
/-- What may be appended as it is. -/
inductive Plain2 : IV → List FV → Prop
  | clip (es : List FV) : Plain2 (.clip es) es
  | sl (es : List FV) : Plain2 (.fv (.sl es)) es
  | app (r : Ref) (es : List FV) : Plain2 (.app r es) es
theorem p2_frz {x : IV} {es : List FV} (h : Plain2 x es) : frz 4096 x = .ret (.sl es, []) := by cases h <;> rfl
structure SliceT (E : Env) (t : TypeId) (size : Nat) : Prop where
  h : ∃ a b e z ei, E.T t = some ⟨a, b, .slice e, z⟩ ∧ E.T e = some ei ∧ ei.size = size ∧ size ≠ 0 ∧ ei.bytes ≤ 100000
theorem app_0 {t : TypeId} {size : Nat} (T : SliceT E t size) {x : IV} {es2 : List FV} (hx : Plain2 x es2) (h1 : headOk size es2 = true) (hne : es2.isEmpty = false) (hb : es2.length ≤ 1000000) {s0 : IV} (hs : s0 = .nils ∨ s0 = .clip []) (s : Nat) (own : List (Nat × Blk)) (ext : List Blk)
    (k : IV → Hp → List Ref → List Ref → Option β) : genS (builtinR E s false .append [t, t] [s0, x]) s ⟨own, ext⟩ k = freshK own s (putOwnK own s (.tok es2.length size) fun own => k (.app (.own s) es2) ⟨own, ext⟩ [] [.own s]) := by
  obtain ⟨a, b, e, z, ei, hT, he, rfl, h0, hby⟩ := T.h
  have hlen : ¬ (headOk ei.size [] = false ∨ (([] : List FV).length + es2.length) * ei.bytes > 140737488355328 ∨ ([] : List FV).length + es2.length > 1073741824) := by
    have : es2.length * ei.bytes ≤ 1000000 * 100000 := Nat.mul_le_mul hb hby
    rintro (h | h | h)
    · cases h
    · simp only [List.length_nil, Nat.zero_add] at h; omega
    · simp only [List.length_nil, Nat.zero_add] at h; omega
  have key : builtinR E s false .append [t, t] [s0, x] = .ret { eff := { val := .app (.own s) es2, upd := [] }, new := some (.tok es2.length ei.size) } := by
    show appendR E s t (some t) false s0 x = _
    simp only [appendR, hT, Option.bind_some, he, p2_frz hx, Rd.bind, h0, h1, false_or, Bool.true_eq_false, if_false]
    rcases hs with rfl | rfl <;> simp only [elemsOf, if_neg hlen, hne, List.nil_append, Bool.false_eq_true, if_false]
  rw [key]
  unfold genS
  simp only [Rd.runLog]
  show (newK (some (.tok es2.length ei.size)) s ⟨own, ext⟩ fun h => fV 3 (.app (.own s) es2) fun v => k v h [] ([] ++ [.own s])) = _
  simp only [newK, fBk_eq, fV_eq]
  rfl
theorem app_e {t : TypeId} {size : Nat} (T : SliceT E t size) {x : IV} (hx : Plain2 x []) {s0 : IV} (hs : s0 = .nils ∨ s0 = .clip []) (s : Nat) (h : Hp) (k : IV → Hp → List Ref → List Ref → Option β) :
    genS (builtinR E s false .append [t, t] [s0, x]) s h k = k s0 h [] [] := by
  obtain ⟨a, b, e, z, ei, hT, he, rfl, h0, hby⟩ := T.h
  have hlen : ¬ (headOk ei.size [] = false ∨ (([] : List FV).length + ([] : List FV).length) * ei.bytes > 140737488355328 ∨ ([] : List FV).length + ([] : List FV).length > 1073741824) := by
    rintro (h | h | h)
    · cases h
    · simp at h
    · simp at h
  have key : builtinR E s false .append [t, t] [s0, x] = .ret { eff := { val := s0, upd := [] } } := by
    show appendR E s t (some t) false s0 x = _
    have h1 : headOk ei.size [] = true := rfl
    simp only [appendR, hT, Option.bind_some, he, p2_frz hx, Rd.bind, h0, h1, false_or, Bool.true_eq_false, if_false]
    rcases hs with rfl | rfl
    · simp only [elemsOf]
      rw [if_neg hlen]
      simp
    · simp only [elemsOf]
      rw [if_neg hlen]
      simp
  rw [key]
  exact gen_val s0 s h k
theorem app_1 {t : TypeId} {size : Nat} (T : SliceT E t size) {x : IV} {es es2 : List FV} (hx : Plain2 x es2) (h1 : headOk size es2 = true) (h2 : headOk size es = true) (ho : (es2.all fun e => e.cells.all FV.one) = true) (hb : es.length + es2.length ≤ 1000000) (r s : Nat)
    (own : List (Nat × Blk)) (ext : List Blk) (k : IV → Hp → List Ref → List Ref → Option β) : genS (builtinR E s false .append [t, t] [.app (.own r) es, x]) s ⟨own, ext⟩ k =
      ownK own r fun b => tokK b es.length size (putOwnK own r (.tok (es.length + es2.length) size) fun own => k (.app (.own r) (es ++ es2)) ⟨own, ext⟩ [.own r] [.own r]) := by
  obtain ⟨a, b, e, z, ei, hT, he, rfl, h0, hby⟩ := T.h
  have hlen : ¬ (headOk ei.size es = false ∨ (es.length + es2.length) * ei.bytes > 140737488355328 ∨ es.length + es2.length > 1073741824) := by
    have : (es.length + es2.length) * ei.bytes ≤ 1000000 * 100000 := Nat.mul_le_mul hb hby
    rintro (h | h | h)
    · rw [h2] at h; cases h
    · omega
    · omega
  have key : (builtinR E s false .append [t, t] [.app (.own r) es, x]).runLog ⟨own, ext⟩ [] = (lookupOwn r own).bind fun b => match b with
      | .tok n sz => if n = es.length ∧ sz = ei.size then some ({ eff := { val := .app (.own r) (es ++ es2), upd := [(.own r, .tok (n + es2.length) sz)] } }, [.own r]) else none
      | _ => none := by
    show (appendR E s t (some t) false (.app (.own r) es) x).runLog _ _ = _
    simp only [appendR, hT, Option.bind_some, he, p2_frz hx, Rd.bind, h0, h1, false_or, Bool.true_eq_false, if_false, elemsOf, if_neg hlen, Rd.runLog, ho, and_true]
    show (match lookupOwn r own with | some b => _ | none => none) = _
    cases lookupOwn r own with
    | none => rfl
    | some b =>
      cases b with
      | tok n sz =>
        simp only [Option.bind_some]
        by_cases hc : n = es.length ∧ sz = ei.size
        · rw [if_pos hc, if_pos hc]; rfl
        · rw [if_neg hc, if_neg hc]; rfl
      | _ => rfl
  unfold genS
  rw [key, ownK_eq]
  cases hl : lookupOwn r own with
  | none => simp
  | some b =>
    simp only [Option.bind_some]
    cases b with
    | tok n sz =>
      simp only [tokK]
      by_cases hc : n = es.length ∧ sz = ei.size
      · rw [if_pos hc, if_pos hc]
        obtain ⟨rfl, rfl⟩ := hc
        show (fRf (.own r) fun q => getK q ⟨own, ext⟩ fun _ => fBk (.tok (es.length + es2.length) ei.size) fun b => layK q b ⟨own, ext⟩ fun h => newK none s h fun h => fV 3 (.app (.own r) (es ++ es2)) fun v => k v h [.own r] ([.own r] ++ [])) = _
        simp only [fRf_eq, fBk_eq, fV_eq, newK, layK, getK]
        rw [ownK_eq, hl]
        rfl
      · rw [if_neg hc, if_neg hc]
    | row _ _ => rfl
    | map _ => rfl
end
end Idl
end Go.Proofs.Ytdibmackcbpniaa
namespace Go.Proofs.Ytdibmackcbpniaa
namespace Idl
/-! Types of slices. -/
theorem tTms : EE.T 28 = some ⟨1, 24, .slice 30, [.nils]⟩ := by kernel_rfl
theorem tTm : EE.T 30 = some ⟨3, 40, .struct [(0, 3), (1, 3), (2, 28)], [.fv (.int .i64 0), .fv (.int .i64 0), .nils]⟩ := by kernel_rfl
theorem sTm : SliceT EE 28 3 := ⟨_, _, _, _, _, tTms, tTm, rfl, by decide, by decide⟩
theorem bs1_tm (a : Tm) (s : Nat) (h : Hp) (k : IV → Hp → List Ref → List Ref → Option (IV × Hp)) : genS (pcBuildSlice EE 28 1 [(0, .fv a.enc)]) s h k = k (.clip [a.enc]) h [] [] := by
  obtain ⟨o1, n1, k1⟩ := a
  exact bs_tm tTms tTm (by decide) (cells := [.int .i64 o1, .int .i64 n1, .sl (Tm.enc.encL k1)]) rfl k
theorem bs2_tm (a b : Tm) (s : Nat) (h : Hp) (k : IV → Hp → List Ref → List Ref → Option (IV × Hp)) : genS (pcBuildSlice EE 28 2 [(0, .fv a.enc), (1, .fv b.enc)]) s h k = k (.clip [a.enc, b.enc]) h [] [] := by
  obtain ⟨o1, n1, k1⟩ := a
  obtain ⟨o2, n2, k2⟩ := b
  exact bs_tm tTms tTm (by decide) (cells := [.int .i64 o1, .int .i64 n1, .sl (Tm.enc.encL k1), .int .i64 o2, .int .i64 n2, .sl (Tm.enc.encL k2)]) rfl k
theorem bs3_tm (a b c : Tm) (s : Nat) (h : Hp) (k : IV → Hp → List Ref → List Ref → Option (IV × Hp)) : genS (pcBuildSlice EE 28 3 [(0, .fv a.enc), (1, .fv b.enc), (2, .fv c.enc)]) s h k = k (.clip [a.enc, b.enc, c.enc]) h [] [] := by
  obtain ⟨o1, n1, k1⟩ := a
  obtain ⟨o2, n2, k2⟩ := b
  obtain ⟨o3, n3, k3⟩ := c
  exact bs_tm tTms tTm (by decide) (cells := [.int .i64 o1, .int .i64 n1, .sl (Tm.enc.encL k1), .int .i64 o2, .int .i64 n2, .sl (Tm.enc.encL k2), .int .i64 o3, .int .i64 n3, .sl (Tm.enc.encL k3)]) rfl k
theorem bs4_tm (a b c d : Tm) (s : Nat) (h : Hp) (k : IV → Hp → List Ref → List Ref → Option (IV × Hp)) : genS (pcBuildSlice EE 28 4 [(0, .fv a.enc), (1, .fv b.enc), (2, .fv c.enc), (3, .fv d.enc)]) s h k = k (.clip [a.enc, b.enc, c.enc, d.enc]) h [] [] := by
  obtain ⟨o1, n1, k1⟩ := a
  obtain ⟨o2, n2, k2⟩ := b
  obtain ⟨o3, n3, k3⟩ := c
  obtain ⟨o4, n4, k4⟩ := d
  exact bs_tm tTms tTm (by decide) (cells := [.int .i64 o1, .int .i64 n1, .sl (Tm.enc.encL k1), .int .i64 o2, .int .i64 n2, .sl (Tm.enc.encL k2), .int .i64 o3, .int .i64 n3, .sl (Tm.enc.encL k3), .int .i64 o4, .int .i64 n4, .sl (Tm.enc.encL k4)]) rfl k
/-! Numbers. -/
theorem emod_w {x m : Int} (h1 : 0 < m) (h2 : m ≤ 4611686018427387904) : (if x.tmod m < 0 then w64 (x.tmod m + m) else x.tmod m) = x % m := by
  have a1 := Int.emod_nonneg x (show m ≠ 0 by omega)
  have a2 := Int.emod_lt_of_pos x h1
  have e1 : x.tmod m = x - m * x.tdiv m := by have := Int.mul_tdiv_add_tmod x m; omega
  have e2 : x % m = x - m * (x / m) := by have := Int.mul_ediv_add_emod x m; omega
  have b1 : -m < x.tmod m := Int.lt_tmod_of_pos x h1
  have b2 : x.tmod m < m := Int.tmod_lt_of_pos x h1
  have key : ∃ q, x.tmod m = x % m + m * q := ⟨x / m - x.tdiv m, by rw [e1, e2, Int.mul_sub]; omega⟩
  obtain ⟨q, hq⟩ := key
  have hq2 : q = 0 ∨ q = -1 := by
    rcases Int.lt_trichotomy q 0 with h | h | h
    · right
      rcases Int.lt_trichotomy q (-1) with h' | h' | h'
      · have : m * q ≤ m * (-2) := Int.mul_le_mul_of_nonneg_left (by omega) (by omega)
        omega
      · exact h'
      · omega
    · exact .inl h
    · have : m * 1 ≤ m * q := Int.mul_le_mul_of_nonneg_left (by omega) (by omega)
      omega
  rcases hq2 with rfl | rfl
  · rw [if_neg (by omega)]; omega
  · rw [if_pos (by omega), w64_id (by omega) (by omega)]; omega
theorem within4_ok {n : Nat} (hn : 0 < n) (x : Int) {m : Int} (h1 : 0 < m) (h2 : m ≤ 4611686018427387904) : Ans (SS dt n 41 [iv x, iv m] ⟨[], []⟩) (.int .i64 (x % m)) := by
  obtain ⟨n, rfl⟩ := Nat.exists_eq_add_of_lt hn
  rw [Nat.zero_add, c41]
  simp only [S41, ↓XX, ↓reduceIte, Nat.reduceBEq, decide_true, decide_false, Bool.not_true, Bool.not_false, List.map_cons, List.map_nil, List.length_map, List.length_cons, List.length_nil, Nat.reduceAdd, Int.cast_ofNat_Int, Int.natCast_zero, Int.natCast_one, Bool.false_eq_true, Bool.true_eq_false, decide_eq_true_eq, eq_self, Int.reduceEq, Int.reduceLT, Int.reduceLE, Bool.and_true, Bool.true_and, Bool.and_false, Bool.false_and, Nat.zero_add, ↓rem_s (show m ≠ 0 by omega)]
  rw [← emod_w h1 h2]
  by_cases hc : x.tmod m < 0 <;> simp only [hc, if_true, if_false] <;> exact ans_fv _ _
/-! Terms. -/
theorem t0_ok {n : Nat} (hn : 0 < n) (op : Int) : Ans (SS dt n 30 [iv op, .fv (.sl [])] ⟨[], []⟩) (Tm.mk op 0 []).enc := by
  obtain ⟨n, rfl⟩ := Nat.exists_eq_add_of_lt hn
  rw [Nat.zero_add, c30]
  simp only [S30, ↓XX, ↓reduceIte, Nat.reduceBEq, decide_true, decide_false, Bool.not_true, Bool.not_false, List.map_cons, List.map_nil, List.length_map, List.length_cons, List.length_nil, Nat.reduceAdd, Int.cast_ofNat_Int, Int.natCast_zero, Int.natCast_one, Bool.false_eq_true, Bool.true_eq_false, decide_eq_true_eq, eq_self, Int.reduceEq, Int.reduceLT, Int.reduceLE, Bool.and_true, Bool.true_and, Bool.and_false, Bool.false_and, Nat.zero_add]
  exact ans_fv _ _
theorem t_ok {n : Nat} (hn : 0 < n) (op : Int) (l : List Tm) : Ans (SS dt n 30 [iv op, .fv (.sl (l.map Tm.enc))] ⟨[], []⟩) (Tm.mk op 0 l).enc := by
  obtain ⟨n, rfl⟩ := Nat.exists_eq_add_of_lt hn
  rw [Nat.zero_add, c30]
  simp only [S30, ↓XX, ↓reduceIte, Nat.reduceBEq, decide_true, decide_false, Bool.not_true, Bool.not_false, List.map_cons, List.map_nil, List.length_map, List.length_cons, List.length_nil, Nat.reduceAdd, Int.cast_ofNat_Int, Int.natCast_zero, Int.natCast_one, Bool.false_eq_true, Bool.true_eq_false, decide_eq_true_eq, eq_self, Int.reduceEq, Int.reduceLT, Int.reduceLE, Bool.and_true, Bool.true_and, Bool.and_false, Bool.false_and, Nat.zero_add, enc_mk]
  exact ans_fv _ _
/-! Raw kids. -/
def Tm.kids : Tm → List Tm
  | .mk _ _ l => l
def Tm.op : Tm → Int
  | .mk o _ _ => o
def Tm.n : Tm → Int
  | .mk _ n _ => n
def Tm.pick (r : Tm) (i : Nat) : Tm := match r.kids[i]? with
  | some k => k
  | none => .mk (w64 (w64 (r.op.tdiv 3) + i)) (w64 (w64 (r.n.tdiv 5) + w64 (7 * i))) []
theorem pick_ok {n : Nat} (hn : 0 < n) (r : Tm) (i : Nat) : Ans (SS dt n 42 [.fv r.enc, iv i] ⟨[], []⟩) (r.pick i).enc := by
  obtain ⟨n, rfl⟩ := Nat.exists_eq_add_of_lt hn
  rw [Nat.zero_add, c42]
  obtain ⟨op, m, ks⟩ := r
  rw [enc_mk]
  simp only [Tm.pick, Tm.kids, Tm.op, Tm.n]
  cases hk : ks[i]? with
  | some k =>
    have hi : (i : Int) < ks.length := by have := (List.getElem?_eq_some_iff.1 hk).1; omega
    obtain ⟨o, p, l⟩ := k
    simp only [S42_42, S42_43, S42_44, S42_45, S42, ↓XX, ↓reduceIte, Nat.reduceBEq, decide_true, decide_false, Bool.not_true, Bool.not_false, List.map_cons, List.map_nil, List.length_map, List.length_cons, List.length_nil, Nat.reduceAdd, Int.cast_ofNat_Int, Int.natCast_zero, Int.natCast_one, Bool.false_eq_true, Bool.true_eq_false, decide_eq_true_eq, eq_self, Int.reduceEq, Int.reduceLT, Int.reduceLE, Bool.and_true, Bool.true_and, Bool.and_false, Bool.false_and, Nat.zero_add, hi, ↓ix_f (map_get hk) (agg3l _ _ _), ↓agg3, enc_mk]
    exact ans_fv _ _
  | none =>
    have hi : ¬ (i : Int) < ks.length := by have := List.getElem?_eq_none_iff.1 hk; omega
    simp only [S42_42, S42_43, S42_44, S42_45, S42, ↓XX, ↓reduceIte, Nat.reduceBEq, decide_true, decide_false, Bool.not_true, Bool.not_false, List.map_cons, List.map_nil, List.length_map, List.length_cons, List.length_nil, Nat.reduceAdd, Int.cast_ofNat_Int, Int.natCast_zero, Int.natCast_one, Bool.false_eq_true, Bool.true_eq_false, decide_eq_true_eq, eq_self, Int.reduceEq, Int.reduceLT, Int.reduceLE, Bool.and_true, Bool.true_and, Bool.and_false, Bool.false_and, Nat.zero_add, hi, ↓quo_s (show (3 : Int) ≠ 0 by decide), ↓quo_s (show (5 : Int) ≠ 0 by decide)]
    exact ans_p rfl _
end Idl
end Go.Proofs.Ytdibmackcbpniaa
namespace Go.Proofs.Ytdibmackcbpniaa
namespace Idl
mutual
def Tm.count : Tm → Int → Int
  | .mk _ _ l, most => Tm.countL l 1 most
def Tm.countL : List Tm → Int → Int → Int
  | [], n, _ => n
  | t :: l, n, most => if n < most then Tm.countL l (n + t.count (most - n)) most else n
end
mutual
theorem count_le : ∀ (t : Tm) (m : Int), 1 ≤ t.count m ∧ (1 ≤ m → t.count m ≤ m)
  | .mk _ _ l, m => by
    have := countL_le l 1 m
    simp only [Tm.count]
    omega
theorem countL_le : ∀ (l : List Tm) (n m : Int), n ≤ Tm.countL l n m ∧ (n ≤ m → Tm.countL l n m ≤ m)
  | [], n, m => by simp only [Tm.countL]; omega
  | t :: l, n, m => by
    simp only [Tm.countL]
    split
    · have h1 := count_le t (m - n)
      have h2 := countL_le l (n + t.count (m - n)) m
      omega
    · omega
end
theorem count_ok : ∀ (n : Nat) (t : Tm) (most : Int), t.wt < n → most ≤ 4611686018427387904 → -4611686018427387904 ≤ most → Ans (SS dt n 40 [.fv t.enc, iv most] ⟨[], []⟩) (.int .i64 (t.count most)) := by
  intro n
  induction n with
  | zero => intro t most h; omega
  | succ n ih =>
    intro t most h hm hm'
    obtain ⟨op, m, ks⟩ := t
    simp only [Tm.wt] at h
    rw [c40, enc_mk]
    simp only [S40_53, S40_54, S40_55, S40_56, S40, ↓XX, ↓reduceIte, Nat.reduceBEq, decide_true, decide_false, Bool.not_true, Bool.not_false, List.map_cons, List.map_nil, List.length_map, List.length_cons, List.length_nil, Nat.reduceAdd, Int.cast_ofNat_Int, Int.natCast_zero, Int.natCast_one, Bool.false_eq_true, Bool.true_eq_false, decide_eq_true_eq, eq_self, Int.reduceEq, Int.reduceLT, Int.reduceLE, Bool.and_true, Bool.true_and, Bool.and_false, Bool.false_and, Nat.zero_add, Tm.count]
    refine loop_run (Q := fun r => Ans r _) (fun k V H => ∃ rest pre acc, ks = pre ++ rest ∧ rest.length = k ∧ (pre.length : Int) < acc ∧ (acc ≤ 1 ∨ acc ≤ most) ∧ V = [iv most, .ptr (.own 41943040) 0, iv acc, iv pre.length] ∧
      H = ⟨[(41943040, .row [iv op, iv m, .fv (.sl (ks.map Tm.enc))] false)], []⟩ ∧ Tm.countL rest acc most = Tm.countL ks 1 most) ?_ n ks.length _ _ (by have := wt_len ks; omega) ⟨ks, [], 1, rfl, rfl, by simp, .inl (by omega), rfl, rfl, rfl⟩
    rintro k V H rec ⟨rest, pre, acc, hk, hl, hpre, hacc, rfl, rfl, ht⟩ hrec
    have hlen : ks.length = pre.length + rest.length := by rw [hk]; simp
    cases rest with
    | nil =>
      rw [← ht]
      simp only [S40_53, S40_54, S40_55, S40_56, S40_57, S40, ↓XX, ↓reduceIte, Nat.reduceBEq, decide_true, decide_false, Bool.not_true, Bool.not_false, List.map_cons, List.map_nil, List.length_map, List.length_cons, List.length_nil, Nat.reduceAdd, Int.cast_ofNat_Int, Int.natCast_zero, Int.natCast_one, Bool.false_eq_true, Bool.true_eq_false, decide_eq_true_eq, eq_self, Int.reduceEq, Int.reduceLT, Int.reduceLE, Bool.and_true, Bool.true_and, Bool.and_false, Bool.false_and, Nat.zero_add, List.length_map, show ¬ ((pre.length : Int) < ks.length) by simp [hlen], Tm.countL]
      exact ans_fv _ _
    | cons t rest =>
      have hi : (pre.length : Int) < ks.length := by rw [hlen]; simp; omega
      by_cases ha : acc < most
      · have hg := at_pre hk
        obtain ⟨o, p, l⟩ := t
        have hb := count_le (.mk o p l) (most - acc)
        have hc := ih (.mk o p l) (most - acc) (by have := wt_mem (t := .mk o p l) (l := ks) (by rw [hk]; simp); omega) (by omega) (by omega)
        rw [enc_mk] at hc
        simp only [S40_53, S40_54, S40_55, S40_56, S40_57, S40, ↓XX, ↓reduceIte, Nat.reduceBEq, decide_true, decide_false, Bool.not_true, Bool.not_false, List.map_cons, List.map_nil, List.length_map, List.length_cons, List.length_nil, Nat.reduceAdd, Int.cast_ofNat_Int, Int.natCast_zero, Int.natCast_one, Bool.false_eq_true, Bool.true_eq_false, decide_eq_true_eq, eq_self, Int.reduceEq, Int.reduceLT, Int.reduceLE, Bool.and_true, Bool.true_and, Bool.and_false, Bool.false_and, Nat.zero_add, List.length_map, hi, ha, ↓ix_f (map_get hg) (agg3l _ _ _), ↓agg3, w64_id (show -9223372036854775808 ≤ most - acc by omega) (show most - acc ≤ 9223372036854775807 by omega), ↓iso_2 hc,
          w64_id (show -9223372036854775808 ≤ acc + (Tm.mk o p l).count (most - acc) by omega) (show acc + (Tm.mk o p l).count (most - acc) ≤ 9223372036854775807 by omega), w64_id (show -9223372036854775808 ≤ (pre.length : Int) + 1 by omega) (show (pre.length : Int) + 1 ≤ 9223372036854775807 by omega)]
        simp only [List.length_cons] at hl
        refine hrec rest.length _ _ (by omega) ?_
        refine ⟨rest, pre ++ [.mk o p l], acc + (Tm.mk o p l).count (most - acc), by rw [hk]; simp, rfl, by simp; omega, .inr (by omega), by simp, rfl, ?_⟩
        rw [← ht]
        simp only [Tm.countL, if_pos ha]
      · rw [← ht]
        simp only [S40_53, S40_54, S40_55, S40_56, S40_57, S40, ↓XX, ↓reduceIte, Nat.reduceBEq, decide_true, decide_false, Bool.not_true, Bool.not_false, List.map_cons, List.map_nil, List.length_map, List.length_cons, List.length_nil, Nat.reduceAdd, Int.cast_ofNat_Int, Int.natCast_zero, Int.natCast_one, Bool.false_eq_true, Bool.true_eq_false, decide_eq_true_eq, eq_self, Int.reduceEq, Int.reduceLT, Int.reduceLE, Bool.and_true, Bool.true_and, Bool.and_false, Bool.false_and, Nat.zero_add, List.length_map, hi, ha, Tm.countL]
        exact ans_fv _ _
end Idl
end Go.Proofs.Ytdibmackcbpniaa
namespace Go.Proofs.Ytdibmackcbpniaa
namespace Idl
theorem few_ok {n : Nat} (t : Tm) (h : t.wt < n) : Ans (SS dt (n + 1) 12 [.fv t.enc] ⟨[], []⟩) (.bool (decide (t.count 300 < 300))) := by
  rw [c12]
  have hc := count_ok n t 300 h (by omega) (by omega)
  obtain ⟨op, m, ks⟩ := t
  rw [enc_mk] at hc ⊢
  simp only [S12, ↓XX, ↓reduceIte, Nat.reduceBEq, decide_true, decide_false, Bool.not_true, Bool.not_false, List.map_cons, List.map_nil, List.length_map, List.length_cons, List.length_nil, Nat.reduceAdd, Int.cast_ofNat_Int, Int.natCast_zero, Int.natCast_one, Bool.false_eq_true, Bool.true_eq_false, decide_eq_true_eq, eq_self, Int.reduceEq, Int.reduceLT, Int.reduceLE, Bool.and_true, Bool.true_and, Bool.and_false, Bool.false_and, Nat.zero_add, ↓iso_2 hc]
  exact ans_fv _ _
def Tm.plainT : Nat → Tm → Tm
  | 0, _ => .mk 15 0 []
  | d + 1, r => if r.n % 4 < 2 then .mk 15 0 [] else .mk (16 + r.n % 4 - 2) 0 [plainT d (r.pick 0), plainT d (r.pick 1)]
theorem plainT_ok : ∀ (d n : Nat) (r : Tm), d + 1 < n → d ≤ 1000 → Ans (SS dt n 14 [.fv r.enc, iv d] ⟨[], []⟩) (r.plainT d).enc := by
  intro d
  induction d with
  | zero =>
    intro n r hn _
    obtain ⟨n, rfl⟩ : ∃ k, n = k + 1 := ⟨n - 1, by omega⟩
    rw [c14]
    have hw := within4_ok (n := n) (by omega) r.n (m := 4) (by omega) (by omega)
    obtain ⟨op, m, ks⟩ := r
    rw [enc_mk]
    simp only [Tm.n] at hw
    simp only [S14_75, S14_76, S14_77, S14_78, S14_79, S14_80, S14_81, S14, ↓XX, ↓reduceIte, Nat.reduceBEq, decide_true, decide_false, Bool.not_true, Bool.not_false, List.map_cons, List.map_nil, List.length_map, List.length_cons, List.length_nil, Nat.reduceAdd, Int.cast_ofNat_Int, Int.natCast_zero, Int.natCast_one, Bool.false_eq_true, Bool.true_eq_false, decide_eq_true_eq, eq_self, Int.reduceEq, Int.reduceLT, Int.reduceLE, Bool.and_true, Bool.true_and, Bool.and_false, Bool.false_and, Nat.zero_add, ↓iso_2 hw, ↓iso_2 (t0_ok (n := n) (by omega) 15), Tm.plainT, enc_mk]
    exact ans_p rfl _
  | succ d ih =>
    intro n r hn hd
    obtain ⟨n, rfl⟩ : ∃ k, n = k + 1 := ⟨n - 1, by omega⟩
    rw [c14]
    have hw := within4_ok (n := n) (by omega) r.n (m := 4) (by omega) (by omega)
    have h0 := ih n (r.pick 0) (by omega) (by omega)
    have h1 := ih n (r.pick 1) (by omega) (by omega)
    have p0 := pick_ok (n := n) (by omega) r 0
    have p1 := pick_ok (n := n) (by omega) r 1
    have ht := t_ok (n := n) (by omega) (16 + r.n % 4 - 2) [(r.pick 0).plainT d, (r.pick 1).plainT d]
    have hb0 : ¬ ((d + 1 : Nat) : Int) ≤ 0 := by omega
    have hm : w64 (((d + 1 : Nat) : Int) - 1) = d := by rw [w64_id] <;> omega
    have hr := Int.emod_nonneg r.n (show (4 : Int) ≠ 0 by decide)
    have hr2 := Int.emod_lt_of_pos r.n (show (0 : Int) < 4 by decide)
    have e1 : w64 (16 + r.n % 4) = 16 + r.n % 4 := by rw [w64_id] <;> omega
    have e2 : w64 (16 + r.n % 4 - 2) = 16 + r.n % 4 - 2 := by rw [w64_id] <;> omega
    simp only [List.map_cons, List.map_nil] at ht
    rw [Tm.plainT]
    obtain ⟨op, m, ks⟩ := r
    rw [enc_mk] at p0 p1 ⊢
    simp only [Tm.n] at *
    by_cases hk : m % 4 < 2
    · simp only [S14_75, S14_76, S14_77, S14_78, S14_79, S14_80, S14_81, S14, ↓XX, ↓reduceIte, Nat.reduceBEq, decide_true, decide_false, Bool.not_true, Bool.not_false, List.map_cons, List.map_nil, List.length_map, List.length_cons, List.length_nil, Nat.reduceAdd, Int.cast_ofNat_Int, Int.natCast_zero, Int.natCast_one, Bool.false_eq_true, Bool.true_eq_false, decide_eq_true_eq, eq_self, Int.reduceEq, Int.reduceLT, Int.reduceLE, Bool.and_true, Bool.true_and, Bool.and_false, Bool.false_and, Nat.zero_add, ↓iso_2 hw, Tm.n, ↓iso_2 (t0_ok (n := n) (by omega) 15), hb0, hk, enc_mk]
      exact ans_p rfl _
    · simp only [S14_75, S14_76, S14_77, S14_78, S14_79, S14_80, S14_81, S14, ↓XX, ↓reduceIte, Nat.reduceBEq, decide_true, decide_false, Bool.not_true, Bool.not_false, List.map_cons, List.map_nil, List.length_map, List.length_cons, List.length_nil, Nat.reduceAdd, Int.cast_ofNat_Int, Int.natCast_zero, Int.natCast_one, Bool.false_eq_true, Bool.true_eq_false, decide_eq_true_eq, eq_self, Int.reduceEq, Int.reduceLT, Int.reduceLE, Bool.and_true, Bool.true_and, Bool.and_false, Bool.false_and, Nat.zero_add, ↓iso_2 hw, hb0, hk, e1, e2, hm, ↓iso_2 p0, ↓iso_2 p1, ↓iso_2 h0, ↓iso_2 h1, ↓bs2_tm, ↓iso_2 ht]
      simp only [↓XX, ↓reduceIte, Nat.reduceBEq, decide_true, decide_false, Bool.not_true, Bool.not_false, List.map_cons, List.map_nil, List.length_map, List.length_cons, List.length_nil, Nat.reduceAdd, Int.cast_ofNat_Int, Int.natCast_zero, Int.natCast_one, Bool.false_eq_true, Bool.true_eq_false, decide_eq_true_eq, eq_self, Int.reduceEq, Int.reduceLT, Int.reduceLE, Bool.and_true, Bool.true_and, Bool.and_false, Bool.false_and, Nat.zero_add, enc_mk]
      exact ans_p rfl _
end Idl
end Go.Proofs.Ytdibmackcbpniaa
namespace Go.Proofs.Ytdibmackcbpniaa
namespace Idl
def isTrueE (o : Option (IV × Hp)) : Bool := match o with
  | some (.fv (.bool b), ⟨_, []⟩) => b
  | _ => false
theorem ans_true {o : Option (IV × Hp)} (h : isTrueE o = true) : Ans o (.bool true) := by
  unfold isTrueE at h
  split at h
  · subst h; exact ans_fv _ _
  · cases h
def Tm.typed : Tm → Bool
  | .mk op _ [] => decide (op = 15)
  | .mk op _ [a, b] => (decide (op = 16) || decide (op = 17)) && (a.typed && b.typed)
  | _ => false
theorem typed1 (op m : Int) (a : Tm) : (Tm.mk op m [a]).typed = false := by rw [Tm.typed] <;> simp
theorem typed3 (op m : Int) (a b c : Tm) (l : List Tm) : (Tm.mk op m (a :: b :: c :: l)).typed = false := by rw [Tm.typed] <;> simp
theorem typed_ok : ∀ (n : Nat) (t : Tm), t.wt < n → Ans (SS dt n 52 [.fv t.enc] ⟨[], []⟩) (.bool t.typed) := by
  intro n
  induction n with
  | zero => intro t h; omega
  | succ n ih =>
    intro t h
    rw [c52]
    obtain ⟨op, m, ks⟩ := t
    simp only [Tm.wt] at h
    rw [enc_mk]
    by_cases h1 : op = 15
    · subst h1
      match ks with
      | [] => simp only [S52_89, S52_90, S52_91, S52_92, S52_93, S52_94, S52, ↓XX, ↓reduceIte, Nat.reduceBEq, decide_true, decide_false, Bool.not_true, Bool.not_false, List.map_cons, List.map_nil, List.length_map, List.length_cons, List.length_nil, Nat.reduceAdd, Int.cast_ofNat_Int, Int.natCast_zero, Int.natCast_one, Bool.false_eq_true, Bool.true_eq_false, decide_eq_true_eq, eq_self, Int.reduceEq, Int.reduceLT, Int.reduceLE, Bool.and_true, Bool.true_and, Bool.and_false, Bool.false_and, Nat.zero_add, Tm.typed]; exact ans_fv _ _
      | [_] => simp only [S52_89, S52_90, S52_91, S52_92, S52_93, S52_94, S52, ↓XX, ↓reduceIte, Nat.reduceBEq, decide_true, decide_false, Bool.not_true, Bool.not_false, List.map_cons, List.map_nil, List.length_map, List.length_cons, List.length_nil, Nat.reduceAdd, Int.cast_ofNat_Int, Int.natCast_zero, Int.natCast_one, Bool.false_eq_true, Bool.true_eq_false, decide_eq_true_eq, eq_self, Int.reduceEq, Int.reduceLT, Int.reduceLE, Bool.and_true, Bool.true_and, Bool.and_false, Bool.false_and, Nat.zero_add, typed1]; exact ans_fv _ _
      | [a, b] => simp only [S52_89, S52_90, S52_91, S52_92, S52_93, S52_94, S52, ↓XX, ↓reduceIte, Nat.reduceBEq, decide_true, decide_false, Bool.not_true, Bool.not_false, List.map_cons, List.map_nil, List.length_map, List.length_cons, List.length_nil, Nat.reduceAdd, Int.cast_ofNat_Int, Int.natCast_zero, Int.natCast_one, Bool.false_eq_true, Bool.true_eq_false, decide_eq_true_eq, eq_self, Int.reduceEq, Int.reduceLT, Int.reduceLE, Bool.and_true, Bool.true_and, Bool.and_false, Bool.false_and, Nat.zero_add, Tm.typed]; exact ans_fv _ _
      | a :: b :: c :: l =>
        have : ¬ ((l.length : Int) + 1 + 1 + 1 = 0) := by omega
        simp only [S52_89, S52_90, S52_91, S52_92, S52_93, S52_94, S52, ↓XX, ↓reduceIte, Nat.reduceBEq, decide_true, decide_false, Bool.not_true, Bool.not_false, List.map_cons, List.map_nil, List.length_map, List.length_cons, List.length_nil, Nat.reduceAdd, Int.cast_ofNat_Int, Int.natCast_zero, Int.natCast_one, Bool.false_eq_true, Bool.true_eq_false, decide_eq_true_eq, eq_self, Int.reduceEq, Int.reduceLT, Int.reduceLE, Bool.and_true, Bool.true_and, Bool.and_false, Bool.false_and, Nat.zero_add, Int.natCast_add, typed3, this]; exact ans_fv _ _
    · by_cases h2 : op = 16 ∨ op = 17
      · match ks with
        | [] => rcases h2 with rfl | rfl <;> (simp only [S52_89, S52_90, S52_91, S52_92, S52_93, S52_94, S52, ↓XX, ↓reduceIte, Nat.reduceBEq, decide_true, decide_false, Bool.not_true, Bool.not_false, List.map_cons, List.map_nil, List.length_map, List.length_cons, List.length_nil, Nat.reduceAdd, Int.cast_ofNat_Int, Int.natCast_zero, Int.natCast_one, Bool.false_eq_true, Bool.true_eq_false, decide_eq_true_eq, eq_self, Int.reduceEq, Int.reduceLT, Int.reduceLE, Bool.and_true, Bool.true_and, Bool.and_false, Bool.false_and, Nat.zero_add, Tm.typed]; exact ans_fv _ _)
        | [_] => rcases h2 with rfl | rfl <;> (simp only [S52_89, S52_90, S52_91, S52_92, S52_93, S52_94, S52, ↓XX, ↓reduceIte, Nat.reduceBEq, decide_true, decide_false, Bool.not_true, Bool.not_false, List.map_cons, List.map_nil, List.length_map, List.length_cons, List.length_nil, Nat.reduceAdd, Int.cast_ofNat_Int, Int.natCast_zero, Int.natCast_one, Bool.false_eq_true, Bool.true_eq_false, decide_eq_true_eq, eq_self, Int.reduceEq, Int.reduceLT, Int.reduceLE, Bool.and_true, Bool.true_and, Bool.and_false, Bool.false_and, Nat.zero_add, typed1]; exact ans_fv _ _)
        | [a, b] =>
          simp only [Tm.wtL] at h
          have ha := ih a (by omega)
          have hb := ih b (by omega)
          rw [Tm.typed]
          generalize a.typed = x at ha ⊢
          generalize b.typed = y at hb ⊢
          obtain ⟨o1, n1, k1⟩ := a
          obtain ⟨o2, n2, k2⟩ := b
          simp only [enc_mk] at ha hb
          cases x
          · rcases h2 with rfl | rfl <;> (simp only [S52_89, S52_90, S52_91, S52_92, S52_93, S52_94, S52, ↓XX, ↓reduceIte, Nat.reduceBEq, decide_true, decide_false, Bool.not_true, Bool.not_false, List.map_cons, List.map_nil, List.length_map, List.length_cons, List.length_nil, Nat.reduceAdd, Int.cast_ofNat_Int, Int.natCast_zero, Int.natCast_one, Bool.false_eq_true, Bool.true_eq_false, decide_eq_true_eq, eq_self, Int.reduceEq, Int.reduceLT, Int.reduceLE, Bool.and_true, Bool.true_and, Bool.and_false, Bool.false_and, Nat.zero_add, enc_mk, ↓iso_1 ha]; exact ans_fv _ _)
          · rcases h2 with rfl | rfl <;> (simp only [S52_89, S52_90, S52_91, S52_92, S52_93, S52_94, S52, ↓XX, ↓reduceIte, Nat.reduceBEq, decide_true, decide_false, Bool.not_true, Bool.not_false, List.map_cons, List.map_nil, List.length_map, List.length_cons, List.length_nil, Nat.reduceAdd, Int.cast_ofNat_Int, Int.natCast_zero, Int.natCast_one, Bool.false_eq_true, Bool.true_eq_false, decide_eq_true_eq, eq_self, Int.reduceEq, Int.reduceLT, Int.reduceLE, Bool.and_true, Bool.true_and, Bool.and_false, Bool.false_and, Nat.zero_add, enc_mk, ↓iso_1 ha, ↓iso_1 hb]; exact ans_fv _ _)
        | a :: b :: c :: l =>
          have : ¬ ((l.length : Int) + 1 + 1 + 1 = 2) := by omega
          rcases h2 with rfl | rfl <;> (simp only [S52_89, S52_90, S52_91, S52_92, S52_93, S52_94, S52, ↓XX, ↓reduceIte, Nat.reduceBEq, decide_true, decide_false, Bool.not_true, Bool.not_false, List.map_cons, List.map_nil, List.length_map, List.length_cons, List.length_nil, Nat.reduceAdd, Int.cast_ofNat_Int, Int.natCast_zero, Int.natCast_one, Bool.false_eq_true, Bool.true_eq_false, decide_eq_true_eq, eq_self, Int.reduceEq, Int.reduceLT, Int.reduceLE, Bool.and_true, Bool.true_and, Bool.and_false, Bool.false_and, Nat.zero_add, Int.natCast_add, typed3, this]; exact ans_fv _ _)
      · have h3 : op ≠ 16 := fun e => h2 (.inl e)
        have h4 : op ≠ 17 := fun e => h2 (.inr e)
        have : (Tm.mk op m ks).typed = false := by
          match ks with
          | [] => simp [Tm.typed, h1]
          | [_] => exact typed1 ..
          | [a, b] => simp [Tm.typed, h3, h4]
          | a :: b :: c :: l => exact typed3 ..
        rw [this]
        simp only [S52_89, S52_90, S52_91, S52_92, S52_93, S52_94, S52, ↓XX, ↓reduceIte, Nat.reduceBEq, decide_true, decide_false, Bool.not_true, Bool.not_false, List.map_cons, List.map_nil, List.length_map, List.length_cons, List.length_nil, Nat.reduceAdd, Int.cast_ofNat_Int, Int.natCast_zero, Int.natCast_one, Bool.false_eq_true, Bool.true_eq_false, decide_eq_true_eq, eq_self, Int.reduceEq, Int.reduceLT, Int.reduceLE, Bool.and_true, Bool.true_and, Bool.and_false, Bool.false_and, Nat.zero_add, h1, h3, h4]
        exact ans_fv _ _
def Tm.fits : Tm → Tm → Bool
  | .mk k n [], a => (decide (k = 1) && decide (a.op = 15)) || (decide (k = 3) && (decide (a.op = 16) && decide (n = 0)))
  | .mk k n [x, y], a => (decide (k = 2) && (decide (n = 0) && decide (a.op = 17))) && (match a.kids with
    | [p, q] => x.fits p && y.fits q
    | _ => false)
  | _, _ => false
theorem fits1 (k n : Int) (x a : Tm) : (Tm.mk k n [x]).fits a = false := by rw [Tm.fits] <;> simp
theorem fits3 (k n : Int) (x y z : Tm) (l : List Tm) (a : Tm) : (Tm.mk k n (x :: y :: z :: l)).fits a = false := by rw [Tm.fits] <;> simp
theorem fits_ok : ∀ (n : Nat) (v a : Tm), v.wt + a.wt < n → a.typed = true → Ans (SS dt n 32 [.fv v.enc, .fv a.enc] ⟨[], []⟩) (.bool (v.fits a)) := by
  intro n
  induction n with
  | zero => intro v a h; omega
  | succ n ih =>
    intro v a h ht
    rw [c32]
    have hty := typed_ok n a (by have := wt_pos v; omega)
    rw [ht] at hty
    obtain ⟨k, m, l⟩ := v
    obtain ⟨op, p, ks⟩ := a
    simp only [Tm.wt] at h
    rw [enc_mk] at hty ⊢
    rw [enc_mk]
    by_cases h1 : k = 1
    · subst h1
      have : ∀ (b : Bool), (Tm.mk 1 m l).fits (.mk op p ks) = b → b = (decide (op = 15) && decide ((l.length : Int) = 0)) := by
        intro b hb
        subst hb
        match l with
        | [] => simp [Tm.fits, Tm.op]; rfl
        | [_] => rw [fits1]; simp
        | [_, _] => simp [Tm.fits]
        | x :: y :: z :: l => rw [fits3]; have : ¬ ((l.length : Int) + 1 + 1 + 1 = 0) := by omega
                              simp [this]
      rw [this _ rfl]
      by_cases h2 : op = 15
      · simp only [S32_250, S32_251, S32_252, S32_253, S32_254, S32_255, S32_256, S32_257, S32_258, S32_259, S32_260, S32_261, S32_262, S32_263, S32_264, S32_265, S32_266, S32, ↓XX, ↓reduceIte, Nat.reduceBEq, decide_true, decide_false, Bool.not_true, Bool.not_false, List.map_cons, List.map_nil, List.length_map, List.length_cons, List.length_nil, Nat.reduceAdd, Int.cast_ofNat_Int, Int.natCast_zero, Int.natCast_one, Bool.false_eq_true, Bool.true_eq_false, decide_eq_true_eq, eq_self, Int.reduceEq, Int.reduceLT, Int.reduceLE, Bool.and_true, Bool.true_and, Bool.and_false, Bool.false_and, Nat.zero_add, ↓iso_1 hty, h2]; exact ans_fv _ _
      · simp only [S32_250, S32_251, S32_252, S32_253, S32_254, S32_255, S32_256, S32_257, S32_258, S32_259, S32_260, S32_261, S32_262, S32_263, S32_264, S32_265, S32_266, S32, ↓XX, ↓reduceIte, Nat.reduceBEq, decide_true, decide_false, Bool.not_true, Bool.not_false, List.map_cons, List.map_nil, List.length_map, List.length_cons, List.length_nil, Nat.reduceAdd, Int.cast_ofNat_Int, Int.natCast_zero, Int.natCast_one, Bool.false_eq_true, Bool.true_eq_false, decide_eq_true_eq, eq_self, Int.reduceEq, Int.reduceLT, Int.reduceLE, Bool.and_true, Bool.true_and, Bool.and_false, Bool.false_and, Nat.zero_add, ↓iso_1 hty, h2]; exact ans_fv _ _
    · by_cases h3 : k = 3
      · subst h3
        have : ∀ (b : Bool), (Tm.mk 3 m l).fits (.mk op p ks) = b → b = (decide (op = 16) && (decide (m = 0) && decide ((l.length : Int) = 0))) := by
          intro b hb
          subst hb
          match l with
          | [] => simp [Tm.fits, Tm.op]; rfl
          | [_] => rw [fits1]; simp
          | [_, _] => simp [Tm.fits]
          | x :: y :: z :: l => rw [fits3]; have : ¬ ((l.length : Int) + 1 + 1 + 1 = 0) := by omega
                                simp [this]
        rw [this _ rfl]
        by_cases h2 : op = 16
        · by_cases h4 : m = 0
          · simp only [S32_250, S32_251, S32_252, S32_253, S32_254, S32_255, S32_256, S32_257, S32_258, S32_259, S32_260, S32_261, S32_262, S32_263, S32_264, S32_265, S32_266, S32, ↓XX, ↓reduceIte, Nat.reduceBEq, decide_true, decide_false, Bool.not_true, Bool.not_false, List.map_cons, List.map_nil, List.length_map, List.length_cons, List.length_nil, Nat.reduceAdd, Int.cast_ofNat_Int, Int.natCast_zero, Int.natCast_one, Bool.false_eq_true, Bool.true_eq_false, decide_eq_true_eq, eq_self, Int.reduceEq, Int.reduceLT, Int.reduceLE, Bool.and_true, Bool.true_and, Bool.and_false, Bool.false_and, Nat.zero_add, ↓iso_1 hty, h2, h4]; exact ans_fv _ _
          · simp only [S32_250, S32_251, S32_252, S32_253, S32_254, S32_255, S32_256, S32_257, S32_258, S32_259, S32_260, S32_261, S32_262, S32_263, S32_264, S32_265, S32_266, S32, ↓XX, ↓reduceIte, Nat.reduceBEq, decide_true, decide_false, Bool.not_true, Bool.not_false, List.map_cons, List.map_nil, List.length_map, List.length_cons, List.length_nil, Nat.reduceAdd, Int.cast_ofNat_Int, Int.natCast_zero, Int.natCast_one, Bool.false_eq_true, Bool.true_eq_false, decide_eq_true_eq, eq_self, Int.reduceEq, Int.reduceLT, Int.reduceLE, Bool.and_true, Bool.true_and, Bool.and_false, Bool.false_and, Nat.zero_add, ↓iso_1 hty, h2, h4]; exact ans_fv _ _
        · simp only [S32_250, S32_251, S32_252, S32_253, S32_254, S32_255, S32_256, S32_257, S32_258, S32_259, S32_260, S32_261, S32_262, S32_263, S32_264, S32_265, S32_266, S32, ↓XX, ↓reduceIte, Nat.reduceBEq, decide_true, decide_false, Bool.not_true, Bool.not_false, List.map_cons, List.map_nil, List.length_map, List.length_cons, List.length_nil, Nat.reduceAdd, Int.cast_ofNat_Int, Int.natCast_zero, Int.natCast_one, Bool.false_eq_true, Bool.true_eq_false, decide_eq_true_eq, eq_self, Int.reduceEq, Int.reduceLT, Int.reduceLE, Bool.and_true, Bool.true_and, Bool.and_false, Bool.false_and, Nat.zero_add, ↓iso_1 hty, h2]; exact ans_fv _ _
      · have hno : (Tm.mk k m l).fits (.mk op p ks) = false → Ans (S32 (SS dt n) n (IV.fv (FV.agg [FV.int IntKind.i64 k, FV.int IntKind.i64 m, FV.sl (List.map Tm.enc l)])) (IV.fv (FV.agg [FV.int IntKind.i64 op, FV.int IntKind.i64 p, FV.sl (List.map Tm.enc ks)])) ⟨[], []⟩) (.bool false) →
            Ans (S32 (SS dt n) n (IV.fv (FV.agg [FV.int IntKind.i64 k, FV.int IntKind.i64 m, FV.sl (List.map Tm.enc l)])) (IV.fv (FV.agg [FV.int IntKind.i64 op, FV.int IntKind.i64 p, FV.sl (List.map Tm.enc ks)])) ⟨[], []⟩) (.bool ((Tm.mk k m l).fits (.mk op p ks))) := fun h1 h2 => by rw [h1]; exact h2
        by_cases h2 : k = 2
        · by_cases h4 : m = 0
          · match l with
            | [] => exact hno (by simp [Tm.fits, h1, h3]) (by simp only [S32_250, S32_251, S32_252, S32_253, S32_254, S32_255, S32_256, S32_257, S32_258, S32_259, S32_260, S32_261, S32_262, S32_263, S32_264, S32_265, S32_266, S32, ↓XX, ↓reduceIte, Nat.reduceBEq, decide_true, decide_false, Bool.not_true, Bool.not_false, List.map_cons, List.map_nil, List.length_map, List.length_cons, List.length_nil, Nat.reduceAdd, Int.cast_ofNat_Int, Int.natCast_zero, Int.natCast_one, Bool.false_eq_true, Bool.true_eq_false, decide_eq_true_eq, eq_self, Int.reduceEq, Int.reduceLT, Int.reduceLE, Bool.and_true, Bool.true_and, Bool.and_false, Bool.false_and, Nat.zero_add, ↓iso_1 hty, h1, h2, h3, h4]; exact ans_fv _ _)
            | [_] => exact hno (fits1 ..) (by simp only [S32_250, S32_251, S32_252, S32_253, S32_254, S32_255, S32_256, S32_257, S32_258, S32_259, S32_260, S32_261, S32_262, S32_263, S32_264, S32_265, S32_266, S32, ↓XX, ↓reduceIte, Nat.reduceBEq, decide_true, decide_false, Bool.not_true, Bool.not_false, List.map_cons, List.map_nil, List.length_map, List.length_cons, List.length_nil, Nat.reduceAdd, Int.cast_ofNat_Int, Int.natCast_zero, Int.natCast_one, Bool.false_eq_true, Bool.true_eq_false, decide_eq_true_eq, eq_self, Int.reduceEq, Int.reduceLT, Int.reduceLE, Bool.and_true, Bool.true_and, Bool.and_false, Bool.false_and, Nat.zero_add, ↓iso_1 hty, h1, h2, h3, h4]; exact ans_fv _ _)
            | x :: y :: z :: l =>
              have : ¬ ((l.length : Int) + 1 + 1 + 1 = 2) := by omega
              exact hno (fits3 ..) (by simp only [S32_250, S32_251, S32_252, S32_253, S32_254, S32_255, S32_256, S32_257, S32_258, S32_259, S32_260, S32_261, S32_262, S32_263, S32_264, S32_265, S32_266, S32, ↓XX, ↓reduceIte, Nat.reduceBEq, decide_true, decide_false, Bool.not_true, Bool.not_false, List.map_cons, List.map_nil, List.length_map, List.length_cons, List.length_nil, Nat.reduceAdd, Int.cast_ofNat_Int, Int.natCast_zero, Int.natCast_one, Bool.false_eq_true, Bool.true_eq_false, decide_eq_true_eq, eq_self, Int.reduceEq, Int.reduceLT, Int.reduceLE, Bool.and_true, Bool.true_and, Bool.and_false, Bool.false_and, Nat.zero_add, ↓iso_1 hty, h1, h2, h3, h4, Int.natCast_add, this]; exact ans_fv _ _)
            | [x, y] =>
              by_cases h5 : op = 17
              · subst h5
                match ks, ht with
                | [], ht => simp [Tm.typed] at ht
                | [_], ht => rw [typed1] at ht; cases ht
                | x :: y :: z :: l, ht => rw [typed3] at ht; cases ht
                | [q, r], ht =>
                  simp only [Tm.typed, Bool.and_eq_true] at ht
                  simp only [Tm.wtL] at h
                  have ha := ih x q (by omega) ht.2.1
                  have hb := ih y r (by omega) ht.2.2
                  rw [Tm.fits]
                  simp only [Tm.kids, Tm.op]
                  generalize x.fits q = u at ha ⊢
                  generalize y.fits r = w at hb ⊢
                  obtain ⟨o1, n1, k1⟩ := x
                  obtain ⟨o2, n2, k2⟩ := y
                  obtain ⟨o3, n3, k3⟩ := q
                  obtain ⟨o4, n4, k4⟩ := r
                  subst h2 h4
                  simp only [List.map_cons, List.map_nil, enc_mk] at ha hb hty
                  cases u
                  · simp only [S32_250, S32_251, S32_252, S32_253, S32_254, S32_255, S32_256, S32_257, S32_258, S32_259, S32_260, S32_261, S32_262, S32_263, S32_264, S32_265, S32_266, S32, ↓XX, ↓reduceIte, Nat.reduceBEq, decide_true, decide_false, Bool.not_true, Bool.not_false, List.map_cons, List.map_nil, List.length_map, List.length_cons, List.length_nil, Nat.reduceAdd, Int.cast_ofNat_Int, Int.natCast_zero, Int.natCast_one, Bool.false_eq_true, Bool.true_eq_false, decide_eq_true_eq, eq_self, Int.reduceEq, Int.reduceLT, Int.reduceLE, Bool.and_true, Bool.true_and, Bool.and_false, Bool.false_and, Nat.zero_add, enc_mk, ↓iso_1 hty, ↓iso_2 ha]; exact ans_fv _ _
                  · simp only [S32_250, S32_251, S32_252, S32_253, S32_254, S32_255, S32_256, S32_257, S32_258, S32_259, S32_260, S32_261, S32_262, S32_263, S32_264, S32_265, S32_266, S32, ↓XX, ↓reduceIte, Nat.reduceBEq, decide_true, decide_false, Bool.not_true, Bool.not_false, List.map_cons, List.map_nil, List.length_map, List.length_cons, List.length_nil, Nat.reduceAdd, Int.cast_ofNat_Int, Int.natCast_zero, Int.natCast_one, Bool.false_eq_true, Bool.true_eq_false, decide_eq_true_eq, eq_self, Int.reduceEq, Int.reduceLT, Int.reduceLE, Bool.and_true, Bool.true_and, Bool.and_false, Bool.false_and, Nat.zero_add, enc_mk, ↓iso_1 hty, ↓iso_2 ha, ↓iso_2 hb]; exact ans_fv _ _
              · exact hno (by simp [Tm.fits, Tm.op, h5]) (by simp only [S32_250, S32_251, S32_252, S32_253, S32_254, S32_255, S32_256, S32_257, S32_258, S32_259, S32_260, S32_261, S32_262, S32_263, S32_264, S32_265, S32_266, S32, ↓XX, ↓reduceIte, Nat.reduceBEq, decide_true, decide_false, Bool.not_true, Bool.not_false, List.map_cons, List.map_nil, List.length_map, List.length_cons, List.length_nil, Nat.reduceAdd, Int.cast_ofNat_Int, Int.natCast_zero, Int.natCast_one, Bool.false_eq_true, Bool.true_eq_false, decide_eq_true_eq, eq_self, Int.reduceEq, Int.reduceLT, Int.reduceLE, Bool.and_true, Bool.true_and, Bool.and_false, Bool.false_and, Nat.zero_add, ↓iso_1 hty, h1, h2, h3, h4, h5]; exact ans_fv _ _)
          · have : (Tm.mk k m l).fits (.mk op p ks) = false := by
              match l with
              | [] => simp [Tm.fits, h1, h3]
              | [_] => exact fits1 ..
              | [_, _] => simp [Tm.fits, h4]
              | x :: y :: z :: l => exact fits3 ..
            exact hno this (by simp only [S32_250, S32_251, S32_252, S32_253, S32_254, S32_255, S32_256, S32_257, S32_258, S32_259, S32_260, S32_261, S32_262, S32_263, S32_264, S32_265, S32_266, S32, ↓XX, ↓reduceIte, Nat.reduceBEq, decide_true, decide_false, Bool.not_true, Bool.not_false, List.map_cons, List.map_nil, List.length_map, List.length_cons, List.length_nil, Nat.reduceAdd, Int.cast_ofNat_Int, Int.natCast_zero, Int.natCast_one, Bool.false_eq_true, Bool.true_eq_false, decide_eq_true_eq, eq_self, Int.reduceEq, Int.reduceLT, Int.reduceLE, Bool.and_true, Bool.true_and, Bool.and_false, Bool.false_and, Nat.zero_add, ↓iso_1 hty, h1, h2, h3, h4]; exact ans_fv _ _)
        · have : (Tm.mk k m l).fits (.mk op p ks) = false := by
            match l with
            | [] => simp [Tm.fits, h1, h3]
            | [_] => exact fits1 ..
            | [_, _] => simp [Tm.fits, h2]
            | x :: y :: z :: l => exact fits3 ..
          exact hno this (by simp only [S32_250, S32_251, S32_252, S32_253, S32_254, S32_255, S32_256, S32_257, S32_258, S32_259, S32_260, S32_261, S32_262, S32_263, S32_264, S32_265, S32_266, S32, ↓XX, ↓reduceIte, Nat.reduceBEq, decide_true, decide_false, Bool.not_true, Bool.not_false, List.map_cons, List.map_nil, List.length_map, List.length_cons, List.length_nil, Nat.reduceAdd, Int.cast_ofNat_Int, Int.natCast_zero, Int.natCast_one, Bool.false_eq_true, Bool.true_eq_false, decide_eq_true_eq, eq_self, Int.reduceEq, Int.reduceLT, Int.reduceLE, Bool.and_true, Bool.true_and, Bool.and_false, Bool.false_and, Nat.zero_add, ↓iso_1 hty, h1, h2, h3]; exact ans_fv _ _)
end Idl
end Go.Proofs.Ytdibmackcbpniaa
namespace Go.Proofs.Ytdibmackcbpniaa
namespace Idl
theorem tVals : EE.T 58 = some ⟨1, 24, .slice 60, [.nils]⟩ := by kernel_rfl
theorem tVal : EE.T 60 = some ⟨3, 40, .struct [(0, 3), (1, 3), (2, 58)], [.fv (.int .i64 0), .fv (.int .i64 0), .nils]⟩ := by kernel_rfl
theorem bs2_val (a b : Tm) (s : Nat) (h : Hp) (k : IV → Hp → List Ref → List Ref → Option (IV × Hp)) : genS (pcBuildSlice EE 58 2 [(0, .fv a.enc), (1, .fv b.enc)]) s h k = k (.clip [a.enc, b.enc]) h [] [] := by
  obtain ⟨o1, n1, k1⟩ := a
  obtain ⟨o2, n2, k2⟩ := b
  exact bs_tm tVals tVal (by decide) (cells := [.int .i64 o1, .int .i64 n1, .sl (Tm.enc.encL k1), .int .i64 o2, .int .i64 n2, .sl (Tm.enc.encL k2)]) rfl k
theorem within11_nn {n : Nat} (hn : 0 < n) {x m : Int} (h0 : 0 ≤ x) (h1 : 0 < m) : Ans (SS dt n 23 [iv x, iv m] ⟨[], []⟩) (.int .i64 (x % m)) := by
  obtain ⟨n, rfl⟩ : ∃ k, n = k + 1 := ⟨n - 1, by omega⟩
  rw [c23]
  have e : x.tmod m = x % m := Int.tmod_eq_emod_of_nonneg h0
  have e2 : ¬ x % m < 0 := by have := Int.emod_nonneg x (show m ≠ 0 by omega); omega
  simp only [S23, ↓XX, ↓reduceIte, Nat.reduceBEq, decide_true, decide_false, Bool.not_true, Bool.not_false, List.map_cons, List.map_nil, List.length_map, List.length_cons, List.length_nil, Nat.reduceAdd, Int.cast_ofNat_Int, Int.natCast_zero, Int.natCast_one, Bool.false_eq_true, Bool.true_eq_false, decide_eq_true_eq, eq_self, Int.reduceEq, Int.reduceLT, Int.reduceLE, Bool.and_true, Bool.true_and, Bool.and_false, Bool.false_and, Nat.zero_add, ↓rem_s (show m ≠ 0 by omega), e, e2]
  exact ans_fv _ _
def iEnc (ns : List Int) : FV := .sl (ns.map (FV.int .i64))
def Tm.valT : Tm → List Int → Int → Tm
  | .mk _ _ [], ns, i => .mk 1 (match ns with
    | [] => i
    | _ => ns.getD (i % ns.length).toNat 0) []
  | .mk op _ [a, b], ns, i => if op = 16 then .mk 3 0 [] else .mk 2 0 [a.valT ns (2 * i + 1), b.valT ns (2 * i + 2)]
  | _, _, _ => .mk 0 0 []
theorem valT_ok (ns : List Int) : ∀ (n : Nat) (a : Tm) (i : Int), a.wt + 1 < n → a.typed = true → 0 ≤ i → (i + 2) * 2 ^ a.wt ≤ 1000000000000 → Ans (SS dt n 33 [.fv a.enc, .fv (iEnc ns), iv i] ⟨[], []⟩) (a.valT ns i).enc := by
  intro n
  induction n with
  | zero => intro a i h; omega
  | succ n ih =>
    intro a i h ht h0 hb
    rw [c33]
    obtain ⟨op, p, ks⟩ := a
    simp only [Tm.wt] at h hb
    rw [enc_mk]
    match ks, ht with
    | [], ht =>
      have h1 : op = 15 := by simpa [Tm.typed] using ht
      subst h1
      match ns with
      | [] =>
        simp only [S33_75, S33_76, S33_77, S33_78, S33_79, S33_80, S33_81, S33_82, S33_83, S33_84, S33_85, S33, ↓XX, ↓reduceIte, Nat.reduceBEq, decide_true, decide_false, Bool.not_true, Bool.not_false, List.map_cons, List.map_nil, List.length_map, List.length_cons, List.length_nil, Nat.reduceAdd, Int.cast_ofNat_Int, Int.natCast_zero, Int.natCast_one, Bool.false_eq_true, Bool.true_eq_false, decide_eq_true_eq, eq_self, Int.reduceEq, Int.reduceLT, Int.reduceLE, Bool.and_true, Bool.true_and, Bool.and_false, Bool.false_and, Nat.zero_add, iEnc, Tm.valT, enc_mk]
        exact ans_p rfl _
      | x :: l =>
        have hl : ¬ (((l.length + 1 : Nat) : Int) = 0) := by omega
        have hw := within11_nn (n := n) (by omega) (x := i) (m := ((x :: l).length : Int)) h0 (by simp)
        have h3 : i % ((x :: l).length : Int) < ((x :: l).length : Int) := Int.emod_lt_of_pos _ (by simp)
        have h4 : 0 ≤ i % ((x :: l).length : Int) := Int.emod_nonneg _ (by simp; omega)
        obtain ⟨j, hj⟩ : ∃ j : Nat, i % ((x :: l).length : Int) = j := ⟨_, (Int.toNat_of_nonneg h4).symm⟩
        have hjl : j < (x :: l).length := by omega
        have hg : ((x :: l).map (FV.int .i64))[j]? = some (FV.int .i64 ((x :: l).getD j 0)) := by
          rw [List.getElem?_map, List.getD_eq_getElem?_getD, List.getElem?_eq_getElem hjl]; rfl
        rw [hj] at hw
        have hix := fun {β : Type} => ix_f (β := β) (size := 1) hg rfl
        simp only [Tm.valT, hj, Int.toNat_natCast]
        generalize (x :: l).getD j 0 = g at hg hix ⊢
        simp only [List.map_cons, List.length_cons] at hix hw
        simp only [S33_75, S33_76, S33_77, S33_78, S33_79, S33_80, S33_81, S33_82, S33_83, S33_84, S33_85, S33, ↓XX, ↓reduceIte, Nat.reduceBEq, decide_true, decide_false, Bool.not_true, Bool.not_false, List.map_cons, List.map_nil, List.length_map, List.length_cons, List.length_nil, Nat.reduceAdd, Int.cast_ofNat_Int, Int.natCast_zero, Int.natCast_one, Bool.false_eq_true, Bool.true_eq_false, decide_eq_true_eq, eq_self, Int.reduceEq, Int.reduceLT, Int.reduceLE, Bool.and_true, Bool.true_and, Bool.and_false, Bool.false_and, Nat.zero_add, iEnc, hl, ↓iso_2 hw, ↓hix, FV.cells, enc_mk]
        exact ans_p rfl _
    | [_], ht => rw [typed1] at ht; cases ht
    | x :: y :: z :: l, ht => rw [typed3] at ht; cases ht
    | [a, b], ht =>
      simp only [Tm.typed, Bool.and_eq_true, Bool.or_eq_true, decide_eq_true_eq] at ht
      have h15 : op ≠ 15 := by omega
      by_cases h16 : op = 16
      · simp only [S33_75, S33_76, S33_77, S33_78, S33_79, S33_80, S33_81, S33_82, S33_83, S33_84, S33_85, S33, ↓XX, ↓reduceIte, Nat.reduceBEq, decide_true, decide_false, Bool.not_true, Bool.not_false, List.map_cons, List.map_nil, List.length_map, List.length_cons, List.length_nil, Nat.reduceAdd, Int.cast_ofNat_Int, Int.natCast_zero, Int.natCast_one, Bool.false_eq_true, Bool.true_eq_false, decide_eq_true_eq, eq_self, Int.reduceEq, Int.reduceLT, Int.reduceLE, Bool.and_true, Bool.true_and, Bool.and_false, Bool.false_and, Nat.zero_add, h15, h16, Tm.valT, if_true, enc_mk]
        exact ans_p rfl _
      · simp only [Tm.wtL] at h hb
        have hp : ∀ k l : Nat, k ≤ l → (0 : Int) < 2 ^ k ∧ (2 : Int) ^ k ≤ 2 ^ l := fun k l hk => ⟨Int.pow_pos (by decide), by
          have := Nat.pow_le_pow_right (show 2 > 0 by decide) hk
          exact_mod_cast this⟩
        have hi : i ≤ 1000000000000 := by
          have h1 := (hp 0 (1 + (a.wt + (b.wt + 0))) (by omega)).2
          have h2 : (i + 2) * 1 ≤ (i + 2) * 2 ^ (1 + (a.wt + (b.wt + 0))) := Int.mul_le_mul_of_nonneg_left (by simpa using h1) (by omega)
          omega
        have e0 : w64 (2 * i) = 2 * i := by rw [w64_id] <;> omega
        have e1 : w64 (2 * i + 1) = 2 * i + 1 := by rw [w64_id] <;> omega
        have e2 : w64 (2 * i + 2) = 2 * i + 2 := by rw [w64_id] <;> omega
        have hk : ∀ (c : Tm) (j : Int), c.wt ≤ a.wt + b.wt → j ≤ 2 * i + 2 → 0 ≤ j → (j + 2) * 2 ^ c.wt ≤ 1000000000000 := by
          intro c j hc hj hj0
          have h1 := hp c.wt (a.wt + b.wt) hc
          have h2 : (j + 2) * 2 ^ c.wt ≤ (2 * i + 4) * 2 ^ c.wt := Int.mul_le_mul_of_nonneg_right (by omega) (by omega)
          have h3 : (2 * i + 4) * 2 ^ c.wt ≤ (2 * i + 4) * 2 ^ (a.wt + b.wt) := Int.mul_le_mul_of_nonneg_left h1.2 (by omega)
          have h4 : (i + 2) * 2 ^ (1 + (a.wt + (b.wt + 0))) = (2 * i + 4) * 2 ^ (a.wt + b.wt) := by
            rw [show 1 + (a.wt + (b.wt + 0)) = (a.wt + b.wt) + 1 by omega, Int.pow_succ, show (2 * i + 4) = (i + 2) * 2 by omega, Int.mul_assoc, Int.mul_comm (2 : Int)]
          omega
        have ha := ih a (2 * i + 1) (by have := wt_pos b; omega) ht.2.1 (by omega) (hk a _ (by omega) (by omega) (by omega))
        have hv := ih b (2 * i + 2) (by have := wt_pos a; omega) ht.2.2 (by omega) (hk b _ (by omega) (by omega) (by omega))
        simp only [Tm.valT, if_neg h16]
        generalize a.valT ns (2 * i + 1) = u at ha ⊢
        generalize b.valT ns (2 * i + 2) = v at hv ⊢
        obtain ⟨o1, n1, k1⟩ := a
        obtain ⟨o2, n2, k2⟩ := b
        simp only [enc_mk] at ha hv
        simp only [S33_75, S33_76, S33_77, S33_78, S33_79, S33_80, S33_81, S33_82, S33_83, S33_84, S33_85, S33, ↓XX, ↓reduceIte, Nat.reduceBEq, decide_true, decide_false, Bool.not_true, Bool.not_false, List.map_cons, List.map_nil, List.length_map, List.length_cons, List.length_nil, Nat.reduceAdd, Int.cast_ofNat_Int, Int.natCast_zero, Int.natCast_one, Bool.false_eq_true, Bool.true_eq_false, decide_eq_true_eq, eq_self, Int.reduceEq, Int.reduceLT, Int.reduceLE, Bool.and_true, Bool.true_and, Bool.and_false, Bool.false_and, Nat.zero_add, h15, h16, e0, e1, e2, enc_mk, ↓iso_3 ha, ↓iso_3 hv, ↓bs2_val]
        exact ans_p rfl _
def Tm.alike : Tm → Tm → Bool
  | .mk o _ [a, b], .mk o' _ [c, d] => if o = o' ∧ o = 17 then a.alike c && b.alike d else decide (o = o')
  | .mk o _ _, .mk o' _ _ => decide (o = o')
theorem alike_ok : ∀ (n : Nat) (a b : Tm), a.wt < n → a.typed = true → b.typed = true → Ans (SS dt n 34 [.fv a.enc, .fv b.enc] ⟨[], []⟩) (.bool (a.alike b)) := by
  intro n
  induction n with
  | zero => intro a b h; omega
  | succ n ih =>
    intro a b h ha hb
    rw [c34]
    obtain ⟨o, p, ks⟩ := a
    obtain ⟨o', p', ks'⟩ := b
    simp only [Tm.wt] at h
    rw [enc_mk, enc_mk]
    by_cases h1 : o = o' ∧ o = 17
    · obtain ⟨rfl, rfl⟩ := h1
      match ks, ha, ks', hb with
      | [a, b], ha, [c, d], hb =>
        simp only [Tm.typed, Bool.and_eq_true] at ha hb
        simp only [Tm.wtL] at h
        have h1 := ih a c (by omega) ha.2.1 hb.2.1
        have h2 := ih b d (by omega) ha.2.2 hb.2.2
        rw [Tm.alike, if_pos ⟨rfl, rfl⟩]
        generalize a.alike c = u at h1 ⊢
        generalize b.alike d = w at h2 ⊢
        obtain ⟨o1, n1, k1⟩ := a
        obtain ⟨o2, n2, k2⟩ := b
        obtain ⟨o3, n3, k3⟩ := c
        obtain ⟨o4, n4, k4⟩ := d
        simp only [enc_mk] at h1 h2
        cases u
        · simp only [S34_119, S34_120, S34_121, S34_122, S34_123, S34_124, S34_125, S34_126, S34_127, S34, ↓XX, ↓reduceIte, Nat.reduceBEq, decide_true, decide_false, Bool.not_true, Bool.not_false, List.map_cons, List.map_nil, List.length_map, List.length_cons, List.length_nil, Nat.reduceAdd, Int.cast_ofNat_Int, Int.natCast_zero, Int.natCast_one, Bool.false_eq_true, Bool.true_eq_false, decide_eq_true_eq, eq_self, Int.reduceEq, Int.reduceLT, Int.reduceLE, Bool.and_true, Bool.true_and, Bool.and_false, Bool.false_and, Nat.zero_add, enc_mk, ↓iso_2 h1]; exact ans_fv _ _
        · simp only [S34_119, S34_120, S34_121, S34_122, S34_123, S34_124, S34_125, S34_126, S34_127, S34, ↓XX, ↓reduceIte, Nat.reduceBEq, decide_true, decide_false, Bool.not_true, Bool.not_false, List.map_cons, List.map_nil, List.length_map, List.length_cons, List.length_nil, Nat.reduceAdd, Int.cast_ofNat_Int, Int.natCast_zero, Int.natCast_one, Bool.false_eq_true, Bool.true_eq_false, decide_eq_true_eq, eq_self, Int.reduceEq, Int.reduceLT, Int.reduceLE, Bool.and_true, Bool.true_and, Bool.and_false, Bool.false_and, Nat.zero_add, enc_mk, ↓iso_2 h1, ↓iso_2 h2]; exact ans_fv _ _
      | [], ha, _, _ => simp [Tm.typed] at ha
      | [_], ha, _, _ => rw [typed1] at ha; cases ha
      | _ :: _ :: _ :: _, ha, _, _ => rw [typed3] at ha; cases ha
      | [_, _], _, [], hb => simp [Tm.typed] at hb
      | [_, _], _, [_], hb => rw [typed1] at hb; cases hb
      | [_, _], _, _ :: _ :: _ :: _, hb => rw [typed3] at hb; cases hb
    · have e : (Tm.mk o p ks).alike (.mk o' p' ks') = decide (o = o') := by
        unfold Tm.alike
        split
        · rename_i e1 e2; cases e1; cases e2; rw [if_neg h1]
        · rename_i e2 e3; cases e2; cases e3; rfl
      rw [e]
      by_cases h2 : o = o'
      · have h3 : ¬ o = 17 := fun e => h1 ⟨h2, e⟩
        subst h2
        simp only [S34_119, S34_120, S34_121, S34_122, S34_123, S34_124, S34_125, S34_126, S34_127, S34, ↓XX, ↓reduceIte, Nat.reduceBEq, decide_true, decide_false, Bool.not_true, Bool.not_false, List.map_cons, List.map_nil, List.length_map, List.length_cons, List.length_nil, Nat.reduceAdd, Int.cast_ofNat_Int, Int.natCast_zero, Int.natCast_one, Bool.false_eq_true, Bool.true_eq_false, decide_eq_true_eq, eq_self, Int.reduceEq, Int.reduceLT, Int.reduceLE, Bool.and_true, Bool.true_and, Bool.and_false, Bool.false_and, Nat.zero_add, h3]; exact ans_fv _ _
      · simp only [S34_119, S34_120, S34_121, S34_122, S34_123, S34_124, S34_125, S34_126, S34_127, S34, ↓XX, ↓reduceIte, Nat.reduceBEq, decide_true, decide_false, Bool.not_true, Bool.not_false, List.map_cons, List.map_nil, List.length_map, List.length_cons, List.length_nil, Nat.reduceAdd, Int.cast_ofNat_Int, Int.natCast_zero, Int.natCast_one, Bool.false_eq_true, Bool.true_eq_false, decide_eq_true_eq, eq_self, Int.reduceEq, Int.reduceLT, Int.reduceLE, Bool.and_true, Bool.true_and, Bool.and_false, Bool.false_and, Nat.zero_add, h2]; exact ans_fv _ _
end Idl
end Go.Proofs.Ytdibmackcbpniaa
namespace Go.Proofs.Ytdibmackcbpniaa
namespace Idl
def AnsV (r : Option (IV × Hp)) (v : FV) : Prop := ∃ own, r = some (.fv v, ⟨own, []⟩)
theorem ansv {v : FV} {own : List (Nat × Blk)} : AnsV (some (.fv v, ⟨own, []⟩)) v := ⟨own, rfl⟩
theorem eq_b (a b : Bool) (k : IV → Option (IV × Hp)) : eqS EE 4 (.fv (.bool a)) (.fv (.bool b)) k = k (.fv (.bool (a == b))) := eq_sb a b (by kernel_rfl) k
theorem known_run (n : Nat) : isTrueE (SS dt (n + 60) 11 [] ⟨[], []⟩) = true := by kernel_rfl
theorem known_ok {n : Nat} (h : 60 ≤ n) : Ans (SS dt n 11 [] ⟨[], []⟩) (.bool true) := by
  obtain ⟨k, rfl⟩ : ∃ k, n = k + 60 := ⟨n - 60, by omega⟩
  exact ans_true (known_run k)
theorem plainT_typed : ∀ (d : Nat) (r : Tm), (r.plainT d).typed = true
  | 0, r => by simp [Tm.plainT, Tm.typed]
  | d + 1, r => by
    have h1 := Int.emod_nonneg r.n (show (4 : Int) ≠ 0 by decide)
    have h2 := Int.emod_lt_of_pos r.n (show (0 : Int) < 4 by decide)
    simp only [Tm.plainT]
    split
    · simp [Tm.typed]
    · simp only [Tm.typed, plainT_typed d, Bool.and_self, Bool.and_true, Bool.or_eq_true, decide_eq_true_eq]
      omega
theorem plainT_wt : ∀ (d : Nat) (r : Tm), (r.plainT d).wt ≤ 2 ^ (d + 1) - 1
  | 0, r => by simp [Tm.plainT, Tm.wt, Tm.wtL]
  | d + 1, r => by
    have h1 := plainT_wt d (r.pick 0)
    have h2 := plainT_wt d (r.pick 1)
    have h3 : 0 < 2 ^ (d + 1) := Nat.pow_pos (by decide)
    simp only [Tm.plainT]
    split
    · simp only [Tm.wt, Tm.wtL, Nat.pow_succ] at *; omega
    · simp only [Tm.wt, Tm.wtL, Nat.pow_succ] at *; omega
theorem val_fits (ns : List Int) : ∀ (n : Nat) (a b : Tm) (i : Int), a.wt < n → a.typed = true → b.typed = true → (a.valT ns i).fits b = a.alike b := by
  intro n
  induction n with
  | zero => intro a b i h; omega
  | succ n ih =>
    intro a b i h ha hb
    obtain ⟨op, p, ks⟩ := a
    obtain ⟨op', p', ks'⟩ := b
    simp only [Tm.wt] at h
    match ks, ha with
    | [], ha =>
      have h1 : op = 15 := by simpa [Tm.typed] using ha
      subst h1
      simp [Tm.valT, Tm.fits, Tm.op, Tm.alike, eq_comm]; rfl
    | [_], ha => rw [typed1] at ha; cases ha
    | x :: y :: z :: l, ha => rw [typed3] at ha; cases ha
    | [a, b], ha =>
      simp only [Tm.typed, Bool.and_eq_true, Bool.or_eq_true, decide_eq_true_eq] at ha
      simp only [Tm.wtL] at h
      by_cases h16 : op = 16
      · subst h16
        match ks', hb with
        | [], hb => simp [Tm.valT, Tm.fits, Tm.op, Tm.alike, eq_comm]; rfl
        | [_], hb => rw [typed1] at hb; cases hb
        | x :: y :: z :: l, hb => rw [typed3] at hb; cases hb
        | [c, d], hb => simp [Tm.valT, Tm.fits, Tm.op, Tm.alike, eq_comm]; rfl
      · have h17 : op = 17 := by omega
        subst h17
        match ks', hb with
        | [], hb =>
          have h1 : op' = 15 := by simpa [Tm.typed] using hb
          subst h1
          simp [Tm.valT, Tm.fits, Tm.op, Tm.alike]
        | [_], hb => rw [typed1] at hb; cases hb
        | x :: y :: z :: l, hb => rw [typed3] at hb; cases hb
        | [c, d], hb =>
          simp only [Tm.typed, Bool.and_eq_true, Bool.or_eq_true, decide_eq_true_eq] at hb
          have e1 := ih a c (2 * i + 1) (by omega) ha.2.1 hb.2.1
          have e2 := ih b d (2 * i + 2) (by omega) ha.2.2 hb.2.2
          by_cases ho : op' = 17
          · subst ho
            simp [Tm.valT, Tm.fits, Tm.op, Tm.kids, Tm.alike, e1, e2]
          · simp [Tm.valT, Tm.fits, Tm.op, Tm.alike, ho, Ne.symm ho]
theorem valT_wt (ns : List Int) : ∀ (n : Nat) (a : Tm) (i : Int), a.wt < n → (a.valT ns i).wt ≤ a.wt := by
  intro n
  induction n with
  | zero => intro a i h; omega
  | succ n ih =>
    intro a i h
    obtain ⟨op, p, ks⟩ := a
    simp only [Tm.wt] at h
    match ks with
    | [] => simp [Tm.valT, Tm.wt, Tm.wtL]
    | [_] => rw [Tm.valT] <;> simp [Tm.wt, Tm.wtL]
    | _ :: _ :: _ :: _ => rw [Tm.valT] <;> simp [Tm.wt, Tm.wtL]
    | [a, b] =>
      simp only [Tm.wtL] at h
      have h1 := ih a (2 * i + 1) (by omega)
      have h2 := ih b (2 * i + 2) (by omega)
      simp only [Tm.valT]
      split <;> simp only [Tm.wt, Tm.wtL] <;> omega
theorem objFits_ok (q s : Tm) (ns : List Int) : ∃ N, AnsV (SS dt N 8 [.fv q.enc, .fv s.enc, .fv (iEnc ns)] ⟨[], []⟩) (.bool true) := by
  refine ⟨q.wt + s.wt + 200 + 1, ?_⟩
  rw [c8]
  generalize hn : q.wt + s.wt + 200 = n
  have hk := known_ok (n := n) (by omega)
  obtain ⟨m, hm⟩ : ∃ m, n = m + 1 := ⟨n - 1, by omega⟩
  have fq := few_ok (n := m) q (by omega)
  have fs := few_ok (n := m) s (by omega)
  rw [← hm] at fq fs
  have pq := plainT_ok 3 n q (by omega) (by omega)
  have ps := plainT_ok 3 n s (by omega) (by omega)
  have ta := plainT_typed 3 q
  have tb := plainT_typed 3 s
  have wa := plainT_wt 3 q
  have wb := plainT_wt 3 s
  have hv := valT_ok ns n (q.plainT 3) 0 (by omega) ta (by omega) (by
    have h1 : (2 : Nat) ^ (q.plainT 3).wt ≤ 2 ^ 15 := Nat.pow_le_pow_right (by decide) wa
    have h2 : ((2 : Int) ^ (q.plainT 3).wt) ≤ 2 ^ 15 := by exact_mod_cast h1
    omega)
  have hvw : ((q.plainT 3).valT ns 0).wt ≤ (q.plainT 3).wt := valT_wt ns ((q.plainT 3).wt + 1) _ 0 (by omega)
  have hf := fits_ok n ((q.plainT 3).valT ns 0) (s.plainT 3) (by omega) tb
  have hl := alike_ok n (q.plainT 3) (s.plainT 3) (by omega) ta tb
  rw [val_fits ns ((q.plainT 3).wt + 1) _ _ 0 (by omega) ta tb] at hf
  generalize (q.plainT 3).alike (s.plainT 3) = b at hf hl
  generalize (q.plainT 3).valT ns 0 = v at hv hf
  generalize q.plainT 3 = x at pq hv hl
  generalize s.plainT 3 = y at ps hf hl
  cases h1 : decide (q.count 300 < 300)
  · rw [h1] at fq
    obtain ⟨o1, n1, k1⟩ := q
    obtain ⟨o2, n2, k2⟩ := s
    simp only [enc_mk] at fq fs ⊢
    simp only [S8_90, S8_91, S8_92, S8_93, S8_94, S8_95, S8_96, S8_97, S8, ↓XX, ↓reduceIte, Nat.reduceBEq, decide_true, decide_false, Bool.not_true, Bool.not_false, List.map_cons, List.map_nil, List.length_map, List.length_cons, List.length_nil, Nat.reduceAdd, Int.cast_ofNat_Int, Int.natCast_zero, Int.natCast_one, Bool.false_eq_true, Bool.true_eq_false, decide_eq_true_eq, eq_self, Int.reduceEq, Int.reduceLT, Int.reduceLE, Bool.and_true, Bool.true_and, Bool.and_false, Bool.false_and, Nat.zero_add, iEnc, ↓iso_0 hk, ↓iso_1 fq]
    exact ansv
  · rw [h1] at fq
    cases h2 : decide (s.count 300 < 300)
    · rw [h2] at fs
      obtain ⟨o1, n1, k1⟩ := q
      obtain ⟨o2, n2, k2⟩ := s
      simp only [enc_mk] at fq fs ⊢
      simp only [S8_90, S8_91, S8_92, S8_93, S8_94, S8_95, S8_96, S8_97, S8, ↓XX, ↓reduceIte, Nat.reduceBEq, decide_true, decide_false, Bool.not_true, Bool.not_false, List.map_cons, List.map_nil, List.length_map, List.length_cons, List.length_nil, Nat.reduceAdd, Int.cast_ofNat_Int, Int.natCast_zero, Int.natCast_one, Bool.false_eq_true, Bool.true_eq_false, decide_eq_true_eq, eq_self, Int.reduceEq, Int.reduceLT, Int.reduceLE, Bool.and_true, Bool.true_and, Bool.and_false, Bool.false_and, Nat.zero_add, iEnc, ↓iso_0 hk, ↓iso_1 fq, ↓iso_1 fs]
      exact ansv
    · rw [h2] at fs
      obtain ⟨o1, n1, k1⟩ := q
      obtain ⟨o2, n2, k2⟩ := s
      obtain ⟨o3, n3, k3⟩ := x
      obtain ⟨o4, n4, k4⟩ := y
      simp only [enc_mk, iEnc] at fq fs pq ps hv hf hl ⊢
      simp only [S8_90, S8_91, S8_92, S8_93, S8_94, S8_95, S8_96, S8_97, S8, ↓XX, ↓reduceIte, Nat.reduceBEq, decide_true, decide_false, Bool.not_true, Bool.not_false, List.map_cons, List.map_nil, List.length_map, List.length_cons, List.length_nil, Nat.reduceAdd, Int.cast_ofNat_Int, Int.natCast_zero, Int.natCast_one, Bool.false_eq_true, Bool.true_eq_false, decide_eq_true_eq, eq_self, Int.reduceEq, Int.reduceLT, Int.reduceLE, Bool.and_true, Bool.true_and, Bool.and_false, Bool.false_and, Nat.zero_add, ↓iso_0 hk, ↓iso_1 fq, ↓iso_1 fs, ↓iso_2 pq, ↓iso_2 ps, ↓iso_3 hv, ↓iso_2 hf, ↓iso_2 hl, ↓eq_b, beq_self_eq_true]
      exact ansv
end Idl
end Go.Proofs.Ytdibmackcbpniaa

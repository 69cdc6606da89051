/-
  A SHALLOW FORM OF THE IDEAL RUN: operations as functions that hand on what they reckon, wholly reckoned. Definitions. No statement of the seat is proved here.
-/
import Derived.Test.YtbkdidonegggdaaIdl23
namespace Go.Proofs.Ytbkdidonegggdaa
namespace Idl

section lists
variable {α β : Type}
noncomputable def nthK (l : List α) (i : Nat) (k : α → Option β) : Option β :=
  List.rec (motive := fun _ => Nat → Option β) (fun _ => none) (fun x _ ih i => Nat.rec (motive := fun _ => Option β) (k x) (fun p _ => ih p) i) l i
theorem nthK_eq (l : List α) (i : Nat) (k : α → Option β) : nthK l i k = (l[i]?).bind k := by
  induction l generalizing i with
  | nil => rfl
  | cons x l ih => cases i with
    | zero => rfl
    | succ i => exact ih i
noncomputable def drpK (l : List α) (n : Nat) (k : List α → Option β) : Option β :=
  List.rec (motive := fun _ => Nat → Option β) (fun n => Nat.rec (motive := fun _ => Option β) (k []) (fun _ _ => none) n) (fun x t ih n => Nat.rec (motive := fun _ => Option β) (k (x :: t)) (fun p _ => ih p) n) l n
theorem drpK_eq (l : List α) (n : Nat) (k : List α → Option β) : drpK l n k = if n ≤ l.length then k (l.drop n) else none := by
  induction l generalizing n with
  | nil => cases n with
    | zero => rfl
    | succ n => rw [if_neg (by simp)]; rfl
  | cons x l ih => cases n with
    | zero => rw [if_pos (Nat.zero_le _)]; rfl
    | succ n => rw [show drpK (x :: l) (n + 1) k = drpK l n k from rfl, ih]; simp
noncomputable def takK (l : List α) (n : Nat) (k : List α → Option β) : Option β :=
  List.rec (motive := fun _ => Nat → (List α → Option β) → Option β) (fun n k => Nat.rec (motive := fun _ => Option β) (k []) (fun _ _ => none) n)
    (fun x _ ih n k => Nat.rec (motive := fun _ => Option β) (k []) (fun p _ => ih p fun xs => k (x :: xs)) n) l n k
theorem takK_eq (l : List α) (n : Nat) (k : List α → Option β) : takK l n k = if n ≤ l.length then k (l.take n) else none := by
  induction l generalizing n k with
  | nil => cases n with
    | zero => rfl
    | succ n => rw [if_neg (by simp)]; rfl
  | cons x l ih => cases n with
    | zero => rw [if_pos (Nat.zero_le _)]; rfl
    | succ n => rw [show takK (x :: l) (n + 1) k = takK l n (fun xs => k (x :: xs)) from rfl, ih]; simp
noncomputable def setNK (l : List α) (j : Nat) (b : α) (k : List α → Option β) : Option β :=
  List.rec (motive := fun _ => Nat → (List α → Option β) → Option β) (fun _ k => k []) (fun x t ih j k => Nat.rec (motive := fun _ => Option β) (k (b :: t)) (fun p _ => ih p fun xs => k (x :: xs)) j) l j k
theorem setNK_eq (l : List α) (j : Nat) (b : α) (k : List α → Option β) : setNK l j b k = k (l.set j b) := by
  induction l generalizing j k with
  | nil => rfl
  | cons x l ih => cases j with
    | zero => rfl
    | succ j => rw [show setNK (x :: l) (j + 1) b k = setNK l j b (fun xs => k (x :: xs)) from rfl, ih]; rfl
noncomputable def uncS (l : List α) (k : α → List α → Option β) : Option β := List.casesOn (motive := fun _ => Option β) l none k
end lists

/-! ## Values, wholly reckoned (references, too) -/
section
variable {α : Type}
noncomputable def fRf (r : Ref) (k : Ref → α) : α := match r with
  | .own n => fNat n fun n => k (.own n)
  | .ext n => fNat n fun n => k (.ext n)
theorem fRf_eq (r : Ref) (k : Ref → α) : fRf r k = k r := by cases r <;> simp [fRf, fNat_eq]
noncomputable def fV : Nat → IV → (IV → α) → α
  | 0, v, k => k v
  | d + 1, v, k => match v with
    | .dead => k .dead
    | .fv v => fFV d v fun v => k (.fv v)
    | .ptr r o => fRf r fun r => fNat o fun o => k (.ptr r o)
    | .slc r sz n => fRf r fun r => fNat sz fun sz => fNat n fun n => k (.slc r sz n)
    | .nils => k .nils
    | .emp => k .emp
    | .clip es => fL (fFV d) es fun es => k (.clip es)
    | .app r es => fRf r fun r => fL (fFV d) es fun es => k (.app r es)
    | .func fn a b => fL (fV d) a fun a => fL (fV d) b fun b => k (.func fn a b)
    | .agg cs => fL (fV d) cs fun cs => k (.agg cs)
    | .tuple cs => fL (fV d) cs fun cs => k (.tuple cs)
    | .mapr r => fRf r fun r => k (.mapr r)
theorem fV_eq : ∀ (d : Nat) (v : IV) (k : IV → α), fV d v k = k v
  | 0, _, _ => rfl
  | d + 1, v, k => by cases v <;> simp [fV, fL_eq (fV_eq d), fL_eq (fFV_eq d), fFV_eq, fNat_eq, fRf_eq]
noncomputable def fBk (b : Blk) (k : Blk → α) : α := match b with
  | .row cs ro => fL (fV 3) cs fun cs => k (.row cs ro)
  | .tok n sz => fNat n fun n => fNat sz fun sz => k (.tok n sz)
  | .map es => fL (fun (p : Int × IV) k => match p with | (n, v) => fInt n fun n => fV 4 v fun v => k (n, v)) es fun es => k (.map es)
theorem fBk_eq (b : Blk) (k : Blk → α) : fBk b k = k b := by
  cases b with
  | row cs ro => simp only [fBk]; rw [fL_eq (fV_eq 3)]
  | tok n sz => simp only [fBk]; rw [fNat_eq, fNat_eq]
  | map es =>
    simp only [fBk]
    rw [fL_eq]
    rintro ⟨n, v⟩ k
    simp only
    rw [fInt_eq, fV_eq]
noncomputable def fOw (p : Nat × Blk) (k : Nat × Blk → α) : α := match p with | (n, b) => fNat n fun n => fBk b fun b => k (n, b)
theorem fOw_eq (p : Nat × Blk) (k : Nat × Blk → α) : fOw p k = k p := by
  obtain ⟨n, b⟩ := p
  simp only [fOw]
  rw [fNat_eq, fBk_eq]
noncomputable def fH (h : Hp) (k : Hp → α) : α := match h with | ⟨own, ext⟩ => fL fOw own fun own => fL fBk ext fun ext => k ⟨own, ext⟩
theorem fH_eq (h : Hp) (k : Hp → α) : fH h k = k h := by
  obtain ⟨a, b⟩ := h
  simp only [fH]
  rw [fL_eq fOw_eq, fL_eq fBk_eq]
end

section
variable {β : Type}

/-! ## Blocks -/
noncomputable def ownK (l : List (Nat × Blk)) (s : Nat) (k : Blk → Option β) : Option β :=
  List.rec (motive := fun _ => Option β) none (fun p _ ih => match p with | (j, b) => cond (Nat.beq s j) (k b) ih) l
theorem beq_ite {α : Type} (a b : Nat) (x y : α) : cond (Nat.beq a b) x y = if a = b then x else y := by
  cases h : Nat.beq a b with
  | true => rw [if_pos (Nat.eq_of_beq_eq_true h)]; rfl
  | false => rw [if_neg (fun e => by rw [e, show Nat.beq b b = true from Nat.beq_refl b] at h; cases h)]; rfl
theorem ownK_eq (l : List (Nat × Blk)) (s : Nat) (k : Blk → Option β) : ownK l s k = (lookupOwn s l).bind k := by
  induction l with
  | nil => rfl
  | cons p l ih =>
    obtain ⟨j, b⟩ := p
    rw [show ownK ((j, b) :: l) s k = cond (Nat.beq s j) (k b) (ownK l s k) from rfl, beq_ite, ih]
    simp only [lookupOwn]
    split <;> rfl
noncomputable def getK (r : Ref) (h : Hp) (k : Blk → Option β) : Option β := match h with
  | ⟨own, ext⟩ => match r with
    | .own s => ownK own s k
    | .ext j => nthK ext j k
theorem getK_eq (r : Ref) (h : Hp) (k : Blk → Option β) : getK r h k = (h.get r).bind k := by
  obtain ⟨own, ext⟩ := h
  cases r with
  | own s => exact ownK_eq ..
  | ext j => exact nthK_eq ..
noncomputable def putOwnK (l : List (Nat × Blk)) (s : Nat) (b : Blk) (k : List (Nat × Blk) → Option β) : Option β :=
  List.rec (motive := fun _ => (List (Nat × Blk) → Option β) → Option β) (fun k => k [(s, b)])
    (fun p t ih k => match p with | (j, c) => cond (Nat.beq s j) (k ((j, b) :: t)) (ih fun l => k ((j, c) :: l))) l k
theorem putOwnK_eq (l : List (Nat × Blk)) (s : Nat) (b : Blk) (k : List (Nat × Blk) → Option β) : putOwnK l s b k = k (putOwn s b l) := by
  induction l generalizing k with
  | nil => rfl
  | cons p l ih =>
    obtain ⟨j, c⟩ := p
    rw [show putOwnK ((j, c) :: l) s b k = cond (Nat.beq s j) (k ((j, b) :: l)) (putOwnK l s b fun l => k ((j, c) :: l)) from rfl, beq_ite, ih]
    simp only [putOwn]
    split <;> rfl
noncomputable def layK (r : Ref) (b : Blk) (h : Hp) (k : Hp → Option β) : Option β := match h with
  | ⟨own, ext⟩ => match r with
    | .own s => putOwnK own s b fun own => k ⟨own, ext⟩
    | .ext j => setNK ext j b fun ext => k ⟨own, ext⟩
theorem layK_eq (r : Ref) (b : Blk) (h : Hp) (k : Hp → Option β) : layK r b h k = k (h.set r b) := by
  obtain ⟨own, ext⟩ := h
  cases r with
  | own s => exact putOwnK_eq ..
  | ext j => exact setNK_eq ..

/-! ## Values -/
noncomputable def asF (x : IV) (e : Option β) (k : FV → Option β) : Option β := match x with
  | .fv v => k v
  | _ => e
noncomputable def asNatF (v : FV) (e : Option β) (k : Nat → Option β) : Option β := match v with
  | .int .i64 (.ofNat n) => k n
  | _ => e
/-- A number of 64 bits, from nought on. -/
noncomputable def asNat (x : IV) (e : Option β) (k : Nat → Option β) : Option β := asF x e fun v => asNatF v e k
theorem asNat_ok {x : IV} {e : Option β} {k : Nat → Option β} {r : β} (h : asNat x e k = some r) : (∃ n : Nat, x = .fv (.int .i64 n) ∧ k n = some r) ∨ e = some r := by
  unfold asNat asF at h
  split at h
  · simp only [asNatF] at h
    split at h
    · exact .inl ⟨_, rfl, h⟩
    · exact .inr h
  · exact .inr h
noncomputable def intK (n : Nat) (k : IV → Option β) : Option β := fNat n fun n => k (.fv (.int .i64 (.ofNat n)))
theorem intK_eq (n : Nat) (k : IV → Option β) : intK n k = k (.fv (.int .i64 n)) := by rw [intK, fNat_eq]; rfl
noncomputable def boolK (b : Bool) (k : IV → Option β) : Option β := cond b (k (.fv (.bool true))) (k (.fv (.bool false)))
theorem boolK_eq (b : Bool) (k : IV → Option β) : boolK b k = k (.fv (.bool b)) := by cases b <;> rfl
noncomputable def optS (o : Option IV) (k : IV → Option β) : Option β := match o with
  | none => none
  | some v => fS v k
theorem optS_eq (o : Option IV) (k : IV → Option β) : optS o k = o.bind k := by
  cases o with
  | none => rfl
  | some v => exact fS_eq v k
noncomputable def allFvK (l : List IV) (e : Option β) (k : List FV → Option β) : Option β :=
  List.rec (motive := fun _ => (List FV → Option β) → Option β) (fun k => k []) (fun x _ ih k => asF x e fun v => ih fun vs => k (v :: vs)) l k
theorem allFvK_eq (l : List IV) (e : Option β) (k : List FV → Option β) : allFvK l e k = match allFv l with | some vs => k vs | none => e := by
  induction l generalizing k with
  | nil => rfl
  | cons x l ih =>
    rw [show allFvK (x :: l) e k = asF x e fun v => allFvK l e fun vs => k (v :: vs) from rfl]
    cases x <;> simp only [asF, allFv]
    rw [ih]
    cases allFv l <;> rfl
noncomputable def aggK (l : List IV) (k : IV → Option β) : Option β := allFvK l (k (.agg l)) fun vs => k (.fv (.agg vs))
theorem aggK_eq (l : List IV) (k : IV → Option β) : aggK l k = k (mkAgg l) := by
  rw [aggK, allFvK_eq, mkAgg]
  cases allFv l <;> rfl
noncomputable def tupK (l : List IV) (k : IV → Option β) : Option β := allFvK l (k (.tuple l)) fun vs => k (.fv (.tuple vs))
theorem tupK_eq (l : List IV) (k : IV → Option β) : tupK l k = k (mkTuple l) := by
  rw [tupK, allFvK_eq, mkTuple]
  cases allFv l <;> rfl

/-! ## Truths -/
noncomputable def condF (v : FV) (a b : Option β) : Option β := match v with
  | .bool t => cond t a b
  | _ => none
noncomputable def condS (v : IV) (a b : Option β) : Option β := match v with
  | .fv v => condF v a b
  | _ => none
theorem condS_ok {v : IV} {a b : Option β} {r : β} (h : condS v a b = some r) : ∃ t : Bool, v = .fv (.bool t) ∧ (if t then a else b) = some r := by
  unfold condS at h
  split at h
  · unfold condF at h
    split at h
    · rename_i t; refine ⟨t, rfl, ?_⟩; cases t <;> exact h
    · cases h
  · cases h
noncomputable def pickS (c a b : IV) (k : IV → Option β) : Option β := condS c (k a) (k b)

/-! ## Numbers -/
section
variable (E : Env) (t : TypeId)
noncomputable def binS (op : BinOp) (x y : IV) (k : IV → Option β) : Option β := optS (binR E op t x y) k
noncomputable def addS (x y : IV) (k : IV → Option β) : Option β :=
  asNat x (binS E t .add x y k) fun a => asNat y (binS E t .add x y k) fun b => cond (Nat.ble (a + b) 9223372036854775807) (intK (a + b) k) (binS E t .add x y k)
noncomputable def subS (x y : IV) (k : IV → Option β) : Option β :=
  asNat x (binS E t .sub x y k) fun a => asNat y (binS E t .sub x y k) fun b => cond (and (Nat.ble b a) (Nat.ble a 9223372036854775807)) (intK (a - b) k) (binS E t .sub x y k)
noncomputable def cmpS (op : BinOp) (g : Nat → Nat → Bool) (x y : IV) (k : IV → Option β) : Option β :=
  asNat x (binS E t op x y k) fun a => asNat y (binS E t op x y k) fun b => boolK (g a b) k
noncomputable def eqS (x y : IV) (k : IV → Option β) : Option β := cmpS E t .eql Nat.beq x y k
noncomputable def neS (x y : IV) (k : IV → Option β) : Option β := cmpS E t .neq (fun a b => not (Nat.beq a b)) x y k
noncomputable def ltS (x y : IV) (k : IV → Option β) : Option β := cmpS E t .lss (fun a b => Nat.ble (Nat.succ a) b) x y k
noncomputable def leS (x y : IV) (k : IV → Option β) : Option β := cmpS E t .leq Nat.ble x y k
noncomputable def gtS (x y : IV) (k : IV → Option β) : Option β := cmpS E t .gtr (fun a b => Nat.ble (Nat.succ b) a) x y k
noncomputable def geS (x y : IV) (k : IV → Option β) : Option β := cmpS E t .geq (fun a b => Nat.ble b a) x y k
noncomputable def binOpS (op : BinOp) (x y : IV) (k : IV → Option β) : Option β := match op with
  | .add => addS E t x y k
  | .sub => subS E t x y k
  | .eql => eqS E t x y k
  | .neq => neS E t x y k
  | .lss => ltS E t x y k
  | .leq => leS E t x y k
  | .gtr => gtS E t x y k
  | .geq => geS E t x y k
  | op => binS E t op x y k
end
theorem wrap64 {n : Nat} (h : n ≤ 9223372036854775807) : IntKind.i64.wrap (n : Int) = n := by
  have e : (n : Int) % (18446744073709551616 : Int) = n := by omega
  have e2 : ¬ (n : Int) ≥ (9223372036854775808 : Int) := by omega
  show (if (true && decide (((n : Int) % (18446744073709551616 : Int)) ≥ (9223372036854775808 : Int))) = true then ((n : Int) % (18446744073709551616 : Int)) - (18446744073709551616 : Int) else ((n : Int) % (18446744073709551616 : Int))) = n
  rw [e, decide_eq_false e2]
  rfl

/-! ## Parts -/
noncomputable def asAggF (v : FV) (k : List FV → Option β) : Option β := match v with
  | .agg cs => k cs
  | _ => none
noncomputable def asAgg (x : IV) (k : List IV → Option β) (kf : List FV → Option β) : Option β := match x with
  | .agg cs => k cs
  | .fv v => asAggF v kf
  | _ => none
noncomputable def fld1 (o : Nat) (x : IV) (k : IV → Option β) : Option β := asAgg x (fun cs => nthK cs o k) fun cs => nthK cs o fun v => k (.fv v)
noncomputable def fldA (size o : Nat) (x : IV) (k : IV → Option β) : Option β :=
  asAgg x (fun cs => drpK cs o fun cs => takK cs size fun cs => aggK cs k) fun cs => drpK cs o fun cs => takK cs size fun cs => k (.fv (.agg cs))
noncomputable def asRow (b : Blk) (k : List IV → Option β) : Option β := match b with
  | .row cells _ => k cells
  | _ => none
noncomputable def asFree (b : Blk) (k : List IV → Option β) : Option β := match b with
  | .row cells ro => cond ro none (k cells)
  | _ => none
noncomputable def asFp (v : FV) (k : List FV → Nat → Option β) : Option β := match v with
  | .fp cs o => k cs o
  | _ => none
noncomputable def asPtr (x : IV) (k : Ref → Nat → Option β) (kf : List FV → Nat → Option β) : Option β := match x with
  | .ptr r o => k r o
  | .fv v => asFp v kf
  | _ => none
noncomputable def load1 (a : IV) (h : Hp) (k : IV → List Ref → Option β) : Option β :=
  asPtr a (fun r o => getK r h fun b => asRow b fun cells => nthK cells o fun v => k v [r]) fun cells o => nthK cells o fun v => k (.fv v) []
noncomputable def loadA (size : Nat) (a : IV) (h : Hp) (k : IV → List Ref → Option β) : Option β :=
  asPtr a (fun r o => getK r h fun b => asRow b fun cells => drpK cells o fun cs => takK cs size fun cs => aggK cs fun v => k v [r])
    fun cells o => drpK cells o fun cs => takK cs size fun cs => k (.fv (.agg cs)) []
/-- A spine. -/
noncomputable def spK {α : Type} (l : List α) (k : List α → Option β) : Option β :=
  List.rec (motive := fun _ => (List α → Option β) → Option β) (fun k => k []) (fun x _ ih k => ih fun xs => k (x :: xs)) l k
theorem spK_eq {α : Type} (l : List α) (k : List α → Option β) : spK l k = k l := by
  induction l generalizing k with
  | nil => rfl
  | cons x l ih => rw [show spK (x :: l) k = spK l (fun xs => k (x :: xs)) from rfl, ih]
/-- A cell that is there, laid anew. -/
noncomputable def offK (l : List IV) (j : Nat) (b : IV) (k : List IV → Option β) : Option β :=
  List.rec (motive := fun _ => Nat → (List IV → Option β) → Option β) (fun _ _ => none) (fun x t ih j k => Nat.rec (motive := fun _ => Option β) (k (b :: t)) (fun p _ => ih p fun xs => k (x :: xs)) j) l j k
theorem offK_eq (l : List IV) (j : Nat) (b : IV) (k : List IV → Option β) : offK l j b k = if j < l.length then k (l.set j b) else none := by
  induction l generalizing j k with
  | nil => rw [if_neg (by simp)]; rfl
  | cons x l ih => cases j with
    | zero => rw [if_pos (by simp)]; rfl
    | succ j => rw [show offK (x :: l) (j + 1) b k = offK l j b (fun xs => k (x :: xs)) from rfl, ih]; simp
theorem one_cells {v : IV} (h : v.one = true) : v.cells = [v] ∧ v.alive = true := by
  cases v with
  | fv w => cases w <;> simp_all [IV.one, IV.cells, IV.alive]
  | _ => simp_all [IV.one, IV.cells, IV.alive]
/-- Cells laid over cells, from a place on. -/
noncomputable def wrK (cs : List FV) : List IV → (List IV → Option β) → Option β :=
  List.rec (motive := fun _ => List IV → (List IV → Option β) → Option β) (fun l k => k l) (fun c _ ih l k => uncS l fun _ t => ih t fun t' => k (.fv c :: t')) cs
noncomputable def setFK (l : List IV) (o : Nat) (cs : List FV) (k : List IV → Option β) : Option β :=
  List.rec (motive := fun _ => Nat → (List IV → Option β) → Option β) (fun o k => Nat.rec (motive := fun _ => Option β) (wrK cs [] k) (fun _ _ => none) o)
    (fun x t ih o k => Nat.rec (motive := fun _ => Option β) (wrK cs (x :: t) k) (fun p _ => ih p fun t' => k (x :: t')) o) l o k
theorem setCells_cons (x : IV) : ∀ (vs l : List IV) (o : Nat), setCells (x :: l) (o + 1) vs = x :: setCells l o vs
  | [], _, _ => rfl
  | v :: vs, l, o => by
    simp only [setCells, List.set_cons_succ]
    exact setCells_cons x vs (l.set o v) (o + 1)
theorem wrK_ok : ∀ (cs : List FV) (l : List IV) {k : List IV → Option β} {r : β}, wrK cs l k = some r → cs.length ≤ l.length ∧ k (setCells l 0 (cs.map .fv)) = some r
  | [], l, k, r, h => ⟨Nat.zero_le _, h⟩
  | c :: cs, l, k, r, h => by
    have h : (uncS l fun _ t => wrK cs t fun t' => k (.fv c :: t')) = some r := h
    cases l with
    | nil => cases h
    | cons x t =>
      have h : (wrK cs t fun t' => k (.fv c :: t')) = some r := h
      obtain ⟨h1, h2⟩ := wrK_ok cs t h
      refine ⟨by simp; omega, ?_⟩
      simp only [List.map_cons, setCells, List.set_cons_zero, Nat.zero_add]
      rw [setCells_cons]
      exact h2
theorem setFK_ok : ∀ (l : List IV) (o : Nat) (cs : List FV) {k : List IV → Option β} {r : β}, setFK l o cs k = some r → o + cs.length ≤ l.length ∧ k (setCells l o (cs.map .fv)) = some r
  | [], 0, cs, k, r, h => by
    obtain ⟨h1, h2⟩ := wrK_ok cs [] h
    exact ⟨by simpa using h1, h2⟩
  | [], o + 1, cs, k, r, h => by cases h
  | x :: t, 0, cs, k, r, h => by
    obtain ⟨h1, h2⟩ := wrK_ok cs (x :: t) h
    exact ⟨by simpa using h1, h2⟩
  | x :: t, o + 1, cs, k, r, h => by
    have h : (setFK t o cs fun t' => k (x :: t')) = some r := h
    obtain ⟨h1, h2⟩ := setFK_ok t o cs h
    exact ⟨by simp; omega, by rw [setCells_cons]; exact h2⟩
noncomputable def oneF (v : FV) : Bool := match v with
  | .agg _ => false
  | .tuple _ => false
  | _ => true
noncomputable def allOneF (l : List FV) : Bool := List.rec (motive := fun _ => Bool) true (fun v _ ih => cond (oneF v) ih false) l
theorem allOneF_ok : ∀ (l : List FV), allOneF l = true → (l.map IV.fv).all IV.one = true
  | [], _ => rfl
  | v :: l, h => by
    have h : cond (oneF v) (allOneF l) false = true := h
    cases hv : oneF v with
    | false => rw [hv] at h; cases h
    | true =>
      rw [hv] at h
      simp only [List.map_cons, List.all_cons, allOneF_ok l h, Bool.and_true]
      cases v <;> first | rfl | cases hv
noncomputable def storeA (size : Nat) (a x : IV) (h : Hp) (k : Hp → List Ref → List Ref → Option β) : Option β :=
  asPtr a (fun r o => getK r h fun b => asFree b fun cells => asF x (if x.alive ∧ x.cells.length = size ∧ o + size ≤ cells.length ∧ x.cells.all IV.one ∧ mayLie r x then
    spK (setCells cells o x.cells) fun cells => layK r (.row cells false) h fun h => k h [r] [r] else none) fun v => asAggF v fun cs => cond (and (Nat.beq cs.length size) (allOneF cs)) (setFK cells o cs fun cells => layK r (.row cells false) h fun h => k h [r] [r]) none) fun _ _ => none
noncomputable def store1 (a x : IV) (h : Hp) (k : Hp → List Ref → List Ref → Option β) : Option β :=
  cond x.one (asPtr a (fun r o => getK r h fun b => asFree b fun cells => cond (mayLie r x) (offK cells o x fun cells => layK r (.row cells false) h fun h => k h [r] [r]) none) fun _ _ => none) (storeA 1 a x h k)
noncomputable def funK (fn : Fn) (k : FuncId → Option β) : Option β := match fn with
  | .func g => k g
  | _ => none
noncomputable def nilF (v : FV) (k : IV → Option β) : Option β := match v with
  | .fp cs o => k (.fv (.fp cs o))
  | .func fn a b => funK fn fun g => k (.fv (.func (.func g) a b))
  | _ => none
noncomputable def nilS (x : IV) (k : IV → Option β) : Option β := match x with
  | .ptr r o => k (.ptr r o)
  | .fv v => nilF v k
  | .func fn a b => funK fn fun g => k (.func (.func g) a b)
  | _ => none
noncomputable def faddrS (o : Nat) (x : IV) (k : IV → Option β) : Option β :=
  asPtr x (fun r off => fNat (off + o) fun o => k (.ptr r o)) fun cs off => fNat (off + o) fun o => k (.fv (.fp cs o))
noncomputable def asIxI (n : Int) (k : Nat → Option β) : Option β := match n with
  | .ofNat m => k m
  | _ => none
noncomputable def asIxF (v : FV) (k : Nat → Option β) : Option β := match v with
  | .int _ n => asIxI n k
  | _ => none
noncomputable def asIx (i : IV) (k : Nat → Option β) : Option β := asF i none fun v => asIxF v k
theorem asIx_ok {i : IV} {k : Nat → Option β} {r : β} (h : asIx i k = some r) : ∃ kd, ∃ n : Nat, i = .fv (.int kd n) ∧ k n = some r := by
  unfold asIx asF at h
  split at h
  · simp only [asIxF] at h
    split at h
    · simp only [asIxI] at h
      split at h
      · exact ⟨_, _, rfl, h⟩
      · cases h
    · cases h
  · cases h
noncomputable def elsF (v : FV) (k : List FV → Option β) : Option β := match v with
  | .sl es => k es
  | _ => none
noncomputable def elsK (x : IV) (k : List FV → Option β) : Option β := match x with
  | .nils => k []
  | .emp => k []
  | .clip es => k es
  | .app _ es => k es
  | .fv v => elsF v k
  | _ => none
theorem elsK_eq (x : IV) (k : List FV → Option β) : elsK x k = (elemsOf x).bind k := by
  cases x with
  | fv v => cases v <;> rfl
  | _ => rfl
noncomputable def elK (size : Nat) (el : FV) (k : IV → Option β) : Option β := match el with
  | .agg cs => cond (Nat.beq cs.length size) (k (.fv (.fp cs 0))) none
  | v => cond (Nat.beq 1 size) (k (.fv (.fp [v] 0))) none
theorem elK_eq (size : Nat) (el : FV) (k : IV → Option β) : elK size el k = if el.cells.length = size then k (.fv (.fp el.cells 0)) else none := by
  cases el <;> simp only [elK, beq_ite, FV.cells] <;> rfl
noncomputable def asSlc (x : IV) (k : Ref → Nat → Nat → Option β) (e : Option β) : Option β := match x with
  | .slc r sz len => k r sz len
  | _ => e
noncomputable def ixS (size : Nat) (x i : IV) (k : IV → Option β) : Option β :=
  asIx i fun n => asSlc x (fun r sz len => cond (and (Nat.ble (Nat.succ n) len) (Nat.beq sz size)) (fNat (n * sz) fun o => k (.ptr r o)) none) (elsK x fun es => nthK es n fun el => elK size el k)
noncomputable def ixA (m size : Nat) (x i : IV) (k : IV → Option β) : Option β :=
  asIx i fun n => cond (Nat.ble (Nat.succ n) m) (asPtr x (fun r o => fNat (o + n * size) fun o => k (.ptr r o)) fun cells o => fNat (o + n * size) fun o => k (.fv (.fp cells o))) none
noncomputable def idx1 (m size : Nat) (x i : IV) (k : IV → Option β) : Option β :=
  asIx i fun n => cond (Nat.ble (Nat.succ n) m) (asF x none fun v => asAggF v fun cs => nthK cs (n * size) fun v => k (.fv v)) none
noncomputable def tupF (v : FV) (k : List FV → Option β) : Option β := match v with
  | .tuple vs => k vs
  | _ => none
noncomputable def extS (ix : Nat) (x : IV) (k : IV → Option β) : Option β := match x with
  | .tuple vs => nthK vs ix k
  | .fv v => tupF v fun vs => nthK vs ix fun v => k (.fv v)
  | _ => none
noncomputable def lenS (x : IV) (k : IV → Option β) : Option β := asSlc x (fun _ _ n => intK n k) (elsK x fun es => intK es.length k)
noncomputable def fillG (z : List IV) (o sz : Nat) (v : IV) (k : List IV → Option β) : Option β :=
  cond v.one (cond (Nat.beq sz 1) (offK z o v k) none) (if v.alive ∧ v.cells.length = sz ∧ o + sz ≤ z.length then spK (setCells z o v.cells) k else none)
/-- A part laid over cells. -/
noncomputable def fillP (z : List IV) (o sz : Nat) (v : IV) (k : List IV → Option β) : Option β :=
  asF v (fillG z o sz v k) fun w => cond (oneF w) (cond (Nat.beq sz 1) (offK z o v k) none) (asAggF w fun cs => cond (Nat.beq cs.length sz) (setFK z o cs k) none)
noncomputable def fillK (z : List IV) (pl : List (Nat × Nat × IV)) (k : List IV → Option β) : Option β :=
  List.rec (motive := fun _ => List IV → Option β) (fun z => k z) (fun p _ ih z => match p with
    | (o, sz, v) => fillP z o sz v ih) pl z
noncomputable def bldS (z : List IV) (pl : List (Nat × Nat × IV)) (k : IV → Option β) : Option β := fillK z pl fun cells => aggK cells k
/-- The places of a composite's parts. -/
def placed {α : Type} (place : Nat → Option (Nat × Nat)) : List (Nat × α) → Option (List (Nat × Nat × α))
  | [] => some []
  | (i, x) :: l => match place i with
    | none => none
    | some (o, s) => match placed place l with
      | none => none
      | some r => some ((o, s, x) :: r)
def withV {α : Type} (g : α → IV) : List (Nat × Nat × α) → List (Nat × Nat × IV)
  | [] => []
  | (o, s, x) :: l => (o, s, g x) :: withV g l
noncomputable def freshK (l : List (Nat × Blk)) (s : Nat) (a : Option β) : Option β :=
  List.rec (motive := fun _ => Option β) a (fun p _ ih => match p with | (j, _) => cond (Nat.beq s j) none ih) l
theorem freshK_ok {l : List (Nat × Blk)} {s : Nat} {a : Option β} {r : β} (h : freshK l s a = some r) : lookupOwn s l = none ∧ a = some r := by
  induction l with
  | nil => exact ⟨rfl, h⟩
  | cons p l ih =>
    obtain ⟨j, b⟩ := p
    have h : cond (Nat.beq s j) none (freshK l s a) = some r := h
    rw [beq_ite] at h
    split at h
    · cases h
    · rename_i hn
      obtain ⟨h1, h2⟩ := ih h
      exact ⟨by simp only [lookupOwn, if_neg hn, h1], h2⟩
noncomputable def newS (s : Nat) (b : Blk) (v : IV) (h : Hp) (k : IV → Hp → List Ref → List Ref → Option β) : Option β := match h with
  | ⟨own, ext⟩ => freshK own s (putOwnK own s b fun own => k v ⟨own, ext⟩ [] [.own s])
noncomputable def boxS (s : Nat) (x : IV) (h : Hp) (k : IV → Hp → List Ref → List Ref → Option β) : Option β :=
  cond x.one (newS s (.row [x] false) (.ptr (.own s) 0) h k) (cond x.alive (spK x.cells fun cs => newS s (.row cs false) (.ptr (.own s) 0) h k) none)
/-- What is done by the ideal run's own operation. -/
noncomputable def layA (u : List (Ref × Blk)) : Hp → (Hp → Option β) → Option β :=
  List.rec (motive := fun _ => Hp → (Hp → Option β) → Option β) (fun h k => k h) (fun p _ rec h k => match p with
    | (r, b) => fRf r fun r => getK r h fun _ => fBk b fun b => layK r b h fun h => rec h k) u
theorem layA_ok : ∀ (u : List (Ref × Blk)) (h : Hp) {k : Hp → Option β} {r : β}, layA u h k = some r → ∃ h', laid h u = some h' ∧ k h' = some r
  | [], h, k, r, e => ⟨h, rfl, e⟩
  | (q, b) :: u, h, k, r, e => by
    have e : (fRf q fun q => getK q h fun _ => fBk b fun b => layK q b h fun h => layA u h k) = some r := e
    rw [fRf_eq, getK_eq] at e
    simp only [fBk_eq, layK_eq] at e
    cases hg : h.get q with
    | none => rw [hg] at e; cases e
    | some c =>
      rw [hg] at e
      obtain ⟨h', h1, h2⟩ := layA_ok u (h.set q b) e
      exact ⟨h', by simp only [laid, hg, h1], h2⟩
noncomputable def newK (o : Option Blk) (s : Nat) (h : Hp) (k : Hp → Option β) : Option β := match o with
  | none => k h
  | some b => match h with
    | ⟨own, ext⟩ => freshK own s (fBk b fun b => putOwnK own s b fun own => k ⟨own, ext⟩)
/-- What is done by the ideal run's own operation. -/
noncomputable def genS (m : Rd Made) (s : Nat) (h : Hp) (k : IV → Hp → List Ref → List Ref → Option β) : Option β := match m.runLog h [] with
  | none => none
  | some (m, rd) => layA m.eff.upd h fun h => newK m.new s h fun h => fV 3 m.eff.val fun v => k v h rd (keys m.eff.upd ++ newRefs s m)
noncomputable def aggS (v : FV) (e : Option β) (k : List FV → Option β) : Option β := match v with
  | .agg cs => k cs
  | _ => e
noncomputable def fzS (m : Rd Made) (s : Nat) (x : IV) (h : Hp) (k : IV → Hp → List Ref → List Ref → Option β) : Option β :=
  asF x (genS m s h k) fun v => aggS v (genS m s h k) fun cs => cond (Nat.ble cs.length 2000) (k (.fv (.fp cs 0)) h [] []) (genS m s h k)
noncomputable def conv64 (E : Env) (s d : TypeId) (x : IV) (k : IV → Option β) : Option β :=
  asNat x (optS (convR E s d x) k) fun n => cond (Nat.ble n 9223372036854775807) (intK n k) (optS (convR E s d x) k)
noncomputable def guardF (v : FV) (want : Bool) (h : Hp) (m : (IV → Hp → List Ref → List Ref → Option β) → Option β) (k : IV → Hp → List Ref → List Ref → Option β) : Option β := match v with
  | .bool b => cond (cond want b (not b)) (m k) (k undefV h [] [])
  | .tuple l => List.casesOn (motive := fun _ => Option β) l (k undefV h [] []) fun _ _ => none
  | _ => none
/-- An operation that is guarded. -/
noncomputable def guardS (v : IV) (want : Bool) (h : Hp) (m : (IV → Hp → List Ref → List Ref → Option β) → Option β) (k : IV → Hp → List Ref → List Ref → Option β) : Option β := asF v none fun v => guardF v want h m k

/-! ## Calls -/
noncomputable def askedD (split : Bool) (ih : Handler) (f : FuncId) (args : List IV) (ext : List Blk) : Option (IV × Hp) :=
  if split then match args, ext with
    | [.fv (.sl [])], [] => if isEmptySl (ih f [.nils] ⟨[], []⟩) && isEmptySl (ih f [.emp] ⟨[], []⟩) then some (.fv (.sl []), ⟨[], []⟩) else none
    | _, _ => ih f args ⟨[], ext⟩
  else ih f args ⟨[], ext⟩
noncomputable def isoD (keep : List Bool) (split raw : Bool) (ih : Handler) (f : FuncId) (args : List IV) (h : Hp) (k : IV → Hp → List Ref → List Ref → Option β) : Option β :=
  match (frzArgs keep args).runLog h [] with
  | none => none
  | some ((vs, rs, u), l1) => match (gather 4096 rs []).runLog h l1 with
    | none => none
    | some (l, l2) => match IV.ren.renL (into l) vs with
      | none => none
      | some vs' => match renBlks (into l) (l.map (·.2)) with
        | none => none
        | some ext => fL (fV 3) vs' fun vs' => fL fBk ext fun ext => match askedD split ih f vs' ext with
          | none => none
          | some (res, hp') => match (if raw then some res else ((frz 4096 res).run hp').map fun (v, _) => .fv v) with
            | none => none
            | some res => match res.ren (back l) with
              | none => none
              | some res => match renBlks (back l) hp'.ext with
                | none => none
                | some ext' => if ext'.length = l.length ∧ (keys u).all (fun r => !hasRef r l) then
                    match laid h (u ++ (keys l).zip ext') with
                    | none => none
                    | some h' => fH h' fun h' => fV 3 res fun res => k res h' l2 (keys (u ++ (keys l).zip ext'))
                  else none
/-! Freezing, reckoned; what is handed on, and back. -/
noncomputable def ownR (r : Ref) (e : Option β) (k : Nat → Option β) : Option β := match r with
  | .own s => k s
  | .ext _ => e
noncomputable def apK {α : Type} (u us : List α) (k : List α → Option β) : Option β :=
  List.rec (motive := fun _ => (List α → Option β) → Option β) (fun k => k us) (fun x _ ih k => ih fun w => k (x :: w)) u k
theorem apK_eq {α : Type} (u us : List α) (k : List α → Option β) : apK u us k = k (u ++ us) := by
  induction u generalizing k with
  | nil => rfl
  | cons x u ih => rw [show apK (x :: u) us k = apK u us (fun w => k (x :: w)) from rfl, ih]; rfl
abbrev FzK (β : Type) := IV → Hp → List Ref → Option β → (FV → List (Ref × Blk) → List Ref → Option β) → Option β
noncomputable def fzLK (g : FzK β) (l : List IV) : Hp → List Ref → Option β → (List FV → List (Ref × Blk) → List Ref → Option β) → Option β :=
  List.rec (motive := fun _ => Hp → List Ref → Option β → (List FV → List (Ref × Blk) → List Ref → Option β) → Option β) (fun _ lg _ k => k [] [] lg)
    (fun x _ rec h lg e k => g x h lg e fun y u lg => rec h lg e fun ys us lg => apK u us fun w => k (y :: ys) w lg) l
noncomputable def elF (x : FV) (k : FV → Option β) : Option β := match x with
  | .agg l => k (.agg [.agg l])
  | x => k x
noncomputable def elL (x : FV) (t : List FV) (k : FV → Option β) : Option β := match t with
  | [] => elF x k
  | y :: t => k (.agg (x :: y :: t))
noncomputable def elK2 (a : List FV) (k : FV → Option β) : Option β := match a with
  | [] => k (.agg [])
  | x :: t => elL x t k
theorem elK2_eq (a : List FV) (k : FV → Option β) : elK2 a k = k (elemFv a) := by
  cases a with
  | nil => rfl
  | cons x t => cases t with
    | nil => cases x <;> rfl
    | cons y t => cases x <;> rfl
noncomputable def chK (sz len : Nat) (cs : List FV) (k : List FV → Option β) : Option β :=
  Nat.rec (motive := fun _ => List FV → (List FV → Option β) → Option β) (fun _ k => k []) (fun _ rec cs k => takK cs sz fun a => drpK cs sz fun b => elK2 a fun x => rec b fun xs => k (x :: xs)) len cs k
theorem chK_ok (sz : Nat) : ∀ (len : Nat) (cs : List FV) {k : List FV → Option β} {r : β}, chK sz len cs k = some r → k (chunks sz len cs) = some r
  | 0, _, _, _, h => h
  | len + 1, cs, k, r, h => by
    have h : (takK cs sz fun a => drpK cs sz fun b => elK2 a fun x => chK sz len b fun xs => k (x :: xs)) = some r := h
    rw [takK_eq] at h
    by_cases h1 : sz ≤ cs.length
    · rw [if_pos h1, drpK_eq, if_pos h1, elK2_eq] at h
      exact chK_ok sz len _ h
    · rw [if_neg h1] at h; cases h
noncomputable def fzU (d : Nat) : FzK β :=
  Nat.rec (motive := fun _ => FzK β) (fun _ _ _ e _ => e) (fun _ g v h lg e k => match v with
    | .fv v => k v [] lg
    | .nils => k (.sl []) [] lg
    | .emp => k (.sl []) [] lg
    | .clip es => k (.sl es) [] lg
    | .app _ es => k (.sl es) [] lg
    | .ptr r off => ownR r e fun s => getK (.own s) h fun b => asRow b fun cells => cond (Nat.ble cells.length 300) (fzLK g cells h (.own s :: lg) e fun cs u lg => k (.fp cs off) ((.own s, .row cells true) :: u) lg) e
    | .slc r sz len => ownR r e fun s => getK (.own s) h fun b => asRow b fun cells => cond (Nat.ble cells.length 300) (cond (or (Nat.beq sz 0) (not (Nat.ble (len * sz) cells.length))) none
        (fzLK g cells h (.own s :: lg) e fun cs u lg => chK sz len cs fun els => k (.sl els) ((.own s, .row cells true) :: u) lg)) e
    | .agg cs => cond (Nat.ble cs.length 300) (fzLK g cs h lg e fun cs u lg => k (.agg cs) u lg) e
    | .func fn a b => cond (and (Nat.ble a.length 300) (Nat.ble b.length 300)) (fzLK g a h lg e fun x u lg => fzLK g b h lg e fun y v lg => apK u v fun w => k (.func fn x y) w lg) e
    | _ => e) d
noncomputable def fzA (args : List IV) : List Bool → Hp → List Ref → Option β → (List IV → List Ref → List (Ref × Blk) → List Ref → Option β) → Option β :=
  List.rec (motive := fun _ => List Bool → Hp → List Ref → Option β → (List IV → List Ref → List (Ref × Blk) → List Ref → Option β) → Option β) (fun _ _ lg _ k => k [] [] [] lg)
    (fun x _ rec keep h lg e k => match keep with
      | [] => fzU 12 x h lg e fun y u lg => rec [] h lg e fun vs rs us lg => apK u us fun w => k (.fv y :: vs) rs w lg
      | b :: ks => cond b (asPtr x (fun r o => rec ks h lg e fun vs rs us lg => k (.ptr r o :: vs) (r :: rs) us lg) fun _ _ => e)
          (fzU 12 x h lg e fun y u lg => rec ks h lg e fun vs rs us lg => apK u us fun w => k (.fv y :: vs) rs w lg)) args
/-- The references of a value, ahead of others. -/
noncomputable def refsD (v : IV) : List Ref → List Ref :=
  IV.rec (motive_1 := fun _ => List Ref → List Ref) (motive_2 := fun _ => List Ref → List Ref) (fun acc => acc) (fun _ acc => acc) (fun r _ acc => r :: acc) (fun r _ _ acc => r :: acc) (fun acc => acc) (fun acc => acc) (fun _ acc => acc)
    (fun r _ acc => r :: acc) (fun _ _ _ f g acc => f (g acc)) (fun _ f acc => f acc) (fun _ f acc => f acc) (fun r acc => r :: acc) (fun acc => acc) (fun _ _ f g acc => f (g acc)) v
noncomputable def refsDL (l : List IV) : List Ref → List Ref :=
  IV.rec_1 (motive_1 := fun _ => List Ref → List Ref) (motive_2 := fun _ => List Ref → List Ref) (fun acc => acc) (fun _ acc => acc) (fun r _ acc => r :: acc) (fun r _ _ acc => r :: acc) (fun acc => acc) (fun acc => acc) (fun _ acc => acc)
    (fun r _ acc => r :: acc) (fun _ _ _ f g acc => f (g acc)) (fun _ f acc => f acc) (fun _ f acc => f acc) (fun r acc => r :: acc) (fun acc => acc) (fun _ _ f g acc => f (g acc)) l
noncomputable def refsB (b : Blk) : List Ref := match b with
  | .row cells _ => refsDL cells []
  | .tok _ _ => []
  | .map es => List.rec (motive := fun _ => List Ref) [] (fun p _ ih => match p with | (_, v) => refsD v ih) es
noncomputable def goR (rec : List Ref → Nat → List Blk → Bool) (t : List Ref) (s : Nat) (rest : List Blk) : Bool := match rest with
  | [] => false
  | b :: rest => rec (t ++ refsB b) (Nat.succ s) rest
/-- All that is handed in is reached, in order. -/
noncomputable def goB (n : Nat) : List Ref → Nat → List Blk → Bool :=
  Nat.rec (motive := fun _ => List Ref → Nat → List Blk → Bool) (fun _ _ _ => false) (fun _ rec todo s rest => match todo with
    | [] => (match rest with
      | [] => true
      | _ :: _ => false)
    | r :: t => (match r with
      | .own _ => false
      | .ext j => cond (Nat.ble (Nat.succ j) s) (rec t s rest) (cond (Nat.beq j s) (goR rec t s rest) false))) n
noncomputable def okR (m : Nat) (rs : List Ref) : Bool :=
  List.rec (motive := fun _ => Bool) true (fun r _ rec => match r with
    | .own _ => false
    | .ext j => cond (Nat.ble (Nat.succ j) m) rec false) rs
noncomputable def okB (m : Nat) (l : List Blk) : Bool := List.rec (motive := fun _ => Bool) true (fun b _ rec => cond (okR m (refsB b)) rec false) l
noncomputable def layU (u : List (Ref × Blk)) : Hp → (Hp → Option β) → Option β :=
  List.rec (motive := fun _ => Hp → (Hp → Option β) → Option β) (fun h k => k h) (fun p _ rec h k => match p with
    | (r, b) => ownR r none fun s => getK (.own s) h fun _ => layK (.own s) b h fun h => rec h k) u
def extsUp (m : Nat) : List Ref := (List.range m).map .ext
noncomputable def isoS (keep : List Bool) (split raw : Bool) (ih : Handler) (f : FuncId) (args : List IV) (h : Hp) (k : IV → Hp → List Ref → List Ref → Option β) : Option β :=
  cond (cond split true raw) (isoD keep split raw ih f args h k)
    (fzA args keep h [] (isoD keep split raw ih f args h k) fun vs rs u lg => match rs with
      | [] => (match ih f vs ⟨[], []⟩ with
        | none => none
        | some p => match p with
          | (v, h') => match h' with
            | ⟨own, ext⟩ => List.casesOn (motive := fun _ => Option β) ext (fzU 12 v ⟨own, []⟩ [] (isoD keep split raw ih f args h k) fun w _ _ => layU u h fun h2 => k (.fv w) h2 lg (keys u)) fun _ _ => none)
      | r :: rs => (match h with
        | ⟨own, ext⟩ => cond (goB 400 (r :: rs) 0 ext) (match ih f vs ⟨[], ext⟩ with
          | none => none
          | some p => match p with
            | (v, h') => match h' with
              | ⟨own', ext'⟩ => cond (and (Nat.beq ext'.length ext.length) (okB ext.length ext'))
                (fzU 12 v ⟨own', ext'⟩ [] (isoD keep split raw ih f args h k) fun w _ _ => layU u ⟨own, ext'⟩ fun h2 => k (.fv w) h2 ((extsUp ext.length).reverse ++ lg) (keys u ++ extsUp ext.length)) none)
          (isoD keep split raw ih f args h k)))
noncomputable def dynS (E : Env) (ih : Handler) (g : IV) (args : List IV) (h : Hp) (k : IV → Hp → List Ref → List Ref → Option β) : Option β := match callee g with
  | none => none
  | some (f, first, cap) => cond (E.pol.inl f) none (spK (first ++ args ++ cap) fun args => isoS (E.pol.keep f) (E.pol.split f) (E.pol.raw f) ih f args h k)
noncomputable def inlS (ih : Handler) (f : FuncId) (args : List IV) (h : Hp) (k : IV → Hp → List Ref → List Ref → Option β) : Option β := match ih f args h with
  | none => none
  | some p => match p with
    | (v, h) => k v h [] []

/-! Operations that are seldom: what they do, of values. -/
section
variable (E : Env)
def pcBuildSlice (t : TypeId) (len : Nat) (parts : List (Nat × IV)) : Rd Made := match E.T t with
    | some ⟨_, _, .slice e, _⟩ => match E.T e with
      | some ei => if ei.size = 0 ∨ len * ei.size > 65536 then .fail else
        match fillIn (fun j => some (j * ei.size, ei.size)) (rep len ei.zero) parts with
        | some cells => (frzL 65536 cells).bind fun (vs, u) => .ret { eff := { val := .clip (chunks ei.size len vs), upd := u } }
        | none => .fail
      | none => .fail
    | _ => .fail
def pcBuild (t : TypeId) (parts : List (Nat × IV)) : Rd Made := match E.T t with
    | some ⟨_, _, .struct fs, z⟩ => valO ((fillIn (fieldPlaces E fs) z parts).map mkAgg)
    | some ⟨_, _, .arr _ e, z⟩ => match E.T e with
      | some ei => valO ((fillIn (fun j => some (j * ei.size, ei.size)) z parts).map mkAgg)
      | none => .fail
    | _ => .fail
def pcBox (fz : Bool) (s : Nat) (v : IV) : Rd Made :=
    if v.alive = false then .fail else
    if fz then (frzL 4096 v.cells).bind fun (vs, u) => .ret { eff := { val := .fv (.fp vs 0), upd := u } }
    else .ret { eff := { val := .ptr (.own s) 0 }, new := some (.row v.cells false) }
def pcMakeMap (s : Nat) : Rd Made := .ret { eff := { val := .mapr (.own s) }, new := some (.map []) }
def pcInsert (t : TypeId) (m k v : IV) : Rd Made := match E.T t with
    | some ⟨_, _, .map kt _, _⟩ => match E.T kt, m, k with
      | some ⟨_, _, .int .i64, _⟩, .mapr r, .fv (.int .i64 n) => .get r fun
        | .map es =>
          if v.alive ∧ mayLie r v then .ret { eff := { val := .dead, upd := [(r, .map (putMap n v es))] } } else .fail
        | _ => .fail
      | _, _, _ => .fail
    | _ => .fail
def pcLookup (t : TypeId) (m k : IV) (ok : Bool) : Rd Made := match E.T t with
    | some ⟨_, _, .map kt et, _⟩ => match E.T kt, E.T et, m, k with
      | some ⟨_, _, .int .i64, _⟩, some ei, .mapr r, .fv (.int .i64 n) => .get r fun
        | .map es => match getMap n es with
          | some v => val (if ok then mkTuple [v, .fv (.bool true)] else v)
          | none => match zeroOf ei with
            | some z => val (if ok then mkTuple [z, .fv (.bool false)] else z)
            | none => .fail
        | _ => .fail
      | _, _, _, _ => .fail
    | _ => .fail
def pcMakeSlice (s : Nat) (t : TypeId) (l c : IV) : Rd Made := match E.T t with
    | some ⟨_, _, .slice e, _⟩ => match E.T e, l, c with
      | some ei, .fv (.int .i64 a), .fv (.int .i64 b) =>
        if 0 ≤ a ∧ a ≤ b ∧ b ≤ 1048576 ∧ ei.size ≠ 0 ∧ ei.bytes ≤ 65536 then
          .ret { eff := { val := .slc (.own s) ei.size a.toNat }, new := some (.row (rep b.toNat ei.zero) false) }
        else .fail
      | _, _, _ => .fail
    | _ => .fail
def pcIndex (t : TypeId) (x ix : IV) : Rd Made := match E.T t, x, ix with
    | some ⟨_, _, .str, _⟩, .fv (.str s), .fv (.int _ n) => if n < 0 then .fail else match s[n.toNat]? with
      | some b => val (.fv (.int .u8 b.toNat))
      | none => .fail
    | some ⟨_, _, .arr m e, _⟩, .fv (.agg cs), .fv (.int _ n) => match E.T e with
      | some ei => if 0 ≤ n ∧ n < (m : Int) then valO ((takeVarF ei.kind.isAgg ei.size (n.toNat * ei.size) cs).map .fv) else .fail
      | none => .fail
    | _, _, _ => .fail
theorem pcBuildSlice_eq {ih : Handler} {f rid i : Nat} {ρ : Operand → IV} {t : TypeId} {len : Nat} {parts : Array (Nat × Operand)} : opG E ih f rid i ρ (.buildSlice t len parts) = pcBuildSlice E t len (parts.toList.map fun (j, x) => (j, ρ x)) := rfl
theorem pcBuild_eq {ih : Handler} {f rid i : Nat} {ρ : Operand → IV} {t : TypeId} {parts : Array (Nat × Operand)} : opG E ih f rid i ρ (.build t parts) = pcBuild E t (parts.toList.map fun (j, x) => (j, ρ x)) := rfl
theorem pcBox_eq {ih : Handler} {f rid i : Nat} {ρ : Operand → IV} {t : TypeId} {x : Operand} : opG E ih f rid i ρ (.box t x) = pcBox (E.pol.fzBox f rid i) (site f rid i) (ρ x) := rfl
theorem pcInsert_eq {ih : Handler} {f rid i : Nat} {ρ : Operand → IV} {t : TypeId} {m k x : Operand} : opG E ih f rid i ρ (.insert t m k x) = pcInsert E t (ρ m) (ρ k) (ρ x) := rfl
theorem pcLookup_eq {ih : Handler} {f rid i : Nat} {ρ : Operand → IV} {t : TypeId} {m k : Operand} {ok : Bool} : opG E ih f rid i ρ (.lookup t m k ok) = pcLookup E t (ρ m) (ρ k) ok := rfl
theorem pcMakeSlice_eq {ih : Handler} {f rid i : Nat} {ρ : Operand → IV} {t : TypeId} {l c : Operand} : opG E ih f rid i ρ (.makeSlice t l c) = pcMakeSlice E (site f rid i) t (ρ l) (ρ c) := rfl
theorem pcIndex_eq {ih : Handler} {f rid i : Nat} {ρ : Operand → IV} {t : TypeId} {x ix : Operand} : opG E ih f rid i ρ (.index t x ix) = pcIndex E t (ρ x) (ρ ix) := rfl
end

/-! ## Operations -/
/-- A choice that the text makes. -/
noncomputable abbrev cnd {α : Type} (b : Bool) (x y : α) : α := Bool.rec (motive := fun _ => α) y x b
theorem cnd_eq {α : Type} (b : Bool) (x y : α) : cnd b x y = cond b x y := by cases b <;> rfl
section
variable (E : Env) (ih : Handler)
/-- Does an operation neither look at blocks nor lay any? -/
noncomputable def quiet : Op → Bool
  | .move _ | .assign _ | .pick .. | .nilCheck _ | .binOp .. | .unOp .. | .convert .. | .fieldAddr .. | .field .. | .extract .. => true
  | .build t _ => match E.T t with
    | some ⟨_, _, .struct _, _⟩ => true
    | _ => false
  | .indexAddr t _ _ => match E.T t with
    | some ⟨_, _, .slice e, _⟩ => (match E.T e with | some _ => true | none => false)
    | some ⟨_, _, .arr _ e, _⟩ => (match E.T e with | some _ => true | none => false)
    | _ => false
  | .index t _ _ => match E.T t with
    | some ⟨_, _, .arr _ e, _⟩ => (match E.T e with | some ei => !ei.kind.isAgg | none => false)
    | _ => false
  | .call { callee := .builtin .len, argTypes, args } => match argTypes.toList, args.toList with
    | [t], [_] => (match E.T t with | some ⟨_, _, .slice _, _⟩ => true | _ => false)
    | _, _ => false
  | _ => false
noncomputable def callSS (f : FuncId) (rid i : Nat) (drawn : Bool) (ρ : Operand → IV) (cl : Callee) (args : List Operand) (ts : List TypeId) (h : Hp) (k : IV → Hp → List Ref → List Ref → Option β) : Option β := match cl with
  | .builtin b => match b, ts, args with
    | .len, [t], [x] => (match E.T t with
      | some ⟨_, _, .slice _, _⟩ => lenS (ρ x) fun v => k v h [] []
      | _ => genS (builtinR E (site f rid i) (E.pol.rowApp f rid i) b ts (args.map ρ)) (site f rid i) h k)
    | _, _, _ => genS (builtinR E (site f rid i) (E.pol.rowApp f rid i) b ts (args.map ρ)) (site f rid i) h k
  | .value g => match g with
    | .func g => cnd (E.pol.inl g) (cnd drawn none (inlS ih g (args.map ρ) h k)) (isoS (E.pol.keep g) (E.pol.split g) (E.pol.raw g) ih g (args.map ρ) h k)
    | g => dynS E ih (ρ g) (args.map ρ) h k
  | _ => none
noncomputable def opS (f : FuncId) (rid i : Nat) (drawn : Bool) (ρ : Operand → IV) (op : Op) (h : Hp) (k : IV → Hp → List Ref → List Ref → Option β) : Option β := match op with
  | .move x => k (ρ x) h [] []
  | .assign x => k (ρ x) h [] []
  | .pick c a b => pickS (ρ c) (ρ a) (ρ b) fun v => k v h [] []
  | .alloc t => match E.T t with
    | some ti => newS (site f rid i) (.row ti.zero false) (.ptr (.own (site f rid i)) 0) h k
    | none => none
  | .box _ x => cnd (E.pol.fzBox f rid i) (fzS (pcBox true (site f rid i) (ρ x)) (site f rid i) (ρ x) h k) (boxS (site f rid i) (ρ x) h k)
  | .build t parts => match E.T t with
    | some ⟨_, _, .struct fs, z⟩ => (match placed (fieldPlaces E fs) parts.toList with
      | some l => bldS z (withV ρ l) fun v => k v h [] []
      | none => none)
    | _ => genS (pcBuild E t (parts.toList.map fun (j, x) => (j, ρ x))) (site f rid i) h k
  | .buildSlice t len parts => genS (pcBuildSlice E t len (parts.toList.map fun (j, x) => (j, ρ x))) (site f rid i) h k
  | .makeFunc fn a b => genS (val (mkFunc fn (a.toList.map ρ) (b.toList.map ρ))) (site f rid i) h k
  | .makeMap _ n => (match n with
    | none => genS (pcMakeMap (site f rid i)) (site f rid i) h k
    | some _ => none)
  | .insert t m j x => genS (pcInsert E t (ρ m) (ρ j) (ρ x)) (site f rid i) h k
  | .mapUpdate t m j x => genS (pcInsert E t (ρ m) (ρ j) (ρ x)) (site f rid i) h k
  | .lookup t m j ok => genS (pcLookup E t (ρ m) (ρ j) ok) (site f rid i) h k
  | .makeSlice t l c => genS (pcMakeSlice E (site f rid i) t (ρ l) (ρ c)) (site f rid i) h k
  | .slice t x lo hi mx => genS (sliceR E t (ρ x) (lo.map ρ) (hi.map ρ) (mx.map ρ)) (site f rid i) h k
  | .load t a => match E.T t with
    | none => none
    | some ti => cnd ti.kind.isAgg (loadA ti.size (ρ a) h fun v rd => k v h rd []) (load1 (ρ a) h fun v rd => k v h rd [])
  | .store t a x => match E.T t with
    | none => none
    | some ti => cnd (Nat.beq ti.size 1) (store1 (ρ a) (ρ x) h fun h rd wr => k .dead h rd wr) (storeA ti.size (ρ a) (ρ x) h fun h rd wr => k .dead h rd wr)
  | .nilCheck x => nilS (ρ x) fun v => k v h [] []
  | .binOp op t x y _ => binOpS E t op (ρ x) (ρ y) fun v => k v h [] []
  | .unOp op _ x => optS (unR op (ρ x)) fun v => k v h [] []
  | .convert s d x => match E.T s, E.T d with
    | some _, some ⟨_, _, .int .i64, _⟩ => conv64 E s d (ρ x) fun v => k v h [] []
    | _, _ => optS (convR E s d (ρ x)) fun v => k v h [] []
  | .fieldAddr s x fd => match fieldR E s fd with
    | some (o, ti) => cnd (Nat.beq ti.size 0) none (faddrS o (ρ x) fun v => k v h [] [])
    | none => none
  | .field s x fd => match fieldR E s fd with
    | some (o, ti) => cnd ti.kind.isAgg (fldA ti.size o (ρ x) fun v => k v h [] []) (fld1 o (ρ x) fun v => k v h [] [])
    | none => none
  | .indexAddr t x ix => match E.T t with
    | some ⟨_, _, .slice e, _⟩ => (match E.T e with
      | some ei => ixS ei.size (ρ x) (ρ ix) fun v => k v h [] []
      | none => none)
    | some ⟨_, _, .arr m e, _⟩ => (match E.T e with
      | some ei => ixA m ei.size (ρ x) (ρ ix) fun v => k v h [] []
      | none => none)
    | _ => none
  | .index t x ix => match E.T t with
    | some ⟨_, _, .arr m e, _⟩ => (match E.T e with
      | some ei => cnd ei.kind.isAgg (genS (pcIndex E t (ρ x) (ρ ix)) (site f rid i) h k) (idx1 m ei.size (ρ x) (ρ ix) fun v => k v h [] [])
      | none => none)
    | _ => genS (pcIndex E t (ρ x) (ρ ix)) (site f rid i) h k
  | .extract x ix => extS ix (ρ x) fun v => k v h [] []
  | .call c => match c with
    | { callee, args, argTypes } => callSS E ih f rid i drawn ρ callee args.toList argTypes.toList h k
  | _ => none
end
end
end Idl
end Go.Proofs.Ytbkdidonegggdaa

/-
  A SHALLOW FORM OF THE IDEAL RUN: regions, bodies, functions. Definitions. No statement of the seat is proved here.
-/
import Derived.Test.YtbkdidonegggdaaIdl28
namespace Go.Proofs.Ytbkdidonegggdaa
namespace Idl

section
variable {β : Type}
/-- A loop: so often at most; what is handed from round to round. -/
noncomputable def loopS (k : Nat) (F : (List IV → Hp → Option β) → List IV → Hp → Option β) : List IV → Hp → Option β :=
  Nat.rec (motive := fun _ => List IV → Hp → Option β) (fun _ _ => none) (fun _ rec => F rec) k
noncomputable def memN (s : Nat) (l : List Nat) : Bool := List.rec (motive := fun _ => Bool) false (fun x _ ih => cond (Nat.beq s x) true ih) l
/-- No reference names one of such blocks. -/
noncomputable def freeR (rm : List Nat) (l : List Ref) : Bool := List.rec (motive := fun _ => Bool) true (fun r _ ih => match r with
  | .own s => cond (memN s rm) false ih
  | .ext _ => ih) l
noncomputable def freeO (rm : List Nat) (own : List (Nat × Blk)) : Bool := List.rec (motive := fun _ => Bool) true (fun p _ ih => match p with
  | (s, b) => cond (memN s rm) ih (cond (freeR rm (refsB b)) ih false)) own
noncomputable def freeE (rm : List Nat) (ext : List Blk) : Bool := List.rec (motive := fun _ => Bool) true (fun b _ ih => cond (freeR rm (refsB b)) ih false) ext
noncomputable def anyO (rm : List Nat) (own : List (Nat × Blk)) : Bool := List.rec (motive := fun _ => Bool) false (fun p _ ih => match p with
  | (s, _) => cond (memN s rm) true ih) own
noncomputable def filtK (rm : List Nat) (own : List (Nat × Blk)) (k : List (Nat × Blk) → Option β) : Option β :=
  List.rec (motive := fun _ => (List (Nat × Blk) → Option β) → Option β) (fun k => k []) (fun p _ ih k => match p with
    | (s, b) => cond (memN s rm) (ih k) (ih fun l => k ((s, b) :: l))) own k
/-- Blocks that are dropped at a loop's head. -/
noncomputable def dropS (base rm : List Nat) (vals : List IV) (h : Hp) (k : Hp → Option β) : Option β :=
  cond (rm.any base.contains) none (match h with
    | ⟨own, ext⟩ => cond (anyO rm own)
      (cond (and (freeR rm (refsDL vals [])) (and (freeO rm own) (freeE rm ext))) (filtK rm own fun own => k ⟨own, ext⟩)
        (match dropAt base [] rm ⟨vals, ⟨own, ext⟩⟩ with
          | none => none
          | some S => fH S.hp k)) (k ⟨own, ext⟩))
noncomputable def setT (d : Option Nat) (v : IV) (h : Hp) (T : FS) : FS := match d with
  | none => ⟨T.n, T.t, h⟩
  | some d => cond (Nat.ble T.n d) ⟨T.n, T.t, h⟩ ⟨T.n, T.t.set d v, h⟩
/-- The same, wholly laid out. -/
noncomputable abbrev SlT.setKK {α : Type} (t : SlT) : Nat → IV → (SlT → α) → α :=
  SlT.rec (motive := fun _ => Nat → IV → (SlT → α) → α) (fun j v i x k => Bool.rec (motive := fun _ => α) (k (.leaf j v)) (k (.leaf j x)) (Nat.beq i j))
    (fun m l r gl gr i x k => Bool.rec (motive := fun _ => α) (gl i x fun l' => k (.node m l' r)) (gr i x fun r' => k (.node m l r')) (Nat.ble m i)) t
noncomputable abbrev setTK (d : Option Nat) (v : IV) (h : Hp) (T : FS) (K : FS → Option β) : Option β :=
  FS.rec (motive := fun _ => Option β) (fun n t _ => Option.rec (motive := fun _ => Option β) (K ⟨n, t, h⟩) (fun d => cnd (Nat.ble n d) (K ⟨n, t, h⟩) (t.setKK d v fun t => K ⟨n, t, h⟩)) d) T
noncomputable abbrev argsKK (args : List IV) : Nat → FS → (FS → Option β) → Option β :=
  List.rec (motive := fun _ => Nat → FS → (FS → Option β) → Option β) (fun _ T K => K T) (fun v _ ih i T K => setTK (some i) v T.hp T fun T => ih (Nat.succ i) T K) args
noncomputable abbrev unpK (cs : List Nat) : List IV → FS → (FS → Option β) → Option β :=
  List.rec (motive := fun _ => List IV → FS → (FS → Option β) → Option β) (fun _ T k => k T) (fun c _ ih vals T k => uncS vals fun v vals => setTK (some c) v T.hp T fun T => ih vals T k) cs
noncomputable def refNe (r s : Ref) : Bool := match r with
  | .own i => (match s with
    | .own j => not (Nat.beq i j)
    | .ext _ => true)
  | .ext i => (match s with
    | .own _ => true
    | .ext j => not (Nat.beq i j))
noncomputable def allNe (r : Ref) (l : List Ref) : Bool := List.rec (motive := fun _ => Bool) true (fun s _ ih => cond (refNe r s) ih false) l
noncomputable def djB (a b : List Ref) : Bool := List.rec (motive := fun _ => Bool) true (fun r _ ih => cond (allNe r b) ih false) a
theorem refNe_eq (r s : Ref) : refNe r s = decide (r ≠ s) := by
  cases r <;> cases s <;> simp [refNe, beq_dec]
theorem allNe_eq (r : Ref) : ∀ (l : List Ref), allNe r l = l.all fun s => decide (r ≠ s)
  | [] => rfl
  | s :: l => by
    rw [show allNe r (s :: l) = cond (refNe r s) (allNe r l) false from rfl, refNe_eq, allNe_eq r l, List.all_cons]
    cases decide (r ≠ s) <;> rfl
theorem djB_eq : ∀ (a b : List Ref), djB a b = disj a b
  | [], _ => rfl
  | r :: a, b => by
    rw [show djB (r :: a) b = cond (allNe r b) (djB a b) false from rfl, allNe_eq, djB_eq a b]
    simp only [disj, List.all_cons]
    cases (b.all fun s => decide (r ≠ s)) <;> rfl
/-- Are two operations that are not ordered apart? -/
noncomputable def chkS (l : List (List Ref × List Ref)) (rd wr : List Ref) (a : Option β) : Option β :=
  List.rec (motive := fun _ => Option β) a (fun q _ ih => match q with
    | (q1, q2) => cond (djB q2 rd) (cond (djB q2 wr) (cond (djB wr q1) ih none) none) none) l
/-- Those before, that are not ordered. -/
noncomputable def loose (before : Nat) (done : List (Nat × List Ref × List Ref)) : List (List Ref × List Ref) :=
  List.rec (motive := fun _ => List (List Ref × List Ref)) [] (fun p _ ih => match p with | (j, q) => cond (before.testBit j) ih (q :: ih)) done

section
variable (E : Env) (ih : Handler)
noncomputable def stepS (f rid : Nat) (ops : Array Oper) (i : Nat) (o : Oper) (dr : Bool) (T : FS) (K : FS → List Ref → List Ref → Option β) : Option β :=
  match o.guard with
  | none => opS E ih f rid i dr (operandT T) o.op T.hp fun v h rd wr => setTK o.dst v h T fun T => K T rd wr
  | some (j, want) => match (ops[j]?).bind (·.dst) with
    | none => none
    | some d => cnd (Nat.ble T.n d) none
      (guardS (T.get d) want T.hp (fun k => opS E ih f rid i dr (operandT T) o.op T.hp k) fun v h rd wr => setTK o.dst v h T fun T => K T rd wr)
noncomputable def opsS (f rid : Nat) (ops : Array Oper) (l : List Oper) : Nat → FS → (FS → Option β) → Option β :=
  List.rec (motive := fun _ => Nat → FS → (FS → Option β) → Option β) (fun _ T K => K T) (fun o _ rec i T K => stepS E ih f rid ops i o false T fun T _ _ => rec (Nat.succ i) T K) l
noncomputable def drawS (f rid : Nat) (ops : Array Oper) (before : Array Nat) (l : List Oper) : Nat → List (Nat × List Ref × List Ref) → FS → (FS → Option β) → Option β :=
  List.rec (motive := fun _ => Nat → List (Nat × List Ref × List Ref) → FS → (FS → Option β) → Option β) (fun _ _ T K => K T)
    (fun o _ rec i done T K => cnd (quiet E o.op) (stepS E ih f rid ops i o true T fun T _ _ => rec (Nat.succ i) done T K)
      (stepS E ih f rid ops i o true T fun T rd wr => chkS (loose (before.getD i 0) done) rd wr (rec (Nat.succ i) ((i, rd, wr) :: done) T K))) l
/-- The slots that are not dropped. -/
noncomputable def keptOf (n : Nat) (kills : List Nat) : List Nat := (List.range n).filter fun i => !kills.contains i
noncomputable def headS (base kills rm : List Nat) (T : FS) (k : List IV → Hp → Option β) : Option β :=
  match rm with
  | [] => k ((keptOf T.n kills).map T.get) T.hp
  | r :: rm => dropS base (r :: rm) ((keptOf T.n kills).map T.get) T.hp fun h => k ((keptOf T.n kills).map T.get) h
noncomputable def execS (f n : Nat) (base : List Nat) : Code → FS → (Ex → FS → Option β) → Option β
  | .skip, T, K => K .normal T
  | .region rid ops draw, T, K => cnd draw (drawS E ih f rid ops (Region.before ops) ops.toList 0 [] T fun T => K .normal T) (opsS E ih f rid ops ops.toList 0 T fun T => K .normal T)
  | .seq a b, T, K => execS f n base a T fun ex T => match ex with
    | .normal => execS f n base b T K
    | .exit j => K (.exit j) T
    | .ret => K .ret T
  | .cond c a b, T, K => condS (operandT T c) (execS f n base a T K) (execS f n base b T K)
  | .block id c, T, K => execS f n base c T fun ex T => match ex with
    | .normal => K .normal T
    | .exit j => cnd (Nat.beq j id) (K .normal T) (K (.exit j) T)
    | .ret => K .ret T
  | .loop c, T, K => headS base (E.pol.head f (firstRid c)).1 (E.pol.head f (firstRid c)).2 T (loopS n fun rec vals h =>
      unpK (keptOf T.n (E.pol.head f (firstRid c)).1) vals ⟨T.n, dT 10 0 T.n, h⟩ fun T => execS f n base c T fun ex T => match ex with
        | .normal => headS base (E.pol.head f (firstRid c)).1 (E.pol.head f (firstRid c)).2 T rec
        | .exit j => K (.exit j) T
        | .ret => K .ret T)
  | .exit id, T, K => K (.exit id) T
  | .ret, T, K => K .ret T
  | _, _, _ => none
/-- A result that lies in a cell. -/
noncomputable def cellS (agg : Bool) (size : Nat) (a : IV) (h : Hp) (k : IV → Option β) : Option β :=
  cond agg (loadA size a h fun v _ => k v) (load1 a h fun v _ => k v)
noncomputable def resS (T : FS) (rs : List ResultVar) : List IV → (List IV → Option β) → Option β :=
  List.rec (motive := fun _ => List IV → (List IV → Option β) → Option β) (fun acc k => k acc) (fun v _ rec acc k => match v with
    | .tmp t => rec (acc ++ [T.get t]) k
    | .cell a t => match E.T t with
      | none => none
      | some ti => cellS ti.kind.isAgg ti.size (T.get a) T.hp fun v => rec (acc ++ [v]) k) rs
noncomputable def outS1 (vs : List IV) (h : Hp) : Option (IV × Hp) := match vs with
  | [v] => some (v, h)
  | vs => tupK vs fun v => some (v, h)
/-- A function's call. -/
noncomputable def funS (FT : Nat → Option Func) (n f : Nat) (args : List IV) (h : Hp) : Option (IV × Hp) := match FT f with
  | none => none
  | some fn => match fn.body with
    | none => none
    | some c => cnd (Nat.ble args.length fn.ntmps && Nat.ble fn.ntmps 1024)
      (argsKK args 0 ⟨fn.ntmps, dT 10 0 fn.ntmps, h⟩ fun T => execS E ih f n (h.own.map (·.1)) c T fun ex T => match ex with
        | .exit _ => none
        | .normal => resS E T fn.results.toList [] fun vs => outS1 vs T.hp
        | .ret => resS E T fn.results.toList [] fun vs => outS1 vs T.hp) none
end
end
end Idl
end Go.Proofs.Ytbkdidonegggdaa

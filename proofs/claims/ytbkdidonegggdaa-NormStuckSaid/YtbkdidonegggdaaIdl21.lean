/-
  A FASTER WAY TO RECKON AN IDEAL RUN: handed on in steps. It answers only what the ideal run answers.
-/
import Derived.Test.YtbkdidonegggdaaIdl20
namespace Go.Proofs.Ytbkdidonegggdaa
namespace Idl

theorem runLog_bind {α β : Type} : ∀ (r : Rd α) (f : α → Rd β) (h : Hp) (l : List Ref), (r.bind f).runLog h l = (r.runLog h l).bind fun p => (f p.1).runLog h p.2
  | .ret a, f, h, l => rfl
  | .fail, f, h, l => rfl
  | .get r k, f, h, l => by
    simp only [Rd.bind, Rd.runLog]
    cases h.get r with
    | none => rfl
    | some b => exact runLog_bind (k b) f h (r :: l)

/-- A run that is handed on. -/
abbrev KR (β : Type) := FuncId → List IV → Hp → (IV → Hp → Option β) → Option β

section
variable (E : Env) {β : Type} (R : KR β)

noncomputable def askedK (f : FuncId) (args : List IV) (ext : List Blk) (K : IV → Hp → Option β) : Option β :=
  if E.pol.split f then match args, ext with
    | [.fv (.sl [])], [] => R f [.nils] ⟨[], []⟩ fun r hp => if isEmptySl (some (r, hp)) then R f [.emp] ⟨[], []⟩ fun r hp => if isEmptySl (some (r, hp)) then K (.fv (.sl [])) ⟨[], []⟩ else none else none
    | _, _ => R f args ⟨[], ext⟩ K
  else R f args ⟨[], ext⟩ K
/-- A call: its outcome, what it looks at, what it lays. -/
noncomputable def isoK (f : FuncId) (args : List IV) (hp : Hp) (K : IV → List (Ref × Blk) → List Ref → Option β) : Option β :=
  match (frzArgs (E.pol.keep f) args).runLog hp [] with
  | none => none
  | some ((vs, rs, u), l1) => match (gather 4096 rs []).runLog hp l1 with
    | none => none
    | some (l, l2) => match IV.ren.renL (into l) vs with
      | none => none
      | some vs' => match renBlks (into l) (l.map (·.2)) with
        | none => none
        | some ext => fL (fIV 3) vs' fun vs' => fL fBlk ext fun ext => askedK E R f vs' ext fun res hp' =>
          match handBack E f res hp' with
          | none => none
          | some res => match res.ren (back l) with
            | none => none
            | some res => match renBlks (back l) hp'.ext with
              | none => none
              | some ext' => if ext'.length = l.length ∧ (keys u).all (fun r => !hasRef r l) then fIV 3 res fun res => K res (u ++ (keys l).zip ext') l2 else none

noncomputable def wantedT (T : FS) (ops : Array Oper) (o : Oper) : Option Bool :=
  match o.guard with
  | none => some true
  | some (j, want) => match (ops[j]?).bind (·.dst) with
    | none => none
    | some d => cond (Nat.ble T.n d) none (match T.t.get d with
      | .fv (.bool b) => some (b == want)
      | .fv (.tuple []) => some false
      | _ => none)

/-- Does it make numbers? -/
def scal : Op → Bool
  | .binOp .. | .unOp .. | .convert .. | .call .. => true
  | _ => false
noncomputable def fC {α : Type} (sc : Bool) (v : IV) (k : IV → α) : α := cond sc (fS v k) (fIV 3 v k)
theorem fC_eq {α : Type} (sc : Bool) (v : IV) (k : IV → α) : fC sc v k = k v := by cases sc <;> simp [fC, fS_eq, fIV_eq]
noncomputable def applyK (sc : Bool) (k : Nat) (d : Option Nat) (T : FS) (m : Made) (K : FS → Option β) : Option β :=
  match m.eff.upd, m.new with
  | [], none => fC sc m.eff.val fun v => putK d v T K
  | _, _ => match heapOf k T.hp m with
    | none => none
    | some hp => fHp hp fun hp => fC sc m.eff.val fun v => putK d v ⟨T.n, T.t, hp⟩ K
noncomputable def newRefs (k : Nat) (m : Made) : List Ref := match m.new with | some _ => [.own k] | none => []
def dumb : Handler := fun _ _ _ => none
/-- The callee of a call of a function value. -/
def callOf : Op → Option (Operand × Array Operand)
  | .call { callee := .value g, args, .. } => some (g, args)
  | _ => none

noncomputable def stepK (f : FuncId) (rid : Nat) (ops : Array Oper) (i : Nat) (o : Oper) (drawn : Bool) (T : FS) (K : FS → List Ref → List Ref → Option β) : Option β :=
  match wantedT T ops o with
  | none => none
  | some false => putK o.dst undefV T fun T => K T [] []
  | some true => match callOf o.op with
    | some (g, args) => match callee (operandT T g) with
      | none => none
      | some (h, first, cap) =>
        cond (E.pol.inl h) (cond drawn none (R h (first ++ args.toList.map (operandT T) ++ cap) T.hp fun v hp => fHp hp fun hp => fIV 3 v fun v => putK o.dst v ⟨T.n, T.t, hp⟩ fun T => K T [] []))
          (isoK E R h (first ++ args.toList.map (operandT T) ++ cap) T.hp fun v upd rd => applyK false (site f rid i) o.dst T { eff := { val := v, upd := upd } } fun T => K T rd (keys upd))
    | none => match (opG E dumb f rid i (operandT T) o.op).runLog T.hp [] with
      | none => none
      | some (m, rd) => applyK (scal o.op) (site f rid i) o.dst T m fun T => K T rd (keys m.eff.upd ++ newRefs (site f rid i) m)

noncomputable def opsK (f : FuncId) (rid : Nat) (ops : Array Oper) (l : List Oper) : Nat → FS → (FS → Option β) → Option β :=
  List.rec (motive := fun _ => Nat → FS → (FS → Option β) → Option β) (fun _ T K => K T) (fun o _ ih i T K => stepK E R f rid ops i o false T fun T _ _ => ih (Nat.succ i) T K) l
noncomputable def drawK (f : FuncId) (rid : Nat) (ops : Array Oper) (before : Array Nat) (l : List Oper) : Nat → List (Nat × List Ref × List Ref) → FS → (FS → Option β) → Option β :=
  List.rec (motive := fun _ => Nat → List (Nat × List Ref × List Ref) → FS → (FS → Option β) → Option β) (fun _ _ T K => K T)
    (fun o _ ih i done T K => stepK E R f rid ops i o true T fun T rd wr => match rd, wr with
      | [], [] => ih (Nat.succ i) done T K
      | _, _ => cond (done.all fun (j, q) => (before.getD i 0).testBit j || clash q (rd, wr)) (ih (Nat.succ i) ((i, rd, wr) :: done) T K) none) l

noncomputable def FS.list (T : FS) : List IV := (List.range T.n).map T.t.get
noncomputable def killK {α : Type} (ks : List Nat) : FS → (FS → α) → α :=
  List.rec (motive := fun _ => FS → (FS → α) → α) (fun T K => K T) (fun i _ ih T K => putK (some i) .dead T fun T => ih T K) ks
noncomputable def dropK (base kills rm : List Nat) (T : FS) (K : FS → Option β) : Option β :=
  match rm with
  | [] => killK kills T K
  | _ :: _ => match dropAt base kills rm ⟨T.list, T.hp⟩ with
    | none => none
    | some S => fHp S.hp fun hp => killK kills ⟨T.n, T.t, hp⟩ K
noncomputable def iterK (head : FS → (FS → Option β) → Option β) (body : FS → (Ex → FS → Option β) → Option β) (k : Nat) : FS → (Ex → FS → Option β) → Option β :=
  Nat.rec (motive := fun _ => FS → (Ex → FS → Option β) → Option β) (fun _ _ => none) (fun _ ih T K => head T fun T => body T fun ex T => match ex with
    | .normal => ih T K
    | .exit j => K (.exit j) T
    | .ret => K .ret T) k

noncomputable def execK (f : FuncId) (k : Nat) (base : List Nat) : Code → FS → (Ex → FS → Option β) → Option β
  | .skip, T, K => K .normal T
  | .region rid ops draw, T, K => cond draw (drawK E R f rid ops (Region.before ops) ops.toList 0 [] T fun T => K .normal T) (opsK E R f rid ops ops.toList 0 T fun T => K .normal T)
  | .seq a b, T, K => execK f k base a T fun ex T => match ex with
    | .normal => execK f k base b T K
    | .exit j => K (.exit j) T
    | .ret => K .ret T
  | .cond c a b, T, K => match operandT T c with
    | .fv (.bool true) => execK f k base a T K
    | .fv (.bool false) => execK f k base b T K
    | _ => none
  | .block id c, T, K => execK f k base c T fun ex T => match ex with
    | .normal => K .normal T
    | .exit j => cond (Nat.beq j id) (K .normal T) (K (.exit j) T)
    | .ret => K .ret T
  | .loop c, T, K => iterK (dropK base (E.pol.head f (firstRid c)).1 (E.pol.head f (firstRid c)).2) (execK f k base c) k T K
  | .exit id, T, K => K (.exit id) T
  | .ret, T, K => K .ret T
  | _, _, _ => none

noncomputable def resVarT (T : FS) : ResultVar → Option IV
  | .tmp t => some (T.get t)
  | .cell a t => match E.T t, T.get a with
    | some ti, .ptr r off => match T.hp.get r with
      | some (.row cells _) => takeVar ti.kind.isAgg ti.size off cells
      | _ => none
    | some ti, .fv (.fp cells off) => (takeVarF ti.kind.isAgg ti.size off cells).map .fv
    | _, _ => none
noncomputable def resVarsT (T : FS) : List ResultVar → Option (List IV)
  | [] => some []
  | r :: l => (resVarT E T r).bind fun v => (resVarsT T l).map fun vs => v :: vs
noncomputable def argsK {α : Type} (args : List IV) : Nat → FS → (FS → α) → α :=
  List.rec (motive := fun _ => Nat → FS → (FS → α) → α) (fun _ T K => K T) (fun v _ ih i T K => putK (some i) v T fun T => ih (Nat.succ i) T K) args
/-- A function's call, its own calls handed to `R`; the functions, by a way that finds them. -/
noncomputable def callK (FT : Nat → Option Func) (n : Nat) : KR β := fun f args hp K => match FT f with
    | none => none
    | some fn => match fn.body with
      | none => none
      | some c => cond (Nat.ble args.length fn.ntmps && Nat.ble fn.ntmps 1024)
        (argsK args 0 ⟨fn.ntmps, dT 10 0 fn.ntmps, hp⟩ fun T => execK E R f n (hp.own.map (·.1)) c T fun ex T => match ex with
          | .exit _ => none
          | .normal => match resVarsT E T fn.results.toList with
            | none => none
            | some [v] => fIV 3 v fun v => K v T.hp
            | some vs => fIV 3 (mkTuple vs) fun v => K v T.hp
          | .ret => match resVarsT E T fn.results.toList with
            | none => none
            | some [v] => fIV 3 v fun v => K v T.hp
            | some vs => fIV 3 (mkTuple vs) fun v => K v T.hp) none
noncomputable def runK (FT : Nat → Option Func) (n : Nat) : KR β :=
  Nat.rec (motive := fun _ => KR β) (fun _ _ _ _ => none) (fun n ih => callK E ih FT n) n
end

section
variable {E : Env} {β : Type} {R : KR β} {ih : Handler}

/-- What is handed on is what the run answers. -/
def Snd (G : Option β → Prop) (R : KR β) (ih : Handler) : Prop := ∀ f args hp K, G (R f args hp K) → ∃ r hp', ih f args hp = some (r, hp') ∧ G (K r hp')

theorem askedK_ok {G : Option β → Prop} (hG : ¬ G none) (hR : Snd G R ih) {f : FuncId} {args : List IV} {ext : List Blk} {K : IV → Hp → Option β} (h : G (askedK E R f args ext K)) :
    ∃ r hp', asked E ih f args ext = some (r, hp') ∧ G (K r hp') := by
  unfold askedK at h
  unfold asked
  split at h
  · rename_i hs
    rw [if_pos hs]
    split at h
    · obtain ⟨r, hp, e1, h⟩ := hR _ _ _ _ h
      split at h
      · rename_i h1
        obtain ⟨r', hp', e2, h⟩ := hR _ _ _ _ h
        split at h
        · rename_i h2
          refine ⟨_, _, ?_, h⟩
          simp only [e1, e2, h1, h2, Bool.and_self, if_true]
        · exact absurd h hG
      · exact absurd h hG
    · rename_i hne
      obtain ⟨r, hp, e1, h⟩ := hR _ _ _ _ h
      refine ⟨r, hp, ?_, h⟩
      split
      · rename_i _ _ _ _ _ _
        exact absurd rfl (fun e => hne rfl e)
      · exact e1
  · rename_i hs
    rw [if_neg hs]
    exact hR _ _ _ _ h

theorem isoK_ok {G : Option β → Prop} (hG : ¬ G none) (hR : Snd G R ih) {f : FuncId} {args : List IV} {hp : Hp} {K : IV → List (Ref × Blk) → List Ref → Option β} (h : G (isoK E R f args hp K)) :
    ∃ v u rd, (isoCall E ih f args).runLog hp [] = some ({ val := v, upd := u }, rd) ∧ G (K v u rd) := by
  unfold isoK at h
  cases h1 : (frzArgs (E.pol.keep f) args).runLog hp [] with
  | none => rw [h1] at h; exact absurd h hG
  | some p =>
    obtain ⟨⟨vs, rs, u⟩, l1⟩ := p
    rw [h1] at h
    simp only at h
    cases h2 : (gather 4096 rs []).runLog hp l1 with
    | none => rw [h2] at h; exact absurd h hG
    | some p =>
      obtain ⟨l, l2⟩ := p
      rw [h2] at h
      simp only at h
      cases h3 : IV.ren.renL (into l) vs with
      | none => rw [h3] at h; exact absurd h hG
      | some vs' =>
        rw [h3] at h
        simp only at h
        cases h4 : renBlks (into l) (l.map (·.2)) with
        | none => rw [h4] at h; exact absurd h hG
        | some ext =>
          rw [h4] at h
          simp only [fL_eq (fIV_eq 3), fL_eq fBlk_eq] at h
          obtain ⟨res, hp', h5, h⟩ := askedK_ok hG hR h
          cases h6 : handBack E f res hp' with
          | none => rw [h6] at h; exact absurd h hG
          | some res1 =>
            rw [h6] at h
            simp only at h
            cases h7 : res1.ren (back l) with
            | none => rw [h7] at h; exact absurd h hG
            | some res2 =>
              rw [h7] at h
              simp only at h
              cases h8 : renBlks (back l) hp'.ext with
              | none => rw [h8] at h; exact absurd h hG
              | some ext' =>
                rw [h8] at h
                simp only [fIV_eq] at h
                split at h
                · rename_i hc
                  refine ⟨res2, _, l2, ?_, h⟩
                  simp only [isoCall, runLog_bind, h1, h2, Option.bind_some, h3, h4, h5, h6, h7, h8]
                  rw [if_pos hc]
                  rfl
                · exact absurd h hG

theorem wantedT_eq {T : FS} {S : St} (h : Rep T S) (ops : Array Oper) (o : Oper) {b : Bool} (e : wantedT T ops o = some b) : wantedI ops S.slots o = some b := by
  unfold wantedT at e
  unfold wantedI
  cases hg : o.guard with
  | none => rw [hg] at e; exact e
  | some gw =>
    obtain ⟨j, want⟩ := gw
    rw [hg] at e
    simp only at e ⊢
    cases hd : (ops[j]?).bind (·.dst) with
    | none => rw [hd] at e; cases e
    | some d =>
      rw [hd] at e
      simp only [Option.bind_some] at e ⊢
      cases hb : Nat.ble T.n d with
      | true => rw [hb] at e; cases e
      | false =>
        rw [hb] at e
        have hdn : d < T.n := by
          exact Nat.lt_of_not_le fun h => by rw [Nat.ble_eq_true_of_le h] at hb; cases hb
        have hget := h.get d hdn
        have hs : S.slots[d]? = some (T.t.get d) := by
          rw [hget, List.getD_eq_getElem?_getD, List.getElem?_eq_getElem (by rw [h.len]; exact hdn)]; rfl
        rw [hs]
        simp only [cond] at e
        revert e
        generalize T.t.get d = v
        intro e
        split at e
        · exact e
        · exact e
        · cases e

theorem applyK_ok {sc : Bool} {k : Nat} {d : Option Nat} {T : FS} {S : St} (hr : Rep T S) {m : Made} {G : Option β → Prop} (hG : ¬ G none) {K : FS → Option β} (h : G (applyK sc k d T m K)) :
    ∃ S' T', applyMade k d S m = some S' ∧ Rep T' S' ∧ G (K T') := by
  unfold applyK at h
  unfold applyMade
  rw [hr.hp]
  split at h
  · rename_i hu hn
    rw [fC_eq, putK_eq] at h
    have hh : heapOf k T.hp m = some T.hp := by simp [heapOf, newOf, hu, hn, laid]
    rw [hh]
    refine ⟨_, _, rfl, ?_, h⟩
    have := put_rep hr d m.eff.val
    rw [hr.hp] at this
    exact this
  · cases hh : heapOf k T.hp m with
    | none => rw [hh] at h; exact absurd h hG
    | some hp =>
      rw [hh] at h
      simp only [fHp_eq, fC_eq, putK_eq] at h
      refine ⟨_, _, rfl, ?_, h⟩
      exact put_rep (T := ⟨T.n, T.t, hp⟩) (S := ⟨S.slots, hp⟩) ⟨rfl, hr.len, hr.has, hr.get⟩ d m.eff.val

theorem opG_noCall {ih' : Handler} {f : FuncId} {rid i : Nat} {ρ : Operand → IV} {o : Op} (h : callOf o = none) : opG E ih f rid i ρ o = opG E ih' f rid i ρ o := by
  cases o with
  | call c =>
    obtain ⟨cl, args, ts⟩ := c
    cases cl with
    | value g => cases h
    | _ => rfl
  | makeMap t r => cases r <;> rfl
  | _ => rfl
theorem inl_noCall {slots : List IV} {o : Op} (h : callOf o = none) : inlCall E slots o = none := by
  cases o with
  | call c =>
    obtain ⟨cl, args, ts⟩ := c
    cases cl with
    | value g => cases h
    | _ => rfl
  | _ => rfl
theorem callOf_some {o : Op} {g : Operand} {args : Array Operand} (h : callOf o = some (g, args)) : ∃ ts, o = .call { callee := .value g, args := args, argTypes := ts } := by
  cases o with
  | call c =>
    obtain ⟨cl, as, ts⟩ := c
    cases cl with
    | value g' => simp only [callOf, Option.some.injEq, Prod.mk.injEq] at h; obtain ⟨rfl, rfl⟩ := h; exact ⟨ts, rfl⟩
    | _ => cases h
  | _ => cases h

theorem stepK_ok {G : Option β → Prop} (hG : ¬ G none) (hR : Snd G R ih) {f : FuncId} {rid : Nat} {ops : Array Oper} {i : Nat} {o : Oper} (ho : ops[i]? = some o) {drawn : Bool} {T : FS} {S : St} (hr : Rep T S)
    {K : FS → List Ref → List Ref → Option β} (h : G (stepK E R f rid ops i o drawn T K)) :
    ∃ S' T' rd wr, step E ih f rid ops i S = some S' ∧ (drawn = true → stepP E ih f rid ops i S = some (S', rd, wr)) ∧ Rep T' S' ∧ G (K T' rd wr) := by
  unfold stepK at h
  unfold step stepP
  rw [ho]
  simp only
  cases hw : wantedT T ops o with
  | none => rw [hw] at h; exact absurd h hG
  | some t =>
    rw [hw] at h
    rw [wantedT_eq hr ops o hw]
    cases t with
    | false =>
      simp only [putK_eq] at h
      exact ⟨_, _, [], [], rfl, fun _ => rfl, put_rep hr o.dst undefV, h⟩
    | true =>
      simp only at h ⊢
      rw [operandT_eq hr, hr.hp.symm] at h
      cases hc : callOf o.op with
      | none =>
        rw [hc] at h
        simp only at h
        rw [inl_noCall hc]
        simp only [opR]
        rw [opG_noCall (ih := ih) (ih' := dumb) hc]
        cases hl : (opG E dumb f rid i (operand S.slots) o.op).runLog S.hp [] with
        | none => rw [hl] at h; exact absurd h hG
        | some p =>
          obtain ⟨m, rd⟩ := p
          rw [hl] at h
          simp only at h
          obtain ⟨S', T', h1, h2, h3⟩ := applyK_ok hr hG h
          refine ⟨S', T', rd, _, ?_, fun _ => ?_, h2, h3⟩
          · rw [runLog_run _ _ _ _ _ hl]; exact h1
          · simp only [h1, Option.map_some, newRefs]; rfl
      | some ga =>
        obtain ⟨g, args⟩ := ga
        rw [hc] at h
        obtain ⟨ts, hop⟩ := callOf_some hc
        simp only at h
        cases hce : callee (operand S.slots g) with
        | none => rw [hce] at h; exact absurd h hG
        | some p =>
          obtain ⟨h', first, cap⟩ := p
          rw [hce] at h
          simp only at h
          cases hin : E.pol.inl h' with
          | true =>
            rw [hin] at h
            cases drawn with
            | true => exact absurd h hG
            | false =>
              simp only [cond] at h
              obtain ⟨v, hp', e1, h2⟩ := hR _ _ _ _ h
              simp only [fHp_eq, fIV_eq, putK_eq] at h2
              refine ⟨⟨putSlot o.dst v S.slots, hp'⟩, _, [], [], ?_, fun e => (by cases e), ?_, h2⟩
              · simp only [hop, inlCall, hce, hin, if_true, e1, Option.map_some]
              · exact put_rep (T := ⟨T.n, T.t, hp'⟩) (S := ⟨S.slots, hp'⟩) ⟨rfl, hr.len, hr.has, hr.get⟩ o.dst v
          | false =>
            rw [hin] at h
            simp only [cond] at h
            obtain ⟨v, u, rd, e1, h2⟩ := isoK_ok hG hR h
            obtain ⟨S', T', h3, h4, h5⟩ := applyK_ok hr hG h2
            have e2 : (opR E ih f rid i S.slots o.op).runLog S.hp [] = some ({ eff := { val := v, upd := u } }, rd) := by
              rw [hop]
              simp only [opR, opG, hce, hin, Bool.false_eq_true, if_false, Rd.eff, runLog_bind, e1, Option.bind_some, Rd.runLog]
            have e3 : inlCall E S.slots o.op = none := by
              rw [hop]
              simp only [inlCall, hce, hin, Bool.false_eq_true, if_false]
            refine ⟨S', T', rd, _, ?_, fun _ => ?_, h4, h5⟩
            · rw [e3, runLog_run _ _ _ _ _ e2]; exact h3
            · rw [e3, e2]; simp only [h3, Option.map_some, List.append_nil]
end
end Idl
end Go.Proofs.Ytbkdidonegggdaa

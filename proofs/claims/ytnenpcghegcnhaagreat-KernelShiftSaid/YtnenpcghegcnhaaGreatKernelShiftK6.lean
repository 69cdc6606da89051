/- Part 6 of a proof. No statement is proved here. -/
import Derived.ChangeBook
import Derived.ChangeSame
import Derived.WalkKit
import Derived.ProofKit
import Derived.OpenShut
import Derived.Test.YtnenpcghegcnhaaGreatKernelShiftK5
set_option linter.all false
set_option maxRecDepth 20000
set_option maxHeartbeats 16000000
noncomputable section
namespace Go.Proofs.YtnenpcghegcnhaaGreat
namespace Idl
open Go.ChangeShapes Go.WideShapes Go.ChangeAt Go.RowKit
section
variable {H:Type} {enc:TypeId×Value->H} {P:Program} {w:World} {sp:Nat->Bool} {held:Bool}
end
section
variable {H:Type} {enc:TypeId×Value->H} {P:Program} {W W':World} {sp:Nat->Bool}
theorem SV (hl:laidOutB P=true) {t:TypeId} (hr:P.readableRec t=true) (ht:t<P.types.size) {v:Value} {d:DataW H} {p:List MemPlace} (h:DataW.Trod enc P W 0 (fun _=>true) true t v d p) (hg:Grown W W')
  (hlt:∀q∈p,q.block<W.heap.size) (hs:∀q∈p,sp q.block=true):DataW.Trod enc P W' 0 sp true t v d p:=by
 obtain ⟨n,h⟩:=h;refine ⟨n,DataW.trod_stays (kids_book hl hr) (book_sized hr) (fun h=>by cases h) ⟨ht,book_self t⟩ h (fun q hq=>?_) hs⟩;cases q with
 | cell b off=>exact hg.1.cell (hlt _ hq) (fun h=>h)
 | map b=>exact hg.1.block (hlt _ hq) (fun _ h=>h.elim)
theorem Iq (hl:laidOutB P=true):∀(ts:List TypeId) (vs:List Value) (ds:List (DataW H)) (p:List MemPlace),(∀t∈ts,P.readableRec t=true/\t<P.types.size)->DataW.TrodAll enc P W 0 (fun _=>true) true ts vs ds p->Grown W W' ->
  (∀q∈p,q.block<W.heap.size)->(∀q∈p,sp q.block=true)->DataW.TrodAll enc P W' 0 sp true ts vs ds p
 | [],vs,ds,p,_,h,_,_,_=>by
  obtain ⟨rfl,rfl,rfl⟩:=trodAll_nil h;exact trodAll_mk0
 | t::ts,vs,ds,p,ht,h,hg,hlt,hs=>by
  obtain ⟨v,vs',d,ds',p1,p2,rfl,rfl,rfl,h1,h2⟩:=trodAll_cons h;refine trodAll_cons_mk (SV hl (ht t Aji).1 (ht t Aji).2 h1 hg (fun q hq=>hlt q (by simp [hq])) (fun q hq=>hs q (by simp [hq]))) ?_;exact Iq hl ts vs' ds' p2 (fun u hu=>ht u (Ajj _ hu)) h2 hg (fun q hq=>hlt q (by simp [hq])) (fun q hq=>hs q (by simp [hq]))
end
inductive Args (w:World):List FV->List Value->Prop
 | nil:Args w [] []
 | cons {v:FV} {x:Value} {vs:List FV} {xs:List Value} (h:RF w (all w) v x) (t:Args w vs xs):Args w (v::vs) (x::xs)
theorem Zn {w:World} {vs:List FV} {xs:List Value} (h:Args w vs xs):vs.length=xs.length:=by
 induction h with
 | nil=>rfl
 | cons _ _ ih=>simp [ih]
theorem bA {w:World} {vs:List FV} {xs:List Value} (h:Args w vs xs):∀i v,vs[i]?=some v->RF w (all w) v (xs.getD i undef):=by
 induction h with
 | nil=>intro i v hv;simp at hv
 | cons h1 _ ih =>
  intro i v hv;cases i with
  | zero=>simp at hv;subst hv;exact h1
  | succ i=>simp at hv;simpa using ih i v hv
theorem Zc {w:World} {vs:List FV} {xs:List Value} (h:Args w vs xs):SlotsR (fun _=>0) w (all w) ⟨[],[]⟩ (vs.map .fv) xs.toArray:=by
 refine ⟨by simpa using Zn h,fun i v hv=>?_⟩;rw [Ajv] at hv;cases hi:vs[i]? with
 | none=>rw [hi] at hv;cases hv
 | some u =>
  rw [hi] at hv;simp only [Ai2,AiZ] at hv;subst hv
  have:=bA h i u hi
  refine .fv _ _ ?_;simpa using this
end Idl
end Go.Proofs.YtnenpcghegcnhaaGreat

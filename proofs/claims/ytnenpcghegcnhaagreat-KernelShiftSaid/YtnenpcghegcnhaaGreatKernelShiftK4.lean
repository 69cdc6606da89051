/- Part 4 of a proof. No statement is proved here. -/
import Derived.RowKit3
import Derived.Test.YtnenpcghegcnhaaGreatKernelShiftK3
set_option linter.all false
set_option maxRecDepth 20000
set_option maxHeartbeats 16000000
noncomputable section
namespace Go.Proofs.YtnenpcghegcnhaaGreat
namespace Idl
open Go.RowKit
theorem Yn {μ μ':Ref->Nat} {w w':World} {F F':B3} {hp':Hp} (st:Stp μ w F ⟨[],[]⟩ μ' w' F' hp'):Grown w w':=by
 refine ⟨⟨st.ws.os,st.ws.output,fun i hi=>?_⟩,st.ws.frozen,st.ws.size⟩;have e:w'.heap[i]?=w.heap[i]?:=st.frame i hi fun r hr=>by cases r<;>simp [Hp.get,Ap] at hr
 rw [e];cases h:w.heap[i]? with
 | none=>rfl
 | some o=>cases o<;>simp
def all (w:World):B3:=fun b _=>b<w.heap.size
def YJ {E:Env} (hE:EnvOk E) {n:Nat} {f:FuncId} {args:List IV} {vals:Array Value} {w:World} {hp':Hp}
  (hs:SlotsR (fun _=>0) w (all w) ⟨[],[]⟩ args vals) (h:run E n f args ⟨[],[]⟩=some (.fv (.bool true),hp')) :
  Calls E.P f vals w fun e w'=>e=.returned (.bool true)/\Grown w w':=by
 have hr:HR (fun _=>0) w (all w) ⟨[],[]⟩:=⟨fun r b h=>by cases r<;>simp [Hp.get,Ap] at h,fun r s h=>by cases r<;>simp [Hp.get,Ap] at h,fun b o h=>h⟩;refine ((w8 hE n f args _ _ _ h).2 _ w _ vals hr hs).mono ?_;rintro e w' ⟨v,μ',F',rfl,st,_,hv⟩;cases hv with | fv _ _ hv =>
 cases hv;exact ⟨rfl,Yn st⟩
end Idl
end Go.Proofs.YtnenpcghegcnhaaGreat

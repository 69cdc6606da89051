/- Part 15 of a proof. No statement is proved here. -/
import Derived.ChangeArms
import Derived.Test.YtnenpcghegcnhaaGreatKernelShiftK14
set_option linter.all false
set_option maxRecDepth 20000
set_option maxHeartbeats 16000000
noncomputable section
namespace Go.Proofs.YtnenpcghegcnhaaGreat
namespace Idl
open Go.ChangeShapes Go.WideShapes Go.ChangeAt Go.RowKit
section
variable {H:Type} {enc:TypeId×Value->H} {P:Program} {w:World} {sp:Nat->Bool} {held:Bool}
theorem Q4 {tk ti:TypeId} (hk:P.underlying tk=some (.slice ti)) (hi:P.underlying ti=some .bool) (c1:P.cellsOf ti=1) {n:Nat} {cs:List Value} {x:DataW H×List MemPlace}
  (h:DataW.trod enc P w 0 sp held n tk cs=some x):∃ns:List Bool,∃v,cs=[v]/\RF w (all w) (.sl (ns.map FV.bool)) v:=by
 rcases DataW.trod_slice hk h with ⟨rfl,_⟩ | ⟨a,len,cap,elems,rest,m,rfl,rfl,_,_,hlc,_,hlen,hel,_,_⟩
 ·exact ⟨[],_,rfl,.sl0 none 0 fun _=>rfl⟩
 ·rw [c1] at hel;have he:∀i,i<len->∃t:Bool,w.cell? (a.add i)=some (.bool t):=by
   intro i hi';have h1:=hel i hi';rw [Nat.mul_one] at h1;have h2:∃y,elems[i]?=some y:=by rw [Ai6 (by omega)];exact ⟨_,rfl⟩
   obtain ⟨y,hy⟩:=h2;rw [hy] at h1;cases hc:w.cells? 0 (a.add i) 1 with
   | none=>rw [hc] at h1;cases h1
   | some c =>
    rw [hc] at h1;obtain ⟨t,e0,_⟩:=DataW.trod_bool hi h1;obtain ⟨c1',c2⟩:=NY hc;refine ⟨t,?_⟩
    have:=c2 0 (by omega)
    rw [e0] at this;simpa [Addr.add] using this
  obtain ⟨ns,hl,hq⟩:=Hj len he;refine ⟨ns,_,rfl,?_⟩;cases hn:len with
  | zero =>
   have:ns=[]:=Ajr.1 (by omega)
   subst this;exact .sl0 (some a) cap fun e=>by cases e
  | succ len' =>
   have hspot:a.spot=none:=by
    obtain ⟨t,ht⟩:=he 0 (by omega);simp only [Addr.add,if_pos] at ht;unfold World.cell? at ht;split at ht
    ·split at ht
     ·cases ht
     ·rename_i hs;cases e:a.spot with
      | none=>rfl
      | some _=>rw [e] at hs;exact absurd rfl hs
    ·cases ht
   obtain ⟨b,off,spot⟩:=a;simp only at hspot;subst hspot;have hadd:∀i:Nat,(Addr.mk b off none).add i=⟨b,off+i,none⟩:=by
    intro i;unfold Addr.add;split
    ·rename_i e;subst e;rfl
    ·rfl
   have hes:(ns.map FV.bool).length=len'+1:=by simp;omega
   have hcell:∀i,i<len->w.cell? ⟨b,off+i,none⟩=some (.bool (ns.getD i false)):=by
    intro i hi';have hti:ns[i]?=some (ns.getD i false):=by rw [Ajf,Ai6 (by omega)];rfl
    have:=hq i _ hti
    rwa [hadd] at this
   rw [<- hes];refine .sl (ns.map FV.bool) b off 1 cap (fun i j=>.bool (ns.getD i false)) (fun e=>by rw [e] at hes;simp at hes) (by omega) (fun e he=>?_) (fun i j hi hj=>?_) (fun i j hi hj=>?_) (fun i j e c he hc=>?_)
   ·obtain ⟨t,_,rfl⟩:=List.mem_map.1 he;rfl
   ·have:=hcell i (by omega)
    show b<w.heap.size
    unfold World.cell? at this;split at this
    ·rename_i hb;exact (Array.getElem?_eq_some_iff.1 hb).1
    ·cases this
   ·have:i * 1+j=i:=by omega
    rw [this];exact hcell i (by omega)
   ·rw [Ajv] at he;cases ht:ns[i]? with
    | none=>rw [ht] at he;cases he
    | some t =>
     rw [ht] at he;simp only [Ai2,AiZ] at he;subst he;rw [Ajf,ht];cases j with
     | zero=>simp [FV.cells] at hc;subst hc;exact .bool _
     | succ j=>simp [FV.cells] at hc
end
end Idl
end Go.Proofs.YtnenpcghegcnhaaGreat

/- Part 5 of a proof. No statement is proved here. -/
import Derived.ChangeArms
import Derived.ChangeStays
import Derived.RowKit3
import Derived.Test.YtnenpcghegcnhaaGreatKernelShiftK4
set_option linter.all false
set_option maxRecDepth 20000
set_option maxHeartbeats 16000000
noncomputable section
namespace Go.Proofs.YtnenpcghegcnhaaGreat
namespace Idl
open Go.RowKit
inductive Tm where
 | mk (op n:Int) (kids:List Tm)
 deriving Inhabited
def Tm.enc:Tm->FV
 | .mk op n kids=>.agg [.int .i64 op,.int .i64 n,.sl (encL kids)]
where
 encL:List Tm->List FV
  | []=>[]
  | t::l=>t.enc::encL l
theorem Uw (l:List Tm):Tm.enc.encL l=l.map Tm.enc:=by
 induction l with
 | nil=>rfl
 | cons t l ih=>simp [Tm.enc.encL,ih]
theorem YP (t:Tm):t.enc.cells.length=3:=by cases t;rfl
theorem Hj {α:Type} {Q:Nat->α->Prop}:∀n,(∀i,i<n->∃t,Q i t)->∃l:List α,l.length=n/\∀i t,l[i]?=some t->Q i t
 | 0,_=>⟨[],rfl,fun i t h=>by simp at h⟩
 | n+1,h=>by
  obtain ⟨l,hl,hq⟩:=Hj n fun i hi=>h i (by omega);obtain ⟨t,ht⟩:=h n (by omega);refine ⟨l++[t],by simp [hl],fun i u hu=>?_⟩;by_cases hi:i<l.length
  ·rw [Ai9 hi] at hu;exact hq i u hu
  ·rw [Ai8 (by omega)] at hu;cases hj:i - l.length with
   | zero =>
    rw [hj] at hu;simp only [Ajb,AiZ] at hu;subst hu;rw [show i=n by omega]
    exact ht
   | succ j=>rw [hj] at hu;simp at hu
theorem NY {w:World} {base:Nat} {a:Addr} {n:Nat} {cs:List Value} (h:w.cells? base a n=some cs):cs.length=n/\∀j,j<n->w.cell? (a.add j)=cs[j]?:=by
 unfold World.cells? at h;split at h
 ·refine ⟨?_,fun j hj=>?_⟩
  ·have:=mapM_some_length h
   simpa using this
  ·have:=mapM_some_get h j j (by simp [hj])
   exact this
 ·cases h
section
variable {H:Type} {enc:TypeId×Value->H} {P:Program} {w:World} {sp:Nat->Bool} {held:Bool} {tr tk ti:TypeId} {fs:Array Field}
def Tm.cells:Tm->List FV
 | .mk op n kids=>[.int .i64 op,.int .i64 n,.sl (kids.map Tm.enc)]
theorem Z1 (t:Tm):t.enc=.agg t.cells:=by obtain ⟨op,n,kids⟩:=t;simp [Tm.enc,Tm.cells,Uw]
structure TmType (P:Program) (tr tk ti:TypeId) (fs:Array Field):Prop where
 hr:P.underlying tr=some (.struct fs)
 hf:fs.toList.map (fun f=>(f.type,f.offset))=[(ti,0),(ti,1),(tk,2)]
 hi:P.underlying ti=some (.int .i64)
 hk:P.underlying tk=some (.slice tr)
 c3:P.cellsOf tr=3
 c1:P.cellsOf ti=1
 ck:P.cellsOf tk=1
theorem NZ {n:Nat} (T:TmType P tr tk ti fs) (ih:∀m,m<n->∀cs x,DataW.trod enc P w 0 sp held m tr cs=some x->∃t:Tm,cs.length=3/\∀j c,t.cells[j]?=some c->RF w (all w) c (cs.getD j undef))
  {cs:List Value} {x:DataW H×List MemPlace} (h:DataW.trod enc P w 0 sp held n tk cs=some x):∃kids:List Tm,∃v,cs=[v]/\RF w (all w) (.sl (kids.map Tm.enc)) v:=by
 rcases DataW.trod_slice T.hk h with ⟨rfl,_⟩ | ⟨a,len,cap,elems,rest,m,rfl,rfl,_,_,hlc,_,hlen,hel,_,_⟩
 ·exact ⟨[],_,rfl,.sl0 none 0 fun _=>rfl⟩
 ·rw [T.c3] at hel;have he:∀i,i<len->∃t:Tm,∃c,w.cells? 0 (a.add (i * 3)) 3=some c/\∀j d,t.cells[j]?=some d->RF w (all w) d (c.getD j undef):=by
   intro i hi;have h1:=hel i hi;have h2:∃y,elems[i]?=some y:=by rw [Ai6 (by omega)];exact ⟨_,rfl⟩
   obtain ⟨y,hy⟩:=h2;rw [hy] at h1;cases hc:w.cells? 0 (a.add (i * 3)) 3 with
   | none=>rw [hc] at h1;cases h1
   | some c =>rw [hc] at h1;obtain ⟨t,_,ht⟩:=ih m (by omega) c y h1;exact ⟨t,c,rfl,ht⟩
  obtain ⟨kids,hl,hq⟩:=Hj len he;refine ⟨kids,_,rfl,?_⟩;cases hn:len with
  | zero =>
   have:kids=[]:=Ajr.1 (by omega)
   subst this;exact .sl0 (some a) cap fun e=>by cases e
  | succ len' =>
   have hcell:∀i j,i<len->j<3->∃c,w.cells? 0 (a.add (i * 3)) 3=some c/\w.cell? ((a.add (i * 3)).add j)=some (c.getD j undef):=by intro i j hi hj;obtain ⟨t,ht⟩:∃t,kids[i]?=some t:=⟨_,Ai6 (by omega)⟩;obtain ⟨c,hc,_⟩:=hq i t ht;obtain ⟨c1,c2⟩:=NY hc;refine ⟨c,hc,?_⟩;rw [c2 j hj,Ajf,Ai6 (by omega)];rfl
   have hspot:a.spot=none:=by
    obtain ⟨c,_,hc⟩:=hcell 0 0 (by omega) (by omega);rw [Nat.zero_mul] at hc;simp only [Addr.add,if_pos] at hc;unfold World.cell? at hc;split at hc
    ·split at hc
     ·cases hc
     ·rename_i hs;cases e:a.spot with
      | none=>rfl
      | some _=>rw [e] at hs;exact absurd rfl hs
    ·cases hc
   obtain ⟨b,off,spot⟩:=a;simp only at hspot;subst hspot;have hadd:∀i j:Nat,((Addr.mk b off none).add (i * 3)).add j=⟨b,off+(i * 3+j),none⟩:=by
    intro i j;have one:∀(o k:Nat),(Addr.mk b o none).add k=⟨b,o+k,none⟩:=by
     intro o k;unfold Addr.add;split
     ·rename_i e;subst e;rfl
     ·rfl
    rw [one,one];congr 1;omega
   have hes:(kids.map Tm.enc).length=len'+1:=by simp;omega
   rw [<- hes];refine .sl (kids.map Tm.enc) b off 3 cap (fun i j=>(w.cell? ⟨b,off+(i * 3+j),none⟩).getD undef) (fun e=>by rw [e] at hes;simp at hes) (by omega) (fun e he=>?_) (fun i j hi hj=>?_) (fun i j hi hj=>?_) (fun i j e c he hc=>?_)
   ·obtain ⟨t,_,rfl⟩:=List.mem_map.1 he;exact YP t
   ·obtain ⟨c,_,hc⟩:=hcell i j (by omega) hj
    show b<w.heap.size
    unfold World.cell? at hc;split at hc
    ·rename_i hb;rw [hadd] at hb;exact (Array.getElem?_eq_some_iff.1 hb).1
    ·cases hc
   ·obtain ⟨c,_,hc⟩:=hcell i j (by omega) hj;rw [hadd] at hc;rw [hc];rfl
   ·rw [Ajv] at he;cases ht:kids[i]? with
    | none=>rw [ht] at he;cases he
    | some t =>
     rw [ht] at he;simp only [Ai2,AiZ] at he;subst he;obtain ⟨c',hc',hR⟩:=hq i t ht;rw [Z1] at hc;have hj:j<3:=by
      have:=(Ai7.1 hc).1
      obtain ⟨op,n,ks⟩:=t;exact this
     have hil:i<len:=by have:=(Ai7.1 ht).1;omega
     obtain ⟨c2,h2,h3⟩:=hcell i j hil hj;rw [hc'] at h2;simp only [AiZ] at h2;subst h2;rw [hadd] at h3;rw [h3];exact hR j c hc
theorem Rf (T:TmType P tr tk ti fs):∀n cs x,DataW.trod enc P w 0 sp held n tr cs=some x->∃t:Tm,cs.length=3/\∀j c,t.cells[j]?=some c->RF w (all w) c (cs.getD j undef):=by
 intro n
 induction n using Nat.strongRecOn with
 | _ n ih =>
  intro cs x h;obtain ⟨xs,m,rfl,_,hl,hxs,hall⟩:=DataW.trod_struct T.hr h;rw [T.c3] at hl;obtain ⟨u0,u1,u2,rfl⟩:∃a b c,cs=[a,b,c]:=by
   match cs,hl with
   | [a,b,c],_=>exact ⟨a,b,c,rfl⟩
  have hfs:fs.size=3:=by
   have:=congrArg List.length T.hf
   simpa using this
  have fld:∀(i:Nat) (ty:TypeId) (o:Nat),([(ti,0),(ti,1),(tk,2)]:List (TypeId×Nat))[i]?=some (ty,o)->∃y,DataW.trod enc P w 0 sp held m ty (([u0,u1,u2].drop o).take (P.cellsOf ty))=some y:=by
   intro i ty o hio;rw [<- T.hf,Ajv] at hio;cases hfi:fs.toList[i]? with
   | none=>rw [hfi] at hio;cases hio
   | some f =>
    rw [hfi] at hio;simp only [Ai2,AiZ,Ai0] at hio;obtain ⟨rfl,rfl⟩:=hio;have hfa:fs[i]?=some f:=by simpa using hfi
    have h1:=hall i f hfa;have h2:i<xs.length:=by rw [hxs];exact (Array.getElem?_eq_some_iff.1 hfa).1
    rw [Ai6 h2] at h1;exact ⟨_,h1⟩
  obtain ⟨y0,h0⟩:=fld 0 ti 0 rfl;obtain ⟨y1,h1⟩:=fld 1 ti 1 rfl;obtain ⟨y2,h2⟩:=fld 2 tk 2 rfl;rw [T.c1] at h0 h1;rw [T.ck] at h2;obtain ⟨op,e0,_⟩:=DataW.trod_int T.hi h0;obtain ⟨nn,e1,_⟩:=DataW.trod_int T.hi h1;obtain ⟨kids,v,e2,hR⟩:=NZ T (fun k hk=>ih k (by omega)) h2;simp at e0 e1 e2;subst e0 e1 e2;refine ⟨.mk op nn kids,rfl,fun j c hc=>?_⟩
  match j,hc with
  | 0,hc=>simp [Tm.cells] at hc;subst hc;exact .int _ _
  | 1,hc=>simp [Tm.cells] at hc;subst hc;exact .int _ _
  | 2,hc=>simp [Tm.cells] at hc;subst hc;exact hR
  | j+3,hc=>simp [Tm.cells] at hc
theorem UQ (T:TmType P tr tk ti fs) {v:Value} {d:DataW H} {p:List MemPlace} (hv:∃c,v=.agg c) (h:DataW.Trod enc P w 0 sp held tr v d p):∃t:Tm,RF w (all w) t.enc v:=by
 obtain ⟨n,h⟩:=h;obtain ⟨c,rfl⟩:=hv;obtain ⟨t,hl,hR⟩:=Rf T n _ _ h;refine ⟨t,?_⟩;rw [Z1];have hs:c.size=3:=by simpa [Value.cells] using hl
 refine .agg _ c (by obtain ⟨op,nn,ks⟩:=t;simp [Tm.cells,hs]) fun j x hx=>?_
 have:=hR j x hx
 simpa [Value.cells,Ajf] using this
end
end Idl
end Go.Proofs.YtnenpcghegcnhaaGreat

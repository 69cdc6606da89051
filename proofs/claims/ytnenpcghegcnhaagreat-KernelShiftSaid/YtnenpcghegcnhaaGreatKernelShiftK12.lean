/- Part 12 of a proof. No statement is proved here. -/
import Derived.Test.YtnenpcghegcnhaaGreatKernelShiftK11
set_option linter.all false
set_option maxRecDepth 20000
set_option maxHeartbeats 16000000
noncomputable section
namespace Go.Proofs.YtnenpcghegcnhaaGreat
namespace Idl
def vT (i:Nat):Tm:=.mk 1 (i:Int) []
def rC (k:Nat) (ρ:Nat->Nat):Nat->Nat:=fun i=>if i<k then i else ρ (i - k)+k
mutual
def Tm.ren:Tm->(Nat->Nat)->Tm
 | .mk op n ks,ρ=>if op=1 then (if n<0\/ks.isEmpty=false then .mk op n ks else vT (ρ n.toNat)) else .mk op n (Tm.renL op 0 ks ρ)
def Tm.renL:Int->Nat->List Tm->(Nat->Nat)->List Tm
 | _,_,[],_=>[]
 | op,i,t::l,ρ=>t.ren (rC (Ak op i) ρ)::Tm.renL op (i+1) l ρ
end
def qB (k:Nat) (σ:Nat->Tm):Nat->Tm:=fun i=>if i<k then vT i else (σ (i - k)).ren (fun j=>j+k)
mutual
def Tm.sub:Tm->(Nat->Tm)->Tm
 | .mk op n ks,σ=>if op=1 then (if n<0\/ks.isEmpty=false then .mk op n ks else σ n.toNat) else .mk op n (Tm.subL op 0 ks σ)
def Tm.subL:Int->Nat->List Tm->(Nat->Tm)->List Tm
 | _,_,[],_=>[]
 | op,i,t::l,σ=>t.sub (qB (Ak op i) σ)::Tm.subL op (i+1) l σ
end
theorem AcB (i:Nat):¬ ((i:Int)<0\/([]:List Tm).isEmpty=false):=by
 rintro (h | h)
 ·omega
 ·cases h
theorem N8 (i:Nat) (ρ:Nat->Nat):(vT i).ren ρ=vT (ρ i):=by rw [vT,Tm.ren,if_pos rfl,if_neg (AcB i)];rfl
theorem AbO (i:Nat) (σ:Nat->Tm):(vT i).sub σ=σ i:=by rw [vT,Tm.sub,if_pos rfl,if_neg (AcB i)];rfl
theorem KS {k:Nat} {ρ:Nat->Nat} {i:Nat} (h:i<k):rC k ρ i=i:=if_pos h
theorem Ko {k:Nat} {ρ:Nat->Nat} {i:Nat} (h:¬ i<k):rC k ρ i=ρ (i - k)+k:=if_neg h
theorem MB {k:Nat} {σ:Nat->Tm} {i:Nat} (h:i<k):qB k σ i=vT i:=if_pos h
theorem Mb {k:Nat} {σ:Nat->Tm} {i:Nat} (h:¬ i<k):qB k σ i=(σ (i - k)).ren fun j=>j+k:=if_neg h
theorem bG (k:Nat) (ρ ρ':Nat->Nat):(fun i=>rC k ρ' (rC k ρ i))=rC k (fun i=>ρ' (ρ i)):=by
 funext i
 by_cases h:i<k
 ·rw [KS (ρ:=ρ) h,KS h,KS h]
 ·rw [Ko (ρ:=ρ) h,Ko h,Ko (by omega),Nat.add_sub_cancel]
mutual
theorem FQ:∀(t:Tm) (ρ ρ':Nat->Nat),(t.ren ρ).ren ρ'=t.ren (fun i=>ρ' (ρ i))
 | .mk op n ks,ρ,ρ'=>by
  rw [Tm.ren,Tm.ren];by_cases h:op=1
  ·rw [if_pos h,if_pos h];by_cases hn:n<0\/ks.isEmpty=false
   ·rw [if_pos hn,if_pos hn,Tm.ren,if_pos h,if_pos hn]
   ·rw [if_neg hn,if_neg hn,N8]
  ·rw [if_neg h,if_neg h,Tm.ren,if_neg h,renL_ren ks op 0 ρ ρ']
theorem renL_ren:∀(l:List Tm) (op:Int) (i:Nat) (ρ ρ':Nat->Nat),Tm.renL op i (Tm.renL op i l ρ) ρ'=Tm.renL op i l (fun i=>ρ' (ρ i))
 | [],_,_,_,_=>rfl
 | t::l,op,i,ρ,ρ'=>by simp only [Tm.renL,FQ t,bG,renL_ren l]
end
theorem kN (k:Nat) (ρ:Nat->Nat) (σ:Nat->Tm):(fun i=>qB k σ (rC k ρ i))=qB k (fun i=>σ (ρ i)):=by
 funext i
 by_cases h:i<k
 ·rw [KS h,MB h,MB h]
 ·rw [Ko h,Mb h,Mb (by omega),Nat.add_sub_cancel]
mutual
theorem UW:∀(t:Tm) (ρ:Nat->Nat) (σ:Nat->Tm),(t.ren ρ).sub σ=t.sub (fun i=>σ (ρ i))
 | .mk op n ks,ρ,σ=>by
  rw [Tm.ren,Tm.sub];by_cases h:op=1
  ·rw [if_pos h,if_pos h];by_cases hn:n<0\/ks.isEmpty=false
   ·rw [if_pos hn,if_pos hn,Tm.sub,if_pos h,if_pos hn]
   ·rw [if_neg hn,if_neg hn,AbO]
  ·rw [if_neg h,if_neg h,Tm.sub,if_neg h,subL_ren ks op 0 ρ σ]
theorem subL_ren:∀(l:List Tm) (op:Int) (i:Nat) (ρ:Nat->Nat) (σ:Nat->Tm),Tm.subL op i (Tm.renL op i l ρ) σ=Tm.subL op i l (fun i=>σ (ρ i))
 | [],_,_,_,_=>rfl
 | t::l,op,i,ρ,σ=>by simp only [Tm.renL,Tm.subL,UW t,kN,subL_ren l]
end
theorem jR (k:Nat) (σ:Nat->Tm) (ρ:Nat->Nat):(fun i=>(qB k σ i).ren (rC k ρ))=qB k (fun i=>(σ i).ren ρ):=by
 funext i
 by_cases h:i<k
 ·rw [MB h,MB h,N8,KS h]
 ·rw [Mb h,Mb h,FQ,FQ];congr 1
  funext j
  rw [Ko (by omega),Nat.add_sub_cancel]
mutual
theorem Wk:∀(t:Tm) (σ:Nat->Tm) (ρ:Nat->Nat),(t.sub σ).ren ρ=t.sub (fun i=>(σ i).ren ρ)
 | .mk op n ks,σ,ρ=>by
  rw [Tm.sub,Tm.sub];by_cases h:op=1
  ·rw [if_pos h,if_pos h];by_cases hn:n<0\/ks.isEmpty=false
   ·rw [if_pos hn,if_pos hn,Tm.ren,if_pos h,if_pos hn]
   ·rw [if_neg hn,if_neg hn]
  ·rw [if_neg h,if_neg h,Tm.ren,if_neg h,renL_sub ks op 0 σ ρ]
theorem renL_sub:∀(l:List Tm) (op:Int) (i:Nat) (σ:Nat->Tm) (ρ:Nat->Nat),Tm.renL op i (Tm.subL op i l σ) ρ=Tm.subL op i l (fun i=>(σ i).ren ρ)
 | [],_,_,_,_=>rfl
 | t::l,op,i,σ,ρ=>by simp only [Tm.renL,Tm.subL,Wk t,jR,renL_sub l]
end
mutual
theorem Ck:∀(t:Tm) (d c k:Nat),t.sc k->k+2 * t.wt+d<=9000000000000000000->t.shift d c=t.ren (fun i=>if i<c then i else i+d)
 | .mk op n ks,d,c,k,h,hk=>by
  rw [Tm.sc] at h;rw [Tm.wt] at hk;rw [Tm.shift,Tm.ren];by_cases ho:op=1
  ·subst ho;have h2:=h.2.1;rw [if_pos rfl] at h2;have hks:ks=[]:=Aja (Ajn h.1.symm);subst hks;have hv:¬ (n<0\/([]:List Tm).isEmpty=false):=by
    rintro (h | h)
    ·omega
    ·cases h
   rw [if_pos rfl,if_neg hv,vT,Tm.shiftL];by_cases hc:(c:Int)<=n
   ·rw [if_pos ⟨rfl,hc⟩,Ax (by omega) (by omega),if_neg (by omega)];congr 1;omega
   ·rw [if_neg (fun h=>hc h.2),if_pos (by omega)];congr 1;omega
  ·rw [if_neg ho,if_neg (fun h=>ho h.1),shiftL_ren ks op 0 d c k h.2.2 (by omega)]
theorem shiftL_ren:∀(l:List Tm) (op:Int) (i d c k:Nat),Tm.scL op i l k->k+2+2 * Tm.wtL l+d<=9000000000000000000->Tm.shiftL op i l d c=Tm.renL op i l (fun i=>if i<c then i else i+d)
 | [],_,_,_,_,_,_,_=>rfl
 | t::l,op,i,d,c,k,h,hk=>by
  rw [Tm.scL] at h;simp only [Tm.wtL] at hk;have hb:=AW op i;simp only [Tm.shiftL,Tm.renL];have h1:=Ck t d (c+Ak op i) (k+Ak op i) h.1 (by omega);rw [show ((c+Ak op i:Nat):Int)=(c:Int)+(Ak op i:Int) by omega] at h1
  rw [h1,shiftL_ren l op (i+1) d c k h.2 (by omega)];congr 2
  funext j
  by_cases h1:j<Ak op i
  ·rw [KS h1,if_pos (by omega)]
  ·rw [Ko h1];by_cases h2:j<c+Ak op i
   ·rw [if_pos h2,if_pos (by omega)];omega
   ·rw [if_neg h2,if_neg (by omega)];omega
end
def YN (j:Nat) (u:Tm):Nat->Tm:=fun i=>if i<j then vT i else if i=j then u.ren (fun x=>x+j) else vT (i - 1)
mutual
theorem KP:∀(t:Tm) (j k:Nat) (u:Tm),t.sc (k+1+j)->u.sc k->k+j+2 * t.wt+2 * u.wt<=4000000000000000000->t.subst j j u=t.sub (YN j u)
 | .mk op n ks,j,k,u,h,hu,hk=>by
  rw [Tm.sc] at h;rw [Tm.wt] at hk;rw [Tm.subst,Tm.sub];by_cases ho:op=1
  ·subst ho;have h2:=h.2.1;rw [if_pos rfl] at h2;have hks:ks=[]:=Aja (Ajn h.1.symm);subst hks;have hv:¬ (n<0\/([]:List Tm).isEmpty=false):=by
    rintro (h | h)
    ·omega
    ·cases h
   rw [if_pos rfl,if_pos rfl,if_neg hv,YN];by_cases h3:n=j
   ·rw [if_pos h3,if_neg (by omega),if_pos (by omega)]
    have:=Ck u j 0 k hu (by omega)
    rw [show ((0:Nat):Int)=0 from rfl] at this
    rw [this];congr 1
   ·rw [if_neg h3];by_cases h4:(j:Int)<n
    ·rw [if_pos h4,if_neg (by omega),if_neg (by omega),vT,Ax (by omega) (by omega)];congr 1;omega
    ·rw [if_neg h4,if_pos (by omega),vT];congr 1;omega
  ·rw [if_neg ho,if_neg ho,substL_sub ks op 0 j k u h.2.2 hu (by omega)]
theorem substL_sub:∀(l:List Tm) (op:Int) (i j k:Nat) (u:Tm),Tm.scL op i l (k+1+j)->u.sc k->k+j+2+2 * Tm.wtL l+2 * u.wt<=4000000000000000000->Tm.substL op i l j j u=Tm.subL op i l (YN j u)
 | [],_,_,_,_,_,_,_,_=>rfl
 | t::l,op,i,j,k,u,h,hu,hk=>by
  rw [Tm.scL] at h;simp only [Tm.wtL] at hk;have hb:=AW op i;simp only [Tm.substL,Tm.subL];have h1:=KP t (j+Ak op i) k u (by rw [<- Nat.add_assoc];exact h.1) hu (by omega);rw [show ((j+Ak op i:Nat):Int)=(j:Int)+(Ak op i:Int) by omega] at h1
  rw [h1,substL_sub l op (i+1) j k u h.2 hu (by omega)];congr 2
  funext x
  by_cases h1:x<Ak op i
  ·rw [MB h1,YN,if_pos (by omega)]
  ·rw [Mb h1];simp only [YN];by_cases h2:x<j+Ak op i
   ·rw [if_pos h2,if_pos (show x - Ak op i<j by omega),N8]
    congr 1;omega
   ·rw [if_neg h2,if_neg (show ¬ x - Ak op i<j by omega)]
    by_cases h3:x=j+Ak op i
    ·rw [if_pos h3,if_pos (show x - Ak op i=j by omega),FQ]
     congr 1
     funext y
     omega
    ·rw [if_neg h3,if_neg (show ¬ x - Ak op i=j by omega),N8]
     congr 1;omega
end
def s1 (x:Tm):Nat->Tm
 | 0=>x
 | j+1=>vT j
def s2 (r k:Tm):Nat->Tm
 | 0=>r
 | 1=>k
 | j+2=>vT j
inductive Par:Tm->Tm->Prop
 | var (n:Int) (ks:List Tm):Par (.mk 1 n ks) (.mk 1 n ks)
 | node (op n:Int) (ks ks':List Tm) (h1:op≠1) (hl:ks'.length=ks.length) (hk:∀(i:Nat) a b,ks[i]?=some a->ks'[i]?=some b->Par a b):Par (.mk op n ks) (.mk op n ks')
 | beta (n m:Int) (a b b' x x':Tm) (hb:Par b b') (hx:Par x x'):Par (.mk 5 n [.mk 4 m [a,b],x]) (b'.sub (s1 x'))
 | fst (n m:Int) (a x x' y:Tm) (hx:Par x x'):Par (.mk 8 n [.mk 7 m [a,x,y]]) x'
 | snd (n m:Int) (a x y y':Tm) (hy:Par y y'):Par (.mk 9 n [.mk 7 m [a,x,y]]) y'
 | splq (c c':Tm) (hc:Par c c'):Par (.mk 30 0 [.mk 19 0 [c]]) c'
 | quos (c c':Tm) (hc:Par c c'):Par (.mk 19 0 [.mk 30 0 [c]]) c'
 | recz (n m:Int) (a z z' s:Tm) (l:List Tm) (hz:Par z z'):Par (.mk 13 n [a,z,s,.mk 11 m l]) z'
 | recs (n m:Int) (a a' z z' s s' k k':Tm) (ha:Par a a') (hz:Par z z') (hs:Par s s') (hk:Par k k'):Par (.mk 13 n [a,z,s,.mk 12 m [k]]) (s'.sub (s2 (.mk 13 0 [a',z',s',k']) k'))
inductive Pars:Tm->Tm->Prop
 | refl (t:Tm):Pars t t
 | step {a b c:Tm} (h:Par a b) (hs:Pars b c):Pars a c
mutual
def Tm.wa:Tm->Prop
 | .mk op n ks=>ar op=some ks.length/\((op=1->0<=n)/\(op=19\/op=30->n=0))/\Tm.waL ks
def Tm.waL:List Tm->Prop
 | []=>True
 | t::l=>t.wa/\Tm.waL l
end
inductive Un:Nat->RV->Tm->Prop
 | var (u:Nat) (n:Int) (h:n<u):Un u (.var n) (.mk 1 ((u:Int) - 1 - n) [])
 | node (u:Nat) (op n:Int) (k:List RV) (ts:List Tm) (T:Nat->Nat->Tm) (h1:op≠1) (h9:op=19\/op=30->n=0) (har:ar op=some ts.length) (hl:k.length=ts.length)
   (hk:∀(i:Nat) v t,Ak op i=0->k[i]?=some v->ts[i]?=some t->Un u v t)
   (hc:∀(i:Nat) (v:RV) t,0<Ak op i->k[i]?=some v->ts[i]?=some t->t=v.b.sub (qB (Ak op i) (T i))/\v.b.wa)
   (hf:∀(i:Nat) (v:RV) (j:Nat),0<Ak op i->k[i]?=some v->v.env.length<=j->T i j=vT (u+(j - v.env.length)))
   (he:∀(i:Nat) (v:RV) (j:Nat) x,0<Ak op i->k[i]?=some v->v.env.reverse[j]?=some x->Un u x (T i j)):Un u (.node op n k) (.mk op n ts)
inductive PT:Tm->Prop
 | int:PT (.mk 15 0 [])
 | bin (op:Int) (a b:Tm) (ho:op=16\/op=17) (ha:PT a) (hb:PT b):PT (.mk op 0 [a,b])
def Dh:Tm:=.mk 15 0 []
inductive OT (m:Nat):List Tm->Tm->Tm->Prop
 | var (g:List Tm) (i:Nat) (P:Tm) (hP:PT P) (hw:P.wt<=m) (hi:i<g.length) (h:g[g.length - 1 - i]?=some P):OT m g (.mk 1 (i:Int) []) P
 | oint (g:List Tm) (n:Int) (hm:1<=m):OT m g (.mk 25 n []) Dh
 | oprim (g:List Tm) (n:Int) (a b:Tm) (ha:OT m g a Dh) (hb:OT m g b Dh):OT m g (.mk 26 n [a,b]) Dh
 | olam (g:List Tm) (a b c:Tm) (ha:PT a) (hw:(Tm.mk 16 0 [a,c]).wt<=m) (hb:OT m (g++[a]) b c):OT m g (.mk 20 0 [a,b]) (.mk 16 0 [a,c])
 | oapp (g:List Tm) (f x a c:Tm) (hf:OT m g f (.mk 16 0 [a,c])) (hx:OT m g x a):OT m g (.mk 21 0 [f,x]) c
 | opair (g:List Tm) (x y a b:Tm) (hw:(Tm.mk 17 0 [a,b]).wt<=m) (hx:OT m g x a) (hy:OT m g y b):OT m g (.mk 22 0 [x,y]) (.mk 17 0 [a,b])
 | ofst (g:List Tm) (x a b:Tm) (hx:OT m g x (.mk 17 0 [a,b])):OT m g (.mk 23 0 [x]) a
 | oif (g:List Tm) (c x y a:Tm) (hc:OT m g c Dh) (hx:OT m g x a) (hy:OT m g y a):OT m g (.mk 27 0 [c,x,y]) a
 | olet (g:List Tm) (x y a b:Tm) (hx:OT m g x a) (hy:OT m (g++[a]) y b):OT m g (.mk 28 0 [x,y]) b
 | ofix (g:List Tm) (a x:Tm) (ha:PT a) (hw:a.wt<=m) (hx:OT m (g++[a]) x a):OT m g (.mk 29 0 [a,x]) a
def mw (P:Tm):Nat:=max P.wt 3+7
def natT:Tm:=.mk 10 0 []
def tyT:Tm:=.mk 14 0 []
def opO (X:Tm):Prop:=X.op=2\/X.op=3\/X.op=6
def Sem (g:List Tm) (A t:Tm):Prop:=(Pars A natT/\∃k,Pars t (GF k))\/(Pars A tyT/\∃P,PT P/\Pars t P)\/(∃P c,PT P/\Pars A (.mk 18 0 [P])/\Pars t (.mk 19 0 [c])/\OT (mw P) g c P)\/∃X,Pars A X/\opO X
def Bw:Nat:=2000000000000000
structure EnvK (g:AR) (G:List Nat) (D:List Tm) (σ:Nat->Tm):Prop where
 v1:∀i T,i<g.length->g[g.length - 1 - i]?=some (1,T)->T.sc (g.length - 1 - i)/\T.wt<=Bw/\(∃s,HasT G (T.ren fun x=>x+(i+1)) (10+s))/\Sem D (T.sub fun x=>σ (x+(i+1))) (σ i)
 v0:∀i T,i<g.length->g[g.length - 1 - i]?=some (0,T)->T.sc (g.length - 1 - i)/\T.wt<=Bw/\HasT G (T.ren fun x=>x+(i+1)) 1/\∃P j,PT P/\Pars (T.sub fun x=>σ (x+(i+1))) P/\σ i=vT j/\j<D.length/\D[D.length - 1 - j]?=some P
def FG {t:Tm} {k:Nat} (hst:t.stl) (hsc:t.sc k) (hk:k<=700000) (hw:t.wt<=100) {f:Nat} {u:Tm} {e:Int} (h:AF f t=some (u,e)):u=t:=by
 obtain ⟨f',h'⟩:=FX hst hsc hk (by omega) (by have:=DG t;omega)
 have:=Cy h h'
 simp only [Ai0] at this;exact this.1
def D3 (op n:Int):(Tm.mk op n []).stl:=by rw [Tm.stl,Tm.stlL];exact ⟨⟨⟨fun _ k h=>by simp at h,fun _ k h=>by simp at h,fun _ k h=>by simp at h⟩,fun _ k h=>by simp at h,fun _ k h=>by simp at h⟩,trivial⟩
def y6 {op n:Int} {x:Tm} (h:op≠30/\op≠19/\op≠13/\op≠5/\op≠8/\op≠9) (hx:x.stl):(Tm.mk op n [x]).stl:=by rw [Tm.stl,Tm.stlL,Tm.stlL];exact ⟨⟨⟨by omega,by omega,by omega⟩,by omega,by omega⟩,hx,trivial⟩
def jO {op n:Int} {x y:Tm} (h:op≠30/\op≠19/\op≠13/\op≠5/\op≠8/\op≠9) (hx:x.stl) (hy:y.stl):(Tm.mk op n [x,y]).stl:=by rw [Tm.stl,Tm.stlL,Tm.stlL,Tm.stlL];exact ⟨⟨⟨by omega,by omega,by omega⟩,by omega,by omega⟩,hx,hy,trivial⟩
def P0 (p:Tm):Prop:=p=.mk 15 0 []\/∃op:Int,(op=16\/op=17)/\p=.mk op 0 [.mk 15 0 [],.mk 15 0 []]
def Gx (r:Tm):P0 (r.plainT 1):=by
 have h1:=Int.emod_nonneg r.n (show (4:Int)≠0 by decide)
 have h2:=Int.emod_lt_of_pos r.n (show (0:Int)<4 by decide)
 rw [Tm.plainT];split
 ·exact .inl rfl
 ·exact .inr ⟨_,by omega,rfl⟩
def F0 (t:Tm):Prop:=t=.mk 10 0 []\/t=.mk 14 0 []\/t=.mk 2 0 []\/∃p,P0 p/\t=.mk 18 0 [p]
def NQ {p:Tm} (h:P0 p):p.wt<=3:=by rcases h with rfl | ⟨op,_,rfl⟩<;>simp [Tm.wt,Tm.wtL]
def LX {p:Tm} (h:F0 p):p.wt<=4:=by
 rcases h with rfl | rfl | rfl | ⟨q,h,rfl⟩
 ·simp [Tm.wt,Tm.wtL]
 ·simp [Tm.wt,Tm.wtL]
 ·simp [Tm.wt,Tm.wtL]
 ·have:=NQ h
  rw [LF];omega
def IC {p:Tm} (h:P0 p):p.stl:=by
 rcases h with rfl | ⟨op,ho,rfl⟩
 ·exact D3 _ _
 ·exact jO (by omega) (D3 _ _) (D3 _ _)
def O3 {p:Tm} (h:F0 p):p.stl:=by
 rcases h with rfl | rfl | rfl | ⟨q,h,rfl⟩
 ·exact D3 _ _
 ·exact D3 _ _
 ·exact D3 _ _
 ·exact y6 (by decide) (IC h)
def pB (k:Nat):(Tm.mk 15 0 []).sc k:=Da
def G3 {p:Tm} (h:P0 p) (k:Nat):p.sc k:=by
 rcases h with rfl | ⟨op,ho,rfl⟩
 ·exact pB k
 ·rcases ho with rfl | rfl<;>exact Db (pB _) (pB _)
def Xt {p:Tm} (h:F0 p) (k:Nat):p.sc k:=by
 rcases h with rfl | rfl | rfl | ⟨q,h,rfl⟩
 ·exact Da
 ·exact Da
 ·exact IT (by decide) (by decide) (by rw [BX,if_pos rfl];omega)
 ·exact FZ (G3 h _)
def Z5 {p:Tm} (h:F0 p) (u:Tm):p.subst 0 0 u=p:=by
 rcases h with rfl | rfl | rfl | ⟨q,h | ⟨op,ho,h⟩,rfl⟩
 ·simp [Tm.subst,Tm.substL]
 ·simp [Tm.subst,Tm.substL]
 ·simp [Tm.subst,Tm.substL]
 ·subst h;simp [Tm.subst,Tm.substL]
 ·subst h;rcases ho with rfl | rfl<;>simp [Tm.subst,Tm.substL]
theorem Td {e:Nat} {g:AR} {a t:Tm} (he:e<6) (h:Gr 3 e g a t) (ho:a.op=10\/a.op=14\/a.op=2):t.wt<=4/\(a.op=14->t.wt<=1):=by
 cases h with
 | num _ _ _ j ha hj=>rw [QO];omega
 | ult _ _ _ ha=>simp [Tm.wt,Tm.wtL];omega
 | lam _ _ n d c x=>simp [Tm.op] at ho
 | pair _ _ n d c x y=>simp [Tm.op] at ho
 | quo _ _ n d x=>simp [Tm.op] at ho
 | _=>first | omega | simp [Tm.wt,Tm.wtL]
theorem TD {e:Nat} {g:AR} {a t:Tm} (he:e<6) (h:Gr 4 e g a t) (ho:a.op=15\/a.op=1):t.wt<=1:=by
 cases h with
 | olam _ _ n d c x=>simp [Tm.op] at ho
 | opair _ _ n d c x y=>simp [Tm.op] at ho
 | _=>first | omega | simp [Tm.wt,Tm.wtL]
theorem PA {e:Nat} {g:AR} {t:Tm} (he:e<6) (h:Gr 2 e g (.mk 15 0 []) t):t.wt<=1:=by
 cases h with
 | objc _ _ _ a _ f hn hg ha h1 =>
  have:=FG (D3 _ _) (pB 0) (by omega) (by simp [Tm.wt,Tm.wtL]) hn
  subst this;exact TD he h1 (.inl rfl)
def rW {e:Nat} {g:AR} {a t:Tm} (he:e<6) (h:Gr 4 e g a t) (ho:P0 a):t.wt<=3:=by
 rcases ho with rfl | ⟨op,ho,rfl⟩
 ·have:=TD he h (.inl rfl);omega
 ·have e15:(Tm.mk 15 0 []).shift 1 0=.mk 15 0 []:=by simp [Tm.shift,Tm.shiftL]
  cases h with
  | olam _ _ n d c x h1 =>
   rw [e15] at h1
   have:=PA (by omega) h1
   rw [Ee];simp only [Tm.wt,Tm.wtL] at this ⊢;omega
  | opair _ _ n d c x y h1 h2 =>have q1:=PA (by omega) h1;have q2:=PA (by omega) h2;rw [Ee];omega
  | _=>first | omega | (simp [Tm.wt,Tm.wtL];done) | (rename_i hh;simp [Tm.op] at hh;omega)
theorem Nf {e:Nat} {g:AR} {a t:Tm} (he:e<6) (ha:F0 a) (h:Gr 1 e g a t):t.wt<=4/\(a.op=14->t.wt<=1):=by
 cases h with
 | grow _ _ _ a' _ f hn hg hna h1 =>
  have:=FG (O3 ha) (Xt ha 0) (by omega) (by have:=LX ha;omega) hn
  subst this;rcases ha with rfl | rfl | rfl | ⟨p,hp,rfl⟩
  ·exact Td he h1 (.inl rfl)
  ·exact Td he h1 (.inr (.inl rfl))
  ·exact Td he h1 (.inr (.inr rfl))
  ·refine ⟨?_,by simp [Tm.op]⟩;cases h1 with
   | quo _ _ n d x h2 =>
    cases h2 with
    | objc _ _ _ a2 _ f2 hn2 _ _ h3 =>
     have:=FG (IC hp) (G3 hp 0) (by omega) (by have:=NQ hp;omega) hn2
     subst this
     have:=rW (by omega) h3 hp
     rw [LF];omega
   | _=>first | omega | (simp [Tm.wt,Tm.wtL];done) | (rename_i hh;simp [Tm.op] at hh)
def F1 (t:Tm):Prop:=F0 t\/(∃(op:Int) (d c:Tm),(op=3\/op=6)/\F0 d/\F0 c/\t=.mk op 0 [d,c])\/∃p:Tm,(p=.mk 15 0 []\/∃i:Nat,p=.mk 1 i [])/\t=.mk 18 0 [p]
def FF {t:Tm} (h:F1 t):t.wt<=9:=by
 rcases h with h | ⟨op,d,c,_,hd,hc,rfl⟩ | ⟨p,hp,rfl⟩
 ·have:=LX h;omega
 ·have:=LX hd;have:=LX hc;rw [Ee];omega
 ·rcases hp with rfl | ⟨i,rfl⟩<;>simp [Tm.wt,Tm.wtL]
def D8 {t:Tm} (h:F1 t):t.stl:=by
 rcases h with h | ⟨op,d,c,ho,hd,hc,rfl⟩ | ⟨p,hp,rfl⟩
 ·exact O3 h
 ·exact jO (by omega) (O3 hd) (O3 hc)
 ·refine y6 (by decide) ?_;rcases hp with rfl | ⟨i,rfl⟩<;>exact D3 _ _
theorem Abb {e:Nat} {g:AR} {a t:Tm} (he:e<6) (ha:F1 a) (hsc:a.sc g.length) (hg:g.length<=1000) (h:Gr 1 e g a t):t.wt<=20:=by
 rcases ha with ha | hab
 ·have:=Nf he ha h;omega
 cases h with
 | grow _ _ _ a' _ f hn hgl hna h1 =>
  have:=FG (D8 (.inr hab)) hsc (by omega) (by have:=FF (.inr hab);omega) hn
  subst this;rcases hab with ⟨op,d,c,ho,hd,hc,rfl⟩ | ⟨p,hp,rfl⟩
  ·have hdw:=LX hd;have hcw:=LX hc;rcases ho with rfl | rfl
   ·cases h1 with
    | lam _ _ n _ _ x h2 =>
     have:=(Nf (by omega) hc h2).1
     rw [Ee];omega
    | _=>first | omega | (simp [Tm.wt,Tm.wtL];done) | (rename_i hh;simp [Tm.op] at hh)
   ·cases h1 with
    | pair _ _ n _ _ x y hx h2 h3 =>have q1:=(Nf (by omega) hd h2).1;rw [Z5 hc] at h3;have q2:=(Nf (by omega) hc h3).1;rw [qT,Ee];omega
    | _=>first | omega | (simp [Tm.wt,Tm.wtL];done) | (rename_i hh;simp [Tm.op] at hh)
  ·cases h1 with
   | quo _ _ n _ x h2 =>
    have hps:p.sc g.length:=by rw [Tm.sc] at hsc;exact hsc.2.2.1
    cases h2 with
    | objc _ _ _ a2 _ f2 hn2 _ _ h3 =>
     have:=FG (by rcases hp with rfl | ⟨i,rfl⟩<;>exact D3 _ _) hps (by omega) (by rcases hp with rfl | ⟨i,rfl⟩<;>simp [Tm.wt,Tm.wtL]) hn2
     subst this
     have:=TD (by omega) h3 (by rcases hp with rfl | ⟨i,rfl⟩<;>simp [Tm.op])
     rw [LF];omega
   | _=>first | omega | (simp [Tm.wt,Tm.wtL];done) | (rename_i hh;simp [Tm.op] at hh)
theorem t_5 {e:Nat} {g:AR} {a t:Tm} (he:e<6) (h:Gr 0 e g a t):F0 t:=by
 cases h with
 | tnat=>exact .inl rfl
 | tty=>exact .inr (.inl rfl)
 | tu=>exact .inr (.inr (.inl rfl))
 | tlp _ _ _ r=>exact .inr (.inr (.inr ⟨_,Gx r,rfl⟩))
 | _=>omega
theorem xQ {e:Nat} {g:AR} {t:Tm} (he:e<6) (h:Gr 1 e g (.mk 14 0 []) t):t=.mk 15 0 []\/∃i:Nat,t=.mk 1 i []:=by
 cases h with
 | grow _ _ _ a' _ f hn hg hna h1 =>
  have:=FG (D3 _ _) (Xt (.inr (.inl rfl)) 0) (by omega) (by simp [Tm.wt,Tm.wtL]) hn
  subst this;cases h1 with
  | var1 _ _ _ i=>exact .inr ⟨i,rfl⟩
  | tint=>exact .inl rfl
  | uni _ _ _ _ ha _=>simp [Tm.op] at ha
  | _=>first | omega | (rename_i hh;simp [Tm.op] at hh)
theorem rU {g:AR} {a t:Tm} (h:Gr 0 6 g a t):F1 t:=by
 cases h with
 | tnat=>exact .inl (.inl rfl)
 | tty=>exact .inl (.inr (.inl rfl))
 | tu=>exact .inl (.inr (.inr (.inl rfl)))
 | tlp _ _ _ r=>exact .inl (.inr (.inr (.inr ⟨_,Gx r,rfl⟩)))
 | tpi _ _ _ x y op ho h6 hgl hx h1 h2=>exact .inr (.inl ⟨op,x,y,ho,t_5 (by omega) h1,t_5 (by omega) h2,rfl⟩)
 | tlift _ _ _ t h6 h1=>exact .inr (.inr ⟨t,xQ (by omega) h1,rfl⟩)
theorem Acv {e:Nat} {g:AR} {t:Tm} (he:e<8) (h:Gr 1 e g (.mk 14 0 []) t):t.wt<=60\/∃op x y,t=.mk op 0 [x,y]/\Gr 1 (e - 1) g (.mk 14 0 []) x/\Gr 1 (e - 1) g (.mk 14 0 []) y:=by
 have f14:F0 (.mk 14 0 []):=.inr (.inl rfl);cases h with
 | grow _ _ _ a' _ f hn hg hna h1 =>
  have:=FG (D3 _ _) (Xt f14 0) (by omega) (by simp [Tm.wt,Tm.wtL]) hn
  subst this;have e1:(Tm.mk 14 0 []).shift 1 0=.mk 14 0 []:=by simp [Tm.shift,Tm.shiftL]
  have e2:(Tm.mk 14 0 []).shift 2 0=.mk 14 0 []:=by simp [Tm.shift,Tm.shiftL]
  cases h1 with
  | fst _ _ _ b c x h6 hb q1 q2 q3 =>have hf:=rU q1;have w1:=FF hf;have w2:=Abb (by omega) hf hb.sc (by omega) q2;have w3:=(Nf (by omega) f14 q3).1;refine .inl ?_;rw [LF,qT,Ee,AH];simp only [Tm.wt,Tm.wtL];omega
  | app _ _ _ b c x h6 hb q1 q2 q3 =>have hf:=rU q1;have w1:=FF hf;have w2:=Abb (by omega) hf hb.sc (by omega) q2;rw [e1] at q3;have w3:=(Nf (by omega) f14 q3).1;refine .inl ?_;rw [Ee,Ee];omega
  | recc _ _ _ n z s h6 ha q1 q2 q3 =>have w1:=(Nf (by omega) (.inl rfl) q1).1;have w2:=(Nf (by omega) f14 q2).1;rw [e2] at q3;have w3:=(Nf (by omega) f14 q3).1;refine .inl ?_;rw [wt4,AH];simp only [Tm.wt,Tm.wtL];omega
  | tfun _ _ _ x y op ho h6 ha q1 q2=>exact .inr ⟨op,x,y,rfl,q1,q2⟩
  | suc _ _ _ n h6 ha q1=>simp [Tm.op] at ha
  | upi _ _ _ x y op ho h6 ha=>simp [Tm.op] at ha
  | _=>first | (left;simp [Tm.wt,Tm.wtL];done) | (rename_i hh;simp [Tm.op] at hh;done) | (rename_i hh _;simp [Tm.op] at hh;done)
def s_6 {g:AR} {t:Tm} (h:Gr 1 6 g (.mk 14 0 []) t):t.wt<=60:=by
 rcases Acv (by omega) h with h | ⟨op,x,y,rfl,h1,h2⟩
 ·exact h
 ·have w1:=(Nf (by omega) (.inr (.inl rfl)) h1).1;have w2:=(Nf (by omega) (.inr (.inl rfl)) h2).1;rw [Ee];omega
def s_7 {g:AR} {t:Tm} (h:Gr 1 7 g (.mk 14 0 []) t):t.wt<=130/\t.dp<=100:=by
 rcases Acv (by omega) h with h | ⟨op,x,y,rfl,h1,h2⟩
 ·exact ⟨by omega,by have:=DG t;omega⟩
 ·have w1:=s_6 h1;have w2:=s_6 h2
  have:=DG x
  have:=DG y
  rw [Ee,Ns];omega
theorem t_7 {g:AR} {t:Tm} (h:Gr 0 7 g .z t):t.wt<=100:=by
 cases h with
 | tnat=>simp [Tm.wt,Tm.wtL]
 | tty=>simp [Tm.wt,Tm.wtL]
 | tu=>simp [Tm.wt,Tm.wtL]
 | tlp _ _ _ r=>have:=NQ (Gx r);rw [LF];omega
 | tpi _ _ _ x y op ho h6 hgl hx h1 h2 =>
  have:=FF (rU h1)
  have:=FF (rU h2)
  rw [Ee];omega
 | tlift _ _ _ t h6 h1 =>
  have:=s_6 h1
  rw [LF];omega
def gb1 (a:FV):Nt 400 [.ext 0] 0 [.row [.fv a] false]=true:=Qv [a]
def ob1 (a:FV):Yl 1 [.row [.fv a] false]=true:=Po [a]
def pY (a a':FV):OneX [.row [.fv a] false] [.row [.fv a'] false]:=⟨gb1 ..,rfl,rfl,ob1 ..⟩
def u5 {ks:List Bool} (hks:∀b∈ks,b=false) {ih:Ah} {f:FuncId} {a0:IV} {x0:FV} {args:List IV} {vs:List FV} {w:FV} {ext ext':List Blk} (h0:Bd a0=some x0) (hz:Bu args=some vs) (X:OneX ext ext') (hr:Bz (ih f (.fv x0 :: .ptr (.ext 0) 0::vs.map .fv) ⟨[],ext⟩) w ext')
  (own:List (Nat×Blk)) (k:KT (IV×Hp)):A5 (false::true::ks) false false ih f (a0 :: .ptr (.ext 0) 0::args) ⟨own,ext⟩ k=k (.fv w) ⟨own,ext'⟩ [.ext 0] [.ext 0]:=by
 rw [Jb,Qh,GZ _ _ _ _ h0,T9,Pj,L2 0 args _ _ _ _ ks hks hz]
 have:=Pn (r1:=.ext 0) (rs1:=[]) hr X.g (by rw [X.l,X.l']) (by rw [X.l];exact X.o) own (ih f (.fv x0 :: .ptr (.ext 0) 0::vs.map .fv) ⟨[],[]⟩) [] [] (Ea (false::true::ks) false false ih f (a0 :: .ptr (.ext 0) 0::args) ⟨own,ext⟩ k) k
 refine this.trans ?_;rw [X.l];rfl
def VN {ih:Ah} {f:FuncId} {a b:IV} {x y w:FV} {ext ext':List Blk} (hr:Bz (ih f [.fv x,.ptr (.ext 0) 0,.fv y] ⟨[],ext⟩) w ext') (X:OneX ext ext') (ha:Bd a=some x) (hb:Bd b=some y) (own:List (Nat×Blk))
  (k:KT (IV×Hp)):A5 [false,true,false] false false ih f [a,.ptr (.ext 0) 0,b] ⟨own,ext⟩ k=k (.fv w) ⟨own,ext'⟩ [.ext 0] [.ext 0]:=u5 (ks:=[false]) (by simp) ha (T8 hb) X hr own k
def vZ {ks:List Bool} (hks:∀b∈ks,b=false) {ih:Ah} {f:FuncId} {a0:IV} {x0:FV} {args:List IV} {vs:List FV} {w:FV} {s:Nat} {st st':List FV} {own:List (Nat×Blk)} (h0:Bd a0=some x0) (hz:Bu args=some vs) (hl:Ap s own=some (.row (st.map .fv) false))
  (hr:Bz (ih f (.fv x0 :: .ptr (.ext 0) 0::vs.map .fv) ⟨[],[.row (st.map .fv) false]⟩) w [.row (st'.map .fv) false]) (k:KT (IV×Hp)) :
  A5 (false::true::ks) false false ih f (a0 :: .ptr (.own s) 0::args) ⟨own,[]⟩ k=k (.fv w) ⟨AO s (.row (st'.map .fv) false) own,[]⟩ [.own s] [.own s]:=by
 obtain ⟨v,own',e1,hfz⟩:=hr;obtain ⟨u,hu⟩:=Jw hfz;have hD:Ea (false::true::ks) false false ih f (a0 :: .ptr (.own s) 0::args) ⟨own,[]⟩ k=k (.fv w) ⟨AO s (.row (st'.map .fv) false) own,[]⟩ [.own s] [.own s]:=by
  have h1:By (false::true::ks) (a0 :: .ptr (.own s) 0::args)=.ret (.fv x0 :: .ptr (.own s) 0::vs.map .fv,[.own s],[]):=by simp only [By,frp 4096 (by omega) h0,Ic args ks hks hz,Rd.bind,IV.refs];rfl
  have h2:(B4 4096 [.own s] []).runLog ⟨own,[]⟩ []=some ([(.own s,.row (st.map .fv) false)],[.own s]):=by
   show (B4 (4094+1+1) [.own s] []).runLog ⟨own,[]⟩ []=_
   simp only [B4,hasRef,Ajx,if_false,Rd.runLog,Hp.get,hl,Blk.refs,MQ,Ajm,Ajo]
  have h3:IV.ren.renL (D6 [(.own s,.row (st.map .fv) false)]) (.fv x0 :: .ptr (.own s) 0::vs.map .fv)=some (.fv x0 :: .ptr (.ext 0) 0::vs.map .fv):=by simp only [IV.ren.renL,IV.ren,D6,Cs,if_true,Ai2,Ajt,DS]
  have h4:Bg (D6 [(.own s,.row (st.map .fv) false)]) [.row (st.map .fv) false]=some [.row (st.map .fv) false]:=by simp only [Bg,Blk.ren,DS,Ai2,Ajt]
  have h5:Bg (CF [(.own s,.row (st.map .fv) false)]) [.row (st'.map .fv) false]=some [.row (st'.map .fv) false]:=by simp only [Bg,Blk.ren,DS,Ai2,Ajt]
  unfold Ea;simp only [h1,Rd.runLog,h2,h3,Ai5,Ai4,h4,CX (Cj 3),CX Cz,Ei,Ajx,if_false,e1,hu,Ai2,IV.ren,h5,Ai3,Ajh,BB,List.all_nil,and_self,if_true,Ajo,List.zip_cons_cons,List.zip_nil_left];have h6:laid ⟨own,[]⟩ [(.own s,.row (st'.map .fv) false)]=some ⟨AO s (.row (st'.map .fv) false) own,[]⟩:=by simp only [laid,Hp.get,hl,Hp.set]
  simp only [h6,In,Cj]
 rw [Jb,Qh,GZ _ _ _ _ h0,T9,Pj,L2 0 args _ _ _ _ ks hks hz];simp only [Pl,Pk,cond_false];exact hD
def lK {ih:Ah} {f:FuncId} {x y:IV} {vx vy w:FV} {s:Nat} {a a':FV} {own own':List (Nat×Blk)} (hr:Bz (ih f [.fv vx,.ptr (.ext 0) 0,.fv vy] ⟨[],[.row [.fv a] false]⟩) w [.row [.fv a'] false])
  (hx:Bd x=some vx) (hy:Bd y=some vy) (hl:Ap s own=some (.row [.fv a] false)) (ho:AO s (.row [.fv a'] false) own=own') (k:KT (IV×Hp)) :
  A5 [false,true,false] false false ih f [x,.ptr (.own s) 0,y] ⟨own,[]⟩ k=k (.fv w) ⟨own',[]⟩ [.own s] [.own s]:=by
 subst ho;exact vZ (ks:=[false]) (by simp) (st:=[a]) (st':=[a']) hx (T8 hy) hl hr k
def EQ (op:Int):Int:=if op<0 then -1 else ([-1,0,0,2,2,2,2,3,1,1,0,0,1,4,0,0,2,2,1,1,2,2,2,1,1,0,2,3,2,2,1]:List Int).getD op.toNat (-1)
def LW (op:Int):(0<=op/\op<=30)\/op<0\/30<op:=by omega
def Kw {op:Int} (h:op<0\/30<op):EQ op=-1:=by
 unfold EQ;split
 ·rfl
 ·rw [Ajf,List.getElem?_eq_none (by simp;omega)];rfl
def eR {P:Int->Prop} (h:∀k:Nat,k<31->P k) {op:Int} (h1:0<=op/\op<=30):P op:=by
 have:=h op.toNat (by omega)
 rwa [Int.toNat_of_nonneg h1.1] at this
def aH {n:Nat} (hn:0<n) (op:Int):BE (SS dt n 45 [iv op] ⟨[],[]⟩) (.int .i64 (EQ op)):=by
 obtain ⟨n,rfl⟩:=psc n (by omega);rw [c45];rcases LW op with h | h
 ·revert op
  refine fun op h=>eR (P:=fun op=>BE (zN (SS dt n) n (iv op) ⟨[],[]⟩) (.int .i64 (EQ op))) ?_ h;intro k hk;rcases k with _ | k
  ·simp only [PR,zN,↓XX,XY,↓reduceIte,seval];exact Aw _ _
  iterate 30 (rcases k with _ | k;· simp only [PR,zN,↓XX,XY,↓reduceIte,seval];exact Aw _ _)
  omega
 ·rw [Kw h];have q1:op≠1:=by omega
  have q2:op≠2:=by omega
  have q3:op≠3:=by omega
  have q4:op≠4:=by omega
  have q5:op≠5:=by omega
  have q6:op≠6:=by omega
  have q7:op≠7:=by omega
  have q8:op≠8:=by omega
  have q9:op≠9:=by omega
  have q10:op≠10:=by omega
  have q11:op≠11:=by omega
  have q12:op≠12:=by omega
  have q13:op≠13:=by omega
  have q14:op≠14:=by omega
  have q15:op≠15:=by omega
  have q16:op≠16:=by omega
  have q17:op≠17:=by omega
  have q18:op≠18:=by omega
  have q19:op≠19:=by omega
  have q20:op≠20:=by omega
  have q21:op≠21:=by omega
  have q22:op≠22:=by omega
  have q23:op≠23:=by omega
  have q24:op≠24:=by omega
  have q25:op≠25:=by omega
  have q26:op≠26:=by omega
  have q27:op≠27:=by omega
  have q28:op≠28:=by omega
  have q29:op≠29:=by omega
  have q30:op≠30:=by omega
  simp only [PR,zN,↓XX,XY,↓reduceIte,seval,q1,q2,q3,q4,q5,q6,q7,q8,q9,q10,q11,q12,q13,q14,q15,q16,q17,q18,q19,q20,q21,q22,q23,q24,q25,q26,q27,q28,q29,q30];exact Aw _ _
def Mu (op n:Int):Bool:=if op=1 then decide (0<=n) && decide (n<=3000) else if op=2 then decide (0<=n) && decide (n<=2) else if op=26 then decide (0<=n) && decide (n<=4) else if op=25 then true else decide (n=0)
def Yz {n:Nat} (hn:0<n) (op m:Int):BE (SS dt n 79 [iv op,iv m] ⟨[],[]⟩) (.bool (Mu op m)):=by
 obtain ⟨n,rfl⟩:=psc n (by omega);rw [c79];unfold Mu;by_cases h1:op=1
 ·by_cases h0:0<=m<;>simp only [tO,↓XX,XY,↓reduceIte,seval,h0,h1]<;>exact Aw _ _
 by_cases h2:op=2
 ·by_cases h0:0<=m<;>simp only [tO,↓XX,XY,↓reduceIte,seval,h0,h2]<;>exact Aw _ _
 by_cases h3:op=26
 ·by_cases h0:0<=m<;>simp only [tO,↓XX,XY,↓reduceIte,seval,h0,h3]<;>exact Aw _ _
 by_cases h4:op=25
 ·simp only [tO,↓XX,XY,↓reduceIte,seval,h4];exact Aw _ _
 simp only [tO,↓XX,XY,↓reduceIte,seval,h1,h2,h3,h4];exact Aw _ _
def S8 {n:Nat} (hn:0<n) (op m:Int):BE (SS dt n 94 [iv op,iv m] ⟨[],[]⟩) (.bool (Mu op m)):=by
 obtain ⟨n,rfl⟩:=psc n (by omega);rw [c94];unfold Mu;by_cases h1:op=1
 ·by_cases h0:0<=m<;>simp only [xR,↓XX,XY,↓reduceIte,seval,h0,h1]<;>exact Aw _ _
 by_cases h2:op=2
 ·by_cases h0:0<=m<;>simp only [xR,↓XX,XY,↓reduceIte,seval,h0,h2]<;>exact Aw _ _
 by_cases h3:op=26
 ·by_cases h0:0<=m<;>simp only [xR,↓XX,XY,↓reduceIte,seval,h0,h3]<;>exact Aw _ _
 by_cases h4:op=25
 ·simp only [xR,↓XX,XY,↓reduceIte,seval,h4];exact Aw _ _
 simp only [xR,↓XX,XY,↓reduceIte,seval,h1,h2,h3,h4];exact Aw _ _
mutual
def Tm.chk:Tm->Int->Int->Int×Int
 | .mk op m l,n,d=>if 3000<n+1\/120<d then (n+1,5) else if EQ op≠(l.length:Int)\/Mu op m=false then (n+1,1) else Tm.chkL l (n+1) (d+1)
def Tm.chkL:List Tm->Int->Int->Int×Int
 | [],n,_=>(n,0)
 | t::l,n,d=>if (t.chk n d).2=0 then Tm.chkL l (t.chk n d).1 d else t.chk n d
end
mutual
theorem NL:∀(t:Tm) (n d:Int),n<=3000->n<=(t.chk n d).1/\(t.chk n d).1<=3001/\((t.chk n d).2=0->(t.chk n d).1=n+t.wt/\(t.chk n d).1<=3000/\d<=120)
 | .mk op m l,n,d,hn=>by
  rw [Tm.chk];split
  ·simp;omega
  ·split
   ·simp;omega
   ·have:=chkL_b l (n+1) (d+1) (by omega)
    simp only [Tm.wt];omega
theorem chkL_b:∀(l:List Tm) (n d:Int),n<=3000->n<=(Tm.chkL l n d).1/\(Tm.chkL l n d).1<=3001/\((Tm.chkL l n d).2=0->(Tm.chkL l n d).1=n+Tm.wtL l/\(Tm.chkL l n d).1<=3000)
 | [],n,d,hn=>by simp [Tm.chkL,Tm.wtL];omega
 | t::l,n,d,hn=>by
  have h1:=NL t n d hn;rw [Tm.chkL];split
  ·rename_i h0;have h2:=chkL_b l (t.chk n d).1 d (by omega);simp only [Tm.wtL];omega
  ·rename_i h0;simp only [Tm.wtL];omega
end
abbrev HW (op m:Int) (ks:List Tm) (N E:Int):Hp:=⟨[(55574528,.row [iv op,iv m,.fv (.sl (ks.map Tm.enc))] false)],[.row [iv N,iv E] false]⟩
theorem Sb (op:Int):EQ op<=4:=by
 rcases LW op with h | h
 ·exact eR (P:=fun op=>EQ op<=4) (by
                         intro k hk;have:∀k:Fin 31,EQ (k.val:Int)<=4:=by decide
                         exact this ⟨k,hk⟩) h
 ·rw [Kw h];omega
theorem kC:∀(n:Nat) (t:Tm) (N d:Int),2 * t.wt+2<n->0<=N->N<=3000->0<=d->d<=121 ->
  Bz (SS dt n 53 [.ptr (.ext 0) 0,.fv t.enc,iv d] ⟨[],[.row [iv N,iv 0] false]⟩) (.tuple []) [.row [iv (t.chk N d).1,iv (t.chk N d).2] false]:=by
 intro n
 induction n using Nat.strongRecOn with
 | ind n ih =>
  intro t N d hn h0 hN hd0 hd;obtain ⟨op,m,ks⟩:=t;simp only [Tm.wt] at hn;obtain ⟨n,rfl⟩:=psc n (by omega);rw [c53,Am];have hlen:=Dp ks;have hw:BC (N+1)=N+1:=by rw [Ax]<;>omega
  have hwd:BC (d+1)=d+1:=by rw [Ax]<;>omega
  have ha:=aH (n:=n) (by omega) op;have hb:=Yz (n:=n) (by omega) op m;have hl:∀(N' E':Int) (r:Int×Int),N'<=3000\/E'≠0->0<=N'->(E'=0->ks.length<=4/\r=Tm.chkL ks N' (d+1)/\d<=120)->(E'≠0->r=(N',E')) ->
    Bz (BG n (fun q20 l21 h22=>JH l21 h22 (SS dt n) q20) [.ptr (.ext 0) 0,iv d,.ptr (.own 55574528) 0,iv 0] (HW op m ks N' E')) (.tuple []) [.row [iv r.1,iv r.2] false]:=by
   intro N' E' r hN' hN0 h1 h2;refine Ba (Q:=fun r'=>Bz r' _ _) (fun k V H=>∃pre rest N2 E2,ks=pre++rest/\rest.length=k/\V=[.ptr (.ext 0) 0,iv d,.ptr (.own 55574528) 0,iv pre.length]/\H=HW op m ks N2 E2 /\
    0<=N2/\(E2=0->N2<=3000/\ks.length<=4/\r=Tm.chkL rest N2 (d+1)/\d<=120)/\(E2≠0->r=(N2,E2))) ?_ n ks.length _ _ (by omega) ⟨[],ks,N',E',rfl,rfl,rfl,rfl,hN0,fun e=>⟨by rcases hN' with h | h;exact h;exact absurd e h,h1 e⟩,h2⟩
   rintro k V H rec ⟨pre,rest,N2,E2,hk,hkl,rfl,rfl,hN2,hok,hbad⟩ hrec;have hkk:ks.length=pre.length+rest.length:=by rw [hk];simp
   cases rest with
   | nil =>
    have hno:¬ ((pre.length:Int)<ks.length):=by rw [hkk];simp
    have:r=(N2,E2):=by
     by_cases he:E2=0
     ·rw [(hok he).2.2.1,he];rfl
     ·exact hbad he
    rw [this];simp only [I6,JH,J8,S53,↓XX,XY,↓reduceIte,seval,hno];exact EK rfl _ _
   | cons t rest =>
    have hi:(pre.length:Int)<ks.length:=by rw [hkk];simp;omega
    by_cases he:E2=0
    ·subst he;obtain ⟨hb1,hb2,hr,hd2⟩:=hok rfl;have hg:=BY hk;have htw:=Cb (t:=t) (l:=ks) (by rw [hk];simp);have hc:=ih n (by omega) t N2 (d+1) (by omega) hN2 hb1 (by omega) (by omega);have hcb:=NL t N2 (d+1) hb1;have hwi:BC ((pre.length:Int)+1)=((pre++[t]).length:Int):=(Ax (by omega) (by omega)).trans (by simp);rw [Tm.chkL] at hr;have h9:=hrec rest.length [.ptr (.ext 0) 0,iv d,.ptr (.own 55574528) 0,iv (pre++[t]).length] (HW op m ks (t.chk N2 (d+1)).1 (t.chk N2 (d+1)).2) (by simp only [Ai3] at hkl;omega)
      ⟨pre++[t],rest,_,_,by rw [hk];simp,rfl,rfl,rfl,by omega,fun e=>⟨(hcb.2.2 e).2.1,hb2,by rw [hr,if_pos e],hd2⟩,fun e=>by rw [hr,if_neg e]⟩
     generalize t.chk N2 (d+1)=q at hc h9;obtain ⟨o,p,l⟩:=t;rw [Am] at hc;simp only [I6,JH,J8,S53,↓XX,XY,↓reduceIte,seval,hi,↓Bq (AN hg) (Bk _ _ _),↓B8,hwd,↓IU hc (Aan _ _ _ _),hwi];exact h9
    ·rw [hbad he];simp only [I6,JH,J8,S53,↓XX,XY,↓reduceIte,seval,hi,he];exact EK rfl _ _
  rw [Tm.chk];by_cases c1:3000<N+1
  ·have hx:=hl (N+1) 5 (N+1,5) (.inr (by decide)) (by omega) (fun e=>absurd e (by decide)) (fun _=>rfl);rw [if_pos (.inl c1)];simp only [↓gR,↓XX,XY,↓reduceIte,seval,hw,c1];exact hx
  ·by_cases c2:120<d
   ·have hx:=hl (N+1) 5 (N+1,5) (.inr (by decide)) (by omega) (fun e=>absurd e (by decide)) (fun _=>rfl);rw [if_pos (.inr c2)];simp only [↓gR,↓XX,XY,↓reduceIte,seval,hw,c1,c2];exact hx
   ·rw [if_neg (by omega)];by_cases c3:EQ op=(ks.length:Int)
    ·have hx1:=hl (N+1) 1 (N+1,1) (.inr (by decide)) (by omega) (fun e=>absurd e (by decide)) (fun _=>rfl);have hk4:=Sb op;have hx0:=hl (N+1) 0 (Tm.chkL ks (N+1) (d+1)) (.inl (by omega)) (by omega) (fun _=>⟨by omega,rfl,by omega⟩) (fun e=>absurd rfl e);cases hnb:Mu op m
     ·rw [hnb] at hb;rw [if_pos (.inr rfl)];simp only [↓gR,↓XX,XY,↓reduceIte,seval,hw,c1,c2,↓Aq ha,c3,↓Af hb];exact hx1
     ·rw [hnb] at hb;rw [if_neg (by simp [c3])];simp only [↓gR,↓XX,XY,↓reduceIte,seval,hw,c1,c2,↓Aq ha,c3,↓Af hb];exact hx0
    ·have hx1:=hl (N+1) 1 (N+1,1) (.inr (by decide)) (by omega) (fun e=>absurd e (by decide)) (fun _=>rfl);rw [if_pos (.inl c3)];simp only [↓gR,↓XX,XY,↓reduceIte,seval,hw,c1,c2,↓Aq ha,c3];exact hx1
theorem Sd {n:Nat} (t:Tm) (hn:2 * t.wt+3<n):BE (SS dt n 21 [.fv t.enc] ⟨[],[]⟩) (.int .i64 (t.chk 0 1).2):=by
 obtain ⟨n,rfl⟩:=psc n (by omega);rw [c21];have h:=kC n t 0 1 (by omega) (by omega) (by omega) (by omega) (by omega);generalize t.chk 0 1=q at h;obtain ⟨op,m,ks⟩:=t;rw [Am] at h ⊢;have c2:=fun k=>jY (k:=k) h (x:=.fv (.agg [.int .i64 op,.int .i64 m,.sl (ks.map Tm.enc)])) (y:=iv 1) (s:=22021121) rfl rfl
  (own:=[(22020096,.row [iv op,iv m,.fv (.sl (ks.map Tm.enc))] false),(22021121,.row [iv 0,iv 0] false)])
  (own':=[(22020096,.row [iv op,iv m,.fv (.sl (ks.map Tm.enc))] false),(22021121,.row [iv q.1,iv q.2] false)]) (by simp [Ap]) (by simp [AO])
 simp only [S21,↓XX,XY,↓reduceIte,seval,↓c2];exact Aw _ _
theorem R5 (s:Nat) (h:Hp) (k:KT (IV×Hp)):Az (Lo EE 140 [(0,.fv (.int .i64 (-1))),(1,.fv (.int .i64 0)),(2,.fv (.int .i64 0)),(3,.fv (.int .i64 2)),(4,.fv (.int .i64 2)),(5,.fv (.int .i64 2)),(6,.fv (.int .i64 2)),(7,.fv (.int .i64 3)),(8,.fv (.int .i64 1)),(9,.fv (.int .i64 1)),(10,.fv (.int .i64 0)),(11,.fv (.int .i64 0)),(12,.fv (.int .i64 1)),(13,.fv (.int .i64 4)),(14,.fv (.int .i64 0)),(15,.fv (.int .i64 0)),(16,.fv (.int .i64 2)),(17,.fv (.int .i64 2)),(18,.fv (.int .i64 1)),(19,.fv (.int .i64 1)),(20,.fv (.int .i64 2)),(21,.fv (.int .i64 2)),(22,.fv (.int .i64 2)),(23,.fv (.int .i64 1)),(24,.fv (.int .i64 1)),(25,.fv (.int .i64 0)),(26,.fv (.int .i64 2)),(27,.fv (.int .i64 3)),(28,.fv (.int .i64 2)),(29,.fv (.int .i64 2)),(30,.fv (.int .i64 1))]) s h k=k (.fv (.agg [.int .i64 (-1),.int .i64 0,.int .i64 0,.int .i64 2,.int .i64 2,.int .i64 2,.int .i64 2,.int .i64 3,.int .i64 1,.int .i64 1,.int .i64 0,.int .i64 0,.int .i64 1,.int .i64 4,.int .i64 0,.int .i64 0,.int .i64 2,.int .i64 2,.int .i64 1,.int .i64 1,.int .i64 2,.int .i64 2,.int .i64 2,.int .i64 1,.int .i64 1,.int .i64 0,.int .i64 2,.int .i64 3,.int .i64 2,.int .i64 2,.int .i64 1])) h [] []:=by
 have:Lo EE 140 [(0,.fv (.int .i64 (-1))),(1,.fv (.int .i64 0)),(2,.fv (.int .i64 0)),(3,.fv (.int .i64 2)),(4,.fv (.int .i64 2)),(5,.fv (.int .i64 2)),(6,.fv (.int .i64 2)),(7,.fv (.int .i64 3)),(8,.fv (.int .i64 1)),(9,.fv (.int .i64 1)),(10,.fv (.int .i64 0)),(11,.fv (.int .i64 0)),(12,.fv (.int .i64 1)),(13,.fv (.int .i64 4)),(14,.fv (.int .i64 0)),(15,.fv (.int .i64 0)),(16,.fv (.int .i64 2)),(17,.fv (.int .i64 2)),(18,.fv (.int .i64 1)),(19,.fv (.int .i64 1)),(20,.fv (.int .i64 2)),(21,.fv (.int .i64 2)),(22,.fv (.int .i64 2)),(23,.fv (.int .i64 1)),(24,.fv (.int .i64 1)),(25,.fv (.int .i64 0)),(26,.fv (.int .i64 2)),(27,.fv (.int .i64 3)),(28,.fv (.int .i64 2)),(29,.fv (.int .i64 2)),(30,.fv (.int .i64 1))]=Idl.val (.fv (.agg [.int .i64 (-1),.int .i64 0,.int .i64 0,.int .i64 2,.int .i64 2,.int .i64 2,.int .i64 2,.int .i64 3,.int .i64 1,.int .i64 1,.int .i64 0,.int .i64 0,.int .i64 1,.int .i64 4,.int .i64 0,.int .i64 0,.int .i64 2,.int .i64 2,.int .i64 1,.int .i64 1,.int .i64 2,.int .i64 2,.int .i64 2,.int .i64 1,.int .i64 1,.int .i64 0,.int .i64 2,.int .i64 3,.int .i64 2,.int .i64 2,.int .i64 1])):=by kernel_rfl
 rw [this];exact gen_val' _ _ _ _
theorem dJ {n:Nat} {op:Int} (h:op<0\/30<op):BE (SS dt (n+1) 93 [iv op] ⟨[],[]⟩) (.int .i64 (-1)):=by
 rw [c93];by_cases h1:op<0
 ·simp only [SR,S93,↓XX,XY,↓reduceIte,seval,↓R5,h1];exact Aw _ _
 ·have h2:31<=op:=by omega
  simp only [SR,S93,↓XX,XY,↓reduceIte,seval,↓R5,h1,h2];exact Aw _ _
def fR (k:Int) (o:Option (IV×Hp)):Bool:=match o with
 | some (.fv (.int .i64 m),⟨_,[]⟩)=>decide (m=k)
 | _=>false
theorem ZK {k:Int} {o:Option (IV×Hp)} (h:fR k o=true):BE o (.int .i64 k):=by
 unfold fR at h;split at h
 ·have:=of_decide_eq_true h
  subst this;exact Aw _ _
 ·cases h
theorem Zd {n:Nat} (hn:0<n) (op:Int):BE (SS dt n 93 [iv op] ⟨[],[]⟩) (.int .i64 (EQ op)):=by
 obtain ⟨n,rfl⟩:=psc n (by omega);rcases LW op with h | h
 ·revert op
  refine fun op h=>eR (P:=fun op=>BE (SS dt (n+1) 93 [iv op] ⟨[],[]⟩) (.int .i64 (EQ op))) ?_ h;intro k hk
  iterate 31 (rcases k with _ | k;· exact ZK (by kernel_rfl))
  omega
 ·rw [Kw h];exact dJ h
abbrev HC (op m:Int) (ks:List Tm) (N:Int):Hp:=⟨[(83886080,.row [iv op,iv m,.fv (.sl (ks.map Tm.enc))] false)],[.row [iv N] false]⟩
theorem XP {base rm:List Nat} {vals:List IV} {own:List (Nat×Blk)} {a:FV} (hb:rm.any base.contains=false) (hf:AS rm vals own []=true) (k:Hp->Option (IV×Hp)) :
  Bm base rm vals ⟨own,[.row [.fv a] false]⟩ k=k ⟨Ho rm vals own [],[.row [.fv a] false]⟩:=dA (by intro s;simp [Blk.refs,IV.refs.refsL,IV.refs]) hb hf k
theorem Ye:∀(n:Nat) (t:Tm) (N d:Int),2 * t.wt+2<n->0<=N->N<=3000->0<=d->d<=121 ->
  Bz (SS dt n 80 [.fv t.enc,.ptr (.ext 0) 0,iv d] ⟨[],[.row [iv N] false]⟩) (.int .i64 (t.chk N d).2) [.row [iv (t.chk N d).1] false]:=by
 intro n
 induction n using Nat.strongRecOn with
 | ind n ih =>
  intro t N d hn h0 hN hd0 hd;obtain ⟨op,m,ks⟩:=t;simp only [Tm.wt] at hn;obtain ⟨n,rfl⟩:=psc n (by omega);rw [c80,Am];have hlen:=Dp ks;have hw:BC (N+1)=N+1:=by rw [Ax]<;>omega
  have hwd:BC (d+1)=d+1:=by rw [Ax]<;>omega
  have ha:=Zd (n:=n) (by omega) op;have hb:=S8 (n:=n) (by omega) op m;rw [Tm.chk];by_cases c1:3000<N+1
  ·rw [if_pos (.inl c1)];simp only [↓S0,↓XX,XY,↓reduceIte,seval,hw,c1];exact AJ _ _ _
  by_cases c2:120<d
  ·rw [if_pos (.inr c2)];simp only [↓S0,↓XX,XY,↓reduceIte,seval,hw,c1,c2];exact AJ _ _ _
  rw [if_neg (by omega)];by_cases c3:EQ op=(ks.length:Int)
  ·cases hnb:Mu op m
   ·rw [hnb] at hb;rw [if_pos (.inr rfl)];simp only [↓S0,↓XX,XY,↓reduceIte,seval,hw,c1,c2,↓Aq ha,c3,↓Af hb];exact AJ _ _ _
   ·rw [hnb] at hb;have hk4:=Sb op;rw [if_neg (by simp [c3])];simp only [Py,Qd,S80,↓XX,XY,↓reduceIte,seval,hw,c1,c2,↓Aq ha,c3,↓Af hb,↓XP,↓AI,XD,heldB,AS,XE];refine Ba (Q:=fun r'=>Bz r' _ _) (fun k V H=>∃pre rest N2,ks=pre++rest/\rest.length=k/\V=[.ptr (.ext 0) 0,iv d,.fv (.sl (ks.map Tm.enc)),iv ks.length,iv pre.length]/\H=HC op m ks N2 /\
     0<=N2/\N2<=3000/\Tm.chkL rest N2 (d+1)=Tm.chkL ks (N+1) (d+1)) ?_ n ks.length _ _ (by omega) ⟨[],ks,N+1,rfl,rfl,rfl,rfl,by omega,by omega,rfl⟩
    rintro k V H rec ⟨pre,rest,N2,hk,hkl,rfl,rfl,hN2,hN3,hr⟩ hrec;have hkk:ks.length=pre.length+rest.length:=by rw [hk];simp
    cases rest with
    | nil =>
     have hno:¬ ((pre.length:Int)<ks.length):=by rw [hkk];simp
     rw [<- hr];simp only [↓S0,↓XX,XY,↓reduceIte,seval,hno,Tm.chkL];exact AJ _ _ _
    | cons t rest =>
     have hi:(pre.length:Int)<ks.length:=by rw [hkk];simp;omega
     have hg:=BY hk;have htw:=Cb (t:=t) (l:=ks) (by rw [hk];simp);have hc:=ih n (by omega) t N2 (d+1) (by omega) hN2 hN3 (by omega) (by omega);have hcb:=NL t N2 (d+1) hN3;have hwi:BC ((pre.length:Int)+1)=((pre++[t]).length:Int):=(Ax (by omega) (by omega)).trans (by simp);rw [Tm.chkL] at hr;rw [<- hr];have h9:=fun e=>hrec rest.length [.ptr (.ext 0) 0,iv d,.fv (.sl (ks.map Tm.enc)),iv ks.length,iv (pre++[t]).length] (HC op m ks (t.chk N2 (d+1)).1) (by simp only [Ai3] at hkl;omega)
      ⟨pre++[t],rest,_,by rw [hk];simp,rfl,rfl,rfl,by omega,(hcb.2.2 e).2.1,by rw [<- hr,if_pos e]⟩
     rw [<- hr] at h9;generalize t.chk N2 (d+1)=q at hc h9 ⊢;obtain ⟨q1,q2⟩:=q;simp only at hc h9 ⊢;obtain ⟨o,p,l⟩:=t;rw [Am] at hc;by_cases he:q2=0
     ·subst he;simp only [if_true] at h9 ⊢;simp only [↓S0,↓XX,XY,↓reduceIte,seval,hi,↓Bq (AN hg) (Bk _ _ _),↓B8,hwd,↓VN hc (pY _ _),hwi,↓XP,↓AI,XD,heldB,AS,XE];exact h9 trivial
     ·rw [if_neg he];simp only [↓S0,↓XX,XY,↓reduceIte,seval,hi,↓Bq (AN hg) (Bk _ _ _),↓B8,hwd,↓VN hc (pY _ _),he];exact AJ _ _ _
  ·rw [if_pos (.inl c3)];simp only [↓S0,↓XX,XY,↓reduceIte,seval,hw,c1,c2,↓Aq ha,c3];exact AJ _ _ _
theorem NJ {n:Nat} (t:Tm) (hn:2 * t.wt+3<n):BE (SS dt n 54 [.fv t.enc] ⟨[],[]⟩) (.int .i64 (t.chk 0 1).2):=by
 obtain ⟨n,rfl⟩:=psc n (by omega);rw [c54];have h:=Ye n t 0 1 (by omega) (by omega) (by omega) (by omega) (by omega);generalize t.chk 0 1=q at h;obtain ⟨op,m,ks⟩:=t;rw [Am] at h ⊢;have c2:=fun k=>lK (k:=k) h (x:=.fv (.agg [.int .i64 op,.int .i64 m,.sl (ks.map Tm.enc)])) (y:=iv 1) (s:=56624129) rfl rfl
  (own:=[(56623104,.row [iv op,iv m,.fv (.sl (ks.map Tm.enc))] false),(56624129,.row [iv 0] false)])
  (own':=[(56623104,.row [iv op,iv m,.fv (.sl (ks.map Tm.enc))] false),(56624129,.row [iv q.1] false)]) (by simp [Ap]) (by simp [AO])
 simp only [S54,↓XX,XY,↓reduceIte,seval,↓c2];exact Aw _ _
structure OkT (P:Tm):Prop where
 pt:PT P
 w:P.wt<=3000
 d:P.dp<=120
inductive OK7:List Tm->Tm->Tm->Prop
 | var (g:List Tm) (i:Nat) (P:Tm) (hP:OkT P) (hi:i<g.length) (h:g[g.length - 1 - i]?=some P):OK7 g (.mk 1 (i:Int) []) P
 | oint (g:List Tm) (n:Int):OK7 g (.mk 25 n []) Dh
 | oprim (g:List Tm) (n:Int) (a b:Tm) (ha:OK7 g a Dh) (hb:OK7 g b Dh):OK7 g (.mk 26 n [a,b]) Dh
 | olam (g:List Tm) (n:Int) (a b c:Tm) (hP:OkT (.mk 16 0 [a,c])) (hb:OK7 (g++[a]) b c):OK7 g (.mk 20 n [a,b]) (.mk 16 0 [a,c])
 | oapp (g:List Tm) (n:Int) (f x a c:Tm) (hf:OK7 g f (.mk 16 0 [a,c])) (hx:OK7 g x a):OK7 g (.mk 21 n [f,x]) c
 | opair (g:List Tm) (n:Int) (x y a b:Tm) (hP:OkT (.mk 17 0 [a,b])) (hx:OK7 g x a) (hy:OK7 g y b):OK7 g (.mk 22 n [x,y]) (.mk 17 0 [a,b])
 | ofst (g:List Tm) (n:Int) (x a b:Tm) (hx:OK7 g x (.mk 17 0 [a,b])):OK7 g (.mk 23 n [x]) a
 | osnd (g:List Tm) (n:Int) (x a b:Tm) (hx:OK7 g x (.mk 17 0 [a,b])):OK7 g (.mk 24 n [x]) b
 | oif (g:List Tm) (n:Int) (c x y a:Tm) (hc:OK7 g c Dh) (hx:OK7 g x a) (hy:OK7 g y a):OK7 g (.mk 27 n [c,x,y]) a
 | olet (g:List Tm) (n:Int) (x y a b:Tm) (hx:OK7 g x a) (hy:OK7 (g++[a]) y b):OK7 g (.mk 28 n [x,y]) b
 | ofix (g:List Tm) (n:Int) (a x:Tm) (hP:OkT a) (hx:OK7 (g++[a]) x a):OK7 g (.mk 29 n [a,x]) a
theorem Abi {t:Tm} {n d:Int} (h:(t.chk n d).2=0):d<=120:=by
 obtain ⟨op,m,l⟩:=t;rw [Tm.chk] at h;split at h
 ·cases h
 ·rename_i h1;omega
mutual
theorem cC:∀(t:Tm) (n d:Int),(t.chk n d).2=0->d+t.dp<=121
 | .mk op m l,n,d,h=>by
  have h0:=Abi h;rw [Tm.chk] at h;split at h
  ·cases h
  ·split at h
   ·cases h
   ·have:=chkL_dp l (n+1) (d+1) h
    rw [Tm.dp];by_cases hl:l=[]
    ·subst hl;simp only [Tm.dpL];omega
    ·have:=this hl;omega
theorem chkL_dp:∀(l:List Tm) (n d:Int),(Tm.chkL l n d).2=0->l≠[]->d+Tm.dpL l<=121
 | [],_,_,_,h=>absurd rfl h
 | t::l,n,d,h,_=>by
  rw [Tm.chkL] at h;split at h
  ·rename_i h1;have h2:=cC t n d h1;rw [Tm.dpL];by_cases hl:l=[]
   ·subst hl;simp only [Tm.dpL];omega
   ·have:=chkL_dp l _ d h hl;omega
  ·rename_i h1;exact absurd h h1
end
def y4:EE.T 28=some ⟨1,24,.slice 67,[.nils]⟩:=by kernel_rfl
def vX:EE.T 67=some ⟨4,48,.struct [(0,3),(1,31)],[.fv (.int .i64 0),.fv (.int .i64 0),.fv (.int .i64 0),.nils]⟩:=by kernel_rfl
def pV:SliceT EE 28 4:=⟨_,_,_,_,_,y4,vX,rfl,by decide,by decide⟩
def OY (s:Nat) (h:Hp) (k:KT (IV×Hp)):Az (Al EE 28 0 []) s h k=k (.clip []) h [] []:=Cx y4 vX (by decide) (cells:=[]) rfl k
def OU (s0 o n:Int) (ks:List FV) (s:Nat) (h:Hp) (k:KT (IV×Hp)):Az (Al EE 28 1 [(0,.fv (.agg [.int .i64 s0,.int .i64 o,.int .i64 n,.sl ks]))]) s h k=k (.clip [.agg [.int .i64 s0,.int .i64 o,.int .i64 n,.sl ks]]) h [] [] :=Cx y4 vX (by decide) (cells:=[.int .i64 s0,.int .i64 o,.int .i64 n,.sl ks]) rfl k
theorem Dm (g:AR):BI 4 (g.map v1)=true:=by
 cases g with
 | nil=>rfl
 | cons a l=>simp only [Ai5,BI,v1,FV.cells,Ai3,Ajh,beq_self_eq_true]
def bQ (g:AR):((g.map v1).all fun e=>e.cells.all FV.one)=true:=by rw [List.all_map,Ajl];intro p _;rfl
theorem Do {n:Nat} (g:AR) (st:Int) (a:Tm) (hg:g.length<=1000) (hn:0<n):BE (SS dt n 31 [.fv (AM g),iv st,.fv a.enc] ⟨[],[]⟩) (AM (g++[(st,a)])):=by
 obtain ⟨n,rfl⟩:=psc n (by omega);rw [c31];rw [AM,AM,List.map_append,Ai5,Ai4];cases g with
 | nil =>have h0:=fun {β:Type}=>aL (β:=β) (E:=EE) pV (.sl []) (s0:=.clip []) (.inr rfl);have happ:=fun {β:Type}=>HM (β:=β) pV (.clip [v1 (st,a)]) (Dm [(st,a)]) rfl (by simp) (s0:=.clip []) (.inr rfl);obtain ⟨o,p,k⟩:=a;simp only [v1,Tm.op,Tm.n,Tm.kids] at happ ⊢;rw [Am];simp only [S31,↓XX,XY,↓reduceIte,seval,↓OY,↓h0,↓OU,↓happ];exact Bo rfl _
 | cons t g =>have h0:=fun {β:Type}=>HM (β:=β) pV (.sl ((t::g).map v1)) (Dm (t::g)) rfl (by simp at hg ⊢;omega) (s0:=.clip []) (.inr rfl);have happ:=fun {β:Type}=>NI (β:=β) pV (es:=(t::g).map v1) (es2:=[v1 (st,a)]) (.clip _) (Dm [(st,a)]) (Dm (t::g)) (bQ [(st,a)]) (by simp at hg ⊢;omega);obtain ⟨o,p,k⟩:=a;simp only [Ai5,Ajw,Ai3,Ajh,Ajq] at h0 happ ⊢;simp only [v1,Tm.op,Tm.n,Tm.kids] at h0 happ ⊢;rw [Am];simp only [S31,↓XX,XY,↓reduceIte,seval,↓OY,↓h0,↓OU,↓happ,G4];exact Bo rfl _
def Lq {n:Nat} (hn:1<n):BE (SS dt n 64 [] ⟨[],[]⟩) (Tm.mk 10 0 []).enc:=by obtain ⟨n,rfl⟩:=psc n (by omega);rw [c64];have t:=AZ (n:=n) (by omega) 10;rw [Am] at t ⊢;simp only [S64,↓XX,XY,↓reduceIte,seval,↓Af t];exact Aw _ _
theorem y5 {n:Nat} (g:AR) (st:Int) (a:Tm) (hg:g.length<=100000) (hn:0<n):BE (SS dt n 74 [.fv (AM g),iv st,.fv a.enc] ⟨[],[]⟩) (AM (g++[(st,a)])):=by
 obtain ⟨n,rfl⟩:=psc n (by omega);rw [c74];rw [AM,AM,List.map_append,Ai5,Ai4];cases g with
 | nil =>have h0:=fun {β:Type}=>aL (β:=β) (E:=EE) pV (.sl []) (s0:=.clip []) (.inr rfl);have happ:=fun {β:Type}=>HM (β:=β) pV (.clip [v1 (st,a)]) (Dm [(st,a)]) rfl (by simp) (s0:=.clip []) (.inr rfl);obtain ⟨o,p,k⟩:=a;simp only [v1,Tm.op,Tm.n,Tm.kids] at happ ⊢;rw [Am];simp only [S74,↓XX,XY,↓reduceIte,seval,↓OY,↓h0,↓OU,↓happ];exact Bo rfl _
 | cons t g =>have h0:=fun {β:Type}=>HM (β:=β) pV (.sl ((t::g).map v1)) (Dm (t::g)) rfl (by simp at hg ⊢;omega) (s0:=.clip []) (.inr rfl);have happ:=fun {β:Type}=>NI (β:=β) pV (es:=(t::g).map v1) (es2:=[v1 (st,a)]) (.clip _) (Dm [(st,a)]) (Dm (t::g)) (bQ [(st,a)]) (by simp at hg ⊢;omega);obtain ⟨o,p,k⟩:=a;simp only [Ai5,Ajw,Ai3,Ajh,Ajq] at h0 happ ⊢;simp only [v1,Tm.op,Tm.n,Tm.kids] at h0 happ ⊢;rw [Am];simp only [S74,↓XX,XY,↓reduceIte,seval,↓OY,↓h0,↓OU,↓happ,G4];exact Bo rfl _
theorem Aao {n:Nat} {G:FV} {st:Int} {a:Tm} (ks:List Tm) (hl:ks.length<=1000) (hn:ks.length<n) (h:∀t∈ks,BE (SS dt n 33 [.fv G,iv st,.fv t.enc,.fv a.enc] ⟨[],[]⟩) (.int .i64 0)) :
  BE (SS dt (n+1) 51 [.fv G,iv st,.fv (.sl (ks.map Tm.enc)),.fv a.enc] ⟨[],[]⟩) (.int .i64 0):=by
 rw [c51];obtain ⟨oa,na,ka⟩:=a;simp only [Am] at h ⊢;simp only [IZ,pR,↓XX,XY,↓reduceIte,seval];refine Ba (Q:=fun r=>BE r _) (fun k V H=>∃pre rest,ks=pre++rest/\rest.length=k/\V=[.fv G,iv st,.fv (.sl (ks.map Tm.enc)),.ptr (.own 53477376) 0,iv pre.length] /\
  H=⟨[(53477376,.row [iv oa,iv na,.fv (.sl (ka.map Tm.enc))] false)],[]⟩) ?_ n ks.length _ _ (by omega) ⟨[],ks,rfl,rfl,rfl,rfl⟩
 rintro k V H rec ⟨pre,rest,hk,hkl,rfl,rfl⟩ hrec;have hkk:ks.length=pre.length+rest.length:=by rw [hk];simp
 cases rest with
 | nil =>
  have hno:¬ ((pre.length:Int)<ks.length):=by rw [hkk];simp
  simp only [IZ,LU,pR,↓XX,XY,↓reduceIte,seval,hno];exact Aw _ _
 | cons t rest =>
  have hi:(pre.length:Int)<ks.length:=by rw [hkk];simp;omega
  have hg:=BY hk;have hc:=h t (by rw [hk];simp);have hwi:BC ((pre.length:Int)+1)=((pre++[t]).length:Int):=(Ax (by omega) (by omega)).trans (by simp);simp only [Ai3] at hkl;have h9:=hrec rest.length [.fv G,iv st,.fv (.sl (ks.map Tm.enc)),.ptr (.own 53477376) 0,iv (pre++[t]).length] _ (by omega) ⟨pre++[t],rest,by rw [hk];simp,rfl,rfl,rfl⟩;obtain ⟨o,p,l⟩:=t;rw [Am] at hc;simp only [IZ,LU,pR,↓XX,XY,↓reduceIte,seval,hi,↓Bq (AN hg) (Bk _ _ _),↓B8,↓As hc,hwi];exact h9
def YS {k:Nat} (hk:k<=1000) {a b:Tm} (ha:a.sc k) (hb:b.sc k) (hda:a.dp<=20000) (hdb:b.dp<=20000):∃w e,Ev 26 [.fv a.enc,.fv b.enc] (.tuple [.bool w,.int .i64 e]) /\
  ((e=5\/e=17)\/e=0/\∃f x f' y,AF f a=some (x,0)/\AF f' b=some (y,0)/\NOk k x/\NOk k y/\w=x.eta.same y.eta):=by
 obtain ⟨x,e,⟨N1,h1⟩,c1,f,hf⟩:=Gs hk ha hda;obtain ⟨y,e',⟨N2,h2⟩,c2,f',hf'⟩:=Gs hk hb hdb;rcases c1 with ⟨rfl,hx⟩ | ⟨he,rfl⟩
 ·rcases c2 with ⟨rfl,hy⟩ | ⟨he',rfl⟩
  ·refine ⟨x.eta.same y.eta,0,⟨N1+N2+100000,fun n hn=>?_⟩,.inr ⟨rfl,f,x,f',y,hf,hf',hx,hy,rfl⟩⟩;obtain ⟨n,rfl⟩:=psc n (by omega);have h1:=h1 n (by omega);have h2:=h2 n (by omega);have xw:=hx.wt;have yw:=hy.wt;have e1:=LK n x k hx.sc (by omega) (by omega);have e2:=LK n y k hy.sc (by omega) (by omega);have w1:=(Ms x k hx.sc (by omega)).2;have w2:=(Ms y k hy.sc (by omega)).2;have s1:=JW n x.eta y.eta (by omega) (by omega);rw [c26];clear hf hf' hx hy;generalize x.eta.same y.eta=sm at s1 ⊢;generalize x.eta=xe at e1 s1;generalize y.eta=ye at e2 s1;obtain ⟨o1,p1,k1⟩:=a;obtain ⟨o2,p2,k2⟩:=b;obtain ⟨o3,p3,k3⟩:=x;obtain ⟨o4,p4,k4⟩:=y;obtain ⟨o5,p5,k5⟩:=xe;obtain ⟨o6,p6,k6⟩:=ye;simp only [Am] at h1 h2 e1 e2 s1 ⊢;simp only [S26,↓XX,XY,↓reduceIte,seval,↓Aq h1,↓Aq h2,↓Aq e1,↓Aq e2,↓Af s1];exact A6 rfl
  ·have hne:e'≠0:=by omega
   refine ⟨false,e',⟨N1+N2+1,fun n hn=>?_⟩,.inl he'⟩;obtain ⟨n,rfl⟩:=psc n (by omega);have h1:=h1 n (by omega);have h2:=h2 n (by omega);rw [c26];clear hf hf' hx;obtain ⟨o1,p1,k1⟩:=a;obtain ⟨o2,p2,k2⟩:=b;obtain ⟨o3,p3,k3⟩:=x;simp only [Am,Tm.z,Ai4] at h1 h2 ⊢;simp only [S26,↓XX,XY,↓reduceIte,seval,↓Aq h1,↓Aq h2,hne];exact A6 rfl
 ·have hne:e≠0:=by omega
  refine ⟨false,e,⟨N1+1,fun n hn=>?_⟩,.inl he⟩;obtain ⟨n,rfl⟩:=psc n (by omega);have h1:=h1 n (by omega);rw [c26];clear hf hf';obtain ⟨o1,p1,k1⟩:=a;obtain ⟨o2,p2,k2⟩:=b;simp only [Am,Tm.z,Ai4] at h1 ⊢;simp only [S26,↓XX,XY,↓reduceIte,seval,↓Aq h1,hne];exact A6 rfl
def C7 {P0 Q:Nat->Prop} (c:Nat) (h0:∃N,∀n,N<=n->P0 n) (f:∀n,c<=n->P0 n->Q (n+1)):∃N,∀n,N<=n->Q n:=by obtain ⟨N,h⟩:=h0;refine ⟨N+c+1,fun n hn=>?_⟩;obtain ⟨n,rfl⟩:=psc n (by omega);exact f n (by omega) (h n (by omega))
def Om {P0 P1 Q:Nat->Prop} (c:Nat) (h0:∃N,∀n,N<=n->P0 n) (h1:∃N,∀n,N<=n->P1 n) (f:∀n,c<=n->P0 n->P1 n->Q (n+1)):∃N,∀n,N<=n->Q n:=by obtain ⟨N,h⟩:=h1;refine C7 (c+N) h0 fun n hn h0=>f n (by omega) h0 (h n (by omega))
def SA {P0 P1 P2 Q:Nat->Prop} (c:Nat) (h0:∃N,∀n,N<=n->P0 n) (h1:∃N,∀n,N<=n->P1 n) (h2:∃N,∀n,N<=n->P2 n) (f:∀n,c<=n->P0 n->P1 n->P2 n->Q (n+1)):∃N,∀n,N<=n->Q n:=by obtain ⟨N,h⟩:=h2;refine Om (c+N) h0 h1 fun n hn h0 h1=>f n (by omega) h0 h1 (h n (by omega))
def j7 {P0 P1 P2 P3 Q:Nat->Prop} (c:Nat) (h0:∃N,∀n,N<=n->P0 n) (h1:∃N,∀n,N<=n->P1 n) (h2:∃N,∀n,N<=n->P2 n) (h3:∃N,∀n,N<=n->P3 n) (f:∀n,c<=n->P0 n->P1 n->P2 n->P3 n->Q (n+1)):∃N,∀n,N<=n->Q n:=by obtain ⟨N,h⟩:=h3;refine SA (c+N) h0 h1 h2 fun n hn h0 h1 h2=>f n (by omega) h0 h1 h2 (h n (by omega))
def zR {P0 P1 P2 P3 P4 Q:Nat->Prop} (c:Nat) (h0:∃N,∀n,N<=n->P0 n) (h1:∃N,∀n,N<=n->P1 n) (h2:∃N,∀n,N<=n->P2 n) (h3:∃N,∀n,N<=n->P3 n) (h4:∃N,∀n,N<=n->P4 n) (f:∀n,c<=n->P0 n->P1 n->P2 n->P3 n->P4 n->Q (n+1)):∃N,∀n,N<=n->Q n:=by obtain ⟨N,h⟩:=h4;refine j7 (c+N) h0 h1 h2 h3 fun n hn h0 h1 h2 h3=>f n (by omega) h0 h1 h2 h3 (h n (by omega))
def ev6 {P0 P1 P2 P3 P4 P5 Q:Nat->Prop} (c:Nat) (h0:∃N,∀n,N<=n->P0 n) (h1:∃N,∀n,N<=n->P1 n) (h2:∃N,∀n,N<=n->P2 n) (h3:∃N,∀n,N<=n->P3 n) (h4:∃N,∀n,N<=n->P4 n) (h5:∃N,∀n,N<=n->P5 n) (f:∀n,c<=n->P0 n->P1 n->P2 n->P3 n->P4 n->P5 n->Q (n+1)):∃N,∀n,N<=n->Q n:=by obtain ⟨N,h⟩:=h5;refine zR (c+N) h0 h1 h2 h3 h4 fun n hn h0 h1 h2 h3 h4=>f n (by omega) h0 h1 h2 h3 h4 (h n (by omega))
def ev7 {P0 P1 P2 P3 P4 P5 P6 Q:Nat->Prop} (c:Nat) (h0:∃N,∀n,N<=n->P0 n) (h1:∃N,∀n,N<=n->P1 n) (h2:∃N,∀n,N<=n->P2 n) (h3:∃N,∀n,N<=n->P3 n) (h4:∃N,∀n,N<=n->P4 n) (h5:∃N,∀n,N<=n->P5 n) (h6:∃N,∀n,N<=n->P6 n) (f:∀n,c<=n->P0 n->P1 n->P2 n->P3 n->P4 n->P5 n->P6 n->Q (n+1)):∃N,∀n,N<=n->Q n:=by obtain ⟨N,h⟩:=h6;refine ev6 (c+N) h0 h1 h2 h3 h4 h5 fun n hn h0 h1 h2 h3 h4 h5=>f n (by omega) h0 h1 h2 h3 h4 h5 (h n (by omega))
def ev8 {P0 P1 P2 P3 P4 P5 P6 P7 Q:Nat->Prop} (c:Nat) (h0:∃N,∀n,N<=n->P0 n) (h1:∃N,∀n,N<=n->P1 n) (h2:∃N,∀n,N<=n->P2 n) (h3:∃N,∀n,N<=n->P3 n) (h4:∃N,∀n,N<=n->P4 n) (h5:∃N,∀n,N<=n->P5 n) (h6:∃N,∀n,N<=n->P6 n) (h7:∃N,∀n,N<=n->P7 n) (f:∀n,c<=n->P0 n->P1 n->P2 n->P3 n->P4 n->P5 n->P6 n->P7 n->Q (n+1)):∃N,∀n,N<=n->Q n:=by obtain ⟨N,h⟩:=h7;refine ev7 (c+N) h0 h1 h2 h3 h4 h5 h6 fun n hn h0 h1 h2 h3 h4 h5 h6=>f n (by omega) h0 h1 h2 h3 h4 h5 h6 (h n (by omega))
def ev9 {P0 P1 P2 P3 P4 P5 P6 P7 P8 Q:Nat->Prop} (c:Nat) (h0:∃N,∀n,N<=n->P0 n) (h1:∃N,∀n,N<=n->P1 n) (h2:∃N,∀n,N<=n->P2 n) (h3:∃N,∀n,N<=n->P3 n) (h4:∃N,∀n,N<=n->P4 n) (h5:∃N,∀n,N<=n->P5 n) (h6:∃N,∀n,N<=n->P6 n) (h7:∃N,∀n,N<=n->P7 n) (h8:∃N,∀n,N<=n->P8 n) (f:∀n,c<=n->P0 n->P1 n->P2 n->P3 n->P4 n->P5 n->P6 n->P7 n->P8 n->Q (n+1)):∃N,∀n,N<=n->Q n:=by obtain ⟨N,h⟩:=h8;refine ev8 (c+N) h0 h1 h2 h3 h4 h5 h6 h7 fun n hn h0 h1 h2 h3 h4 h5 h6 h7=>f n (by omega) h0 h1 h2 h3 h4 h5 h6 h7 (h n (by omega))
def Aax {P0 P1 P2 P3 P4 P5 P6 P7 P8 P9 Q:Nat->Prop} (c:Nat) (h0:∃N,∀n,N<=n->P0 n) (h1:∃N,∀n,N<=n->P1 n) (h2:∃N,∀n,N<=n->P2 n) (h3:∃N,∀n,N<=n->P3 n) (h4:∃N,∀n,N<=n->P4 n) (h5:∃N,∀n,N<=n->P5 n) (h6:∃N,∀n,N<=n->P6 n) (h7:∃N,∀n,N<=n->P7 n) (h8:∃N,∀n,N<=n->P8 n) (h9:∃N,∀n,N<=n->P9 n) (f:∀n,c<=n->P0 n->P1 n->P2 n->P3 n->P4 n->P5 n->P6 n->P7 n->P8 n->P9 n->Q (n+1)):∃N,∀n,N<=n->Q n:=by obtain ⟨N,h⟩:=h9;refine ev9 (c+N) h0 h1 h2 h3 h4 h5 h6 h7 h8 fun n hn h0 h1 h2 h3 h4 h5 h6 h7 h8=>f n (by omega) h0 h1 h2 h3 h4 h5 h6 h7 h8 (h n (by omega))
def EM:=AiY oI<|AiY @Ai5<|AiY @Ai4<|AiY Dh.eq_1<|AiY tyT.eq_1<|AiY natT.eq_1<|AiY Tm.z.eq_1<|AiY @Tm.op.eq_1<|AiY @Tm.kids.eq_1 @Tm.n.eq_1
def i9:Tm:=.mk 11 0 []
def JI (G:FV) (st:Int) (t r:Tm) (e:Int):Prop:=Ev 19 [.fv G,iv st,.fv t.enc] (.tuple [r.enc,.int .i64 e])
def JC (G:FV) (st:Int) (t a:Tm) (e:Int):Prop:=Ev 33 [.fv G,iv st,.fv t.enc,.fv a.enc] (.int .i64 e)
def Y0 (G:FV) (st:Int) (ks:List Tm) (a:Tm) (e:Int):Prop:=Ev 51 [.fv G,iv st,.fv (.sl (ks.map Tm.enc)),.fv a.enc] (.int .i64 e)
def JS (G:FV) (st:Int) (t:Tm) (op:Int) (r:Tm) (e:Int):Prop:=Ev 75 [.fv G,iv st,.fv t.enc,iv op] (.tuple [r.enc,.int .i64 e])
def JL (G:FV) (t:Tm) (m e:Int):Prop:=Ev 70 [.fv G,.fv t.enc] (.tuple [.int .i64 m,.int .i64 e])
def JU (G:FV) (a b r:Tm) (e:Int):Prop:=Ev 73 [.fv G,.fv a.enc,.fv b.enc] (.tuple [r.enc,.int .i64 e])
def JD (c r:Tm) (e:Int):Prop:=Ev 91 [.fv c.enc] (.tuple [r.enc,.int .i64 e])
def JO (G:FV) (t r:Tm) (e:Int):Prop:=Ev 49 [.fv G,.fv t.enc] (.tuple [r.enc,.int .i64 e])
def JP (G:FV) (t r:Tm) (e:Int):Prop:=Ev 76 [.fv G,.fv t.enc] (.tuple [r.enc,.int .i64 e])
def JM (G:FV) (t r:Tm) (e:Int):Prop:=Ev 52 [.fv G,.fv t.enc] (.tuple [r.enc,.int .i64 e])
def vW (G:FV) (t r:Tm) (e:Int):Prop:=Ev 77 [.fv G,.fv t.enc] (.tuple [r.enc,.int .i64 e])
def JR (G:FV) (t r:Tm) (e:Int):Prop:=Ev 78 [.fv G,.fv t.enc] (.tuple [r.enc,.int .i64 e])
def JN (t r:Tm) (e:Int):Prop:=Ev 24 [.fv t.enc] (.tuple [r.enc,.int .i64 e])
def JE (a b:Tm) (w:Bool) (e:Int):Prop:=Ev 26 [.fv a.enc,.fv b.enc] (.tuple [.bool w,.int .i64 e])
def JB (G:FV) (st:Int) (a:Tm) (G1:FV):Prop:=Ev 74 [.fv G,iv st,.fv a.enc] G1
def JSh (a:Tm) (d c:Int) (r:Tm):Prop:=Ev 35 [.fv a.enc,iv d,iv c] r.enc
def X7 (a u r:Tm):Prop:=Ev 32 [.fv a.enc,iv 0,.fv u.enc] r.enc
def JF (c:Tm) (w:Bool):Prop:=Ev 88 [.fv c.enc,iv 0] (.bool w)
def JNx (p r:Tm):Prop:=Ev 92 [.fv p.enc] r.enc
def BO {n:Nat} (hn:0<n) (e:Int):BE (SS dt n 48 [iv e] ⟨[],[]⟩) (.tuple [Tm.z.enc,.int .i64 e]):=by obtain ⟨n,rfl⟩:=psc n (by omega);rw [c48];simp only [Tm.z,Am,Ai4];simp only [S48,↓XX,XY,↓reduceIte,seval];exact A6 rfl
def Acj {G:FV} {t a b:Tm} {st e:Int}  (s0:e≠0) (h0:JI G st t b e):JC G st t a e:=by refine C7 200 h0 fun n hn h0=>?_;rw [c33];simp only [EM] at h0 ⊢;simp only [S33,↓XX,XY,↓reduceIte,seval,↓Av h0,s0];exact A6 rfl
def Abq {G:FV} {t a b:Tm} {st e:Int} {w:Bool}  (s0:e≠0) (h0:JI G st t b 0) (h1:JE b a w e):JC G st t a e:=by refine Om 200 h0 h1 fun n hn h0 h1=>?_;rw [c33];simp only [EM] at h0 h1 ⊢;simp only [S33,↓XX,XY,↓reduceIte,seval,↓Av h0,↓Af h1,s0];exact A6 rfl
def AbL {G:FV} {t a b:Tm} {st:Int}  (h0:JI G st t b 0) (h1:JE b a true 0):JC G st t a 0:=by refine Om 200 h0 h1 fun n hn h0 h1=>?_;rw [c33];simp only [EM] at h0 h1 ⊢;simp only [S33,↓XX,XY,↓reduceIte,seval,↓Av h0,↓Af h1];exact A6 rfl
def fC {G:FV} {t b:Tm} {st op e:Int}  (s0:e≠0) (h0:JI G st t b e):JS G st t op .z e:=by refine C7 200 h0 fun n hn h0=>?_;have hnone:=BO (n:=n) (by omega) e;rw [c75];simp only [EM] at h0 hnone ⊢;simp only [Tf,S75,↓XX,XY,↓reduceIte,seval,↓Aq hnone,↓Av h0,s0];exact A6 rfl
def Zv {G:FV} {t b:Tm} {st op:Int}  (s0:b.op=op) (h0:JI G st t b 0):JS G st t op b 0:=by refine C7 200 h0 fun n hn h0=>?_;rw [c75];simp only [EM] at h0 ⊢;simp only [Tf,S75,↓XX,XY,↓reduceIte,seval,↓Av h0,s0];exact A6 rfl
def AdD {G:FV} {t b:Tm} {e:Int}  (s0:e≠0) (h0:JI G 1 t b e):JL G t 0 e:=by refine C7 200 h0 fun n hn h0=>?_;rw [c70];simp only [EM] at h0 ⊢;simp only [S70,↓XX,XY,↓reduceIte,seval,↓Av h0,s0];exact A6 rfl
def Adw {G:FV} {t b:Tm}  (s0:b.op=2) (h0:JI G 1 t b 0):JL G t b.n 0:=by refine C7 200 h0 fun n hn h0=>?_;rw [c70];simp only [EM] at h0 ⊢;simp only [S70,↓XX,XY,↓reduceIte,seval,↓Av h0,s0];exact A6 rfl
def Ad8 {c r:Tm}  (h0:JF c false) (h1:X7 c i9 r):JD c r 0:=by refine Om 200 h0 h1 fun n hn h0 h1=>?_;have t11:=AZ (n:=n) (by omega) 11;rw [c91];simp only [i9] at h1;simp only [EM] at h0 h1 t11 ⊢;simp only [S91,↓XX,XY,↓reduceIte,seval,↓Af t11,↓Af h0,↓Av h1];exact A6 rfl
def AdK {G:FV} {a b c:Tm} {G1:FV} {e:Int}  (s0:e≠0) (h0:JB G 0 a G1) (h1:JI G1 0 b c e):JU G a b .z e:=by refine Om 200 h0 h1 fun n hn h0 h1=>?_;have hnone:=BO (n:=n) (by omega) e;rw [c73];simp only [EM] at h0 h1 hnone ⊢;simp only [S73,↓XX,XY,↓reduceIte,seval,↓Aq hnone,↓Av h0,↓Av h1,s0];exact A6 rfl
def AeN {G:FV} {a b c r:Tm} {G1:FV} {e:Int}  (h0:JB G 0 a G1) (h1:JI G1 0 b c 0) (h2:JD c r e):JU G a b r e:=by refine SA 200 h0 h1 h2 fun n hn h0 h1 h2=>?_;rw [c73];simp only [EM] at h0 h1 h2 ⊢;simp only [S73,↓XX,XY,↓reduceIte,seval,↓Av h0,↓Av h1,↓Aq h2];exact A6 rfl
def kx {p q r:Tm}  (h0:JSh p 2 1 q) (h1:X7 q (.mk 12 0 [.mk 1 1 []]) r):JNx p r:=by refine Om 200 h0 h1 fun n hn h0 h1=>?_;have tv:=pP (n:=n) (by omega) 1;have u12:=CM (n:=n) (by omega) 12 [.mk 1 1 []];rw [c92];simp only [EM] at h0 h1 tv u12 ⊢;simp only [S92,↓XX,XY,↓reduceIte,seval,↓Aq tv,↓Af u12,↓Av h0,↓Av h1,↓Dz];exact A6 rfl
def xZ {G:FV} {m:Int}  : JO G (.mk 25 m []) Dh 0:=by refine ⟨200,fun n hn=>?_⟩;obtain ⟨n,rfl⟩:=psc n (by omega);have t14:=AZ (n:=n) (by omega) 14;have t15:=AZ (n:=n) (by omega) 15;rw [VA];simp only [EM] at t14 t15 ⊢;simp only [↓W8,↓XX,XY,↓reduceIte,seval,↓Af t14,↓Af t15];exact A6 rfl
def XZ {G:FV} {a b:Tm} {m:Int} {e:Int}  (s0:e≠0) (h0:Y0 G 0 [a,b] Dh e):JO G (.mk 26 m [a,b]) .z e:=by refine C7 200 h0 fun n hn h0=>?_;have t14:=AZ (n:=n) (by omega) 14;have t15:=AZ (n:=n) (by omega) 15;have hnone:=BO (n:=n) (by omega) e;rw [VA];simp only [EM] at h0 t14 t15 hnone ⊢;simp only [↓W8,↓XX,XY,↓reduceIte,seval,↓Af t14,↓Af t15,↓Aq hnone,↓As h0,s0];exact A6 rfl
def mG {G:FV} {a b:Tm} {m:Int}  (h0:Y0 G 0 [a,b] Dh 0):JO G (.mk 26 m [a,b]) Dh 0:=by refine C7 200 h0 fun n hn h0=>?_;have t14:=AZ (n:=n) (by omega) 14;have t15:=AZ (n:=n) (by omega) 15;rw [VA];simp only [EM] at h0 t14 t15 ⊢;simp only [↓W8,↓XX,XY,↓reduceIte,seval,↓Af t14,↓Af t15,↓As h0];exact A6 rfl
def Zo {G:FV} {a b:Tm} {m:Int} {e:Int}  (s0:e≠0) (h0:JC G 1 a tyT e):JO G (.mk 20 m [a,b]) .z e:=by refine C7 200 h0 fun n hn h0=>?_;have t14:=AZ (n:=n) (by omega) 14;have t15:=AZ (n:=n) (by omega) 15;have hnone:=BO (n:=n) (by omega) e;rw [VA];simp only [EM] at h0 t14 t15 hnone ⊢;simp only [↓W8,↓XX,XY,↓reduceIte,seval,↓Af t14,↓Af t15,↓Aq hnone,↓As h0,s0];exact A6 rfl
def f0 {G:FV} {a b c:Tm} {m:Int} {e:Int}  (s0:e≠0) (h0:JC G 1 a tyT 0) (h1:JU G a b c e):JO G (.mk 20 m [a,b]) .z e:=by refine Om 200 h0 h1 fun n hn h0 h1=>?_;have t14:=AZ (n:=n) (by omega) 14;have t15:=AZ (n:=n) (by omega) 15;have hnone:=BO (n:=n) (by omega) e;rw [VA];simp only [EM] at h0 h1 t14 t15 hnone ⊢;simp only [↓W8,↓XX,XY,↓reduceIte,seval,↓Af t14,↓Af t15,↓Aq hnone,↓As h0,↓Av h1,s0];exact A6 rfl
def tW {G:FV} {a b c r:Tm} {m:Int} {e:Int}  (h0:JC G 1 a tyT 0) (h1:JU G a b c 0) (h2:JN (.mk 16 0 [a,c]) r e):JO G (.mk 20 m [a,b]) r e:=by refine SA 200 h0 h1 h2 fun n hn h0 h1 h2=>?_;have t14:=AZ (n:=n) (by omega) 14;have t15:=AZ (n:=n) (by omega) 15;have u16:=CM (n:=n) (by omega) 16 [a,c];rw [VA];simp only [EM] at h0 h1 h2 t14 t15 u16 ⊢;simp only [↓W8,↓XX,XY,↓reduceIte,seval,↓Af t14,↓Af t15,↓Af u16,↓As h0,↓Av h1,↓Aq h2,↓CK];exact A6 rfl
def cI {G:FV} {a b:Tm} {m:Int} {e:Int}  (s0:e≠0) (h0:JC G 1 a tyT e):JO G (.mk 29 m [a,b]) .z e:=by refine C7 200 h0 fun n hn h0=>?_;have t14:=AZ (n:=n) (by omega) 14;have t15:=AZ (n:=n) (by omega) 15;have hnone:=BO (n:=n) (by omega) e;rw [VA];simp only [EM] at h0 t14 t15 hnone ⊢;simp only [↓W8,↓XX,XY,↓reduceIte,seval,↓Af t14,↓Af t15,↓Aq hnone,↓As h0,s0];exact A6 rfl
def Z6 {G:FV} {a b s:Tm} {m:Int} {e:Int} {G1:FV}  (s0:e≠0) (h0:JC G 1 a tyT 0) (h1:JB G 0 a G1) (h2:JSh a 1 0 s) (h3:JC G1 0 b s e):JO G (.mk 29 m [a,b]) .z e:=by refine j7 200 h0 h1 h2 h3 fun n hn h0 h1 h2 h3=>?_;have t14:=AZ (n:=n) (by omega) 14;have t15:=AZ (n:=n) (by omega) 15;have hnone:=BO (n:=n) (by omega) e;rw [VA];simp only [EM] at h0 h1 h2 h3 t14 t15 hnone ⊢;simp only [↓W8,↓XX,XY,↓reduceIte,seval,↓Af t14,↓Af t15,↓Aq hnone,↓As h0,↓Av h1,↓Av h2,↓As h3,s0];exact A6 rfl
def vC {G:FV} {a b s r:Tm} {m:Int} {e:Int} {G1:FV}  (h0:JC G 1 a tyT 0) (h1:JB G 0 a G1) (h2:JSh a 1 0 s) (h3:JC G1 0 b s 0) (h4:JN a r e):JO G (.mk 29 m [a,b]) r e:=by refine zR 200 h0 h1 h2 h3 h4 fun n hn h0 h1 h2 h3 h4=>?_;have t14:=AZ (n:=n) (by omega) 14;have t15:=AZ (n:=n) (by omega) 15;rw [VA];simp only [EM] at h0 h1 h2 h3 h4 t14 t15 ⊢;simp only [↓W8,↓XX,XY,↓reduceIte,seval,↓Af t14,↓Af t15,↓As h0,↓Av h1,↓Av h2,↓As h3,↓Aq h4];exact A6 rfl
def ZB {G:FV} {a b c:Tm} {m:Int} {e:Int}  (s0:e≠0) (h0:JI G 0 a c e):JO G (.mk 28 m [a,b]) .z e:=by refine C7 200 h0 fun n hn h0=>?_;have t14:=AZ (n:=n) (by omega) 14;have t15:=AZ (n:=n) (by omega) 15;have hnone:=BO (n:=n) (by omega) e;rw [VA];simp only [EM] at h0 t14 t15 hnone ⊢;simp only [↓W8,↓XX,XY,↓reduceIte,seval,↓Af t14,↓Af t15,↓Aq hnone,↓Av h0,s0];exact A6 rfl
def w9 {G:FV} {a b c r:Tm} {m:Int} {e:Int}  (h0:JI G 0 a c 0) (h1:JU G c b r e):JO G (.mk 28 m [a,b]) r e:=by refine Om 200 h0 h1 fun n hn h0 h1=>?_;have t14:=AZ (n:=n) (by omega) 14;have t15:=AZ (n:=n) (by omega) 15;rw [VA];simp only [EM] at h0 h1 t14 t15 ⊢;simp only [↓W8,↓XX,XY,↓reduceIte,seval,↓Af t14,↓Af t15,↓Av h0,↓Av h1];exact A6 rfl
def dY {G:FV} {a c:Tm} {m:Int} {e:Int}  (s0:e≠0) (h0:JS G 1 a 18 c e):JO G (.mk 30 m [a]) .z e:=by refine C7 200 h0 fun n hn h0=>?_;have t14:=AZ (n:=n) (by omega) 14;have t15:=AZ (n:=n) (by omega) 15;have hnone:=BO (n:=n) (by omega) e;rw [VA];simp only [EM] at h0 t14 t15 hnone ⊢;simp only [↓W8,↓XX,XY,↓reduceIte,seval,↓Af t14,↓Af t15,↓Aq hnone,↓As h0,s0];exact A6 rfl
def y3 {G:FV} {a c:Tm} {m:Int} {q:Int}  (h0:JS G 1 a 18 (.mk 18 q [c]) 0):JO G (.mk 30 m [a]) c 0:=by refine C7 200 h0 fun n hn h0=>?_;have t14:=AZ (n:=n) (by omega) 14;have t15:=AZ (n:=n) (by omega) 15;rw [VA];simp only [EM] at h0 t14 t15 ⊢;simp only [↓W8,↓XX,XY,↓reduceIte,seval,↓Af t14,↓Af t15,↓As h0];exact A6 rfl
def Ju {G:FV} {op m e:Int} {ks:List Tm} {r:Tm} (ho:op=21\/op=22\/op=23\/op=24\/op=27) (h:JP G (.mk op m ks) r e):JO G (.mk op m ks) r e:=by
 refine C7 200 h fun n hn h=>?_;have t14:=AZ (n:=n) (by omega) 14;have t15:=AZ (n:=n) (by omega) 15;rw [VA];obtain ⟨oP,nP,kP⟩:=r;rcases ho with rfl | rfl | rfl | rfl | rfl
 all_goals
  simp only [Am,Ai4] at t14 t15 h ⊢;simp only [↓W8,↓XX,XY,↓reduceIte,seval,↓Af t14,↓Af t15,↓Af h];exact A6 rfl
def aO {G:FV} {f x b:Tm} {m:Int} {e:Int}  (s0:e≠0) (h0:JS G 0 f 16 b e):JP G (.mk 21 m [f,x]) .z e:=by refine C7 200 h0 fun n hn h0=>?_;have hnone:=BO (n:=n) (by omega) e;rw [Y5];simp only [EM] at h0 hnone ⊢;simp only [↓Y7,↓XX,XY,↓reduceIte,seval,↓Aq hnone,↓As h0,s0];exact A6 rfl
def cK {G:FV} {f x a c:Tm} {m:Int} {q e:Int}  (s0:e≠0) (h0:JS G 0 f 16 (.mk 16 q [a,c]) 0) (h1:JC G 0 x a e):JP G (.mk 21 m [f,x]) .z e:=by refine Om 200 h0 h1 fun n hn h0 h1=>?_;have hnone:=BO (n:=n) (by omega) e;rw [Y5];simp only [EM] at h0 h1 hnone ⊢;simp only [↓Y7,↓XX,XY,↓reduceIte,seval,↓Aq hnone,↓As h0,↓As h1,s0];exact A6 rfl
def yK {G:FV} {f x a c:Tm} {m:Int} {q:Int}  (h0:JS G 0 f 16 (.mk 16 q [a,c]) 0) (h1:JC G 0 x a 0):JP G (.mk 21 m [f,x]) c 0:=by refine Om 200 h0 h1 fun n hn h0 h1=>?_;rw [Y5];simp only [EM] at h0 h1 ⊢;simp only [↓Y7,↓XX,XY,↓reduceIte,seval,↓As h0,↓As h1];exact A6 rfl
def X0 {G:FV} {x y a:Tm} {m:Int} {e:Int}  (s0:e≠0) (h0:JI G 0 x a e):JP G (.mk 22 m [x,y]) .z e:=by refine C7 200 h0 fun n hn h0=>?_;have hnone:=BO (n:=n) (by omega) e;rw [Y5];simp only [EM] at h0 hnone ⊢;simp only [↓Y7,↓XX,XY,↓reduceIte,seval,↓Aq hnone,↓Av h0,s0];exact A6 rfl
def Ys {G:FV} {x y a b:Tm} {m:Int} {e:Int}  (s0:e≠0) (h0:JI G 0 x a 0) (h1:JI G 0 y b e):JP G (.mk 22 m [x,y]) .z e:=by refine Om 200 h0 h1 fun n hn h0 h1=>?_;have hnone:=BO (n:=n) (by omega) e;rw [Y5];simp only [EM] at h0 h1 hnone ⊢;simp only [↓Y7,↓XX,XY,↓reduceIte,seval,↓Aq hnone,↓Av h0,↓Av h1,s0];exact A6 rfl
def lN {G:FV} {x y a b r:Tm} {m:Int} {e:Int}  (h0:JI G 0 x a 0) (h1:JI G 0 y b 0) (h2:JN (.mk 17 0 [a,b]) r e):JP G (.mk 22 m [x,y]) r e:=by refine SA 200 h0 h1 h2 fun n hn h0 h1 h2=>?_;have u17:=CM (n:=n) (by omega) 17 [a,b];rw [Y5];simp only [EM] at h0 h1 h2 u17 ⊢;simp only [↓Y7,↓XX,XY,↓reduceIte,seval,↓Af u17,↓Av h0,↓Av h1,↓Aq h2,↓CK];exact A6 rfl
def oQ {G:FV} {c x y:Tm} {m:Int} {e:Int}  (s0:e≠0) (h0:JC G 0 c Dh e):JP G (.mk 27 m [c,x,y]) .z e:=by refine C7 200 h0 fun n hn h0=>?_;have t15:=AZ (n:=n) (by omega) 15;have hnone:=BO (n:=n) (by omega) e;rw [Y5];simp only [EM] at h0 t15 hnone ⊢;simp only [↓Y7,↓XX,XY,↓reduceIte,seval,↓Af t15,↓Aq hnone,↓As h0,s0];exact A6 rfl
def iU {G:FV} {c x y a:Tm} {m:Int} {e:Int}  (s0:e≠0) (h0:JC G 0 c Dh 0) (h1:JI G 0 x a e):JP G (.mk 27 m [c,x,y]) .z e:=by refine Om 200 h0 h1 fun n hn h0 h1=>?_;have t15:=AZ (n:=n) (by omega) 15;have hnone:=BO (n:=n) (by omega) e;rw [Y5];simp only [EM] at h0 h1 t15 hnone ⊢;simp only [↓Y7,↓XX,XY,↓reduceIte,seval,↓Af t15,↓Aq hnone,↓As h0,↓Av h1,s0];exact A6 rfl
def nE {G:FV} {c x y a:Tm} {m:Int} {e:Int}  (s0:e≠0) (h0:JC G 0 c Dh 0) (h1:JI G 0 x a 0) (h2:JC G 0 y a e):JP G (.mk 27 m [c,x,y]) .z e:=by refine SA 200 h0 h1 h2 fun n hn h0 h1 h2=>?_;have t15:=AZ (n:=n) (by omega) 15;have hnone:=BO (n:=n) (by omega) e;rw [Y5];simp only [EM] at h0 h1 h2 t15 hnone ⊢;simp only [↓Y7,↓XX,XY,↓reduceIte,seval,↓Af t15,↓Aq hnone,↓As h0,↓Av h1,↓As h2,s0];exact A6 rfl
def Aa5 {G:FV} {c x y a:Tm} {m:Int}  (h0:JC G 0 c Dh 0) (h1:JI G 0 x a 0) (h2:JC G 0 y a 0):JP G (.mk 27 m [c,x,y]) a 0:=by refine SA 200 h0 h1 h2 fun n hn h0 h1 h2=>?_;have t15:=AZ (n:=n) (by omega) 15;rw [Y5];simp only [EM] at h0 h1 h2 t15 ⊢;simp only [↓Y7,↓XX,XY,↓reduceIte,seval,↓Af t15,↓As h0,↓Av h1,↓As h2];exact A6 rfl
def bP {G:FV} {x c:Tm} {m:Int} {e:Int}  (s0:e≠0) (h0:JS G 0 x 17 c e):JP G (.mk 23 m [x]) .z e:=by refine C7 200 h0 fun n hn h0=>?_;have hnone:=BO (n:=n) (by omega) e;rw [Y5];simp only [EM] at h0 hnone ⊢;simp only [↓Y7,↓XX,XY,↓reduceIte,seval,↓Aq hnone,↓As h0,s0];exact A6 rfl
def xJ {G:FV} {x a b:Tm} {m:Int} {q:Int}  (h0:JS G 0 x 17 (.mk 17 q [a,b]) 0):JP G (.mk 23 m [x]) a 0:=by refine C7 200 h0 fun n hn h0=>?_;rw [Y5];simp only [EM] at h0 ⊢;simp only [↓Y7,↓XX,XY,↓reduceIte,seval,↓As h0];exact A6 rfl
def Zy (s:Nat) (a b:Int) (h:Hp) (k:KT (IV×Hp)):Az (AT EE s false .max [3,3] [iv a,iv b]) s h k=k (iv (if a<b then b else a)) h [] [] :=gen_val' _ _ _ _
def oS {G:FV} {a b:Tm} {m:Int} {i e:Int}  (s0:e≠0) (h0:JL G a i e):JM G (.mk 3 m [a,b]) .z e:=by refine C7 200 h0 fun n hn h0=>?_;have hnone:=BO (n:=n) (by omega) e;rw [Sz];simp only [EM] at h0 hnone ⊢;simp only [↓Il,↓XX,XY,↓reduceIte,seval,↓Aq hnone,↓Af h0,s0];exact A6 rfl
def lL {G:FV} {a b:Tm} {m:Int} {i j e:Int} {G1:FV}  (s0:e≠0) (h0:JL G a i 0) (h1:JB G 1 a G1) (h2:JL G1 b j e):JM G (.mk 3 m [a,b]) .z e:=by refine SA 200 h0 h1 h2 fun n hn h0 h1 h2=>?_;have hnone:=BO (n:=n) (by omega) e;rw [Sz];simp only [EM] at h0 h1 h2 hnone ⊢;simp only [↓Il,↓XX,XY,↓reduceIte,seval,↓Aq hnone,↓Af h0,↓Av h1,↓Af h2,s0];exact A6 rfl
def z5 {G:FV} {a b:Tm} {m:Int} {i j:Int} {G1:FV}  (h0:JL G a i 0) (h1:JB G 1 a G1) (h2:JL G1 b j 0):JM G (.mk 3 m [a,b]) (.mk 2 (if i<j then j else i) []) 0:=by refine SA 200 h0 h1 h2 fun n hn h0 h1 h2=>?_;have tu:=G8 (n:=n) (by omega) (if i<j then j else i);rw [Sz];simp only [EM] at h0 h1 h2 tu ⊢;simp only [↓Il,↓XX,XY,↓reduceIte,seval,↓Aq tu,↓Af h0,↓Av h1,↓Af h2,Zy];exact A6 rfl
def Z3 {G:FV} {a b:Tm} {m:Int} {i e:Int}  (s0:e≠0) (h0:JL G a i e):JM G (.mk 6 m [a,b]) .z e:=by refine C7 200 h0 fun n hn h0=>?_;have hnone:=BO (n:=n) (by omega) e;rw [Sz];simp only [EM] at h0 hnone ⊢;simp only [↓Il,↓XX,XY,↓reduceIte,seval,↓Aq hnone,↓Af h0,s0];exact A6 rfl
def Zp {G:FV} {a b:Tm} {m:Int} {i j e:Int} {G1:FV}  (s0:e≠0) (h0:JL G a i 0) (h1:JB G 1 a G1) (h2:JL G1 b j e):JM G (.mk 6 m [a,b]) .z e:=by refine SA 200 h0 h1 h2 fun n hn h0 h1 h2=>?_;have hnone:=BO (n:=n) (by omega) e;rw [Sz];simp only [EM] at h0 h1 h2 hnone ⊢;simp only [↓Il,↓XX,XY,↓reduceIte,seval,↓Aq hnone,↓Af h0,↓Av h1,↓Af h2,s0];exact A6 rfl
def rP {G:FV} {a b:Tm} {m:Int} {i j:Int} {G1:FV}  (h0:JL G a i 0) (h1:JB G 1 a G1) (h2:JL G1 b j 0):JM G (.mk 6 m [a,b]) (.mk 2 (if i<j then j else i) []) 0:=by refine SA 200 h0 h1 h2 fun n hn h0 h1 h2=>?_;have tu:=G8 (n:=n) (by omega) (if i<j then j else i);rw [Sz];simp only [EM] at h0 h1 h2 tu ⊢;simp only [↓Il,↓XX,XY,↓reduceIte,seval,↓Aq tu,↓Af h0,↓Av h1,↓Af h2,Zy];exact A6 rfl
def eY {G:FV} {a b:Tm} {m:Int} {i e:Int}  (s0:e≠0) (h0:JL G a i e):JM G (.mk 4 m [a,b]) .z e:=by refine C7 200 h0 fun n hn h0=>?_;have hnone:=BO (n:=n) (by omega) e;rw [Sz];simp only [EM] at h0 hnone ⊢;simp only [↓Il,↓XX,XY,↓reduceIte,seval,↓Aq hnone,↓Af h0,s0];exact A6 rfl
def cZ {G:FV} {a b c:Tm} {m:Int} {i e:Int} {G1:FV}  (s0:e≠0) (h0:JL G a i 0) (h1:JB G 1 a G1) (h2:JI G1 1 b c e):JM G (.mk 4 m [a,b]) .z e:=by refine SA 200 h0 h1 h2 fun n hn h0 h1 h2=>?_;have hnone:=BO (n:=n) (by omega) e;rw [Sz];simp only [EM] at h0 h1 h2 hnone ⊢;simp only [↓Il,↓XX,XY,↓reduceIte,seval,↓Aq hnone,↓Af h0,↓Av h1,↓Av h2,s0];exact A6 rfl
def vQ {G:FV} {a b c r:Tm} {m:Int} {i e:Int} {G1:FV}  (h0:JL G a i 0) (h1:JB G 1 a G1) (h2:JI G1 1 b c 0) (h3:JN (.mk 3 0 [a,c]) r e):JM G (.mk 4 m [a,b]) r e:=by refine j7 200 h0 h1 h2 h3 fun n hn h0 h1 h2 h3=>?_;have u3:=CM (n:=n) (by omega) 3 [a,c];rw [Sz];simp only [EM] at h0 h1 h2 h3 u3 ⊢;simp only [↓Il,↓XX,XY,↓reduceIte,seval,↓Af u3,↓Af h0,↓Av h1,↓Av h2,↓Aq h3,↓CK];exact A6 rfl
def Zg {G:FV} {f x b:Tm} {m:Int} {e:Int}  (s0:e≠0) (h0:JS G 1 f 3 b e):JM G (.mk 5 m [f,x]) .z e:=by refine C7 200 h0 fun n hn h0=>?_;have hnone:=BO (n:=n) (by omega) e;rw [Sz];simp only [EM] at h0 hnone ⊢;simp only [↓Il,↓XX,XY,↓reduceIte,seval,↓Aq hnone,↓As h0,s0];exact A6 rfl
def d6 {G:FV} {f x a c:Tm} {m:Int} {q e:Int}  (s0:e≠0) (h0:JS G 1 f 3 (.mk 3 q [a,c]) 0) (h1:JC G 1 x a e):JM G (.mk 5 m [f,x]) .z e:=by refine Om 200 h0 h1 fun n hn h0 h1=>?_;have hnone:=BO (n:=n) (by omega) e;rw [Sz];simp only [EM] at h0 h1 hnone ⊢;simp only [↓Il,↓XX,XY,↓reduceIte,seval,↓Aq hnone,↓As h0,↓As h1,s0];exact A6 rfl
def yH {G:FV} {f x a c d r:Tm} {m:Int} {q e:Int}  (h0:JS G 1 f 3 (.mk 3 q [a,c]) 0) (h1:JC G 1 x a 0) (h2:X7 c x d) (h3:JN d r e):JM G (.mk 5 m [f,x]) r e:=by refine j7 200 h0 h1 h2 h3 fun n hn h0 h1 h2 h3=>?_;rw [Sz];simp only [EM] at h0 h1 h2 h3 ⊢;simp only [↓Il,↓XX,XY,↓reduceIte,seval,↓As h0,↓As h1,↓Av h2,↓Aq h3];exact A6 rfl
def cD {G:FV} {x c:Tm} {m:Int} {e:Int}  (s0:e≠0) (h0:JS G 1 x 6 c e):JM G (.mk 8 m [x]) .z e:=by refine C7 200 h0 fun n hn h0=>?_;have hnone:=BO (n:=n) (by omega) e;rw [Sz];simp only [EM] at h0 hnone ⊢;simp only [↓Il,↓XX,XY,↓reduceIte,seval,↓Aq hnone,↓As h0,s0];exact A6 rfl
def tV {G:FV} {x a b:Tm} {m:Int} {q:Int}  (h0:JS G 1 x 6 (.mk 6 q [a,b]) 0):JM G (.mk 8 m [x]) a 0:=by refine C7 200 h0 fun n hn h0=>?_;rw [Sz];simp only [EM] at h0 ⊢;simp only [↓Il,↓XX,XY,↓reduceIte,seval,↓As h0];exact A6 rfl
def lA {G:FV} {s x y r:Tm} {m:Int} {e:Int}  (h0:vW G (.mk 7 m [s,x,y]) r e):JM G (.mk 7 m [s,x,y]) r e:=by refine C7 200 h0 fun n hn h0=>?_;rw [Sz];simp only [EM] at h0 ⊢;simp only [↓Il,↓XX,XY,↓reduceIte,seval,↓Af h0];exact A6 rfl
def vF {G:FV} {p z s k r:Tm} {m:Int} {e:Int}  (h0:JR G (.mk 13 m [p,z,s,k]) r e):JM G (.mk 13 m [p,z,s,k]) r e:=by refine C7 200 h0 fun n hn h0=>?_;rw [Sz];simp only [EM] at h0 ⊢;simp only [↓Il,↓XX,XY,↓reduceIte,seval,↓Af h0];exact A6 rfl
def Afa {G:FV} {s x y:Tm} {m:Int} {i e:Int}  (s0:e≠0) (h0:JL G s i e):vW G (.mk 7 m [s,x,y]) .z e:=by refine C7 200 h0 fun n hn h0=>?_;have hnone:=BO (n:=n) (by omega) e;rw [c77];simp only [EM] at h0 hnone ⊢;simp only [↓fJ,↓XX,XY,↓reduceIte,seval,↓Aq hnone,↓Af h0,s0];exact A6 rfl
def Ad2 {G:FV} {s x y r:Tm} {m:Int} {i e:Int}  (s0:e≠0) (h0:JL G s i 0) (h1:JN s r e):vW G (.mk 7 m [s,x,y]) .z e:=by refine Om 200 h0 h1 fun n hn h0 h1=>?_;have hnone:=BO (n:=n) (by omega) e;rw [c77];simp only [EM] at h0 h1 hnone ⊢;simp only [↓fJ,↓XX,XY,↓reduceIte,seval,↓Aq hnone,↓Af h0,↓Aq h1,s0];exact A6 rfl
def Agw {G:FV} {s x y a b:Tm} {m:Int} {i q e:Int}  (s0:e≠0) (h0:JL G s i 0) (h1:JN s (.mk 6 q [a,b]) 0) (h2:JC G 1 x a e):vW G (.mk 7 m [s,x,y]) .z e:=by refine SA 200 h0 h1 h2 fun n hn h0 h1 h2=>?_;have hnone:=BO (n:=n) (by omega) e;rw [c77];simp only [EM] at h0 h1 h2 hnone ⊢;simp only [↓fJ,↓XX,XY,↓reduceIte,seval,↓Aq hnone,↓Af h0,↓Aq h1,↓As h2,s0];exact A6 rfl
def Abm {G:FV} {s x y a b d:Tm} {m:Int} {i q e:Int}  (s0:e≠0) (h0:JL G s i 0) (h1:JN s (.mk 6 q [a,b]) 0) (h2:JC G 1 x a 0) (h3:X7 b x d) (h4:JC G 1 y d e):vW G (.mk 7 m [s,x,y]) .z e:=by refine zR 200 h0 h1 h2 h3 h4 fun n hn h0 h1 h2 h3 h4=>?_;have hnone:=BO (n:=n) (by omega) e;rw [c77];simp only [EM] at h0 h1 h2 h3 h4 hnone ⊢;simp only [↓fJ,↓XX,XY,↓reduceIte,seval,↓Aq hnone,↓Af h0,↓Aq h1,↓As h2,↓Av h3,↓As h4,s0];exact A6 rfl
def kq {G:FV} {s x y a b d:Tm} {m:Int} {i q:Int}  (h0:JL G s i 0) (h1:JN s (.mk 6 q [a,b]) 0) (h2:JC G 1 x a 0) (h3:X7 b x d) (h4:JC G 1 y d 0):vW G (.mk 7 m [s,x,y]) (.mk 6 q [a,b]) 0:=by refine zR 200 h0 h1 h2 h3 h4 fun n hn h0 h1 h2 h3 h4=>?_;rw [c77];simp only [EM] at h0 h1 h2 h3 h4 ⊢;simp only [↓fJ,↓XX,XY,↓reduceIte,seval,↓Af h0,↓Aq h1,↓As h2,↓Av h3,↓As h4];exact A6 rfl
def Adl {G:FV} {p z s k:Tm} {m:Int} {i e:Int} {G1:FV}  (s0:e≠0) (h0:JB G 1 (.mk 10 0 []) G1) (h1:JL G1 p i e):JR G (.mk 13 m [p,z,s,k]) .z e:=by refine Om 200 h0 h1 fun n hn h0 h1=>?_;have t10:=AZ (n:=n) (by omega) 10;have hnone:=BO (n:=n) (by omega) e;rw [c78];simp only [EM] at h0 h1 t10 hnone ⊢;simp only [↓cV,↓XX,XY,↓reduceIte,seval,↓Af t10,↓Aq hnone,↓Av h0,↓Af h1,s0];exact A6 rfl
def AdW {G:FV} {p z s k z0:Tm} {m:Int} {i e:Int} {G1:FV}  (s0:e≠0) (h0:JB G 1 (.mk 10 0 []) G1) (h1:JL G1 p i 0) (h2:X7 p (.mk 11 0 []) z0) (h3:JC G 1 z z0 e):JR G (.mk 13 m [p,z,s,k]) .z e:=by refine j7 200 h0 h1 h2 h3 fun n hn h0 h1 h2 h3=>?_;have t10:=AZ (n:=n) (by omega) 10;have t11:=AZ (n:=n) (by omega) 11;have hnone:=BO (n:=n) (by omega) e;rw [c78];simp only [EM] at h0 h1 h2 h3 t10 t11 hnone ⊢;simp only [↓cV,↓XX,XY,↓reduceIte,seval,↓Af t10,↓Af t11,↓Aq hnone,↓Av h0,↓Af h1,↓Av h2,↓As h3,s0];exact A6 rfl
def Afw {G:FV} {p z s k z0 w0:Tm} {m:Int} {i e:Int} {G1 G2:FV}  (s0:e≠0) (h0:JB G 1 (.mk 10 0 []) G1) (h1:JL G1 p i 0) (h2:X7 p (.mk 11 0 []) z0) (h3:JC G 1 z z0 0) (h4:JB G1 1 p G2) (h5:JNx p w0) (h6:JC G2 1 s w0 e):JR G (.mk 13 m [p,z,s,k]) .z e:=by refine ev7 200 h0 h1 h2 h3 h4 h5 h6 fun n hn h0 h1 h2 h3 h4 h5 h6=>?_;have t10:=AZ (n:=n) (by omega) 10;have t11:=AZ (n:=n) (by omega) 11;have hnone:=BO (n:=n) (by omega) e;rw [c78];simp only [EM] at h0 h1 h2 h3 h4 h5 h6 t10 t11 hnone ⊢;simp only [↓cV,↓XX,XY,↓reduceIte,seval,↓Af t10,↓Af t11,↓Aq hnone,↓Av h0,↓Af h1,↓Av h2,↓As h3,↓Av h4,↓Aq h5,↓As h6,s0];exact A6 rfl
def AdN {G:FV} {p z s k z0 w0:Tm} {m:Int} {i e:Int} {G1 G2:FV}  (s0:e≠0) (h0:JB G 1 (.mk 10 0 []) G1) (h1:JL G1 p i 0) (h2:X7 p (.mk 11 0 []) z0) (h3:JC G 1 z z0 0) (h4:JB G1 1 p G2) (h5:JNx p w0) (h6:JC G2 1 s w0 0) (h7:JC G 1 k (.mk 10 0 []) e):JR G (.mk 13 m [p,z,s,k]) .z e:=by refine ev8 200 h0 h1 h2 h3 h4 h5 h6 h7 fun n hn h0 h1 h2 h3 h4 h5 h6 h7=>?_;have t10:=AZ (n:=n) (by omega) 10;have t11:=AZ (n:=n) (by omega) 11;have hnone:=BO (n:=n) (by omega) e;rw [c78];simp only [EM] at h0 h1 h2 h3 h4 h5 h6 h7 t10 t11 hnone ⊢;simp only [↓cV,↓XX,XY,↓reduceIte,seval,↓Af t10,↓Af t11,↓Aq hnone,↓Av h0,↓Af h1,↓Av h2,↓As h3,↓Av h4,↓Aq h5,↓As h6,↓As h7,s0];exact A6 rfl
def kr {G:FV} {p z s k z0 w0 d r:Tm} {m:Int} {i e:Int} {G1 G2:FV}  (h0:JB G 1 (.mk 10 0 []) G1) (h1:JL G1 p i 0) (h2:X7 p (.mk 11 0 []) z0) (h3:JC G 1 z z0 0) (h4:JB G1 1 p G2) (h5:JNx p w0) (h6:JC G2 1 s w0 0) (h7:JC G 1 k (.mk 10 0 []) 0) (h8:X7 p k d) (h9:JN d r e):JR G (.mk 13 m [p,z,s,k]) r e:=by refine Aax 200 h0 h1 h2 h3 h4 h5 h6 h7 h8 h9 fun n hn h0 h1 h2 h3 h4 h5 h6 h7 h8 h9=>?_;have t10:=AZ (n:=n) (by omega) 10;have t11:=AZ (n:=n) (by omega) 11;rw [c78];simp only [EM] at h0 h1 h2 h3 h4 h5 h6 h7 h8 h9 t10 t11 ⊢;simp only [↓cV,↓XX,XY,↓reduceIte,seval,↓Af t10,↓Af t11,↓Av h0,↓Af h1,↓Av h2,↓As h3,↓Av h4,↓Aq h5,↓As h6,↓As h7,↓Av h8,↓Aq h9];exact A6 rfl
def Agi {G:FV} {m:Int}  (s0:m≠2) (s1:-1000<=m) (s2:m<=1000):JI G 1 (.mk 2 m []) (.mk 2 (m+1) []) 0:=by refine ⟨200,fun n hn=>?_⟩;obtain ⟨n,rfl⟩:=psc n (by omega);have tu:=G8 (n:=n) (by omega) (m+1);rw [QR];simp only [EM] at tu ⊢;simp only [↓QT,↓XX,XY,↓reduceIte,seval,↓Aq tu,s0,s1,s2,(show BC (m+1)=m+1 from Ax (by omega) (by omega))];exact A6 rfl
def vA {G:FV} {m:Int}  : JI G 1 (.mk 10 m []) (.mk 2 0 []) 0:=by refine ⟨200,fun n hn=>?_⟩;obtain ⟨n,rfl⟩:=psc n (by omega);have tu:=G8 (n:=n) (by omega) 0;rw [QR];simp only [EM] at tu ⊢;simp only [↓QT,↓XX,XY,↓reduceIte,seval,↓Aq tu];exact A6 rfl
def Acu {G:FV} {m:Int}  : JI G 1 (.mk 14 m []) (.mk 2 0 []) 0:=by refine ⟨200,fun n hn=>?_⟩;obtain ⟨n,rfl⟩:=psc n (by omega);have tu:=G8 (n:=n) (by omega) 0;rw [QR];simp only [EM] at tu ⊢;simp only [↓QT,↓XX,XY,↓reduceIte,seval,↓Aq tu];exact A6 rfl
def oW {G:FV} {m:Int}  : JI G 1 (.mk 11 m []) natT 0:=by refine ⟨200,fun n hn=>?_⟩;obtain ⟨n,rfl⟩:=psc n (by omega);have t10:=AZ (n:=n) (by omega) 10;rw [QR];simp only [EM] at t10 ⊢;simp only [↓QT,↓XX,XY,↓reduceIte,seval,↓Af t10];exact A6 rfl
def fM {G:FV} {a:Tm} {m:Int} {e:Int}  (s0:e≠0) (h0:JC G 1 a natT e):JI G 1 (.mk 12 m [a]) .z e:=by refine C7 200 h0 fun n hn h0=>?_;have t10:=AZ (n:=n) (by omega) 10;have hnone:=BO (n:=n) (by omega) e;rw [QR];simp only [EM] at h0 t10 hnone ⊢;simp only [↓QT,↓XX,XY,↓reduceIte,seval,↓Af t10,↓Aq hnone,↓As h0,s0];exact A6 rfl
def rO {G:FV} {a:Tm} {m:Int}  (h0:JC G 1 a natT 0):JI G 1 (.mk 12 m [a]) natT 0:=by refine C7 200 h0 fun n hn h0=>?_;have t10:=AZ (n:=n) (by omega) 10;rw [QR];simp only [EM] at h0 t10 ⊢;simp only [↓QT,↓XX,XY,↓reduceIte,seval,↓Af t10,↓As h0];exact A6 rfl
def Yu {G:FV} {a:Tm} {m:Int} {e:Int}  (s0:e≠0) (h0:JC G 1 a tyT e):JI G 1 (.mk 18 m [a]) .z e:=by refine C7 200 h0 fun n hn h0=>?_;have t14:=AZ (n:=n) (by omega) 14;have hnone:=BO (n:=n) (by omega) e;rw [QR];simp only [EM] at h0 t14 hnone ⊢;simp only [↓QT,↓XX,XY,↓reduceIte,seval,↓Af t14,↓Aq hnone,↓As h0,s0];exact A6 rfl
def nV {G:FV} {a:Tm} {m:Int}  (h0:JC G 1 a tyT 0):JI G 1 (.mk 18 m [a]) (.mk 2 0 []) 0:=by refine C7 200 h0 fun n hn h0=>?_;have t14:=AZ (n:=n) (by omega) 14;have tu:=G8 (n:=n) (by omega) 0;rw [QR];simp only [EM] at h0 t14 tu ⊢;simp only [↓QT,↓XX,XY,↓reduceIte,seval,↓Af t14,↓Aq tu,↓As h0];exact A6 rfl
def bC {G:FV} {a b:Tm} {m:Int} {e:Int}  (s0:e≠0) (h0:JI G 0 a b e):JI G 1 (.mk 19 m [a]) .z e:=by refine C7 200 h0 fun n hn h0=>?_;have hnone:=BO (n:=n) (by omega) e;rw [QR];simp only [EM] at h0 hnone ⊢;simp only [↓QT,↓XX,XY,↓reduceIte,seval,↓Aq hnone,↓Av h0,s0];exact A6 rfl
def yS {G:FV} {a b:Tm} {m:Int}  (h0:JI G 0 a b 0):JI G 1 (.mk 19 m [a]) (.mk 18 0 [b]) 0:=by refine C7 200 h0 fun n hn h0=>?_;have u18:=CM (n:=n) (by omega) 18 [b];rw [QR];simp only [EM] at h0 u18 ⊢;simp only [↓QT,↓XX,XY,↓reduceIte,seval,↓Af u18,↓Av h0,↓Dz];exact A6 rfl
def mX {G:FV} {m:Int}  (h0:Y0 G 1 [] tyT 0):JI G 1 (.mk 15 m []) tyT 0:=by refine C7 200 h0 fun n hn h0=>?_;have t14:=AZ (n:=n) (by omega) 14;rw [QR];simp only [EM] at h0 t14 ⊢;simp only [↓QT,↓XX,XY,↓reduceIte,seval,↓Af t14,↓As h0];exact A6 rfl
def YE {G:FV} {a b:Tm} {m:Int} {e:Int}  (s0:e≠0) (h0:Y0 G 1 [a,b] tyT e):JI G 1 (.mk 16 m [a,b]) .z e:=by refine C7 200 h0 fun n hn h0=>?_;have t14:=AZ (n:=n) (by omega) 14;have hnone:=BO (n:=n) (by omega) e;rw [QR];simp only [EM] at h0 t14 hnone ⊢;simp only [↓QT,↓XX,XY,↓reduceIte,seval,↓Af t14,↓Aq hnone,↓As h0,s0];exact A6 rfl
def i8 {G:FV} {a b:Tm} {m:Int}  (h0:Y0 G 1 [a,b] tyT 0):JI G 1 (.mk 16 m [a,b]) tyT 0:=by refine C7 200 h0 fun n hn h0=>?_;have t14:=AZ (n:=n) (by omega) 14;rw [QR];simp only [EM] at h0 t14 ⊢;simp only [↓QT,↓XX,XY,↓reduceIte,seval,↓Af t14,↓As h0];exact A6 rfl
def Yb {G:FV} {a b:Tm} {m:Int} {e:Int}  (s0:e≠0) (h0:Y0 G 1 [a,b] tyT e):JI G 1 (.mk 17 m [a,b]) .z e:=by refine C7 200 h0 fun n hn h0=>?_;have t14:=AZ (n:=n) (by omega) 14;have hnone:=BO (n:=n) (by omega) e;rw [QR];simp only [EM] at h0 t14 hnone ⊢;simp only [↓QT,↓XX,XY,↓reduceIte,seval,↓Af t14,↓Aq hnone,↓As h0,s0];exact A6 rfl
def lF {G:FV} {a b:Tm} {m:Int}  (h0:Y0 G 1 [a,b] tyT 0):JI G 1 (.mk 17 m [a,b]) tyT 0:=by refine C7 200 h0 fun n hn h0=>?_;have t14:=AZ (n:=n) (by omega) 14;rw [QR];simp only [EM] at h0 t14 ⊢;simp only [↓QT,↓XX,XY,↓reduceIte,seval,↓Af t14,↓As h0];exact A6 rfl
def Gf {G:FV} {op m e:Int} {ks:List Tm} {r:Tm} (ho:20<=op) (h:JO G (.mk op m ks) r e):JI G 0 (.mk op m ks) r e:=by
 refine C7 200 h fun n hn h=>?_;rw [QR];obtain ⟨oP,nP,kP⟩:=r;have h1:op≠1:=by omega
 have h20:(20:Int)<=op:=ho;simp only [Am] at h ⊢;simp only [↓QT,↓XX,XY,↓reduceIte,seval,h1,h20,↓Af h];exact A6 rfl
def Ct {G:FV} {op m e:Int} {ks:List Tm} {r:Tm} (ho:op=3\/op=6\/op=4\/op=5\/op=8\/op=9\/op=7\/op=13) (h:JM G (.mk op m ks) r e):JI G 1 (.mk op m ks) r e:=by
 refine C7 200 h fun n hn h=>?_;rw [QR];obtain ⟨oP,nP,kP⟩:=r;rcases ho with rfl | rfl | rfl | rfl | rfl | rfl | rfl | rfl
 all_goals
  simp only [Am] at h ⊢;simp only [↓QT,↓XX,XY,↓reduceIte,seval,↓Af h];exact A6 rfl
def wM {g:AR} {st e:Int} {i:Nat} {T s r:Tm} (hi:i<g.length) (hl:g.length<=100000) (hg:g[g.length - 1 - i]?=some (st,T)) (h0:JSh T ((i:Int)+1) 0 s) (h1:JN s r e):JI (AM g) st (.mk 1 (i:Int) []) r e:=by
 obtain ⟨N0,h0⟩:=h0;obtain ⟨N1,h1⟩:=h1;refine ⟨N0+N1+200,fun n hn=>?_⟩;obtain ⟨n,rfl⟩:=psc n (by omega);have hs:=h0 n (by omega);have hN:=h1 n (by omega);rw [QR];have hget:(g.map v1)[g.length - 1 - i]?=some (v1 (st,T)):=by rw [Ajv,hg];rfl
 have hix:=fun {β:Type}=>Bq (β:=β) (size:=4) hget rfl;have hlen:(g.map v1).length=g.length:=Ajw _;have w1:BC ((g.length:Int) - 1)=(g.length:Int) - 1:=by rw [Ax]<;>omega
 have w2:BC ((g.length:Int) - 1 - i)=((g.length - 1 - i:Nat):Int):=by rw [Ax (by omega) (by omega)];omega
 have wi:BC ((i:Int)+1)=(i:Int)+1:=by rw [Ax]<;>omega
 have hno:¬ ((g.length:Int)<=i):=by omega
 obtain ⟨oT,nT,kT⟩:=T;obtain ⟨os,ns,ks⟩:=s;obtain ⟨oR,nR,kR⟩:=r;simp only [AM,Am,Ai4,v1,Tm.op,Tm.n,Tm.kids] at hix hs hN ⊢;simp only [↓QT,↓XX,XY,↓reduceIte,seval,hlen,hno,w1,w2,wi,↓hix,FV.cells,↓Av hs,↓Aq hN];exact A6 rfl
def pS {G:FV} {st:Int} {a:Tm} {ks:List Tm} (hl:ks.length<=1000) (h:∀t∈ks,JC G st t a 0):Y0 G st ks a 0:=by
 have hN:∃N,∀n,N<=n->∀t∈ks,BE (SS dt n 33 [.fv G,iv st,.fv t.enc,.fv a.enc] ⟨[],[]⟩) (.int .i64 0):=by
  clear hl
  induction ks with
  | nil=>exact ⟨0,fun n hn t ht=>by simp at ht⟩
  | cons t ks ih =>
   obtain ⟨N1,h1⟩:=ih (fun t ht=>h t (by simp [ht]));obtain ⟨N2,h2⟩:=h t (by simp);refine ⟨N1+N2,fun n hn x hx=>?_⟩;rcases Ajp.1 hx with rfl | hx
   ·exact h2 n (by omega)
   ·exact h1 n (by omega) x hx
 obtain ⟨N,hN⟩:=hN;refine ⟨N+2000,fun n hn=>?_⟩;obtain ⟨n,rfl⟩:=psc n (by omega);exact Aao ks hl (by omega) (hN n (by omega))
theorem ZF {n:Nat} {G:FV} {st e:Int} {a:Tm} (ks p0:List Tm) (t0:Tm) (q0:List Tm) (hks:ks=p0++t0::q0) (hl:ks.length<=1000) (hn:ks.length<n) (he:e≠0) (h:∀t∈p0,BE (SS dt n 33 [.fv G,iv st,.fv t.enc,.fv a.enc] ⟨[],[]⟩) (.int .i64 0)) (h0:BE (SS dt n 33 [.fv G,iv st,.fv t0.enc,.fv a.enc] ⟨[],[]⟩) (.int .i64 e)) :
  BE (SS dt (n+1) 51 [.fv G,iv st,.fv (.sl (ks.map Tm.enc)),.fv a.enc] ⟨[],[]⟩) (.int .i64 e):=by
 rw [c51];obtain ⟨oa,na,ka⟩:=a;simp only [Am] at h h0 ⊢;simp only [IZ,pR,↓XX,XY,↓reduceIte,seval];refine Ba (Q:=fun r=>BE r _) (fun k V H=>∃pre rest,p0=pre++rest/\rest.length=k/\V=[.fv G,iv st,.fv (.sl (ks.map Tm.enc)),.ptr (.own 53477376) 0,iv pre.length] /\
  H=⟨[(53477376,.row [iv oa,iv na,.fv (.sl (ka.map Tm.enc))] false)],[]⟩) ?_ n p0.length _ _ (by rw [hks] at hn;simp at hn;omega) ⟨[],p0,rfl,rfl,rfl,rfl⟩
 rintro k V H rec ⟨pre,rest,hk,hkl,rfl,rfl⟩ hrec;have hkk:ks.length=pre.length+rest.length+1+q0.length:=by rw [hks,hk];simp;omega
 have hi:(pre.length:Int)<ks.length:=by rw [hkk];omega
 cases rest with
 | nil =>have hg:=BY (l:=ks) (pre:=pre) (a:=t0) (rest:=q0) (by rw [hks,hk];simp);obtain ⟨o,p,l⟩:=t0;rw [Am] at h0;simp only [IZ,LU,pR,↓XX,XY,↓reduceIte,seval,hi,↓Bq (AN hg) (Bk _ _ _),↓B8,↓As h0,he];exact Aw _ _
 | cons t rest =>have hg:=BY (l:=ks) (pre:=pre) (a:=t) (rest:=rest++t0::q0) (by rw [hks,hk];simp);have hc:=h t (by rw [hk];simp);have hwi:BC ((pre.length:Int)+1)=((pre++[t]).length:Int):=(Ax (by omega) (by omega)).trans (by simp);simp only [Ai3] at hkl;have h9:=hrec rest.length [.fv G,iv st,.fv (.sl (ks.map Tm.enc)),.ptr (.own 53477376) 0,iv (pre++[t]).length] _ (by omega) ⟨pre++[t],rest,by rw [hk];simp,rfl,rfl,rfl⟩;obtain ⟨o,p,l⟩:=t;rw [Am] at hc;simp only [IZ,LU,pR,↓XX,XY,↓reduceIte,seval,hi,↓Bq (AN hg) (Bk _ _ _),↓B8,↓As hc,hwi];exact h9
def xF {G:FV} {st e:Int} {a x y:Tm} (he:e≠0) (h0:JC G st x a e):Y0 G st [x,y] a e:=by obtain ⟨N,h0⟩:=h0;refine ⟨N+2000,fun n hn=>?_⟩;obtain ⟨n,rfl⟩:=psc n (by omega);exact ZF [x,y] [] x [y] rfl (by simp) (by simp;omega) he (by simp) (h0 n (by omega))
def wZ {G:FV} {st e:Int} {a x y:Tm} (he:e≠0) (h:JC G st x a 0) (h0:JC G st y a e):Y0 G st [x,y] a e:=by obtain ⟨N,h0⟩:=h0;obtain ⟨M,h⟩:=h;refine ⟨N+M+2000,fun n hn=>?_⟩;obtain ⟨n,rfl⟩:=psc n (by omega);exact ZF [x,y] [x] y [] rfl (by simp) (by simp;omega) he (by simpa using h n (by omega)) (h0 n (by omega))
def Abj {G:FV} {st:Int} {a x y:Tm} (h:JC G st x a 0) (h0:JC G st y a 0):Y0 G st [x,y] a 0 :=
 pS (by simp) (fun t ht=>by
  simp only [Ajp,List.not_mem_nil,or_false] at ht;rcases ht with rfl | rfl
  ·exact h
  ·exact h0)
def jb (g:AR) (st:Int) (a:Tm) (hg:g.length<=100000):JB (AM g) st a (AM (g++[(st,a)])) :=⟨1,fun n hn=>y5 g st a hg (by omega)⟩
def jsh {k:Nat} {t:Tm} (d c:Int) (h:t.sc k) (hw:t.wt<=1000000000000000) (hc:0<=c) (hc2:c<=1000000):JSh t d c (t.shift d c) :=⟨t.wt+2,fun n hn=>CE n t d c (by omega) (CT t k h) hc (by omega)⟩
def zK {k k':Nat} {t u:Tm} (h:t.sc k) (hw:t.wt<=1000000000000000) (hu:u.sc k') (huw:u.wt<=1000000000000000):X7 t u (t.subst 0 0 u) :=⟨t.wt+u.wt+5,fun n hn=>L8 t u 0 (CT u k' hu) (by omega) (by omega) (CT t k h) (by omega) (by omega) (by omega)⟩
def jf (t:Tm) (hw:t.wt<=10000000000000):JF t (t.free 0) :=⟨t.wt+2,fun n hn=>VD n t 0 (by omega) (by omega) (by omega) (by omega)⟩
def jn {k:Nat} {t:Tm} (hk:k<=1000) (h:t.sc k) (hd:t.dp<=20000):∃u e,JN t u e/\((e=0/\NOk k u\/(e=5\/e=17)/\u=.z)/\∃f,AF f t=some (u,e)):=Gs hk h hd
def je {k:Nat} (hk:k<=1000) {a b:Tm} (ha:a.sc k) (hb:b.sc k) (hda:a.dp<=20000) (hdb:b.dp<=20000):∃w e,JE a b w e /\
  ((e=5\/e=17)\/e=0/\∃f x f' y,AF f a=some (x,0)/\AF f' b=some (y,0)/\NOk k x/\NOk k y/\w=x.eta.same y.eta):=YS hk ha hb hda hdb
inductive PV where
 | nil
 | mk (op n:Int) (k:List PV) (t:Tm) (e:List PV)
def PV.enc:PV->FV
 | .nil=>.nilp
 | .mk op n k (.mk to tn tk) e=>.fp [.int .i64 op,.int .i64 n,.sl (encL k),.int .i64 to,.int .i64 tn,.sl (tk.map Tm.enc),encE e] 0
where
 encL:List PV->List FV
  | []=>[]
  | v::l=>v.enc::encL l
 encE:List PV->FV
  | []=>.nilp
  | v::l=>.fp [v.enc,encE l] 0
def PV.encEnv:List PV->FV
 | []=>.nilp
 | v::l=>.fp [v.enc,encEnv l] 0
theorem bR (l:List PV):PV.enc.encL l=l.map PV.enc:=by
 induction l with
 | nil=>rfl
 | cons t l ih=>simp [PV.enc.encL,ih]
theorem cN (l:List PV):PV.enc.encE l=PV.encEnv l:=by
 induction l with
 | nil=>rfl
 | cons t l ih=>simp [PV.enc.encE,PV.encEnv,ih]
theorem Gn:PV.nil.enc=.nilp:=rfl
theorem Bb (op n:Int) (k:List PV) (bo bn:Int) (bk:List Tm) (e:List PV):(PV.mk op n k (.mk bo bn bk) e).enc =
  .fp [.int .i64 op,.int .i64 n,.sl (k.map PV.enc),.int .i64 bo,.int .i64 bn,.sl (bk.map Tm.enc),PV.encEnv e] 0:=by simp only [PV.enc,bR,cN]
theorem QY:PV.encEnv []=.nilp:=rfl
theorem OA (v:PV) (l:List PV):PV.encEnv (v::l)=.fp [v.enc,PV.encEnv l] 0:=rfl
def PV.var (n:Int):PV:=.mk 1 n [] .z []
theorem RT (n:Int):(PV.var n).enc=.fp [.int .i64 1,.int .i64 n,.sl [],.int .i64 0,.int .i64 0,.sl [],.nilp] 0:=by rw [PV.var,Tm.z,Bb];rfl
theorem Mv (v:PV):∀l,v.enc≠.agg l:=by
 intro l h;cases v with
 | nil=>cases h
 | mk op n k t e=>obtain ⟨bo,bn,bk⟩:=t;rw [Bb] at h;cases h
theorem gF (v:PV):G9 v.enc=true:=by
 cases v with
 | nil=>rfl
 | mk op n k t e=>obtain ⟨bo,bn,bk⟩:=t;rw [Bb];rfl
theorem Ek (v:PV):v.enc.cells=[v.enc]:=by
 cases v with
 | nil=>rfl
 | mk op n k t e=>obtain ⟨bo,bn,bk⟩:=t;rw [Bb];rfl
theorem rM {β:Type} {l:List PV} {i:Nat} {v:PV} (h:l[i]?=some v) (k:IV->Option β):AQ 1 (.fv (.sl (l.map PV.enc))) (iv i) k=k (.fv (.fp [v.enc] 0)):=by
 have h1:(l.map PV.enc)[i]?=some v.enc:=by rw [Ajv,h];rfl
 rw [Bq h1 (by rw [Ek];rfl),Ek]
theorem bZ:EE.T 146=some ⟨1,24,.slice 122,[.nils]⟩:=by kernel_rfl
theorem YA:EE.T 122=some ⟨1,8,.ptr,[.fv .nilp]⟩:=by kernel_rfl
theorem AbR (a:PV) (s:Nat) (h:Hp) (k:KT (IV×Hp)):Az (Al EE 146 1 [(0,.fv a.enc)]) s h k=k (.clip [a.enc]) h [] []:=by
 cases a with
 | nil=>exact Cx bZ YA (by decide) (cells:=[.nilp]) rfl k
 | mk op n kk t e =>obtain ⟨bo,bn,bk⟩:=t;rw [Bb];exact Cx bZ YA (by decide) (cells:=[.fp [.int .i64 op,.int .i64 n,.sl (kk.map PV.enc),.int .i64 bo,.int .i64 bn,.sl (bk.map Tm.enc),PV.encEnv e] 0]) rfl k
theorem LB (a:PV):a.enc=.nilp\/∃l,a.enc=.fp l 0:=by
 cases a with
 | nil=>exact .inl rfl
 | mk op n kk t e=>obtain ⟨bo,bn,bk⟩:=t;exact .inr ⟨_,Bb ..⟩
theorem AcL (a b:PV) (s:Nat) (h:Hp) (k:KT (IV×Hp)):Az (Al EE 146 2 [(0,.fv a.enc),(1,.fv b.enc)]) s h k=k (.clip [a.enc,b.enc]) h [] []:=by
 have key:∀x y:FV,(x=.nilp\/∃l,x=.fp l 0)->(y=.nilp\/∃l,y=.fp l 0)->Az (Al EE 146 2 [(0,.fv x),(1,.fv y)]) s h k=k (.clip [x,y]) h [] []:=by
  rintro x y (rfl | ⟨la,rfl⟩) (rfl | ⟨lb,rfl⟩)
  ·exact Cx (len:=2) bZ YA (by decide) (cells:=[.nilp,.nilp]) rfl k
  ·exact Cx (len:=2) bZ YA (by decide) (cells:=[.nilp,.fp lb 0]) rfl k
  ·exact Cx (len:=2) bZ YA (by decide) (cells:=[.fp la 0,.nilp]) rfl k
  ·exact Cx (len:=2) bZ YA (by decide) (cells:=[.fp la 0,.fp lb 0]) rfl k
 exact key _ _ (LB a) (LB b)
theorem zU (b d:PV) (s:Nat) (h:Hp) (k:KT (IV×Hp)):Az (Al EE 146 4 [(0,.fv .nilp),(1,.fv b.enc),(2,.fv .nilp),(3,.fv d.enc)]) s h k=k (.clip [.nilp,b.enc,.nilp,d.enc]) h [] []:=by
 have key:∀x y:FV,(x=.nilp\/∃l,x=.fp l 0)->(y=.nilp\/∃l,y=.fp l 0)->Az (Al EE 146 4 [(0,.fv .nilp),(1,.fv x),(2,.fv .nilp),(3,.fv y)]) s h k=k (.clip [.nilp,x,.nilp,y]) h [] []:=by
  rintro x y (rfl | ⟨la,rfl⟩) (rfl | ⟨lb,rfl⟩)
  ·exact Cx (len:=4) bZ YA (by decide) (cells:=[.nilp,.nilp,.nilp,.nilp]) rfl k
  ·exact Cx (len:=4) bZ YA (by decide) (cells:=[.nilp,.nilp,.nilp,.fp lb 0]) rfl k
  ·exact Cx (len:=4) bZ YA (by decide) (cells:=[.nilp,.fp la 0,.nilp,.nilp]) rfl k
  ·exact Cx (len:=4) bZ YA (by decide) (cells:=[.nilp,.fp la 0,.nilp,.fp lb 0]) rfl k
 exact key _ _ (LB b) (LB d)
theorem AbT {β:Type} (v:PV) (z:List IV) (o:Nat) (k:List IV->Option β):G5 z o 1 (.fv v.enc) k=Gi z o (.fv v.enc) k:=by unfold G5;rw [fX,gF];rfl
theorem ZS {β:Type} (l:List PV) (z:List IV) (o:Nat) (k:List IV->Option β):G5 z o 1 (.fv (PV.encEnv l)) k=Gi z o (.fv (PV.encEnv l)) k:=by
 unfold G5;rw [fX,show G9 (PV.encEnv l)=true by cases l<;>rfl]
 rfl
abbrev Dd (f:FuncId):IV:=.agg [.func (.func f) [.ptr (.ext 0) 0] []]
abbrev sD:Blk:=.map [(5,Dd 120),(8,Dd 121),(9,Dd 121),(13,Dd 122),(30,Dd 123),(19,Dd 124)]
abbrev MX (s w r e:Int):List Blk:=[.row [iv s,iv w,iv r,iv e,.mapr (.ext 1)] false,sD]
theorem mB (s w r e:Int):∀j,Ref.own j ∉ (MX s w r e).flatMap Blk.refs:=by intro j h;simp only [MX,List.flatMap_cons,List.flatMap_nil,Blk.refs,IV.refs.refsL,IV.refs,Ai5,Ai4,Ajm,Ajo,Ajq,Ajp,List.not_mem_nil,or_false,reduceCtorEq] at h
theorem kQ (s w r e s' w' r' e':Int):ExtX (MX s w r e) (MX s' w' r' e'):=⟨rfl,rfl,rfl⟩
section
variable {ih:Ah} {f:FuncId} {w:FV} {s u r e s' u' r' e':Int} (own:List (Nat×Blk)) (k:KT (IV×Hp))
theorem XN (args:List IV) (ks:List Bool) (hks:∀b∈ks,b=false) {vs:List FV} (hz:Bu args=some vs) (hr:Bz (ih f (.ptr (.ext 0) 0::vs.map .fv) ⟨[],MX s u r e⟩) w (MX s' u' r' e')) :
  A5 (true::ks) false false ih f (.ptr (.ext 0) 0::args) ⟨own,MX s u r e⟩ k=k (.fv w) ⟨own,MX s' u' r' e'⟩ [.ext 1,.ext 0] [.ext 0,.ext 1] :=
 Vk (fun e k=>L2 0 args _ _ e k ks hks hz) (kQ ..) hr (fun _=>rfl) k
theorem Fl (hr:Bz (ih f [.ptr (.ext 0) 0] ⟨[],MX s u r e⟩) w (MX s' u' r' e')):A5 [true] false false ih f [.ptr (.ext 0) 0] ⟨own,MX s u r e⟩ k=k (.fv w) ⟨own,MX s' u' r' e'⟩ [.ext 1,.ext 0] [.ext 0,.ext 1]:=XN own k [] [] (by simp) rfl hr
theorem Qz {a:IV} {x:FV} (hr:Bz (ih f [.ptr (.ext 0) 0,.fv x] ⟨[],MX s u r e⟩) w (MX s' u' r' e')) (ha:Bd a=some x):A5 [true,false] false false ih f [.ptr (.ext 0) 0,a] ⟨own,MX s u r e⟩ k=k (.fv w) ⟨own,MX s' u' r' e'⟩ [.ext 1,.ext 0] [.ext 0,.ext 1] :=XN own k [a] [false] (by simp) (T8 ha) hr
theorem fU {a b:IV} {x y:FV} (hr:Bz (ih f [.ptr (.ext 0) 0,.fv x,.fv y] ⟨[],MX s u r e⟩) w (MX s' u' r' e')) (ha:Bd a=some x) (hb:Bd b=some y):A5 [true,false,false] false false ih f [.ptr (.ext 0) 0,a,b] ⟨own,MX s u r e⟩ k=k (.fv w) ⟨own,MX s' u' r' e'⟩ [.ext 1,.ext 0] [.ext 0,.ext 1] :=XN own k [a,b] [false,false] (by simp) (SY ha hb) hr
theorem PB {a b c:IV} {x y z:FV} (hr:Bz (ih f [.ptr (.ext 0) 0,.fv x,.fv y,.fv z] ⟨[],MX s u r e⟩) w (MX s' u' r' e')) (ha:Bd a=some x) (hb:Bd b=some y) (hc:Bd c=some z) :
  A5 [true,false,false,false] false false ih f [.ptr (.ext 0) 0,a,b,c] ⟨own,MX s u r e⟩ k=k (.fv w) ⟨own,MX s' u' r' e'⟩ [.ext 1,.ext 0] [.ext 0,.ext 1] :=
 XN own k [a,b,c] [false,false,false] (by simp) (YZ ha hb hc) hr
end
theorem jZ {ih:Ah} {f:FuncId} {w:FV} {s0:Nat} {s u r e s' u' r' e':Int} {own:List (Nat×Blk)} {cells:List IV} {ro:Bool} {fc:List FV} (hr:Bz (ih f [.ptr (.ext 0) 0,.fv (.fp fc 0)] ⟨[],MX s u r e⟩) w (MX s' u' r' e'))
  (hl:Ap s0 own=some (.row cells ro)) (hz:Dy cells=some fc) (hn:cells.length<=300) (k:KT (IV×Hp)) :
  A5 [true,false] false false ih f [.ptr (.ext 0) 0,.ptr (.own s0) 0] ⟨own,MX s u r e⟩ k=k (.fv w) ⟨AO s0 (.row cells true) own,MX s' u' r' e'⟩ [.ext 1,.ext 0,.own s0] [.own s0,.ext 0,.ext 1]:=by
 refine Vk (ks:=[false]) (vs:=[.fp fc 0]) (u:=[(.own s0,.row cells true)]) (lg:=[.own s0]) ?_ (kQ ..) hr ?_ k
 ·intro e k;rw [Qh,Uf,Jn,BA,hl];simp only [Ajt,HL];rw [Bp,decide_eq_true hn,iI,UV 10 _ _ _ cells _ hz,xY];rfl
 ·intro k
  show (E3 own s0 fun _=>Bc own s0 (.row cells true) fun own=>k ⟨own,_⟩)=_
  rw [BA,hl,Ajt,BS]
theorem lG {ih:Ah} {f:FuncId} {w:FV} {s0 s2 len:Nat} {s u r e s' u' r' e':Int} {own own':List (Nat×Blk)} {es:List FV} {ro ro2:Bool} {a b c d t x:FV} (hr:Bz (ih f [.ptr (.ext 0) 0,.fv (.fp [a,b,.sl es,c,d,t,x] 0)] ⟨[],MX s u r e⟩) w (MX s' u' r' e'))
  (hl:Ap s0 own=some (.row [.fv a,.fv b,.slc (.own s2) 1 len,.fv c,.fv d,.fv t,.fv x] ro)) (hl2:Ap s2 own=some (.row (es.map .fv) ro2)) (hlen:es.length=len) (hne:s2≠s0) (hn:es.length<=300) (ha:∀x∈es,∀l,x≠.agg l)
  (ho:AO s2 (.row (es.map .fv) true) (AO s0 (.row [.fv a,.fv b,.slc (.own s2) 1 len,.fv c,.fv d,.fv t,.fv x] true) own)=own') (k:KT (IV×Hp)) :
  A5 [true,false] false false ih f [.ptr (.ext 0) 0,.ptr (.own s0) 0] ⟨own,MX s u r e⟩ k=k (.fv w) ⟨own',MX s' u' r' e'⟩ [.ext 1,.ext 0,.own s2,.own s0] [.own s0,.own s2,.ext 0,.ext 1]:=by
 subst ho hlen;refine Vk (ks:=[false]) (vs:=[.fp [a,b,.sl es,c,d,t,x] 0]) (u:=[(.own s0,.row [.fv a,.fv b,.slc (.own s2) 1 es.length,.fv c,.fv d,.fv t,.fv x] true),(.own s2,.row (es.map .fv) true)]) (lg:=[.own s2,.own s0]) ?_ (kQ ..) hr ?_ k
 ·intro e k;rw [Qh,Acz hl hl2 hn ha,xY];rfl
 ·intro k;have h2:∀(own:List (Nat×Blk)) (b:Blk),Ap s2 (AO s0 b own)=Ap s2 own:=by
   intro own b
   induction own with
   | nil=>simp only [AO,Ap,if_neg hne]
   | cons p l ih =>
    obtain ⟨j,c⟩:=p;simp only [AO];split
    ·rename_i h;subst h;simp only [Ap,if_neg hne]
    ·simp only [Ap,ih]
  show (E3 own s0 fun _=>Bc own s0 _ fun own=>E3 own s2 fun _=>Bc own s2 _ fun own=>k ⟨own,_⟩)=_
  rw [BA,hl,Ajt,BS,BA,h2,hl2,Ajt,BS]
theorem Aaz (e:List PV) (l:List FV):DU (PV.encEnv e::l)=DU l:=QZ (by cases e<;>rfl) l
structure M3 where
 s:Int
 w:Int
 e:Int
def Hs (m:M3):Option M3:=if m.w < -1000000000\/1000000000<m.w then none else some ⟨m.s,m.w - 1,if m.w - 1<0/\m.e=0 then 17 else m.e⟩
theorem PD {m m':M3} (h:Hs m=some m') (r:Int) {n:Nat} (hn:0<n):Bz (SS dt n 125 [.ptr (.ext 0) 0] ⟨[],MX m.s m.w r m.e⟩) (.tuple []) (MX m'.s m'.w r m'.e):=by
 obtain ⟨n,rfl⟩:=psc n (by omega);rw [AfS];unfold Hs at h;split at h
 ·cases h
 ·cases h;have hw:BC (m.w - 1)=m.w - 1:=by rw [Ax]<;>omega
  by_cases h1:m.w - 1<0
  ·by_cases h2:m.e=0
   ·simp only [dI,↓XX,XY,↓reduceIte,seval,hw,h1,h2,true_and,and_true,if_true];exact AJ _ _ _
   ·simp only [dI,↓XX,XY,↓reduceIte,seval,hw,h1,h2,and_false,if_false];exact AJ _ _ _
  ·simp only [dI,↓XX,XY,↓reduceIte,seval,hw,h1,false_and,if_false];exact AJ _ _ _
def FY (env:List PV) (m:Int):PV:=if m<env.length then env.getD m.toNat .nil else .var (env.length - 1 - m)
theorem Q0:∀(env:List PV) (m:Int),0<=m->m<=2305843009213693952->∀n,env.length<n->BE (BG n (fun q3 l4 h5=>I9 l4 h5 q3) [.fv (PV.encEnv env),iv m] ⟨[],[]⟩) (FY env m).enc:=by
 intro env m h0 h1 n hn;refine Ba (Q:=fun r=>BE r _) (fun k V H=>∃(rest:List PV) (j:Int),rest.length=k/\0<=j+env.length/\j<=m/\V=[.fv (PV.encEnv rest),iv j]/\H=⟨[],[]⟩/\FY rest j=FY env m/\0<=j) ?_ n env.length _ _ hn ⟨env,m,rfl,by omega,Int.le_refl _,rfl,rfl,rfl,h0⟩;rintro k V H rec ⟨rest,j,hl,hj,hjm,rfl,rfl,hlk,hj0⟩ hrec;have hw:BC (-1 - j)=-1 - j:=by rw [Ax]<;>omega
 have hw2:BC (j - 1)=j - 1:=by rw [Ax]<;>omega
 cases rest with
 | nil =>
  have:FY ([]:List PV) j=.var (-1 - j):=by unfold FY;rw [if_neg (by simp<;>omega)];rfl
  rw [<- hlk,this,RT];simp only [I9,hZ,QY,↓XX,XY,↓reduceIte,seval,hw];exact ⟨_,_,rfl,.inl ⟨_,_,fun _ _=>rfl⟩⟩
 | cons v rest =>
  by_cases hz:j=0
  ·subst hz
   have:FY (v::rest) 0=v:=by unfold FY;rw [if_pos (by simp<;>omega)];rfl
   rw [<- hlk,this];simp only [I9,hZ,OA,↓XX,XY,↓reduceIte,seval];exact Aw _ _
  ·simp only [I9,hZ,OA,↓XX,XY,↓reduceIte,seval,hz,hw2];simp only [Ai3] at hl;refine hrec rest.length _ _ (by omega) ⟨rest,j - 1,rfl,by omega,by omega,rfl,rfl,?_,by omega⟩;rw [<- hlk];unfold FY;simp only [Ai3,Int.natCast_add,Int.natCast_one];by_cases h:j<rest.length+1
   ·rw [if_pos h,if_pos (by omega)];obtain ⟨i,rfl⟩:∃i:Nat,j=i+1:=⟨(j - 1).toNat,by omega⟩;rw [show ((i:Int)+1 - 1).toNat=i by omega,show ((i:Int)+1).toNat=i+1 by omega]
    rfl
   ·rw [if_neg h,if_neg (by omega)];congr 1;omega
theorem SI {n:Nat} (env:List PV) (m:Int) (h0:0<=m) (h1:m<=2305843009213693952) (hn:env.length+1<n):BE (SS dt n 126 [.fv (PV.encEnv env),iv m] ⟨[],[]⟩) (FY env m).enc:=by obtain ⟨n,rfl⟩:=psc n (by omega);rw [AdT];exact Q0 env m h0 h1 n (by omega)
theorem sC {n:Nat} (env l:List PV) (hl:l.length<=10) (hn:l.length+1<n):BE (SS dt n 142 [.fv (PV.encEnv env),.fv (.sl (l.map PV.enc))] ⟨[],[]⟩) (PV.encEnv (l.reverse++env)):=by
 obtain ⟨n,rfl⟩:=psc n (by omega);rw [Agh];simp only [LD,d7,↓XX,XY,↓reduceIte,seval,↓AI,XD,heldB,AS,XE];refine Ba (Q:=fun r=>BE r _) (fun k V H=>∃(pre rest:List PV),l=pre++rest/\rest.length=k/\V=[.fv (PV.encEnv (pre.reverse++env)),.fv (.sl (l.map PV.enc)),iv l.length,iv pre.length]/\H=⟨[],[]⟩) ?_ n l.length _ _ (by omega) ⟨[],l,rfl,rfl,rfl,rfl⟩;rintro k V H rec ⟨pre,rest,hk,hl2,rfl,rfl⟩ hrec;have hkl:l.length=pre.length+rest.length:=by rw [hk];simp
 cases rest with
 | nil =>
  have hno:¬ ((pre.length:Int)<l.length):=by rw [hkl];simp
  rw [Ajm] at hk;subst hk;simp only [LD,O5,d7,↓XX,XY,↓reduceIte,seval,hno];exact Aw _ _
 | cons x rest =>
  have hi:(pre.length:Int)<l.length:=by rw [hkl];simp;omega
  have hg:=BY hk;have hwi:BC ((pre.length:Int)+1)=((pre++[x]).length:Int):=(Ax (by omega) (by omega)).trans (by simp);simp only [Ai3] at hl2;simp only [LD,O5,d7,↓XX,XY,↓reduceIte,seval,hi,↓rM hg,↓AbT,↓ZS,hwi,↓AI,XD,heldB,AS,XE];refine hrec rest.length _ _ (by omega) ⟨pre++[x],rest,by rw [hk];simp,rfl,?_,rfl⟩;simp [PV.encEnv]
def PV.op:PV->Int
 | .nil=>0
 | .mk op _ _ _ _=>op
def Pd (ev:Tm->M3->Option (PV×M3)) (op:Int):Nat->List Tm->M3->Option (List PV×M3)
 | _,[],m=>some ([],m)
 | i,t::l,m=>if 0<Ak op i then (Pd ev op (i+1) l m).map fun (vs,m)=>(.nil::vs,m) else
  match ev t m with
  | none=>none
  | some (v,m)=>(Pd ev op (i+1) l m).map fun (vs,m)=>(v::vs,m)
def C4 (op:Int):Bool:=op == 5 || (op == 8 || (op == 9 || (op == 13 || (op == 30 || op == 19))))
mutual
def PS:Nat->List PV->Tm->M3->Option (PV×M3)
 | 0,_,_,_=>none
 | f+1,env,.mk op n ks,m=>match Hs m with
  | none=>none
  | some m=>if op=1 then (if 0<=n/\n<=2305843009213693952/\env.length+1<f then some (FY env n,m) else none)
   else if f<=ks.length\/300<ks.length\/f=0 then none
   else if m.e≠0 then some (.mk op n (List.replicate ks.length .nil) (.mk op n ks) env,m)
   else match Pd (fun t m=>PS f env t m) op 0 ks m with
    | none=>none
    | some (vs,m)=>if m.e≠0 then some (.mk op n vs (.mk op n ks) env,m) else ctP f (.mk op n vs (.mk op n ks) env) m
def ctP:Nat->PV->M3->Option (PV×M3)
 | 0,_,_=>none
 | f+1,v,m=>match v with
  | .nil=>none
  | .mk op n k t e=>if C4 op then (if m.e≠0 then some (.mk op n k t e,m) else if f=0 then none else match Hs m with
    | none=>none
    | some m=>if m.e≠0 then some (.mk op n k t e,m) else match stP f (.mk op n k t e) m with
     | none=>none
     | some (.nil,m)=>some (.mk op n k t e,m)
     | some (u,m)=>if m.e≠0 then some (.mk op n k t e,m) else if m.s < -1000000000\/1000000000<m.s then none else
      some (u,⟨m.s - 1,m.w,if m.s - 1<0 then 17 else 0⟩))
   else some (.mk op n k t e,m)
def stP:Nat->PV->M3->Option (PV×M3)
 | 0,_,_=>none
 | f+1,v,m=>match v with
  | .nil=>none
  | .mk op n k t e=>if op=5 then (match k with
    | [.mk o0 n0 k0 t0 e0,x]=>if o0=4 then opP f (.mk o0 n0 k0 t0 e0) 1 [x] m else some (.nil,m)
    | _=>none)
   else if op=8\/op=9 then (match k with
    | [.mk o0 n0 k0 t0 e0]=>if o0=7 then (match k0 with
      | [_,x,y]=>some (if op=8 then x else y,m)
      | _=>none) else some (.nil,m)
    | _=>none)
   else if op=13 then (match k with
    | [_,z,_,.mk o3 n3 k3 t3 e3]=>if o3=11 then some (z,m) else if o3=12 then (match k3 with
      | [x]=>(match ctP f (.mk op n [.nil,z,.nil,x] t e) m with
       | none=>none
       | some (h,m)=>opP f (.mk op n k t e) 2 [x,h] m)
      | _=>none) else some (.nil,m)
    | _=>none)
   else (
      match k with
    | [.mk o0 n0 k0 t0 e0]=>if o0=(if op=30 then 19 else 30) then (match k0 with
      | [x]=>some (x,m)
      | _=>none) else some (.nil,m)
    | _=>none)
def opP:Nat->PV->Nat->List PV->M3->Option (PV×M3)
 | 0,_,_,_,_=>none
 | f+1,v,i,l,m=>match v with
  | .nil=>none
  | .mk _ _ _ (.mk _ _ tk) e=>if f<=l.length+1\/10<l.length then none else match tk[i]? with
   | none=>none
   | some b=>PS f (l.reverse++e) b m
end
theorem tMk:(EE.T 124).map (·.kind)=some (.map 3 143):=by kernel_rfl
theorem tIk:(EE.T 3).map (·.kind)=some (.int .i64):=by kernel_rfl
theorem tRz:(EE.T 143).bind Pg=some (.fv (.agg [.nilf])):=by kernel_rfl
def JY:List (Int×IV):=[(5,Dd 120),(8,Dd 121),(9,Dd 121),(13,Dd 122),(30,Dd 123),(19,Dd 124)]
theorem Abh (op:Int) (own:List (Nat×Blk)) (s w r e:Int):(Gu EE 124 (.mapr (.ext 1)) (iv op) true).runLog ⟨own,MX s w r e⟩ [] =
  some ((match Ds op JY with
   | some v=>({ eff:={ val:=CL [v,.fv (.bool true)] } }:Made)
   | none=>{ eff:={ val:=CL [.fv (.agg [.nilf]),.fv (.bool false)] } }),[.ext 1]):=by
 have h1:=tMk;have h2:=tIk;have h3:=tRz;cases hm:EE.T 124 with
 | none=>rw [hm] at h1;cases h1
 | some ti =>
  cases hi:EE.T 3 with
  | none=>rw [hi] at h2;cases h2
  | some ii =>
   cases hr:EE.T 143 with
   | none=>rw [hr] at h3;cases h3
   | some ri =>
    rw [hm] at h1;rw [hi] at h2;rw [hr] at h3;obtain ⟨a,b,kd,z⟩:=ti;obtain ⟨a2,b2,kd2,z2⟩:=ii;simp only [Ai2,AiZ] at h1 h2;simp only [Ajt] at h3;subst h1 h2;simp only [Gu,hm,hi,hr,TS,Rd.runLog,Hp.get,MX,Ajc,Ajb]
    show (match Ds op JY with | some v=>val (CL [v,.fv (.bool true)]) | none=>_).runLog _ _=_
    cases Ds op JY with
    | some v=>rfl
    | none=>simp only [h3];rfl
theorem KZ {op:Int} {g:FuncId} (hg:Ds op JY=some (Dd g)) (s0:Nat) (own:List (Nat×Blk)) (s w r e:Int) (k:KT (IV×Hp)) :
  Az (Gu EE 124 (.mapr (.ext 1)) (iv op) true) s0 ⟨own,MX s w r e⟩ k=k (.tuple [Dd g,.fv (.bool true)]) ⟨own,MX s w r e⟩ [.ext 1] []:=by
 unfold Az;rw [Abh,hg];simp only [Hf,Cj];rfl
theorem nD {op:Int} (hg:Ds op JY=none) (s0:Nat) (own:List (Nat×Blk)) (s w r e:Int) (k:KT (IV×Hp)) :
  Az (Gu EE 124 (.mapr (.ext 1)) (iv op) true) s0 ⟨own,MX s w r e⟩ k=k (.fv (.tuple [.agg [.nilf],.bool false])) ⟨own,MX s w r e⟩ [.ext 1] []:=by
 unfold Az;rw [Abh,hg];simp only [Hf,Cj];rfl
theorem VO (op:Int):Ds op JY=if op=5 then some (Dd 120) else if op=8\/op=9 then some (Dd 121) else if op=13 then some (Dd 122) else
  if op=30 then some (Dd 123) else if op=19 then some (Dd 124) else none:=by
 simp only [JY,Ds];split
 ·rfl
 ·split
  ·rename_i h;rw [if_pos (.inl h)]
  ·split
   ·rename_i h;rw [if_pos (.inr h)]
   ·rename_i h1 h2;simp only [h1,h2,or_self,if_false]
theorem Rq {g:FuncId} (h:EE.pol.inl g=false) (h1:EE.pol.keep g=[true,false]) (h2:EE.pol.split g=false) (h3:EE.pol.raw g=false) (ih:Ah) (x:IV) (h0:Hp) (k:KT (IV×Hp)) :
  CN EE ih (.func (.func g) [.ptr (.ext 0) 0] []) [x] h0 k=A5 [true,false] false false ih g [.ptr (.ext 0) 0,x] h0 k:=by
 unfold CN;simp only [callee,h,cond_false,bE,h1,h2,h3];rfl
theorem r9 (ih:Ah) (x:IV) (h0:Hp) (k:KT (IV×Hp)):CN EE ih (.func (.func 120) [.ptr (.ext 0) 0] []) [x] h0 k=A5 [true,false] false false ih 120 [.ptr (.ext 0) 0,x] h0 k :=Rq (by kernel_rfl) (by kernel_rfl) (by kernel_rfl) (by kernel_rfl) ..
theorem VE (ih:Ah) (x:IV) (h0:Hp) (k:KT (IV×Hp)):CN EE ih (.func (.func 121) [.ptr (.ext 0) 0] []) [x] h0 k=A5 [true,false] false false ih 121 [.ptr (.ext 0) 0,x] h0 k :=Rq (by kernel_rfl) (by kernel_rfl) (by kernel_rfl) (by kernel_rfl) ..
theorem uV (ih:Ah) (x:IV) (h0:Hp) (k:KT (IV×Hp)):CN EE ih (.func (.func 122) [.ptr (.ext 0) 0] []) [x] h0 k=A5 [true,false] false false ih 122 [.ptr (.ext 0) 0,x] h0 k :=Rq (by kernel_rfl) (by kernel_rfl) (by kernel_rfl) (by kernel_rfl) ..
theorem wW (ih:Ah) (x:IV) (h0:Hp) (k:KT (IV×Hp)):CN EE ih (.func (.func 123) [.ptr (.ext 0) 0] []) [x] h0 k=A5 [true,false] false false ih 123 [.ptr (.ext 0) 0,x] h0 k :=Rq (by kernel_rfl) (by kernel_rfl) (by kernel_rfl) (by kernel_rfl) ..
theorem sH (ih:Ah) (x:IV) (h0:Hp) (k:KT (IV×Hp)):CN EE ih (.func (.func 124) [.ptr (.ext 0) 0] []) [x] h0 k=A5 [true,false] false false ih 124 [.ptr (.ext 0) 0,x] h0 k :=Rq (by kernel_rfl) (by kernel_rfl) (by kernel_rfl) (by kernel_rfl) ..
theorem WG (cs:List FV) (o:Nat) (k:IV->Option (IV×Hp)):AP EE 122 (.fv (.fp cs o)) (.fv .nilp) k=k (.fv (.bool false)):=by
 have:EL EE .eql 122 (.fv (.fp cs o)) (.fv .nilp)=some (.fv (.bool false)):=by simp only [EL,YA];rfl
 show C5 (EL EE .eql 122 (.fv (.fp cs o)) (.fv .nilp)) k=_
 rw [this];rfl
theorem Uu (k:IV->Option (IV×Hp)):AP EE 122 (.fv .nilp) (.fv .nilp) k=k (.fv (.bool true)):=by
 have:EL EE .eql 122 (.fv .nilp) (.fv .nilp)=some (.fv (.bool true)):=by simp only [EL,YA];rfl
 show C5 (EL EE .eql 122 (.fv .nilp) (.fv .nilp)) k=_
 rw [this];rfl
theorem Ig (g:FuncId) (s0:Nat) (ext:List Blk) (k:Hp->List Ref->List Ref->Option (IV×Hp)):Ac 1 (.ptr (.own s0) 0) (Dd g) ⟨[(s0,.row [.fv .nilf] false)],ext⟩ k=k ⟨[(s0,.row [.func (.func g) [.ptr (.ext 0) 0] []] false)],ext⟩ [.own s0] [.own s0]:=by
 simp only [Ac,TN,Pj,Jn,qZ,UK];rw [if_pos ⟨rfl,rfl,by simp,rfl,rfl⟩,bE]
 show FH (.own s0) (.row [.func (.func g) [.ptr (.ext 0) 0] []] false) _ _=_
 rw [V8,pX]
def nO (f:Nat):Prop:=∀(env:List PV) (t:Tm) (m m':M3) (v:PV),PS f env t m=some (v,m')->∀(r:Int) (n:Nat),f+1<=n ->
 Bz (SS dt n 97 [.ptr (.ext 0) 0,.fv (PV.encEnv env),.fv t.enc] ⟨[],MX m.s m.w r m.e⟩) v.enc (MX m'.s m'.w r m'.e)
def nH (f:Nat):Prop:=∀(v u:PV) (m m':M3),ctP f v m=some (u,m')->∀(r:Int) (n:Nat),f+1<=n ->
 Bz (SS dt n 128 [.ptr (.ext 0) 0,.fv v.enc] ⟨[],MX m.s m.w r m.e⟩) u.enc (MX m'.s m'.w r m'.e)
def Is (op:Int):FuncId:=if op=5 then 120 else if op=8\/op=9 then 121 else if op=13 then 122 else if op=30 then 123 else 124
def sS (f:Nat):Prop:=∀(v u:PV) (m m':M3),C4 v.op=true->stP f v m=some (u,m')->∀(r:Int) (n:Nat),f+1<=n ->
 Bz (SS dt n (Is v.op) [.ptr (.ext 0) 0,.fv v.enc] ⟨[],MX m.s m.w r m.e⟩) u.enc (MX m'.s m'.w r m'.e)
def Zl (f:Nat):Prop:=∀(v u:PV) (i:Nat) (l:List PV) (m m':M3),opP f v i l m=some (u,m')->∀(r:Int) (n:Nat),f+1<=n ->
 Bz (SS dt n 129 [.ptr (.ext 0) 0,.fv v.enc,iv i,.fv (.sl (l.map PV.enc))] ⟨[],MX m.s m.w r m.e⟩) u.enc (MX m'.s m'.w r m'.e)
def Gz {op:Int} (h:C4 op=true):Ds op JY=some (Dd (Is op)):=by rw [VO];unfold Is;simp only [C4,Bool.or_eq_true,beq_iff_eq] at h;rcases h with h | h | h | h | h | h<;>subst h<;>rfl
def XT {op:Int} (h:C4 op=false):Ds op JY=none:=by rw [VO];simp only [C4,Bool.or_eq_false_iff,beq_eq_false_iff_ne,ne_eq] at h;obtain ⟨h1,h2,h3,h4,h5,h6⟩:=h;simp only [h1,h2,h3,h4,h5,h6,or_self,if_false]
def LA {op:Int} (h:C4 op=true) (ih:Ah) (x:IV) (h0:Hp) (k:KT (IV×Hp)) :
  CN EE ih (.func (.func (Is op)) [.ptr (.ext 0) 0] []) [x] h0 k=A5 [true,false] false false ih (Is op) [.ptr (.ext 0) 0,x] h0 k:=by
 simp only [C4,Bool.or_eq_true,beq_iff_eq] at h;rcases h with h | h | h | h | h | h<;>subst h
 ·exact r9 ..
 ·exact VE ..
 ·exact VE ..
 ·exact uV ..
 ·exact wW ..
 ·exact sH ..
theorem iN {f:Nat} (hs:sS f):nH (f+1):=by
 intro v u m m' hev r n hn;obtain ⟨n,rfl⟩:=psc n (by omega);rw [Af5];cases v with
 | nil=>rw [ctP] at hev;cases hev
 | mk op nn k t e =>
 rw [ctP] at hev;have hs:=hs (.mk op nn k t e);obtain ⟨bo,bn,bk⟩:=t;rw [Bb] at hs ⊢;cases hr:C4 op with
 | false =>simp only [hr,Ajx,if_false,AiZ,Ai0] at hev;obtain ⟨rfl,rfl⟩:=hev;rw [Bb];simp only [EI,Pi,↓XX,XY,↓reduceIte,seval,↓nD (XT hr)];exact AJ _ _ _
 | true =>
  simp only [hr,if_true] at hev;by_cases h0:m.e≠0
  ·rw [if_pos h0] at hev;simp only [AiZ,Ai0] at hev;obtain ⟨rfl,rfl⟩:=hev;rw [Bb];simp only [EI,Pi,↓XX,XY,↓reduceIte,seval,↓KZ (Gz hr),↓Ig,h0];exact AJ _ _ _
  ·rw [if_neg h0] at hev;have h0:m.e=0:=by simpa using h0
   split at hev
   ·cases hev
   ·rename_i hf0;cases ht:Hs m with
    | none=>rw [ht] at hev;cases hev
    | some m1 =>
     rw [ht] at hev;simp only at hev;have hc1:=PD ht r (n:=n) (by omega);by_cases h1:m1.e≠0
     ·rw [if_pos h1] at hev;simp only [AiZ,Ai0] at hev;obtain ⟨rfl,rfl⟩:=hev;rw [Bb];simp only [h0] at hc1;simp only [EI,Pi,↓XX,XY,↓reduceIte,seval,↓KZ (Gz hr),↓Ig,h0,↓Fl _ _ hc1,h1];exact AJ _ _ _
     ·rw [if_neg h1] at hev;have h1:m1.e=0:=by simpa using h1
      cases hst:stP f (.mk op nn k (.mk bo bn bk) e) m1 with
      | none=>rw [hst] at hev;cases hev
      | some q =>
       obtain ⟨x,m2⟩:=q;rw [hst] at hev;have hc2:=hs x m1 m2 hr hst r n (by omega);simp only [PV.op] at hc2;simp only [h0] at hc1;simp only [h1] at hc1 hc2;cases x with
       | nil =>simp only [AiZ,Ai0] at hev;obtain ⟨rfl,rfl⟩:=hev;rw [Bb];rw [Gn] at hc2;simp only [EI,Pi,↓XX,XY,↓reduceIte,seval,↓KZ (Gz hr),↓Ig,h0,↓Fl _ _ hc1,h1,↓LA hr,↓Qz _ _ hc2,↓WG,↓Uu];exact AJ _ _ _
       | mk op2 nn2 k2 t2 e2 =>
        simp only at hev;obtain ⟨bo2,bn2,bk2⟩:=t2;by_cases h2:m2.e≠0
        ·rw [if_pos h2] at hev;simp only [AiZ,Ai0] at hev;obtain ⟨rfl,rfl⟩:=hev;rw [Bb] at hc2 ⊢;simp only [EI,Pi,↓XX,XY,↓reduceIte,seval,↓KZ (Gz hr),↓Ig,h0,↓Fl _ _ hc1,h1,↓LA hr,↓Qz _ _ hc2,↓WG,↓Uu,h2];exact AJ _ _ _
        ·rw [if_neg h2] at hev;have h2:m2.e=0:=by simpa using h2
         split at hev
         ·cases hev
         ·simp only [AiZ,Ai0] at hev;obtain ⟨rfl,rfl⟩:=hev;have hw:BC (m2.s - 1)=m2.s - 1:=by rw [Ax]<;>omega
          rw [Bb] at hc2 ⊢;simp only [h2] at hc2;by_cases h3:m2.s - 1<0
          ·simp only [EI,Pi,↓XX,XY,↓reduceIte,seval,↓KZ (Gz hr),↓Ig,h0,↓Fl _ _ hc1,h1,↓LA hr,↓Qz _ _ hc2,↓WG,↓Uu,h2,hw,h3];exact AJ _ _ _
          ·simp only [EI,Pi,↓XX,XY,↓reduceIte,seval,↓KZ (Gz hr),↓Ig,h0,↓Fl _ _ hc1,h1,↓LA hr,↓Qz _ _ hc2,↓WG,↓Uu,h2,hw,h3];exact AJ _ _ _
theorem qV {β:Type} {l:List FV} {i:Nat} {x:FV} (h:l[i]?=some x) (hx:x.cells=[x]) (k:IV->Option β):AQ 1 (.fv (.sl l)) (iv i) k=k (.fv (.fp [x] 0)):=by rw [Bq h (by rw [hx];rfl),hx]
section
variable {β:Type} (a b c:FV) (l:List FV) (cs:List FV) (o:Nat) (v:PV) (k:IV->Option β)
theorem Ae0:AQ 1 (.fv (.sl (.fp cs o::l))) (iv 0) k=k (.fv (.fp [.fp cs o] 0)):=qV (i:=0) rfl rfl k
theorem Adn:AQ 1 (.fv (.sl (v.enc::l))) (iv 0) k=k (.fv (.fp [v.enc] 0)):=qV (i:=0) rfl (Ek v) k
theorem Aeg:AQ 1 (.fv (.sl (a :: .fp cs o::l))) (iv 1) k=k (.fv (.fp [.fp cs o] 0)):=qV (i:=1) rfl rfl k
theorem Aeq:AQ 1 (.fv (.sl (a::v.enc::l))) (iv 1) k=k (.fv (.fp [v.enc] 0)):=qV (i:=1) rfl (Ek v) k
theorem Afl:AQ 1 (.fv (.sl (a::b :: .fp cs o::l))) (iv 2) k=k (.fv (.fp [.fp cs o] 0)):=qV (i:=2) rfl rfl k
theorem Adx:AQ 1 (.fv (.sl (a::b::v.enc::l))) (iv 2) k=k (.fv (.fp [v.enc] 0)):=qV (i:=2) rfl (Ek v) k
theorem AeW:AQ 1 (.fv (.sl (a::b::c :: .fp cs o::l))) (iv 3) k=k (.fv (.fp [.fp cs o] 0)):=qV (i:=3) rfl rfl k
theorem Aey:AQ 1 (.fv (.sl (a::b::c::v.enc::l))) (iv 3) k=k (.fv (.fp [v.enc] 0)):=qV (i:=3) rfl (Ek v) k
end
def XI:=AiY @Ae0<|AiY @Aeg<|AiY @Afl<|AiY @AeW<|AiY @Adn<|AiY @Aeq<|AiY @Adx @Aey
theorem z7 {β:Type} (o p:Nat) (cs:List FV) (k:IV->Option β):Ab o (.fv (.fp cs p)) k=k (.fv (.fp cs (p+o))):=by rw [OM]
theorem xE (s:Nat) (b:Blk) (l:List (Nat×Blk)):Ap s ((s,b)::l)=some b:=by simp only [Ap,if_true]
theorem lE {f:Nat} (he:nO f):Zl (f+1):=by
 intro v u i l m m' hev r n hn;obtain ⟨n,rfl⟩:=psc n (by omega);rw [Aez];cases v with
 | nil=>rw [opP] at hev;cases hev
 | mk op nn k t e =>
 obtain ⟨bo,bn,bk⟩:=t;rw [opP] at hev;split at hev
 ·cases hev
 ·rename_i hf;cases hb:bk[i]? with
  | none=>rw [hb] at hev;cases hev
  | some b =>rw [hb] at hev;simp only at hev;have hw:=sC (n:=n) e l (by omega) (by omega);have hc:=he _ _ _ _ _ hev r n (by omega);rw [Bb];obtain ⟨b1,b2,b3⟩:=b;have hg:=AN hb;rw [Am] at hc;simp only [sG,↓XX,XY,↓reduceIte,seval,↓Af hw,↓Bq hg (Bk _ _ _),↓B8,↓z7,↓fU _ _ hc];exact AJ _ _ _
theorem Q9 {n:Nat} (hn:0<n) (op nn:Int) (o0 n0:Int) (k0:List PV) (t0:Tm) (e0:List PV) (t:Tm) (e:List PV) (want:Int) (hk:o0=want->∃x,k0=[x]) :
  BE (SS dt n 140 [.fv (PV.mk op nn [.mk o0 n0 k0 t0 e0] t e).enc,iv want] ⟨[],[]⟩) (if o0=want then k0.headD .nil else .nil).enc:=by
 obtain ⟨n,rfl⟩:=psc n (by omega);rw [Ae7];obtain ⟨bo,bn,bk⟩:=t;obtain ⟨co,cn,ck⟩:=t0;rw [Bb,Ai5,Ai4,Bb];by_cases h:o0=want
 ·obtain ⟨x,rfl⟩:=hk h;rw [if_pos h];simp only [lZ,↓XX,XY,↓reduceIte,seval,↓XI,h,List.headD_cons];exact Aw _ _
 ·rw [if_neg h,Gn];simp only [lZ,↓XX,XY,↓reduceIte,seval,↓XI,h];exact Aw _ _
theorem n8 {f:Nat} (hc:nH f) (ho:Zl f):sS (f+1):=by
 intro v u m m' hr hev r n hn;obtain ⟨n,rfl⟩:=psc n (by omega);cases v with
 | nil=>rw [stP] at hev;cases hev
 | mk op nn k t e =>
 obtain ⟨bo,bn,bk⟩:=t;rw [stP.eq_def] at hev;simp only at hev;simp only [PV.op] at hr ⊢;by_cases h5:op=5
 ·subst h5;rw [if_pos rfl] at hev;rw [show Is 5=120 from rfl,Ad5]
  match k,hev with
  | [.mk o0 n0 k0 t0 e0,x],hev =>
   simp only at hev;obtain ⟨co,cn,ck⟩:=t0;by_cases h4:o0=4
   ·subst h4;rw [if_pos rfl] at hev;have hq:=ho _ _ _ _ _ _ hev r n (by omega);rw [Bb] at hq ⊢;simp only [Ai5,Ai4,Bb] at hq ⊢;simp only [oH,↓XX,XY,↓reduceIte,seval,↓XI,↓AbR,↓PB _ _ hq];exact AJ _ _ _
   ·rw [if_neg h4] at hev;simp only [AiZ,Ai0] at hev;obtain ⟨rfl,rfl⟩:=hev;rw [Bb];simp only [Ai5,Ai4,Bb,Gn];simp only [oH,↓XX,XY,↓reduceIte,seval,↓XI,h4];exact AJ _ _ _
 ·rw [if_neg h5] at hev;by_cases h8:op=8\/op=9
  ·rw [if_pos h8] at hev;rw [show Is op=121 by rcases h8 with rfl | rfl<;>rfl,AeV]
   match k,hev with
   | [.mk o0 n0 k0 t0 e0],hev =>
    simp only at hev;obtain ⟨co,cn,ck⟩:=t0;by_cases h7:o0=7
    ·subst h7;rw [if_pos rfl] at hev
     match k0,hev with
     | [w,x,y],hev =>
      simp only [AiZ,Ai0] at hev;obtain ⟨rfl,rfl⟩:=hev;rw [Bb];simp only [Ai5,Ai4,Bb];rcases h8 with rfl | rfl
      ·simp only [bK,↓XX,XY,↓reduceIte,seval,↓XI];exact AJ _ _ _
      ·simp only [bK,↓XX,XY,↓reduceIte,seval,↓XI];exact AJ _ _ _
    ·rw [if_neg h7] at hev;simp only [AiZ,Ai0] at hev;obtain ⟨rfl,rfl⟩:=hev;rw [Bb];simp only [Ai5,Ai4,Bb,Gn];simp only [bK,↓XX,XY,↓reduceIte,seval,↓XI,h7];exact AJ _ _ _
  ·rw [if_neg h8] at hev;by_cases h13:op=13
   ·subst h13;rw [if_pos rfl] at hev;rw [show Is 13=122 from rfl,Adr]
    match k,hev with
    | [p0,z,p2,.mk o3 n3 k3 t3 e3],hev =>
     simp only at hev;obtain ⟨co,cn,ck⟩:=t3;by_cases h11:o3=11
     ·subst h11;rw [if_pos rfl] at hev;simp only [AiZ,Ai0] at hev;obtain ⟨rfl,rfl⟩:=hev;rw [Bb];simp only [Ai5,Ai4,Bb];simp only [Lx,cW,↓XX,XY,↓reduceIte,seval,↓XI];exact AJ _ _ _
     ·rw [if_neg h11] at hev;by_cases h12:o3=12
      ·subst h12;rw [if_pos rfl] at hev
       match k3,hev with
       | [x],hev =>
        simp only at hev;cases hcc:ctP f (.mk 13 nn [.nil,z,.nil,x] (.mk bo bn bk) e) m with
        | none=>rw [hcc] at hev;cases hev
        | some q =>
         obtain ⟨h,m1⟩:=q;rw [hcc] at hev;have hq1:=hc _ _ _ _ hcc r n (by omega);have hq2:=ho _ _ _ _ _ _ hev r n (by omega);rw [Bb] at hq1 hq2 ⊢;simp only [Ai5,Ai4,Bb,Gn] at hq1 hq2 ⊢;simp only [Lx,cW,↓XX,XY,↓reduceIte,seval,↓XI,↓zU,↓Aaz]
         (try unfold is0);rw [jZ hq1 (s0:=127932419) (xE ..) rfl (by simp)]
         simp only [↓XX,XY,↓reduceIte,seval,↓AcL,↓PB _ _ hq2];exact AJ _ _ _
      ·rw [if_neg h12] at hev;simp only [AiZ,Ai0] at hev;obtain ⟨rfl,rfl⟩:=hev;rw [Bb];simp only [Ai5,Ai4,Bb,Gn];simp only [Lx,cW,↓XX,XY,↓reduceIte,seval,↓XI,h11,h12];exact AJ _ _ _
   ·rw [if_neg h13] at hev
    match k,hev with
    | [.mk o0 n0 k0 t0 e0],hev =>
     simp only at hev;have h30:op=30\/op=19:=by simp only [C4,Bool.or_eq_true,beq_iff_eq] at hr;omega
     have hu:((o0=(if op=30 then 19 else 30)->∃x,k0=[x])/\(if o0=(if op=30 then 19 else 30) then k0.headD .nil else .nil)=u/\m=m'):=by
      by_cases ho0:o0=(if op=30 then 19 else 30)
      ·rw [if_pos ho0] at hev
       match k0,hev with
       | [x],hev =>simp only [AiZ,Ai0] at hev;obtain ⟨rfl,rfl⟩:=hev;exact ⟨fun _=>⟨_,rfl⟩,by rw [if_pos ho0];rfl,rfl⟩
      ·rw [if_neg ho0] at hev;simp only [AiZ,Ai0] at hev;obtain ⟨rfl,rfl⟩:=hev;exact ⟨fun h=>absurd h ho0,by rw [if_neg ho0],rfl⟩
     obtain ⟨hu1,rfl,rfl⟩:=hu;rcases h30 with rfl | rfl
     ·rw [show Is 30=123 from rfl,AdA]
      rw [show (if (30:Int)=30 then (19:Int) else 30)=19 from rfl] at hu1 ⊢
      have hw:=Q9 (n:=n) (by omega) 30 nn o0 n0 k0 t0 e0 (.mk bo bn bk) e 19 hu1;simp only [uB,↓XX,XY,↓reduceIte,seval,↓Af hw];exact AJ _ _ _
     ·rw [show Is 19=124 from rfl,Ago]
      rw [show (if (19:Int)=30 then (19:Int) else 30)=30 from rfl] at hu1 ⊢
      have hw:=Q9 (n:=n) (by omega) 19 nn o0 n0 k0 t0 e0 (.mk bo bn bk) e 30 hu1;simp only [vI,↓XX,XY,↓reduceIte,seval,↓Af hw];exact AJ _ _ _
def iW (ih:Ah) (xs:List IV) (h0:Hp) (k:KT (IV×Hp)):CN EE ih (.fv (.func (.func 141) [] [])) xs h0 k=A5 [] false false ih 141 xs h0 k :=Oa (by kernel_rfl) (by kernel_rfl) (by kernel_rfl) (by kernel_rfl) ..
def YX {n:Nat} (hn:0<n) (op:Int) (i:Nat):BE (SS dt n 141 [iv op,iv i] ⟨[],[]⟩) (.int .i64 (Ak op i)):=by
 obtain ⟨n,rfl⟩:=psc n (by omega);rw [Aeu];unfold Ak;by_cases h:op=3\/op=4\/op=6\/op=20\/op=28\/op=29
 ·rw [if_pos h];by_cases hi:i=1
  ·subst hi;rcases h with rfl | rfl | rfl | rfl | rfl | rfl<;>(simp only [RO,↓XX,XY,↓reduceIte,seval];exact Aw _ _)
  ·have hi':¬ (i:Int)=1:=by omega
   rcases h with rfl | rfl | rfl | rfl | rfl | rfl<;>(simp only [RO,↓XX,XY,↓reduceIte,seval,hi',hi];exact Aw _ _)
 ·rw [if_neg h];have h3:¬ op=3:=fun e=>h (by simp [e]);have h4:¬ op=4:=fun e=>h (by simp [e]);have h6:¬ op=6:=fun e=>h (by simp [e]);have h20:¬ op=20:=fun e=>h (by simp [e]);have h28:¬ op=28:=fun e=>h (by simp [e]);have h29:¬ op=29:=fun e=>h (by simp [e]);by_cases h13:op=13
  ·subst h13;by_cases h0:i=0
   ·subst h0;simp only [RO,↓XX,XY,↓reduceIte,seval];exact Aw _ _
   ·have h0':¬ (i:Int)=0:=by omega
    by_cases h2:i=2
    ·subst h2;simp only [RO,↓XX,XY,↓reduceIte,seval];exact Aw _ _
    ·have h2':¬ (i:Int)=2:=by omega
     simp only [RO,↓XX,XY,↓reduceIte,seval,h0,h0',h2,h2'];exact Aw _ _
  ·simp only [RO,↓XX,XY,↓reduceIte,seval,h3,h4,h6,h20,h28,h29,h13];exact Aw _ _
def J3 {n:Nat} (hn:1<n) (op:Int) (i:Nat):BE (SS dt n 127 [iv op,iv i] ⟨[],[]⟩) (.int .i64 (Ak op i)):=by obtain ⟨n,rfl⟩:=psc n (by omega);rw [AdC];have h:=YX (n:=n) (by omega) op i;simp only [zE,↓XX,XY,↓reduceIte,seval,↓iW,↓Af h];exact Aw _ _
theorem dQ {β:Type}:∀(l:List IV) (i:Nat) (x:IV) (k:List IV->Option β),i<l.length->Gi l i x k=k (l.set i x)
 | [],i,x,k,h=>absurd h (by simp)
 | y::l,0,x,k,_=>rfl
 | y::l,i+1,x,k,h=>by
  show Gi l i x (fun t=>k (y::t))=_
  rw [dQ l i x _ (by simpa using h)];rfl
def nils (n:Nat):List PV:=List.replicate n .nil
theorem mC (n:Nat):NB n [IV.fv .nilp]=((nils n).map PV.enc).map IV.fv:=by
 induction n with
 | zero=>rfl
 | succ n ih=>rw [NB,ih];rfl
def u6 {n:Nat} (hn:n<=1000) (s:Nat) (own:List (Nat×Blk)) (ext:List Blk) (k:KT (IV×Hp)) :
  Az (BH EE s 146 (iv n) (iv n)) s ⟨own,ext⟩ k=CS own s (Bc own s (.row (((nils n).map PV.enc).map IV.fv) false) fun own=>k (.slc (.own s) 1 n) ⟨own,ext⟩ [] [.own s]):=by
 have:BH EE s 146 (iv n) (iv n)=.ret { eff:={ val:=.slc (.own s) 1 n },new:=some (.row (((nils n).map PV.enc).map IV.fv) false) }:=by simp only [BH,bZ,YA,TS];rw [if_pos ⟨by omega,by omega,by omega,by decide,by decide⟩,Int.toNat_natCast,mC]
 rw [this];unfold Az;simp only [Rd.runLog,Hf,Cz,Cj];rfl
theorem yJ (v:PV):IV.one (.fv v.enc)=true:=by
 cases v with
 | nil=>rfl
 | mk op n k t e=>obtain ⟨bo,bn,bk⟩:=t;rw [Bb];rfl
def rA {β:Type} {n i:Nat} (h:i<n) (r:Ref) (k:IV->Option β):AQ 1 (.slc r 1 n) (iv i) k=k (.ptr r i):=by
 have e1:Nat.ble (Nat.succ i) n=true:=by rw [Bp];exact decide_eq_true h
 show (Ym (iv i) fun n'=>cond (and (Nat.ble (Nat.succ n') n) (Nat.beq 1 1)) (Ec (n' * 1) fun o=>k (.ptr r o)) none)=_
 show (cond (and (Nat.ble (Nat.succ i) n) (Nat.beq 1 1)) (Ec (i * 1) fun o=>k (.ptr r o)) none)=_
 rw [e1];simp only [Ca,Nat.mul_one];rfl
def qG {done:List PV} {r:Nat} {β:Type} (v:PV) (k:List IV->Option β):Gi (((done++nils (r+1)).map PV.enc).map IV.fv) done.length (.fv v.enc) k=k ((((done++[v])++nils r).map PV.enc).map IV.fv):=by rw [dQ _ _ _ _ (by simp [nils])];congr 1;simp only [nils,List.replicate_succ,List.map_append,Ai5,Ajs,Ajq,Ajo,Ai4];rw [List.set_append_right _ _ (by simp)];simp
abbrev Hev (op m:Int) (ks:List Tm) (env kk:List PV) (ro:Bool) (s w r e:Int):Hp :=⟨[(101711872,.row [iv op,iv m,.fv (.sl (ks.map Tm.enc))] false),(101715975,.row ((kk.map PV.enc).map .fv) ro),(101715979,.row [iv op,iv m,.slc (.own 101715975) 1 ks.length,iv op,iv m,.fv (.sl (ks.map Tm.enc)),.fv (PV.encEnv env)] ro)],MX s w r e⟩
def FU {base rm:List Nat} {vals:List IV} {own:List (Nat×Blk)} {s w r e:Int} (hb:rm.any base.contains=false) (hf:AS rm vals own []=true) (k:Hp->Option (IV×Hp)) :
  Bm base rm vals ⟨own,MX s w r e⟩ k=k ⟨Ho rm vals own [],MX s w r e⟩:=dA (fun j=>mB s w r e j) hb hf k
def bI {op m:Int} {ks:List Tm} {env kk:List PV} {s w r e:Int} (hl:kk.length=ks.length) (h3:ks.length<=300):Bz (some (.ptr (.own 101715979) 0,Hev op m ks env kk false s w r e)) (PV.mk op m kk (.mk op m ks) env).enc (MX s w r e):=by
 rw [Bb];have hl':ks.length=(kk.map PV.enc).length:=by simp [hl]
 have:=fun (e0:Option (IV×Hp)) (K:FV->List (Ref×Blk)->List Ref->Option (IV×Hp))=>Acz (s:=101715979) (s2:=101715975) (own:=(Hev op m ks env kk false s w r e).own) (ext:=MX s w r e) (es:=kk.map PV.enc) (ro:=false) (ro2:=false) (a:=.int .i64 op) (b:=.int .i64 m) (c:=.int .i64 op) (d:=.int .i64 m) (t:=.sl (ks.map Tm.enc)) (x:=PV.encEnv env)
  (by rw [<- hl'];rfl) (by rfl) (by simp [hl];omega) (by simp only [List.mem_map];rintro x ⟨v,_,rfl⟩;exact Mv v) [] e0 K
 exact ⟨_,_,rfl,_,_,this⟩
theorem PK {ev:Tm->M3->Option (PV×M3)} {op:Int}:∀{i:Nat} {l:List Tm} {m:M3} {vs:List PV} {m':M3},Pd ev op i l m=some (vs,m')->vs.length=l.length
 | _,[],m,vs,m',h=>by simp only [Pd,AiZ,Ai0] at h;rw [<- h.1];rfl
 | i,t::l,m,vs,m',h=>by
  rw [Pd] at h;split at h
  ·cases hk:Pd ev op (i+1) l m with
   | none=>rw [hk] at h;cases h
   | some q =>rw [hk] at h;simp only [Ai2,AiZ,Ai0] at h;rw [<- h.1,Ai3,Ai3,PK (vs:=q.1) (m':=q.2) hk]
  ·split at h
   ·cases h
   ·rename_i v m2 _;cases hk:Pd ev op (i+1) l m2 with
    | none=>rw [hk] at h;cases h
    | some q =>rw [hk] at h;simp only [Ai2,AiZ,Ai0] at h;rw [<- h.1,Ai3,Ai3,PK (vs:=q.1) (m':=q.2) hk]
theorem nM {f:Nat} (he:nO f) (hc:nH f):nO (f+1):=by
 intro env t m0 m' v hev r n hn;obtain ⟨n,rfl⟩:=psc n (by omega);rw [c97];obtain ⟨op,m,ks⟩:=t;rw [Am];rw [PS] at hev;cases ht:Hs m0 with
 | none=>rw [ht] at hev;cases hev
 | some m1 =>
 rw [ht] at hev;simp only at hev;have hc1:=PD ht r (n:=n) (by omega);by_cases h1:op=1
 ·rw [if_pos h1] at hev;split at hev
  ·rename_i hv;simp only [AiZ,Ai0] at hev;obtain ⟨rfl,rfl⟩:=hev;have hvar:=SI (n:=n) env m hv.1 hv.2.1 (by omega);simp only [↓dN,↓XX,XY,↓reduceIte,seval,↓Fl _ _ hc1,h1,↓Af hvar];exact AJ _ _ _
  ·cases hev
 ·rw [if_neg h1] at hev;split at hev
  ·cases hev
  rename_i hb;have hk3:ks.length<=300:=by omega
  by_cases h2:m1.e≠0
  ·rw [if_pos h2] at hev;simp only [AiZ,Ai0] at hev;obtain ⟨rfl,rfl⟩:=hev;simp only [LG,Ly,S97,↓XX,XY,↓reduceIte,seval,↓Fl _ _ hc1,h1,h2,↓u6 (show ks.length<=1000 by omega),↓ZS]
   exact bI (kk:=nils ks.length) (by simp [nils]) hk3
  ·rw [if_neg h2] at hev;have h2:m1.e=0:=by simpa using h2
   ·
    cases hkk:Pd (fun t m=>PS f env t m) op 0 ks m1 with
    | none=>rw [hkk] at hev;cases hev
    | some q =>
    obtain ⟨vs,m2⟩:=q;rw [hkk] at hev;simp only at hev;simp only [h2] at hc1;simp only [LG,Ly,S97,↓XX,XY,↓reduceIte,seval,↓Fl _ _ hc1,h1,h2,↓u6 (show ks.length<=1000 by omega),↓ZS,↓FU,↓AI,XD,heldB,AS,XE,E4,DM]
    have hlen:=PK hkk;refine Ba (Q:=fun r=>Bz r _ _) (fun k V H=>∃(pre rest:List Tm) (done:List PV) (m3:M3) (us:List PV),ks=pre++rest/\rest.length=k/\done.length=pre.length /\
      V=[.ptr (.ext 0) 0,.fv (PV.encEnv env),.ptr (.own 101711872) 0,.ptr (.own 101715979) 0,.fv (.sl (ks.map Tm.enc)),iv ks.length,iv pre.length] /\
      H=Hev op m ks env (done++nils rest.length) false m3.s m3.w r m3.e /\
      Pd (fun t m=>PS f env t m) op pre.length rest m3=some (us,m2)/\done++us=vs)
     ?_ n ks.length _ _ (by omega) ⟨[],ks,[],m1,vs,rfl,rfl,rfl,rfl,by rw [h2];rfl,hkk,rfl⟩
    rintro k V H rec ⟨pre,rest,done,m3,us,hk,hl,hdl,rfl,rfl,hkids,hvs⟩ hrec;have hkl:ks.length=pre.length+rest.length:=by rw [hk];simp
    cases rest with
    | nil =>
     simp only [Pd,AiZ,Ai0] at hkids;obtain ⟨rfl,rfl⟩:=hkids;rw [Ajm] at hvs;subst hvs;have hno:¬ ((pre.length:Int)<ks.length):=by rw [hkl];simp
     have hz:done++nils ([]:List Tm).length=done:=by simp [nils]
     rw [hz];by_cases h4:m3.e≠0
     ·rw [if_pos h4] at hev;simp only [AiZ,Ai0] at hev;obtain ⟨rfl,rfl⟩:=hev;simp only [↓dN,↓XX,XY,↓reduceIte,seval,hno,h4];exact bI hlen hk3
     ·rw [if_neg h4] at hev;have h4:m3.e=0:=by simpa using h4
      have hcc:=hc _ _ _ _ hev r n (by omega);rw [Bb] at hcc;simp only [h4] at hcc;have hlm:(done.map PV.enc).length=ks.length:=by simp [hlen]
      simp only [↓dN,↓XX,XY,↓reduceIte,seval,hno,h4]
      (try unfold is0);rw [lG hcc (s0:=101715979) (s2:=101715975) (own':=(Hev op m ks env done true m3.s m3.w r 0).own) (by rfl) (by rfl) hlm (by decide) (by omega) (by simp only [List.mem_map];rintro x ⟨v,_,rfl⟩;exact Mv v) (by rfl)]
      exact AJ _ _ _
    | cons x rest =>
     have hi:(pre.length:Int)<ks.length:=by rw [hkl];simp;omega
     have hg:=BY hk;have hb:=J3 (n:=n) (by omega) op pre.length;have hwi:BC ((pre.length:Int)+1)=((pre++[x]).length:Int):=(Ax (by omega) (by omega)).trans (by simp);simp only [Pd] at hkids;simp only [Ai3] at hl;by_cases hbn:0<Ak op pre.length
     ·rw [if_pos hbn] at hkids;have hbn':¬ ((Ak op pre.length:Nat):Int)=0:=by omega
      obtain ⟨o,p,l⟩:=x;simp only [↓dN,↓XX,XY,↓reduceIte,seval,hi,↓Bq (AN hg) (Bk _ _ _),↓B8,↓Af hb,hbn',hwi,↓FU,↓AI,XD,heldB,AS,XE,E4,DM];cases hkk2:Pd (fun t m=>PS f env t m) op (pre.length+1) rest m3 with
      | none=>rw [hkk2] at hkids;cases hkids
      | some q =>
      obtain ⟨us',m4⟩:=q;rw [hkk2] at hkids;simp only [Ai2,AiZ,Ai0] at hkids;obtain ⟨rfl,rfl⟩:=hkids;refine hrec rest.length _ _ (by omega) ⟨pre++[.mk o p l],rest,done++[.nil],m3,us',by rw [hk];simp,rfl,by simp [hdl],rfl,?_,by simpa using hkk2,by rw [<- hvs];simp⟩;rw [show done++[.nil]++nils rest.length=done++nils (rest.length+1) by simp [nils,List.replicate_succ]]
     ·rw [if_neg hbn] at hkids;have hbn':((Ak op pre.length:Nat):Int)=0:=by omega
      cases hev2:PS f env x m3 with
      | none=>rw [hev2] at hkids;cases hkids
      | some q =>
      obtain ⟨y,m4⟩:=q;rw [hev2] at hkids;simp only at hkids;cases hkk2:Pd (fun t m=>PS f env t m) op (pre.length+1) rest m4 with
      | none=>rw [hkk2] at hkids;cases hkids
      | some q =>
      obtain ⟨us',m5⟩:=q;rw [hkk2] at hkids;simp only [Ai2,AiZ,Ai0] at hkids;obtain ⟨rfl,rfl⟩:=hkids;have hce:=he _ _ _ _ _ hev2 r n (by omega);obtain ⟨o,p,l⟩:=x;rw [Am] at hce;have hin:pre.length<ks.length:=by omega
      have hoff:=fun {β:Type}=>qG (done:=done) (r:=rest.length) (β:=β);rw [hdl] at hoff;simp only [↓dN,↓XX,XY,↓reduceIte,seval,hi,↓Bq (AN hg) (Bk _ _ _),↓B8,↓Af hb,hbn',hwi,↓fU _ _ hce,↓rA hin,↓yJ,↓hoff,↓FU,↓AI,XD,heldB,AS,XE,E4,DM];exact hrec rest.length _ _ (by omega) ⟨pre++[.mk o p l],rest,done++[y],m4,us',by rw [hk];simp,rfl,by simp [hdl],rfl,rfl,by simpa using hkk2,by rw [<- hvs];simp⟩
theorem K2:∀f,nO f/\nH f/\sS f/\Zl f
 | 0=>⟨(fun _ _ _ _ _ h=>by rw [PS.eq_def] at h;cases h),(fun _ _ _ _ h=>by rw [ctP.eq_def] at h;cases h),(fun _ _ _ _ _ h=>by rw [stP.eq_def] at h;cases h),(fun _ _ _ _ _ _ h=>by rw [opP.eq_def] at h;cases h)⟩
 | f+1=>⟨nM (K2 f).1 (K2 f).2.1,iN (K2 f).2.2.1,n8 (K2 f).2.1 (K2 f).2.2.2,lE (K2 f).1⟩
def QS (below:Int) (b:Nat):List PV:=(List.range b).map fun (j:Nat)=>PV.var (below+(j:Int))
def dW (u:Int) (b:Nat):QS u (b+1)=QS u b++[PV.var (u+b)]:=by simp [QS,List.range_succ]
def J5 (u:Int) (b:Nat):(QS u b).length=b:=by simp [QS]
def Y4 (bk:PV->Int->M3->Int->Option (Tm×M3×Int)) (opn:Nat->List PV->M3->Option (PV×M3)) (op below:Int):Nat->List PV->M3->Int->Option (Option (List Tm)×M3×Int)
 | _,[],m,r=>some (some [],m,r)
 | i,x::l,m,r=>match (if 0<Ak op i then opn i (QS below (Ak op i)) m else some (x,m)) with
  | none=>none
  | some (y,m)=>if m.e≠0 then some (none,m,r) else match bk y (below+Ak op i) m r with
   | none=>none
   | some (t,m,r)=>(Y4 bk opn op below (i+1) l m r).map fun (ts,m,r)=>(ts.map (t::·),m,r)
def Q3:Nat->PV->Int->Int->M3->Int->Option (Tm×M3×Int)
 | 0,_,_,_,_,_=>none
 | f+1,v,below,deep,m,r =>
  if r<0\/1000000000<r\/below<0\/1000000<below\/deep<0\/1000000<deep then none else
  match Hs ⟨m.s,m.w,if m.e=0/\(3000<r+1\/120<deep) then 5 else m.e⟩ with
  | none=>none
  | some m=>if m.e≠0 then some (.z,m,r+1) else match v with
   | .nil=>none
   | .mk op n k t e=>if op=1 then (if n < -2305843009213693952\/2305843009213693952<n then none else some (.mk 1 (below - 1 - n) [],m,r+1))
    else if f<=k.length+4\/100<k.length then none
    else match Y4 (fun v below m r=>Q3 f v below (deep+1) m r) (fun i l m=>opP f (.mk op n k t e) i l m) op below 0 k m (r+1) with
     | none=>none
     | some (none,m,r)=>some (.z,m,r)
     | some (some ts,m,r)=>some (.mk op n ts,m,r)
def j4 (f:Nat):Prop:=∀(v:PV) (below deep:Int) (m:M3) (r:Int) (t:Tm) (m':M3) (r':Int),Q3 f v below deep m r=some (t,m',r')->∀n,f+1<=n ->
 Bz (SS dt n 98 [.ptr (.ext 0) 0,.fv v.enc,iv below,iv deep] ⟨[],MX m.s m.w r m.e⟩) t.enc (MX m'.s m'.w r' m'.e)
def Hc (j:Nat) (v:FV):Fm (.ext j) (.fv v)=true:=rfl
def dZ {ih:Ah} {n:Nat} {v w:FV} {below deep s u r e e1:Int} {ext:List Blk} (hr:0<=r) (hr2:r<=1000000000) (he1:(if e=0/\(3000<r+1\/120<deep) then (5:Int) else e)=e1)
  (h:Bz (E1 ih ⟨[(102760448,.row [iv 0,iv 0,.nils] false)],MX s u (r+1) e1⟩ (.ptr (.ext 0) 0) (.ptr (.own 102760448) 0) (.fv v) (iv below) ⟨[],MX s u r e⟩ (iv deep) n) w ext) :
  Bz (S98 ih n (.ptr (.ext 0) 0) (.fv v) (iv below) (iv deep) ⟨[],MX s u r e⟩) w ext:=by
 have wr:BC (r+1)=r+1:=by rw [Ax]<;>omega
 have key:S98 ih n (.ptr (.ext 0) 0) (.fv v) (iv below) (iv deep) ⟨[],MX s u r e⟩=E1 ih ⟨[(102760448,.row [iv 0,iv 0,.nils] false)],MX s u (r+1) e1⟩ (.ptr (.ext 0) 0) (.ptr (.own 102760448) 0) (.fv v) (iv below) ⟨[],MX s u r e⟩ (iv deep) n:=by
  by_cases h0:e=0
  ·by_cases h3:3000<r+1
   ·rw [if_pos ⟨h0,.inl h3⟩] at he1;subst he1;simp only [D5,DV,CY,DW,E8,DH,DP,ES,DC,DI,S98,↓XX,XY,↓reduceIte,seval,↓Hc,wr,h0,h3]
   ·by_cases h4:120<deep
    ·rw [if_pos ⟨h0,.inr h4⟩] at he1;subst he1;simp only [D5,DV,CY,DW,E8,DH,DP,ES,DC,DI,S98,↓XX,XY,↓reduceIte,seval,↓Hc,wr,h0,h3,h4]
    ·rw [if_neg (by omega)] at he1;subst he1;simp only [D5,DV,CY,DW,E8,DH,DP,ES,DC,DI,S98,↓XX,XY,↓reduceIte,seval,↓Hc,wr,h0,h3,h4]
  ·rw [if_neg (by omega)] at he1;subst he1;simp only [D5,DV,CY,DW,E8,DH,DP,ES,DC,DI,S98,↓XX,XY,↓reduceIte,seval,↓Hc,wr,h0]
 rw [key];exact h
abbrev iC (done:List Tm) (rest:Nat) (more:List (Nat×Blk)) (s w r e:Int):Hp :=⟨(102760448,.row [iv 0,iv 0,.nils] false)::(102769669,.row (BZ done rest) false)::more,MX s w r e⟩
def pJ {ih:Ah} {f:FuncId} {w x y:FV} {a b:IV} {s0 len:Nat} {s u r e s' u' r' e':Int} {own own':List (Nat×Blk)} {es:List FV} {ro:Bool} (hr:Bz (ih f [.ptr (.ext 0) 0,.fv x,.fv y,.fv (.sl es)] ⟨[],MX s u r e⟩) w (MX s' u' r' e'))
  (ha:Bd a=some x) (hb:Bd b=some y) (hl:Ap s0 own=some (.row (es.map .fv) ro)) (hlen:es.length=len) (hn:es.length<=300) (hag:∀x∈es,∀l,x≠.agg l) (ho:AO s0 (.row (es.map .fv) true) own=own')
  (k:KT (IV×Hp)) :
  A5 [true,false,false,false] false false ih f [.ptr (.ext 0) 0,a,b,.slc (.own s0) 1 len] ⟨own,MX s u r e⟩ k=k (.fv w) ⟨own',MX s' u' r' e'⟩ [.ext 1,.ext 0,.own s0] [.own s0,.ext 0,.ext 1]:=by
 subst ho hlen;refine Vk (ks:=[false,false,false]) (vs:=[x,y,.sl es]) (u:=[(.own s0,.row (es.map .fv) true)]) (lg:=[.own s0]) ?_ (kQ ..) hr ?_ k
 ·intro e k;rw [Qh,GZ _ _ e _ ha,Qh,GZ _ _ e _ hb,Qh,cL (d:=10) hl hn hag,xY];rfl
 ·intro k
  show (E3 own s0 fun _=>Bc own s0 (.row (es.map .fv) true) fun own=>k ⟨own,_⟩)=_
  rw [BA,hl,Ajt,BS]
def mE (op n:Int) (done:List Tm):Option (List Tm)->Tm
 | none=>.z
 | some ts=>.mk op n (done++ts)
def sO {n:Nat} {op nn bo bn below deep:Int} {k e:List PV} {bk:List Tm} {done:List Tm} {s w r er:Int} (h4:Hp) {rec:List IV->Hp->Option (IV×Hp)} (hd:done.length=k.length) (hk:k.length<=100) :
  Bz (ES [.ptr (.ext 0) 0,.fv (PV.mk op nn k (.mk bo bn bk) e).enc,iv below,iv deep,.ptr (.own 102760448) 0,.slc (.own 102769669) 3 k.length,iv k.length,iv k.length] (iC done 0 [] s w r er) (SS dt n) h4 rec n)
   (Tm.mk op nn done).enc (MX s w r er):=by
 rw [Bb,Am];have hno:¬ ((k.length:Int)<k.length):=by omega
 simp only [D5,DV,CY,DW,E8,DH,DP,ES,DC,E1,DI,S98,↓XX,XY,↓reduceIte,seval,↓Hc,hno];rw [<- hd];exact ⟨_,_,rfl,_,_,fun e0 K=>cE (by rfl) (by omega) [] e0 K⟩
def cS (more:List (Nat×Blk)):Prop:=more=[]\/∃(l:List FV) (ro:Bool),more=[(102775809,.row (l.map .fv) ro)]
def Ab3 {n:Nat} {v y:FV} {below deep b len i:IV} {done:List Tm} {rest kl:Nat} {more:List (Nat×Blk)} {s w r e:Int} (hM:cS more) (h4:Hp) {rec:List IV->Hp->Option (IV×Hp)} (he:e≠0) :
  Bz (CY (.ptr (.ext 0) 0) (iC done rest more s w r e) (.ptr (.own 102760448) 0) below b deep (SS dt n) (.fv y) (.slc (.own 102769669) 3 kl) i i h4 (.fv v) len rec) Tm.z.enc (MX s w r e):=by
 rcases hM with rfl | ⟨l,ro,rfl⟩
 ·simp only [↓T5,↓XX,XY,↓reduceIte,seval,↓Hc,he];exact EK rfl _ _
 ·simp only [↓T5,↓XX,XY,↓reduceIte,seval,↓Hc,he];exact EK rfl _ _
def AaA {f n:Nat} {v:FV} {y:PV} {below deep:Int} {b:Nat} {len:Int} {done:List Tm} {rest kl:Nat} {more:List (Nat×Blk)} {m m5:M3} {r r5:Int} {t5:Tm} {w:FV} {ext:List Blk} (hb:j4 f) (hn:f+1<=n) (hM:cS more) (ext4:List Blk)
  {rec:List IV->Hp->Option (IV×Hp)} (he:m.e=0) (hbk:Q3 f y (below+b) (deep+1) m r=some (t5,m5,r5)) (hb1:0<=below) (hb2:below<=1000000) (hb3:b<=10) (hd1:0<=deep) (hd2:deep<=1000000) (hkl:done.length<kl) (hkl2:kl<=100)
  (h:Bz (rec [.ptr (.ext 0) 0,.fv v,iv below,iv deep,.ptr (.own 102760448) 0,.slc (.own 102769669) 3 kl,iv len,iv (done++[t5]).length] (iC (done++[t5]) rest [] m5.s m5.w r5 m5.e)) w ext) :
  Bz (CY (.ptr (.ext 0) 0) (iC done (rest+1) more m.s m.w r m.e) (.ptr (.own 102760448) 0) (iv below) (iv b) (iv deep) (SS dt n) (.fv y.enc) (.slc (.own 102769669) 3 kl) (iv done.length) (iv done.length) ⟨[],ext4⟩ (.fv v) (iv len) rec) w ext:=by
 have hc:=hb _ _ _ _ _ _ _ _ hbk n hn;have wb:BC (below+b)=below+b:=by rw [Ax]<;>omega
 have wd:BC (deep+1)=deep+1:=by rw [Ax]<;>omega
 have wi:BC ((done.length:Int)+1)=((done++[t5]).length:Int):=(Ax (by omega) (by omega)).trans (by simp);obtain ⟨o,p,ks⟩:=t5;rw [Am] at hc;simp only [he] at hc ⊢;rcases hM with rfl | ⟨l,ro,rfl⟩
 ·simp only [↓T5,↓XX,XY,↓reduceIte,seval,↓Hc,wb,wd,↓PB _ _ hc,↓Mx hkl,↓Vy,wi,↓FU,↓AI,XD,heldB,AS,XE,E4,DM,GC,EX];exact h
 ·simp only [↓T5,↓XX,XY,↓reduceIte,seval,↓Hc,wb,wd,↓PB _ _ hc,↓Mx hkl,↓Vy,wi,↓FU,↓AI,XD,heldB,AS,XE,E4,DM,GC,EX];exact h
theorem AcG {f n:Nat} {v y:PV} {below deep:Int} {i b kl:Nat} {len:Int} {done:List Tm} {rest:Nat} {m m4:M3} {r:Int} {w:FV} {ext:List Blk} (hn:f+1<=n) (h3:3<=n) (ext4:List Blk)
  {j:IV->IV->IV->IV->IV->IV->IV->IV->IV->IV->IV->Hp->Option (IV×Hp)} (hb:b<=2) (hb1:0<=below) (hb2:below<=1000000) (hop:opP f v i (QS below b) m=some (y,m4))
  (hj:Bz (j (.ptr (.ext 0) 0) (.fv v.enc) (iv below) (iv deep) (.ptr (.own 102760448) 0) (.slc (.own 102769669) 3 kl) (iv i) (.fv y.enc) (iv b) (iv len) (iv i)
   (iC done rest [(102775809,.row (((QS below b).map PV.enc).map .fv) true)] m4.s m4.w r m4.e)) w ext) :
  Bz (BG n (fun q119 l120 h121=>E8 l120 h121 ⟨[],ext4⟩ q119 (SS dt n) j) [.ptr (.ext 0) 0,.fv v.enc,iv below,iv deep,.ptr (.own 102760448) 0,.slc (.own 102769669) 3 kl,iv i,iv b,.slc (.own 102775809) 1 b,iv len,iv i,iv b,iv 0]
   (iC done rest [(102775809,.row (((nils b).map PV.enc).map .fv) false)] m.s m.w r m.e)) w ext:=by
 refine Ba (Q:=fun r=>Bz r _ _) (fun t V H=>∃(k:Nat),k+t=b /\
   V=[.ptr (.ext 0) 0,.fv v.enc,iv below,iv deep,.ptr (.own 102760448) 0,.slc (.own 102769669) 3 kl,iv i,iv b,.slc (.own 102775809) 1 b,iv len,iv i,iv b,iv k] /\
   H=iC done rest [(102775809,.row (((QS below k++nils t).map PV.enc).map .fv) false)] m.s m.w r m.e) ?_ n b _ _ (by omega) ⟨0,by omega,rfl,rfl⟩
 rintro t V H rec ⟨k,hkt,rfl,rfl⟩ hrec;cases t with
 | zero =>
  have hkb:k=b:=by omega
  subst hkb;have hno:¬ ((k:Int)<k):=by omega
  have hc:=(K2 f).2.2.2 _ _ _ _ _ _ hop r n hn;rw [show QS below k++nils 0=QS below k by simp [nils]]
  simp only [D5,DV,CY,DW,DH,DP,DC,E1,DI,S98,E8,↓XX,XY,↓reduceIte,seval,↓Hc,hno]
  (try unfold is0);rw [pJ hc rfl rfl (s0:=102775809) (own':=(iC done rest [(102775809,.row (((QS below k).map PV.enc).map .fv) true)] m4.s m4.w r m4.e).own) (by rfl) (by simp [J5]) (by simp [J5];omega) (by simp only [List.mem_map];rintro x ⟨v,_,rfl⟩;exact Mv v) (by rfl)]
  exact hj
 | succ t =>
  have hlt:(k:Int)<b:=by omega
  have hkb:k<b:=by omega
  have wk:BC ((k:Int)+1)=((k+1:Nat):Int):=(Ax (by omega) (by omega)).trans (by simp);have wbk:BC (below+(k:Int))=below+k:=by rw [Ax]<;>omega
  have hoff:=fun {β:Type}=>qG (done:=QS below k) (r:=t) (β:=β) (PV.var (below+k));rw [J5,RT] at hoff;simp only [D5,DV,CY,DW,DH,DP,DC,E1,DI,S98,E8,↓XX,XY,↓reduceIte,seval,↓Hc,hlt,wbk];rw [Wb (fc:=[.int .i64 1,.int .i64 (below+k),.sl [],.int .i64 0,.int .i64 0,.sl [],.nilp]) rfl (by simp)];simp only [↓XX,XY,↓reduceIte,seval,↓Hc,↓rA hkb,↓hoff,wk,↓FU,↓AI,XD,heldB,AS,XE,E4,DM,GC,EX];exact hrec t _ _ (by omega) ⟨k+1,by omega,rfl,by rw [dW]⟩
theorem kI {f:Nat} (hb:j4 f):j4 (f+1):=by
 intro v below deep m r t m' r' hev n hn;obtain ⟨n,rfl⟩:=psc n (by omega);rw [c98];rw [Q3.eq_def] at hev;simp only at hev;split at hev
 ·cases hev
 rename_i hbad;have wd:BC (deep+1)=deep+1:=by rw [Ax]<;>omega
 have wb1:BC (below - 1)=below - 1:=by rw [Ax]<;>omega
 generalize he1:(if m.e=0/\(3000<r+1\/120<deep) then (5:Int) else m.e)=e1 at hev;cases ht:Hs ⟨m.s,m.w,e1⟩ with
 | none=>rw [ht] at hev;cases hev
 | some m1 =>
 rw [ht] at hev;simp only at hev;have hc1:=PD ht (r+1) (n:=n) (by omega);simp only at hc1;refine dZ (by omega) (by omega) he1 ?_;by_cases h1:m1.e≠0
 ·rw [if_pos h1] at hev;simp only [AiZ,Ai0] at hev;obtain ⟨rfl,rfl,rfl⟩:=hev;simp only [↓T5,↓XX,XY,↓reduceIte,seval,↓Hc,↓Fl _ _ hc1,h1];exact EK rfl _ _
 ·rw [if_neg h1] at hev;have h1:m1.e=0:=by simpa using h1
  cases v with
  | nil=>cases hev
  | mk op nn k t0 e =>
  obtain ⟨bo,bn,bk⟩:=t0;simp only at hev;by_cases h2:op=1
  ·rw [if_pos h2] at hev;split at hev
   ·cases hev
   rename_i hnn;simp only [AiZ,Ai0] at hev;obtain ⟨rfl,rfl,rfl⟩:=hev;have wb2:BC (below - 1 - nn)=below - 1 - nn:=by rw [Ax]<;>omega
   rw [Bb];simp only [↓T5,↓XX,XY,↓reduceIte,seval,↓Hc,↓Fl _ _ hc1,h1,h2,wb1,wb2];exact EK rfl _ _
  ·rw [if_neg h2] at hev;split at hev
   ·cases hev
   rename_i hk100;have hk100:k.length<=100:=by omega
   cases hkk:Y4 (fun v below m r=>Q3 f v below (deep+1) m r) (fun i l m=>opP f (.mk op nn k (.mk bo bn bk) e) i l m) op below 0 k m1 (r+1) with
   | none=>rw [hkk] at hev;cases hev
   | some q =>
   obtain ⟨res,m2,r2⟩:=q;rw [hkk] at hev;have hres:t=mE op nn [] res/\m'=m2/\r'=r2:=by
    cases res with
    | none=>simp only [AiZ,Ai0] at hev;exact ⟨hev.1.symm,hev.2.1.symm,hev.2.2.symm⟩
    | some ts=>simp only [AiZ,Ai0] at hev;exact ⟨hev.1.symm,hev.2.1.symm,hev.2.2.symm⟩
   obtain ⟨ht5,rfl,rfl⟩:=hres;generalize hV:PV.mk op nn k (.mk bo bn bk) e=V5 at *;have hVe:V5.enc=.fp [.int .i64 op,.int .i64 nn,.sl (k.map PV.enc),.int .i64 bo,.int .i64 bn,.sl (bk.map Tm.enc),PV.encEnv e] 0:=by rw [<- hV,Bb]
   rw [hVe];simp only [↓T5,↓XX,XY,↓reduceIte,seval,↓Hc,↓Fl _ _ hc1,h1,h2,↓y8 (show k.length<=1000 by omega),↓FU,↓AI,XD,heldB,AS,XE,E4,DM,GC,EX]
   refine Ba (Q:=fun r=>Bz r _ _) (fun j V H=>∃(pre rest:List PV) (done:List Tm) (m3:M3) (r3:Int) (res3:Option (List Tm)),k=pre++rest/\rest.length=j/\done.length=pre.length /\
     V=[.ptr (.ext 0) 0,.fv V5.enc,iv below,iv deep,.ptr (.own 102760448) 0,.slc (.own 102769669) 3 k.length,iv k.length,iv pre.length] /\
     H=iC done rest.length [] m3.s m3.w r3 m3.e /\
     Y4 (fun v below m r=>Q3 f v below (deep+1) m r) (fun i l m=>opP f V5 i l m) op below pre.length rest m3 r3=some (res3,m',r')/\mE op nn done res3=t)
    ?_ n k.length _ _ (by omega) ⟨[],k,[],m1,r+1,res,rfl,rfl,rfl,by rw [hVe];rfl,by rw [h1],hkk,ht5.symm⟩
   rintro j V H rec ⟨pre,rest,done,m3,r3,res3,hk,hl,hdl,rfl,rfl,hkids,hts⟩ hrec;have hkl:k.length=pre.length+rest.length:=by rw [hk];simp
   cases rest with
   | nil =>simp only [Y4,AiZ,Ai0] at hkids;obtain ⟨rfl,rfl,rfl⟩:=hkids;rw [Ajh,AjB] at hkl;rw [<- hts,<- hV,mE,Ajm,<- hkl];exact sO _ (by omega) hk100
   | cons x rest =>
    have hi:(pre.length:Int)<k.length:=by rw [hkl];simp;omega
    have hg:=BY hk;have hbn:=J3 (n:=n) (by omega) op pre.length;have hble:=AW op pre.length;simp only [Y4] at hkids;simp only [Ai3] at hl hkl;have behind:∀(y:PV) (m4:M3) (more:List (Nat×Blk)),cS more->(if m4.e≠0 then some (none,m4,r3) else match Q3 f y (below+Ak op pre.length) (deep+1) m4 r3 with
       | none=>none
       | some (t,m,r)=>(Y4 (fun v below m r=>Q3 f v below (deep+1) m r) (fun i l m=>opP f V5 i l m) op below (pre.length+1) rest m r).map fun (ts,m,r)=>(ts.map (t::·),m,r))=some (res3,m',r') ->
      Bz (CY (.ptr (.ext 0) 0) (iC done (rest.length+1) more m4.s m4.w r3 m4.e) (.ptr (.own 102760448) 0) (iv below) (iv (Ak op pre.length)) (iv deep) (SS dt n) (.fv y.enc) (.slc (.own 102769669) 3 k.length) (iv pre.length) (iv pre.length) ⟨[],MX m.s m.w r m.e⟩ (.fv V5.enc) (iv k.length) rec)
       t.enc (MX m'.s m'.w r' m'.e):=by
     intro y m4 more hM hy;by_cases h4:m4.e≠0
     ·rw [if_pos h4] at hy;simp only [AiZ,Ai0] at hy;obtain ⟨rfl,rfl,rfl⟩:=hy;rw [<- hts];exact Ab3 hM _ h4
     ·rw [if_neg h4] at hy;have h4:m4.e=0:=by simpa using h4
      cases hbk:Q3 f y (below+Ak op pre.length) (deep+1) m4 r3 with
      | none=>rw [hbk] at hy;cases hy
      | some q =>
      obtain ⟨t5,m5,r5⟩:=q;rw [hbk] at hy;simp only at hy;cases hk2:Y4 (fun v below m r=>Q3 f v below (deep+1) m r) (fun i l m=>opP f V5 i l m) op below (pre.length+1) rest m5 r5 with
      | none=>rw [hk2] at hy;cases hy
      | some q =>
      obtain ⟨res6,m6,r6⟩:=q;rw [hk2] at hy;simp only [Ai2,AiZ,Ai0] at hy;obtain ⟨rfl,rfl,rfl⟩:=hy;rw [<- hdl];refine AaA hb (by omega) hM _ h4 (by rw [hdl];exact hbk) (by omega) (by omega) (by rw [hdl];omega) (by omega) (by omega) (by omega) hk100 ?_;refine hrec rest.length _ _ (by omega) ⟨pre++[x],rest,done++[t5],m5,r5,res6,by rw [hk];simp,rfl,by simp [hdl],by simp [hdl],rfl,by simpa using hk2,?_⟩;rw [<- hts];cases res6 with
      | none=>rfl
      | some ts=>simp [mE]
    rw [hVe];by_cases hb0:0<Ak op pre.length
    ·rw [if_pos hb0] at hkids;have hb0':(0:Int)<Ak op pre.length:=by omega
     cases hop:opP f V5 pre.length (QS below (Ak op pre.length)) m3 with
     | none=>rw [hop] at hkids;cases hkids
     | some q =>
     obtain ⟨y,m4⟩:=q;rw [hop] at hkids;have h9:=behind y m4 [(102775809,.row (((QS below (Ak op pre.length)).map PV.enc).map .fv) true)] (.inr ⟨_,_,rfl⟩) hkids;have hin:=AcG (f:=f) (n:=n) (v:=V5) (y:=y) (below:=below) (deep:=deep) (i:=pre.length) (b:=Ak op pre.length) (kl:=k.length) (len:=k.length) (done:=done) (rest:=rest.length+1) (m:=m3) (m4:=m4) (r:=r3) (w:=t.enc) (ext:=MX m'.s m'.w r' m'.e) (by omega) (by omega) (MX m.s m.w r m.e)
      (j:=fun x79 x80 x81 x82 x83 x84 x85 x86 x87 x88 x89 h90=>CY x79 h90 x83 x81 x87 x82 (SS dt n) x86 x84 x85 x89 ⟨[],MX m.s m.w r m.e⟩ x80 x88 rec) (by omega) (by omega) (by omega) hop h9
     simp only [D5,DV,DW,DH,DP,ES,DC,E1,DI,S98,↓XX,XY,↓reduceIte,seval,↓Hc,hi,↓rM hg,↓Af hbn,hb0',↓u6 (show Ak op pre.length<=1000 by omega),↓FU,↓AI,XD,heldB,AS,XE,E4,DM,GC,EX]
     rw [hVe] at hin;exact hin
    ·rw [if_neg hb0] at hkids;have hb0':¬ (0:Int)<Ak op pre.length:=by omega
     have h9:=behind x m3 [] (.inl rfl) hkids;simp only [D5,DV,DW,DH,DP,ES,DC,E1,DI,S98,↓XX,XY,↓reduceIte,seval,↓Hc,hi,↓rM hg,↓Af hbn,hb0'];rw [hVe] at h9;exact h9
theorem qF:∀f,j4 f
 | 0=>(fun _ _ _ _ _ _ _ _ h=>by rw [Q3.eq_def] at h;cases h)
 | f+1=>kI (qF f)
abbrev ER (mb:Nat) (f:FuncId):IV:=.agg [.func (.func f) [.ptr (.own mb) 0] []]
abbrev Dr (mb:Nat):List (Int×IV):=[(5,ER mb 120),(8,ER mb 121),(9,ER mb 121),(13,ER mb 122),(30,ER mb 123),(19,ER mb 124)]
def jC (r:Ref):IV.one (.mapr r)=true:=rfl
def fI {β:Type} (l:List IV) (e:Option β) (k:List FV->Option β):CH (.dead::l) e k=e:=rfl
def of4 {β:Type} (x y z u v b:IV) (l:List IV) (k:List IV->Option β):Gi (x::y::z::u::v::l) 4 b k=k (x::y::z::u::b::l):=rfl
def AeE (s:Nat) (own:List (Nat×Blk)) (ext:List Blk) (k:KT (IV×Hp)):Az (Gj s) s ⟨own,ext⟩ k=CS own s (Bc own s (.map []) fun own=>k (.mapr (.own s)) ⟨own,ext⟩ [] [.own s]):=by unfold Az;simp only [Gj,Rd.runLog,Hf,Cz,Cj];rfl
def Aam (b:Blk) (k:List (Int×IV)->Option (IV×Hp)):Option (IV×Hp):=match b with
 | .map es=>k es
 | _=>none
def ZP (es:List (Int×IV)) (k:List (Int×IV)->Option (IV×Hp)):Aam (.map es) k=k es:=rfl
theorem Ab1 (m j:Nat) (v:IV) (hv:v.alive=true) (n:Int) (s:Nat) (own:List (Nat×Blk)) (ext:List Blk) (k:KT (IV×Hp)) :
  Az (Co EE 124 (.mapr (.own m)) (iv n) v) s ⟨own,ext⟩ k=E3 own m fun b=>Aam b fun es=>Bc own m (.map (CG n v es)) fun own=>k .dead ⟨own,ext⟩ [.own m] [.own m]:=by
 have h1:=tMk;have h2:=tIk;cases hm:EE.T 124 with
 | none=>rw [hm] at h1;cases h1
 | some ti =>
  cases hi:EE.T 3 with
  | none=>rw [hi] at h2;cases h2
  | some ii =>
   rw [hm] at h1;rw [hi] at h2;obtain ⟨a,b,kd,z⟩:=ti;obtain ⟨a2,b2,kd2,z2⟩:=ii;simp only [Ai2,AiZ] at h1 h2;subst h1 h2;rw [BA];unfold Az;cases hl:Ap m own with
   | none=>simp only [Co,hm,hi,TS,Rd.runLog,Hp.get,hl];rfl
   | some bl =>
    cases bl with
    | row c ro=>simp only [Co,hm,hi,TS,Rd.runLog,Hp.get,hl];rfl
    | tok a b=>simp only [Co,hm,hi,TS,Rd.runLog,Hp.get,hl];rfl
    | map es =>
     simp only [Co,hm,hi,TS,Rd.runLog,Hp.get,hl,eZ,hv,and_self,if_true,Ajt,ZP]
     show (eW (.own m) fun q=>Dq q ⟨own,ext⟩ fun _=>YL (.map (CG n v es)) fun b=>FH q b ⟨own,ext⟩ fun h=>Hf none s h fun h=>fV 3 .dead fun v=>k v h [.own m] ([.own m]++[]))=_
     simp only [M9,Cz,Cj,Hf,FH,Dq];rw [BA,hl];rfl
def uM {ks:List Bool} (hks:∀b∈ks,b=false) {ih:Ah} {f:FuncId} {args:List IV} {vs:List FV} {w:FV} {mb mp:Nat} {own:List (Nat×Blk)} {s u r e s' u' r' e':Int} (hz:Bu args=some vs) (hne:mb≠mp)
  (hl1:Ap mb own=some (.row [iv s,iv u,iv r,iv e,.mapr (.own mp)] false)) (hl2:Ap mp own=some (.map (Dr mb))) (hr:Bz (ih f (.ptr (.ext 0) 0::vs.map .fv) ⟨[],MX s u r e⟩) w (MX s' u' r' e')) (k:KT (IV×Hp)) :
  A5 (true::ks) false false ih f (.ptr (.own mb) 0::args) ⟨own,[]⟩ k=k (.fv w) ⟨AO mp (.map (Dr mb)) (AO mb (.row [iv s',iv u',iv r',iv e',.mapr (.own mp)] false) own),[]⟩ [.own mp,.own mb] [.own mb,.own mp]:=by
 obtain ⟨v,own',e1,hfz⟩:=hr;obtain ⟨uu,hu⟩:=Jw hfz;have hD:Ea (true::ks) false false ih f (.ptr (.own mb) 0::args) ⟨own,[]⟩ k=k (.fv w) ⟨AO mp (.map (Dr mb)) (AO mb (.row [iv s',iv u',iv r',iv e',.mapr (.own mp)] false) own),[]⟩ [.own mp,.own mb] [.own mb,.own mp]:=by
  have h1:By (true::ks) (.ptr (.own mb) 0::args)=.ret (.ptr (.own mb) 0::vs.map .fv,[.own mb],[]):=by simp only [By,Ic args ks hks hz,Rd.bind,IV.refs];rfl
  have hn1:¬ (Ref.own mp=Ref.own mb):=by intro h;cases h;exact hne rfl
  have h2:(B4 4096 [.own mb] []).runLog ⟨own,[]⟩ []=some ([(.own mb,.row [iv s,iv u,iv r,iv e,.mapr (.own mp)] false),(.own mp,.map (Dr mb))],[.own mp,.own mb]):=by
   show (B4 (4087+1+1+1+1+1+1+1+1+1) [.own mb] []).runLog ⟨own,[]⟩ []=_
   simp only [B4,hasRef,Ajx,if_false,Rd.runLog,Hp.get,hl1,hl2,Blk.refs,IV.refs.refsL,IV.refs,Ajm,Ajo,Ajq,Ai5,Ai4,hn1,decide_false,decide_true,Bool.or_false,Bool.true_or,if_true]
  have p1:D6 [(.own mb,.row [iv s,iv u,iv r,iv e,.mapr (.own mp)] false),(.own mp,.map (Dr mb))] (.own mb)=some (.ext 0):=by simp [D6,Cs]
  have p2:D6 [(.own mb,.row [iv s,iv u,iv r,iv e,.mapr (.own mp)] false),(.own mp,.map (Dr mb))] (.own mp)=some (.ext 1):=by simp [D6,Cs,hn1]
  have h3:IV.ren.renL (D6 [(.own mb,.row [iv s,iv u,iv r,iv e,.mapr (.own mp)] false),(.own mp,.map (Dr mb))]) (.ptr (.own mb) 0::vs.map .fv)=some (.ptr (.ext 0) 0::vs.map .fv):=by simp only [IV.ren.renL,IV.ren,p1,Ai2,Ajt,DS]
  have h4:Bg (D6 [(.own mb,.row [iv s,iv u,iv r,iv e,.mapr (.own mp)] false),(.own mp,.map (Dr mb))]) [.row [iv s,iv u,iv r,iv e,.mapr (.own mp)] false,.map (Dr mb)]=some (MX s u r e):=by simp only [Bg,Blk.ren,IV.ren.renL,IV.ren,p1,p2,Ai2,Ajt,Ai5,Ai4,List.zip_cons_cons,List.zip_nil_left]
  have h5:Bg (CF [(.own mb,.row [iv s,iv u,iv r,iv e,.mapr (.own mp)] false),(.own mp,.map (Dr mb))]) (MX s' u' r' e')=some [.row [iv s',iv u',iv r',iv e',.mapr (.own mp)] false,.map (Dr mb)]:=by simp only [Bg,Blk.ren,IV.ren.renL,IV.ren,CF,Ajb,Ajc,Ai2,Ajt,Ai5,Ai4,List.zip_cons_cons,List.zip_nil_left]
  unfold Ea;simp only [h1,Rd.runLog,h2,h3,Ai5,Ai4,h4,CX (Cj 3),CX Cz,Ei,Ajx,if_false,e1,hu,Ai2,IV.ren,h5,Ai3,Ajh,BB,List.all_nil,and_self,if_true,Ajo,List.zip_cons_cons,List.zip_nil_left];have hl3:Ap mp (AO mb (.row [iv s',iv u',iv r',iv e',.mapr (.own mp)] false) own)=some (.map (Dr mb)):=by
   rw [<- hl2];clear hl1 hl2 h2 e1 hu hfz
   induction own with
   | nil=>simp only [AO,Ap,if_neg (fun h=>hne (Eq.symm h))]
   | cons p l ih =>
    obtain ⟨j,c⟩:=p;simp only [AO];split
    ·rename_i h;subst h;simp only [Ap,if_neg (fun h=>hne (Eq.symm h))]
    ·simp only [Ap,ih]
  have h6:laid ⟨own,[]⟩ [(.own mb,.row [iv s',iv u',iv r',iv e',.mapr (.own mp)] false),(.own mp,.map (Dr mb))]=some ⟨AO mp (.map (Dr mb)) (AO mb (.row [iv s',iv u',iv r',iv e',.mapr (.own mp)] false) own),[]⟩:=by simp only [laid,Hp.get,hl1,Hp.set,hl3]
  simp only [h6,In,Cj]
 rw [Jb,T9,Pj,L2 0 args _ _ _ _ ks hks hz];simp only [Pl,Pk,cond_false];exact hD
def GO (op:Int):Int:=if op=8\/op=9\/op=12\/op=19\/op=30 then 1 else if op=4\/op=5 then 2 else if op=7 then 3 else if op=13 then 4 else -1
theorem mD {n:Nat} (hn:0<n) (op:Int):BE (SS dt n 119 [iv op] ⟨[],[]⟩) (.int .i64 (GO op)):=by
 obtain ⟨n,rfl⟩:=psc n (by omega);rw [AeU];unfold GO;by_cases h:op=8\/op=9\/op=12\/op=19\/op=30
 ·rw [if_pos h];rcases h with rfl | rfl | rfl | rfl | rfl<;>(simp only [Tl,↓XX,XY,↓reduceIte,seval];exact Aw _ _)
 ·rw [if_neg h];have h8:¬ op=8:=fun e=>h (by simp [e]);have h9:¬ op=9:=fun e=>h (by simp [e]);have h12:¬ op=12:=fun e=>h (by simp [e]);have h19:¬ op=19:=fun e=>h (by simp [e]);have h30:¬ op=30:=fun e=>h (by simp [e]);by_cases h2:op=4\/op=5
  ·rw [if_pos h2];rcases h2 with rfl | rfl<;>(simp only [Tl,↓XX,XY,↓reduceIte,seval];exact Aw _ _)
  ·rw [if_neg h2];have h4:¬ op=4:=fun e=>h2 (by simp [e]);have h5:¬ op=5:=fun e=>h2 (by simp [e]);by_cases h7:op=7
   ·subst h7;simp only [Tl,↓XX,XY,↓reduceIte,seval];exact Aw _ _
   ·by_cases h13:op=13
    ·subst h13;simp only [Tl,↓XX,XY,↓reduceIte,seval];exact Aw _ _
    ·simp only [Tl,↓XX,XY,↓reduceIte,seval,h4,h5,h7,h8,h9,h12,h13,h19,h30];exact Aw _ _
mutual
def Tm.shaped:Tm->Bool
 | .mk op n ks=>!(decide (0<=GO op/\GO op≠ks.length) || decide (op=1/\n<0)) && Tm.shapedL ks
def Tm.shapedL:List Tm->Bool
 | []=>true
 | t::l=>t.shaped && Tm.shapedL l
end
theorem Oh:∀(n:Nat) (t:Tm),t.wt+1<n->t.wt<=1152921504606846976->BE (SS dt n 95 [.fv t.enc] ⟨[],[]⟩) (.bool t.shaped):=by
 intro n
 induction n with
 | zero=>intro t h;omega
 | succ n ih =>
  intro t h hw;obtain ⟨op,m,ks⟩:=t;simp only [Tm.wt] at h hw;rw [c95,Am];have hlen:=Dp ks;have hk:=mD (n:=n) (by omega) op;rw [Tm.shaped];have wl:∀j:Nat,j<=ks.length->BC (j:Int)=j:=fun j hj=>Ax (by omega) (by omega);have loop:BE (BG n (fun q99 l100 h101=>I4 l100 h101 (SS dt n) ⟨[],[]⟩ q99) [.fv (.sl (ks.map Tm.enc)),iv ks.length,iv 0] ⟨[(99614720,.row [iv op,iv m,.fv (.sl (ks.map Tm.enc))] false)],[]⟩) (.bool (Tm.shapedL ks)):=by
   refine Ba (Q:=fun r=>BE r _) (fun k V H=>∃pre rest,ks=pre++rest/\rest.length=k/\V=[.fv (.sl (ks.map Tm.enc)),iv ks.length,iv pre.length]/\H=⟨[(99614720,.row [iv op,iv m,.fv (.sl (ks.map Tm.enc))] false)],[]⟩/\Tm.shapedL rest=Tm.shapedL ks)
    ?_ n ks.length _ _ (by omega) ⟨[],ks,rfl,rfl,rfl,rfl,rfl⟩
   rintro k V H rec ⟨pre,rest,hk,hl,rfl,rfl,ht⟩ hrec;have hkl:ks.length=pre.length+rest.length:=by rw [hk];simp
   cases rest with
   | nil =>
    have hno:¬ ((pre.length:Int)<ks.length):=by rw [hkl];simp
    rw [<- ht];simp only [JQ,I4,Kc,S95,↓XX,XY,↓reduceIte,seval,hno,Tm.shapedL];exact Aw _ _
   | cons t rest =>
    have hi:(pre.length:Int)<ks.length:=by rw [hkl];simp;omega
    have hg:=BY hk;have htw:=Cb (t:=t) (l:=ks) (by rw [hk];simp);have hs:=ih t (by omega) (by omega);have hwi:BC ((pre.length:Int)+1)=((pre++[t]).length:Int):=(Ax (by omega) (by omega)).trans (by simp);simp only [Tm.shapedL] at ht;generalize t.shaped=v at hs ht;obtain ⟨o,p,l⟩:=t;simp only [Ai3] at hl;rw [Am] at hs;cases v
    ·rw [<- ht];simp only [JQ,I4,Kc,S95,↓XX,XY,↓reduceIte,seval,hi,↓Bq (AN hg) (Bk _ _ _),↓B8,hwi,↓Aq hs,Bool.false_and];exact Aw _ _
    ·simp only [JQ,I4,Kc,S95,↓XX,XY,↓reduceIte,seval,hi,↓Bq (AN hg) (Bk _ _ _),↓B8,hwi,↓Aq hs,↓AI,XD,heldB,AS,XE];refine hrec rest.length _ _ (by omega) ?_;exact ⟨pre++[.mk o p l],rest,by rw [hk];simp,rfl,rfl,rfl,by simpa using ht⟩
  by_cases h0:0<=GO op
  ·by_cases h1:GO op=ks.length
   ·by_cases h2:op=1
    ·exfalso;subst h2;revert h0;decide
    ·have e1:(!(decide (0<=GO op/\GO op≠ks.length) || decide (op=1/\m<0)) && Tm.shapedL ks)=Tm.shapedL ks:=by simp [h1,h2]
     rw [e1];have h0':(0:Int)<=ks.length:=by omega
     rw [h1] at hk;simp only [↓aI,↓XX,XY,↓reduceIte,seval,↓Aq hk,h0',h2,↓AI,XD,heldB,AS,XE];exact loop
   ·have e1:(!(decide (0<=GO op/\GO op≠ks.length) || decide (op=1/\m<0)) && Tm.shapedL ks)=false:=by simp [h0,h1]
    rw [e1];simp only [↓aI,↓XX,XY,↓reduceIte,seval,↓Aq hk,h0,h1];exact Aw _ _
  ·by_cases h2:op=1
   ·subst h2;by_cases h3:m<0
    ·have e1:(!(decide (0<=GO 1/\GO 1≠ks.length) || decide ((1:Int)=1/\m<0)) && Tm.shapedL ks)=false:=by simp [h3]
     rw [e1];simp only [↓aI,↓XX,XY,↓reduceIte,seval,↓Aq hk,h0,h3];exact Aw _ _
    ·have e1:(!(decide (0<=GO 1/\GO 1≠ks.length) || decide ((1:Int)=1/\m<0)) && Tm.shapedL ks)=Tm.shapedL ks:=by simp [h0,h3]
     rw [e1];simp only [↓aI,↓XX,XY,↓reduceIte,seval,↓Aq hk,h0,h3,↓AI,XD,heldB,AS,XE];exact loop
   ·have e1:(!(decide (0<=GO op/\GO op≠ks.length) || decide (op=1/\m<0)) && Tm.shapedL ks)=Tm.shapedL ks:=by simp [h0,h2]
    rw [e1];simp only [↓aI,↓XX,XY,↓reduceIte,seval,↓Aq hk,h0,h2,↓AI,XD,heldB,AS,XE];exact loop
def WK (f:Nat) (t:Tm):Option (Tm×Int) :=
 if t.shaped=false then some (.z,1) else match PS f [] t ⟨100000,5000000,0⟩ with
 | none=>none
 | some (v,m)=>if m.e≠0 then some (.z,m.e) else match Q3 f v 0 1 m 0 with
  | none=>none
  | some (u,m,_)=>if m.e≠0 then some (.z,m.e) else some (u,0)
theorem cM {ih:Ah} {f:FuncId} {args:List IV} {h h':Hp} {v:IV} (hr:ih f args h=some (v,h')) (k:KT (IV×Hp)):aZ ih f args h k=k v h' [] []:=by unfold aZ;rw [hr]
abbrev wT (a b:Blk) (s u r e:Int):Hp :=⟨[(85983232,a),(85983233,b),(100664321,.row [iv s,iv u,iv r,iv e,.mapr (.own 100665345)] false),(100665345,.map (Dr 100664321))],[]⟩
abbrev cR (a b:Blk) (es:List (Int×IV)):Hp :=⟨[(85983232,a),(85983233,b),(100664321,.row [iv 100000,iv 5000000,iv 0,iv 0,.dead] false),(100665345,.map es)],[]⟩
abbrev fnO (g:FuncId):IV:=.func (.func g) [.ptr (.own 100664321) 0] []
theorem Ob (a b:Blk) (es:List (Int×IV)) (g:FuncId) (n:Int) (s:Nat) (k:KT (IV×Hp)) :
  Az (Co EE 124 (.mapr (.own 100665345)) (iv n) (ER 100664321 g)) s (cR a b es) k=k .dead (cR a b (CG n (ER 100664321 g) es)) [.own 100665345] [.own 100665345]:=by
 rw [Ab1 _ 0 _ rfl,BA];rw [show Ap 100665345 (cR a b es).own=some (.map es) from rfl,Ajt,ZP,BS]
 rfl
theorem NW (g:FuncId) (k:IV->Option (IV×Hp)):A7 [.fv .nilf] [(0,1,fnO g)] k=k (ER 100664321 g):=rfl
theorem gK (a b:Blk) (es:List (Int×IV)):Pt (.ptr (.own 100664321) 0) (cR a b es) (.mapr (.own 100665345))=some (.ptr (.own 100664321) 0,⟨[(85983232,a),(85983233,b),(100664321,.row [iv 100000,iv 5000000,iv 0,iv 0,.mapr (.own 100665345)] false),(100665345,.map es)],[]⟩):=by simp only [Pt,↓XX,XY,↓reduceIte,seval,↓jC,↓of4]
theorem KX (g:FuncId) (s:Nat) (h:Hp) (k:KT (IV×Hp)):Az (Idl.val (CI (.func g) [.ptr (.own 100664321) 0] [])) s h k=k (fnO g) h [] []:=gen_val' _ _ _ _
theorem ZR (a b:Blk) (es:List (Int×IV)):OV (fnO 123) (cR a b es) (.mapr (.own 100665345)) (.ptr (.own 100664321) 0) =
  Pt (.ptr (.own 100664321) 0) (cR a b (CG 19 (ER 100664321 124) (CG 30 (ER 100664321 123) es))) (.mapr (.own 100665345)):=by
 unfold OV;rw [NW,Ob,KX,NW,Ob]
theorem eI (a b:Blk) (es:List (Int×IV)):O1 (cR a b es) (.mapr (.own 100665345)) (ER 100664321 121) (.ptr (.own 100664321) 0) =
  OV (fnO 123) (cR a b (CG 13 (ER 100664321 122) (CG 9 (ER 100664321 121) es))) (.mapr (.own 100665345)) (.ptr (.own 100664321) 0):=by
 unfold O1;rw [Ob,KX,NW,Ob,KX]
theorem bS (a b:Blk) (es:List (Int×IV)):TA (cR a b es) (.ptr (.own 100664321) 0) (.mapr (.own 100665345)) =
  O1 (cR a b (CG 8 (ER 100664321 121) es)) (.mapr (.own 100665345)) (ER 100664321 121) (.ptr (.own 100664321) 0):=by
 unfold TA;rw [KX,NW,Ob,KX,NW]
theorem Acl (k:IV->Option (IV×Hp)):A7 [.fv (.int .i64 0),.fv (.int .i64 0),.fv (.int .i64 0),.fv (.int .i64 0),.dead] [(0,1,.fv (.int .i64 100000)),(1,1,.fv (.int .i64 5000000))] k=k (.agg [iv 100000,iv 5000000,iv 0,iv 0,.dead]):=by simp only [↓XX,XY,↓reduceIte,seval,↓fI]
theorem Qs {n:Nat} (hn:0<n) (a b:Blk):SS dt n 96 [] ⟨[(85983232,a),(85983233,b)],[]⟩=some (.ptr (.own 100664321) 0,wT a b 100000 5000000 0 0):=by
 obtain ⟨n,rfl⟩:=psc n (by omega);rw [c96];unfold S96;rw [Acl,RM];have e1:∀k:KT (IV×Hp),EU 100664321 (.row [iv 100000,iv 5000000,iv 0,iv 0,.dead] false) (.ptr (.own 100664321) 0) ⟨[(85983232,a),(85983233,b)],[]⟩ k =
   k (.ptr (.own 100664321) 0) ⟨[(85983232,a),(85983233,b),(100664321,.row [iv 100000,iv 5000000,iv 0,iv 0,.dead] false)],[]⟩ [] [.own 100664321]:=by
  intro k;simp only [↓XX,XY,↓reduceIte,seval]
 rw [e1];have e2:∀k:KT (IV×Hp),Az (Gj 100665345) 100665345 ⟨[(85983232,a),(85983233,b),(100664321,.row [iv 100000,iv 5000000,iv 0,iv 0,.dead] false)],[]⟩ k =
   k (.mapr (.own 100665345)) (cR a b []) [] [.own 100665345]:=by
  intro k;rw [AeE];simp only [↓XX,XY,↓reduceIte,seval]
 rw [e2,KX,NW,Ob,bS,eI,ZR,gK];rfl
section
variable {ih:Ah} {f:FuncId} {w:FV} {a b:Blk} {s u r e s' u' r' e':Int} (k:KT (IV×Hp))
theorem qD (args:List IV) (ks:List Bool) (hks:∀b∈ks,b=false) {vs:List FV} (hz:Bu args=some vs) (hr:Bz (ih f (.ptr (.ext 0) 0::vs.map .fv) ⟨[],MX s u r e⟩) w (MX s' u' r' e')) :
  A5 (true::ks) false false ih f (.ptr (.own 100664321) 0::args) (wT a b s u r e) k=k (.fv w) (wT a b s' u' r' e') [.own 100665345,.own 100664321] [.own 100664321,.own 100665345]:=by
 (try unfold is0);rw [uM hks hz (mp:=100665345) (by decide) (by rfl) (by rfl) hr]
 rfl
theorem Tk {x y:IV} {vx vy:FV} (hr:Bz (ih f [.ptr (.ext 0) 0,.fv vx,.fv vy] ⟨[],MX s u r e⟩) w (MX s' u' r' e')) (hx:Bd x=some vx) (hy:Bd y=some vy) :
  A5 [true,false,false] false false ih f [.ptr (.own 100664321) 0,x,y] (wT a b s u r e) k=k (.fv w) (wT a b s' u' r' e') [.own 100665345,.own 100664321] [.own 100664321,.own 100665345] :=
 qD k [x,y] [false,false] (by simp) (SY hx hy) hr
theorem cP {x y z:IV} {vx vy vz:FV} (hr:Bz (ih f [.ptr (.ext 0) 0,.fv vx,.fv vy,.fv vz] ⟨[],MX s u r e⟩) w (MX s' u' r' e')) (hx:Bd x=some vx) (hy:Bd y=some vy) (hz:Bd z=some vz) :
  A5 [true,false,false,false] false false ih f [.ptr (.own 100664321) 0,x,y,z] (wT a b s u r e) k=k (.fv w) (wT a b s' u' r' e') [.own 100665345,.own 100664321] [.own 100664321,.own 100665345] :=
 qD k [x,y,z] [false,false,false] (by simp) (YZ hx hy hz) hr
end
theorem bJ {f n:Nat} {t u:Tm} {e:Int} (h:WK f t=some (u,e)) (hn:f+3<=n) (hw:t.wt+3<n) (hw2:t.wt<=1152921504606846976):BE (SS dt n 82 [.fv t.enc] ⟨[],[]⟩) (.tuple [u.enc,.int .i64 e]):=by
 obtain ⟨n,rfl⟩:=psc n (by omega);rw [c82];have hs:=Oh n t (by omega) hw2;unfold WK at h;obtain ⟨op,m,ks⟩:=t;rw [Am] at hs ⊢;by_cases h0:(Tm.mk op m ks).shaped=false
 ·rw [if_pos h0] at h;simp only [AiZ,Ai0] at h;obtain ⟨rfl,rfl⟩:=h;rw [h0] at hs;simp only [Mg,zI,↓XX,XY,↓reduceIte,seval,↓Aq hs];exact Sv rfl (by simp) _
 ·rw [if_neg h0] at h;have h0:(Tm.mk op m ks).shaped=true:=by simpa using h0
  rw [h0] at hs;cases hev:PS f [] (.mk op m ks) ⟨100000,5000000,0⟩ with
  | none=>rw [hev] at h;cases h
  | some q =>
   obtain ⟨v,m1⟩:=q;rw [hev] at h;simp only at h;have hc1:=(K2 f).1 _ _ _ _ _ hev 0 n (by omega);rw [Am,QY] at hc1;by_cases h1:m1.e=0
   ·rw [if_neg (by simpa using h1)] at h;simp only [h1] at hc1;cases hbk:Q3 f v 0 1 m1 0 with
    | none=>rw [hbk] at h;cases h
    | some q =>
     obtain ⟨u1,m2,r2⟩:=q;rw [hbk] at h;simp only at h;have hc2:=qF f _ _ _ _ _ _ _ _ hbk n (by omega);obtain ⟨o1,n1,k1⟩:=u1;rw [Am] at hc2;simp only [h1] at hc2;by_cases h2:m2.e=0
     ·rw [if_neg (by simpa using h2)] at h;simp only [AiZ,Ai0] at h;obtain ⟨rfl,rfl⟩:=h;rw [Am];simp only [Mg,zI,↓XX,XY,↓reduceIte,seval,↓Aq hs,↓cM (Qs (n:=n) (by omega) _ _),↓Tk _ hc1,↓cP _ hc2,h1,h2];exact Aw _ _
     ·rw [if_pos h2] at h;simp only [AiZ,Ai0] at h;obtain ⟨rfl,rfl⟩:=h;simp only [Mg,zI,↓XX,XY,↓reduceIte,seval,↓Aq hs,↓cM (Qs (n:=n) (by omega) _ _),↓Tk _ hc1,↓cP _ hc2,h1,h2];exact Sv rfl (by simp) _
   ·rw [if_pos h1] at h;simp only [AiZ,Ai0] at h;obtain ⟨rfl,rfl⟩:=h;simp only [Mg,zI,↓XX,XY,↓reduceIte,seval,↓Aq hs,↓cM (Qs (n:=n) (by omega) _ _),↓Tk _ hc1,h1];exact Sv rfl (by simp) _
end Idl
end Go.Proofs.YtnenpcghegcnhaaGreat

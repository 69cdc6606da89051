/-
  Texts of a proof, part 14: an ideal semantics of the program, its functions in shallow form, contracts of them. No statement of the seat is proved here.
-/
import Derived.Test.YtnenpcghegcnhaaGreatKernelTypesK13
set_option linter.all false
set_option maxRecDepth 20000
set_option maxHeartbeats 16000000
noncomputable section
namespace Go.Proofs.YtnenpcghegcnhaaGreat
namespace Idl
def oB (a b:Int) (s:Nat) (h:Hp) (k:KT (IV×Hp)):Ay (Al EE 65 2 [(0,iv a),(1,iv b)]) s h k=k (.clip [.int .i64 a,.int .i64 b]) h [] []:=Cu cL uM (by decide) (cells:=[.int .i64 a,.int .i64 b]) rfl k
def QP {β:Type} (z:Nat) (es:List FV) (x:IV) (k:IV->Option β):AP z (.clip es) x k=AP z (.fv (.sl es)) x k:=rfl
def Ad5 {β:Type} (a:Int) (r:List FV) (k:IV->Option β):AP 1 (.fv (.sl (.int .i64 a::r))) (iv 0) k=k (.fv (.fp [.int .i64 a] 0)):=Bp (el:=.int .i64 a) (n:=0) rfl rfl k
def AdA {β:Type} (a b:Int) (r:List FV) (k:IV->Option β):AP 1 (.fv (.sl (.int .i64 a :: .int .i64 b::r))) (iv 1) k=k (.fv (.fp [.int .i64 b] 0)):=Bp (el:=.int .i64 b) (n:=1) rfl rfl k
def dM (F:FuncId) (κ e:Nat):Prop:=∀(g:A6) (a r:Tm),GOk e g->NOk g.length a->(a.op=10\/a.op=14\/a.op=2)->∃t b,Ev F [.fv (AK g),.fv a.enc,.fv r.enc,iv ((e:Int) - 5)] (.tuple [Tm.enc t,.bool b])/\TG κ e g a t b
def kF {a:Tm} {k:Nat} (h:a.sc k) (ho:a.op=10\/a.op=14\/a.op=2):∃n,a=.mk a.op n []/\(a.op=2->0<=n/\n<=2)/\(a.op≠2->n=0):=by
 obtain ⟨o,n,l⟩:=a;simp only [Tm.op] at ho ⊢;rw [Tm.sc] at h;obtain ⟨h1,h2,_⟩:=h;have h3:ar o=some 0:=by rcases ho with rfl | rfl | rfl<;>decide
 rw [h3] at h1;have hl:l=[]:=List.eq_nil_of_length_eq_zero (Option.some.inj h1).symm;subst hl;rw [if_neg (by omega)] at h2;refine ⟨n,rfl,fun h=>?_,fun h=>?_⟩
 ·subst h;rw [BQ,if_pos rfl] at h2;exact h2
 ·rw [BQ,if_neg h,if_neg (by omega),if_neg (by omega)] at h2;exact h2
def Z0 {e:Nat} (h1e:1<=e) (he:e<=10) (hG:Ed 30 1 (e - 1)) (hG2:6<=e->Ed 30 1 (e - 2)):dM 68 3 e:=by
 intro g a r hg ha hop;have hlen:=hg.len;have hW1:Wg e=4 * Wg (e - 1):=by obtain ⟨f,rfl⟩:∃f,e=f+1:=⟨e - 1,by omega⟩;rw [K6,Nat.add_sub_cancel]
 have hW0:=K1 (e - 1);have hW10:=LH he;have hD1:Dg e=Dg (e - 1)+10:=by unfold Dg;omega
 have hD0:200<=Dg (e - 1):=by unfold Dg;omega
 have hDm:Dg e<=300:=by unfold Dg;omega
 obtain ⟨an,hae,hu1,hu2⟩:=kF ha.sc hop;have we:BB ((e:Int) - 5 - 1)=((e - 1:Nat):Int) - 5:=by rw [Ax (by omega) (by omega)];omega
 have hk1:=Int.emod_nonneg r.op (show (5:Int)≠0 by decide)
 have hk2:=Int.emod_lt_of_pos r.op (show (0:Int)<5 by decide)
 have aw:=ha.wt;have ad:=ha.dp;have leafT:∀op n:Int,ar op=some 0->op≠1->BQ op n->TOk g.length e (.mk op n []):=fun op n h1 h2 h3=>⟨Hv h1 h2 h3,by simp only [Tm.wt,Tm.wtL];omega,by simp only [Tm.dp,Tm.dpL];omega⟩;have tint:TOk g.length e (.mk 18 0 [.mk 15 0 []]):=⟨FM (De),by simp only [Tm.wt,Tm.wtL];omega,by simp only [Tm.dp,Tm.dpL];omega⟩;by_cases hrec:6<=e/\r.op % 5=4/\a.op≠2
 ·obtain ⟨h6,h4,hn2⟩:=hrec;have hW2:Wg e=16 * Wg (e - 2):=by
   obtain ⟨f,rfl⟩:∃f,e=f+2:=⟨e - 2,by omega⟩;rw [show f+2=(f+1)+1 by omega,K6,K6,show f+1+1 - 2=f by omega];omega
  have hD2:Dg e=Dg (e - 2)+20:=by unfold Dg;omega
  have hW20:=K1 (e - 2);have we2:BB ((e:Int) - 5 - 2)=((e - 2:Nat):Int) - 5:=by rw [Ax (by omega) (by omega)];omega
  have hnat:∀k,NOk k (.mk 10 0 []):=fun k=>⟨De,by simp only [Tm.wt,Tm.wtL];omega,by simp only [Tm.dp,Tm.dpL];omega⟩;have hs1:=Me ha (by omega) 1 (by omega);have hs2:=Me ha (by omega) 2 (by omega);obtain ⟨nn,p,⟨N1,h1⟩,tn⟩:=hG2 h6 g (.mk 10 0 []) (r.pick 0) (A8 (by omega) hg) (BW (hnat _));obtain ⟨z,q,⟨N2,h2⟩,tz⟩:=hG2 h6 g a (r.pick 1) (A8 (by omega) hg) (BW ha);have hg1:GOk (e - 1) (g++[(1,Tm.mk 10 0 [])]):=Dd (by rw [show e - 1+1=e by omega];exact hg) (hnat _).sc (by simp only [Tm.wt,Tm.wtL];omega) (by simp only [Tm.dp,Tm.dpL];omega)
  have hg2:GOk (e - 2) ((g++[(1,Tm.mk 10 0 [])])++[(1,a.shift 1 0)]):=Dd (by rw [show e - 2+1=e - 1 by omega];exact hg1) (by simpa using hs1.sc) (by rw [Bj];omega) (by rw [DC];omega)
  obtain ⟨s,f,⟨N3,h3⟩,ts⟩:=hG2 h6 _ (a.shift 2 0) (r.pick 2) hg2 (by simpa using BW hs2);have ss:s.sc (g.length+2):=by simpa using ts.sc
  refine ⟨.mk 13 0 [a.shift 1 0,z,s,nn],p && (q && f),⟨N1+N2+N3+100000,fun n hn=>?_⟩,?_,?_,?_,fun hb=>.recc e g a nn z s h6 (by omega) (tn.gr (Ki hb)) (tz.gr (Ki (IH hb))) (ts.gr (IH (IH hb)))⟩
  ·obtain ⟨n,rfl⟩:=psc n (by omega);have h1:=h1 n (by omega);have h2:=h2 n (by omega);have h3:=h3 n (by omega);rw [<- we2] at h1 h2 h3;have hw:=Av (n:=n) (by omega) r.op (m:=5) (by omega) (by omega);rw [h4] at hw;have p0:=AS (n:=n) (by omega) r 0;have p1:=AS (n:=n) (by omega) r 1;have p2:=AS (n:=n) (by omega) r 2;have n4:=Lc (n:=n) (by omega);have m1:=D0 (n:=n) g 1 (.mk 10 0 []) (by omega) (by omega);have m2:=D0 (n:=n) (g++[(1,Tm.mk 10 0 [])]) 1 (a.shift 1 0) (by simp;omega) (by omega);have s1:=Df n a 1 0 (by omega) (Da _ _ ha.sc) (by omega) (by omega);have s2:=Df n a 2 0 (by omega) (Da _ _ ha.sc) (by omega) (by omega);have t13:=CO (n:=n) (by omega) 13 [a.shift 1 0,z,s,nn];have hd0:(0:Int)<(e:Int) - 5:=by omega
   rw [oG];clear hG hG2 tn tz ts hg hg1 hg2 ha hs1 hs2 hnat ss leafT tint hae hu1 hu2;generalize a.shift 1 0=a1 at s1 m2 t13 h3 ⊢;generalize a.shift 2 0=a2 at s2 h3;generalize r.pick 0=r0 at p0 h1;generalize r.pick 1=r1 at p1 h2;generalize r.pick 2=r2 at p2 h3;obtain ⟨o1,x1,k1⟩:=a;obtain ⟨o2,x2,k2⟩:=r;obtain ⟨o3,x3,k3⟩:=a1;obtain ⟨o4,x4,k4⟩:=a2;obtain ⟨o5,x5,k5⟩:=nn;obtain ⟨o6,x6,k6⟩:=z;obtain ⟨o7,x7,k7⟩:=s;obtain ⟨o8,x8,k8⟩:=r0;obtain ⟨o9,x9,k9⟩:=r1;obtain ⟨oa,xa,ka⟩:=r2;simp only [Tm.op] at hw hn2;simp only [AK,AhN,AhM,Am] at h1 h2 h3 p0 p1 p2 n4 m1 m2 s1 s2 t13 ⊢;cases p<;>cases q<;>(simp only [↓II,↓XX,XY,↓reduceIte,seval,hd0,↓Af hw,hn2,↓Ec n4,↓Af p0,↓Af p1,↓Af p2,↓As h1,↓As h2,↓Au m1,↓Au m2,↓Au s1,↓Au s2,↓As h3,↓Aaa,↓Af t13];exact A4 rfl)
  ·exact yW hs1.sc tz.sc ss tn.sc
  ·have:=tz.wt;have:=ts.wt;have:=tn.wt;rw [wt4,Bj];omega
  ·have:=tz.dp;have:=ts.dp;have:=tn.dp;rw [dp4,DC];omega
 have hnr:¬ (0:Int)<(e:Int) - 5\/¬ r.op % 5=4\/a.op=2:=by omega
 by_cases o10:a.op=10
 ·have hz:=hu2 (by omega);rw [hz,o10] at hae;by_cases hs:6<=e/\r.op % 2=1
  ·obtain ⟨nn,p,⟨N1,h1⟩,tn⟩:=hG g a (r.pick 0) (A8 (by omega) hg) (BW ha);refine ⟨.mk 12 0 [nn],p,⟨N1+100,fun n hn=>?_⟩,FM tn.sc,by have:=tn.wt;rw [Lx];omega,by have:=tn.dp;rw [fP];omega,fun hb=>.suc e g a nn hs.1 o10 (tn.gr hb)⟩;obtain ⟨n,rfl⟩:=psc n (by omega);have h1:=h1 n (by omega);rw [<- we] at h1;have hw:=Av (n:=n) (by omega) r.op (m:=5) (by omega) (by omega);have hw2:=Av (n:=n) (by omega) r.op (m:=2) (by omega) (by omega);rw [hs.2] at hw2;have p0:=AS (n:=n) (by omega) r 0;have t12:=CO (n:=n) (by omega) 12 [nn];have hd0:(0:Int)<(e:Int) - 5:=by omega
   have h45:¬ r.op % 5=4:=by omega
   rw [oG];rw [hae] at h1 ⊢;clear hG hG2 tn hg ha leafT tint hae hu1 hu2 hop hnr;generalize r.op % 5=w5 at hw h45;generalize r.pick 0=r0 at p0 h1;obtain ⟨o2,x2,k2⟩:=r;obtain ⟨o5,x5,k5⟩:=nn;obtain ⟨o8,x8,k8⟩:=r0;simp only [Tm.op] at hw hw2;simp only [AK,AhN,AhM,Am] at h1 p0 t12 ⊢;simp only [↓II,↓XX,XY,↓reduceIte,seval,hd0,↓Af hw,h45,↓Af hw2,↓Af p0,↓As h1,↓Du,↓Af t12];exact A4 rfl
  ·have hj1:=Int.emod_nonneg r.n (show (4:Int)≠0 by decide)
   have hj2:=Int.emod_lt_of_pos r.n (show (0:Int)<4 by decide)
   obtain ⟨j,hj⟩:∃j:Nat,r.n % 4=j:=⟨(r.n % 4).toNat,by omega⟩;refine ⟨GC j,true,⟨100,fun n hn=>?_⟩,Zy _ j,by rw [Ox];omega,by have:=Ea (GC j);rw [Ox] at this;omega,fun _=>.num e g a j o10 (by omega)⟩;obtain ⟨n,rfl⟩:=psc n (by omega);have hw:=Av (n:=n) (by omega) r.op (m:=5) (by omega) (by omega);have hw2:=Av (n:=n) (by omega) r.op (m:=2) (by omega) (by omega);have hw4:=Av (n:=n) (by omega) r.n (m:=4) (by omega) (by omega);rw [hj] at hw4;have hnum:=pY (n:=n) j (by omega) (by omega);have h45:(0:Int)<(e:Int) - 5->¬ r.op % 5=4:=by omega
   have h21:(0:Int)<(e:Int) - 5->¬ r.op % 2=1:=by omega
   rw [oG];rw [hae];clear hG hG2 hg ha leafT tint hae hu1 hu2 hop hnr hs;generalize r.op % 5=w5 at hw h45;generalize r.op % 2=w2 at hw2 h21;generalize GC j=nm at hnum ⊢;obtain ⟨o2,x2,k2⟩:=r;obtain ⟨o5,x5,k5⟩:=nm;simp only [Tm.op,Tm.n] at hw hw2 hw4;simp only [AK,AhM,Am] at hnum ⊢;by_cases hd0:(0:Int)<(e:Int) - 5
   ·have h45:=h45 hd0;have h21:=h21 hd0;simp only [↓II,↓XX,XY,↓reduceIte,seval,hd0,↓Af hw,h45,↓Af hw2,h21,↓Af hw4,↓Ap hnum];exact A4 rfl
   ·simp only [↓II,↓XX,XY,↓reduceIte,seval,hd0,↓Af hw4,↓Ap hnum];exact A4 rfl
 by_cases o14:a.op=14
 ·have hz:=hu2 (by omega);rw [hz,o14] at hae;by_cases hs:6<=e/\1<r.op % 5
  ·obtain ⟨x,p,⟨N1,h1⟩,tx⟩:=hG g a (r.pick 0) (A8 (by omega) hg) (BW ha);obtain ⟨y,q,⟨N2,h2⟩,ty⟩:=hG g a (r.pick 1) (A8 (by omega) hg) (BW ha);have hj1:=Int.emod_nonneg r.n (show (2:Int)≠0 by decide)
   have hj2:=Int.emod_lt_of_pos r.n (show (0:Int)<2 by decide)
   obtain ⟨oo,hoo,hoo2⟩:∃oo:Int,oo=16+r.n % 2/\(oo=16\/oo=17):=⟨_,rfl,by omega⟩;have hsc:(Tm.mk oo 0 [x,y]).sc g.length:=by rcases hoo2 with rfl | rfl<;>exact Db tx.sc ty.sc
   refine ⟨.mk oo 0 [x,y],p && q,⟨N1+N2+100,fun n hn=>?_⟩,hsc,by have:=tx.wt;have:=ty.wt;rw [D5];omega,by have:=tx.dp;have:=ty.dp;rw [M9];omega,fun hb=>.tfun e g a x y oo hoo2 hs.1 o14 (tx.gr (Ki hb)) (ty.gr (IH hb))⟩;obtain ⟨n,rfl⟩:=psc n (by omega);have h1:=h1 n (by omega);have h2:=h2 n (by omega);rw [<- we] at h1 h2;have hw:=Av (n:=n) (by omega) r.op (m:=5) (by omega) (by omega);have hw2:=Av (n:=n) (by omega) r.n (m:=2) (by omega) (by omega);have wo:BB (16+r.n % 2)=oo:=by rw [Ax]<;>omega
   have p0:=AS (n:=n) (by omega) r 0;have p1:=AS (n:=n) (by omega) r 1;have t16:=CO (n:=n) (by omega) oo [x,y];rw [<- wo] at t16;have hd0:(0:Int)<(e:Int) - 5:=by omega
   have h45:¬ r.op % 5=4:=by omega
   have h15:=hs.2;rw [oG];rw [hae] at h1 h2 ⊢;clear hG hG2 tx ty hg ha leafT tint hae hu1 hu2 hop hnr hs hoo2 hsc;rw [<- wo];clear wo hoo;generalize r.op % 5=w5 at hw h45 h15;generalize r.n % 2=w2 at hw2 t16 ⊢;generalize r.pick 0=r0 at p0 h1;generalize r.pick 1=r1 at p1 h2;obtain ⟨o2,x2,k2⟩:=r;obtain ⟨o5,x5,k5⟩:=x;obtain ⟨o6,x6,k6⟩:=y;obtain ⟨o8,x8,k8⟩:=r0;obtain ⟨o9,x9,k9⟩:=r1;simp only [Tm.op,Tm.n] at hw hw2;simp only [AK,AhN,AhM,Am] at h1 h2 p0 p1 t16 ⊢;cases p<;>(simp only [↓II,↓XX,XY,↓reduceIte,seval,hd0,↓Af hw,h45,h15,↓Af hw2,↓Af p0,↓Af p1,↓As h1,↓As h2,↓CF,↓Af t16];exact A4 rfl)
  ·refine ⟨.mk 15 0 [],true,⟨100,fun n hn=>?_⟩,tg (leafT 15 0 (by decide) (by decide) (MQ (by decide) (by decide) (by decide))) (fun _=>.tint e g a o14)⟩;obtain ⟨n,rfl⟩:=psc n (by omega);have hw:=Av (n:=n) (by omega) r.op (m:=5) (by omega) (by omega);have t15:=AW (n:=n) (by omega) 15;have h45:(0:Int)<(e:Int) - 5->¬ r.op % 5=4/\¬ 1<r.op % 5:=by omega
   rw [oG];rw [hae];clear hG hG2 hg ha leafT tint hae hu1 hu2 hop hnr hs;generalize r.op % 5=w5 at hw h45;obtain ⟨o2,x2,k2⟩:=r;simp only [Tm.op] at hw;simp only [AK,AhM,Am] at t15 ⊢;by_cases hd0:(0:Int)<(e:Int) - 5
   ·obtain ⟨h45,h15⟩:=h45 hd0;simp only [↓II,↓XX,XY,↓reduceIte,seval,hd0,↓Af hw,h45,h15,↓Af t15];exact A4 rfl
   ·simp only [↓II,↓XX,XY,↓reduceIte,seval,hd0,↓Af t15];exact A4 rfl
 have o2:a.op=2:=by omega
 obtain ⟨hu3,hu4⟩:=hu1 o2;rw [o2] at hae;by_cases hn0:0<an
 ·refine ⟨.mk 2 (an - 1) [],true,⟨100,fun n hn=>?_⟩,tg (leafT 2 (an - 1) (by decide) (by decide) (by rw [BQ,if_pos rfl];omega)) (fun _=>.uni e g a _ o2 (by have e1:a.n=an:=(congrArg Tm.n hae).trans rfl;omega))⟩;obtain ⟨n,rfl⟩:=psc n (by omega);have hw:=Av (n:=n) (by omega) r.op (m:=5) (by omega) (by omega);have wu:BB (an - 1)=an - 1:=by rw [Ax]<;>omega
  have hu:=Hk (n:=n) (by omega) (an - 1);rw [<- wu] at hu;rw [oG];rw [hae,<- wu];clear hG hG2 hg ha leafT tint hae hu1 hu2 hop hnr wu;generalize r.op % 5=w5 at hw;obtain ⟨o2,x2,k2⟩:=r;simp only [Tm.op] at hw;simp only [AK,AhM,Am] at hu ⊢;by_cases hd0:(0:Int)<(e:Int) - 5
  ·by_cases h4:w5=4
   ·simp only [↓II,↓XX,XY,↓reduceIte,seval,hd0,↓Af hw,h4,hn0,↓Ap hu];exact A4 rfl
   ·simp only [↓II,↓XX,XY,↓reduceIte,seval,hd0,↓Af hw,h4,hn0,↓Ap hu];exact A4 rfl
  ·simp only [↓II,↓XX,XY,↓reduceIte,seval,hd0,hn0,↓Ap hu];exact A4 rfl
 have han:an=0:=by omega
 subst han;have hq1:=Int.emod_nonneg r.op (show (4:Int)≠0 by decide)
 have hq2:=Int.emod_lt_of_pos r.op (show (0:Int)<4 by decide)
 by_cases hs:6<=e/\1<r.op % 4
 ·obtain ⟨x,p,⟨N1,h1⟩,tx⟩:=hG g a (r.pick 0) (A8 (by omega) hg) (BW ha);have hgx:GOk (e - 1) (g++[(1,x)]):=Dd (by rw [show e - 1+1=e by omega];exact hg) tx.sc (by have:=tx.wt;omega) (by have:=tx.dp;omega)
  have hax:AOk (g++[(1,x)]).length a:=⟨by rw [hae];exact Hv (by decide) (by decide) (by rw [BQ,if_pos rfl];omega),by omega,by omega⟩;obtain ⟨y,q,⟨N2,h2⟩,ty⟩:=hG (g++[(1,x)]) a (r.pick 1) hgx hax;have ys:y.sc (g.length+1):=by simpa using ty.sc
  obtain ⟨oo,hoo⟩:∃oo:Int,oo=3/\r.op % 4=2\/oo=6/\r.op % 4=3:=by
   by_cases h7:r.op % 4=2
   ·exact ⟨3,.inl ⟨rfl,h7⟩⟩
   ·exact ⟨6,.inr ⟨rfl,by omega⟩⟩
  have hsc:(Tm.mk oo 0 [x,y]).sc g.length:=by rcases hoo with ⟨rfl,_⟩ | ⟨rfl,_⟩<;>exact Db tx.sc ys
  refine ⟨.mk oo 0 [x,y],p && q,⟨N1+N2+100,fun n hn=>?_⟩,hsc,by have:=tx.wt;have:=ty.wt;rw [D5];omega,by have:=tx.dp;have:=ty.dp;rw [M9];omega,fun hb=>.upi e g a x y oo (by omega) hs.1 o2 (cD tx (by omega)) (tx.gr (Ki hb)) (ty.gr (IH hb))⟩;obtain ⟨n,rfl⟩:=psc n (by omega);have h1:=h1 n (by omega);have h2:=h2 n (by omega);rw [<- we] at h1 h2;have hw:=Av (n:=n) (by omega) r.op (m:=5) (by omega) (by omega);have hw4:=Av (n:=n) (by omega) r.op (m:=4) (by omega) (by omega);have p0:=AS (n:=n) (by omega) r 0;have p1:=AS (n:=n) (by omega) r 1;have hm:=D0 (n:=n) g 1 x (by omega) (by omega);have t3:=CO (n:=n) (by omega) oo [x,y];have hd0:(0:Int)<(e:Int) - 5:=by omega
  have w22:BB (2 - 2)=0:=by rw [Ax]<;>omega
  have w32:BB (3 - 2)=1:=by rw [Ax]<;>omega
  have w0:BB 0=0:=by rw [Ax]<;>omega
  have w1:BB 1=1:=by rw [Ax]<;>omega
  rw [oG];rw [hae] at h1 h2 ⊢;clear hG hG2 tx ty hg ha leafT tint hae hu1 hu2 hop hnr hs hsc hgx hax ys;generalize r.op % 5=w5 at hw;generalize r.op % 4=w4 at hw4 hoo;generalize r.pick 0=r0 at p0 h1;generalize r.pick 1=r1 at p1 h2;obtain ⟨o2,x2,k2⟩:=r;obtain ⟨o5,x5,k5⟩:=x;obtain ⟨o6,x6,k6⟩:=y;obtain ⟨o8,x8,k8⟩:=r0;obtain ⟨o9,x9,k9⟩:=r1;simp only [Tm.op] at hw hw4;simp only [AK,AhN,AhM,Am] at h1 h2 p0 p1 hm t3 ⊢;rcases hoo with ⟨rfl,rfl⟩ | ⟨rfl,rfl⟩
  ·by_cases h4:w5=4<;>cases p<;>(simp only [↓II,↓XX,XY,↓reduceIte,seval,hd0,↓Af hw,h4,↓Af hw4,↓Af p0,↓Af p1,↓As h1,↓Au hm,↓As h2,↓CF,↓oB,↓QP,w22,w0,Int.reduceSub,↓Ad5,↓Af t3];exact A4 rfl)
  ·by_cases h4:w5=4<;>cases p<;>(simp only [↓II,↓XX,XY,↓reduceIte,seval,hd0,↓Af hw,h4,↓Af hw4,↓Af p0,↓Af p1,↓As h1,↓Au hm,↓As h2,↓CF,↓oB,↓QP,w32,w1,Int.reduceSub,↓AdA,↓Af t3];exact A4 rfl)
 ·have hj1:=Int.emod_nonneg r.n (show (3:Int)≠0 by decide)
  have hj2:=Int.emod_lt_of_pos r.n (show (0:Int)<3 by decide)
  obtain ⟨t,ht,tt⟩:∃t:Tm,(r.n % 3=0/\t=.mk 10 0 []\/r.n % 3=1/\t=.mk 14 0 []\/r.n % 3=2/\t=.mk 18 0 [.mk 15 0 []])/\TG 3 e g a t true:=by
   have h:r.n % 3=0\/r.n % 3=1\/r.n % 3=2:=by omega
   rcases h with h | h | h
   ·exact ⟨_,.inl ⟨h,rfl⟩,tg (leafT 10 0 (by decide) (by decide) (MQ (by decide) (by decide) (by decide))) (fun _=>.unat e g a o2)⟩
   ·exact ⟨_,.inr (.inl ⟨h,rfl⟩),tg (leafT 14 0 (by decide) (by decide) (MQ (by decide) (by decide) (by decide))) (fun _=>.uty e g a o2)⟩
   ·exact ⟨_,.inr (.inr ⟨h,rfl⟩),tg tint (fun _=>.ult e g a o2)⟩
  refine ⟨t,true,⟨100,fun n hn=>?_⟩,tt⟩;obtain ⟨n,rfl⟩:=psc n (by omega);have hw:=Av (n:=n) (by omega) r.op (m:=5) (by omega) (by omega);have hw4:=Av (n:=n) (by omega) r.op (m:=4) (by omega) (by omega);have hw3:=Av (n:=n) (by omega) r.n (m:=3) (by omega) (by omega);have n4:=Lc (n:=n) (by omega);have t14:=AW (n:=n) (by omega) 14;have t15:=AW (n:=n) (by omega) 15;have t18:=CO (n:=n) (by omega) 18 [.mk 15 0 []];have h41:(0:Int)<(e:Int) - 5->¬ 1<r.op % 4:=by omega
  rw [oG];rw [hae];clear hG hG2 hg ha leafT tint hae hu1 hu2 hop hnr hs tt;generalize r.op % 5=w5 at hw;generalize r.op % 4=w4 at hw4 h41;generalize r.n % 3=w3 at hw3 ht;obtain ⟨o2,x2,k2⟩:=r;simp only [Tm.op,Tm.n] at hw hw4 hw3;simp only [AK,AhN,AhM,Am] at n4 t14 t15 t18 ⊢;by_cases hd0:(0:Int)<(e:Int) - 5
  ·have h41:=h41 hd0;by_cases h4:w5=4
   ·rcases ht with ⟨rfl,rfl⟩ | ⟨rfl,rfl⟩ | ⟨rfl,rfl⟩<;>(simp only [↓II,↓XX,XY,↓reduceIte,seval,hd0,↓Af hw,h4,↓Af hw4,h41,↓Ec n4,↓Af t14,↓Af t15,↓Du,↓Af t18,↓I2,↓Af hw3,↓QP,↓Ej,↓EG,↓F6,Am];exact A4 rfl)
   ·rcases ht with ⟨rfl,rfl⟩ | ⟨rfl,rfl⟩ | ⟨rfl,rfl⟩<;>(simp only [↓II,↓XX,XY,↓reduceIte,seval,hd0,↓Af hw,h4,↓Af hw4,h41,↓Ec n4,↓Af t14,↓Af t15,↓Du,↓Af t18,↓I2,↓Af hw3,↓QP,↓Ej,↓EG,↓F6,Am];exact A4 rfl)
  ·rcases ht with ⟨rfl,rfl⟩ | ⟨rfl,rfl⟩ | ⟨rfl,rfl⟩<;>(simp only [↓II,↓XX,XY,↓reduceIte,seval,hd0,↓Af hw4,↓Ec n4,↓Af t14,↓Af t15,↓Du,↓Af t18,↓I2,↓Af hw3,↓QP,↓Ej,↓EG,↓F6,Am];exact A4 rfl)
def Ya {e:Nat} (h6:6<=e) (he:e<=10) (hO:Ed 42 2 (e - 2)) (hG:Ed 30 1 (e - 1)):On 72 4 e:=by
 intro g a r hg ha;have hlen:=hg.len;have hW1:Wg e=4 * Wg (e - 1):=by obtain ⟨f,rfl⟩:∃f,e=f+1:=⟨e - 1,by omega⟩;rw [K6,Nat.add_sub_cancel]
 have hW2:Wg e=16 * Wg (e - 2):=by obtain ⟨f,rfl⟩:∃f,e=f+2:=⟨e - 2,by omega⟩;rw [show f+2=(f+1)+1 by omega,K6,K6,show f+1+1 - 2=f by omega];omega
 have hW0:=K1 (e - 2);have hW10:=LH he;have hD1:Dg e=Dg (e - 1)+10:=by unfold Dg;omega
 have hD2:Dg e=Dg (e - 2)+20:=by unfold Dg;omega
 have hD0:200<=Dg (e - 2):=by unfold Dg;omega
 have hDm:Dg e<=300:=by unfold Dg;omega
 have we:BB ((e:Int) - 5 - 1)=((e - 1:Nat):Int) - 5:=by rw [Ax (by omega) (by omega)];omega
 have we2:BB ((e:Int) - 5 - 2)=((e - 2:Nat):Int) - 5:=by rw [Ax (by omega) (by omega)];omega
 have aw:=ha.wt;have ad:=ha.dp;have hk1:=Int.emod_nonneg r.n (show (7:Int)≠0 by decide)
 have hk2:=Int.emod_lt_of_pos r.n (show (0:Int)<7 by decide)
 have hi:AOk g.length (.mk 15 0 []):=⟨De,by simp only [Tm.wt,Tm.wtL];omega,by simp only [Tm.dp,Tm.dpL];omega⟩;have hs1:=Me ha (by omega) 1 (by omega);by_cases c0:r.n % 7=0
 ·obtain ⟨c,p,⟨N1,h1⟩,tc⟩:=hO g (.mk 15 0 []) (r.pick 0) (A8 (by omega) hg) hi;obtain ⟨x,q,⟨N2,h2⟩,tx⟩:=hO g a (r.pick 1) (A8 (by omega) hg) (BW ha);obtain ⟨y,f,⟨N3,h3⟩,ty⟩:=hO g a (r.pick 2) (A8 (by omega) hg) (BW ha);refine ⟨.mk 27 0 [c,x,y],p && (q && f),⟨N1+N2+N3+100000,fun n hn=>?_⟩,ZI tc.sc tx.sc ty.sc,by have:=tc.wt;have:=tx.wt;have:=ty.wt;rw [n9];omega,by have:=tc.dp;have:=tx.dp;have:=ty.dp;rw [dp3];omega,fun hb=>.oif e g a c x y h6 (tc.gr (Ki hb)) (tx.gr (Ki (IH hb))) (ty.gr (IH (IH hb)))⟩
  ·obtain ⟨n,rfl⟩:=psc n (by omega);have h1:=h1 n (by omega);have h2:=h2 n (by omega);have h3:=h3 n (by omega);rw [<- we2] at h1 h2 h3;have hw:=Av (n:=n) (by omega) r.n (m:=7) (by omega) (by omega);have t15:=AW (n:=n) (by omega) 15;have p0:=AS (n:=n) (by omega) r 0;have p1:=AS (n:=n) (by omega) r 1;have p2:=AS (n:=n) (by omega) r 2;rw [c0] at hw;have t27:=CO (n:=n) (by omega) 27 [c,x,y];rw [c72];clear hO hG tc tx ty hg ha hi hs1;generalize r.pick 0=r0 at p0 h1;generalize r.pick 1=r1 at p1 h2;generalize r.pick 2=r2 at p2 h3;obtain ⟨o1,x1,k1⟩:=a;obtain ⟨o2,x2,k2⟩:=r;obtain ⟨o3,x3,k3⟩:=c;obtain ⟨o4,x4,k4⟩:=x;obtain ⟨o5,x5,k5⟩:=y;obtain ⟨o6,x6,k6⟩:=r0;obtain ⟨o7,x7,k7⟩:=r1;obtain ⟨o8,x8,k8⟩:=r2;simp only [Tm.n] at hw;simp only [AK,AhN,AhM,Am] at h1 h2 h3 t15 p0 p1 p2 t27 ⊢;cases p
   ·simp only [↓QO,↓XX,XY,↓reduceIte,seval,↓Af hw,↓Af t15,↓Af p0,↓Af p1,↓Af p2,↓As h1,↓As h2,↓As h3,↓I2,↓Af t27];exact A4 rfl
   ·cases q
    ·simp only [↓QO,↓XX,XY,↓reduceIte,seval,↓Af hw,↓Af t15,↓Af p0,↓Af p1,↓Af p2,↓As h1,↓As h2,↓As h3,↓I2,↓Af t27];exact A4 rfl
    ·simp only [↓QO,↓XX,XY,↓reduceIte,seval,↓Af hw,↓Af t15,↓Af p0,↓Af p1,↓Af p2,↓As h1,↓As h2,↓As h3,↓I2,↓Af t27];exact A4 rfl
 by_cases vV:r.n % 7=1\/r.n % 7=2
 ·have hb:=Gg g.length 1 (r.pick 0);have hbw:=Fc 1 (r.pick 0);have hbd:=Ea ((r.pick 0).plainT 1);obtain ⟨b,hbe⟩:∃b,b=(r.pick 0).plainT 1:=⟨_,rfl⟩;rw [<- hbe] at hb hbw hbd;obtain ⟨x,p,⟨N1,h1⟩,tx⟩:=hO g b (r.pick 1) (A8 (by omega) hg) ⟨hb,by omega,by omega⟩;have hgb:GOk (e - 2) (g++[(0,b)]):=Dd (A8 (by omega) hg) hb (by omega) (by omega);obtain ⟨y,q,⟨N2,h2⟩,ty⟩:=hO (g++[(0,b)]) (a.shift 1 0) (r.pick 2) hgb (by simpa using BW hs1);have ys:y.sc (g.length+1):=by simpa using ty.sc
  obtain ⟨tt,htt,hok⟩:∃tt:Tm,(r.n % 7=1/\tt=.mk 28 0 [x,y]\/r.n % 7=2/\tt=.mk 21 0 [.mk 20 0 [b,y],x])/\TG 4 e g a tt (p && q):=by
   rcases vV with h | h
   ·exact ⟨_,.inl ⟨h,rfl⟩,Db tx.sc ys,by have:=tx.wt;have:=ty.wt;rw [D5];omega,by have:=tx.dp;have:=ty.dp;rw [M9];omega,fun hpq=>by subst hbe;exact .olet e g a (r.pick 0) x y h6 (tx.gr (Ki hpq)) (ty.gr (IH hpq))⟩
   ·exact ⟨_,.inr ⟨h,rfl⟩,Db (Db hb ys) tx.sc,by have:=tx.wt;have:=ty.wt;rw [D5,D5];omega,by have:=tx.dp;have:=ty.dp;rw [M9,M9];omega,fun hpq=>by subst hbe;exact .oapp e g a (r.pick 0) x y h6 (tx.gr (Ki hpq)) (ty.gr (IH hpq))⟩
  refine ⟨tt,p && q,⟨N1+N2+100000,fun n hn=>?_⟩,hok⟩
  ·obtain ⟨n,rfl⟩:=psc n (by omega);have h1:=h1 n (by omega);have h2:=h2 n (by omega);rw [<- we2] at h1 h2;have hw:=Av (n:=n) (by omega) r.n (m:=7) (by omega) (by omega);have t15:=AW (n:=n) (by omega) 15;have p0:=AS (n:=n) (by omega) r 0;have p1:=AS (n:=n) (by omega) r 1;have p2:=AS (n:=n) (by omega) r 2;have hp:=Ke 1 n (r.pick 0) (by omega) (by omega);rw [<- hbe] at hp;have hm:=D0 (n:=n) g 0 b (by omega) (by omega);have sh:=Df n a 1 0 (by omega) (Da _ _ ha.sc) (by omega) (by omega);have t28:=CO (n:=n) (by omega) 28 [x,y];have t20:=CO (n:=n) (by omega) 20 [b,y];have t21:=CO (n:=n) (by omega) 21 [.mk 20 0 [b,y],x];rw [c72];clear hO hG tx ty hg ha hi hs1 hbe hb hgb ys hok vV;generalize r.n % 7=w7 at hw htt;generalize a.shift 1 0=a1 at sh h2;generalize r.pick 0=r0 at p0 hp;generalize r.pick 1=r1 at p1 h1;generalize r.pick 2=r2 at p2 h2;obtain ⟨o1,x1,k1⟩:=a;obtain ⟨o2,x2,k2⟩:=r;obtain ⟨o3,x3,k3⟩:=b;obtain ⟨o4,x4,k4⟩:=x;obtain ⟨o5,x5,k5⟩:=y;obtain ⟨o6,x6,k6⟩:=r0;obtain ⟨o7,x7,k7⟩:=r1;obtain ⟨o8,x8,k8⟩:=r2;obtain ⟨o9,x9,k9⟩:=a1;simp only [Tm.n] at hw;simp only [AK,AhN,AhM,Am] at h1 h2 t15 p0 p1 p2 hp hm sh t28 t20 t21 ⊢;rcases htt with ⟨rfl,rfl⟩ | ⟨rfl,rfl⟩
   ·cases p<;>(simp only [↓QO,↓XX,XY,↓reduceIte,seval,↓Af hw,↓Af t15,↓Af p0,↓Af p1,↓Af p2,↓Af hp,↓As h1,↓Au hm,↓Au sh,↓As h2,↓CF,↓Af t28,Am,AhN,AhM];exact A4 rfl)
   ·cases p<;>(simp only [↓QO,↓XX,XY,↓reduceIte,seval,↓Af hw,↓Af t15,↓Af p0,↓Af p1,↓Af p2,↓Af hp,↓As h1,↓Au hm,↓Au sh,↓As h2,↓CF,↓Af t20,↓Af t21,Am,AhN,AhM];exact A4 rfl)
 by_cases c3:r.n % 7=3
 ·obtain ⟨x,p,⟨N1,h1⟩,tx⟩:=hO g a (r.pick 0) (A8 (by omega) hg) (BW ha);obtain ⟨y,q,⟨N2,h2⟩,ty⟩:=hO g (.mk 15 0 []) (r.pick 1) (A8 (by omega) hg) hi;refine ⟨.mk 23 0 [.mk 22 0 [x,y]],p && q,⟨N1+N2+100000,fun n hn=>?_⟩,FM (Db tx.sc ty.sc),by have:=tx.wt;have:=ty.wt;rw [Lx,D5];omega,by have:=tx.dp;have:=ty.dp;rw [fP,M9];omega,fun hb=>.ofst e g a x y h6 (tx.gr (Ki hb)) (ty.gr (IH hb))⟩
  ·obtain ⟨n,rfl⟩:=psc n (by omega);have h1:=h1 n (by omega);have h2:=h2 n (by omega);rw [<- we2] at h1 h2;have hw:=Av (n:=n) (by omega) r.n (m:=7) (by omega) (by omega);have t15:=AW (n:=n) (by omega) 15;have p0:=AS (n:=n) (by omega) r 0;have p1:=AS (n:=n) (by omega) r 1;have p2:=AS (n:=n) (by omega) r 2;rw [c3] at hw;have t22:=CO (n:=n) (by omega) 22 [x,y];have t23:=CO (n:=n) (by omega) 23 [.mk 22 0 [x,y]];rw [c72];clear hO hG tx ty hg ha hi hs1;generalize r.pick 0=r0 at p0 h1;generalize r.pick 1=r1 at p1 h2;obtain ⟨o1,x1,k1⟩:=a;obtain ⟨o2,x2,k2⟩:=r;obtain ⟨o4,x4,k4⟩:=x;obtain ⟨o5,x5,k5⟩:=y;obtain ⟨o6,x6,k6⟩:=r0;obtain ⟨o7,x7,k7⟩:=r1;simp only [Tm.n] at hw;simp only [AK,AhN,AhM,Am] at h1 h2 t15 p0 p1 t22 t23 ⊢;cases p<;>(simp only [↓QO,↓XX,XY,↓reduceIte,seval,↓Af hw,↓Af t15,↓Af p0,↓Af p1,↓As h1,↓As h2,↓CF,↓Du,↓Af t22,↓Af t23];exact A4 rfl)
 by_cases c4:r.n % 7=4
 ·have hga:GOk (e - 2) (g++[(0,a)]):=Dd (A8 (by omega) hg) ha.sc (by omega) (by omega);obtain ⟨x,p,⟨N1,h1⟩,tx⟩:=hO (g++[(0,a)]) (a.shift 1 0) (r.pick 0) hga (by simpa using BW hs1);have xs:x.sc (g.length+1):=by simpa using tx.sc
  refine ⟨.mk 29 0 [a,x],p,⟨N1+100000,fun n hn=>?_⟩,Db ha.sc xs,by have:=tx.wt;rw [D5];omega,by have:=tx.dp;rw [M9];omega,fun hb=>.ofix e g a x h6 (tx.gr hb)⟩
  ·obtain ⟨n,rfl⟩:=psc n (by omega);have h1:=h1 n (by omega);rw [<- we2] at h1;have hw:=Av (n:=n) (by omega) r.n (m:=7) (by omega) (by omega);have t15:=AW (n:=n) (by omega) 15;have p0:=AS (n:=n) (by omega) r 0;have p1:=AS (n:=n) (by omega) r 1;have p2:=AS (n:=n) (by omega) r 2;rw [c4] at hw;have hm:=D0 (n:=n) g 0 a (by omega) (by omega);have sh:=Df n a 1 0 (by omega) (Da _ _ ha.sc) (by omega) (by omega);have t29:=CO (n:=n) (by omega) 29 [a,x];rw [c72];clear hO hG tx hg ha hi hs1 hga xs;generalize a.shift 1 0=a1 at sh h1;generalize r.pick 0=r0 at p0 h1;obtain ⟨o1,x1,k1⟩:=a;obtain ⟨o2,x2,k2⟩:=r;obtain ⟨o4,x4,k4⟩:=x;obtain ⟨o6,x6,k6⟩:=r0;obtain ⟨o9,x9,k9⟩:=a1;simp only [Tm.n] at hw;simp only [AK,AhN,AhM,Am] at h1 t15 p0 hm sh t29 ⊢;simp only [↓QO,↓XX,XY,↓reduceIte,seval,↓Af hw,↓Af t15,↓Af p0,↓Au hm,↓Au sh,↓As h1,↓CF,↓Af t29];exact A4 rfl
 ·have hla:AOk g.length (.mk 18 0 [a]):=⟨FM ha.sc,by rw [Lx];omega,by rw [fP];omega⟩;obtain ⟨x,p,⟨N1,h1⟩,tx⟩:=hG g (.mk 18 0 [a]) (r.pick 0) (A8 (by omega) hg) hla;refine ⟨.mk 30 0 [x],p,⟨N1+100000,fun n hn=>?_⟩,FM tx.sc,by have:=tx.wt;rw [Lx];omega,by have:=tx.dp;rw [fP];omega,fun hb=>.spl e g a x h6 (tx.gr hb)⟩
  ·obtain ⟨n,rfl⟩:=psc n (by omega);have h1:=h1 n (by omega);rw [<- we] at h1;have hw:=Av (n:=n) (by omega) r.n (m:=7) (by omega) (by omega);have t15:=AW (n:=n) (by omega) 15;have p0:=AS (n:=n) (by omega) r 0;have p1:=AS (n:=n) (by omega) r 1;have p2:=AS (n:=n) (by omega) r 2;have c1:¬ r.n % 7=1:=fun h=>vV (.inl h);have c2:¬ r.n % 7=2:=fun h=>vV (.inr h);have t18:=CO (n:=n) (by omega) 18 [a];have t30:=CO (n:=n) (by omega) 30 [x];rw [c72];clear hO hG tx hg ha hi hs1 hla vV hk1 hk2;generalize r.n % 7=w7 at hw c0 c1 c2 c3 c4;generalize r.pick 0=r0 at p0 h1;obtain ⟨o1,x1,k1⟩:=a;obtain ⟨o2,x2,k2⟩:=r;obtain ⟨o4,x4,k4⟩:=x;obtain ⟨o6,x6,k6⟩:=r0;simp only [Tm.n] at hw;simp only [AK,AhN,AhM,Am] at h1 t15 p0 t18 t30 ⊢;simp only [↓QO,↓XX,XY,↓reduceIte,seval,↓Af hw,c0,c1,c2,c3,c4,↓Af t15,↓Af p0,↓Du,↓Af t18,↓As h1,↓Af t30];exact A4 rfl
def Gt {k:Nat} {a:Tm} {r:Nat} (h:NOk k a) (hr:ar a.op=some r):a.kids.length=r:=F5 h.sc rfl hr
theorem VA {l:List Tm} (h:l.length=2):∃x y,l=[x,y]:=by
 match l,h with
 | [x,y],_=>exact ⟨x,y,rfl⟩
theorem Abq {l:List Tm} (h:l.length=1):∃x,l=[x]:=by
 match l,h with
 | [x],_=>exact ⟨x,rfl⟩
def y5 {l:List Tm} (h:l.length=0):l=[]:=List.eq_nil_of_length_eq_zero h
def Xy {e:Nat} (he:e<=10) (hO:1<=e->Ed 42 2 (e - 1)) (hA:6<=e->On 72 4 e):Ed 42 2 e:=by
 intro g a0 r hg ha0;have hlen:=hg.len;have hW0:=K1 e;have hD0:200<=Dg e:=by unfold Dg;omega
 have hDm:Dg e<=300:=by unfold Dg;omega
 have hW10:=LH he;obtain ⟨a,er,⟨N0,h0⟩,hcase,fn,hfn⟩:=Gp (k:=g.length) (by omega) ha0.sc (by have:=ha0.dp;omega);rcases hcase with ⟨rfl,ha⟩ | ⟨her,rfl⟩
 case inr =>
  have hne:er≠0:=by omega
  refine ⟨.z,false,⟨N0+100,fun n hn=>?_⟩,vC _,by simp only [Tm.z,Tm.wt,Tm.wtL];omega,by simp only [Tm.z,Tm.dp,Tm.dpL];omega,fun h=>by cases h⟩;obtain ⟨n,rfl⟩:=psc n (by omega);have h0:=h0 n (by omega);rw [oH];clear hO hA hg ha0;obtain ⟨o1,x1,k1⟩:=a0;obtain ⟨o2,x2,k2⟩:=r;simp only [AK,Tm.z,AhM,Am] at h0 ⊢;simp only [↓Ml,↓XX,XY,↓reduceIte,seval,↓Ap h0,hne];exact A4 rfl
 obtain ⟨v,is,⟨N1,h1⟩,tv0,hhit⟩:=KW hg 0 ha r.n;have up:∀{t:Tm},Gr 4 e g a t->Gr 2 e g a0 t:=fun h=>.objc e g a0 a _ fn hfn (by omega) ha h;have tv:TG 2 e g a0 v is:=tg (QM (Nat.zero_le _) tv0) (fun hb=>by
  obtain ⟨i,rfl,hi⟩:=hhit hb;exact up (.var0 e g a i hi))
 clear tv0 hhit;have aw:=ha.wt;have ad:=ha.dp;have hw3m:=Int.emod_nonneg r.op (show (3:Int)≠0 by decide)
 by_cases cv:is=true/\r.op % 3=0\/e=0
 ·refine ⟨v,is,⟨N0+N1+100,fun n hn=>?_⟩,tv⟩;obtain ⟨n,rfl⟩:=psc n (by omega);have h0:=h0 n (by omega);have h1:=h1 n (by omega);have hw:=Av (n:=n) (by omega) r.op (m:=3) (by omega) (by omega);rw [oH];clear up hfn hO hA hg ha0 ha tv;obtain ⟨o0,x0,k0⟩:=a0;obtain ⟨o1,x1,k1⟩:=a;obtain ⟨o2,x2,k2⟩:=r;obtain ⟨o3,x3,k3⟩:=v;simp only [Tm.n,Tm.op] at h1 hw cv;simp only [AK,Am] at h0 h1 ⊢;generalize o2 % 3=w3 at hw cv;rcases cv with ⟨rfl,rfl⟩ | rfl
  ·simp only [↓Ml,↓XX,XY,↓reduceIte,seval,↓Ap h0,↓As h1,↓Af hw];exact A4 rfl
  ·have hd4:((0:Nat):Int) - 5 < -4:=by omega
   cases is
   ·simp only [↓Ml,↓XX,XY,↓reduceIte,seval,↓Ap h0,↓As h1,↓Af hw,hd4,Int.reduceSub,Int.reduceLT,Int.reduceNeg];exact A4 rfl
   ·by_cases h3:w3=0
    ·simp only [↓Ml,↓XX,XY,↓reduceIte,seval,↓Ap h0,↓As h1,↓Af hw,h3,hd4,Int.reduceSub,Int.reduceLT,Int.reduceNeg];exact A4 rfl
    ·simp only [↓Ml,↓XX,XY,↓reduceIte,seval,↓Ap h0,↓As h1,↓Af hw,h3,hd4,Int.reduceSub,Int.reduceLT,Int.reduceNeg];exact A4 rfl
 have he1:1<=e:=by omega
 have hd4:¬ (e:Int) - 5 < -4:=by omega
 have hv:is=true->¬ r.op % 3=0:=fun h1 h2=>cv (.inl ⟨h1,h2⟩);have hW1:Wg e=4 * Wg (e - 1):=by obtain ⟨f,rfl⟩:∃f,e=f+1:=⟨e - 1,by omega⟩;rw [K6,Nat.add_sub_cancel]
 have hW01:=K1 (e - 1);have hD1:Dg e=Dg (e - 1)+10:=by unfold Dg;omega
 have hD01:200<=Dg (e - 1):=by unfold Dg;omega
 have we:BB ((e:Int) - 5 - 1)=((e - 1:Nat):Int) - 5:=by rw [Ax (by omega) (by omega)];omega
 have hO:=hO he1;by_cases ca:6<=e/\r.op % 3=1
 ·obtain ⟨t,b,⟨N2,h2⟩,tt⟩:=hA ca.1 g a r hg ha;refine ⟨t,b,⟨N0+N1+N2+100,fun n hn=>?_⟩,Zo tt up⟩;obtain ⟨n,rfl⟩:=psc n (by omega);have h0:=h0 n (by omega);have h1:=h1 n (by omega);have h2:=h2 n (by omega);have hw:=Av (n:=n) (by omega) r.op (m:=3) (by omega) (by omega);rw [ca.2] at hw;have hd0:(0:Int)<(e:Int) - 5:=by omega
  rw [oH];clear up hfn hO hA hg ha0 ha tv tt;obtain ⟨o0,x0,k0⟩:=a0;obtain ⟨o1,x1,k1⟩:=a;obtain ⟨o2,x2,k2⟩:=r;obtain ⟨o3,x3,k3⟩:=v;obtain ⟨o4,x4,k4⟩:=t;simp only [Tm.n,Tm.op] at h1 hw;simp only [AK,Am] at h0 h1 h2 ⊢;cases is<;>(simp only [↓Ml,↓XX,XY,↓reduceIte,seval,↓Ap h0,↓As h1,↓Af hw,hd4,hd0,↓As h2];exact A4 rfl)
 have hna:(0:Int)<(e:Int) - 5->¬ r.op % 3=1:=by omega
 by_cases o15:a.op=15
 ·have hl:=y5 (Gt ha (show ar a.op=some 0 by rw [o15];decide))
  by_cases hs:6<=e/\r.op % 2=1
  ·obtain ⟨x,p,⟨N2,h2⟩,tx⟩:=hO g a (r.pick 0) (A8 (by omega) hg) (BW ha);obtain ⟨y,q,⟨N3,h3⟩,ty⟩:=hO g a (r.pick 1) (A8 (by omega) hg) (BW ha);have hj1:=Int.emod_nonneg r.n (show (5:Int)≠0 by decide)
   have hj2:=Int.emod_lt_of_pos r.n (show (0:Int)<5 by decide)
   refine ⟨.mk 26 (r.n % 5) [x,y],p && q,⟨N0+N1+N2+N3+100,fun n hn=>?_⟩,YZ (by decide) (by decide) (by rw [BQ,if_neg (by decide),if_pos rfl];omega) tx.sc ty.sc,by have:=tx.wt;have:=ty.wt;rw [D5];omega,by have:=tx.dp;have:=ty.dp;rw [M9];omega,fun hb=>up (.oprim e g a x y _ hs.1 o15 (tx.gr (Ki hb)) (ty.gr (IH hb)))⟩;obtain ⟨n,rfl⟩:=psc n (by omega);have h0:=h0 n (by omega);have h1:=h1 n (by omega);have h2:=h2 n (by omega);have h3:=h3 n (by omega);rw [<- we] at h2 h3;have hw:=Av (n:=n) (by omega) r.op (m:=3) (by omega) (by omega);have hw2:=Av (n:=n) (by omega) r.op (m:=2) (by omega) (by omega);rw [hs.2] at hw2;have hw5:=Av (n:=n) (by omega) r.n (m:=5) (by omega) (by omega);have p0:=AS (n:=n) (by omega) r 0;have p1:=AS (n:=n) (by omega) r 1;have hd0:(0:Int)<(e:Int) - 5:=by omega
   replace hna:=hna hd0;rw [oH];clear up hfn hO hA hg ha0 ha tv tx ty hj1 hj2;generalize r.op % 3=w3 at hw hv hna;generalize r.n % 5=w5 at hw5 ⊢;generalize r.pick 0=r0 at p0 h2;generalize r.pick 1=r1 at p1 h3;obtain ⟨o0,x0,k0⟩:=a0;obtain ⟨o1,x1,k1⟩:=a;simp only [Tm.op,Tm.kids] at o15 hl;subst o15 hl;obtain ⟨o2,x2,k2⟩:=r;obtain ⟨o3,x3,k3⟩:=v;obtain ⟨o4,x4,k4⟩:=x;obtain ⟨o5,x5,k5⟩:=y;obtain ⟨o6,x6,k6⟩:=r0;obtain ⟨o7,x7,k7⟩:=r1;simp only [Tm.n,Tm.op] at h1 hw hw2 hw5;simp only [AK,Am,AhN,AhM] at h0 h1 h2 h3 p0 p1 ⊢;cases is<;>cases p<;>(simp only [↓Ml,↓XX,XY,↓reduceIte,seval,↓Ap h0,↓As h1,↓Af hw,hv,hd4,hd0,hna,↓Af hw2,↓Af p0,↓Af p1,↓As h2,↓As h3,↓Af hw5,↓CF];exact A4 rfl)
  ·have hj1:=Int.emod_nonneg r.n (show (20:Int)≠0 by decide)
   have hj2:=Int.emod_lt_of_pos r.n (show (0:Int)<20 by decide)
   refine ⟨.mk 25 (r.n % 20 - 5) [],true,⟨N0+N1+100,fun n hn=>?_⟩,Hv (by decide) (by decide) (by rw [BQ,if_neg (by decide),if_neg (by decide),if_pos rfl];omega),by simp only [Tm.wt,Tm.wtL];omega,by simp only [Tm.dp,Tm.dpL];omega,fun _=>up (.oint e g a _ o15)⟩;obtain ⟨n,rfl⟩:=psc n (by omega);have h0:=h0 n (by omega);have h1:=h1 n (by omega);have hw:=Av (n:=n) (by omega) r.op (m:=3) (by omega) (by omega);have hw2:=Av (n:=n) (by omega) r.op (m:=2) (by omega) (by omega);have hw20:=Av (n:=n) (by omega) r.n (m:=20) (by omega) (by omega);have w5:BB (r.n % 20 - 5)=r.n % 20 - 5:=by rw [Ax]<;>omega
   have hin:=d9 (n:=n) (by omega) (r.n % 20 - 5);rw [<- w5] at hin;have h21:(0:Int)<(e:Int) - 5->¬ r.op % 2=1:=by omega
   rw [oH,<- w5];clear up hfn hO hA hg ha0 ha tv hj1 hj2 w5 hs;generalize r.op % 3=w3 at hw hv hna;generalize r.op % 2=w2 at hw2 h21;generalize r.n % 20=w20 at hw20 hin ⊢;obtain ⟨o0,x0,k0⟩:=a0;obtain ⟨o1,x1,k1⟩:=a;simp only [Tm.op,Tm.kids] at o15 hl;subst o15 hl;obtain ⟨o2,x2,k2⟩:=r;obtain ⟨o3,x3,k3⟩:=v;simp only [Tm.n,Tm.op] at h1 hw hw2 hw20;simp only [AK,Am,AhN,AhM] at h0 h1 hin ⊢;cases is<;>by_cases hd0:(0:Int)<(e:Int) - 5<;>(simp only [↓Ml,↓XX,XY,↓reduceIte,seval,↓Ap h0,↓As h1,↓Af hw,hv,hd4,hd0,hna,↓Af hw2,h21,↓Af hw20,↓Ap hin];exact A4 rfl)
 by_cases o16:a.op=16
 ·obtain ⟨d,c,hl⟩:=VA (Gt ha (show ar a.op=some 2 by rw [o16];decide))
  have hd:NOk g.length d/\NOk g.length c:=by obtain ⟨o1,x1,k1⟩:=a;simp only [Tm.op,Tm.kids] at o16 hl;subst o16 hl;have hsc:=ha.sc;rw [Tm.sc] at hsc;rw [D5] at aw;rw [M9] at ad;exact ⟨⟨hsc.2.2.1,by omega,by omega⟩,⟨hsc.2.2.2.1,by omega,by omega⟩⟩
  obtain ⟨hd,hc⟩:=hd;have hgd:GOk (e - 1) (g++[(0,d)]):=Dd (by rw [show e - 1+1=e by omega];exact hg) hd.sc (by have:=hd.wt;omega) (by have:=hd.dp;omega)
  obtain ⟨x,p,⟨N2,h2⟩,tx⟩:=hO (g++[(0,d)]) (c.shift 1 0) (r.pick 0) hgd (by simpa using BW (Me hc (by omega) 1 (by omega)));have xs:x.sc (g.length+1):=by simpa using tx.sc
  refine ⟨.mk 20 0 [d,x],p,⟨N0+N1+N2+100000,fun n hn=>?_⟩,Db hd.sc xs,by have:=tx.wt;have:=hd.wt;rw [D5];omega,by have:=tx.dp;have:=hd.dp;rw [M9];omega,fun hb=>up (by
   obtain ⟨oa,xa,ka⟩:=a;simp only [Tm.op,Tm.kids] at o16 hl;subst o16 hl;exact .olam e g _ d c x (tx.gr hb))⟩
  ·obtain ⟨n,rfl⟩:=psc n (by omega);have h0:=h0 n (by omega);have h1:=h1 n (by omega);have h2:=h2 n (by omega);rw [<- we] at h2;have hw:=Av (n:=n) (by omega) r.op (m:=3) (by omega) (by omega);have p0:=AS (n:=n) (by omega) r 0;have hm:=D0 (n:=n) g 0 d (by omega) (by omega);have sh:=Df n c 1 0 (by have:=hc.wt;omega) (Da _ _ hc.sc) (by omega) (by have:=hc.wt;omega);have t20:=CO (n:=n) (by omega) 20 [d,x];rw [oH];clear up hfn hO hA hg ha0 ha tv tx hd hc hgd xs;generalize r.op % 3=w3 at hw hv hna;generalize c.shift 1 0=c1 at sh h2;generalize r.pick 0=r0 at p0 h2;obtain ⟨o0,x0,k0⟩:=a0;obtain ⟨o1,x1,k1⟩:=a;simp only [Tm.op,Tm.kids] at o16 hl;subst o16 hl;obtain ⟨o2,x2,k2⟩:=r;obtain ⟨o3,x3,k3⟩:=v;obtain ⟨o4,x4,k4⟩:=x;obtain ⟨o5,x5,k5⟩:=d;obtain ⟨o6,x6,k6⟩:=c;obtain ⟨o7,x7,k7⟩:=c1;obtain ⟨o8,x8,k8⟩:=r0;simp only [Tm.n,Tm.op] at h1 hw;simp only [AK,Am,AhN,AhM] at h0 h1 h2 p0 hm sh t20 ⊢;cases is<;>by_cases hd0:(0:Int)<(e:Int) - 5<;>(simp only [↓Ml,↓XX,XY,↓reduceIte,seval,↓Ap h0,↓As h1,↓Af hw,hv,hd4,hd0,hna,↓Ej,↓EG,↓Af p0,↓Au hm,↓Au sh,↓As h2,↓CF,↓Af t20];exact A4 rfl)
 by_cases o17:a.op=17
 ·obtain ⟨d,c,hl⟩:=VA (Gt ha (show ar a.op=some 2 by rw [o17];decide))
  have hd:NOk g.length d/\NOk g.length c:=by obtain ⟨o1,x1,k1⟩:=a;simp only [Tm.op,Tm.kids] at o17 hl;subst o17 hl;have hsc:=ha.sc;rw [Tm.sc] at hsc;rw [D5] at aw;rw [M9] at ad;exact ⟨⟨hsc.2.2.1,by omega,by omega⟩,⟨hsc.2.2.2.1,by omega,by omega⟩⟩
  obtain ⟨hd,hc⟩:=hd;obtain ⟨x,p,⟨N2,h2⟩,tx⟩:=hO g d (r.pick 0) (A8 (by omega) hg) (BW hd);obtain ⟨y,q,⟨N3,h3⟩,ty⟩:=hO g c (r.pick 1) (A8 (by omega) hg) (BW hc);refine ⟨.mk 22 0 [x,y],p && q,⟨N0+N1+N2+N3+100,fun n hn=>?_⟩,Db tx.sc ty.sc,by have:=tx.wt;have:=ty.wt;rw [D5];omega,by have:=tx.dp;have:=ty.dp;rw [M9];omega,fun hb=>up (by
   obtain ⟨oa,xa,ka⟩:=a;simp only [Tm.op,Tm.kids] at o17 hl;subst o17 hl;exact .opair e g _ d c x y (tx.gr (Ki hb)) (ty.gr (IH hb)))⟩
  ·obtain ⟨n,rfl⟩:=psc n (by omega);have h0:=h0 n (by omega);have h1:=h1 n (by omega);have h2:=h2 n (by omega);have h3:=h3 n (by omega);rw [<- we] at h2 h3;have hw:=Av (n:=n) (by omega) r.op (m:=3) (by omega) (by omega);have p0:=AS (n:=n) (by omega) r 0;have p1:=AS (n:=n) (by omega) r 1;have t22:=CO (n:=n) (by omega) 22 [x,y];rw [oH];clear up hfn hO hA hg ha0 ha tv tx ty hd hc;generalize r.op % 3=w3 at hw hv hna;generalize r.pick 0=r0 at p0 h2;generalize r.pick 1=r1 at p1 h3;obtain ⟨o0,x0,k0⟩:=a0;obtain ⟨o1,x1,k1⟩:=a;simp only [Tm.op,Tm.kids] at o17 hl;subst o17 hl;obtain ⟨o2,x2,k2⟩:=r;obtain ⟨o3,x3,k3⟩:=v;obtain ⟨o4,x4,k4⟩:=x;obtain ⟨o5,x5,k5⟩:=d;obtain ⟨o6,x6,k6⟩:=c;obtain ⟨o7,x7,k7⟩:=y;obtain ⟨o8,x8,k8⟩:=r0;obtain ⟨o9,x9,k9⟩:=r1;simp only [Tm.n,Tm.op] at h1 hw;simp only [AK,Am,AhN,AhM] at h0 h1 h2 h3 p0 p1 t22 ⊢;cases is<;>by_cases hd0:(0:Int)<(e:Int) - 5<;>cases p<;>(simp only [↓Ml,↓XX,XY,↓reduceIte,seval,↓Ap h0,↓As h1,↓Af hw,hv,hd4,hd0,hna,↓Ej,↓EG,↓Af p0,↓Af p1,↓As h2,↓As h3,↓CF,↓Af t22];exact A4 rfl)
 refine ⟨v,is,⟨N0+N1+100,fun n hn=>?_⟩,tv⟩
 ·obtain ⟨n,rfl⟩:=psc n (by omega);have h0:=h0 n (by omega);have h1:=h1 n (by omega);have hw:=Av (n:=n) (by omega) r.op (m:=3) (by omega) (by omega);rw [oH];clear up hfn hO hA hg ha0 ha tv;generalize r.op % 3=w3 at hw hv hna;obtain ⟨o0,x0,k0⟩:=a0;obtain ⟨o1,x1,k1⟩:=a;obtain ⟨o2,x2,k2⟩:=r;obtain ⟨o3,x3,k3⟩:=v;simp only [Tm.n,Tm.op] at h1 hw o15 o16 o17;simp only [AK,Am] at h0 h1 ⊢;cases is<;>by_cases hd0:(0:Int)<(e:Int) - 5<;>(simp only [↓Ml,↓XX,XY,↓reduceIte,seval,↓Ap h0,↓As h1,↓Af hw,hv,hd4,hd0,hna,o15,o16,o17];exact A4 rfl)
def lD {e:Nat} (he:e<=10) (hG:1<=e->Ed 30 1 (e - 1)) (hO:1<=e->Ed 42 2 (e - 1)) (hA:6<=e->On 67 3 e) (hP:1<=e->dM 68 3 e):Ed 30 1 e:=by
 intro g a0 r hg ha0;have hlen:=hg.len;have hW0:=K1 e;have hD0:200<=Dg e:=by unfold Dg;omega
 have hDm:Dg e<=300:=by unfold Dg;omega
 have hW10:=LH he;obtain ⟨a,er,⟨N0,h0⟩,hcase,fn,hfn⟩:=Gp (k:=g.length) (by omega) ha0.sc (by have:=ha0.dp;omega);rcases hcase with ⟨rfl,ha⟩ | ⟨her,rfl⟩
 case inr =>
  have hne:er≠0:=by omega
  refine ⟨.z,false,⟨N0+100,fun n hn=>?_⟩,vC _,by simp only [Tm.z,Tm.wt,Tm.wtL];omega,by simp only [Tm.z,Tm.dp,Tm.dpL];omega,fun h=>by cases h⟩;obtain ⟨n,rfl⟩:=psc n (by omega);have h0:=h0 n (by omega);rw [jX];clear hG hO hA hP hg ha0;obtain ⟨o1,x1,k1⟩:=a0;obtain ⟨o2,x2,k2⟩:=r;simp only [AK,Tm.z,AhM,Am] at h0 ⊢;simp only [↓Jz,↓XX,XY,↓reduceIte,seval,↓Ap h0,hne];exact A4 rfl
 obtain ⟨v,is,⟨N1,h1⟩,tv0,hhit⟩:=KW hg 1 ha r.n;have up:∀{t:Tm},Gr 3 e g a t->Gr 1 e g a0 t:=fun h=>.grow e g a0 a _ fn hfn (by omega) ha h;have tv:TG 1 e g a0 v is:=tg (QM (Nat.zero_le _) tv0) (fun hb=>by
  obtain ⟨i,rfl,hi⟩:=hhit hb;exact up (.var1 e g a i hi))
 clear tv0 hhit;have aw:=ha.wt;have ad:=ha.dp;have hw3m:=Int.emod_nonneg r.op (show (3:Int)≠0 by decide)
 by_cases cv:is=true/\r.op % 3=0\/e=0
 ·refine ⟨v,is,⟨N0+N1+100,fun n hn=>?_⟩,tv⟩;obtain ⟨n,rfl⟩:=psc n (by omega);have h0:=h0 n (by omega);have h1:=h1 n (by omega);have hw:=Av (n:=n) (by omega) r.op (m:=3) (by omega) (by omega);rw [jX];clear up hfn hG hO hA hP hg ha0 ha tv;obtain ⟨o0,x0,k0⟩:=a0;obtain ⟨o1,x1,k1⟩:=a;obtain ⟨o2,x2,k2⟩:=r;obtain ⟨o3,x3,k3⟩:=v;simp only [Tm.n,Tm.op] at h1 hw cv;simp only [AK,Am] at h0 h1 ⊢;generalize o2 % 3=w3 at hw cv;rcases cv with ⟨rfl,rfl⟩ | rfl
  ·simp only [↓Jz,↓XX,XY,↓reduceIte,seval,↓Ap h0,↓As h1,↓Af hw];exact A4 rfl
  ·have hd4:((0:Nat):Int) - 5 < -4:=by omega
   cases is
   ·simp only [↓Jz,↓XX,XY,↓reduceIte,seval,↓Ap h0,↓As h1,↓Af hw,hd4,Int.reduceSub,Int.reduceLT,Int.reduceNeg];exact A4 rfl
   ·by_cases h3:w3=0
    ·simp only [↓Jz,↓XX,XY,↓reduceIte,seval,↓Ap h0,↓As h1,↓Af hw,h3,hd4,Int.reduceSub,Int.reduceLT,Int.reduceNeg];exact A4 rfl
    ·simp only [↓Jz,↓XX,XY,↓reduceIte,seval,↓Ap h0,↓As h1,↓Af hw,h3,hd4,Int.reduceSub,Int.reduceLT,Int.reduceNeg];exact A4 rfl
 have he1:1<=e:=by omega
 have hd4:¬ (e:Int) - 5 < -4:=by omega
 have hv:is=true->¬ r.op % 3=0:=fun h1 h2=>cv (.inl ⟨h1,h2⟩);have hW1:Wg e=4 * Wg (e - 1):=by obtain ⟨f,rfl⟩:∃f,e=f+1:=⟨e - 1,by omega⟩;rw [K6,Nat.add_sub_cancel]
 have hW01:=K1 (e - 1);have hD1:Dg e=Dg (e - 1)+10:=by unfold Dg;omega
 have hD01:200<=Dg (e - 1):=by unfold Dg;omega
 have we:BB ((e:Int) - 5 - 1)=((e - 1:Nat):Int) - 5:=by rw [Ax (by omega) (by omega)];omega
 have hO:=hO he1;have hG:=hG he1;have hP:=hP he1;by_cases ca:6<=e/\r.op % 7=6
 ·obtain ⟨t,b,⟨N2,h2⟩,tt⟩:=hA ca.1 g a r hg ha;refine ⟨t,b,⟨N0+N1+N2+100,fun n hn=>?_⟩,Zo tt up⟩;obtain ⟨n,rfl⟩:=psc n (by omega);have h0:=h0 n (by omega);have h1:=h1 n (by omega);have h2:=h2 n (by omega);have hw:=Av (n:=n) (by omega) r.op (m:=3) (by omega) (by omega);have hw7:=Av (n:=n) (by omega) r.op (m:=7) (by omega) (by omega);rw [ca.2] at hw7;have hd0:(0:Int)<(e:Int) - 5:=by omega
  rw [jX];clear up hfn hG hO hA hP hg ha0 ha tv tt;generalize r.op % 3=w3 at hw hv;obtain ⟨o0,x0,k0⟩:=a0;obtain ⟨o1,x1,k1⟩:=a;obtain ⟨o2,x2,k2⟩:=r;obtain ⟨o3,x3,k3⟩:=v;obtain ⟨o4,x4,k4⟩:=t;simp only [Tm.n,Tm.op] at h1 hw hw7;simp only [AK,Am] at h0 h1 h2 ⊢;cases is<;>(simp only [↓Jz,↓XX,XY,↓reduceIte,seval,↓Ap h0,↓As h1,↓Af hw,↓Af hw7,hv,hd4,hd0,↓As h2];exact A4 rfl)
 have hna:(0:Int)<(e:Int) - 5->¬ r.op % 7=6:=by omega
 by_cases hpl:a.op=10\/a.op=14\/a.op=2
 ·obtain ⟨t,b,⟨N2,h2⟩,tt⟩:=hP g a r hg ha hpl;refine ⟨t,b,⟨N0+N1+N2+100,fun n hn=>?_⟩,Zo tt up⟩
  ·obtain ⟨n,rfl⟩:=psc n (by omega);have h0:=h0 n (by omega);have h1:=h1 n (by omega);have h2:=h2 n (by omega);have hw:=Av (n:=n) (by omega) r.op (m:=3) (by omega) (by omega);have hw7:=Av (n:=n) (by omega) r.op (m:=7) (by omega) (by omega);rw [jX];clear up hfn hG hO hA hP hg ha0 ha tv tt;generalize r.op % 3=w3 at hw hv;generalize r.op % 7=w7 at hw7 hna;obtain ⟨o0,x0,k0⟩:=a0;obtain ⟨o1,x1,k1⟩:=a;obtain ⟨o2,x2,k2⟩:=r;obtain ⟨o3,x3,k3⟩:=v;obtain ⟨o4,x4,k4⟩:=t;simp only [Tm.n,Tm.op] at h1 hw hw7 hpl;simp only [AK,Am] at h0 h1 h2 ⊢;rcases hpl with rfl | rfl | rfl
   ·cases is<;>by_cases hd0:(0:Int)<(e:Int) - 5<;>(simp only [↓Jz,↓XX,XY,↓reduceIte,seval,↓Ap h0,↓As h1,↓Af hw,↓Af hw7,hv,hd4,hd0,hna,↓As h2];exact A4 rfl)
   ·cases is<;>by_cases hd0:(0:Int)<(e:Int) - 5<;>(simp only [↓Jz,↓XX,XY,↓reduceIte,seval,↓Ap h0,↓As h1,↓Af hw,↓Af hw7,hv,hd4,hd0,hna,↓As h2];exact A4 rfl)
   ·cases is<;>by_cases hd0:(0:Int)<(e:Int) - 5<;>(simp only [↓Jz,↓XX,XY,↓reduceIte,seval,↓Ap h0,↓As h1,↓Af hw,↓Af hw7,hv,hd4,hd0,hna,↓As h2];exact A4 rfl)
 by_cases o3:a.op=3
 ·obtain ⟨d,c,hl⟩:=VA (Gt ha (show ar a.op=some 2 by rw [o3];decide))
  have hd:NOk g.length d/\NOk (g.length+1) c:=by obtain ⟨o1,x1,k1⟩:=a;simp only [Tm.op,Tm.kids] at o3 hl;subst o3 hl;have hsc:=ha.sc;rw [Tm.sc] at hsc;rw [D5] at aw;rw [M9] at ad;exact ⟨⟨hsc.2.2.1,by omega,by omega⟩,⟨hsc.2.2.2.1,by omega,by omega⟩⟩
  obtain ⟨hd,hc⟩:=hd;have hgd:GOk (e - 1) (g++[(1,d)]):=Dd (by rw [show e - 1+1=e by omega];exact hg) hd.sc (by have:=hd.wt;omega) (by have:=hd.dp;omega)
  obtain ⟨x,p,⟨N2,h2⟩,tx⟩:=hG (g++[(1,d)]) c (r.pick 0) hgd (by simpa using BW hc);have xs:x.sc (g.length+1):=by simpa using tx.sc
  refine ⟨.mk 4 0 [d,x],p,⟨N0+N1+N2+100000,fun n hn=>?_⟩,Db hd.sc xs,by have:=tx.wt;have:=hd.wt;rw [D5];omega,by have:=tx.dp;have:=hd.dp;rw [M9];omega,fun hb=>up (by
   obtain ⟨oa,xa,ka⟩:=a;simp only [Tm.op,Tm.kids] at o3 hl;subst o3 hl;exact .lam e g _ d c x (tx.gr hb))⟩
  ·obtain ⟨n,rfl⟩:=psc n (by omega);have h0:=h0 n (by omega);have h1:=h1 n (by omega);have h2:=h2 n (by omega);rw [<- we] at h2;have hw:=Av (n:=n) (by omega) r.op (m:=3) (by omega) (by omega);have hw7:=Av (n:=n) (by omega) r.op (m:=7) (by omega) (by omega);have p0:=AS (n:=n) (by omega) r 0;have hm:=D0 (n:=n) g 1 d (by omega) (by omega);have t4:=CO (n:=n) (by omega) 4 [d,x];rw [jX];clear up hfn hG hO hA hP hg ha0 ha tv tx hd hc hgd xs hpl;generalize r.op % 3=w3 at hw hv;generalize r.op % 7=w7 at hw7 hna;generalize r.pick 0=r0 at p0 h2;obtain ⟨o0,x0,k0⟩:=a0;obtain ⟨o1,x1,k1⟩:=a;simp only [Tm.op,Tm.kids] at o3 hl;subst o3 hl;obtain ⟨o2,x2,k2⟩:=r;obtain ⟨o3,x3,k3⟩:=v;obtain ⟨o4,x4,k4⟩:=x;obtain ⟨o5,x5,k5⟩:=d;obtain ⟨o6,x6,k6⟩:=c;obtain ⟨o8,x8,k8⟩:=r0;simp only [Tm.n,Tm.op] at h1 hw hw7;simp only [AK,Am,AhN,AhM] at h0 h1 h2 p0 hm t4 ⊢;cases is<;>by_cases hd0:(0:Int)<(e:Int) - 5<;>(simp only [↓Jz,↓XX,XY,↓reduceIte,seval,↓Ap h0,↓As h1,↓Af hw,↓Af hw7,hv,hd4,hd0,hna,↓Ej,↓EG,↓Af p0,↓Au hm,↓As h2,↓CF,↓Af t4];exact A4 rfl)
 by_cases o6:a.op=6
 ·obtain ⟨d,c,hl⟩:=VA (Gt ha (show ar a.op=some 2 by rw [o6];decide))
  have hd:NOk g.length d/\NOk (g.length+1) c:=by obtain ⟨o1,x1,k1⟩:=a;simp only [Tm.op,Tm.kids] at o6 hl;subst o6 hl;have hsc:=ha.sc;rw [Tm.sc] at hsc;rw [D5] at aw;rw [M9] at ad;exact ⟨⟨hsc.2.2.1,by omega,by omega⟩,⟨hsc.2.2.2.1,by omega,by omega⟩⟩
  obtain ⟨hd,hc⟩:=hd;obtain ⟨x,p,⟨N2,h2⟩,tx⟩:=hG g d (r.pick 0) (A8 (by omega) hg) (BW hd);cases p
  ·refine ⟨v,is,⟨N0+N1+N2+100,fun n hn=>?_⟩,tv⟩;obtain ⟨n,rfl⟩:=psc n (by omega);have h0:=h0 n (by omega);have h1:=h1 n (by omega);have h2:=h2 n (by omega);rw [<- we] at h2;have hw:=Av (n:=n) (by omega) r.op (m:=3) (by omega) (by omega);have hw7:=Av (n:=n) (by omega) r.op (m:=7) (by omega) (by omega);have p0:=AS (n:=n) (by omega) r 0;rw [jX];clear up hfn hG hO hA hP hg ha0 ha tv tx hd hc hpl;generalize r.op % 3=w3 at hw hv;generalize r.op % 7=w7 at hw7 hna;generalize r.pick 0=r0 at p0 h2;obtain ⟨o0,x0,k0⟩:=a0;obtain ⟨o1,x1,k1⟩:=a;simp only [Tm.op,Tm.kids] at o6 hl;subst o6 hl;obtain ⟨o2,x2,k2⟩:=r;obtain ⟨o3,x3,k3⟩:=v;obtain ⟨o4,x4,k4⟩:=x;obtain ⟨o5,x5,k5⟩:=d;obtain ⟨o6,x6,k6⟩:=c;obtain ⟨o8,x8,k8⟩:=r0;simp only [Tm.n,Tm.op] at h1 hw hw7;simp only [AK,Am,AhN,AhM] at h0 h1 h2 p0 ⊢;cases is<;>by_cases hd0:(0:Int)<(e:Int) - 5<;>(simp only [↓Jz,↓XX,XY,↓reduceIte,seval,↓Ap h0,↓As h1,↓Af hw,↓Af hw7,hv,hd4,hd0,hna,↓Ej,↓EG,↓Af p0,↓As h2];exact A4 rfl)
  ·have hss:AOk g.length (c.subst 0 0 x):=by
    have xw:=tx.wt;have xd:=tx.dp;have cw:=hc.wt;have cd:=hc.dp;have h1:=JJ c x 0 0;have h2:=LO c x 0 0;have h3:c.wt * x.wt<=3000 * 21000000000:=Nat.mul_le_mul cw (by omega);exact ⟨Jq c x 0 g.length hc.sc tx.sc (by omega),by omega,by omega⟩
   obtain ⟨y,q,⟨N3,h3⟩,ty⟩:=hG g (c.subst 0 0 x) (r.pick 1) (A8 (by omega) hg) hss;refine ⟨.mk 7 0 [a,x,y],q,⟨N0+N1+N2+N3+1000000000000,fun n hn=>?_⟩,ZI ha.sc tx.sc ty.sc,by have:=tx.wt;have:=ty.wt;rw [n9];omega,by have:=tx.dp;have:=ty.dp;rw [dp3];omega,fun hb=>up (by
   obtain ⟨oa,xa,ka⟩:=a;simp only [Tm.op,Tm.kids] at o6 hl;subst o6 hl;exact .pair e g _ d c x y (cD tx (by omega)) (tx.gr rfl) (ty.gr hb))⟩
   obtain ⟨n,rfl⟩:=psc n (by omega);have h0:=h0 n (by omega);have h1:=h1 n (by omega);have h2:=h2 n (by omega);have h3:=h3 n (by omega);rw [<- we] at h2 h3;have hw:=Av (n:=n) (by omega) r.op (m:=3) (by omega) (by omega);have hw7:=Av (n:=n) (by omega) r.op (m:=7) (by omega) (by omega);have p0:=AS (n:=n) (by omega) r 0;have p1:=AS (n:=n) (by omega) r 1;have hsb:=MI (n:=n) c x 0 (Da _ _ tx.sc) (by have:=tx.wt;omega) (by have:=tx.wt;have:=hc.wt;omega) (Da _ _ hc.sc) (by have:=hc.wt;omega) (by omega) (by have:=hc.wt;omega);have t7:=CO (n:=n) (by omega) 7 [a,x,y];rw [jX];clear up hfn hG hO hA hP hg ha0 ha tv tx ty hd hc hpl hss;generalize r.op % 3=w3 at hw hv;generalize r.op % 7=w7 at hw7 hna;generalize c.subst 0 0 x=sb at hsb h3;generalize r.pick 0=r0 at p0 h2;generalize r.pick 1=r1 at p1 h3;obtain ⟨o0,x0,k0⟩:=a0;obtain ⟨o1,x1,k1⟩:=a;simp only [Tm.op,Tm.kids] at o6 hl;subst o6 hl;obtain ⟨o2,x2,k2⟩:=r;obtain ⟨o3,x3,k3⟩:=v;obtain ⟨o4,x4,k4⟩:=x;obtain ⟨o5,x5,k5⟩:=d;obtain ⟨o6,x6,k6⟩:=c;obtain ⟨o7,x7,k7⟩:=y;obtain ⟨o8,x8,k8⟩:=r0;obtain ⟨o9,x9,k9⟩:=r1;obtain ⟨oa,xa,ka⟩:=sb;simp only [Tm.n,Tm.op] at h1 hw hw7;simp only [AK,Am,AhN,AhM] at h0 h1 h2 h3 p0 p1 hsb t7 ⊢;cases is<;>by_cases hd0:(0:Int)<(e:Int) - 5<;>(simp only [↓Jz,↓XX,XY,↓reduceIte,seval,↓Ap h0,↓As h1,↓Af hw,↓Af hw7,hv,hd4,hd0,hna,↓Ej,↓EG,↓Af p0,↓Af p1,↓As h2,↓Au hsb,↓As h3,↓I2,↓Af t7];exact A4 rfl)
 by_cases o18:a.op=18
 ·obtain ⟨d,hl⟩:=Abq (Gt ha (show ar a.op=some 1 by rw [o18];decide))
  have hd:NOk g.length d:=by obtain ⟨o1,x1,k1⟩:=a;simp only [Tm.op,Tm.kids] at o18 hl;subst o18 hl;have hsc:=ha.sc;rw [Tm.sc] at hsc;rw [Lx] at aw;rw [fP] at ad;exact ⟨hsc.2.2.1,by omega,by omega⟩
  obtain ⟨x,p,⟨N2,h2⟩,tx⟩:=hO g d (r.pick 0) (A8 (by omega) hg) (BW hd);refine ⟨.mk 19 0 [x],p,⟨N0+N1+N2+100,fun n hn=>?_⟩,FM tx.sc,by have:=tx.wt;rw [Lx];omega,by have:=tx.dp;rw [fP];omega,fun hb=>up (by
   obtain ⟨oa,xa,ka⟩:=a;simp only [Tm.op,Tm.kids] at o18 hl;subst o18 hl;exact .quo e g _ d x (tx.gr hb))⟩
  ·obtain ⟨n,rfl⟩:=psc n (by omega);have h0:=h0 n (by omega);have h1:=h1 n (by omega);have h2:=h2 n (by omega);rw [<- we] at h2;have hw:=Av (n:=n) (by omega) r.op (m:=3) (by omega) (by omega);have hw7:=Av (n:=n) (by omega) r.op (m:=7) (by omega) (by omega);have p0:=AS (n:=n) (by omega) r 0;have t19:=CO (n:=n) (by omega) 19 [x];rw [jX];clear up hfn hG hO hA hP hg ha0 ha tv tx hd hpl;generalize r.op % 3=w3 at hw hv;generalize r.op % 7=w7 at hw7 hna;generalize r.pick 0=r0 at p0 h2;obtain ⟨o0,x0,k0⟩:=a0;obtain ⟨o1,x1,k1⟩:=a;simp only [Tm.op,Tm.kids] at o18 hl;subst o18 hl;obtain ⟨o2,x2,k2⟩:=r;obtain ⟨o3,x3,k3⟩:=v;obtain ⟨o4,x4,k4⟩:=x;obtain ⟨o5,x5,k5⟩:=d;obtain ⟨o8,x8,k8⟩:=r0;simp only [Tm.n,Tm.op] at h1 hw hw7;simp only [AK,Am,AhN,AhM] at h0 h1 h2 p0 t19 ⊢;cases is<;>by_cases hd0:(0:Int)<(e:Int) - 5<;>(simp only [↓Jz,↓XX,XY,↓reduceIte,seval,↓Ap h0,↓As h1,↓Af hw,↓Af hw7,hv,hd4,hd0,hna,↓Ej,↓Af p0,↓As h2,↓Du,↓Af t19];exact A4 rfl)
 have q1:a.op≠10:=fun h=>hpl (.inl h);have q2:a.op≠14:=fun h=>hpl (.inr (.inl h));have q3:a.op≠2:=fun h=>hpl (.inr (.inr h));refine ⟨v,is,⟨N0+N1+100,fun n hn=>?_⟩,tv⟩
 ·obtain ⟨n,rfl⟩:=psc n (by omega);have h0:=h0 n (by omega);have h1:=h1 n (by omega);have hw:=Av (n:=n) (by omega) r.op (m:=3) (by omega) (by omega);have hw7:=Av (n:=n) (by omega) r.op (m:=7) (by omega) (by omega);rw [jX];clear up hfn hG hO hA hP hg ha0 ha tv hpl;generalize r.op % 3=w3 at hw hv;generalize r.op % 7=w7 at hw7 hna;obtain ⟨o0,x0,k0⟩:=a0;obtain ⟨o1,x1,k1⟩:=a;obtain ⟨o2,x2,k2⟩:=r;obtain ⟨o4,x3,k3⟩:=v;simp only [Tm.n,Tm.op] at h1 hw hw7 o3 o6 o18 q1 q2 q3;simp only [AK,Am] at h0 h1 ⊢;cases is<;>by_cases hd0:(0:Int)<(e:Int) - 5<;>(simp only [↓Jz,↓XX,XY,↓reduceIte,seval,↓Ap h0,↓As h1,↓Af hw,↓Af hw7,hv,hd4,hd0,hna,o3,o6,o18,q1,q2,q3];exact A4 rfl)
theorem MN:∀e,e<=10->KV e/\Ed 30 1 e/\Ed 42 2 e:=by
 intro e
 induction e using Nat.strongRecOn with
 | _ e ih =>
  intro he;have hp:1<=e->KV (e - 1)/\Ed 30 1 (e - 1)/\Ed 42 2 (e - 1):=fun h=>ih (e - 1) (by omega) (by omega);have hp2:2<=e->KV (e - 2)/\Ed 30 1 (e - 2)/\Ed 42 2 (e - 2):=fun h=>ih (e - 2) (by omega) (by omega);have hT:KV e:=kK he (fun h=>(hp (by omega)).1) (fun h=>(hp (by omega)).2.1);have hT6:6<=e->KV 6:=fun h=>by
   by_cases h6:e=6
   ·exact h6 ▸ hT
   ·exact (ih 6 (by omega) (by omega)).1
  have hR:6<=e->On 67 3 e:=fun h=>aM h he (hT6 h) (hp2 (by omega)).2.1;have hP:1<=e->dM 68 3 e:=fun h=>Z0 h he (hp h).2.1 (fun h6=>(hp2 (by omega)).2.1);have hA:6<=e->On 72 4 e:=fun h=>Ya h he (hp2 (by omega)).2.2 (hp (by omega)).2.1;have hO:Ed 42 2 e:=Xy he (fun h=>(hp h).2.2) hA;exact ⟨hT,lD he (fun h=>(hp h).2.1) (fun h=>(hp h).2.2) hR hP,hO⟩
def Z3 (T1 T2:A6->Tm->Tm) (B1:A6->Tm->Bool) (g:A6) (r:Tm):A6:=if r.n % 3=0 then (if B1 g r then g++[(0,T1 g r)] else g) else g++[(1,T2 g r)]
def Ch (f:A6->Tm->A6) (l:List Tm):Nat->A6
 | 0=>[]
 | i+1=>match l[i]? with
  | some r=>f (Ch f l i) r
  | none=>Ch f l i
def gV:A6->IV
 | []=>.nils
 | p::g=>.fv (AK (p::g))
theorem nZ {g:A6} (h:g≠[]):gV g=.fv (AK g):=by
 cases g with
 | nil=>exact absurd rfl h
 | cons p g=>rfl
theorem tD (g:A6):gV g=.nils\/∃x,gV g=.fv x:=by
 cases g with
 | nil=>exact .inl rfl
 | cons p g=>exact .inr ⟨_,rfl⟩
theorem tS (g:A6) (own:List (Nat×Blk)):BA (Aj [gV g] ⟨own,[]⟩) (AK g):=by
 cases g with
 | nil=>exact Bn rfl _
 | cons p g=>exact Aw _ _
theorem tG (g:A6):Bc (gV g)=some (AK g):=by
 cases g with
 | nil=>rfl
 | cons p g=>rfl
theorem SB (l:List Tm) (hll:l.length<=9223372036854775807):∃g,Ev 28 [.fv (.sl (l.map Tm.enc))] (AK g)/\GOk 10 g/\g.length<=4/\CtxG g/\(l=[]->g=[]):=by
 have hc:∀p:A6×Tm,∃(t1 t2:Tm) (b1:Bool),GOk 10 p.1->Ev 30 [.fv (AK p.1),.fv (Tm.mk 14 0 []).enc,.fv p.2.enc,iv 2] (.tuple [Tm.enc t1,.bool b1])/\TG 1 7 p.1 (.mk 14 0 []) t1 b1/\Ev 29 [.fv (AK p.1),.fv p.2.enc,iv 2] (Tm.enc t2)/\TyOk p.1 7 t2:=by
  rintro ⟨g,r⟩;by_cases hg:GOk 10 g
  ·obtain ⟨hT,hG,_⟩:=MN 7 (by omega);obtain ⟨t1,b1,h1,h2⟩:=hG g (.mk 14 0 []) r (A8 (by omega) hg) ⟨De,by simp [Tm.wt,Tm.wtL],by simp [Tm.dp,Tm.dpL]⟩;obtain ⟨t2,h3,h4⟩:=hT g r (A8 (by omega) hg);exact ⟨t1,t2,b1,fun _=>⟨h1,h2,h3,h4⟩⟩
  ·exact ⟨.z,.z,false,fun h=>absurd h hg⟩
 obtain ⟨T1,hc⟩:=Classical.axiomOfChoice hc;obtain ⟨T2,hc⟩:=Classical.axiomOfChoice hc;obtain ⟨B1,hc⟩:=Classical.axiomOfChoice hc;obtain ⟨f,hf⟩:∃f,f=Z3 (fun g r=>T1 (g,r)) (fun g r=>T2 (g,r)) (fun g r=>B1 (g,r)):=⟨_,rfl⟩;have hD7:Dg 7=270:=rfl;have hD6:Dg 6=260:=rfl;have hW7:Wg 7=131072000:=rfl;have hW6:Wg 6=32768000:=rfl;have hstep:∀i,i<=4->GOk 10 (Ch f l i)/\(Ch f l i).length<=i/\CtxG (Ch f l i):=by
  intro i
  induction i with
  | zero=>intro _;exact ⟨⟨by simp [Ch],fun i p h=>by simp [Ch] at h⟩,by simp [Ch],.nil⟩
  | succ i ih =>
   intro h;obtain ⟨h1,h2,hcg⟩:=ih (by omega);rw [Ch];cases hr:l[i]? with
   | none=>simp only;exact ⟨h1,by omega,hcg⟩
   | some r =>
    simp only;generalize Ch f l i=g at h1 h2 hcg;obtain ⟨_,h4,_,h6⟩:=hc (g,r) h1;simp only at h4 h6;have h4s:=h4.sc;have h4w:=h4.wt;have h4d:=h4.dp;have h6s:=h6.sc;have h6w:=h6.wt;have h6d:=h6.dp;rw [show 7 - 1=6 from rfl] at h6w h6d
    have big:∀(s:Int) (t:Tm),t.sc g.length->t.wt<=100000000000->t.dp<=6000->GOk 10 (g++[(s,t)]):=by intro s t q1 q2 q3;have h11:GOk 11 g:=⟨by omega,h1.ok⟩;exact Dd h11 q1 q2 q3
    rw [hf,Z3];split
    ·split
     ·rename_i hb;exact ⟨big _ _ h4s (by omega) (by omega),by simp;omega,.ob g _ hcg (h4.gr hb)⟩
     ·exact ⟨h1,by omega,hcg⟩
    ·exact ⟨big _ _ h6s (by omega) (by omega),by simp;omega,.me g _ hcg ⟨h6s,by omega,by omega⟩ (by omega) h6.gr⟩
 obtain ⟨m,hm⟩:∃m,m=min l.length 4:=⟨_,rfl⟩;obtain ⟨N,hN⟩:=Y2 (P:=fun i n=>∀r,l[i]?=some r->BA (SS dt n 30 [.fv (AK (Ch f l i)),.fv (Tm.mk 14 0 []).enc,.fv r.enc,iv 2] ⟨[],[]⟩) (.tuple [Tm.enc (T1 (Ch f l i,r)),.bool (B1 (Ch f l i,r))])/\BA (SS dt n 29 [.fv (AK (Ch f l i)),.fv r.enc,iv 2] ⟨[],[]⟩) (Tm.enc (T2 (Ch f l i,r)))) m (fun i hi=>by
  have hil:i<l.length:=by omega
  obtain ⟨⟨N1,h1⟩,_,⟨N2,h2⟩,_⟩:=hc (Ch f l i,l[i]) (hstep i (by omega)).1;refine ⟨N1+N2,fun n hn r hr=>?_⟩;rw [List.getElem?_eq_getElem hil,AhH] at hr;subst hr;exact ⟨h1 n (by omega),h2 n (by omega)⟩)
 have hm4:=hstep m (by omega);refine ⟨Ch f l m,⟨N+100,fun n hn=>?_⟩,hm4.1,by omega,hm4.2.2,fun h=>by subst h;rw [hm];rfl⟩;obtain ⟨n,rfl⟩:=psc n (by omega);rw [c28];simp only [Sm,S8,S28,↓XX,XY,↓reduceIte,seval,↓AG,XD,heldB,AQ,XE];refine A9 (Q:=fun r=>BA r _) (fun k V H=>∃i:Nat,i+k=m/\V=[.fv (.sl (l.map Tm.enc)),gV (Ch f l i),iv i]/\H=⟨[],[]⟩)
  ?_ n m _ _ (by omega) ⟨0,by omega,rfl,rfl⟩
 rintro k V H rec ⟨i,hik,rfl,rfl⟩ hrec;have hi4:=hstep i (by omega);cases k with
 | zero =>
  have him:i=m:=by omega
  subst him;have ha:=fun own=>tS (Ch f l i) own;generalize gV (Ch f l i)=gv at ha;by_cases h1:(i:Int)<l.length
  ·have h4:¬ ((i:Int)<4):=by omega
   simp only [↓Q2,↓XX,XY,↓reduceIte,seval,h1,h4];exact ha _
  ·simp only [↓Q2,↓XX,XY,↓reduceIte,seval,h1];exact ha _
 | succ k =>
  have hil:i<l.length:=by omega
  have h1:(i:Int)<l.length:=by omega
  have h4:(i:Int)<4:=by omega
  have wi:BB ((i:Int)+1)=(i:Int)+1:=by rw [Ax]<;>omega
  obtain ⟨r,hr⟩:∃r,l[i]?=some r:=⟨_,List.getElem?_eq_getElem hil⟩;obtain ⟨g1,g2⟩:=hN i (by omega) n (by omega) r hr;have hw:=Av (n:=n) (by omega) r.n (m:=3) (by omega) (by omega);have t14:=AW (n:=n) (by omega) 14;have h9:=hrec k [.fv (.sl (l.map Tm.enc)),gV (Ch f l (i+1)),iv (i+1:Nat)] ⟨[],[]⟩ (by omega) ⟨i+1,by omega,rfl,rfl⟩;have hi1:((i+1:Nat):Int)=(i:Int)+1:=by omega
  rw [hi1,Ch,hr] at h9;simp only [hf,Z3] at h9;rw [<- hf] at h9;have hfz:=tG (Ch f l i);have htw:=tD (Ch f l i);have m1:=D0 (n:=n) (Ch f l i) 0 (T1 (Ch f l i,r)) (by omega) (by omega);have m2:=D0 (n:=n) (Ch f l i) 1 (T2 (Ch f l i,r)) (by omega) (by omega);have n1:=nZ (g:=Ch f l i++[((0:Int),T1 (Ch f l i,r))]) (by simp);have n2:=nZ (g:=Ch f l i++[((1:Int),T2 (Ch f l i,r))]) (by simp);generalize AK (Ch f l i++[((0:Int),T1 (Ch f l i,r))])=e1 at m1 n1;generalize AK (Ch f l i++[((1:Int),T2 (Ch f l i,r))])=e2 at m2 n2;clear hc hstep hN hi4 hm4;by_cases c0:r.n % 3=0
  ·rw [if_pos c0] at h9;rw [c0] at hw;cases hb:B1 (Ch f l i,r)
   ·rw [hb] at g1 h9;simp only [Bool.false_eq_true,if_false] at h9;generalize T1 (Ch f l i,r)=t1 at g1;generalize gV (Ch f l i)=gv at hfz h9 htw;generalize AK (Ch f l i)=ge at hfz g1;obtain ⟨o,p,ks⟩:=r;obtain ⟨o1,p1,k1⟩:=t1;simp only [Tm.n] at hw;simp only [Am,AhM] at g1 t14;have g1:=As (a:=gv) (b:=.fv (.agg [.int .i64 14,.int .i64 0,.sl []])) (c:=.fv (.agg [.int .i64 o,.int .i64 p,.sl (ks.map Tm.enc)])) (d:=iv 2) g1 hfz rfl rfl rfl;rcases htw with rfl | ⟨x0,rfl⟩
    ·simp only [↓Q2,↓XX,XY,↓reduceIte,seval,h1,h4,wi,↓Bp (AM hr) (Bi _ _ _),↓B6,↓Af hw,↓Af t14,↓g1,↓AG,XD,heldB,AQ,XE];exact h9
    ·simp only [↓Q2,↓XX,XY,↓reduceIte,seval,h1,h4,wi,↓Bp (AM hr) (Bi _ _ _),↓B6,↓Af hw,↓Af t14,↓g1,↓AG,XD,heldB,AQ,XE];exact h9
   ·rw [hb] at g1 h9;simp only [if_true] at h9;rw [n1] at h9;generalize T1 (Ch f l i,r)=t1 at g1 m1;generalize gV (Ch f l i)=gv at hfz htw;generalize AK (Ch f l i)=ge at hfz g1 m1;obtain ⟨o,p,ks⟩:=r;obtain ⟨o1,p1,k1⟩:=t1;simp only [Tm.n] at hw;simp only [Am,AhM] at g1 t14 m1;have g1:=As (a:=gv) (b:=.fv (.agg [.int .i64 14,.int .i64 0,.sl []])) (c:=.fv (.agg [.int .i64 o,.int .i64 p,.sl (ks.map Tm.enc)])) (d:=iv 2) g1 hfz rfl rfl rfl;have m1:=Au (a:=gv) (b:=iv 0) (c:=.fv (.agg [.int .i64 o1,.int .i64 p1,.sl (k1.map Tm.enc)])) m1 hfz rfl rfl;rcases htw with rfl | ⟨x0,rfl⟩
    ·simp only [↓Q2,↓XX,XY,↓reduceIte,seval,h1,h4,wi,↓Bp (AM hr) (Bi _ _ _),↓B6,↓Af hw,↓Af t14,↓g1,↓m1,↓AG,XD,heldB,AQ,XE];exact h9
    ·simp only [↓Q2,↓XX,XY,↓reduceIte,seval,h1,h4,wi,↓Bp (AM hr) (Bi _ _ _),↓B6,↓Af hw,↓Af t14,↓g1,↓m1,↓AG,XD,heldB,AQ,XE];exact h9
  ·rw [if_neg c0,n2] at h9;generalize T2 (Ch f l i,r)=t2 at g2 m2;generalize gV (Ch f l i)=gv at hfz htw;generalize AK (Ch f l i)=ge at hfz g2 m2;obtain ⟨o,p,ks⟩:=r;obtain ⟨o1,p1,k1⟩:=t2;simp only [Tm.n] at hw c0;generalize p % 3=w3 at hw c0;simp only [Am,AhM] at g2 m2;have g2:=Au (a:=gv) (b:=.fv (.agg [.int .i64 o,.int .i64 p,.sl (ks.map Tm.enc)])) (c:=iv 2) g2 hfz rfl rfl;have m2:=Au (a:=gv) (b:=iv 1) (c:=.fv (.agg [.int .i64 o1,.int .i64 p1,.sl (k1.map Tm.enc)])) m2 hfz rfl rfl;rcases htw with rfl | ⟨x0,rfl⟩
   ·simp only [↓Q2,↓XX,XY,↓reduceIte,seval,h1,h4,wi,c0,↓Bp (AM hr) (Bi _ _ _),↓B6,↓Af hw,↓g2,↓m2,↓AG,XD,heldB,AQ,XE];exact h9
   ·simp only [↓Q2,↓XX,XY,↓reduceIte,seval,h1,h4,wi,c0,↓Bp (AM hr) (Bi _ _ _),↓B6,↓Af hw,↓g2,↓m2,↓AG,XD,heldB,AQ,XE];exact h9
def bS (l:List Tm):Bool:=l.all (fun t=>decide (t.count 300<300)) && decide ((l.length:Int)<=6)
theorem i3 (l:List Tm) (hll:l.length<=9223372036854775807) {n:Nat} (hn:Tm.wtL l+10<n):BA (SS dt n 12 [.fv (.sl (l.map Tm.enc))] ⟨[],[]⟩) (.bool (bS l)):=by
 obtain ⟨n,rfl⟩:=psc n (by omega);rw [vV];simp only [KB,KD,vA,↓XX,XY,↓reduceIte,seval,↓AG,XD,heldB,AQ,XE];have hlw:=C3 l;refine A9 (Q:=fun r=>BA r _) (fun k V H=>∃pre rest,l=pre++rest/\rest.length=k/\V=[.fv (.sl (l.map Tm.enc)),iv pre.length]/\H=⟨[],[]⟩/\bS l=(rest.all (fun t=>decide (t.count 300<300)) && decide ((l.length:Int)<=6)))
  ?_ n l.length _ _ (by omega) ⟨[],l,rfl,rfl,rfl,rfl,rfl⟩
 rintro k V H rec ⟨pre,rest,hk,hl,rfl,rfl,ht⟩ hrec;have hkl:l.length=pre.length+rest.length:=by rw [hk];simp
 cases rest with
 | nil =>
  have hno:¬ ((pre.length:Int)<l.length):=by rw [hkl];simp
  rw [ht,List.all_nil,Bool.true_and];by_cases h6:(l.length:Int)<=6
  ·simp only [KB,KD,Ms,vA,↓XX,XY,↓reduceIte,seval,hno,h6];exact Aw _ _
  ·simp only [KB,KD,Ms,vA,↓XX,XY,↓reduceIte,seval,hno,h6];exact Aw _ _
 | cons x rest =>
  have hi:(pre.length:Int)<l.length:=by rw [hkl];simp;omega
  have hg2:=BY hk;have hxw:=B2 (t:=x) (l:=l) (by rw [hk];simp);obtain ⟨n,rfl⟩:=psc n (by omega);have hf:=Td (n:=n) x (by omega);have hwi:BB ((pre.length:Int)+1)=((pre++[x]).length:Int):=(Ax (by omega) (by simp at hkl;omega)).trans (by simp);rw [ht,List.all_cons];cases hx:decide (x.count 300<300)
  ·rw [hx] at hf;obtain ⟨o,p,ks⟩:=x;rw [Am] at hf;simp only [KB,KD,Ms,vA,↓XX,XY,↓reduceIte,seval,hi,↓Bp (AM hg2) (Bi _ _ _),↓B6,↓Ap hf];exact Aw _ _
  ·rw [hx] at hf;have h9:=hrec rest.length _ _ (by simp at hl;omega) ⟨pre++[x],rest,by rw [hk];simp,rfl,rfl,rfl,by rw [ht,List.all_cons,hx,Bool.true_and]⟩;rw [Bool.true_and];rw [ht,List.all_cons,hx,Bool.true_and] at h9;obtain ⟨o,p,ks⟩:=x;rw [Am] at hf;simp only [KB,KD,Ms,vA,↓XX,XY,↓reduceIte,seval,hi,↓Bp (AM hg2) (Bi _ _ _),↓B6,↓Ap hf,hwi];exact h9
structure CaseOk (g:A6) (a t:Tm) (is object:Bool):Prop where
 gok:GOk 10 g
 len:g.length<=4
 asc:a.sc g.length
 awt:a.wt<=32768010
 adp:a.dp<=300
 tsc:t.sc g.length
 tdp:t.dp<=300
 chk:is=true->(t.chk 0 1).2=0
 cg:CtxG g
 ga:object=false->Gr 0 7 g .z a
 gt:is=true->Gr (if object then 2 else 1) 10 g a t
 zt:is=false->t=.mk (if object then 25 else 11) 0 []
def jE (l:List Tm) (hll:l.length<=9223372036854775807) (r q:Tm) (object:Bool):∃g a t is,Ev 14 [.fv (.sl (l.map Tm.enc)),.fv r.enc,.fv q.enc,.fv (.bool object)] (.tuple [AK g,a.enc,t.enc,.bool is])/\CaseOk g a t is object/\(object=true->a=q.plainT 2)/\(l=[]->g=[]):=by
 obtain ⟨g,⟨N0,h0⟩,hg,hg4,hcg,hnil⟩:=SB l hll;have hW6:Wg 6=32768000:=rfl;have hD6:Dg 6=260:=rfl;have hW10:Wg 10=8388608000:=rfl;have hD10:Dg 10=300:=rfl;obtain ⟨_,hG,hO⟩:=MN 10 (by omega);cases object
 ·obtain ⟨hT,_,_⟩:=MN 7 (by omega);obtain ⟨a,⟨N1,h1⟩,ta⟩:=hT g q (A8 (by omega) hg);have aw:=ta.wt;have ad:=ta.dp;have asc:=ta.sc;rw [show 7 - 1=6 from rfl] at aw ad
  obtain ⟨t,b,⟨N2,h2⟩,tt⟩:=hG g a r hg ⟨asc,by omega,by omega⟩;have tw:=tt.wt;have ts:=tt.sc;have body:∀(t':Tm) (is:Bool),(is=true/\t'=t/\b=true/\(t.chk 0 1).2=0\/is=false/\t'=AT/\(b=false\/b=true/\(t.chk 0 1).2≠0))->Ev 14 [.fv (.sl (l.map Tm.enc)),.fv r.enc,.fv q.enc,.fv (.bool false)] (.tuple [AK g,a.enc,t'.enc,.bool is]):=by
   intro t' is hd;refine ⟨N0+N1+N2+100000000000+1,fun n hn=>?_⟩;obtain ⟨n,rfl⟩:=psc n (by omega);have h0:=h0 n (by omega);have h1:=h1 n (by omega);have h2:=h2 n (by omega);have hk:=Re (n:=n) t (by omega);have t11:=AW (n:=n) (by omega) 11;rw [c14];clear ta tt;generalize (t.chk 0 1).2=ck at hk hd;rw [show ((10:Nat):Int) - 5=5 from rfl] at h2
   rw [show ((7:Nat):Int) - 5=2 from rfl] at h1
   generalize AK g=ge at *;generalize (FV.sl (l.map Tm.enc))=le at *;rcases hd with ⟨rfl,rfl,rfl,rfl⟩ | ⟨rfl,rfl,hd⟩
   ·obtain ⟨o1,p1,k1⟩:=r;obtain ⟨o2,p2,k2⟩:=q;obtain ⟨o3,p3,k3⟩:=a;obtain ⟨o4,p4,k4⟩:=t';simp only [Am] at h1 h2 hk ⊢;simp only [↓X4,↓XX,XY,↓reduceIte,seval,↓Ap h0,↓Au h1,↓As h2,↓Ap hk];exact A4 rfl
   ·rw [AT];rcases hd with rfl | ⟨rfl,hd⟩
    ·obtain ⟨o1,p1,k1⟩:=r;obtain ⟨o2,p2,k2⟩:=q;obtain ⟨o3,p3,k3⟩:=a;obtain ⟨o4,p4,k4⟩:=t;simp only [Am,AhM] at h1 h2 hk t11 ⊢;simp only [↓X4,↓XX,XY,↓reduceIte,seval,↓Ap h0,↓Au h1,↓As h2,↓Ap hk,↓Af t11];exact A4 rfl
    ·obtain ⟨o1,p1,k1⟩:=r;obtain ⟨o2,p2,k2⟩:=q;obtain ⟨o3,p3,k3⟩:=a;obtain ⟨o4,p4,k4⟩:=t;simp only [Am,AhM] at h1 h2 hk t11 ⊢;simp only [↓X4,↓XX,XY,↓reduceIte,seval,hd,↓Ap h0,↓Au h1,↓As h2,↓Ap hk,↓Af t11];exact A4 rfl
  by_cases hb:b=true
  ·by_cases hc:(t.chk 0 1).2=0
   ·exact ⟨g,a,t,true,body t true (.inl ⟨rfl,rfl,hb,hc⟩),⟨hg,hg4,asc,by omega,by omega,ts,by have:=tt.dp;omega,fun _=>hc,hcg,fun _=>ta.gr,fun _=>tt.gr hb,fun h=>by cases h⟩,(fun h=>by cases h),hnil⟩
   ·exact ⟨g,a,AT,false,body AT false (.inr ⟨rfl,rfl,.inr ⟨hb,hc⟩⟩),⟨hg,hg4,asc,by omega,by omega,GR _,by decide,(fun h=>by cases h),hcg,fun _=>ta.gr,(fun h=>by cases h),fun _=>rfl⟩,(fun h=>by cases h),hnil⟩
  ·exact ⟨g,a,AT,false,body AT false (.inr ⟨rfl,rfl,.inl (by simpa using hb)⟩),⟨hg,hg4,asc,by omega,by omega,GR _,by decide,(fun h=>by cases h),hcg,fun _=>ta.gr,(fun h=>by cases h),fun _=>rfl⟩,(fun h=>by cases h),hnil⟩
 ·obtain ⟨a,ha⟩:∃a,a=q.plainT 2:=⟨_,rfl⟩;have asc:a.sc g.length:=ha ▸ Gg _ 2 q;have aw:a.wt<=20:=by have:=Fc 2 q;rw [<- ha] at this;simpa using Nat.le_trans this (by decide)
  have ad:a.dp<=300:=Nat.le_trans (Ea a) (by omega);obtain ⟨t,b,⟨N2,h2⟩,tt⟩:=hO g a r hg ⟨asc,by omega,by omega⟩;have tw:=tt.wt;have ts:=tt.sc;have body:∀(t':Tm) (is:Bool),(is=true/\t'=t/\b=true/\(t.chk 0 1).2=0\/is=false/\t'=.mk 25 0 []/\(b=false\/b=true/\(t.chk 0 1).2≠0))->Ev 14 [.fv (.sl (l.map Tm.enc)),.fv r.enc,.fv q.enc,.fv (.bool true)] (.tuple [AK g,a.enc,t'.enc,.bool is]):=by
   intro t' is hd;refine ⟨N0+N2+100000000000+1,fun n hn=>?_⟩;obtain ⟨n,rfl⟩:=psc n (by omega);have h0:=h0 n (by omega);have h1:=Ke 2 n q (by omega) (by omega);have h2:=h2 n (by omega);have hk:=Re (n:=n) t (by omega);have t25:=d9 (n:=n) (by omega) 0;rw [c14];rw [<- ha] at h1;clear tt ha;generalize (t.chk 0 1).2=ck at hk hd;rw [show ((10:Nat):Int) - 5=5 from rfl] at h2
   generalize AK g=ge at *;generalize (FV.sl (l.map Tm.enc))=le at *;rcases hd with ⟨rfl,rfl,rfl,rfl⟩ | ⟨rfl,rfl,hd⟩
   ·obtain ⟨o1,p1,k1⟩:=r;obtain ⟨o2,p2,k2⟩:=q;obtain ⟨o3,p3,k3⟩:=a;obtain ⟨o4,p4,k4⟩:=t';simp only [Am,Int.cast_ofNat_Int] at h1 h2 hk ⊢;simp only [↓X4,↓XX,XY,↓reduceIte,seval,↓Ap h0,↓Af h1,↓As h2,↓Ap hk];exact A4 rfl
   ·rcases hd with rfl | ⟨rfl,hd⟩
    ·obtain ⟨o1,p1,k1⟩:=r;obtain ⟨o2,p2,k2⟩:=q;obtain ⟨o3,p3,k3⟩:=a;obtain ⟨o4,p4,k4⟩:=t;simp only [Am,AhM,Int.cast_ofNat_Int] at h1 h2 hk t25 ⊢;simp only [↓X4,↓XX,XY,↓reduceIte,seval,↓Ap h0,↓Af h1,↓As h2,↓Ap hk,↓Ap t25];exact A4 rfl
    ·obtain ⟨o1,p1,k1⟩:=r;obtain ⟨o2,p2,k2⟩:=q;obtain ⟨o3,p3,k3⟩:=a;obtain ⟨o4,p4,k4⟩:=t;simp only [Am,AhM,Int.cast_ofNat_Int] at h1 h2 hk t25 ⊢;simp only [↓X4,↓XX,XY,↓reduceIte,seval,hd,↓Ap h0,↓Af h1,↓As h2,↓Ap hk,↓Ap t25];exact A4 rfl
  have is25:∀k,(Tm.mk 25 0 []).sc k:=fun k=>Hv (by decide) (by decide) (by rw [BQ];simp);by_cases hb:b=true
  ·by_cases hc:(t.chk 0 1).2=0
   ·exact ⟨g,a,t,true,body t true (.inl ⟨rfl,rfl,hb,hc⟩),⟨hg,hg4,asc,by omega,by omega,ts,by have:=tt.dp;omega,fun _=>hc,hcg,(fun h=>by cases h),fun _=>tt.gr hb,fun h=>by cases h⟩,(fun _=>ha),hnil⟩
   ·exact ⟨g,a,_,false,body _ false (.inr ⟨rfl,rfl,.inr ⟨hb,hc⟩⟩),⟨hg,hg4,asc,by omega,by omega,is25 _,by decide,(fun h=>by cases h),hcg,(fun h=>by cases h),(fun h=>by cases h),fun _=>rfl⟩,(fun _=>ha),hnil⟩
  ·exact ⟨g,a,_,false,body _ false (.inr ⟨rfl,rfl,.inl (by simpa using hb)⟩),⟨hg,hg4,asc,by omega,by omega,is25 _,by decide,(fun h=>by cases h),hcg,(fun h=>by cases h),(fun h=>by cases h),fun _=>rfl⟩,(fun _=>ha),hnil⟩
def uN {t:Tm} (h:(t.chk 0 1).2=0):t.wt<=3000/\(t.chk 0 1).1=t.wt:=by
 have:=(NU t 0 1 (by omega)).2.2 h
 omega
def AaC {G:List Nat} {t u:Tm} {s k f:Nat} (ht:HasT G t s) (hsc:t.sc k) (hk:k<=100000) (hw:t.wt<=3000) (h:AH f t=some (u,0)):Ev 82 [.fv t.enc] (.tuple [u.enc,.int .i64 0]):=by obtain ⟨F,hF⟩:=Zj (X1 ht k hsc (by omega)) hw (Kq t k hsc) h;exact ⟨F+10000,fun n hn=>fA (f:=F) (hF F (Nat.le_refl _)) (by omega) (by omega) (by omega)⟩
def eR {G:List Nat} {t u:Tm} {s k f:Nat} (ht:HasT G t s) (hs:t.sc k) (hk:k<=100000) (hw:t.wt<=3000) (h:AH f t=some (u,0)):PN t u:=AaC ht hs hk hw h
def Abr {G:List Nat} {t:Tm} {s k:Nat} (h:NfT G t s) (he:Es s) (hs:t.sc k) (hk:k<=1000) (hw:t.wt<=3001):PE t:=⟨2 * t.wt+30,fun n hn=>by
 have:=gQ (n:=n) hs (by omega) (by omega)
 rwa [MF h he] at this⟩
def oF {G:List Nat} {X Y:Tm} {s k f:Nat} (h:HasT G X s) (hs:X.sc k) (hk:k<=1000) (hw:X.wt<=3000) (hn:AH f X=some (Y,0)):NX k X Y:=by
 refine ⟨hs,by have:=Ea X;omega,fun f' u hu=>?_⟩
 have:=CN hu hn
 simp only [AhI,and_true] at this;exact ⟨this,eR h hs (by omega) hw hn⟩
def Mk {G:List Nat} {X:Tm} {s k:Nat} (h:HasT G X s) (hst:X.stl) (hs:X.sc k) (hk:k<=1000) (hw:X.wt<=10000):NX k X X:=by
 have hd:X.dp<=20000:=by have:=Ea X;omega
 refine ⟨hs,hd,fun f u hu=>?_⟩;have e:=AL hst hs (by omega) hu;subst e;obtain ⟨f',v,e,q1,q2⟩:=IF (k:=k) (by omega) hs (by have:=Xh u;omega);have q3:=CN hu q1;simp only [AhI] at q3;obtain ⟨rfl,rfl⟩:=q3;have hw2:u.wt<=3000:=by rcases q2 with q2 | q2<;>omega
 exact ⟨rfl,eR h hs (by omega) hw2 hu⟩
def C9 {G:List Nat} {A:Tm} {s k:Nat} (h:NfT G A s) (he:Es s) (hs:A.sc k) (hk:k<=1000) (hw:A.wt<=3001):TX k A:=⟨Mk (AV h) (BU h) hs hk (by omega),Abr h he hs hk hw,hw⟩
def vJ (G:List Nat):NfT G natT 10:=Em (ht0 .natT) (Dh _ _)
def Abk (G:List Nat):NfT G tyT 11:=Em (ht0 .tyT) (Dh _ _)
def rN (G:List Nat):NfT G Er 1:=Em (ht0 .tint) (Dh _ _)
def EN (k:Nat):natT.sc k:=De
def Ge (k:Nat):tyT.sc k:=De
def FD (k:Nat):Er.sc k:=De
def F8 {k:Nat} (hk:k<=1000):TX k natT:=C9 (vJ []) (.inr (.inr (.inr (by omega)))) (EN k) hk (by simp [natT,Tm.wt,Tm.wtL])
def FC {k:Nat} (hk:k<=1000):TX k tyT:=C9 (Abk []) (.inr (.inr (.inr (by omega)))) (Ge k) hk (by simp [tyT,Tm.wt,Tm.wtL])
def TH {k:Nat} (hk:k<=1000):TX k Er:=C9 (rN []) (.inr (.inl rfl)) (FD k) hk (by simp [Er,Tm.wt,Tm.wtL])
def Mr {x:Tm} {k:Nat} (ho:J3 x.op=some 0) (hs:x.sc k):x=natT:=by
 have ho:x.op=10:=by
  unfold J3 at ho
  repeat' (split at ho)
  all_goals first | assumption | (simp at ho;done) | omega
 obtain ⟨op,n,ks⟩:=x;simp only [Tm.op] at ho;subst ho;rw [Tm.sc,if_neg (by decide)] at hs;have hk:ks=[]:=List.eq_nil_of_length_eq_zero (Option.some.inj (hs.1.symm.trans (show ar 10=some 0 from rfl)))
 have hn:n=0:=by have:=hs.2.1;rw [BQ,if_neg (by decide),if_neg (by decide),if_neg (by decide)] at this;exact this
 subst hk;subst hn;rfl
def R3 {x:Tm} {k:Nat} (ho:J3 x.op=some 1) (hs:x.sc k):x=tyT:=by
 have ho:x.op=14:=by
  unfold J3 at ho
  repeat' (split at ho)
  all_goals first | assumption | (simp at ho;done) | omega
 obtain ⟨op,n,ks⟩:=x;simp only [Tm.op] at ho;subst ho;rw [Tm.sc,if_neg (by decide)] at hs;have hk:ks=[]:=List.eq_nil_of_length_eq_zero (Option.some.inj (hs.1.symm.trans (show ar 14=some 0 from rfl)))
 have hn:n=0:=by have:=hs.2.1;rw [BQ,if_neg (by decide),if_neg (by decide),if_neg (by decide)] at this;exact this
 subst hk;subst hn;rfl
def eY {G:List Nat} {x:Tm} {k:Nat} (h:HasT G x 10) (hs:x.sc k):x=natT:=Mr (BV (s:=0) h).1 hs
def oI {G:List Nat} {x:Tm} {k:Nat} (h:HasT G x 11) (hs:x.sc k):x=tyT:=R3 (BV (s:=1) h).1 hs
structure CtxX (g:A6) (G:List Nat):Prop where
 ok:∀i st T,i<g.length->g[g.length - 1 - i]?=some (st,T)->T.sc (g.length - 1 - i)/\T.wt<=3000/\(∃D σ,Es σ/\HasT D T σ/\D.length<=1000)/\∀s,G[i]?=some s->(s=0->st=1/\∃f,AH f T=some (natT,0))/\(s=1->st=1/\∃f,AH f T=some (tyT,0))
def bD:CtxX [] []:=⟨fun i st T h=>by simp at h⟩
theorem H3 {g:A6} {G:List Nat} (h:CtxX g G) {st:Int} {T:Tm} {s:Nat} (h1:T.sc g.length) (h2:T.wt<=3000) (h4:∃D σ,Es σ/\HasT D T σ/\D.length<=1000) (h5:(s=0->st=1/\∃f,AH f T=some (natT,0))/\(s=1->st=1/\∃f,AH f T=some (tyT,0))):CtxX (g++[(st,T)]) (s::G):=by
 have hl:(g++[(st,T)]).length=g.length+1:=by simp
 refine ⟨fun i st' U hi hg=>?_⟩;rw [hl] at hi hg ⊢;cases i with
 | zero =>
  rw [List.getElem?_append_right (by omega),show g.length+1 - 1 - 0 - g.length=0 by omega] at hg
  simp only [List.getElem?_cons_zero,AhH,AhI] at hg;obtain ⟨rfl,rfl⟩:=hg;refine ⟨by rw [show g.length+1 - 1 - 0=g.length by omega];exact h1,h2,h4,fun s' hs'=>?_⟩
  simp only [List.getElem?_cons_zero,AhH] at hs';subst hs';exact h5
 | succ i =>
  rw [List.getElem?_append_left (by omega),show g.length+1 - 1 - (i+1)=g.length - 1 - i by omega] at hg
  obtain ⟨q1,q2,q3,q4⟩:=h.ok i st' U (by omega) hg;refine ⟨by rw [show g.length+1 - 1 - (i+1)=g.length - 1 - i by omega];exact q1,q2,q3,fun s' hs'=>?_⟩
  rw [List.getElem?_cons_succ] at hs';exact q4 s' hs'
def Dj {g:A6} {G:List Nat} (h:CtxX g G) (hl:G.length<=1000) {T:Tm} {s:Nat} (hT:HasT G T (10+s)) (h1:T.sc g.length) (h2:T.wt<=3000):CtxX (g++[(1,T)]) (s::G):=by
 refine H3 h h1 h2 ⟨G,10+s,.inr (.inr (.inr (by omega))),hT,hl⟩ ⟨fun h0=>?_,fun h0=>?_⟩
 ·subst h0;rw [eY hT h1];exact ⟨rfl,EH (Dh _ _) (EN 0) (by omega) (by simp [natT,Tm.wt,Tm.wtL]) (by simp [natT,Tm.dp,Tm.dpL])⟩
 ·subst h0;rw [oI hT h1];exact ⟨rfl,EH (Dh _ _) (Ge 0) (by omega) (by simp [tyT,Tm.wt,Tm.wtL]) (by simp [tyT,Tm.dp,Tm.dpL])⟩
def Jl {g:A6} {G:List Nat} (h:CtxX g G) (hl:G.length<=1000) {T:Tm} (hT:HasT G T 1) (h1:T.sc g.length) (h2:T.wt<=3000):CtxX (g++[(0,T)]) (6::G) :=H3 h h1 h2 ⟨G,1,.inr (.inl rfl),hT,hl⟩ ⟨fun h0=>by omega,fun h0=>by omega⟩
def Ln {T w:Tm} {k f:Nat} (hk:k<=1000) (h1:T.sc k) (h2:T.dp<=20000) (h:AH f T=some (w,0)):NOk k w:=by
 obtain ⟨f',u,e,hf',c⟩:=IF (k:=k) (by omega) h1 (by have:=Xh T;omega)
 have:=CN h hf'
 simp only [AhI] at this;obtain ⟨rfl,rfl⟩:=this;rcases c with c | c
 ·exact ⟨c.2.1,c.2.2.1,c.2.2.2⟩
 ·omega
def jQ {g:A6} {G:List Nat} (h:CtxT g G) (hK:CtxX g G) (hl:G.length<=1000) (hgl:g.length<=1000) {T:Tm} (hT:HasT G T 2) (hv:T.vb) (h1:T.sc g.length) (h2:T.wt<=3000):∃s,s<10/\CtxT (g++[(1,T)]) (s::G)/\CtxX (g++[(1,T)]) (s::G):=by
 have hne:∀f w,AH f T=some (w,0)->w.op≠4/\w.op≠7:=by
  intro f w hw
  have:=Ck hw hT
  cases this with
  | var=>simp only [Tm.op];omega
  | node _ op n ks _ sg hr =>simp only [Tm.op];cases hr<;>decide
 have hD:∃D σ,Es σ/\HasT D T σ/\D.length<=1000:=⟨G,2,.inr (.inr (.inl rfl)),hT,hl⟩;by_cases hex:∃f w s,AH f T=some (w,0)/\J3 w.op=some s
 ·obtain ⟨f,w,s,hw,hs⟩:=hex;have hlt:=bO hs;have wsc:=(Ln hgl h1 (by have:=Ea T;omega) hw).sc;refine ⟨s,by omega,Fb h 1 T s (by omega) (by omega) (fun _=>⟨hv,fun f' w' hw'=>⟨(hne f' w' hw').1,(hne f' w' hw').2,fun τ hτ=>?_⟩⟩),H3 hK h1 h2 hD ⟨fun h0=>⟨rfl,f,?_⟩,fun h0=>⟨rfl,f,?_⟩⟩⟩
  ·have:=CN hw hw'
   simp only [AhI,and_true] at this;subst this;rw [hs] at hτ;exact Option.some.inj hτ
  ·subst h0;rw [<- Mr hs wsc];exact hw
  ·subst h0;rw [<- R3 hs wsc];exact hw
 ·exact ⟨7,by omega,Fb h 1 T 7 (by omega) (by omega) (fun _=>⟨hv,fun f' w' hw'=>⟨(hne f' w' hw').1,(hne f' w' hw').2,fun τ hτ=>absurd ⟨f',w',τ,hw',hτ⟩ hex⟩⟩),H3 hK h1 h2 hD ⟨fun h0=>by omega,fun h0=>by omega⟩⟩
def q_v {g:A6} {G:List Nat} (hX:CtxX g G) (hk:g.length<=1000) {st:Int} {i:Nat} {T A:Tm} {f:Nat} (hi:i<g.length) (hg:g[g.length - 1 - i]?=some (st,T)) (hn:AH f (T.shift ((i+1:Nat):Int) 0)=some (A,0)):QI g st (.mk 1 i []) A:=by
 obtain ⟨q1,q2,⟨D,σ,_,hD,hl⟩,_⟩:=hX.ok i st T hi hg;have hs:=FK hD (List.replicate (i+1) 0) (by rw [List.length_replicate];omega);rw [List.length_replicate] at hs;have hsc:=CM T (i+1) 0 _ q1 (by omega);rw [show g.length - 1 - i+(i+1)=g.length by omega,show ((0:Nat):Int)=0 from rfl] at hsc
 exact oO hi hk hg q1 (by omega) (oF hs hsc hk (by rw [Bj];exact q2) hn)
def zB {g:A6} {G:List Nat} (hX:CtxX g G) (hk:g.length<=1000) {i:Nat} {T A:Tm} {f:Nat} (hi:i<g.length) (hg:g[g.length - 1 - i]?=some (1,T)) (hn:AH f T=some (A,0)) (hA:∀d:Int,A.shift d 0=A):QI g 1 (.mk 1 i []) A:=by
 obtain ⟨q1,q2,⟨D,σ,_,hD,hl⟩,_⟩:=hX.ok i 1 T hi hg;have hsc:=CM T (i+1) 0 _ q1 (by omega);rw [show g.length - 1 - i+(i+1)=g.length by omega,show ((0:Nat):Int)=0 from rfl] at hsc
 have hs:=FK hD (List.replicate (i+1) 0) (by rw [List.length_replicate];omega);rw [List.length_replicate] at hs;refine oO hi hk hg q1 (by omega) ⟨hsc,by rw [DC];have:=Ea T;omega,fun f' u hu=>?_⟩;obtain ⟨u0,h1,h2⟩:=NV (by omega) hu (Jk T _ q1 (by omega))
 have:=CN h1 hn
 simp only [AhI,and_true] at this;subst this;rw [hA] at h2;subst h2;exact ⟨rfl,eR hs hsc (by omega) (by rw [Bj];exact q2) hu⟩
def CZ (g:A6) (x:Int×Tm):(g++[x]).length=g.length+1:=by simp
def S0 {a b:Int} (h1:0<=a/\a<=1) (h2:0<=b/\b<=1):0<=(if a<b then b else a)/\(if a<b then b else a)<=1:=by split<;>omega
def ZA {u:Tm} {k:Nat} {n:Int} (h:FT (.mk 2 n [])):n=0:=by
 rcases h with (h | ⟨op',d',c',_,hd,hc,h⟩ | ⟨p,_,h⟩) | ⟨op',d',c',_,hd,hc,h⟩ | h
 ·rcases h with h | h | h | ⟨p,_,h⟩<;>simp only [Tm.mk.injEq] at h<;>omega
 ·simp only [Tm.mk.injEq] at h;omega
 ·simp only [Tm.mk.injEq] at h;omega
 ·simp only [Tm.mk.injEq] at h;omega
 ·simp only [Tm.op] at h;omega
theorem tW {G:List Nat} {u:Tm} {s:Nat} (h:NfT G u s):∀g,CtxX g G->G.length=g.length->u.sc g.length->g.length+2 * u.dp<=800->u.wt<=3000->(s=0->QI g 1 u natT)/\(s=1->QI g 1 u tyT)/\(10<=s->FT u->∃m,(0<=m/\m<=1)/\QI g 1 u (.mk 2 m [])):=by
 induction h with
 | var G n s h0 h hs =>
  intro g hX hG hsc hd hw3;rw [Tm.sc,if_pos rfl] at hsc;simp only [Tm.dp,Tm.dpL] at hd;have hi:n.toNat<g.length:=by omega
  obtain ⟨T,hT⟩:∃p,g[g.length - 1 - n.toNat]?=some p:=⟨_,List.getElem?_eq_getElem (by omega)⟩;obtain ⟨st,T⟩:=T;obtain ⟨_,_,_,q4⟩:=hX.ok _ _ _ hi hT;obtain ⟨q5,q6⟩:=q4 s h;rw [show n=((n.toNat:Nat):Int) by omega]
  refine ⟨fun h0=>?_,fun h0=>?_,fun h0=>by omega⟩
  ·obtain ⟨rfl,f,hf⟩:=q5 h0;exact zB hX (by omega) hi hT hf fun d=>Fy (.inl rfl) d 0
  ·obtain ⟨rfl,f,hf⟩:=q6 h0;exact zB hX (by omega) hi hT hf fun d=>Fy (.inr (.inl rfl)) d 0
 | node G op n ks s sg hr hl hst hk ih =>
  intro g hX hG hsc hd hw3;have o1:=(EC hr).1;rw [Tm.sc,if_neg o1] at hsc;simp only [Tm.wt] at hw3;simp only [Tm.dp] at hd;have hgl:g.length<=800:=by omega
  cases hr with
  | natT =>obtain rfl:=List.eq_nil_of_length_eq_zero hl;exact ⟨by omega,by omega,fun _ _=>⟨0,by omega,Rh _ _⟩⟩
  | tyT =>obtain rfl:=List.eq_nil_of_length_eq_zero hl;exact ⟨by omega,by omega,fun _ _=>⟨0,by omega,lU _ _⟩⟩
  | uT =>
   obtain rfl:=List.eq_nil_of_length_eq_zero hl;refine ⟨by omega,by omega,fun _ hf=>⟨1,by omega,?_⟩⟩
   have:=ZA (u:=natT) (k:=0) hf
   subst this;exact oN g (m:=0) (by omega)
  | liftT =>obtain ⟨x,rfl⟩:=Fk hl;simp only [Tm.wtL,Tm.dpL] at hd hw3;have q:=(ih 0 x [] 1 rfl rfl g hX hG hsc.2.2.1 (by omega) (by omega)).2.1 rfl;exact ⟨by omega,by omega,fun _ _=>⟨0,by omega,O0 _ (Dp (by omega) q (FC (by omega)))⟩⟩
  | piT a b ha hb =>obtain ⟨x,y,rfl⟩:=Q5 hl;simp only [Tm.wtL,Tm.dpL] at hd hw3;refine ⟨by omega,by omega,fun _ hf=>?_⟩;obtain ⟨f1,f2⟩:=PS (.inl rfl) hf;have xsc:x.sc g.length:=hsc.2.2.1;obtain ⟨m1,b1,q1⟩:=(ih 0 x [] (10+a) rfl rfl g hX hG xsc (by omega) (by omega)).2.2 (by omega) (Np f1);have hX2:=Dj hX (by omega) (AV (hk 0 x [] (10+a) rfl rfl)) xsc (by omega);obtain ⟨m2,b2,q2⟩:=(ih 1 y [a] (10+b) rfl rfl _ hX2 (by rw [CZ];simp [hG]) (by rw [CZ];exact hsc.2.2.2.1) (by rw [CZ];omega) (by omega)).2.2 (by omega) (Np f2);exact ⟨_,S0 b1 b2,ZD _ (.inl rfl) (by omega) (YB q1) (YB q2)⟩
  | sigT a b ha hb =>obtain ⟨x,y,rfl⟩:=Q5 hl;simp only [Tm.wtL,Tm.dpL] at hd hw3;refine ⟨by omega,by omega,fun _ hf=>?_⟩;obtain ⟨f1,f2⟩:=PS (.inr rfl) hf;have xsc:x.sc g.length:=hsc.2.2.1;obtain ⟨m1,b1,q1⟩:=(ih 0 x [] (10+a) rfl rfl g hX hG xsc (by omega) (by omega)).2.2 (by omega) (Np f1);have hX2:=Dj hX (by omega) (AV (hk 0 x [] (10+a) rfl rfl)) xsc (by omega);obtain ⟨m2,b2,q2⟩:=(ih 1 y [a] (10+b) rfl rfl _ hX2 (by rw [CZ];simp [hG]) (by rw [CZ];exact hsc.2.2.2.1) (by rw [CZ];omega) (by omega)).2.2 (by omega) (Np f2);exact ⟨_,S0 b1 b2,ZD _ (.inr rfl) (by omega) (YB q1) (YB q2)⟩
  | zero =>obtain rfl:=List.eq_nil_of_length_eq_zero hl;exact ⟨fun _=>SP _ _,by omega,by omega⟩
  | suc =>obtain ⟨x,rfl⟩:=Fk hl;simp only [Tm.wtL,Tm.dpL] at hd hw3;have q:=(ih 0 x [] 0 rfl rfl g hX hG hsc.2.2.1 (by omega) (by omega)).1 rfl;exact ⟨fun _=>dP _ (Dp (by omega) q (F8 (by omega))),by omega,by omega⟩
  | recR s hs =>
   obtain ⟨p,z,w,k,rfl⟩:=TQ hl;simp only [Tm.wtL,Tm.dpL] at hd hw3;obtain ⟨_,_,psc,zsc,wsc,ksc,_⟩:=hsc;have hk0:=AV (hk 0 p [0] (10+s) rfl rfl);have ihz:=ih 1 z [] s rfl rfl g hX hG zsc (by omega) (by omega);have ihk:=(ih 3 k [] 0 rfl rfl g hX hG ksc (by omega) (by omega)).1 rfl;have hX1:=Dj (T:=natT) (s:=0) hX (by omega) (ht0 (.natT)) (EN _) (by simp [natT,Tm.wt,Tm.wtL]);have l1:=CZ g (1,natT);refine ⟨fun h0=>?_,fun h0=>?_,by omega⟩
   ·subst h0;have e:=eY hk0 psc;subst e;have hX2:=Dj (T:=natT) (s:=0) hX1 (by simp;omega) (ht0 (.natT)) (EN _) (by simp [natT,Tm.wt,Tm.wtL]);have l2:=CZ (g++[(1,natT)]) (1,natT);have ihw:=(ih 2 w [0,0] 0 rfl rfl _ hX2 (by rw [l2,l1];simp [hG]) (by rw [l2,l1];exact wsc) (by rw [l2,l1];omega) (by omega)).1 rfl;exact bH _ (.inl rfl) (by omega) (F8 (by omega)).n ksc (by omega) (Dp (by omega) (ihz.1 rfl) (F8 (by omega))) (Dp (by rw [l2,l1];omega) ihw (F8 (by rw [l2,l1];omega))) (Dp (by omega) ihk (F8 (by omega)))
   ·subst h0;have e:=oI hk0 psc;subst e;have hX2:=Dj (T:=tyT) (s:=1) hX1 (by simp;omega) (ht0 (.tyT)) (Ge _) (by simp [tyT,Tm.wt,Tm.wtL]);have l2:=CZ (g++[(1,natT)]) (1,tyT);have ihw:=(ih 2 w [1,0] 1 rfl rfl _ hX2 (by rw [l2,l1];simp [hG]) (by rw [l2,l1];exact wsc) (by rw [l2,l1];omega) (by omega)).2.1 rfl;exact bH _ (.inr rfl) (by omega) (FC (by omega)).n ksc (by omega) (Dp (by omega) (ihz.2.1 rfl) (FC (by omega))) (Dp (by rw [l2,l1];omega) ihw (FC (by rw [l2,l1];omega))) (Dp (by omega) ihk (F8 (by omega)))
  | tint =>obtain rfl:=List.eq_nil_of_length_eq_zero hl;exact ⟨by omega,fun _=>Sl _ _,by omega⟩
  | tfun =>obtain ⟨x,y,rfl⟩:=Q5 hl;simp only [Tm.wtL,Tm.dpL] at hd hw3;have q1:=(ih 0 x [] 1 rfl rfl g hX hG hsc.2.2.1 (by omega) (by omega)).2.1 rfl;have q2:=(ih 1 y [] 1 rfl rfl g hX hG hsc.2.2.2.1 (by omega) (by omega)).2.1 rfl;exact ⟨by omega,fun _=>TA _ (.inl rfl) (Dp (by omega) q1 (FC (by omega))) (Dp (by omega) q2 (FC (by omega))),by omega⟩
  | tpro =>obtain ⟨x,y,rfl⟩:=Q5 hl;simp only [Tm.wtL,Tm.dpL] at hd hw3;have q1:=(ih 0 x [] 1 rfl rfl g hX hG hsc.2.2.1 (by omega) (by omega)).2.1 rfl;have q2:=(ih 1 y [] 1 rfl rfl g hX hG hsc.2.2.2.1 (by omega) (by omega)).2.1 rfl;exact ⟨by omega,fun _=>TA _ (.inr rfl) (Dp (by omega) q1 (FC (by omega))) (Dp (by omega) q2 (FC (by omega))),by omega⟩
  | natU=>exact ⟨by omega,by omega,by omega⟩
  | tyU=>exact ⟨by omega,by omega,by omega⟩
  | uU=>exact ⟨by omega,by omega,by omega⟩
  | liftU=>exact ⟨by omega,by omega,by omega⟩
  | piU=>exact ⟨by omega,by omega,by omega⟩
  | sigU=>exact ⟨by omega,by omega,by omega⟩
  | lam=>exact ⟨by omega,by omega,by omega⟩
  | pair=>exact ⟨by omega,by omega,by omega⟩
  | quo=>exact ⟨by omega,by omega,by omega⟩
  | spl=>exact ⟨by omega,by omega,by omega⟩
  | olam=>exact ⟨by omega,by omega,by omega⟩
  | oapp=>exact ⟨by omega,by omega,by omega⟩
  | opair=>exact ⟨by omega,by omega,by omega⟩
  | ofst=>exact ⟨by omega,by omega,by omega⟩
  | osnd=>exact ⟨by omega,by omega,by omega⟩
  | oint=>exact ⟨by omega,by omega,by omega⟩
  | oprim=>exact ⟨by omega,by omega,by omega⟩
  | oif=>exact ⟨by omega,by omega,by omega⟩
  | olet=>exact ⟨by omega,by omega,by omega⟩
  | ofix=>exact ⟨by omega,by omega,by omega⟩
def Ol {G:List Nat} {a:Tm} {s:Nat} (h:NfT G a s) (x:Nat) (hb:G.length+2 * a.wt<=100000000):NfT (x::G) (a.shift 1 0) s:=by
 have:=FK (AV h) [x] (by simp only [AhL,List.length_nil];omega)
 exact Em (by simpa using this) (Tc _ _ _ (BU h))
def Ks {k:Nat} {a:Tm} (h:NOk k a) (hk:k<=1000):NOk (k+1) (a.shift 1 0):=⟨CM _ 1 0 _ h.sc (by have:=h.wt;omega),by rw [Bj];exact h.wt,by rw [DC];exact h.dp⟩
def qt {G:List Nat} {a:Tm} {s:Nat} {g:A6} (h:NfT G a (10+s)) (hX:CtxX g G) (hG:G.length=g.length) (hok:NOk g.length a) (hl:g.length<=500) (hf:FT a):∃m,(0<=m/\m<=1)/\QL g a m:=by
 have:=hok.dp
 obtain ⟨m,h1,h2⟩:=(tW h g hX hG hok.sc (by omega) hok.wt).2.2 (by omega) hf;exact ⟨m,h1,YB h2⟩
def qo {G:List Nat} {a:Tm} {g:A6} (h:NfT G a 1) (hX:CtxX g G) (hG:G.length=g.length) (hok:NOk g.length a) (hl:g.length<=500):QC g 1 a tyT:=by
 have:=hok.dp
 exact Dp (by omega) ((tW h g hX hG hok.sc (by omega) hok.wt).2.1 rfl) (FC (by omega))
def Ra {k:Nat} {a:Tm} (h:a.sc k) (hw:a.wt<=100):NOk k a:=⟨h,by omega,by have:=Ea a;omega⟩
def K4 {s:Nat}:Es (10+s):=.inr (.inr (.inr (by omega)))
def nO {G:List Nat} {a0 a:Tm} {s k f:Nat} (h:FT a0) (hT:HasT G a0 (10+s)) (hs:a0.sc k) (hk:k<=1000) (hn:AH f a0=some (a,0)):FT a:=by
 rcases h with h | ⟨op,x,y,ho,hx,hy,rfl⟩ | h
 ·have:=AL (DG h) hs (by have:=Fu h;omega) hn
  subst this;exact .inl h
 ·have:=AL (mH (by omega) (DG hx) (DG hy)) hs (by have:=Fu hx;have:=Fu hy;rw [D5];omega) hn
  subst this;exact .inr (.inl ⟨op,x,y,ho,hx,hy,rfl⟩)
 ·have h1:=(BV hT).1;rw [h] at h1;have h2:=(BV (AV (Ck hn hT))).1;rw [<- h1] at h2;refine .inr (.inr ?_);unfold J3 at h2
  repeat' (split at h2)
  all_goals first | assumption | (simp at h2;done) | omega
theorem nQ {g:A6} (hg:g.length<=1000):∀j,QI g 1 (GC j) natT
 | 0=>SP _ _
 | j+1=>dP _ (Dp hg (nQ hg j) (F8 hg))
def LA {op n:Int} {x y:Tm} (ho:op=3\/op=6\/op=16\/op=17\/op=18) (hx:x.stl) (hy:y.stl):(Tm.mk op n [x,y]).stl:=mH (by omega) hx hy
def Ob {op n:Int} {ks:List Tm} {k:Nat} (h:(Tm.mk op n ks).sc k) (h1:op≠1) (h2:op≠2) (h26:op≠26) (h25:op≠25):n=0:=by
 rw [Tm.sc,if_neg h1] at h
 have:=h.2.1
 rw [BQ,if_neg h2,if_neg h26,if_neg h25] at this;exact this
def VD {a:Tm} {k:Nat} (ha:a.op=2) (hs:a.sc k) (hf:FT a):a=.mk 2 0 []:=by
 obtain ⟨op,m,ks⟩:=a;simp only [Tm.op] at ha;subst ha;have hk:ks=[]:=by rw [Tm.sc] at hs;exact List.eq_nil_of_length_eq_zero (Option.some.inj (hs.1.symm.trans (show ar 2=some 0 from rfl)))
 subst hk;rw [ZA (u:=natT) (k:=0) hf]
def R7 {a:Tm} {o:Int} {k:Nat} (h:a.sc k) (ho:a.op=o) (har:ar o=some 0) (h1:o≠1) (h2:o≠2) (h26:o≠26) (h25:o≠25):a=.mk o 0 []:=by
 obtain ⟨op,m,ks⟩:=a;simp only [Tm.op] at ho;subst ho
 have:=Ob h h1 h2 h26 h25
 subst this;rw [Tm.sc,if_neg h1] at h;have hk:ks=[]:=List.eq_nil_of_length_eq_zero (Option.some.inj (h.1.symm.trans har));rw [hk]
theorem gG {κ e:Nat} {g:A6} {a t:Tm} (h:Gr κ e g a t):∀G,CtxT g G->CtxX g G->t.sc g.length->t.wt<=3000 ->
  (κ=0->g.length<=100->∃m,(0<=m/\m<=1)/\QI g 1 t (.mk 2 m [])) /\
  (κ=1->∀s,HasT G a (10+s)->a.sc g.length->FT a->∃f A,AH f a=some (A,0)/\QI g 1 t A) /\
  (κ=2->HasT G a 1->a.sc g.length->∃f A,AH f a=some (A,0)/\QI g 0 t A) /\
  (κ=3->∀s,NfT G a (10+s)->NOk g.length a->g.length<=60->FT a->QI g 1 t a) /\
  (κ=4->NfT G a 1->NOk g.length a->g.length<=60->QI g 0 t a):=by
 have hv:∀{g:A6} {a b:Tm} {f:Nat},b.stl->NOk g.length b->g.length<=61->AH f b=some (a,0)->a=b:=fun hs hok hl hn=>AL hs hok.sc (by have:=hok.wt;omega) hn;have xnat:∀{g:A6} {G:List Nat},CtxX g G->G.length<=1000->CtxX (g++[(1,natT)]) (0::G):=fun h hl=>Dj (s:=0) h hl (ht0 .natT) (EN _) (by simp [natT,Tm.wt,Tm.wtL]);have vnat:natT.vb:=Jk natT 0 (EN 0) (by simp [natT,Tm.wt,Tm.wtL])
 induction h with
 | tnat e g a=>intro G hG hX hsc hw;exact ⟨fun _ _=>⟨0,by omega,Rh _ _⟩,by omega,by omega,by omega,by omega⟩
 | tty e g a=>intro G hG hX hsc hw;exact ⟨fun _ _=>⟨0,by omega,lU _ _⟩,by omega,by omega,by omega,by omega⟩
 | tu e g a=>intro G hG hX hsc hw;exact ⟨fun _ _=>⟨1,by omega,oN g (m:=0) (by omega)⟩,by omega,by omega,by omega,by omega⟩
 | tlp e g a r =>intro G hG hX hsc hw;refine ⟨fun _ hl=>⟨0,by omega,O0 _ ?_⟩,by omega,by omega,by omega,by omega⟩;have hp:=Gl r;exact qo (Em (BP G 1 r) (IM hp)) hX hG.len (Ra (GV hp _) (by have:=Om hp;omega)) (by omega)
 | tpi e g a x y op ho h6 hgl hx h1 h2 ih1 ih2 =>
  intro G hG hX hsc hw;refine ⟨fun _ hl=>?_,by omega,by omega,by omega,by omega⟩;rw [D5] at hw;rw [Tm.sc,if_neg (by omega)] at hsc;obtain ⟨s,_,hs⟩:=(KN h1 G hG).1 rfl;have b0:Ak op 0=0:=by rcases ho with rfl | rfl<;>rfl
  have b1:Ak op 1=1:=by rcases ho with rfl | rfl<;>rfl
  have ysc:=hsc.2.2.2.1;rw [b1] at ysc;obtain ⟨m1,c1,q1⟩:=(ih1 G hG hX hx.sc (by omega)).1 rfl hl;have l1:=CZ g (1,x);have hX2:=Dj hX (by rw [hG.len];omega) hs hx.sc (by omega);obtain ⟨m2,c2,q2⟩:=(ih2 _ (DK hG hs (Ku hx (by omega))) hX2 (by rw [l1];exact ysc) (by omega)).1 rfl (by omega);exact ⟨_,S0 c1 c2,ZD _ ho (by omega) (YB q1) (YB q2)⟩
 | tlift e g a t h6 h1 ih =>
  intro G hG hX hsc hw;refine ⟨fun _ hl=>⟨0,by omega,O0 _ ?_⟩,by omega,by omega,by omega,by omega⟩;rw [Lx] at hw;rw [Tm.sc,if_neg (by decide)] at hsc;obtain ⟨f,A,hn,q⟩:=(ih G hG hX hsc.2.2.1 (by omega)).2.1 rfl 1 (ht0 .tyT) (Ge _) Rn
  have:=AL (t:=tyT) (Dh _ _) (Ge 0) (by simp [tyT,Tm.wt,Tm.wtL]) hn
  subst this;exact Dp (by omega) q (FC (by omega))
 | grow e g a0 a t f hn hg ha h1 ih =>intro G hG hX hsc hw;refine ⟨by omega,fun _ s hT has hf=>⟨f,a,hn,?_⟩,by omega,by omega,by omega⟩;exact (ih G hG hX hsc hw).2.2.2.1 rfl s (Ck hn hT) ha hg (nO hf hT has (by omega) hn)
 | objc e g a0 a t f hn hg ha h1 ih =>intro G hG hX hsc hw;refine ⟨by omega,by omega,fun _ hT has=>⟨f,a,hn,?_⟩,by omega,by omega⟩;exact (ih G hG hX hsc hw).2.2.2.2 rfl (Ck hn hT) ha hg
 | var1 e g a i h =>intro G hG hX hsc hw;refine ⟨by omega,by omega,by omega,fun _ s hT hok hl hf=>?_,by omega⟩;obtain ⟨hi,T,f,w,hg,hn,he⟩:=h;obtain ⟨q1,q2,⟨D,σ,hσ,hD,hl2⟩,_⟩:=hX.ok i 1 T hi hg;have hs:=FK hD (List.replicate (i+1) 0) (by rw [List.length_replicate];omega);rw [List.length_replicate] at hs;have e1:=MF (Ck hn hs) hσ;rw [e1,MF hT K4] at he;subst he;exact q_v hX (by omega) hi hg hn
 | var0 e g a i h =>intro G hG hX hsc hw;refine ⟨by omega,by omega,by omega,by omega,fun _ hT hok hl=>?_⟩;obtain ⟨hi,T,f,w,hg,hn,he⟩:=h;obtain ⟨q1,q2,⟨D,σ,hσ,hD,hl2⟩,_⟩:=hX.ok i 0 T hi hg;have hs:=FK hD (List.replicate (i+1) 0) (by rw [List.length_replicate];omega);rw [List.length_replicate] at hs;have e1:=MF (Ck hn hs) hσ;rw [e1,MF hT (.inr (.inl rfl))] at he;subst he;exact q_v hX (by omega) hi hg hn
 | fst e g a b c x h6 hb h1 h2 h3 ih1 ih2 ih3 =>
  intro G hG hX hsc hw;refine ⟨by omega,by omega,by omega,fun _ s hT hok hl hf=>?_,by omega⟩;have hGl:=hG.len;simp only [Lx,n9,D5] at hw;simp only [Tm.sc,Tm.scL] at hsc;obtain ⟨_,_,⟨_,_,⟨_,_,asc,bsc,_⟩,csc,xsc,_⟩,_⟩:=hsc;simp only [show Ak 8 0=0 from rfl,show Ak 7 0=0 from rfl,show Ak 7 (0+1)=0 from rfl,show Ak 7 (0+1+1)=0 from rfl,show Ak 6 0=0 from rfl,show Ak 6 (0+1)=1 from rfl,Nat.add_zero] at asc bsc csc xsc
  obtain ⟨sb,hsb,hTb⟩:=(KN h1 G hG).1 rfl;have fb:=pV h1;have wb:=Fu fb;have bok:=Ra hb.sc (by omega);have nb:=Em hTb (DG fb);have hs6:=(BV (AV hT)).2;have haw:=hok.wt;obtain ⟨m1,c1,q1⟩:=qt hT hX hGl hok (by omega) hf;have l1:=CZ g (1,a);have hXa:=Dj hX (by omega) (AV hT) hok.sc haw;have nb2:=Ol nb s (by omega);obtain ⟨m2,c2,q2⟩:=qt nb2 hXa (by rw [l1];simp [hGl]) (by rw [l1];exact Ks bok (by omega)) (by omega) (.inl (by have:=J0 fb hb.sc (by omega) (d:=1) (c:=0) (by omega) (by omega);simpa using this));have hS:=YB (ZD 0 (.inr rfl) (by omega) q1 q2);have Ssc:(Tm.mk 6 0 [a,b.shift 1 0]).sc g.length:=Db asc bsc;have hN:NX g.length (.mk 6 0 [a,b.shift 1 0]) (.mk 6 0 [a,b.shift 1 0]):=Mk (ht2 (.sigT s sb hs6 hsb) (AV hT) (AV nb2)) (LA (by omega) (BU hT) (Tc _ _ _ (DG fb))) Ssc (by omega) (by rw [D5,Bj];omega);obtain ⟨f1,A,n1,r1⟩:=(ih3 G hG hX csc (by omega)).2.1 rfl s (AV hT) hok.sc hf
  have:=AL (BU hT) hok.sc (by omega) n1
  subst this;obtain ⟨f2,B,n2,r2⟩:=(ih2 G hG hX xsc (by omega)).2.1 rfl sb hTb hb.sc (Np fb)
  have:=AL (DG fb) hb.sc (by omega) n2
  subst this;have tA:=C9 hT K4 hok.sc (by omega) (by omega);have tB:=C9 nb K4 hb.sc (by omega) (by omega);have eb:=M0 B c 0 0 g.length hb.sc (by omega) (by omega);exact zH 0 (dZ 0 (by omega) hN (by rw [<- l1];exact (by rw [l1];exact bsc)) (by rw [Bj];omega) csc (by omega) hS (Dp (by omega) r1 tA) r2 tB (by rw [eb];exact tB.n))
 | app e g a b c x h6 hb h1 h2 h3 ih1 ih2 ih3 =>
  intro G hG hX hsc hw;refine ⟨by omega,by omega,by omega,fun _ s hT hok hl hf=>?_,by omega⟩;have hGl:=hG.len;simp only [D5] at hw;simp only [Tm.sc,Tm.scL] at hsc;obtain ⟨_,_,⟨_,_,bsc,csc,_⟩,xsc,_⟩:=hsc;simp only [show Ak 5 0=0 from rfl,show Ak 5 (0+1)=0 from rfl,show Ak 4 0=0 from rfl,show Ak 4 (0+1)=1 from rfl,Nat.add_zero] at bsc csc xsc
  obtain ⟨sb,hsb,hTb⟩:=(KN h1 G hG).1 rfl;have fb:=pV h1;have wb:=Fu fb;have bok:=Ra hb.sc (by omega);have nb:=Em hTb (DG fb);have hs6:=(BV (AV hT)).2;have haw:=hok.wt;have l1:=CZ g (1,b);obtain ⟨m1,c1,q1⟩:=qt nb hX hGl bok (by omega) (Np fb);have hXb:=Dj hX (by omega) hTb hb.sc (by omega);have na2:=Ol hT sb (by omega);have aok2:=Ks hok (by omega);have fa2:FT (a.shift 1 0):=by
   rcases hf with h | ⟨op,x,y,ho,hx,hy,rfl⟩ | h
   ·have:=J0 h hok.sc (by omega) (d:=1) (c:=0) (by omega) (by omega)
    exact .inl (by simpa using this)
   ·have q:=hok.sc;rw [Tm.sc,if_neg (by omega)] at q;have b0:Ak op 0=0:=by rcases ho with rfl | rfl<;>rfl
    have b1:Ak op 1=1:=by rcases ho with rfl | rfl<;>rfl
    have q0:=q.2.2.1;have q1:=q.2.2.2.1;rw [b0] at q0;rw [b1] at q1;refine .inr (.inl ⟨op,x.shift 1 0,y.shift 1 1,ho,?_,?_,?_⟩)
    ·have:=J0 hx q0 (by omega) (d:=1) (c:=0) (by omega) (by omega);simpa using this
    ·have:=J0 hy q1 (by omega) (d:=1) (c:=1) (by omega) (by omega);simpa using this
    ·rw [Tm.shift,if_neg (by omega)];simp only [Tm.shiftL,b0,Nat.zero_add,b1];simp
   ·exact .inr (.inr (by rw [MD];exact h))
  obtain ⟨f1,A,n1,r1⟩:=(ih3 _ (DK hG hTb (Ku hb (by omega))) hXb (by rw [l1];exact csc) (by omega)).2.1 rfl s (AV na2) (by rw [l1];exact aok2.sc) fa2
  have:=AL (BU na2) aok2.sc (by rw [Bj];omega) n1
  subst this;have Psc:(Tm.mk 3 0 [b,a.shift 1 0]).sc g.length:=Db bsc aok2.sc;have hN:NX g.length (.mk 3 0 [b,a.shift 1 0]) (.mk 3 0 [b,a.shift 1 0]):=Mk (ht2 (.piT sb s hsb hs6) hTb (AV na2)) (LA (by omega) (DG fb) (BU na2)) Psc (by omega) (by rw [D5,Bj];omega);have q2:=nM 0 (by omega) q1 r1 hN;obtain ⟨f2,B,n2,r2⟩:=(ih2 G hG hX xsc (by omega)).2.1 rfl sb hTb hb.sc (Np fb)
  have:=AL (DG fb) hb.sc (by omega) n2
  subst this;have tA:=C9 hT K4 hok.sc (by omega) (by omega);have tB:=C9 nb K4 hb.sc (by omega) (by omega);have eb:=M0 a x 0 0 g.length hok.sc (by omega) (by omega);exact Aa0 0 (by omega) xsc (by omega) aok2.sc (by rw [Bj];omega) q2 (Dp (by omega) r2 tB) (by rw [eb];exact tA.n)
 | recc e g a n z s h6 ha h1 h2 h3 ih1 ih2 ih3 =>
  intro G hG hX hsc hw;refine ⟨by omega,by omega,by omega,fun _ σ hT hok hl hf=>?_,by omega⟩;have hGl:=hG.len;have hX':a=natT\/a=tyT:=by
   rcases ha with ha | ha
   ·exact .inl (Mr (by rw [ha];rfl) hok.sc)
   ·exact .inr (R3 (by rw [ha];rfl) hok.sc)
  have hsh:∀d c:Int,a.shift d c=a:=by
   intro d c;rcases hX' with rfl | rfl
   ·exact Fy (.inl rfl) d c
   ·exact Fy (.inr (.inl rfl)) d c
  rw [hsh 1 0] at hw hsc ih3 ⊢;rw [hsh 2 0] at ih3;clear h1 h2 h3;simp only [wt4] at hw;simp only [Tm.sc,Tm.scL] at hsc;obtain ⟨_,_,asc,zsc,ssc,nsc,_⟩:=hsc;simp only [show Ak 13 0=1 from rfl,show Ak 13 (0+1)=0 from rfl,show Ak 13 (0+1+1)=2 from rfl,show Ak 13 (0+1+1+1)=0 from rfl,Nat.add_zero] at asc zsc ssc nsc
  have aw:a.wt<=10:=by rcases hX' with rfl | rfl<;>simp [natT,tyT,Tm.wt,Tm.wtL]
  have tA:=C9 hT K4 hok.sc (by omega) (by omega);have l1:=CZ g (1,.mk 10 0 []);have l2:=CZ (g++[(1,.mk 10 0 [])]) (1,a);have hX1:CtxX (g++[(1,.mk 10 0 [])]) (0::G):=xnat hX (by omega);have hG1:=DK (s:=0) hG (ht0 .natT) vnat;have aT:∀D,HasT D a (10+σ):=by
   intro D;have hσ:=(BV (AV hT)).1;rcases hX' with rfl | rfl
   ·have:σ=0:=by simpa [J3,natT,Tm.op] using hσ.symm
    subst this;exact ht0 .natT
   ·have:σ=1:=by simpa [J3,tyT,Tm.op] using hσ.symm
    subst this;exact ht0 .tyT
  have asc':∀k,a.sc k:=by intro k;rcases hX' with rfl | rfl;exact EN k;exact Ge k
  have avb:a.vb:=Jk a 0 (asc' 0) (by omega);have hX2:=Dj (T:=a) hX1 (by simp;omega) (aT _) (asc' _) (by omega);have hG2:=DK hG1 (aT (0::G)) avb;obtain ⟨f1,A1,n1,r1⟩:=(ih1 G hG hX nsc (by omega)).2.1 rfl 0 (ht0 .natT) (EN _) Sq
  have:=AL (t:=natT) (Dh _ _) (EN 0) (by simp [natT,Tm.wt,Tm.wtL]) n1
  subst this;obtain ⟨f2,A2,n2,r2⟩:=(ih2 G hG hX zsc (by omega)).2.1 rfl σ (aT _) hok.sc hf
  have:=AL (BU hT) hok.sc (by omega) n2
  subst this;obtain ⟨f3,A3,n3,r3⟩:=(ih3 _ hG2 hX2 (by rw [l2,l1];exact ssc) (by omega)).2.1 rfl σ (aT _) (asc' _) hf
  have:=AL (BU hT) hok.sc (by omega) n3
  subst this;have tA2:=C9 hT K4 (asc' (g++[((1:Int),Tm.mk 10 0 [])]++[((1:Int),A3)]).length) (by rw [l2,l1];omega) (by omega);exact bH 0 hX' (by omega) tA.n nsc (by omega) (Dp (by omega) r2 tA) (Dp (by simp;omega) r3 tA2) (Dp (by omega) r1 (F8 (by omega)))
 | suc e g a n h6 ha h1 ih =>
  intro G hG hX hsc hw;refine ⟨by omega,by omega,by omega,fun _ s hT hok hl hf=>?_,by omega⟩
  have:=Mr (x:=a) (by rw [ha];rfl) hok.sc
  subst this;rw [Lx] at hw;rw [Tm.sc,if_neg (by decide)] at hsc;obtain ⟨f1,A1,n1,r1⟩:=(ih G hG hX hsc.2.2.1 (by omega)).2.1 rfl 0 (ht0 .natT) (EN _) Sq
  have:=AL (t:=natT) (Dh _ _) (EN 0) (by simp [natT,Tm.wt,Tm.wtL]) n1
  subst this;exact dP 0 (Dp (by omega) r1 (F8 (by omega)))
 | num e g a j ha hj =>
  intro G hG hX hsc hw;refine ⟨by omega,by omega,by omega,fun _ s hT hok hl hf=>?_,by omega⟩
  have:=Mr (x:=a) (by rw [ha];rfl) hok.sc
  subst this;exact nQ (by omega) j
 | tint e g a ha =>
  intro G hG hX hsc hw;refine ⟨by omega,by omega,by omega,fun _ s hT hok hl hf=>?_,by omega⟩
  have:=R3 (x:=a) (by rw [ha];rfl) hok.sc
  subst this;exact Sl g 0
 | tfun e g a x y op ho h6 ha h1 h2 ih1 ih2 =>
  intro G hG hX hsc hw;refine ⟨by omega,by omega,by omega,fun _ s hT hok hl hf=>?_,by omega⟩
  have:=R3 (x:=a) (by rw [ha];rfl) hok.sc
  subst this;rw [D5] at hw;rw [Tm.sc,if_neg (by omega)] at hsc;have b0:Ak op 0=0:=by rcases ho with rfl | rfl<;>rfl
  have b1:Ak op 1=0:=by rcases ho with rfl | rfl<;>rfl
  obtain ⟨_,_,xsc,ysc,_⟩:=hsc;rw [b0] at xsc;rw [show 0+1=1 from rfl,b1] at ysc
  obtain ⟨f1,A1,n1,r1⟩:=(ih1 G hG hX xsc (by omega)).2.1 rfl 1 (ht0 .tyT) (Ge _) Rn
  have:=AL (t:=tyT) (Dh _ _) (Ge 0) (by simp [tyT,Tm.wt,Tm.wtL]) n1
  subst this;obtain ⟨f2,A2,n2,r2⟩:=(ih2 G hG hX ysc (by omega)).2.1 rfl 1 (ht0 .tyT) (Ge _) Rn
  have:=AL (t:=tyT) (Dh _ _) (Ge 0) (by simp [tyT,Tm.wt,Tm.wtL]) n2
  subst this;exact TA 0 ho (Dp (by omega) r1 (FC (by omega))) (Dp (by omega) r2 (FC (by omega)))
 | uni e g a n ha hp =>
  intro G hG hX hsc hw;refine ⟨by omega,by omega,by omega,fun _ s hT hok hl hf=>?_,by omega⟩;obtain ⟨op,m,ks⟩:=a;simp only [Tm.op,Tm.n] at ha hp;subst ha;have hk:ks=[]:=by
   have:=hok.sc
   rw [Tm.sc] at this;exact List.eq_nil_of_length_eq_zero (Option.some.inj (this.1.symm.trans (show ar 2=some 0 from rfl)))
  subst hk
  have:=ZA (u:=natT) (k:=0) hf
  omega
 | unat e g a ha =>intro G hG hX hsc hw;refine ⟨by omega,by omega,by omega,fun _ s hT hok hl hf=>?_,by omega⟩;rw [VD ha hok.sc hf];exact Rh g 0
 | uty e g a ha =>intro G hG hX hsc hw;refine ⟨by omega,by omega,by omega,fun _ s hT hok hl hf=>?_,by omega⟩;rw [VD ha hok.sc hf];exact lU g 0
 | ult e g a ha =>intro G hG hX hsc hw;refine ⟨by omega,by omega,by omega,fun _ s hT hok hl hf=>?_,by omega⟩;rw [VD ha hok.sc hf];exact O0 0 (Dp (by omega) (Sl g 0) (FC (by omega)))
 | upi e g a x y op ho h6 ha hx h1 h2 ih1 ih2 =>
  intro G hG hX hsc hw;refine ⟨by omega,by omega,by omega,fun _ s hT hok hl hf=>?_,by omega⟩;have ea:=VD ha hok.sc hf;subst ea;have u2:∀D,HasT D (.mk 2 0 []) (10+2):=fun D=>ht0 .uT;have usc:∀k,(Tm.mk 2 0 []).sc k:=fun k=>Wu (.inr (.inr (.inl rfl))) k;rw [D5] at hw;rw [Tm.sc,if_neg (by omega)] at hsc;have b1:Ak op 1=1:=by rcases ho with rfl | rfl<;>rfl
  have ysc:=hsc.2.2.2.1;rw [show 0+1=1 from rfl,b1] at ysc
  have hxT:=(KN h1 G hG).2.1 rfl 2 (u2 G);obtain ⟨f1,A1,n1,r1⟩:=(ih1 G hG hX hx.sc (by omega)).2.1 rfl 2 (u2 _) (usc _) hf
  have:=AL (Dh _ _) (usc 0) (by simp [Tm.wt,Tm.wtL]) n1
  subst this;obtain ⟨σ,_,hG2,hX2⟩:=jQ hG hX (by rw [hG.len];omega) (by omega) hxT (Ku hx (by omega)) hx.sc (by omega);have l1:=CZ g (1,x);obtain ⟨f2,A2,n2,r2⟩:=(ih2 _ hG2 hX2 (by rw [l1];exact ysc) (by omega)).2.1 rfl 2 (u2 _) (usc _) hf
  have:=AL (Dh _ _) (usc 0) (by simp [Tm.wt,Tm.wtL]) n2
  subst this;exact ZD (i:=0) (j:=0) 0 ho (by omega) (YB r1) (YB r2)
 | lam e g n d c x h1 ih =>
  intro G hG hX hsc hw;refine ⟨by omega,by omega,by omega,fun _ s hT hok hl hf=>?_,by omega⟩;have hGl:=hG.len;rw [D5] at hw;rw [Tm.sc,if_neg (by decide)] at hsc;obtain ⟨_,_,dsc,xsc,_⟩:=hsc;obtain ⟨f1,f2⟩:=PS (.inl rfl) hf;have hn:=Ob hok.sc (by decide) (by decide) (by decide) (by decide);subst hn;obtain ⟨_,a1,b1,ha1,hb1,hd,hc⟩:=WG (.inl rfl) (AV hT);have asc:=hok.sc;rw [Tm.sc,if_neg (by decide)] at asc;have csc:c.sc (g.length+1):=asc.2.2.2.1;have w1:=Fu f1;have w2:=Fu f2;have dsc':d.sc g.length:=dsc;obtain ⟨m1,c1,q1⟩:=qt (Em hd (DG f1)) hX hGl (Ra dsc' (by omega)) (by omega) (Np f1);have l1:=CZ g (1,d);obtain ⟨f3,A,n1,r1⟩:=(ih _ (DK hG hd (Jk d _ dsc' (by omega))) (Dj hX (by omega) hd dsc' (by omega)) (by rw [l1];exact xsc) (by omega)).2.1 rfl b1 hc (by rw [l1];exact csc) (Np f2)
  have:=AL (DG f2) csc (by omega) n1
  subst this;exact nM 0 (by omega) q1 r1 (C9 hT K4 hok.sc (by omega) (by have:=hok.wt;omega)).n
 | pair e g n d c x y hx h1 h2 ih1 ih2 =>
  intro G hG hX hsc hw;refine ⟨by omega,by omega,by omega,fun _ s hT hok hl hf=>?_,by omega⟩;have hGl:=hG.len;rw [n9] at hw;rw [Tm.sc,if_neg (by decide)] at hsc;obtain ⟨_,_,_,xsc,ysc,_⟩:=hsc;obtain ⟨f1,f2⟩:=PS (.inr rfl) hf;have w1:=Fu f1;have w2:=Fu f2;have hn:=Ob hok.sc (by decide) (by decide) (by decide) (by decide);subst hn;obtain ⟨_,a1,b1,ha1,hb1,hd,hc⟩:=WG (.inr rfl) (AV hT);have asc:=hok.sc;rw [Tm.sc,if_neg (by decide)] at asc;have dsc:d.sc g.length:=asc.2.2.1;have csc:c.sc (g.length+1):=asc.2.2.2.1;obtain ⟨m1,c1,q1⟩:=qt hT hX hGl hok (by omega) hf;obtain ⟨f3,A,n1,r1⟩:=(ih1 G hG hX xsc (by omega)).2.1 rfl a1 hd dsc (Np f1)
  have:=AL (DG f1) dsc (by omega) n1
  subst this;have qx:=(KN h1 G hG).2.1 rfl a1 hd;have hsub:=MW hc [] G a1 x rfl qx (by rw [hGl];simp only [List.length_nil];omega);have hsub:HasT G (c.subst 0 0 x) (10+b1):=by simpa using hsub
  obtain ⟨p1,p2,p3⟩:=sF f2 x;have ssc:=Jq c x 0 g.length csc hx.sc (by omega);rw [show ((0:Nat):Int)=0 from rfl,Nat.add_zero] at ssc
  obtain ⟨f4,Y,n2,r2⟩:=(ih2 G hG hX ysc (by omega)).2.1 rfl b1 hsub ssc p1;have yok:=Ln (by omega) ssc (by have:=Ea x;omega) n2;have hs3:1<=A.wt/\1<=c.wt:=⟨Eh _,Eh _⟩;rw [D5] at hw;exact dZ 0 (by omega) (C9 hT K4 hok.sc (by omega) (by have:=hok.wt;omega)).n csc (by omega) xsc (by omega) q1 (Dp (by omega) r1 (C9 (Em hd (DG f1)) K4 dsc (by omega) (by omega))) r2 (C9 (Ck n2 hsub) K4 yok.sc (by omega) (by have:=yok.wt;omega)) (oF hsub ssc (by omega) (by have:=Eh y;omega) n2)
 | quo e g n d x h1 ih =>
  intro G hG hX hsc hw;refine ⟨by omega,by omega,by omega,fun _ s hT hok hl hf=>?_,by omega⟩;rw [Lx] at hw;rw [Tm.sc,if_neg (by decide)] at hsc;have hn:=Ob hok.sc (by decide) (by decide) (by decide) (by decide);subst hn;obtain ⟨_,hd⟩:=Xl (AV hT);have asc:=hok.sc;rw [Tm.sc,if_neg (by decide)] at asc;have dsc:d.sc g.length:=asc.2.2.1;have hw2:=hok.wt;rw [Lx] at hw2;have hst:=BU hT;rw [Tm.stl,Tm.stlL] at hst;obtain ⟨f1,A,n1,r1⟩:=(ih G hG hX hsc.2.2.1 (by omega)).2.2.1 rfl hd dsc
  have:=AL hst.2.1 dsc (by omega) n1
  subst this;exact xZ 0 r1
 | oif e g a c x y h6 h1 h2 h3 ih1 ih2 ih3 =>
  intro G hG hX hsc hw;refine ⟨by omega,by omega,by omega,by omega,fun _ hT hok hl=>?_⟩;rw [n9] at hw;rw [Tm.sc,if_neg (by decide)] at hsc;obtain ⟨_,_,csc,xsc,ysc,_⟩:=hsc;have hw2:=hok.wt;obtain ⟨f1,A1,n1,r1⟩:=(ih1 G hG hX csc (by omega)).2.2.1 rfl (ht0 .tint) (FD _)
  have:=AL (t:=Er) (Dh _ _) (FD 0) (by simp [Er,Tm.wt,Tm.wtL]) n1
  subst this;obtain ⟨f2,A2,n2,r2⟩:=(ih2 G hG hX xsc (by omega)).2.2.1 rfl (AV hT) hok.sc
  have:=AL (BU hT) hok.sc (by omega) n2
  subst this;obtain ⟨f3,A3,n3,r3⟩:=(ih3 G hG hX ysc (by omega)).2.2.1 rfl (AV hT) hok.sc
  have:=AL (BU hT) hok.sc (by omega) n3
  subst this;exact Aat 0 (Dp (by omega) r1 (TH (by omega))) r2 (Dp (by omega) r3 (C9 hT (.inr (.inl rfl)) hok.sc (by omega) (by omega)))
 | olet e g a r x y h6 h1 h2 ih1 ih2 =>
  intro G hG hX hsc hw;refine ⟨by omega,by omega,by omega,by omega,fun _ hT hok hl=>?_⟩;rw [D5] at hw;rw [Tm.sc,if_neg (by decide)] at hsc;obtain ⟨_,_,xsc,ysc,_⟩:=hsc;have hGl:=hG.len;have hw2:=hok.wt;have hp:=Gl r;have hpw:=Om hp;obtain ⟨f1,A1,n1,r1⟩:=(ih1 G hG hX xsc (by omega)).2.2.1 rfl (BP G 1 r) (GV hp _)
  have:=AL (IM hp) (GV hp 0) (by omega) n1
  subst this;have l1:=CZ g (0,r.plainT 1);have na2:=Ol hT 6 (by omega);have aok2:=Ks hok (by omega);obtain ⟨f2,A2,n2,r2⟩:=(ih2 _ (EV hG _) (Jl hX (by omega) (BP G 1 r) (GV hp _) (by omega)) (by rw [l1];exact ysc) (by omega)).2.2.1 rfl (AV na2) (by rw [l1];exact aok2.sc)
  have:=AL (BU na2) aok2.sc (by rw [Bj];omega) n2
  subst this;exact sK 0 (by omega) hok.sc (by omega) r1 r2
 | oapp e g a r x y h6 h1 h2 ih1 ih2 =>
  intro G hG hX hsc hw;refine ⟨by omega,by omega,by omega,by omega,fun _ hT hok hl=>?_⟩;simp only [D5] at hw;simp only [Tm.sc,Tm.scL] at hsc;obtain ⟨_,_,⟨_,_,psc,ysc,_⟩,xsc,_⟩:=hsc;simp only [show Ak 21 0=0 from rfl,show Ak 21 (0+1)=0 from rfl,show Ak 20 0=0 from rfl,show Ak 20 (0+1)=1 from rfl,Nat.add_zero] at psc ysc xsc
  have hGl:=hG.len;have hw2:=hok.wt;have hp:=Gl r;have hpw:=Om hp;have pT:=Em (BP G 1 r) (IM hp);obtain ⟨f1,A1,n1,r1⟩:=(ih1 G hG hX xsc (by omega)).2.2.1 rfl (BP G 1 r) (GV hp _)
  have:=AL (IM hp) (GV hp 0) (by omega) n1
  subst this;have l1:=CZ g (0,r.plainT 1);have na2:=Ol hT 6 (by omega);have aok2:=Ks hok (by omega);obtain ⟨f2,A2,n2,r2⟩:=(ih2 _ (EV hG _) (Jl hX (by omega) (BP G 1 r) (GV hp _) (by omega)) (by rw [l1];exact ysc) (by omega)).2.2.1 rfl (AV na2) (by rw [l1];exact aok2.sc)
  have:=AL (BU na2) aok2.sc (by rw [Bj];omega) n2
  subst this;have hN:NX g.length (.mk 16 0 [r.plainT 1,a]) (.mk 16 0 [r.plainT 1,a]):=Mk (ht2 .tfun (BP G 1 r) (AV hT)) (LA (by omega) (IM hp) (BU hT)) (Db (GV hp _) hok.sc) (by omega) (by rw [D5];omega);exact pZ 0 (eH 0 (by omega) hok.sc (by omega) (qo pT hX hGl (Ra (GV hp _) (by omega)) (by omega)) r2 hN) (Dp (by omega) r1 (C9 pT (.inr (.inl rfl)) (GV hp _) (by omega) (by omega)))
 | ofst e g a x y h6 h1 h2 ih1 ih2 =>
  intro G hG hX hsc hw;refine ⟨by omega,by omega,by omega,by omega,fun _ hT hok hl=>?_⟩;simp only [Lx,D5] at hw;simp only [Tm.sc,Tm.scL] at hsc;obtain ⟨_,_,⟨_,_,xsc,ysc,_⟩,_⟩:=hsc;simp only [show Ak 23 0=0 from rfl,show Ak 22 0=0 from rfl,show Ak 22 (0+1)=0 from rfl,Nat.add_zero] at xsc ysc
  have hw2:=hok.wt;obtain ⟨f2,A2,n2,r2⟩:=(ih1 G hG hX xsc (by omega)).2.2.1 rfl (AV hT) hok.sc
  have:=AL (BU hT) hok.sc (by omega) n2
  subst this;obtain ⟨f1,A1,n1,r1⟩:=(ih2 G hG hX ysc (by omega)).2.2.1 rfl (ht0 .tint) (FD _)
  have:=AL (t:=Er) (Dh _ _) (FD 0) (by simp [Er,Tm.wt,Tm.wtL]) n1
  subst this;have hN:NX g.length (.mk 17 0 [A2,Er]) (.mk 17 0 [A2,Er]):=Mk (ht2 .tpro (AV hT) (ht0 .tint)) (LA (by omega) (BU hT) (Dh _ _)) (Db hok.sc (FD _)) (by omega) (by rw [D5];simp [Er,Tm.wt,Tm.wtL];omega);exact pJ 0 (WK 0 (by omega) r2 r1 hN)
 | ofix e g a x h6 h1 ih =>
  intro G hG hX hsc hw;refine ⟨by omega,by omega,by omega,by omega,fun _ hT hok hl=>?_⟩;rw [D5] at hw;rw [Tm.sc,if_neg (by decide)] at hsc;obtain ⟨_,_,asc,xsc,_⟩:=hsc;have hGl:=hG.len;have hw2:=hok.wt;have l1:=CZ g (0,a);have na2:=Ol hT 6 (by omega);have aok2:=Ks hok (by omega);obtain ⟨f2,A2,n2,r2⟩:=(ih _ (EV hG _) (Jl hX (by omega) (AV hT) hok.sc (by omega)) (by rw [l1];exact xsc) (by omega)).2.2.1 rfl (AV na2) (by rw [l1];exact aok2.sc)
  have:=AL (BU na2) aok2.sc (by rw [Bj];omega) n2
  subst this;exact pN 0 (by omega) hok.sc (by omega) (qo hT hX hGl hok (by omega)) (Dp (by omega) r2 (C9 na2 (.inr (.inl rfl)) (by rw [l1];exact aok2.sc) (by omega) (by rw [Bj];omega))) (C9 hT (.inr (.inl rfl)) hok.sc (by omega) (by omega)).n
 | spl e g a x h6 h1 ih =>
  intro G hG hX hsc hw;refine ⟨by omega,by omega,by omega,by omega,fun _ hT hok hl=>?_⟩;rw [Lx] at hw;rw [Tm.sc,if_neg (by decide)] at hsc;have hw2:=hok.wt;have lsc:(Tm.mk 18 0 [a]).sc g.length:=FM hok.sc;obtain ⟨f2,A2,n2,r2⟩:=(ih G hG hX hsc.2.2.1 (by omega)).2.1 rfl 3 (fQ .liftT (AV hT)) lsc WB
  have:=AL (u4 (by decide) (BU hT)) lsc (by rw [Lx];omega) n2
  subst this;exact Aaf 0 r2
 | oint e g a n ha =>intro G hG hX hsc hw;refine ⟨by omega,by omega,by omega,by omega,fun _ hT hok hl=>?_⟩;rw [R7 hok.sc ha (by decide) (by decide) (by decide) (by decide) (by decide)];exact aK g n
 | oprim e g a p q n h6 ha h1 h2 ih1 ih2 =>
  intro G hG hX hsc hw;refine ⟨by omega,by omega,by omega,by omega,fun _ hT hok hl=>?_⟩;have ea:a=Er:=R7 hok.sc ha (by decide) (by decide) (by decide) (by decide) (by decide);subst ea;rw [D5] at hw;rw [Tm.sc,if_neg (by decide)] at hsc;obtain ⟨_,_,xsc,ysc,_⟩:=hsc;obtain ⟨f1,A1,n1,r1⟩:=(ih1 G hG hX xsc (by omega)).2.2.1 rfl (ht0 .tint) (FD _)
  have:=AL (t:=Er) (Dh _ _) (FD 0) (by simp [Er,Tm.wt,Tm.wtL]) n1
  subst this;obtain ⟨f2,A2,n2,r2⟩:=(ih2 G hG hX ysc (by omega)).2.2.1 rfl (ht0 .tint) (FD _)
  have:=AL (t:=Er) (Dh _ _) (FD 0) (by simp [Er,Tm.wt,Tm.wtL]) n2
  subst this;exact jK n (Dp (by omega) r1 (TH (by omega))) (Dp (by omega) r2 (TH (by omega)))
 | olam e g n d c b h1 ih =>
  intro G hG hX hsc hw;refine ⟨by omega,by omega,by omega,by omega,fun _ hT hok hl=>?_⟩;rw [D5] at hw;rw [Tm.sc,if_neg (by decide)] at hsc;obtain ⟨_,_,dsc0,xsc,_⟩:=hsc;have hGl:=hG.len;have hw2:=hok.wt;have hd2:=hok.dp;rw [D5] at hw2;rw [M9] at hd2;have hn:=Ob hok.sc (by decide) (by decide) (by decide) (by decide);subst hn;obtain ⟨hd,hc⟩:=K8 (.inl rfl) (AV hT);have asc:=hok.sc;rw [Tm.sc,if_neg (by decide)] at asc;have dok:NOk g.length d:=⟨asc.2.2.1,by omega,by omega⟩;have cok:NOk g.length c:=⟨asc.2.2.2.1,by omega,by omega⟩;have hst:=BU hT;rw [Tm.stl,Tm.stlL,Tm.stlL] at hst;have l1:=CZ g (0,d);have nc2:=Ol (Em hc hst.2.2.1) 6 (by omega);have cok2:=Ks cok (by omega);obtain ⟨f2,A2,n2,r2⟩:=(ih _ (EV hG _) (Jl hX (by omega) hd dok.sc (by omega)) (by rw [l1];exact xsc) (by omega)).2.2.1 rfl (AV nc2) (by rw [l1];exact cok2.sc)
  have:=AL (BU nc2) cok2.sc (by rw [Bj];omega) n2
  subst this;exact eH 0 (by omega) cok.sc (by omega) (qo (Em hd hst.2.1) hX hGl dok (by omega)) r2 (C9 hT (.inr (.inl rfl)) hok.sc (by omega) (by rw [D5];omega)).n
 | opair e g n d c p q h1 h2 ih1 ih2 =>
  intro G hG hX hsc hw;refine ⟨by omega,by omega,by omega,by omega,fun _ hT hok hl=>?_⟩;rw [D5] at hw;rw [Tm.sc,if_neg (by decide)] at hsc;obtain ⟨_,_,psc,qsc,_⟩:=hsc;have hw2:=hok.wt;rw [D5] at hw2;have hn:=Ob hok.sc (by decide) (by decide) (by decide) (by decide);subst hn;obtain ⟨hd,hc⟩:=K8 (.inr rfl) (AV hT);have asc:=hok.sc;rw [Tm.sc,if_neg (by decide)] at asc;have dsc:d.sc g.length:=asc.2.2.1;have csc:c.sc g.length:=asc.2.2.2.1;have hst:=BU hT;rw [Tm.stl,Tm.stlL,Tm.stlL] at hst;obtain ⟨f1,A1,n1,r1⟩:=(ih1 G hG hX psc (by omega)).2.2.1 rfl hd dsc
  have:=AL hst.2.1 dsc (by omega) n1
  subst this;obtain ⟨f2,A2,n2,r2⟩:=(ih2 G hG hX qsc (by omega)).2.2.1 rfl hc csc
  have:=AL hst.2.2.1 csc (by omega) n2
  subst this;exact WK 0 (by omega) r1 r2 (C9 hT (.inr (.inl rfl)) hok.sc (by omega) (by rw [D5];omega)).n
set_option maxRecDepth 20000
set_option maxHeartbeats 16000000
def SO (n:Nat):Ph (SS dt (n+200) 11 [] ⟨[],[]⟩)=true:=by kernel_rfl
def Ye {n:Nat} (h:200<=n):BA (SS dt n 11 [] ⟨[],[]⟩) (.bool true):=by obtain ⟨k,rfl⟩:∃k,n=k+200:=⟨n - 200,by omega⟩;exact XU (SO k)
def uI (ih:Ah) (xs:List IV) (h0:Hp) (k:KT (IV×Hp)):CJ EE ih (.fv (.func (.func 56) [] [])) xs h0 k=A0 [] false false ih 56 xs h0 k :=NK (by kernel_rfl) (by kernel_rfl) (by kernel_rfl) (by kernel_rfl) ..
def pO {n:Nat} {p:Int×Tm} (h:(p.2.chk 0 1).2=0) (hn:2 * p.2.wt+4<n):BA (SS dt n 56 [.fv (v1 p)] ⟨[],[]⟩) (.bool false):=by obtain ⟨n,rfl⟩:=psc n (by omega);have hc:=ND (n:=n) p.2 (by omega);rw [h] at hc;rw [c56];obtain ⟨st,o,m,ks⟩:=p;simp only [v1,Am,Tm.op,Tm.n,Tm.kids] at hc ⊢;simp only [S56,↓XX,XY,↓reduceIte,seval,↓Ap hc];exact Aw _ _
def iL {n:Nat} (g:A6) (hl:g.length<=1000) (hn:g.length+8000<n) (h:∀p∈g,(p.2.chk 0 1).2=0):BA (SS dt (n+2) 55 [.fv (AK g),.fv (.func (.func 56) [] [])] ⟨[],[]⟩) (.bool false):=by
 have hi:BA (SS dt (n+1) 81 [.fv (AK g),.fv (.func (.func 56) [] [])] ⟨[],[]⟩) (.int .i64 (-1)):=by
  rw [c81,AK];have hlen:(g.map v1).length=g.length:=List.length_map _;simp only [PU,S81,↓XX,XY,↓reduceIte,seval,hlen];refine A9 (Q:=fun r=>BA r _) (fun k V H=>∃pre rest,g=pre++rest/\rest.length=k/\V=[.fv (.sl (g.map v1)),.fv (.func (.func 56) [] []),iv g.length,iv pre.length]/\H=⟨[],[]⟩) ?_ n g.length _ _ (by omega) ⟨[],g,rfl,rfl,rfl,rfl⟩;rintro k V H rec ⟨pre,rest,hk,hkl,rfl,rfl⟩ hrec;cases rest with
  | nil =>
   have hi:¬ (pre.length:Int)<g.length:=by rw [hk];simp
   simp only [PU,TM,S81,↓XX,XY,↓reduceIte,seval,hi];exact Aw _ _
  | cons p rest =>
   have hi:(pre.length:Int)<g.length:=by rw [hk];simp;omega
   have hp:(p.2.chk 0 1).2=0:=h p (by rw [hk];simp);have hc:=pO (n:=n) hp (by have:=(NU p.2 0 1 (by omega)).2.2 hp;omega);have hget:(g.map v1)[pre.length]?=some (v1 p):=by rw [List.getElem?_map,BY hk];rfl
   have hix:=fun {β:Type}=>Bp (β:=β) (size:=4) hget rfl;have hwi:BB ((pre.length:Int)+1)=((pre++[p]).length:Int):=(Ax (by omega) (by omega)).trans (by simp);simp only [AhL] at hkl;have h9:=hrec rest.length [.fv (.sl (g.map v1)),.fv (.func (.func 56) [] []),iv g.length,iv (pre++[p]).length] _ (by omega) ⟨pre++[p],rest,by rw [hk];simp,rfl,rfl,rfl⟩;obtain ⟨st,o,m,ks⟩:=p;simp only [v1,Tm.op,Tm.n,Tm.kids] at hc hix;simp only [PU,TM,S81,↓XX,XY,↓reduceIte,seval,hi,↓hix,FV.cells,↓uI,↓Ap hc,hwi];exact h9
 rw [c55];have h2:=fun (h:Hp) (k:KT (IV×Hp))=>Af (a:=.fv (AK g)) (b:=.fv (.func (.func 56) [] [])) hi rfl rfl h k;simp only [S55,↓XX,XY,↓reduceIte,seval,↓h2];exact Aw _ _
def Xf (g:A6) (st:Int) (t A:Tm):Prop:=Ev 22 [.fv (AK g),iv st,.fv t.enc] (.tuple [A.enc,.int .i64 0])
def lL {A B:Tm} (h:PN A B):Ev 57 [.fv A.enc,iv 0] (.tuple [B.enc,.int .i64 0]):=by obtain ⟨N0,h0⟩:=h;refine ⟨N0+200,fun n hn=>?_⟩;obtain ⟨n,rfl⟩:=psc n (by omega);have h0:=h0 n (by omega);rw [c57];obtain ⟨o1,n1,k1⟩:=A;obtain ⟨o2,n2,k2⟩:=B;simp only [Am] at h0 ⊢;simp only [S57,↓XX,XY,↓reduceIte,seval,↓Ap h0];exact A4 rfl
def aR {g:A6} {st:Int} {t A B:Tm} (hst:st=0\/st=1) (hl:g.length<=1000) (hg:∀p∈g,(p.2.chk 0 1).2=0) (ht:(t.chk 0 1).2=0) (h:KI g st t A) (h2:PN A B):Xf g st t B:=by obtain ⟨N0,h0⟩:=h;obtain ⟨N1,h1⟩:=lL h2;refine ⟨N0+N1+20000,fun n hn=>?_⟩;obtain ⟨n,rfl⟩:=psc n (by omega);have h0:=h0 n (by omega);have h1:=h1 n (by omega);have hc:=ND (n:=n) t (by have:=(NU t 0 1 (by omega)).2.2 ht;omega);rw [ht] at hc;obtain ⟨n',hn'⟩:∃k,n=k+2:=⟨n - 2,by omega⟩;have hno:=iL (n:=n') g hl (by omega) hg;rw [<- hn'] at hno;have h9:=fun (h:Hp) (k:KT (IV×Hp))=>Af (a:=.fv (AK g)) (b:=.fv (.func (.func 56) [] [])) hno rfl rfl h k;rw [c22];obtain ⟨o1,n1,k1⟩:=t;obtain ⟨o2,n2,k2⟩:=A;obtain ⟨o3,n3,k3⟩:=B;simp only [Am] at h0 h1 hc ⊢;rcases hst with rfl | rfl<;>(simp only [cI,S22,↓XX,XY,↓reduceIte,seval,↓Ap hc,↓h9,↓Au h0,↓Af h1];exact A4 rfl)
end Idl
end Go.Proofs.YtnenpcghegcnhaaGreat
namespace Go.Proofs.YtnenpcghegcnhaaGreat
namespace Idl
def XA {op:Int} {s:Nat} {sg:Kc} (h:Rule op s sg):EP op=(sg.length:Int):=by cases h<;>rfl
def ST {op n:Int} (h1:op≠1) (h:BQ op n):LU op n=true:=by
 unfold BQ at h;unfold LU;rw [if_neg h1];by_cases h2:op=2
 ·rw [if_pos h2] at h ⊢;simp [h]
 rw [if_neg h2] at h ⊢;by_cases h26:op=26
 ·rw [if_pos h26] at h ⊢;simp [h]
 rw [if_neg h26] at h ⊢;by_cases h25:op=25
 ·rw [if_pos h25]
 rw [if_neg h25] at h ⊢;simp [h]
theorem Rz {d:Int}:∀(l:List Tm) (n:Int),(∀(i:Nat) t,l[i]?=some t->∀n:Int,n+t.wt<=3000->t.chk n d=(n+t.wt,0))->n+Tm.wtL l<=3000->Tm.chkL l n d=(n+Tm.wtL l,0)
 | [],n,_,_=>by simp [Tm.chkL,Tm.wtL]
 | t::l,n,h,hw=>by
  simp only [Tm.wtL] at hw;have h1:=h 0 t rfl n (by omega);rw [Tm.chkL,h1];simp only [if_true];rw [Rz l (n+t.wt) (fun i t a=>h (i+1) t (by simpa using a)) (by omega)];simp only [Tm.wtL,AhI,and_true];omega
theorem S7 {G:List Nat} {t:Tm} {s:Nat} (h:HasT G t s):∀(k:Nat) (n d:Int),t.sc k->k+2 * t.dp<=3000->n+t.wt<=3000->d+t.dp<=121->t.chk n d=(n+t.wt,0):=by
 have nd:∀(op m:Int) (ks:List Tm) (k:Nat) (n d:Int),op≠1->(ks.length:Int)=EP op->(∀(i:Nat) t,ks[i]?=some t->∀(k:Nat) (n d:Int),t.sc k->k+2 * t.dp<=3000->n+t.wt<=3000->d+t.dp<=121->t.chk n d=(n+t.wt,0))->(Tm.mk op m ks).sc k->k+2 * (Tm.mk op m ks).dp<=3000->n+(Tm.mk op m ks).wt<=3000->d+(Tm.mk op m ks).dp<=121->(Tm.mk op m ks).chk n d=(n+(Tm.mk op m ks).wt,0):=by
  intro op m ks k n d h1 hl ih hsc hkk hw hd;simp only [Tm.wt] at hw;simp only [Tm.dp] at hd hkk;rw [Tm.sc,if_neg h1] at hsc;have hc:¬ (EP op≠(ks.length:Int)\/LU op m=false):=by rw [hl,ST h1 hsc.2.1];simp
  rw [Tm.chk,if_neg (by omega),if_neg hc];rw [Rz ks (n+1) (fun i t a n' hn'=>by
   have hwt:=IG a;have hdt:=Pt a;have hbn:=AY op i;have hs:=GO hsc.2.2 a;rw [Nat.zero_add] at hs;exact ih i t a (k+Ak op i) n' (d+1) hs (by omega) hn' (by omega)) (by omega)]
  simp only [Tm.wt,AhI,and_true];omega
 induction h with
 | var G m s h0 h hs =>intro k n d hsc hk hw hd;simp only [Tm.wt,Tm.wtL] at hw;simp only [Tm.dp,Tm.dpL] at hd hk;rw [Tm.sc,if_pos rfl] at hsc;rw [Tm.chk,if_neg (by omega),if_neg (by simp [EP,LU];omega),Tm.chkL];simp [Tm.wt,Tm.wtL]
 | node G op m ks s sg hr hl hk ih =>intro k n d;exact nd op m ks k n d (EC hr).1 (by rw [XA hr,hl]) fun i t a=>ih i t _ _ a (List.getElem?_eq_getElem (by rw [<- hl];exact (List.getElem?_eq_some_iff.1 a).1))
 | app G m q a b x y s s0 hs hy ha hb hx iha ihb ihx =>
  intro k n d;refine nd _ _ _ k n d (by decide) rfl fun i t h=>?_
  match i with
  | 0=>simp at h;subst h;intro k n d;refine nd _ _ _ k n d (by decide) rfl fun i t h=>?_;match i with
   | 0=>simp at h;subst h;exact iha
   | 1=>simp at h;subst h;exact ihb
   | i+2=>simp at h
  | 1=>simp at h;subst h;exact ihx
  | i+2=>simp at h
 | fst G m q a x y s s1 s0 hs ha hx hy iha ihx ihy =>
  intro k n d;refine nd _ _ _ k n d (by decide) rfl fun i t h=>?_
  match i with
  | 0=>simp at h;subst h;intro k n d;refine nd _ _ _ k n d (by decide) rfl fun i t h=>?_;match i with
   | 0=>simp at h;subst h;exact iha
   | 1=>simp at h;subst h;exact ihx
   | 2=>simp at h;subst h;exact ihy
   | i+3=>simp at h
  | i+1=>simp at h
 | snd G m q a x y s s1 s0 hs ha hx hy iha ihx ihy =>
  intro k n d;refine nd _ _ _ k n d (by decide) rfl fun i t h=>?_
  match i with
  | 0=>simp at h;subst h;intro k n d;refine nd _ _ _ k n d (by decide) rfl fun i t h=>?_;match i with
   | 0=>simp at h;subst h;exact iha
   | 1=>simp at h;subst h;exact ihx
   | 2=>simp at h;subst h;exact ihy
   | i+3=>simp at h
  | i+1=>simp at h
def vX {G:List Nat} {t:Tm} {s:Nat} (h:NfT G t s):∀(k:Nat) (n d:Int),t.sc k->k+2 * t.dp<=3000->n+t.wt<=3000->d+t.dp<=121->t.chk n d=(n+t.wt,0):=S7 (AV h)
structure EnQ (g:A6) (st:Int) (T:Tm):Prop where
 wt:T.wt<=130
 chk:(T.chk 0 1).2=0
 ty:(st=1/\∃m,QI g 1 T (.mk 2 m []))\/(st=0/\QI g 1 T tyT)
theorem Abu {g:A6} (h:CtxG g):(∀(i:Nat) (p:Int×Tm),g[i]?=some p->p.2.sc i)->g.length<=60->∃G,CtxT g G/\CtxX g G/\∀(i:Nat) (p:Int×Tm),g[i]?=some p->EnQ (g.take i) p.1 p.2:=by
 have more:∀{g:A6} {q:Int×Tm},EnQ g q.1 q.2->(∀(i:Nat) (p:Int×Tm),g[i]?=some p->EnQ (g.take i) p.1 p.2)->∀(i:Nat) (p:Int×Tm),(g++[q])[i]?=some p->EnQ ((g++[q]).take i) p.1 p.2:=by
  intro g q h1 h2 i p hp;by_cases hi:i<g.length
  ·rw [List.getElem?_append_left hi] at hp;rw [List.take_append_of_le_length (by omega)];exact h2 i p hp
  ·rw [List.getElem?_append_right (by omega)] at hp;have h0:i - g.length=0:=by
    have:=(List.getElem?_eq_some_iff.1 hp).1
    simp at this;omega
   rw [h0] at hp;simp only [List.getElem?_cons_zero,AhH] at hp;subst hp;rw [show i=g.length by omega,List.take_left]
   exact h1
 have less:∀{g:A6} {q:Int×Tm},(∀(i:Nat) (p:Int×Tm),(g++[q])[i]?=some p->p.2.sc i)->(∀(i:Nat) (p:Int×Tm),g[i]?=some p->p.2.sc i)/\q.2.sc g.length:=by intro g q h;refine ⟨fun i p hp=>h i p (by rw [List.getElem?_append_left (List.getElem?_eq_some_iff.1 hp).1];exact hp),h g.length q (by simp)⟩
 induction h with
 | nil=>exact fun _ _=>⟨[],eX,bD,fun i p h=>by simp at h⟩
 | ob g t h h1 ih =>
  intro hs hl;rw [CZ] at hl;obtain ⟨hs,ts⟩:=less hs;obtain ⟨G,hG,hX,hE⟩:=ih hs (by omega);have hGl:=hG.len;obtain ⟨w,d⟩:=s_7 h1;have hT:=(KN h1 G hG).2.1 rfl 1 (ht0 .tyT);obtain ⟨f,A,hn,q⟩:=(gG h1 G hG hX ts (by omega)).2.1 rfl 1 (ht0 .tyT) (Ge _) Rn
  have:=AL (t:=tyT) (Dh _ _) (Ge 0) (by simp [tyT,Tm.wt,Tm.wtL]) hn
  subst this;exact ⟨_,EV hG t,Jl hX (by omega) hT ts (by omega),more ⟨w,by rw [S7 hT g.length 0 1 ts (by omega) (by omega) (by omega)],.inr ⟨rfl,q⟩⟩ hE⟩
 | me g a h ha hgl h1 ih =>
  intro hs hl;rw [CZ] at hl;obtain ⟨hs,ts⟩:=less hs;obtain ⟨G,hG,hX,hE⟩:=ih hs (by omega);have hGl:=hG.len;obtain ⟨s,_,hT⟩:=(KN h1 G hG).1 rfl;have w:=t_7 h1
  have:=Ea a
  obtain ⟨m,_,q⟩:=(gG h1 G hG hX ts (by omega)).1 rfl (by omega);exact ⟨_,DK hG hT (Ku ha (by omega)),Dj hX (by omega) hT ts (by omega),more ⟨by show a.wt<=130;omega,by rw [S7 hT g.length 0 1 ts (by omega) (by omega) (by omega)],.inl ⟨rfl,m,q⟩⟩ hE⟩
def sQ:PN tyT tyT:=by obtain ⟨f,h⟩:=EH (t:=tyT) (Dh _ _) (Ge 0) (by omega) (by simp [tyT,Tm.wt,Tm.wtL]) (by simp [tyT,Tm.dp,Tm.dpL]);exact ((FC (k:=0) (by omega)).n.nf f _ h).2
structure CaK (g:A6) (st:Int) (a t:Tm) (A x:Tm) (f h c:Int):Prop where
 cf:Oa f\/f=0/\x=A/\A.wt<=3000/\Xf g st t A
 ch:Oa h\/h=0/\Ev 27 [.fv (AK g),iv st,.fv t.enc,.fv a.enc] (.int .i64 0)
 cc:Oa c\/c=0/\Ev 37 [.fv (AK g)] (.int .i64 0)
def UH {k:Nat} {A:Tm} (h:NX k A A) (hs:A.stl) (hk:k<=1000) (hN:NOk k A):PN A A:=by obtain ⟨f,h1⟩:=EH hs hN.sc (by omega) hN.wt hN.dp;exact (h.nf f _ h1).2
def Vd {g:A6} (h:∀(i:Nat) (p:Int×Tm),g[i]?=some p->EnQ (g.take i) p.1 p.2):∀p∈g,(p.2.chk 0 1).2=0:=fun p hp=>by
 obtain ⟨i,hi⟩:=List.getElem?_of_mem hp;exact (h i p hi).chk
def XP {g:A6} {a t q:Tm} {object:Bool} {st:Int} (hC:CaseOk g a t true object) (hpl:object=true->a=q.plainT 2) (hst:st=if object then 0 else 1):∃G f A s,CtxT g G/\CtxX g G/\(∀(i:Nat) (p:Int×Tm),g[i]?=some p->EnQ (g.take i) p.1 p.2)/\(t.chk 0 1).2=0/\AH f a=some (A,0)/\Es s/\HasT G a s/\a.wt<=3000/\NOk g.length A/\QI g st t A/\(st=1/\10<=s/\FT A\/st=0/\s=1):=by
 have hl:=hC.len;obtain ⟨G,hG,hX,hE⟩:=Abu hC.cg (fun i p hp=>(hC.gok.ok i p hp).1) (by omega);have hGl:=hG.len;have had:=hC.adp;have asc:=hC.asc;have tsc:=hC.tsc;have hck:=hC.chk rfl;have tw:=(uN hck).1;have gt:=hC.gt rfl;cases object
 ·have ga:=hC.ga rfl;obtain ⟨s,_,hs⟩:=(KN ga G hG).1 rfl;have w:=t_7 ga;subst hst;obtain ⟨f,A,hn,q⟩:=(gG gt G hG hX tsc tw).2.1 rfl s hs asc (oJ ga (by omega));exact ⟨G,f,A,_,hG,hX,hE,hck,hn,K4,hs,by omega,Ln (by omega) asc (by omega) hn,q,.inl ⟨rfl,by omega,nO (oJ ga (by omega)) hs asc (by omega) hn⟩⟩
 ·have ha:=hpl rfl;have hs:HasT G a 1:=by rw [ha];exact BP G 2 q
  have w:a.wt<=20:=by have:=Fc 2 q;rw [<- ha] at this;simpa using Nat.le_trans this (by decide)
  subst hst;obtain ⟨f,A,hn,q⟩:=(gG gt G hG hX tsc tw).2.2.1 rfl hs asc;exact ⟨G,f,A,_,hG,hX,hE,hck,hn,.inr (.inl rfl),hs,by omega,Ln (by omega) asc (by omega) hn,q,.inr ⟨rfl,rfl⟩⟩
def ZP {g:A6} {a t:Tm} {object:Bool} {st:Int} (hC:CaseOk g a t false object) (hst:st=if object then 0 else 1):∃A r f,A.sc g.length/\A.wt<=10/\JI (AK g) st t r f/\(f=0->r=A):=by
 have ht:=hC.zt rfl;obtain ⟨A,hA,hw,r,f,hJ,hv⟩:∃A:Tm,A.sc g.length/\A.wt<=10/\QI g st t A:=by
  subst ht;cases object
  ·exact ⟨natT,EN _,by simp [natT,Tm.wt,Tm.wtL],by subst hst;exact SP g 0⟩
  ·exact ⟨Er,FD _,by simp [Er,Tm.wt,Tm.wtL],by subst hst;exact aK g 0⟩
 refine ⟨A,r,f,hA,hw,hJ,fun hf=>?_⟩;rcases hv with hv | hv
 ·exact absurd hf (AX hv)
 ·exact hv.2.1
theorem Z2:∀(n:Nat) (t:Tm) (k:Nat),t.wt+1<n->k+2 * t.wt<=461168601842738->t.sc k->BA (SS dt n 25 [.fv t.enc,iv k] ⟨[],[]⟩) (.bool true):=by
 intro n
 induction n with
 | zero=>intro t c h;omega
 | succ n ih =>
  intro t c h hc hsc;obtain ⟨op,m,ks⟩:=t;simp only [Tm.wt] at h hc;rw [c25,Am];have hlen:=C3 ks;by_cases h1:op=1
  ·subst h1;rw [Tm.sc,if_pos rfl] at hsc;have hm:m<(c:Int):=by omega
   simp only [Ma,xE,↓XX,XY,↓reduceIte,seval,hm];exact Aw _ _
  ·rw [Tm.sc,if_neg h1] at hsc;simp only [Ma,xE,↓XX,XY,↓reduceIte,seval,h1];refine A9 (Q:=fun r=>BA r _) (fun k V H=>∃pre rest,ks=pre++rest/\rest.length=k/\V=[iv c,.ptr (.own 26214400) 0,iv pre.length]/\H=⟨[(26214400,.row [iv op,iv m,.fv (.sl (ks.map Tm.enc))] false)],[]⟩)
    ?_ n ks.length _ _ (by omega) ⟨[],ks,rfl,rfl,rfl,rfl⟩
   rintro k V H rec ⟨pre,rest,hk,hl,rfl,rfl⟩ hrec;have hkl:ks.length=pre.length+rest.length:=by rw [hk];simp
   cases rest with
   | nil =>
    have hno:¬ ((pre.length:Int)<ks.length):=by rw [hkl];simp
    simp only [Ma,Tn,xE,↓XX,XY,↓reduceIte,seval,hno];exact Aw _ _
   | cons t rest =>
    have hi:(pre.length:Int)<ks.length:=by rw [hkl];simp;omega
    have hg:=BY hk;have htw:=B2 (t:=t) (l:=ks) (by rw [hk];simp);have hb:=Ep (n:=n) (by omega) op pre.length;have hble:=AY op pre.length;have hts:=GO hsc.2.2 hg;rw [Nat.zero_add] at hts;have hs:=ih t (c+Ak op pre.length) (by omega) (by omega) hts;have hwc:BB ((c:Int)+Ak op pre.length)=((c+Ak op pre.length:Nat):Int):=by rw [Ax]<;>omega
    have hwi:BB ((pre.length:Int)+1)=((pre++[t]).length:Int):=(Ax (by omega) (by omega)).trans (by simp);obtain ⟨o,p,l⟩:=t;simp only [AhL] at hl;rw [Am] at hs;simp only [Ma,Tn,xE,↓XX,XY,↓reduceIte,seval,hi,↓Bp (AM hg) (Bi _ _ _),↓B6,↓Af hb,hwc,hwi,↓Af hs];refine hrec rest.length _ _ (by omega) ?_;exact ⟨pre++[.mk o p l],rest,by rw [hk];simp,rfl,rfl,rfl⟩
def hvB {e:Int} (h:Oa e):(decide (e=17) || decide (e=5))=true:=by rcases h with rfl | rfl<;>rfl
def d8 {k:Nat} {m:Int} (hk:k<=1000) (h:0<=m/\m<=1):TX k (.mk 2 m [])/\PN (.mk 2 m []) (.mk 2 m []):=by
 have hT:NfT [] (Tm.mk 2 m []) 12:=Em (ht0 .uT) (Dh _ _);have hs:(Tm.mk 2 m []).sc k:=Hv (by decide) (by decide) (by rw [BQ,if_pos rfl];omega);have hw:(Tm.mk 2 m []).wt<=1:=by simp [Tm.wt,Tm.wtL]
 have tA:=C9 hT (.inr (.inr (.inr (by omega)))) hs hk (by omega);exact ⟨tA,UH tA.n (Dh _ _) hk ⟨hs,by omega,by simp [Tm.dp,Tm.dpL]⟩⟩
structure CaT (g:A6) (st:Int) (t A x y B:Tm) (f h k:Int):Prop where
 cf:Oa f\/f=0/\x=A/\Xf g st t A
 wt:A.wt<=3000
 sc:A.sc g.length
 ch:Oa h\/h=0/\y=A
 ck:Oa k\/k=0/\Xf g 1 A B/\(st=1/\B.op=2\/st=0/\B.op=14)
def uA {g:A6} {a t q:Tm} {is object:Bool} {st:Int} (hC:CaseOk g a t is object) (hpl:object=true->a=q.plainT 2) (hst:st=if object then 0 else 1):∃A x y z B f h k,JI (AK g) st t x f/\JN A y h/\JI (AK g) 1 A z k/\(is=true->CaT g st t A x y B f h k):=by
 have hl:=hC.len;cases is
 ·obtain ⟨A,r,f,hA,hw,hJ,hf⟩:=ZP hC hst;obtain ⟨y,h,hN,_⟩:=Nk (k:=g.length) (by omega) (F8 (k:=g.length) (by omega)).n;obtain ⟨z,k,hI,_⟩:=Rh g 0;exact ⟨natT,r,y,z,natT,f,h,k,hJ,hN,hI,fun h=>by cases h⟩
 ·obtain ⟨G,f,A,s,hG,hX,hE,hck,hn,hEs,hT,aw,hN,⟨x,r,hJ,cf⟩,st2⟩:=XP hC hpl hst;have hGl:=hG.len;have nA:=Ck hn hT;have tA:=C9 nA hEs hN.sc (by omega) (by have:=hN.wt;omega);have pA:=UH tA.n (BU nA) (by omega) hN;have hd:=hN.dp;have hw:=hN.wt;obtain ⟨y,h,hNn,ch⟩:=Nk (by omega) tA.n;have hca:(A.chk 0 1).2=0:=by rw [vX nA g.length 0 1 hN.sc (by omega) (by omega) (by omega)]
  have nq:=tW nA g hX hGl hN.sc (by omega) hw;obtain ⟨B,⟨z,k,hI,ck⟩,tB,pB,ho⟩:∃B,QI g 1 A B/\TX g.length B/\PN B B/\(st=1/\B.op=2\/st=0/\B.op=14):=by
   rcases st2 with ⟨h1,h2,hF⟩ | ⟨h1,h2⟩
   ·obtain ⟨m,hm,q⟩:=nq.2.2 h2 hF;exact ⟨_,q,(d8 (by omega) hm).1,(d8 (k:=g.length) (by omega) hm).2,.inl ⟨h1,rfl⟩⟩
   ·exact ⟨_,nq.2.1 h2,FC (by omega),sQ,.inr ⟨h1,rfl⟩⟩
  refine ⟨A,x,y,z,B,r,h,k,hJ,hNn,hI,fun _=>⟨?_,hw,hN.sc,?_,?_⟩⟩
  ·rcases cf with cf | ⟨rfl,rfl,hK⟩
   ·exact .inl cf
   ·exact .inr ⟨rfl,rfl,aR (by omega) (by omega) (Vd hE) hck hK pA⟩
  ·rcases ch with ch | ⟨h1,h2,_⟩
   ·exact .inl ch
   ·exact .inr ⟨h1,h2⟩
  ·rcases ck with ck | ⟨rfl,rfl,hK⟩
   ·exact .inl ck
   ·exact .inr ⟨rfl,aR (.inr rfl) (by omega) (Vd hE) hca hK pB,ho⟩
structure CaM (n:Nat) (g:A6) (st:Int) (t A y z B:Tm) (h k:Int):Prop where
 ki:BA (SS dt n 22 [.fv (AK g),iv st,.fv t.enc] ⟨[],[]⟩) (.tuple [A.enc,.int .i64 0])
 ks:BA (SS dt n 23 [.fv A.enc,.fv A.enc] ⟨[],[]⟩) (.bool true)
 kb:BA (SS dt n 25 [.fv A.enc,iv g.length] ⟨[],[]⟩) (.bool true)
 ch:Oa h\/h=0/\y=A
 ck:Oa k\/k=0/\BA (SS dt n 22 [.fv (AK g),iv 1,.fv A.enc] ⟨[],[]⟩) (.tuple [B.enc,.int .i64 0])/\(st=1/\B.op=2\/st=0/\B.op=14)
def Mi (l:List Tm) (hll:l.length<=9223372036854775807) (r q:Tm) (object:Bool):∃N,xS (SS dt N 4 [.fv (.sl (l.map Tm.enc)),.fv r.enc,.fv q.enc,.fv (.bool object)] ⟨[],[]⟩) (.bool true):=by
 obtain ⟨g,a,t,is,⟨N0,h0⟩,hC,hpl,_⟩:=jE l hll r q object;obtain ⟨st,hst⟩:∃st:Int,st=if object then 0 else 1:=⟨_,rfl⟩;have hg4:=hC.len;obtain ⟨A,x,y,z,B,f,h,k,⟨N1,h1⟩,⟨N2,h2⟩,⟨N3,h3⟩,hK⟩:=uA hC hpl hst;obtain ⟨N4,h4⟩:∃N,is=true->Oa f\/f=0/\x=A/\∀n,N<=n->CaM n g st t A y z B h k:=by
  by_cases hi:is=true
  ·obtain ⟨c1,hw,hs,c2,c3⟩:=hK hi;rcases c1 with c1 | ⟨rfl,rfl,M1,k1⟩
   ·exact ⟨0,fun _=>.inl c1⟩
   have k3:∃M,∀n,M<=n->(Oa k\/k=0/\BA (SS dt n 22 [.fv (AK g),iv 1,.fv x.enc] ⟨[],[]⟩) (.tuple [B.enc,.int .i64 0])/\(st=1/\B.op=2\/st=0/\B.op=14)):=by
    rcases c3 with c3 | ⟨h1,⟨M,h2⟩,h3⟩
    ·exact ⟨0,fun _ _=>.inl c3⟩
    ·exact ⟨M,fun n hn=>.inr ⟨h1,h2 n hn,h3⟩⟩
   obtain ⟨M3,k3⟩:=k3;refine ⟨M1+M3+20000,fun _=>.inr ⟨rfl,rfl,fun n hn=>⟨k1 n (by omega),?_,Z2 n x g.length (by omega) (by omega) hs,c2,k3 n (by omega)⟩⟩⟩;have s1:=IR n x x (by omega) (by omega);rwa [(I0 x x).2 rfl] at s1
  ·exact ⟨0,fun h=>absurd h hi⟩
 obtain ⟨n,hn⟩:∃n,n=N0+N1+N2+N3+N4+Tm.wtL l+r.wt+q.wt+10000000000:=⟨_,rfl⟩;refine ⟨n+1,?_⟩;have h0:=h0 n (by omega);have h1:=h1 n (by omega);have h2:=h2 n (by omega);have h3:=h3 n (by omega);have u1:=M4 (n:=n) (by omega) f;have u2:=M4 (n:=n) (by omega) h;have u3:=M4 (n:=n) (by omega) k;have hk:=Ye (n:=n) (by omega);have hm:=i3 l hll (n:=n) (by omega);obtain ⟨m,hmn⟩:∃m,n=m+1:=⟨n - 1,by omega⟩;have fr:=Td (n:=m) r (by omega);have fq:=Td (n:=m) q (by omega);rw [<- hmn] at fr fq;rw [c4];have hst2:object=true/\st=0\/object=false/\st=1:=by cases object<;>simp_all
 generalize (FV.sl (l.map Tm.enc))=le at *;generalize bS l=ml at hm;generalize decide (r.count 300<300)=br at fr;generalize decide (q.count 300<300)=bq at fq;clear hC hpl hK hst;have e0:(decide ((0:Int)=17) || decide ((0:Int)=5))=false:=rfl;cases ml
 ·simp only [EM] at fr fq h0 h1 ⊢;simp only [↓mL,↓XX,XY,↓reduceIte,seval,↓Ec hk,↓Ap hm];exact OP
 cases br
 ·simp only [EM] at fr fq h0 h1 ⊢;simp only [↓mL,↓XX,XY,↓reduceIte,seval,↓Ec hk,↓Ap hm,↓Ap fr];exact OP
 cases bq
 ·simp only [EM] at fr fq h0 h1 ⊢;simp only [↓mL,↓XX,XY,↓reduceIte,seval,↓Ec hk,↓Ap hm,↓Ap fr,↓Ap fq];exact OP
 cases is
 ·clear h4;simp only [EM] at fr fq h0 h1 ⊢;rcases hst2 with ⟨rfl,rfl⟩ | ⟨rfl,rfl⟩<;>(simp only [↓mL,↓XX,XY,↓reduceIte,seval,↓Ec hk,↓Ap hm,↓Ap fr,↓Ap fq,↓As h0,↓Au h1];exact OP)
 replace h4:=h4 rfl;rcases h4 with hv | ⟨rfl,rfl,h4⟩
 ·rw [hvB hv] at u1;simp only [EM] at fr fq h0 h1 ⊢;rcases hst2 with ⟨rfl,rfl⟩ | ⟨rfl,rfl⟩<;>(simp only [↓mL,↓XX,XY,↓reduceIte,seval,↓Ec hk,↓Ap hm,↓Ap fr,↓Ap fq,↓As h0,↓Au h1,↓Ap u1];exact OP)
 rw [e0] at u1;obtain ⟨j1,j2,j3,c2,c3⟩:=h4 n (by omega);rcases c2 with hv | ⟨rfl,rfl⟩
 ·rw [hvB hv] at u2;simp only [EM] at fr fq h0 h1 h2 j1 ⊢;rcases hst2 with ⟨rfl,rfl⟩ | ⟨rfl,rfl⟩<;>(simp only [↓mL,↓XX,XY,↓reduceIte,seval,↓Ec hk,↓Ap hm,↓Ap fr,↓Ap fq,↓As h0,↓Au h1,↓Ap u1,↓Au j1,↓Ap h2,↓Ap u2];exact OP)
 rw [e0] at u2;have hlen:(g.map v1).length=g.length:=List.length_map _;rcases c3 with hv | ⟨rfl,c3,ho⟩
 ·rw [hvB hv] at u3;simp only [EM,AK] at fr fq h0 h1 h2 h3 j1 j2 j3 ⊢;rcases hst2 with ⟨rfl,rfl⟩ | ⟨rfl,rfl⟩<;>(simp only [↓mL,↓XX,XY,↓reduceIte,seval,↓Ec hk,↓Ap hm,↓Ap fr,↓Ap fq,↓As h0,↓Au h1,↓Ap u1,↓Au j1,↓Ap h2,↓Ap u2,↓Af j2,hlen,↓Af j3,↓Au h3,↓Ap u3];exact OP)
 rw [e0] at u3;simp only [EM,AK] at fr fq h0 h1 h2 h3 j1 j2 j3 c3 ⊢;rcases hst2 with ⟨rfl,rfl⟩ | ⟨rfl,rfl⟩
 ·have ho:B.op=14:=by omega
  rw [ho] at c3;simp only [↓mL,↓XX,XY,↓reduceIte,seval,↓Ec hk,↓Ap hm,↓Ap fr,↓Ap fq,↓As h0,↓Au h1,↓Ap u1,↓Au j1,↓Ap h2,↓Ap u2,↓Af j2,hlen,↓Af j3,↓Au h3,↓Ap u3,↓Au c3];exact OP
 ·have ho:B.op=2:=by omega
  rw [ho] at c3;simp only [↓mL,↓XX,XY,↓reduceIte,seval,↓Ec hk,↓Ap hm,↓Ap fr,↓Ap fq,↓As h0,↓Au h1,↓Ap u1,↓Au j1,↓Ap h2,↓Ap u2,↓Af j2,hlen,↓Af j3,↓Au h3,↓Ap u3,↓Au c3];exact OP
end Idl
end Go.Proofs.YtnenpcghegcnhaaGreat

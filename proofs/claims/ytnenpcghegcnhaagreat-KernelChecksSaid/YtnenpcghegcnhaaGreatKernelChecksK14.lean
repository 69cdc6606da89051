/- Part 14 of a proof. No statement is proved here. -/
import Derived.Test.YtnenpcghegcnhaaGreatKernelChecksK13
set_option linter.all false
set_option maxRecDepth 20000
set_option maxHeartbeats 16000000
noncomputable section
namespace Go.Proofs.YtnenpcghegcnhaaGreat
namespace Idl
def oK (a b:Int) (s:Nat) (h:Hp) (k:KT (IV×Hp)):AA (Am EE 65 2 [(0,iv a),(1,iv b)]) s h k=k (.clip [.int .i64 a,.int .i64 b]) h [] []:=Cx fE wF (by decide) (cells:=[.int .i64 a,.int .i64 b]) rfl k
def RQ {β:Type} (z:Nat) (es:List FV) (x:IV) (k:IV->Option β):AR z (.clip es) x k=AR z (.fv (.sl es)) x k:=rfl
def Adn {β:Type} (a:Int) (r:List FV) (k:IV->Option β):AR 1 (.fv (.sl (.int .i64 a::r))) (iv 0) k=k (.fv (.fp [.int .i64 a] 0)):=Br (el:=.int .i64 a) (n:=0) rfl rfl k
def Ae9 {β:Type} (a b:Int) (r:List FV) (k:IV->Option β):AR 1 (.fv (.sl (.int .i64 a :: .int .i64 b::r))) (iv 1) k=k (.fv (.fp [.int .i64 b] 0)):=Br (el:=.int .i64 b) (n:=1) rfl rfl k
def Zt (F:FuncId) (κ e:Nat):Prop:=∀(g:A8) (a r:Tm),GOk e g->NOk g.length a->(a.op=10\/a.op=14\/a.op=2)->∃t b,Ev F [.fv (AM g),.fv a.enc,.fv r.enc,iv ((e:Int) - 5)] (.tuple [Tm.enc t,.bool b])/\TG κ e g a t b
def iA {a:Tm} {k:Nat} (h:a.sc k) (ho:a.op=10\/a.op=14\/a.op=2):∃n,a=.mk a.op n []/\(a.op=2->0<=n/\n<=2)/\(a.op≠2->n=0):=by
 obtain ⟨o,n,l⟩:=a;simp only [Tm.op] at ho ⊢;rw [Tm.sc] at h;obtain ⟨h1,h2,_⟩:=h;have h3:ar o=some 0:=by rcases ho with rfl | rfl | rfl<;>decide
 rw [h3] at h1;have hl:l=[]:=Aia (Option.some.inj h1).symm;subst hl;rw [if_neg (by omega)] at h2;refine ⟨n,rfl,fun h=>?_,fun h=>?_⟩
 ·subst h;rw [BY,if_pos rfl] at h2;exact h2
 ·rw [BY,if_neg h,if_neg (by omega),if_neg (by omega)] at h2;exact h2
def cE {e:Nat} (h1e:1<=e) (he:e<=10) (hG:Eg 30 1 (e - 1)) (hG2:6<=e->Eg 30 1 (e - 2)):Zt 68 3 e:=by
 intro g a r hg ha hop;have hlen:=hg.len;have hW1:Wg e=4 * Wg (e - 1):=by obtain ⟨f,rfl⟩:∃f,e=f+1:=⟨e - 1,by omega⟩;rw [Ld,Nat.add_sub_cancel]
 have hW0:=La (e - 1);have hW10:=Me he;have hD1:Dg e=Dg (e - 1)+10:=by unfold Dg;omega
 have hD0:200<=Dg (e - 1):=by unfold Dg;omega
 have hDm:Dg e<=300:=by unfold Dg;omega
 obtain ⟨an,hae,hu1,hu2⟩:=iA ha.sc hop;have we:BF ((e:Int) - 5 - 1)=((e - 1:Nat):Int) - 5:=by rw [Az (by omega) (by omega)];omega
 have hk1:=Int.emod_nonneg r.op (show (5:Int)≠0 by decide)
 have hk2:=Int.emod_lt_of_pos r.op (show (0:Int)<5 by decide)
 have aw:=ha.wt;have ad:=ha.dp;have leafT:∀op n:Int,ar op=some 0->op≠1->BY op n->TOk g.length e (.mk op n []):=fun op n h1 h2 h3=>⟨IG h1 h2 h3,by simp only [Tm.wt,Tm.wtL];omega,by simp only [Tm.dp,Tm.dpL];omega⟩;have tint:TOk g.length e (.mk 18 0 [.mk 15 0 []]):=⟨FO (C3),by simp only [Tm.wt,Tm.wtL];omega,by simp only [Tm.dp,Tm.dpL];omega⟩;by_cases hrec:6<=e/\r.op % 5=4/\a.op≠2
 ·obtain ⟨h6,h4,hn2⟩:=hrec;have hW2:Wg e=16 * Wg (e - 2):=by
   obtain ⟨f,rfl⟩:∃f,e=f+2:=⟨e - 2,by omega⟩;rw [show f+2=(f+1)+1 by omega,Ld,Ld,show f+1+1 - 2=f by omega];omega
  have hD2:Dg e=Dg (e - 2)+20:=by unfold Dg;omega
  have hW20:=La (e - 2);have we2:BF ((e:Int) - 5 - 2)=((e - 2:Nat):Int) - 5:=by rw [Az (by omega) (by omega)];omega
  have hnat:∀k,NOk k (.mk 10 0 []):=fun k=>⟨C3,by simp only [Tm.wt,Tm.wtL];omega,by simp only [Tm.dp,Tm.dpL];omega⟩;have hs1:=MB ha (by omega) 1 (by omega);have hs2:=MB ha (by omega) 2 (by omega);obtain ⟨nn,p,⟨N1,h1⟩,tn⟩:=hG2 h6 g (.mk 10 0 []) (r.pick 0) (Ba (by omega) hg) (BV (hnat _));obtain ⟨z,q,⟨N2,h2⟩,tz⟩:=hG2 h6 g a (r.pick 1) (Ba (by omega) hg) (BV ha);have hg1:GOk (e - 1) (g++[(1,Tm.mk 10 0 [])]):=Dh (by rw [show e - 1+1=e by omega];exact hg) (hnat _).sc (by simp only [Tm.wt,Tm.wtL];omega) (by simp only [Tm.dp,Tm.dpL];omega)
  have hg2:GOk (e - 2) ((g++[(1,Tm.mk 10 0 [])])++[(1,a.shift 1 0)]):=Dh (by rw [show e - 2+1=e - 1 by omega];exact hg1) (by simpa using hs1.sc) (by rw [Bl];omega) (by rw [Di];omega)
  obtain ⟨s,f,⟨N3,h3⟩,ts⟩:=hG2 h6 _ (a.shift 2 0) (r.pick 2) hg2 (by simpa using BV hs2);have ss:s.sc (g.length+2):=by simpa using ts.sc
  refine ⟨.mk 13 0 [a.shift 1 0,z,s,nn],p && (q && f),⟨N1+N2+N3+100000,fun n hn=>?_⟩,?_,?_,?_,fun hb=>.recc e g a nn z s h6 (by omega) (tn.gr (Ki hb)) (tz.gr (Ki (IR hb))) (ts.gr (IR (IR hb)))⟩
  ·obtain ⟨n,rfl⟩:=psc n (by omega);have h1:=h1 n (by omega);have h2:=h2 n (by omega);have h3:=h3 n (by omega);rw [<- we2] at h1 h2 h3;have hw:=Ax (n:=n) (by omega) r.op (m:=5) (by omega) (by omega);rw [h4] at hw;have p0:=AV (n:=n) (by omega) r 0;have p1:=AV (n:=n) (by omega) r 1;have p2:=AV (n:=n) (by omega) r 2;have n4:=Lk (n:=n) (by omega);have m1:=DN (n:=n) g 1 (.mk 10 0 []) (by omega) (by omega);have m2:=DN (n:=n) (g++[(1,Tm.mk 10 0 [])]) 1 (a.shift 1 0) (by simp;omega) (by omega);have s1:=CS n a 1 0 (by omega) (C5 _ _ ha.sc) (by omega) (by omega);have s2:=CS n a 2 0 (by omega) (C5 _ _ ha.sc) (by omega) (by omega);have t13:=CO (n:=n) (by omega) 13 [a.shift 1 0,z,s,nn];have hd0:(0:Int)<(e:Int) - 5:=by omega
   rw [pE];clear hG hG2 tn tz ts hg hg1 hg2 ha hs1 hs2 hnat ss leafT tint hae hu1 hu2;generalize a.shift 1 0=a1 at s1 m2 t13 h3 ⊢;generalize a.shift 2 0=a2 at s2 h3;generalize r.pick 0=r0 at p0 h1;generalize r.pick 1=r1 at p1 h2;generalize r.pick 2=r2 at p2 h3;obtain ⟨o1,x1,k1⟩:=a;obtain ⟨o2,x2,k2⟩:=r;obtain ⟨o3,x3,k3⟩:=a1;obtain ⟨o4,x4,k4⟩:=a2;obtain ⟨o5,x5,k5⟩:=nn;obtain ⟨o6,x6,k6⟩:=z;obtain ⟨o7,x7,k7⟩:=s;obtain ⟨o8,x8,k8⟩:=r0;obtain ⟨o9,x9,k9⟩:=r1;obtain ⟨oa,xa,ka⟩:=r2;simp only [Tm.op] at hw hn2;simp only [AM,Ah5,Ah4,An] at h1 h2 h3 p0 p1 p2 n4 m1 m2 s1 s2 t13 ⊢;cases p<;>cases q<;>(simp only [↓IJ,↓XX,XY,↓reduceIte,seval,hd0,↓Ag hw,hn2,↓EN n4,↓Ag p0,↓Ag p1,↓Ag p2,↓Au h1,↓Au h2,↓Av m1,↓Av m2,↓Av s1,↓Av s2,↓Au h3,↓zH,↓Ag t13];exact A6 rfl)
  ·exact Aaa hs1.sc tz.sc ss tn.sc
  ·have:=tz.wt;have:=ts.wt;have:=tn.wt;rw [wt4,Bl];omega
  ·have:=tz.dp;have:=ts.dp;have:=tn.dp;rw [dp4,Di];omega
 have hnr:¬ (0:Int)<(e:Int) - 5\/¬ r.op % 5=4\/a.op=2:=by omega
 by_cases o10:a.op=10
 ·have hz:=hu2 (by omega);rw [hz,o10] at hae;by_cases hs:6<=e/\r.op % 2=1
  ·obtain ⟨nn,p,⟨N1,h1⟩,tn⟩:=hG g a (r.pick 0) (Ba (by omega) hg) (BV ha);refine ⟨.mk 12 0 [nn],p,⟨N1+100,fun n hn=>?_⟩,FO tn.sc,by have:=tn.wt;rw [Ll];omega,by have:=tn.dp;rw [gB];omega,fun hb=>.suc e g a nn hs.1 o10 (tn.gr hb)⟩;obtain ⟨n,rfl⟩:=psc n (by omega);have h1:=h1 n (by omega);rw [<- we] at h1;have hw:=Ax (n:=n) (by omega) r.op (m:=5) (by omega) (by omega);have hw2:=Ax (n:=n) (by omega) r.op (m:=2) (by omega) (by omega);rw [hs.2] at hw2;have p0:=AV (n:=n) (by omega) r 0;have t12:=CO (n:=n) (by omega) 12 [nn];have hd0:(0:Int)<(e:Int) - 5:=by omega
   have h45:¬ r.op % 5=4:=by omega
   rw [pE];rw [hae] at h1 ⊢;clear hG hG2 tn hg ha leafT tint hae hu1 hu2 hop hnr;generalize r.op % 5=w5 at hw h45;generalize r.pick 0=r0 at p0 h1;obtain ⟨o2,x2,k2⟩:=r;obtain ⟨o5,x5,k5⟩:=nn;obtain ⟨o8,x8,k8⟩:=r0;simp only [Tm.op] at hw hw2;simp only [AM,Ah5,Ah4,An] at h1 p0 t12 ⊢;simp only [↓IJ,↓XX,XY,↓reduceIte,seval,hd0,↓Ag hw,h45,↓Ag hw2,↓Ag p0,↓Au h1,↓Dx,↓Ag t12];exact A6 rfl
  ·have hj1:=Int.emod_nonneg r.n (show (4:Int)≠0 by decide)
   have hj2:=Int.emod_lt_of_pos r.n (show (0:Int)<4 by decide)
   obtain ⟨j,hj⟩:∃j:Nat,r.n % 4=j:=⟨(r.n % 4).toNat,by omega⟩;refine ⟨GQ j,true,⟨100,fun n hn=>?_⟩,cR _ j,by rw [Pa];omega,by have:=Dz (GQ j);rw [Pa] at this;omega,fun _=>.num e g a j o10 (by omega)⟩;obtain ⟨n,rfl⟩:=psc n (by omega);have hw:=Ax (n:=n) (by omega) r.op (m:=5) (by omega) (by omega);have hw2:=Ax (n:=n) (by omega) r.op (m:=2) (by omega) (by omega);have hw4:=Ax (n:=n) (by omega) r.n (m:=4) (by omega) (by omega);rw [hj] at hw4;have hnum:=tZ (n:=n) j (by omega) (by omega);have h45:(0:Int)<(e:Int) - 5->¬ r.op % 5=4:=by omega
   have h21:(0:Int)<(e:Int) - 5->¬ r.op % 2=1:=by omega
   rw [pE];rw [hae];clear hG hG2 hg ha leafT tint hae hu1 hu2 hop hnr hs;generalize r.op % 5=w5 at hw h45;generalize r.op % 2=w2 at hw2 h21;generalize GQ j=nm at hnum ⊢;obtain ⟨o2,x2,k2⟩:=r;obtain ⟨o5,x5,k5⟩:=nm;simp only [Tm.op,Tm.n] at hw hw2 hw4;simp only [AM,Ah4,An] at hnum ⊢;by_cases hd0:(0:Int)<(e:Int) - 5
   ·have h45:=h45 hd0;have h21:=h21 hd0;simp only [↓IJ,↓XX,XY,↓reduceIte,seval,hd0,↓Ag hw,h45,↓Ag hw2,h21,↓Ag hw4,↓Ar hnum];exact A6 rfl
   ·simp only [↓IJ,↓XX,XY,↓reduceIte,seval,hd0,↓Ag hw4,↓Ar hnum];exact A6 rfl
 by_cases o14:a.op=14
 ·have hz:=hu2 (by omega);rw [hz,o14] at hae;by_cases hs:6<=e/\1<r.op % 5
  ·obtain ⟨x,p,⟨N1,h1⟩,tx⟩:=hG g a (r.pick 0) (Ba (by omega) hg) (BV ha);obtain ⟨y,q,⟨N2,h2⟩,ty⟩:=hG g a (r.pick 1) (Ba (by omega) hg) (BV ha);have hj1:=Int.emod_nonneg r.n (show (2:Int)≠0 by decide)
   have hj2:=Int.emod_lt_of_pos r.n (show (0:Int)<2 by decide)
   obtain ⟨oo,hoo,hoo2⟩:∃oo:Int,oo=16+r.n % 2/\(oo=16\/oo=17):=⟨_,rfl,by omega⟩;have hsc:(Tm.mk oo 0 [x,y]).sc g.length:=by rcases hoo2 with rfl | rfl<;>exact CR tx.sc ty.sc
   refine ⟨.mk oo 0 [x,y],p && q,⟨N1+N2+100,fun n hn=>?_⟩,hsc,by have:=tx.wt;have:=ty.wt;rw [D1];omega,by have:=tx.dp;have:=ty.dp;rw [Ly];omega,fun hb=>.tfun e g a x y oo hoo2 hs.1 o14 (tx.gr (Ki hb)) (ty.gr (IR hb))⟩;obtain ⟨n,rfl⟩:=psc n (by omega);have h1:=h1 n (by omega);have h2:=h2 n (by omega);rw [<- we] at h1 h2;have hw:=Ax (n:=n) (by omega) r.op (m:=5) (by omega) (by omega);have hw2:=Ax (n:=n) (by omega) r.n (m:=2) (by omega) (by omega);have wo:BF (16+r.n % 2)=oo:=by rw [Az]<;>omega
   have p0:=AV (n:=n) (by omega) r 0;have p1:=AV (n:=n) (by omega) r 1;have t16:=CO (n:=n) (by omega) oo [x,y];rw [<- wo] at t16;have hd0:(0:Int)<(e:Int) - 5:=by omega
   have h45:¬ r.op % 5=4:=by omega
   have h15:=hs.2;rw [pE];rw [hae] at h1 h2 ⊢;clear hG hG2 tx ty hg ha leafT tint hae hu1 hu2 hop hnr hs hoo2 hsc;rw [<- wo];clear wo hoo;generalize r.op % 5=w5 at hw h45 h15;generalize r.n % 2=w2 at hw2 t16 ⊢;generalize r.pick 0=r0 at p0 h1;generalize r.pick 1=r1 at p1 h2;obtain ⟨o2,x2,k2⟩:=r;obtain ⟨o5,x5,k5⟩:=x;obtain ⟨o6,x6,k6⟩:=y;obtain ⟨o8,x8,k8⟩:=r0;obtain ⟨o9,x9,k9⟩:=r1;simp only [Tm.op,Tm.n] at hw hw2;simp only [AM,Ah5,Ah4,An] at h1 h2 p0 p1 t16 ⊢;cases p<;>(simp only [↓IJ,↓XX,XY,↓reduceIte,seval,hd0,↓Ag hw,h45,h15,↓Ag hw2,↓Ag p0,↓Ag p1,↓Au h1,↓Au h2,↓Ct,↓Ag t16];exact A6 rfl)
  ·refine ⟨.mk 15 0 [],true,⟨100,fun n hn=>?_⟩,tg (leafT 15 0 (by decide) (by decide) (Nd (by decide) (by decide) (by decide))) (fun _=>.tint e g a o14)⟩;obtain ⟨n,rfl⟩:=psc n (by omega);have hw:=Ax (n:=n) (by omega) r.op (m:=5) (by omega) (by omega);have t15:=AY (n:=n) (by omega) 15;have h45:(0:Int)<(e:Int) - 5->¬ r.op % 5=4/\¬ 1<r.op % 5:=by omega
   rw [pE];rw [hae];clear hG hG2 hg ha leafT tint hae hu1 hu2 hop hnr hs;generalize r.op % 5=w5 at hw h45;obtain ⟨o2,x2,k2⟩:=r;simp only [Tm.op] at hw;simp only [AM,Ah4,An] at t15 ⊢;by_cases hd0:(0:Int)<(e:Int) - 5
   ·obtain ⟨h45,h15⟩:=h45 hd0;simp only [↓IJ,↓XX,XY,↓reduceIte,seval,hd0,↓Ag hw,h45,h15,↓Ag t15];exact A6 rfl
   ·simp only [↓IJ,↓XX,XY,↓reduceIte,seval,hd0,↓Ag t15];exact A6 rfl
 have o2:a.op=2:=by omega
 obtain ⟨hu3,hu4⟩:=hu1 o2;rw [o2] at hae;by_cases hn0:0<an
 ·refine ⟨.mk 2 (an - 1) [],true,⟨100,fun n hn=>?_⟩,tg (leafT 2 (an - 1) (by decide) (by decide) (by rw [BY,if_pos rfl];omega)) (fun _=>.uni e g a _ o2 (by have e1:a.n=an:=(congrArg Tm.n hae).trans rfl;omega))⟩;obtain ⟨n,rfl⟩:=psc n (by omega);have hw:=Ax (n:=n) (by omega) r.op (m:=5) (by omega) (by omega);have wu:BF (an - 1)=an - 1:=by rw [Az]<;>omega
  have hu:=Hd (n:=n) (by omega) (an - 1);rw [<- wu] at hu;rw [pE];rw [hae,<- wu];clear hG hG2 hg ha leafT tint hae hu1 hu2 hop hnr wu;generalize r.op % 5=w5 at hw;obtain ⟨o2,x2,k2⟩:=r;simp only [Tm.op] at hw;simp only [AM,Ah4,An] at hu ⊢;by_cases hd0:(0:Int)<(e:Int) - 5
  ·by_cases h4:w5=4
   ·simp only [↓IJ,↓XX,XY,↓reduceIte,seval,hd0,↓Ag hw,h4,hn0,↓Ar hu];exact A6 rfl
   ·simp only [↓IJ,↓XX,XY,↓reduceIte,seval,hd0,↓Ag hw,h4,hn0,↓Ar hu];exact A6 rfl
  ·simp only [↓IJ,↓XX,XY,↓reduceIte,seval,hd0,hn0,↓Ar hu];exact A6 rfl
 have han:an=0:=by omega
 subst han;have hq1:=Int.emod_nonneg r.op (show (4:Int)≠0 by decide)
 have hq2:=Int.emod_lt_of_pos r.op (show (0:Int)<4 by decide)
 by_cases hs:6<=e/\1<r.op % 4
 ·obtain ⟨x,p,⟨N1,h1⟩,tx⟩:=hG g a (r.pick 0) (Ba (by omega) hg) (BV ha);have hgx:GOk (e - 1) (g++[(1,x)]):=Dh (by rw [show e - 1+1=e by omega];exact hg) tx.sc (by have:=tx.wt;omega) (by have:=tx.dp;omega)
  have hax:AOk (g++[(1,x)]).length a:=⟨by rw [hae];exact IG (by decide) (by decide) (by rw [BY,if_pos rfl];omega),by omega,by omega⟩;obtain ⟨y,q,⟨N2,h2⟩,ty⟩:=hG (g++[(1,x)]) a (r.pick 1) hgx hax;have ys:y.sc (g.length+1):=by simpa using ty.sc
  obtain ⟨oo,hoo⟩:∃oo:Int,oo=3/\r.op % 4=2\/oo=6/\r.op % 4=3:=by
   by_cases h7:r.op % 4=2
   ·exact ⟨3,.inl ⟨rfl,h7⟩⟩
   ·exact ⟨6,.inr ⟨rfl,by omega⟩⟩
  have hsc:(Tm.mk oo 0 [x,y]).sc g.length:=by rcases hoo with ⟨rfl,_⟩ | ⟨rfl,_⟩<;>exact CR tx.sc ys
  refine ⟨.mk oo 0 [x,y],p && q,⟨N1+N2+100,fun n hn=>?_⟩,hsc,by have:=tx.wt;have:=ty.wt;rw [D1];omega,by have:=tx.dp;have:=ty.dp;rw [Ly];omega,fun hb=>.upi e g a x y oo (by omega) hs.1 o2 (bS tx (by omega)) (tx.gr (Ki hb)) (ty.gr (IR hb))⟩;obtain ⟨n,rfl⟩:=psc n (by omega);have h1:=h1 n (by omega);have h2:=h2 n (by omega);rw [<- we] at h1 h2;have hw:=Ax (n:=n) (by omega) r.op (m:=5) (by omega) (by omega);have hw4:=Ax (n:=n) (by omega) r.op (m:=4) (by omega) (by omega);have p0:=AV (n:=n) (by omega) r 0;have p1:=AV (n:=n) (by omega) r 1;have hm:=DN (n:=n) g 1 x (by omega) (by omega);have t3:=CO (n:=n) (by omega) oo [x,y];have hd0:(0:Int)<(e:Int) - 5:=by omega
  have w22:BF (2 - 2)=0:=by rw [Az]<;>omega
  have w32:BF (3 - 2)=1:=by rw [Az]<;>omega
  have w0:BF 0=0:=by rw [Az]<;>omega
  have w1:BF 1=1:=by rw [Az]<;>omega
  rw [pE];rw [hae] at h1 h2 ⊢;clear hG hG2 tx ty hg ha leafT tint hae hu1 hu2 hop hnr hs hsc hgx hax ys;generalize r.op % 5=w5 at hw;generalize r.op % 4=w4 at hw4 hoo;generalize r.pick 0=r0 at p0 h1;generalize r.pick 1=r1 at p1 h2;obtain ⟨o2,x2,k2⟩:=r;obtain ⟨o5,x5,k5⟩:=x;obtain ⟨o6,x6,k6⟩:=y;obtain ⟨o8,x8,k8⟩:=r0;obtain ⟨o9,x9,k9⟩:=r1;simp only [Tm.op] at hw hw4;simp only [AM,Ah5,Ah4,An] at h1 h2 p0 p1 hm t3 ⊢;rcases hoo with ⟨rfl,rfl⟩ | ⟨rfl,rfl⟩
  ·by_cases h4:w5=4<;>cases p<;>(simp only [↓IJ,↓XX,XY,↓reduceIte,seval,hd0,↓Ag hw,h4,↓Ag hw4,↓Ag p0,↓Ag p1,↓Au h1,↓Av hm,↓Au h2,↓Ct,↓oK,↓RQ,w22,w0,Int.reduceSub,↓Adn,↓Ag t3];exact A6 rfl)
  ·by_cases h4:w5=4<;>cases p<;>(simp only [↓IJ,↓XX,XY,↓reduceIte,seval,hd0,↓Ag hw,h4,↓Ag hw4,↓Ag p0,↓Ag p1,↓Au h1,↓Av hm,↓Au h2,↓Ct,↓oK,↓RQ,w32,w1,Int.reduceSub,↓Ae9,↓Ag t3];exact A6 rfl)
 ·have hj1:=Int.emod_nonneg r.n (show (3:Int)≠0 by decide)
  have hj2:=Int.emod_lt_of_pos r.n (show (0:Int)<3 by decide)
  obtain ⟨t,ht,tt⟩:∃t:Tm,(r.n % 3=0/\t=.mk 10 0 []\/r.n % 3=1/\t=.mk 14 0 []\/r.n % 3=2/\t=.mk 18 0 [.mk 15 0 []])/\TG 3 e g a t true:=by
   have h:r.n % 3=0\/r.n % 3=1\/r.n % 3=2:=by omega
   rcases h with h | h | h
   ·exact ⟨_,.inl ⟨h,rfl⟩,tg (leafT 10 0 (by decide) (by decide) (Nd (by decide) (by decide) (by decide))) (fun _=>.unat e g a o2)⟩
   ·exact ⟨_,.inr (.inl ⟨h,rfl⟩),tg (leafT 14 0 (by decide) (by decide) (Nd (by decide) (by decide) (by decide))) (fun _=>.uty e g a o2)⟩
   ·exact ⟨_,.inr (.inr ⟨h,rfl⟩),tg tint (fun _=>.ult e g a o2)⟩
  refine ⟨t,true,⟨100,fun n hn=>?_⟩,tt⟩;obtain ⟨n,rfl⟩:=psc n (by omega);have hw:=Ax (n:=n) (by omega) r.op (m:=5) (by omega) (by omega);have hw4:=Ax (n:=n) (by omega) r.op (m:=4) (by omega) (by omega);have hw3:=Ax (n:=n) (by omega) r.n (m:=3) (by omega) (by omega);have n4:=Lk (n:=n) (by omega);have t14:=AY (n:=n) (by omega) 14;have t15:=AY (n:=n) (by omega) 15;have t18:=CO (n:=n) (by omega) 18 [.mk 15 0 []];have h41:(0:Int)<(e:Int) - 5->¬ 1<r.op % 4:=by omega
  rw [pE];rw [hae];clear hG hG2 hg ha leafT tint hae hu1 hu2 hop hnr hs tt;generalize r.op % 5=w5 at hw;generalize r.op % 4=w4 at hw4 h41;generalize r.n % 3=w3 at hw3 ht;obtain ⟨o2,x2,k2⟩:=r;simp only [Tm.op,Tm.n] at hw hw4 hw3;simp only [AM,Ah5,Ah4,An] at n4 t14 t15 t18 ⊢;by_cases hd0:(0:Int)<(e:Int) - 5
  ·have h41:=h41 hd0;by_cases h4:w5=4
   ·rcases ht with ⟨rfl,rfl⟩ | ⟨rfl,rfl⟩ | ⟨rfl,rfl⟩<;>(simp only [↓IJ,↓XX,XY,↓reduceIte,seval,hd0,↓Ag hw,h4,↓Ag hw4,h41,↓EN n4,↓Ag t14,↓Ag t15,↓Dx,↓Ag t18,↓Jj,↓Ag hw3,↓RQ,↓El,↓EH,↓Gd,An];exact A6 rfl)
   ·rcases ht with ⟨rfl,rfl⟩ | ⟨rfl,rfl⟩ | ⟨rfl,rfl⟩<;>(simp only [↓IJ,↓XX,XY,↓reduceIte,seval,hd0,↓Ag hw,h4,↓Ag hw4,h41,↓EN n4,↓Ag t14,↓Ag t15,↓Dx,↓Ag t18,↓Jj,↓Ag hw3,↓RQ,↓El,↓EH,↓Gd,An];exact A6 rfl)
  ·rcases ht with ⟨rfl,rfl⟩ | ⟨rfl,rfl⟩ | ⟨rfl,rfl⟩<;>(simp only [↓IJ,↓XX,XY,↓reduceIte,seval,hd0,↓Ag hw4,↓EN n4,↓Ag t14,↓Ag t15,↓Dx,↓Ag t18,↓Jj,↓Ag hw3,↓RQ,↓El,↓EH,↓Gd,An];exact A6 rfl)
def YO {e:Nat} (h6:6<=e) (he:e<=10) (hO:Eg 42 2 (e - 2)) (hG:Eg 30 1 (e - 1)):Ou 72 4 e:=by
 intro g a r hg ha;have hlen:=hg.len;have hW1:Wg e=4 * Wg (e - 1):=by obtain ⟨f,rfl⟩:∃f,e=f+1:=⟨e - 1,by omega⟩;rw [Ld,Nat.add_sub_cancel]
 have hW2:Wg e=16 * Wg (e - 2):=by obtain ⟨f,rfl⟩:∃f,e=f+2:=⟨e - 2,by omega⟩;rw [show f+2=(f+1)+1 by omega,Ld,Ld,show f+1+1 - 2=f by omega];omega
 have hW0:=La (e - 2);have hW10:=Me he;have hD1:Dg e=Dg (e - 1)+10:=by unfold Dg;omega
 have hD2:Dg e=Dg (e - 2)+20:=by unfold Dg;omega
 have hD0:200<=Dg (e - 2):=by unfold Dg;omega
 have hDm:Dg e<=300:=by unfold Dg;omega
 have we:BF ((e:Int) - 5 - 1)=((e - 1:Nat):Int) - 5:=by rw [Az (by omega) (by omega)];omega
 have we2:BF ((e:Int) - 5 - 2)=((e - 2:Nat):Int) - 5:=by rw [Az (by omega) (by omega)];omega
 have aw:=ha.wt;have ad:=ha.dp;have hk1:=Int.emod_nonneg r.n (show (7:Int)≠0 by decide)
 have hk2:=Int.emod_lt_of_pos r.n (show (0:Int)<7 by decide)
 have hi:AOk g.length (.mk 15 0 []):=⟨C3,by simp only [Tm.wt,Tm.wtL];omega,by simp only [Tm.dp,Tm.dpL];omega⟩;have hs1:=MB ha (by omega) 1 (by omega);by_cases c0:r.n % 7=0
 ·obtain ⟨c,p,⟨N1,h1⟩,tc⟩:=hO g (.mk 15 0 []) (r.pick 0) (Ba (by omega) hg) hi;obtain ⟨x,q,⟨N2,h2⟩,tx⟩:=hO g a (r.pick 1) (Ba (by omega) hg) (BV ha);obtain ⟨y,f,⟨N3,h3⟩,ty⟩:=hO g a (r.pick 2) (Ba (by omega) hg) (BV ha);refine ⟨.mk 27 0 [c,x,y],p && (q && f),⟨N1+N2+N3+100000,fun n hn=>?_⟩,cQ tc.sc tx.sc ty.sc,by have:=tc.wt;have:=tx.wt;have:=ty.wt;rw [oB];omega,by have:=tc.dp;have:=tx.dp;have:=ty.dp;rw [dp3];omega,fun hb=>.oif e g a c x y h6 (tc.gr (Ki hb)) (tx.gr (Ki (IR hb))) (ty.gr (IR (IR hb)))⟩
  ·obtain ⟨n,rfl⟩:=psc n (by omega);have h1:=h1 n (by omega);have h2:=h2 n (by omega);have h3:=h3 n (by omega);rw [<- we2] at h1 h2 h3;have hw:=Ax (n:=n) (by omega) r.n (m:=7) (by omega) (by omega);have t15:=AY (n:=n) (by omega) 15;have p0:=AV (n:=n) (by omega) r 0;have p1:=AV (n:=n) (by omega) r 1;have p2:=AV (n:=n) (by omega) r 2;rw [c0] at hw;have t27:=CO (n:=n) (by omega) 27 [c,x,y];rw [zF];clear hO hG tc tx ty hg ha hi hs1;generalize r.pick 0=r0 at p0 h1;generalize r.pick 1=r1 at p1 h2;generalize r.pick 2=r2 at p2 h3;obtain ⟨o1,x1,k1⟩:=a;obtain ⟨o2,x2,k2⟩:=r;obtain ⟨o3,x3,k3⟩:=c;obtain ⟨o4,x4,k4⟩:=x;obtain ⟨o5,x5,k5⟩:=y;obtain ⟨o6,x6,k6⟩:=r0;obtain ⟨o7,x7,k7⟩:=r1;obtain ⟨o8,x8,k8⟩:=r2;simp only [Tm.n] at hw;simp only [AM,Ah5,Ah4,An] at h1 h2 h3 t15 p0 p1 p2 t27 ⊢;cases p
   ·simp only [↓RO,↓XX,XY,↓reduceIte,seval,↓Ag hw,↓Ag t15,↓Ag p0,↓Ag p1,↓Ag p2,↓Au h1,↓Au h2,↓Au h3,↓Jj,↓Ag t27];exact A6 rfl
   ·cases q
    ·simp only [↓RO,↓XX,XY,↓reduceIte,seval,↓Ag hw,↓Ag t15,↓Ag p0,↓Ag p1,↓Ag p2,↓Au h1,↓Au h2,↓Au h3,↓Jj,↓Ag t27];exact A6 rfl
    ·simp only [↓RO,↓XX,XY,↓reduceIte,seval,↓Ag hw,↓Ag t15,↓Ag p0,↓Ag p1,↓Ag p2,↓Au h1,↓Au h2,↓Au h3,↓Jj,↓Ag t27];exact A6 rfl
 by_cases qX:r.n % 7=1\/r.n % 7=2
 ·have hb:=Gx g.length 1 (r.pick 0);have hbw:=Ff 1 (r.pick 0);have hbd:=Dz ((r.pick 0).plainT 1);obtain ⟨b,hbe⟩:∃b,b=(r.pick 0).plainT 1:=⟨_,rfl⟩;rw [<- hbe] at hb hbw hbd;obtain ⟨x,p,⟨N1,h1⟩,tx⟩:=hO g b (r.pick 1) (Ba (by omega) hg) ⟨hb,by omega,by omega⟩;have hgb:GOk (e - 2) (g++[(0,b)]):=Dh (Ba (by omega) hg) hb (by omega) (by omega);obtain ⟨y,q,⟨N2,h2⟩,ty⟩:=hO (g++[(0,b)]) (a.shift 1 0) (r.pick 2) hgb (by simpa using BV hs1);have ys:y.sc (g.length+1):=by simpa using ty.sc
  obtain ⟨tt,htt,hok⟩:∃tt:Tm,(r.n % 7=1/\tt=.mk 28 0 [x,y]\/r.n % 7=2/\tt=.mk 21 0 [.mk 20 0 [b,y],x])/\TG 4 e g a tt (p && q):=by
   rcases qX with h | h
   ·exact ⟨_,.inl ⟨h,rfl⟩,CR tx.sc ys,by have:=tx.wt;have:=ty.wt;rw [D1];omega,by have:=tx.dp;have:=ty.dp;rw [Ly];omega,fun hpq=>by subst hbe;exact .olet e g a (r.pick 0) x y h6 (tx.gr (Ki hpq)) (ty.gr (IR hpq))⟩
   ·exact ⟨_,.inr ⟨h,rfl⟩,CR (CR hb ys) tx.sc,by have:=tx.wt;have:=ty.wt;rw [D1,D1];omega,by have:=tx.dp;have:=ty.dp;rw [Ly,Ly];omega,fun hpq=>by subst hbe;exact .oapp e g a (r.pick 0) x y h6 (tx.gr (Ki hpq)) (ty.gr (IR hpq))⟩
  refine ⟨tt,p && q,⟨N1+N2+100000,fun n hn=>?_⟩,hok⟩
  ·obtain ⟨n,rfl⟩:=psc n (by omega);have h1:=h1 n (by omega);have h2:=h2 n (by omega);rw [<- we2] at h1 h2;have hw:=Ax (n:=n) (by omega) r.n (m:=7) (by omega) (by omega);have t15:=AY (n:=n) (by omega) 15;have p0:=AV (n:=n) (by omega) r 0;have p1:=AV (n:=n) (by omega) r 1;have p2:=AV (n:=n) (by omega) r 2;have hp:=KO 1 n (r.pick 0) (by omega) (by omega);rw [<- hbe] at hp;have hm:=DN (n:=n) g 0 b (by omega) (by omega);have sh:=CS n a 1 0 (by omega) (C5 _ _ ha.sc) (by omega) (by omega);have t28:=CO (n:=n) (by omega) 28 [x,y];have t20:=CO (n:=n) (by omega) 20 [b,y];have t21:=CO (n:=n) (by omega) 21 [.mk 20 0 [b,y],x];rw [zF];clear hO hG tx ty hg ha hi hs1 hbe hb hgb ys hok qX;generalize r.n % 7=w7 at hw htt;generalize a.shift 1 0=a1 at sh h2;generalize r.pick 0=r0 at p0 hp;generalize r.pick 1=r1 at p1 h1;generalize r.pick 2=r2 at p2 h2;obtain ⟨o1,x1,k1⟩:=a;obtain ⟨o2,x2,k2⟩:=r;obtain ⟨o3,x3,k3⟩:=b;obtain ⟨o4,x4,k4⟩:=x;obtain ⟨o5,x5,k5⟩:=y;obtain ⟨o6,x6,k6⟩:=r0;obtain ⟨o7,x7,k7⟩:=r1;obtain ⟨o8,x8,k8⟩:=r2;obtain ⟨o9,x9,k9⟩:=a1;simp only [Tm.n] at hw;simp only [AM,Ah5,Ah4,An] at h1 h2 t15 p0 p1 p2 hp hm sh t28 t20 t21 ⊢;rcases htt with ⟨rfl,rfl⟩ | ⟨rfl,rfl⟩
   ·cases p<;>(simp only [↓RO,↓XX,XY,↓reduceIte,seval,↓Ag hw,↓Ag t15,↓Ag p0,↓Ag p1,↓Ag p2,↓Ag hp,↓Au h1,↓Av hm,↓Av sh,↓Au h2,↓Ct,↓Ag t28,An,Ah5,Ah4];exact A6 rfl)
   ·cases p<;>(simp only [↓RO,↓XX,XY,↓reduceIte,seval,↓Ag hw,↓Ag t15,↓Ag p0,↓Ag p1,↓Ag p2,↓Ag hp,↓Au h1,↓Av hm,↓Av sh,↓Au h2,↓Ct,↓Ag t20,↓Ag t21,An,Ah5,Ah4];exact A6 rfl)
 by_cases c3:r.n % 7=3
 ·obtain ⟨x,p,⟨N1,h1⟩,tx⟩:=hO g a (r.pick 0) (Ba (by omega) hg) (BV ha);obtain ⟨y,q,⟨N2,h2⟩,ty⟩:=hO g (.mk 15 0 []) (r.pick 1) (Ba (by omega) hg) hi;refine ⟨.mk 23 0 [.mk 22 0 [x,y]],p && q,⟨N1+N2+100000,fun n hn=>?_⟩,FO (CR tx.sc ty.sc),by have:=tx.wt;have:=ty.wt;rw [Ll,D1];omega,by have:=tx.dp;have:=ty.dp;rw [gB,Ly];omega,fun hb=>.ofst e g a x y h6 (tx.gr (Ki hb)) (ty.gr (IR hb))⟩
  ·obtain ⟨n,rfl⟩:=psc n (by omega);have h1:=h1 n (by omega);have h2:=h2 n (by omega);rw [<- we2] at h1 h2;have hw:=Ax (n:=n) (by omega) r.n (m:=7) (by omega) (by omega);have t15:=AY (n:=n) (by omega) 15;have p0:=AV (n:=n) (by omega) r 0;have p1:=AV (n:=n) (by omega) r 1;have p2:=AV (n:=n) (by omega) r 2;rw [c3] at hw;have t22:=CO (n:=n) (by omega) 22 [x,y];have t23:=CO (n:=n) (by omega) 23 [.mk 22 0 [x,y]];rw [zF];clear hO hG tx ty hg ha hi hs1;generalize r.pick 0=r0 at p0 h1;generalize r.pick 1=r1 at p1 h2;obtain ⟨o1,x1,k1⟩:=a;obtain ⟨o2,x2,k2⟩:=r;obtain ⟨o4,x4,k4⟩:=x;obtain ⟨o5,x5,k5⟩:=y;obtain ⟨o6,x6,k6⟩:=r0;obtain ⟨o7,x7,k7⟩:=r1;simp only [Tm.n] at hw;simp only [AM,Ah5,Ah4,An] at h1 h2 t15 p0 p1 t22 t23 ⊢;cases p<;>(simp only [↓RO,↓XX,XY,↓reduceIte,seval,↓Ag hw,↓Ag t15,↓Ag p0,↓Ag p1,↓Au h1,↓Au h2,↓Ct,↓Dx,↓Ag t22,↓Ag t23];exact A6 rfl)
 by_cases c4:r.n % 7=4
 ·have hga:GOk (e - 2) (g++[(0,a)]):=Dh (Ba (by omega) hg) ha.sc (by omega) (by omega);obtain ⟨x,p,⟨N1,h1⟩,tx⟩:=hO (g++[(0,a)]) (a.shift 1 0) (r.pick 0) hga (by simpa using BV hs1);have xs:x.sc (g.length+1):=by simpa using tx.sc
  refine ⟨.mk 29 0 [a,x],p,⟨N1+100000,fun n hn=>?_⟩,CR ha.sc xs,by have:=tx.wt;rw [D1];omega,by have:=tx.dp;rw [Ly];omega,fun hb=>.ofix e g a x h6 (tx.gr hb)⟩
  ·obtain ⟨n,rfl⟩:=psc n (by omega);have h1:=h1 n (by omega);rw [<- we2] at h1;have hw:=Ax (n:=n) (by omega) r.n (m:=7) (by omega) (by omega);have t15:=AY (n:=n) (by omega) 15;have p0:=AV (n:=n) (by omega) r 0;have p1:=AV (n:=n) (by omega) r 1;have p2:=AV (n:=n) (by omega) r 2;rw [c4] at hw;have hm:=DN (n:=n) g 0 a (by omega) (by omega);have sh:=CS n a 1 0 (by omega) (C5 _ _ ha.sc) (by omega) (by omega);have t29:=CO (n:=n) (by omega) 29 [a,x];rw [zF];clear hO hG tx hg ha hi hs1 hga xs;generalize a.shift 1 0=a1 at sh h1;generalize r.pick 0=r0 at p0 h1;obtain ⟨o1,x1,k1⟩:=a;obtain ⟨o2,x2,k2⟩:=r;obtain ⟨o4,x4,k4⟩:=x;obtain ⟨o6,x6,k6⟩:=r0;obtain ⟨o9,x9,k9⟩:=a1;simp only [Tm.n] at hw;simp only [AM,Ah5,Ah4,An] at h1 t15 p0 hm sh t29 ⊢;simp only [↓RO,↓XX,XY,↓reduceIte,seval,↓Ag hw,↓Ag t15,↓Ag p0,↓Av hm,↓Av sh,↓Au h1,↓Ct,↓Ag t29];exact A6 rfl
 ·have hla:AOk g.length (.mk 18 0 [a]):=⟨FO ha.sc,by rw [Ll];omega,by rw [gB];omega⟩;obtain ⟨x,p,⟨N1,h1⟩,tx⟩:=hG g (.mk 18 0 [a]) (r.pick 0) (Ba (by omega) hg) hla;refine ⟨.mk 30 0 [x],p,⟨N1+100000,fun n hn=>?_⟩,FO tx.sc,by have:=tx.wt;rw [Ll];omega,by have:=tx.dp;rw [gB];omega,fun hb=>.spl e g a x h6 (tx.gr hb)⟩
  ·obtain ⟨n,rfl⟩:=psc n (by omega);have h1:=h1 n (by omega);rw [<- we] at h1;have hw:=Ax (n:=n) (by omega) r.n (m:=7) (by omega) (by omega);have t15:=AY (n:=n) (by omega) 15;have p0:=AV (n:=n) (by omega) r 0;have p1:=AV (n:=n) (by omega) r 1;have p2:=AV (n:=n) (by omega) r 2;have c1:¬ r.n % 7=1:=fun h=>qX (.inl h);have c2:¬ r.n % 7=2:=fun h=>qX (.inr h);have t18:=CO (n:=n) (by omega) 18 [a];have t30:=CO (n:=n) (by omega) 30 [x];rw [zF];clear hO hG tx hg ha hi hs1 hla qX hk1 hk2;generalize r.n % 7=w7 at hw c0 c1 c2 c3 c4;generalize r.pick 0=r0 at p0 h1;obtain ⟨o1,x1,k1⟩:=a;obtain ⟨o2,x2,k2⟩:=r;obtain ⟨o4,x4,k4⟩:=x;obtain ⟨o6,x6,k6⟩:=r0;simp only [Tm.n] at hw;simp only [AM,Ah5,Ah4,An] at h1 t15 p0 t18 t30 ⊢;simp only [↓RO,↓XX,XY,↓reduceIte,seval,↓Ag hw,c0,c1,c2,c3,c4,↓Ag t15,↓Ag p0,↓Dx,↓Ag t18,↓Au h1,↓Ag t30];exact A6 rfl
def Gh {k:Nat} {a:Tm} {r:Nat} (h:NOk k a) (hr:ar a.op=some r):a.kids.length=r:=FY h.sc rfl hr
theorem Vy {l:List Tm} (h:l.length=2):∃x y,l=[x,y]:=by
 match l,h with
 | [x,y],_=>exact ⟨x,y,rfl⟩
theorem yC {l:List Tm} (h:l.length=1):∃x,l=[x]:=by
 match l,h with
 | [x],_=>exact ⟨x,rfl⟩
def AbD {l:List Tm} (h:l.length=0):l=[]:=Aia h
def Yv {e:Nat} (he:e<=10) (hO:1<=e->Eg 42 2 (e - 1)) (hA:6<=e->Ou 72 4 e):Eg 42 2 e:=by
 intro g a0 r hg ha0;have hlen:=hg.len;have hW0:=La e;have hD0:200<=Dg e:=by unfold Dg;omega
 have hDm:Dg e<=300:=by unfold Dg;omega
 have hW10:=Me he;obtain ⟨a,er,⟨N0,h0⟩,hcase,fn,hfn⟩:=Gu (k:=g.length) (by omega) ha0.sc (by have:=ha0.dp;omega);rcases hcase with ⟨rfl,ha⟩ | ⟨her,rfl⟩
 case inr =>
  have hne:er≠0:=by omega
  refine ⟨.z,false,⟨N0+100,fun n hn=>?_⟩,w6 _,by simp only [Tm.z,Tm.wt,Tm.wtL];omega,by simp only [Tm.z,Tm.dp,Tm.dpL];omega,fun h=>by cases h⟩;obtain ⟨n,rfl⟩:=psc n (by omega);have h0:=h0 n (by omega);rw [oQ];clear hO hA hg ha0;obtain ⟨o1,x1,k1⟩:=a0;obtain ⟨o2,x2,k2⟩:=r;simp only [AM,Tm.z,Ah4,An] at h0 ⊢;simp only [↓M5,↓XX,XY,↓reduceIte,seval,↓Ar h0,hne];exact A6 rfl
 obtain ⟨v,is,⟨N1,h1⟩,tv0,hhit⟩:=KY hg 0 ha r.n;have up:∀{t:Tm},Gr 4 e g a t->Gr 2 e g a0 t:=fun h=>.objc e g a0 a _ fn hfn (by omega) ha h;have tv:TG 2 e g a0 v is:=tg (R9 (Nat.zero_le _) tv0) (fun hb=>by
  obtain ⟨i,rfl,hi⟩:=hhit hb;exact up (.var0 e g a i hi))
 clear tv0 hhit;have aw:=ha.wt;have ad:=ha.dp;have hw3m:=Int.emod_nonneg r.op (show (3:Int)≠0 by decide)
 by_cases cv:is=true/\r.op % 3=0\/e=0
 ·refine ⟨v,is,⟨N0+N1+100,fun n hn=>?_⟩,tv⟩;obtain ⟨n,rfl⟩:=psc n (by omega);have h0:=h0 n (by omega);have h1:=h1 n (by omega);have hw:=Ax (n:=n) (by omega) r.op (m:=3) (by omega) (by omega);rw [oQ];clear up hfn hO hA hg ha0 ha tv;obtain ⟨o0,x0,k0⟩:=a0;obtain ⟨o1,x1,k1⟩:=a;obtain ⟨o2,x2,k2⟩:=r;obtain ⟨o3,x3,k3⟩:=v;simp only [Tm.n,Tm.op] at h1 hw cv;simp only [AM,An] at h0 h1 ⊢;generalize o2 % 3=w3 at hw cv;rcases cv with ⟨rfl,rfl⟩ | rfl
  ·simp only [↓M5,↓XX,XY,↓reduceIte,seval,↓Ar h0,↓Au h1,↓Ag hw];exact A6 rfl
  ·have hd4:((0:Nat):Int) - 5 < -4:=by omega
   cases is
   ·simp only [↓M5,↓XX,XY,↓reduceIte,seval,↓Ar h0,↓Au h1,↓Ag hw,hd4,Int.reduceSub,Int.reduceLT,Int.reduceNeg];exact A6 rfl
   ·by_cases h3:w3=0
    ·simp only [↓M5,↓XX,XY,↓reduceIte,seval,↓Ar h0,↓Au h1,↓Ag hw,h3,hd4,Int.reduceSub,Int.reduceLT,Int.reduceNeg];exact A6 rfl
    ·simp only [↓M5,↓XX,XY,↓reduceIte,seval,↓Ar h0,↓Au h1,↓Ag hw,h3,hd4,Int.reduceSub,Int.reduceLT,Int.reduceNeg];exact A6 rfl
 have he1:1<=e:=by omega
 have hd4:¬ (e:Int) - 5 < -4:=by omega
 have hv:is=true->¬ r.op % 3=0:=fun h1 h2=>cv (.inl ⟨h1,h2⟩);have hW1:Wg e=4 * Wg (e - 1):=by obtain ⟨f,rfl⟩:∃f,e=f+1:=⟨e - 1,by omega⟩;rw [Ld,Nat.add_sub_cancel]
 have hW01:=La (e - 1);have hD1:Dg e=Dg (e - 1)+10:=by unfold Dg;omega
 have hD01:200<=Dg (e - 1):=by unfold Dg;omega
 have we:BF ((e:Int) - 5 - 1)=((e - 1:Nat):Int) - 5:=by rw [Az (by omega) (by omega)];omega
 have hO:=hO he1;by_cases ca:6<=e/\r.op % 3=1
 ·obtain ⟨t,b,⟨N2,h2⟩,tt⟩:=hA ca.1 g a r hg ha;refine ⟨t,b,⟨N0+N1+N2+100,fun n hn=>?_⟩,cK tt up⟩;obtain ⟨n,rfl⟩:=psc n (by omega);have h0:=h0 n (by omega);have h1:=h1 n (by omega);have h2:=h2 n (by omega);have hw:=Ax (n:=n) (by omega) r.op (m:=3) (by omega) (by omega);rw [ca.2] at hw;have hd0:(0:Int)<(e:Int) - 5:=by omega
  rw [oQ];clear up hfn hO hA hg ha0 ha tv tt;obtain ⟨o0,x0,k0⟩:=a0;obtain ⟨o1,x1,k1⟩:=a;obtain ⟨o2,x2,k2⟩:=r;obtain ⟨o3,x3,k3⟩:=v;obtain ⟨o4,x4,k4⟩:=t;simp only [Tm.n,Tm.op] at h1 hw;simp only [AM,An] at h0 h1 h2 ⊢;cases is<;>(simp only [↓M5,↓XX,XY,↓reduceIte,seval,↓Ar h0,↓Au h1,↓Ag hw,hd4,hd0,↓Au h2];exact A6 rfl)
 have hna:(0:Int)<(e:Int) - 5->¬ r.op % 3=1:=by omega
 by_cases o15:a.op=15
 ·have hl:=AbD (Gh ha (show ar a.op=some 0 by rw [o15];decide))
  by_cases hs:6<=e/\r.op % 2=1
  ·obtain ⟨x,p,⟨N2,h2⟩,tx⟩:=hO g a (r.pick 0) (Ba (by omega) hg) (BV ha);obtain ⟨y,q,⟨N3,h3⟩,ty⟩:=hO g a (r.pick 1) (Ba (by omega) hg) (BV ha);have hj1:=Int.emod_nonneg r.n (show (5:Int)≠0 by decide)
   have hj2:=Int.emod_lt_of_pos r.n (show (0:Int)<5 by decide)
   refine ⟨.mk 26 (r.n % 5) [x,y],p && q,⟨N0+N1+N2+N3+100,fun n hn=>?_⟩,d5 (by decide) (by decide) (by rw [BY,if_neg (by decide),if_pos rfl];omega) tx.sc ty.sc,by have:=tx.wt;have:=ty.wt;rw [D1];omega,by have:=tx.dp;have:=ty.dp;rw [Ly];omega,fun hb=>up (.oprim e g a x y _ hs.1 o15 (tx.gr (Ki hb)) (ty.gr (IR hb)))⟩;obtain ⟨n,rfl⟩:=psc n (by omega);have h0:=h0 n (by omega);have h1:=h1 n (by omega);have h2:=h2 n (by omega);have h3:=h3 n (by omega);rw [<- we] at h2 h3;have hw:=Ax (n:=n) (by omega) r.op (m:=3) (by omega) (by omega);have hw2:=Ax (n:=n) (by omega) r.op (m:=2) (by omega) (by omega);rw [hs.2] at hw2;have hw5:=Ax (n:=n) (by omega) r.n (m:=5) (by omega) (by omega);have p0:=AV (n:=n) (by omega) r 0;have p1:=AV (n:=n) (by omega) r 1;have hd0:(0:Int)<(e:Int) - 5:=by omega
   replace hna:=hna hd0;rw [oQ];clear up hfn hO hA hg ha0 ha tv tx ty hj1 hj2;generalize r.op % 3=w3 at hw hv hna;generalize r.n % 5=w5 at hw5 ⊢;generalize r.pick 0=r0 at p0 h2;generalize r.pick 1=r1 at p1 h3;obtain ⟨o0,x0,k0⟩:=a0;obtain ⟨o1,x1,k1⟩:=a;simp only [Tm.op,Tm.kids] at o15 hl;subst o15 hl;obtain ⟨o2,x2,k2⟩:=r;obtain ⟨o3,x3,k3⟩:=v;obtain ⟨o4,x4,k4⟩:=x;obtain ⟨o5,x5,k5⟩:=y;obtain ⟨o6,x6,k6⟩:=r0;obtain ⟨o7,x7,k7⟩:=r1;simp only [Tm.n,Tm.op] at h1 hw hw2 hw5;simp only [AM,An,Ah5,Ah4] at h0 h1 h2 h3 p0 p1 ⊢;cases is<;>cases p<;>(simp only [↓M5,↓XX,XY,↓reduceIte,seval,↓Ar h0,↓Au h1,↓Ag hw,hv,hd4,hd0,hna,↓Ag hw2,↓Ag p0,↓Ag p1,↓Au h2,↓Au h3,↓Ag hw5,↓Ct];exact A6 rfl)
  ·have hj1:=Int.emod_nonneg r.n (show (20:Int)≠0 by decide)
   have hj2:=Int.emod_lt_of_pos r.n (show (0:Int)<20 by decide)
   refine ⟨.mk 25 (r.n % 20 - 5) [],true,⟨N0+N1+100,fun n hn=>?_⟩,IG (by decide) (by decide) (by rw [BY,if_neg (by decide),if_neg (by decide),if_pos rfl];omega),by simp only [Tm.wt,Tm.wtL];omega,by simp only [Tm.dp,Tm.dpL];omega,fun _=>up (.oint e g a _ o15)⟩;obtain ⟨n,rfl⟩:=psc n (by omega);have h0:=h0 n (by omega);have h1:=h1 n (by omega);have hw:=Ax (n:=n) (by omega) r.op (m:=3) (by omega) (by omega);have hw2:=Ax (n:=n) (by omega) r.op (m:=2) (by omega) (by omega);have hw20:=Ax (n:=n) (by omega) r.n (m:=20) (by omega) (by omega);have w5:BF (r.n % 20 - 5)=r.n % 20 - 5:=by rw [Az]<;>omega
   have hin:=dH (n:=n) (by omega) (r.n % 20 - 5);rw [<- w5] at hin;have h21:(0:Int)<(e:Int) - 5->¬ r.op % 2=1:=by omega
   rw [oQ,<- w5];clear up hfn hO hA hg ha0 ha tv hj1 hj2 w5 hs;generalize r.op % 3=w3 at hw hv hna;generalize r.op % 2=w2 at hw2 h21;generalize r.n % 20=w20 at hw20 hin ⊢;obtain ⟨o0,x0,k0⟩:=a0;obtain ⟨o1,x1,k1⟩:=a;simp only [Tm.op,Tm.kids] at o15 hl;subst o15 hl;obtain ⟨o2,x2,k2⟩:=r;obtain ⟨o3,x3,k3⟩:=v;simp only [Tm.n,Tm.op] at h1 hw hw2 hw20;simp only [AM,An,Ah5,Ah4] at h0 h1 hin ⊢;cases is<;>by_cases hd0:(0:Int)<(e:Int) - 5<;>(simp only [↓M5,↓XX,XY,↓reduceIte,seval,↓Ar h0,↓Au h1,↓Ag hw,hv,hd4,hd0,hna,↓Ag hw2,h21,↓Ag hw20,↓Ar hin];exact A6 rfl)
 by_cases o16:a.op=16
 ·obtain ⟨d,c,hl⟩:=Vy (Gh ha (show ar a.op=some 2 by rw [o16];decide))
  have hd:NOk g.length d/\NOk g.length c:=by obtain ⟨o1,x1,k1⟩:=a;simp only [Tm.op,Tm.kids] at o16 hl;subst o16 hl;have hsc:=ha.sc;rw [Tm.sc] at hsc;rw [D1] at aw;rw [Ly] at ad;exact ⟨⟨hsc.2.2.1,by omega,by omega⟩,⟨hsc.2.2.2.1,by omega,by omega⟩⟩
  obtain ⟨hd,hc⟩:=hd;have hgd:GOk (e - 1) (g++[(0,d)]):=Dh (by rw [show e - 1+1=e by omega];exact hg) hd.sc (by have:=hd.wt;omega) (by have:=hd.dp;omega)
  obtain ⟨x,p,⟨N2,h2⟩,tx⟩:=hO (g++[(0,d)]) (c.shift 1 0) (r.pick 0) hgd (by simpa using BV (MB hc (by omega) 1 (by omega)));have xs:x.sc (g.length+1):=by simpa using tx.sc
  refine ⟨.mk 20 0 [d,x],p,⟨N0+N1+N2+100000,fun n hn=>?_⟩,CR hd.sc xs,by have:=tx.wt;have:=hd.wt;rw [D1];omega,by have:=tx.dp;have:=hd.dp;rw [Ly];omega,fun hb=>up (by
   obtain ⟨oa,xa,ka⟩:=a;simp only [Tm.op,Tm.kids] at o16 hl;subst o16 hl;exact .olam e g _ d c x (tx.gr hb))⟩
  ·obtain ⟨n,rfl⟩:=psc n (by omega);have h0:=h0 n (by omega);have h1:=h1 n (by omega);have h2:=h2 n (by omega);rw [<- we] at h2;have hw:=Ax (n:=n) (by omega) r.op (m:=3) (by omega) (by omega);have p0:=AV (n:=n) (by omega) r 0;have hm:=DN (n:=n) g 0 d (by omega) (by omega);have sh:=CS n c 1 0 (by have:=hc.wt;omega) (C5 _ _ hc.sc) (by omega) (by have:=hc.wt;omega);have t20:=CO (n:=n) (by omega) 20 [d,x];rw [oQ];clear up hfn hO hA hg ha0 ha tv tx hd hc hgd xs;generalize r.op % 3=w3 at hw hv hna;generalize c.shift 1 0=c1 at sh h2;generalize r.pick 0=r0 at p0 h2;obtain ⟨o0,x0,k0⟩:=a0;obtain ⟨o1,x1,k1⟩:=a;simp only [Tm.op,Tm.kids] at o16 hl;subst o16 hl;obtain ⟨o2,x2,k2⟩:=r;obtain ⟨o3,x3,k3⟩:=v;obtain ⟨o4,x4,k4⟩:=x;obtain ⟨o5,x5,k5⟩:=d;obtain ⟨o6,x6,k6⟩:=c;obtain ⟨o7,x7,k7⟩:=c1;obtain ⟨o8,x8,k8⟩:=r0;simp only [Tm.n,Tm.op] at h1 hw;simp only [AM,An,Ah5,Ah4] at h0 h1 h2 p0 hm sh t20 ⊢;cases is<;>by_cases hd0:(0:Int)<(e:Int) - 5<;>(simp only [↓M5,↓XX,XY,↓reduceIte,seval,↓Ar h0,↓Au h1,↓Ag hw,hv,hd4,hd0,hna,↓El,↓EH,↓Ag p0,↓Av hm,↓Av sh,↓Au h2,↓Ct,↓Ag t20];exact A6 rfl)
 by_cases o17:a.op=17
 ·obtain ⟨d,c,hl⟩:=Vy (Gh ha (show ar a.op=some 2 by rw [o17];decide))
  have hd:NOk g.length d/\NOk g.length c:=by obtain ⟨o1,x1,k1⟩:=a;simp only [Tm.op,Tm.kids] at o17 hl;subst o17 hl;have hsc:=ha.sc;rw [Tm.sc] at hsc;rw [D1] at aw;rw [Ly] at ad;exact ⟨⟨hsc.2.2.1,by omega,by omega⟩,⟨hsc.2.2.2.1,by omega,by omega⟩⟩
  obtain ⟨hd,hc⟩:=hd;obtain ⟨x,p,⟨N2,h2⟩,tx⟩:=hO g d (r.pick 0) (Ba (by omega) hg) (BV hd);obtain ⟨y,q,⟨N3,h3⟩,ty⟩:=hO g c (r.pick 1) (Ba (by omega) hg) (BV hc);refine ⟨.mk 22 0 [x,y],p && q,⟨N0+N1+N2+N3+100,fun n hn=>?_⟩,CR tx.sc ty.sc,by have:=tx.wt;have:=ty.wt;rw [D1];omega,by have:=tx.dp;have:=ty.dp;rw [Ly];omega,fun hb=>up (by
   obtain ⟨oa,xa,ka⟩:=a;simp only [Tm.op,Tm.kids] at o17 hl;subst o17 hl;exact .opair e g _ d c x y (tx.gr (Ki hb)) (ty.gr (IR hb)))⟩
  ·obtain ⟨n,rfl⟩:=psc n (by omega);have h0:=h0 n (by omega);have h1:=h1 n (by omega);have h2:=h2 n (by omega);have h3:=h3 n (by omega);rw [<- we] at h2 h3;have hw:=Ax (n:=n) (by omega) r.op (m:=3) (by omega) (by omega);have p0:=AV (n:=n) (by omega) r 0;have p1:=AV (n:=n) (by omega) r 1;have t22:=CO (n:=n) (by omega) 22 [x,y];rw [oQ];clear up hfn hO hA hg ha0 ha tv tx ty hd hc;generalize r.op % 3=w3 at hw hv hna;generalize r.pick 0=r0 at p0 h2;generalize r.pick 1=r1 at p1 h3;obtain ⟨o0,x0,k0⟩:=a0;obtain ⟨o1,x1,k1⟩:=a;simp only [Tm.op,Tm.kids] at o17 hl;subst o17 hl;obtain ⟨o2,x2,k2⟩:=r;obtain ⟨o3,x3,k3⟩:=v;obtain ⟨o4,x4,k4⟩:=x;obtain ⟨o5,x5,k5⟩:=d;obtain ⟨o6,x6,k6⟩:=c;obtain ⟨o7,x7,k7⟩:=y;obtain ⟨o8,x8,k8⟩:=r0;obtain ⟨o9,x9,k9⟩:=r1;simp only [Tm.n,Tm.op] at h1 hw;simp only [AM,An,Ah5,Ah4] at h0 h1 h2 h3 p0 p1 t22 ⊢;cases is<;>by_cases hd0:(0:Int)<(e:Int) - 5<;>cases p<;>(simp only [↓M5,↓XX,XY,↓reduceIte,seval,↓Ar h0,↓Au h1,↓Ag hw,hv,hd4,hd0,hna,↓El,↓EH,↓Ag p0,↓Ag p1,↓Au h2,↓Au h3,↓Ct,↓Ag t22];exact A6 rfl)
 refine ⟨v,is,⟨N0+N1+100,fun n hn=>?_⟩,tv⟩
 ·obtain ⟨n,rfl⟩:=psc n (by omega);have h0:=h0 n (by omega);have h1:=h1 n (by omega);have hw:=Ax (n:=n) (by omega) r.op (m:=3) (by omega) (by omega);rw [oQ];clear up hfn hO hA hg ha0 ha tv;generalize r.op % 3=w3 at hw hv hna;obtain ⟨o0,x0,k0⟩:=a0;obtain ⟨o1,x1,k1⟩:=a;obtain ⟨o2,x2,k2⟩:=r;obtain ⟨o3,x3,k3⟩:=v;simp only [Tm.n,Tm.op] at h1 hw o15 o16 o17;simp only [AM,An] at h0 h1 ⊢;cases is<;>by_cases hd0:(0:Int)<(e:Int) - 5<;>(simp only [↓M5,↓XX,XY,↓reduceIte,seval,↓Ar h0,↓Au h1,↓Ag hw,hv,hd4,hd0,hna,o15,o16,o17];exact A6 rfl)
def iT {e:Nat} (he:e<=10) (hG:1<=e->Eg 30 1 (e - 1)) (hO:1<=e->Eg 42 2 (e - 1)) (hA:6<=e->Ou 67 3 e) (hP:1<=e->Zt 68 3 e):Eg 30 1 e:=by
 intro g a0 r hg ha0;have hlen:=hg.len;have hW0:=La e;have hD0:200<=Dg e:=by unfold Dg;omega
 have hDm:Dg e<=300:=by unfold Dg;omega
 have hW10:=Me he;obtain ⟨a,er,⟨N0,h0⟩,hcase,fn,hfn⟩:=Gu (k:=g.length) (by omega) ha0.sc (by have:=ha0.dp;omega);rcases hcase with ⟨rfl,ha⟩ | ⟨her,rfl⟩
 case inr =>
  have hne:er≠0:=by omega
  refine ⟨.z,false,⟨N0+100,fun n hn=>?_⟩,w6 _,by simp only [Tm.z,Tm.wt,Tm.wtL];omega,by simp only [Tm.z,Tm.dp,Tm.dpL];omega,fun h=>by cases h⟩;obtain ⟨n,rfl⟩:=psc n (by omega);have h0:=h0 n (by omega);rw [gH];clear hG hO hA hP hg ha0;obtain ⟨o1,x1,k1⟩:=a0;obtain ⟨o2,x2,k2⟩:=r;simp only [AM,Tm.z,Ah4,An] at h0 ⊢;simp only [↓Jg,↓XX,XY,↓reduceIte,seval,↓Ar h0,hne];exact A6 rfl
 obtain ⟨v,is,⟨N1,h1⟩,tv0,hhit⟩:=KY hg 1 ha r.n;have up:∀{t:Tm},Gr 3 e g a t->Gr 1 e g a0 t:=fun h=>.grow e g a0 a _ fn hfn (by omega) ha h;have tv:TG 1 e g a0 v is:=tg (R9 (Nat.zero_le _) tv0) (fun hb=>by
  obtain ⟨i,rfl,hi⟩:=hhit hb;exact up (.var1 e g a i hi))
 clear tv0 hhit;have aw:=ha.wt;have ad:=ha.dp;have hw3m:=Int.emod_nonneg r.op (show (3:Int)≠0 by decide)
 by_cases cv:is=true/\r.op % 3=0\/e=0
 ·refine ⟨v,is,⟨N0+N1+100,fun n hn=>?_⟩,tv⟩;obtain ⟨n,rfl⟩:=psc n (by omega);have h0:=h0 n (by omega);have h1:=h1 n (by omega);have hw:=Ax (n:=n) (by omega) r.op (m:=3) (by omega) (by omega);rw [gH];clear up hfn hG hO hA hP hg ha0 ha tv;obtain ⟨o0,x0,k0⟩:=a0;obtain ⟨o1,x1,k1⟩:=a;obtain ⟨o2,x2,k2⟩:=r;obtain ⟨o3,x3,k3⟩:=v;simp only [Tm.n,Tm.op] at h1 hw cv;simp only [AM,An] at h0 h1 ⊢;generalize o2 % 3=w3 at hw cv;rcases cv with ⟨rfl,rfl⟩ | rfl
  ·simp only [↓Jg,↓XX,XY,↓reduceIte,seval,↓Ar h0,↓Au h1,↓Ag hw];exact A6 rfl
  ·have hd4:((0:Nat):Int) - 5 < -4:=by omega
   cases is
   ·simp only [↓Jg,↓XX,XY,↓reduceIte,seval,↓Ar h0,↓Au h1,↓Ag hw,hd4,Int.reduceSub,Int.reduceLT,Int.reduceNeg];exact A6 rfl
   ·by_cases h3:w3=0
    ·simp only [↓Jg,↓XX,XY,↓reduceIte,seval,↓Ar h0,↓Au h1,↓Ag hw,h3,hd4,Int.reduceSub,Int.reduceLT,Int.reduceNeg];exact A6 rfl
    ·simp only [↓Jg,↓XX,XY,↓reduceIte,seval,↓Ar h0,↓Au h1,↓Ag hw,h3,hd4,Int.reduceSub,Int.reduceLT,Int.reduceNeg];exact A6 rfl
 have he1:1<=e:=by omega
 have hd4:¬ (e:Int) - 5 < -4:=by omega
 have hv:is=true->¬ r.op % 3=0:=fun h1 h2=>cv (.inl ⟨h1,h2⟩);have hW1:Wg e=4 * Wg (e - 1):=by obtain ⟨f,rfl⟩:∃f,e=f+1:=⟨e - 1,by omega⟩;rw [Ld,Nat.add_sub_cancel]
 have hW01:=La (e - 1);have hD1:Dg e=Dg (e - 1)+10:=by unfold Dg;omega
 have hD01:200<=Dg (e - 1):=by unfold Dg;omega
 have we:BF ((e:Int) - 5 - 1)=((e - 1:Nat):Int) - 5:=by rw [Az (by omega) (by omega)];omega
 have hO:=hO he1;have hG:=hG he1;have hP:=hP he1;by_cases ca:6<=e/\r.op % 7=6
 ·obtain ⟨t,b,⟨N2,h2⟩,tt⟩:=hA ca.1 g a r hg ha;refine ⟨t,b,⟨N0+N1+N2+100,fun n hn=>?_⟩,cK tt up⟩;obtain ⟨n,rfl⟩:=psc n (by omega);have h0:=h0 n (by omega);have h1:=h1 n (by omega);have h2:=h2 n (by omega);have hw:=Ax (n:=n) (by omega) r.op (m:=3) (by omega) (by omega);have hw7:=Ax (n:=n) (by omega) r.op (m:=7) (by omega) (by omega);rw [ca.2] at hw7;have hd0:(0:Int)<(e:Int) - 5:=by omega
  rw [gH];clear up hfn hG hO hA hP hg ha0 ha tv tt;generalize r.op % 3=w3 at hw hv;obtain ⟨o0,x0,k0⟩:=a0;obtain ⟨o1,x1,k1⟩:=a;obtain ⟨o2,x2,k2⟩:=r;obtain ⟨o3,x3,k3⟩:=v;obtain ⟨o4,x4,k4⟩:=t;simp only [Tm.n,Tm.op] at h1 hw hw7;simp only [AM,An] at h0 h1 h2 ⊢;cases is<;>(simp only [↓Jg,↓XX,XY,↓reduceIte,seval,↓Ar h0,↓Au h1,↓Ag hw,↓Ag hw7,hv,hd4,hd0,↓Au h2];exact A6 rfl)
 have hna:(0:Int)<(e:Int) - 5->¬ r.op % 7=6:=by omega
 by_cases hpl:a.op=10\/a.op=14\/a.op=2
 ·obtain ⟨t,b,⟨N2,h2⟩,tt⟩:=hP g a r hg ha hpl;refine ⟨t,b,⟨N0+N1+N2+100,fun n hn=>?_⟩,cK tt up⟩
  ·obtain ⟨n,rfl⟩:=psc n (by omega);have h0:=h0 n (by omega);have h1:=h1 n (by omega);have h2:=h2 n (by omega);have hw:=Ax (n:=n) (by omega) r.op (m:=3) (by omega) (by omega);have hw7:=Ax (n:=n) (by omega) r.op (m:=7) (by omega) (by omega);rw [gH];clear up hfn hG hO hA hP hg ha0 ha tv tt;generalize r.op % 3=w3 at hw hv;generalize r.op % 7=w7 at hw7 hna;obtain ⟨o0,x0,k0⟩:=a0;obtain ⟨o1,x1,k1⟩:=a;obtain ⟨o2,x2,k2⟩:=r;obtain ⟨o3,x3,k3⟩:=v;obtain ⟨o4,x4,k4⟩:=t;simp only [Tm.n,Tm.op] at h1 hw hw7 hpl;simp only [AM,An] at h0 h1 h2 ⊢;rcases hpl with rfl | rfl | rfl
   ·cases is<;>by_cases hd0:(0:Int)<(e:Int) - 5<;>(simp only [↓Jg,↓XX,XY,↓reduceIte,seval,↓Ar h0,↓Au h1,↓Ag hw,↓Ag hw7,hv,hd4,hd0,hna,↓Au h2];exact A6 rfl)
   ·cases is<;>by_cases hd0:(0:Int)<(e:Int) - 5<;>(simp only [↓Jg,↓XX,XY,↓reduceIte,seval,↓Ar h0,↓Au h1,↓Ag hw,↓Ag hw7,hv,hd4,hd0,hna,↓Au h2];exact A6 rfl)
   ·cases is<;>by_cases hd0:(0:Int)<(e:Int) - 5<;>(simp only [↓Jg,↓XX,XY,↓reduceIte,seval,↓Ar h0,↓Au h1,↓Ag hw,↓Ag hw7,hv,hd4,hd0,hna,↓Au h2];exact A6 rfl)
 by_cases o3:a.op=3
 ·obtain ⟨d,c,hl⟩:=Vy (Gh ha (show ar a.op=some 2 by rw [o3];decide))
  have hd:NOk g.length d/\NOk (g.length+1) c:=by obtain ⟨o1,x1,k1⟩:=a;simp only [Tm.op,Tm.kids] at o3 hl;subst o3 hl;have hsc:=ha.sc;rw [Tm.sc] at hsc;rw [D1] at aw;rw [Ly] at ad;exact ⟨⟨hsc.2.2.1,by omega,by omega⟩,⟨hsc.2.2.2.1,by omega,by omega⟩⟩
  obtain ⟨hd,hc⟩:=hd;have hgd:GOk (e - 1) (g++[(1,d)]):=Dh (by rw [show e - 1+1=e by omega];exact hg) hd.sc (by have:=hd.wt;omega) (by have:=hd.dp;omega)
  obtain ⟨x,p,⟨N2,h2⟩,tx⟩:=hG (g++[(1,d)]) c (r.pick 0) hgd (by simpa using BV hc);have xs:x.sc (g.length+1):=by simpa using tx.sc
  refine ⟨.mk 4 0 [d,x],p,⟨N0+N1+N2+100000,fun n hn=>?_⟩,CR hd.sc xs,by have:=tx.wt;have:=hd.wt;rw [D1];omega,by have:=tx.dp;have:=hd.dp;rw [Ly];omega,fun hb=>up (by
   obtain ⟨oa,xa,ka⟩:=a;simp only [Tm.op,Tm.kids] at o3 hl;subst o3 hl;exact .lam e g _ d c x (tx.gr hb))⟩
  ·obtain ⟨n,rfl⟩:=psc n (by omega);have h0:=h0 n (by omega);have h1:=h1 n (by omega);have h2:=h2 n (by omega);rw [<- we] at h2;have hw:=Ax (n:=n) (by omega) r.op (m:=3) (by omega) (by omega);have hw7:=Ax (n:=n) (by omega) r.op (m:=7) (by omega) (by omega);have p0:=AV (n:=n) (by omega) r 0;have hm:=DN (n:=n) g 1 d (by omega) (by omega);have t4:=CO (n:=n) (by omega) 4 [d,x];rw [gH];clear up hfn hG hO hA hP hg ha0 ha tv tx hd hc hgd xs hpl;generalize r.op % 3=w3 at hw hv;generalize r.op % 7=w7 at hw7 hna;generalize r.pick 0=r0 at p0 h2;obtain ⟨o0,x0,k0⟩:=a0;obtain ⟨o1,x1,k1⟩:=a;simp only [Tm.op,Tm.kids] at o3 hl;subst o3 hl;obtain ⟨o2,x2,k2⟩:=r;obtain ⟨o3,x3,k3⟩:=v;obtain ⟨o4,x4,k4⟩:=x;obtain ⟨o5,x5,k5⟩:=d;obtain ⟨o6,x6,k6⟩:=c;obtain ⟨o8,x8,k8⟩:=r0;simp only [Tm.n,Tm.op] at h1 hw hw7;simp only [AM,An,Ah5,Ah4] at h0 h1 h2 p0 hm t4 ⊢;cases is<;>by_cases hd0:(0:Int)<(e:Int) - 5<;>(simp only [↓Jg,↓XX,XY,↓reduceIte,seval,↓Ar h0,↓Au h1,↓Ag hw,↓Ag hw7,hv,hd4,hd0,hna,↓El,↓EH,↓Ag p0,↓Av hm,↓Au h2,↓Ct,↓Ag t4];exact A6 rfl)
 by_cases o6:a.op=6
 ·obtain ⟨d,c,hl⟩:=Vy (Gh ha (show ar a.op=some 2 by rw [o6];decide))
  have hd:NOk g.length d/\NOk (g.length+1) c:=by obtain ⟨o1,x1,k1⟩:=a;simp only [Tm.op,Tm.kids] at o6 hl;subst o6 hl;have hsc:=ha.sc;rw [Tm.sc] at hsc;rw [D1] at aw;rw [Ly] at ad;exact ⟨⟨hsc.2.2.1,by omega,by omega⟩,⟨hsc.2.2.2.1,by omega,by omega⟩⟩
  obtain ⟨hd,hc⟩:=hd;obtain ⟨x,p,⟨N2,h2⟩,tx⟩:=hG g d (r.pick 0) (Ba (by omega) hg) (BV hd);cases p
  ·refine ⟨v,is,⟨N0+N1+N2+100,fun n hn=>?_⟩,tv⟩;obtain ⟨n,rfl⟩:=psc n (by omega);have h0:=h0 n (by omega);have h1:=h1 n (by omega);have h2:=h2 n (by omega);rw [<- we] at h2;have hw:=Ax (n:=n) (by omega) r.op (m:=3) (by omega) (by omega);have hw7:=Ax (n:=n) (by omega) r.op (m:=7) (by omega) (by omega);have p0:=AV (n:=n) (by omega) r 0;rw [gH];clear up hfn hG hO hA hP hg ha0 ha tv tx hd hc hpl;generalize r.op % 3=w3 at hw hv;generalize r.op % 7=w7 at hw7 hna;generalize r.pick 0=r0 at p0 h2;obtain ⟨o0,x0,k0⟩:=a0;obtain ⟨o1,x1,k1⟩:=a;simp only [Tm.op,Tm.kids] at o6 hl;subst o6 hl;obtain ⟨o2,x2,k2⟩:=r;obtain ⟨o3,x3,k3⟩:=v;obtain ⟨o4,x4,k4⟩:=x;obtain ⟨o5,x5,k5⟩:=d;obtain ⟨o6,x6,k6⟩:=c;obtain ⟨o8,x8,k8⟩:=r0;simp only [Tm.n,Tm.op] at h1 hw hw7;simp only [AM,An,Ah5,Ah4] at h0 h1 h2 p0 ⊢;cases is<;>by_cases hd0:(0:Int)<(e:Int) - 5<;>(simp only [↓Jg,↓XX,XY,↓reduceIte,seval,↓Ar h0,↓Au h1,↓Ag hw,↓Ag hw7,hv,hd4,hd0,hna,↓El,↓EH,↓Ag p0,↓Au h2];exact A6 rfl)
  ·have hss:AOk g.length (c.subst 0 0 x):=by
    have xw:=tx.wt;have xd:=tx.dp;have cw:=hc.wt;have cd:=hc.dp;have h1:=Jn c x 0 0;have h2:=Ng c x 0 0;have h3:c.wt * x.wt<=3000 * 21000000000:=Nat.mul_le_mul cw (by omega);exact ⟨J5 c x 0 g.length hc.sc tx.sc (by omega),by omega,by omega⟩
   obtain ⟨y,q,⟨N3,h3⟩,ty⟩:=hG g (c.subst 0 0 x) (r.pick 1) (Ba (by omega) hg) hss;refine ⟨.mk 7 0 [a,x,y],q,⟨N0+N1+N2+N3+1000000000000,fun n hn=>?_⟩,cQ ha.sc tx.sc ty.sc,by have:=tx.wt;have:=ty.wt;rw [oB];omega,by have:=tx.dp;have:=ty.dp;rw [dp3];omega,fun hb=>up (by
   obtain ⟨oa,xa,ka⟩:=a;simp only [Tm.op,Tm.kids] at o6 hl;subst o6 hl;exact .pair e g _ d c x y (bS tx (by omega)) (tx.gr rfl) (ty.gr hb))⟩
   obtain ⟨n,rfl⟩:=psc n (by omega);have h0:=h0 n (by omega);have h1:=h1 n (by omega);have h2:=h2 n (by omega);have h3:=h3 n (by omega);rw [<- we] at h2 h3;have hw:=Ax (n:=n) (by omega) r.op (m:=3) (by omega) (by omega);have hw7:=Ax (n:=n) (by omega) r.op (m:=7) (by omega) (by omega);have p0:=AV (n:=n) (by omega) r 0;have p1:=AV (n:=n) (by omega) r 1;have hsb:=L6 (n:=n) c x 0 (C5 _ _ tx.sc) (by have:=tx.wt;omega) (by have:=tx.wt;have:=hc.wt;omega) (C5 _ _ hc.sc) (by have:=hc.wt;omega) (by omega) (by have:=hc.wt;omega);have t7:=CO (n:=n) (by omega) 7 [a,x,y];rw [gH];clear up hfn hG hO hA hP hg ha0 ha tv tx ty hd hc hpl hss;generalize r.op % 3=w3 at hw hv;generalize r.op % 7=w7 at hw7 hna;generalize c.subst 0 0 x=sb at hsb h3;generalize r.pick 0=r0 at p0 h2;generalize r.pick 1=r1 at p1 h3;obtain ⟨o0,x0,k0⟩:=a0;obtain ⟨o1,x1,k1⟩:=a;simp only [Tm.op,Tm.kids] at o6 hl;subst o6 hl;obtain ⟨o2,x2,k2⟩:=r;obtain ⟨o3,x3,k3⟩:=v;obtain ⟨o4,x4,k4⟩:=x;obtain ⟨o5,x5,k5⟩:=d;obtain ⟨o6,x6,k6⟩:=c;obtain ⟨o7,x7,k7⟩:=y;obtain ⟨o8,x8,k8⟩:=r0;obtain ⟨o9,x9,k9⟩:=r1;obtain ⟨oa,xa,ka⟩:=sb;simp only [Tm.n,Tm.op] at h1 hw hw7;simp only [AM,An,Ah5,Ah4] at h0 h1 h2 h3 p0 p1 hsb t7 ⊢;cases is<;>by_cases hd0:(0:Int)<(e:Int) - 5<;>(simp only [↓Jg,↓XX,XY,↓reduceIte,seval,↓Ar h0,↓Au h1,↓Ag hw,↓Ag hw7,hv,hd4,hd0,hna,↓El,↓EH,↓Ag p0,↓Ag p1,↓Au h2,↓Av hsb,↓Au h3,↓Jj,↓Ag t7];exact A6 rfl)
 by_cases o18:a.op=18
 ·obtain ⟨d,hl⟩:=yC (Gh ha (show ar a.op=some 1 by rw [o18];decide))
  have hd:NOk g.length d:=by obtain ⟨o1,x1,k1⟩:=a;simp only [Tm.op,Tm.kids] at o18 hl;subst o18 hl;have hsc:=ha.sc;rw [Tm.sc] at hsc;rw [Ll] at aw;rw [gB] at ad;exact ⟨hsc.2.2.1,by omega,by omega⟩
  obtain ⟨x,p,⟨N2,h2⟩,tx⟩:=hO g d (r.pick 0) (Ba (by omega) hg) (BV hd);refine ⟨.mk 19 0 [x],p,⟨N0+N1+N2+100,fun n hn=>?_⟩,FO tx.sc,by have:=tx.wt;rw [Ll];omega,by have:=tx.dp;rw [gB];omega,fun hb=>up (by
   obtain ⟨oa,xa,ka⟩:=a;simp only [Tm.op,Tm.kids] at o18 hl;subst o18 hl;exact .quo e g _ d x (tx.gr hb))⟩
  ·obtain ⟨n,rfl⟩:=psc n (by omega);have h0:=h0 n (by omega);have h1:=h1 n (by omega);have h2:=h2 n (by omega);rw [<- we] at h2;have hw:=Ax (n:=n) (by omega) r.op (m:=3) (by omega) (by omega);have hw7:=Ax (n:=n) (by omega) r.op (m:=7) (by omega) (by omega);have p0:=AV (n:=n) (by omega) r 0;have t19:=CO (n:=n) (by omega) 19 [x];rw [gH];clear up hfn hG hO hA hP hg ha0 ha tv tx hd hpl;generalize r.op % 3=w3 at hw hv;generalize r.op % 7=w7 at hw7 hna;generalize r.pick 0=r0 at p0 h2;obtain ⟨o0,x0,k0⟩:=a0;obtain ⟨o1,x1,k1⟩:=a;simp only [Tm.op,Tm.kids] at o18 hl;subst o18 hl;obtain ⟨o2,x2,k2⟩:=r;obtain ⟨o3,x3,k3⟩:=v;obtain ⟨o4,x4,k4⟩:=x;obtain ⟨o5,x5,k5⟩:=d;obtain ⟨o8,x8,k8⟩:=r0;simp only [Tm.n,Tm.op] at h1 hw hw7;simp only [AM,An,Ah5,Ah4] at h0 h1 h2 p0 t19 ⊢;cases is<;>by_cases hd0:(0:Int)<(e:Int) - 5<;>(simp only [↓Jg,↓XX,XY,↓reduceIte,seval,↓Ar h0,↓Au h1,↓Ag hw,↓Ag hw7,hv,hd4,hd0,hna,↓El,↓Ag p0,↓Au h2,↓Dx,↓Ag t19];exact A6 rfl)
 have q1:a.op≠10:=fun h=>hpl (.inl h);have q2:a.op≠14:=fun h=>hpl (.inr (.inl h));have q3:a.op≠2:=fun h=>hpl (.inr (.inr h));refine ⟨v,is,⟨N0+N1+100,fun n hn=>?_⟩,tv⟩
 ·obtain ⟨n,rfl⟩:=psc n (by omega);have h0:=h0 n (by omega);have h1:=h1 n (by omega);have hw:=Ax (n:=n) (by omega) r.op (m:=3) (by omega) (by omega);have hw7:=Ax (n:=n) (by omega) r.op (m:=7) (by omega) (by omega);rw [gH];clear up hfn hG hO hA hP hg ha0 ha tv hpl;generalize r.op % 3=w3 at hw hv;generalize r.op % 7=w7 at hw7 hna;obtain ⟨o0,x0,k0⟩:=a0;obtain ⟨o1,x1,k1⟩:=a;obtain ⟨o2,x2,k2⟩:=r;obtain ⟨o4,x3,k3⟩:=v;simp only [Tm.n,Tm.op] at h1 hw hw7 o3 o6 o18 q1 q2 q3;simp only [AM,An] at h0 h1 ⊢;cases is<;>by_cases hd0:(0:Int)<(e:Int) - 5<;>(simp only [↓Jg,↓XX,XY,↓reduceIte,seval,↓Ar h0,↓Au h1,↓Ag hw,↓Ag hw7,hv,hd4,hd0,hna,o3,o6,o18,q1,q2,q3];exact A6 rfl)
theorem I1:∀e,e<=10->KX e/\Eg 30 1 e/\Eg 42 2 e:=by
 intro e
 induction e using Nat.strongRecOn with
 | _ e ih =>
  intro he;have hp:1<=e->KX (e - 1)/\Eg 30 1 (e - 1)/\Eg 42 2 (e - 1):=fun h=>ih (e - 1) (by omega) (by omega);have hp2:2<=e->KX (e - 2)/\Eg 30 1 (e - 2)/\Eg 42 2 (e - 2):=fun h=>ih (e - 2) (by omega) (by omega);have hT:KX e:=kH he (fun h=>(hp (by omega)).1) (fun h=>(hp (by omega)).2.1);have hT6:6<=e->KX 6:=fun h=>by
   by_cases h6:e=6
   ·exact h6 ▸ hT
   ·exact (ih 6 (by omega) (by omega)).1
  have hR:6<=e->Ou 67 3 e:=fun h=>bZ h he (hT6 h) (hp2 (by omega)).2.1;have hP:1<=e->Zt 68 3 e:=fun h=>cE h he (hp h).2.1 (fun h6=>(hp2 (by omega)).2.1);have hA:6<=e->Ou 72 4 e:=fun h=>YO h he (hp2 (by omega)).2.2 (hp (by omega)).2.1;have hO:Eg 42 2 e:=Yv he (fun h=>(hp h).2.2) hA;exact ⟨hT,iT he (fun h=>(hp h).2.1) (fun h=>(hp h).2.2) hR hP,hO⟩
def Zi (T1 T2:A8->Tm->Tm) (B1:A8->Tm->Bool) (g:A8) (r:Tm):A8:=if r.n % 3=0 then (if B1 g r then g++[(0,T1 g r)] else g) else g++[(1,T2 g r)]
def Cl (f:A8->Tm->A8) (l:List Tm):Nat->A8
 | 0=>[]
 | i+1=>match l[i]? with
  | some r=>f (Cl f l i) r
  | none=>Cl f l i
def gV:A8->IV
 | []=>.nils
 | p::g=>.fv (AM (p::g))
theorem n9 {g:A8} (h:g≠[]):gV g=.fv (AM g):=by
 cases g with
 | nil=>exact absurd rfl h
 | cons p g=>rfl
theorem tK (g:A8):gV g=.nils\/∃x,gV g=.fv x:=by
 cases g with
 | nil=>exact .inl rfl
 | cons p g=>exact .inr ⟨_,rfl⟩
theorem tT (g:A8) (own:List (Nat×Blk)):BC (Ak [gV g] ⟨own,[]⟩) (AM g):=by
 cases g with
 | nil=>exact Bp rfl _
 | cons p g=>exact Ay _ _
theorem tE (g:A8):Bg (gV g)=some (AM g):=by
 cases g with
 | nil=>rfl
 | cons p g=>rfl
theorem Uh (l:List Tm) (hll:l.length<=9223372036854775807):∃g,Ev 28 [.fv (.sl (l.map Tm.enc))] (AM g)/\GOk 10 g/\g.length<=4/\CtxG g/\(l=[]->g=[]):=by
 have hc:∀p:A8×Tm,∃(t1 t2:Tm) (b1:Bool),GOk 10 p.1->Ev 30 [.fv (AM p.1),.fv (Tm.mk 14 0 []).enc,.fv p.2.enc,iv 2] (.tuple [Tm.enc t1,.bool b1])/\TG 1 7 p.1 (.mk 14 0 []) t1 b1/\Ev 29 [.fv (AM p.1),.fv p.2.enc,iv 2] (Tm.enc t2)/\TyOk p.1 7 t2:=by
  rintro ⟨g,r⟩;by_cases hg:GOk 10 g
  ·obtain ⟨hT,hG,_⟩:=I1 7 (by omega);obtain ⟨t1,b1,h1,h2⟩:=hG g (.mk 14 0 []) r (Ba (by omega) hg) ⟨C3,by simp [Tm.wt,Tm.wtL],by simp [Tm.dp,Tm.dpL]⟩;obtain ⟨t2,h3,h4⟩:=hT g r (Ba (by omega) hg);exact ⟨t1,t2,b1,fun _=>⟨h1,h2,h3,h4⟩⟩
  ·exact ⟨.z,.z,false,fun h=>absurd h hg⟩
 obtain ⟨T1,hc⟩:=Classical.axiomOfChoice hc;obtain ⟨T2,hc⟩:=Classical.axiomOfChoice hc;obtain ⟨B1,hc⟩:=Classical.axiomOfChoice hc;obtain ⟨f,hf⟩:∃f,f=Zi (fun g r=>T1 (g,r)) (fun g r=>T2 (g,r)) (fun g r=>B1 (g,r)):=⟨_,rfl⟩;have hD7:Dg 7=270:=rfl;have hD6:Dg 6=260:=rfl;have hW7:Wg 7=131072000:=rfl;have hW6:Wg 6=32768000:=rfl;have hstep:∀i,i<=4->GOk 10 (Cl f l i)/\(Cl f l i).length<=i/\CtxG (Cl f l i):=by
  intro i
  induction i with
  | zero=>intro _;exact ⟨⟨by simp [Cl],fun i p h=>by simp [Cl] at h⟩,by simp [Cl],.nil⟩
  | succ i ih =>
   intro h;obtain ⟨h1,h2,hcg⟩:=ih (by omega);rw [Cl];cases hr:l[i]? with
   | none=>simp only;exact ⟨h1,by omega,hcg⟩
   | some r =>
    simp only;generalize Cl f l i=g at h1 h2 hcg;obtain ⟨_,h4,_,h6⟩:=hc (g,r) h1;simp only at h4 h6;have h4s:=h4.sc;have h4w:=h4.wt;have h4d:=h4.dp;have h6s:=h6.sc;have h6w:=h6.wt;have h6d:=h6.dp;rw [show 7 - 1=6 from rfl] at h6w h6d
    have big:∀(s:Int) (t:Tm),t.sc g.length->t.wt<=100000000000->t.dp<=6000->GOk 10 (g++[(s,t)]):=by intro s t q1 q2 q3;have h11:GOk 11 g:=⟨by omega,h1.ok⟩;exact Dh h11 q1 q2 q3
    rw [hf,Zi];split
    ·split
     ·rename_i hb;exact ⟨big _ _ h4s (by omega) (by omega),by simp;omega,.ob g _ hcg (h4.gr hb)⟩
     ·exact ⟨h1,by omega,hcg⟩
    ·exact ⟨big _ _ h6s (by omega) (by omega),by simp;omega,.me g _ hcg ⟨h6s,by omega,by omega⟩ (by omega) h6.gr⟩
 obtain ⟨m,hm⟩:∃m,m=min l.length 4:=⟨_,rfl⟩;obtain ⟨N,hN⟩:=fT (P:=fun i n=>∀r,l[i]?=some r->BC (SS dt n 30 [.fv (AM (Cl f l i)),.fv (Tm.mk 14 0 []).enc,.fv r.enc,iv 2] ⟨[],[]⟩) (.tuple [Tm.enc (T1 (Cl f l i,r)),.bool (B1 (Cl f l i,r))])/\BC (SS dt n 29 [.fv (AM (Cl f l i)),.fv r.enc,iv 2] ⟨[],[]⟩) (Tm.enc (T2 (Cl f l i,r)))) m (fun i hi=>by
  have hil:i<l.length:=by omega
  obtain ⟨⟨N1,h1⟩,_,⟨N2,h2⟩,_⟩:=hc (Cl f l i,l[i]) (hstep i (by omega)).1;refine ⟨N1+N2,fun n hn r hr=>?_⟩;rw [Ah6 hil,AhZ] at hr;subst hr;exact ⟨h1 n (by omega),h2 n (by omega)⟩)
 have hm4:=hstep m (by omega);refine ⟨Cl f l m,⟨N+100,fun n hn=>?_⟩,hm4.1,by omega,hm4.2.2,fun h=>by subst h;rw [hm];rfl⟩;obtain ⟨n,rfl⟩:=psc n (by omega);rw [c28];simp only [SY,Ud,S28,↓XX,XY,↓reduceIte,seval,↓AJ,XD,heldB,AS,XE];refine Be (Q:=fun r=>BC r _) (fun k V H=>∃i:Nat,i+k=m/\V=[.fv (.sl (l.map Tm.enc)),gV (Cl f l i),iv i]/\H=⟨[],[]⟩)
  ?_ n m _ _ (by omega) ⟨0,by omega,rfl,rfl⟩
 rintro k V H rec ⟨i,hik,rfl,rfl⟩ hrec;have hi4:=hstep i (by omega);cases k with
 | zero =>
  have him:i=m:=by omega
  subst him;have ha:=fun own=>tT (Cl f l i) own;generalize gV (Cl f l i)=gv at ha;by_cases h1:(i:Int)<l.length
  ·have h4:¬ ((i:Int)<4):=by omega
   simp only [↓R4,↓XX,XY,↓reduceIte,seval,h1,h4];exact ha _
  ·simp only [↓R4,↓XX,XY,↓reduceIte,seval,h1];exact ha _
 | succ k =>
  have hil:i<l.length:=by omega
  have h1:(i:Int)<l.length:=by omega
  have h4:(i:Int)<4:=by omega
  have wi:BF ((i:Int)+1)=(i:Int)+1:=by rw [Az]<;>omega
  obtain ⟨r,hr⟩:∃r,l[i]?=some r:=⟨_,Ah6 hil⟩;obtain ⟨g1,g2⟩:=hN i (by omega) n (by omega) r hr;have hw:=Ax (n:=n) (by omega) r.n (m:=3) (by omega) (by omega);have t14:=AY (n:=n) (by omega) 14;have h9:=hrec k [.fv (.sl (l.map Tm.enc)),gV (Cl f l (i+1)),iv (i+1:Nat)] ⟨[],[]⟩ (by omega) ⟨i+1,by omega,rfl,rfl⟩;have hi1:((i+1:Nat):Int)=(i:Int)+1:=by omega
  rw [hi1,Cl,hr] at h9;simp only [hf,Zi] at h9;rw [<- hf] at h9;have hfz:=tE (Cl f l i);have htw:=tK (Cl f l i);have m1:=DN (n:=n) (Cl f l i) 0 (T1 (Cl f l i,r)) (by omega) (by omega);have m2:=DN (n:=n) (Cl f l i) 1 (T2 (Cl f l i,r)) (by omega) (by omega);have n1:=n9 (g:=Cl f l i++[((0:Int),T1 (Cl f l i,r))]) (by simp);have n2:=n9 (g:=Cl f l i++[((1:Int),T2 (Cl f l i,r))]) (by simp);generalize AM (Cl f l i++[((0:Int),T1 (Cl f l i,r))])=e1 at m1 n1;generalize AM (Cl f l i++[((1:Int),T2 (Cl f l i,r))])=e2 at m2 n2;clear hc hstep hN hi4 hm4;by_cases c0:r.n % 3=0
  ·rw [if_pos c0] at h9;rw [c0] at hw;cases hb:B1 (Cl f l i,r)
   ·rw [hb] at g1 h9;simp only [Bool.false_eq_true,if_false] at h9;generalize T1 (Cl f l i,r)=t1 at g1;generalize gV (Cl f l i)=gv at hfz h9 htw;generalize AM (Cl f l i)=ge at hfz g1;obtain ⟨o,p,ks⟩:=r;obtain ⟨o1,p1,k1⟩:=t1;simp only [Tm.n] at hw;simp only [An,Ah4] at g1 t14;have g1:=Au (a:=gv) (b:=.fv (.agg [.int .i64 14,.int .i64 0,.sl []])) (c:=.fv (.agg [.int .i64 o,.int .i64 p,.sl (ks.map Tm.enc)])) (d:=iv 2) g1 hfz rfl rfl rfl;rcases htw with rfl | ⟨x0,rfl⟩
    ·simp only [↓R4,↓XX,XY,↓reduceIte,seval,h1,h4,wi,↓Br (AO hr) (Bm _ _ _),↓Cd,↓Ag hw,↓Ag t14,↓g1,↓AJ,XD,heldB,AS,XE];exact h9
    ·simp only [↓R4,↓XX,XY,↓reduceIte,seval,h1,h4,wi,↓Br (AO hr) (Bm _ _ _),↓Cd,↓Ag hw,↓Ag t14,↓g1,↓AJ,XD,heldB,AS,XE];exact h9
   ·rw [hb] at g1 h9;simp only [if_true] at h9;rw [n1] at h9;generalize T1 (Cl f l i,r)=t1 at g1 m1;generalize gV (Cl f l i)=gv at hfz htw;generalize AM (Cl f l i)=ge at hfz g1 m1;obtain ⟨o,p,ks⟩:=r;obtain ⟨o1,p1,k1⟩:=t1;simp only [Tm.n] at hw;simp only [An,Ah4] at g1 t14 m1;have g1:=Au (a:=gv) (b:=.fv (.agg [.int .i64 14,.int .i64 0,.sl []])) (c:=.fv (.agg [.int .i64 o,.int .i64 p,.sl (ks.map Tm.enc)])) (d:=iv 2) g1 hfz rfl rfl rfl;have m1:=Av (a:=gv) (b:=iv 0) (c:=.fv (.agg [.int .i64 o1,.int .i64 p1,.sl (k1.map Tm.enc)])) m1 hfz rfl rfl;rcases htw with rfl | ⟨x0,rfl⟩
    ·simp only [↓R4,↓XX,XY,↓reduceIte,seval,h1,h4,wi,↓Br (AO hr) (Bm _ _ _),↓Cd,↓Ag hw,↓Ag t14,↓g1,↓m1,↓AJ,XD,heldB,AS,XE];exact h9
    ·simp only [↓R4,↓XX,XY,↓reduceIte,seval,h1,h4,wi,↓Br (AO hr) (Bm _ _ _),↓Cd,↓Ag hw,↓Ag t14,↓g1,↓m1,↓AJ,XD,heldB,AS,XE];exact h9
  ·rw [if_neg c0,n2] at h9;generalize T2 (Cl f l i,r)=t2 at g2 m2;generalize gV (Cl f l i)=gv at hfz htw;generalize AM (Cl f l i)=ge at hfz g2 m2;obtain ⟨o,p,ks⟩:=r;obtain ⟨o1,p1,k1⟩:=t2;simp only [Tm.n] at hw c0;generalize p % 3=w3 at hw c0;simp only [An,Ah4] at g2 m2;have g2:=Av (a:=gv) (b:=.fv (.agg [.int .i64 o,.int .i64 p,.sl (ks.map Tm.enc)])) (c:=iv 2) g2 hfz rfl rfl;have m2:=Av (a:=gv) (b:=iv 1) (c:=.fv (.agg [.int .i64 o1,.int .i64 p1,.sl (k1.map Tm.enc)])) m2 hfz rfl rfl;rcases htw with rfl | ⟨x0,rfl⟩
   ·simp only [↓R4,↓XX,XY,↓reduceIte,seval,h1,h4,wi,c0,↓Br (AO hr) (Bm _ _ _),↓Cd,↓Ag hw,↓g2,↓m2,↓AJ,XD,heldB,AS,XE];exact h9
   ·simp only [↓R4,↓XX,XY,↓reduceIte,seval,h1,h4,wi,c0,↓Br (AO hr) (Bm _ _ _),↓Cd,↓Ag hw,↓g2,↓m2,↓AJ,XD,heldB,AS,XE];exact h9
def ZK (l:List Tm):Bool:=l.all (fun t=>decide (t.count 300<300)) && decide ((l.length:Int)<=6)
theorem jH (l:List Tm) (hll:l.length<=9223372036854775807) {n:Nat} (hn:Tm.wtL l+10<n):BC (SS dt n 12 [.fv (.sl (l.map Tm.enc))] ⟨[],[]⟩) (.bool (ZK l)):=by
 obtain ⟨n,rfl⟩:=psc n (by omega);rw [qX];simp only [Kx,KP,tL,↓XX,XY,↓reduceIte,seval,↓AJ,XD,heldB,AS,XE];have hlw:=Dq l;refine Be (Q:=fun r=>BC r _) (fun k V H=>∃pre rest,l=pre++rest/\rest.length=k/\V=[.fv (.sl (l.map Tm.enc)),iv pre.length]/\H=⟨[],[]⟩/\ZK l=(rest.all (fun t=>decide (t.count 300<300)) && decide ((l.length:Int)<=6)))
  ?_ n l.length _ _ (by omega) ⟨[],l,rfl,rfl,rfl,rfl,rfl⟩
 rintro k V H rec ⟨pre,rest,hk,hl,rfl,rfl,ht⟩ hrec;have hkl:l.length=pre.length+rest.length:=by rw [hk];simp
 cases rest with
 | nil =>
  have hno:¬ ((pre.length:Int)<l.length):=by rw [hkl];simp
  rw [ht,List.all_nil,Bool.true_and];by_cases h6:(l.length:Int)<=6
  ·simp only [Kx,KP,MM,tL,↓XX,XY,↓reduceIte,seval,hno,h6];exact Ay _ _
  ·simp only [Kx,KP,MM,tL,↓XX,XY,↓reduceIte,seval,hno,h6];exact Ay _ _
 | cons x rest =>
  have hi:(pre.length:Int)<l.length:=by rw [hkl];simp;omega
  have hg2:=B2 hk;have hxw:=Cb (t:=x) (l:=l) (by rw [hk];simp);obtain ⟨n,rfl⟩:=psc n (by omega);have hf:=Qw (n:=n) x (by omega);have hwi:BF ((pre.length:Int)+1)=((pre++[x]).length:Int):=(Az (by omega) (by simp at hkl;omega)).trans (by simp);rw [ht,List.all_cons];cases hx:decide (x.count 300<300)
  ·rw [hx] at hf;obtain ⟨o,p,ks⟩:=x;rw [An] at hf;simp only [Kx,KP,MM,tL,↓XX,XY,↓reduceIte,seval,hi,↓Br (AO hg2) (Bm _ _ _),↓Cd,↓Ar hf];exact Ay _ _
  ·rw [hx] at hf;have h9:=hrec rest.length _ _ (by simp at hl;omega) ⟨pre++[x],rest,by rw [hk];simp,rfl,rfl,rfl,by rw [ht,List.all_cons,hx,Bool.true_and]⟩;rw [Bool.true_and];rw [ht,List.all_cons,hx,Bool.true_and] at h9;obtain ⟨o,p,ks⟩:=x;rw [An] at hf;simp only [Kx,KP,MM,tL,↓XX,XY,↓reduceIte,seval,hi,↓Br (AO hg2) (Bm _ _ _),↓Cd,↓Ar hf,hwi];exact h9
structure CaseOk (g:A8) (a t:Tm) (is object:Bool):Prop where
 gok:GOk 10 g
 len:g.length<=4
 asc:a.sc g.length
 awt:a.wt<=32768010
 adp:a.dp<=300
 tsc:t.sc g.length
 tdp:t.dp<=300
 chk:is=true->(t.chk 0 1).2=0
 cg:CtxG g
 ga:object=false->Gr 0 7 g .z a
 gt:is=true->Gr (if object then 2 else 1) 10 g a t
 zt:is=false->t=.mk (if object then 25 else 11) 0 []
def lO (l:List Tm) (hll:l.length<=9223372036854775807) (r q:Tm) (object:Bool):∃g a t is,Ev 14 [.fv (.sl (l.map Tm.enc)),.fv r.enc,.fv q.enc,.fv (.bool object)] (.tuple [AM g,a.enc,t.enc,.bool is])/\CaseOk g a t is object/\(object=true->a=q.plainT 2)/\(l=[]->g=[]):=by
 obtain ⟨g,⟨N0,h0⟩,hg,hg4,hcg,hnil⟩:=Uh l hll;have hW6:Wg 6=32768000:=rfl;have hD6:Dg 6=260:=rfl;have hW10:Wg 10=8388608000:=rfl;have hD10:Dg 10=300:=rfl;obtain ⟨_,hG,hO⟩:=I1 10 (by omega);cases object
 ·obtain ⟨hT,_,_⟩:=I1 7 (by omega);obtain ⟨a,⟨N1,h1⟩,ta⟩:=hT g q (Ba (by omega) hg);have aw:=ta.wt;have ad:=ta.dp;have asc:=ta.sc;rw [show 7 - 1=6 from rfl] at aw ad
  obtain ⟨t,b,⟨N2,h2⟩,tt⟩:=hG g a r hg ⟨asc,by omega,by omega⟩;have tw:=tt.wt;have ts:=tt.sc;have body:∀(t':Tm) (is:Bool),(is=true/\t'=t/\b=true/\(t.chk 0 1).2=0\/is=false/\t'=AX/\(b=false\/b=true/\(t.chk 0 1).2≠0))->Ev 14 [.fv (.sl (l.map Tm.enc)),.fv r.enc,.fv q.enc,.fv (.bool false)] (.tuple [AM g,a.enc,t'.enc,.bool is]):=by
   intro t' is hd;refine ⟨N0+N1+N2+100000000000+1,fun n hn=>?_⟩;obtain ⟨n,rfl⟩:=psc n (by omega);have h0:=h0 n (by omega);have h1:=h1 n (by omega);have h2:=h2 n (by omega);have hk:=Sl (n:=n) t (by omega);have t11:=AY (n:=n) (by omega) 11;rw [c14];clear ta tt;generalize (t.chk 0 1).2=ck at hk hd;rw [show ((10:Nat):Int) - 5=5 from rfl] at h2
   rw [show ((7:Nat):Int) - 5=2 from rfl] at h1
   generalize AM g=ge at *;generalize (FV.sl (l.map Tm.enc))=le at *;rcases hd with ⟨rfl,rfl,rfl,rfl⟩ | ⟨rfl,rfl,hd⟩
   ·simp only [EM] at h1 h2 hk ⊢;simp only [↓YP,↓XX,XY,↓reduceIte,seval,↓Ar h0,↓Av h1,↓Au h2,↓Ar hk];exact A6 rfl
   ·rw [AX];rcases hd with rfl | ⟨rfl,hd⟩
    ·simp only [EM] at h1 h2 hk t11 ⊢;simp only [↓YP,↓XX,XY,↓reduceIte,seval,↓Ar h0,↓Av h1,↓Au h2,↓Ar hk,↓Ag t11];exact A6 rfl
    ·simp only [EM] at h1 h2 hk t11 ⊢;simp only [↓YP,↓XX,XY,↓reduceIte,seval,hd,↓Ar h0,↓Av h1,↓Au h2,↓Ar hk,↓Ag t11];exact A6 rfl
  by_cases hb:b=true
  ·by_cases hc:(t.chk 0 1).2=0
   ·exact ⟨g,a,t,true,body t true (.inl ⟨rfl,rfl,hb,hc⟩),⟨hg,hg4,asc,by omega,by omega,ts,by have:=tt.dp;omega,fun _=>hc,hcg,fun _=>ta.gr,fun _=>tt.gr hb,fun h=>by cases h⟩,(fun h=>by cases h),hnil⟩
   ·exact ⟨g,a,AX,false,body AX false (.inr ⟨rfl,rfl,.inr ⟨hb,hc⟩⟩),⟨hg,hg4,asc,by omega,by omega,GF _,by decide,(fun h=>by cases h),hcg,fun _=>ta.gr,(fun h=>by cases h),fun _=>rfl⟩,(fun h=>by cases h),hnil⟩
  ·exact ⟨g,a,AX,false,body AX false (.inr ⟨rfl,rfl,.inl (by simpa using hb)⟩),⟨hg,hg4,asc,by omega,by omega,GF _,by decide,(fun h=>by cases h),hcg,fun _=>ta.gr,(fun h=>by cases h),fun _=>rfl⟩,(fun h=>by cases h),hnil⟩
 ·obtain ⟨a,ha⟩:∃a,a=q.plainT 2:=⟨_,rfl⟩;have asc:a.sc g.length:=ha ▸ Gx _ 2 q;have aw:a.wt<=20:=by have:=Ff 2 q;rw [<- ha] at this;simpa using Nat.le_trans this (by decide)
  have ad:a.dp<=300:=Nat.le_trans (Dz a) (by omega);obtain ⟨t,b,⟨N2,h2⟩,tt⟩:=hO g a r hg ⟨asc,by omega,by omega⟩;have tw:=tt.wt;have ts:=tt.sc;have body:∀(t':Tm) (is:Bool),(is=true/\t'=t/\b=true/\(t.chk 0 1).2=0\/is=false/\t'=.mk 25 0 []/\(b=false\/b=true/\(t.chk 0 1).2≠0))->Ev 14 [.fv (.sl (l.map Tm.enc)),.fv r.enc,.fv q.enc,.fv (.bool true)] (.tuple [AM g,a.enc,t'.enc,.bool is]):=by
   intro t' is hd;refine ⟨N0+N2+100000000000+1,fun n hn=>?_⟩;obtain ⟨n,rfl⟩:=psc n (by omega);have h0:=h0 n (by omega);have h1:=KO 2 n q (by omega) (by omega);have h2:=h2 n (by omega);have hk:=Sl (n:=n) t (by omega);have t25:=dH (n:=n) (by omega) 0;rw [c14];rw [<- ha] at h1;clear tt ha;generalize (t.chk 0 1).2=ck at hk hd;rw [show ((10:Nat):Int) - 5=5 from rfl] at h2
   generalize AM g=ge at *;generalize (FV.sl (l.map Tm.enc))=le at *;rcases hd with ⟨rfl,rfl,rfl,rfl⟩ | ⟨rfl,rfl,hd⟩
   ·simp only [EM,Int.cast_ofNat_Int] at h1 h2 hk ⊢;simp only [↓YP,↓XX,XY,↓reduceIte,seval,↓Ar h0,↓Ag h1,↓Au h2,↓Ar hk];exact A6 rfl
   ·rcases hd with rfl | ⟨rfl,hd⟩
    ·simp only [EM,Int.cast_ofNat_Int] at h1 h2 hk t25 ⊢;simp only [↓YP,↓XX,XY,↓reduceIte,seval,↓Ar h0,↓Ag h1,↓Au h2,↓Ar hk,↓Ar t25];exact A6 rfl
    ·simp only [EM,Int.cast_ofNat_Int] at h1 h2 hk t25 ⊢;simp only [↓YP,↓XX,XY,↓reduceIte,seval,hd,↓Ar h0,↓Ag h1,↓Au h2,↓Ar hk,↓Ar t25];exact A6 rfl
  have is25:∀k,(Tm.mk 25 0 []).sc k:=fun k=>IG (by decide) (by decide) (by rw [BY];simp);by_cases hb:b=true
  ·by_cases hc:(t.chk 0 1).2=0
   ·exact ⟨g,a,t,true,body t true (.inl ⟨rfl,rfl,hb,hc⟩),⟨hg,hg4,asc,by omega,by omega,ts,by have:=tt.dp;omega,fun _=>hc,hcg,(fun h=>by cases h),fun _=>tt.gr hb,fun h=>by cases h⟩,(fun _=>ha),hnil⟩
   ·exact ⟨g,a,_,false,body _ false (.inr ⟨rfl,rfl,.inr ⟨hb,hc⟩⟩),⟨hg,hg4,asc,by omega,by omega,is25 _,by decide,(fun h=>by cases h),hcg,(fun h=>by cases h),(fun h=>by cases h),fun _=>rfl⟩,(fun _=>ha),hnil⟩
  ·exact ⟨g,a,_,false,body _ false (.inr ⟨rfl,rfl,.inl (by simpa using hb)⟩),⟨hg,hg4,asc,by omega,by omega,is25 _,by decide,(fun h=>by cases h),hcg,(fun h=>by cases h),(fun h=>by cases h),fun _=>rfl⟩,(fun _=>ha),hnil⟩
def vA {t:Tm} (h:(t.chk 0 1).2=0):t.wt<=3000/\(t.chk 0 1).1=t.wt:=by
 have:=(Ow t 0 1 (by omega)).2.2 h
 omega
def Aap {G:List Nat} {t u:Tm} {s k f:Nat} (ht:HasT G t s) (hsc:t.sc k) (hk:k<=100000) (hw:t.wt<=3000) (h:AE f t=some (u,0)):Ev 82 [.fv t.enc] (.tuple [u.enc,.int .i64 0]):=by obtain ⟨F,hF⟩:=cL (XU ht k hsc (by omega)) hw (Ks t k hsc) h;exact ⟨F+10000,fun n hn=>Z4 (f:=F) (hF F (Nat.le_refl _)) (by omega) (by omega) (by omega)⟩
def RY {G:List Nat} {t u:Tm} {s k f:Nat} (ht:HasT G t s) (hs:t.sc k) (hk:k<=100000) (hw:t.wt<=3000) (h:AE f t=some (u,0)):PN t u:=Aap ht hs hk hw h
def nV {G:List Nat} {t:Tm} {s k:Nat} (h:NfT G t s) (he:Es s) (hs:t.sc k) (hk:k<=1000) (hw:t.wt<=3001):PE t:=⟨2 * t.wt+30,fun n hn=>by
 have:=mZ (n:=n) hs (by omega) (by omega)
 rwa [IC h he] at this⟩
def oD {G:List Nat} {X Y:Tm} {s k f:Nat} (h:HasT G X s) (hs:X.sc k) (hk:k<=1000) (hw:X.wt<=3000) (hn:AE f X=some (Y,0)):NX k X Y:=by
 refine ⟨hs,by have:=Dz X;omega,fun f' u hu=>?_⟩
 have:=CA hu hn
 simp only [Ah0,and_true] at this;exact ⟨this,RY h hs (by omega) hw hn⟩
def Nf {G:List Nat} {X:Tm} {s k:Nat} (h:HasT G X s) (hst:X.stl) (hs:X.sc k) (hk:k<=1000) (hw:X.wt<=10000):NX k X X:=by
 have hd:X.dp<=20000:=by have:=Dz X;omega
 refine ⟨hs,hd,fun f u hu=>?_⟩;have e:=AN hst hs (by omega) hu;subst e;obtain ⟨f',v,e,q1,q2⟩:=IU (k:=k) (by omega) hs (by have:=Xz u;omega);have q3:=CA hu q1;simp only [Ah0] at q3;obtain ⟨rfl,rfl⟩:=q3;have hw2:u.wt<=3000:=by rcases q2 with q2 | q2<;>omega
 exact ⟨rfl,RY h hs (by omega) hw2 hu⟩
def Dy {G:List Nat} {A:Tm} {s k:Nat} (h:NfT G A s) (he:Es s) (hs:A.sc k) (hk:k<=1000) (hw:A.wt<=3001):TX k A:=⟨Nf (AZ h) (BW h) hs hk (by omega),nV h he hs hk hw,hw⟩
def rP (G:List Nat):NfT G natT 10:=EP (ht0 .natT) (D9 _ _)
def AaG (G:List Nat):NfT G tyT 11:=EP (ht0 .tyT) (D9 _ _)
def sL (G:List Nat):NfT G Ek 1:=EP (ht0 .tint) (D9 _ _)
def Eu (k:Nat):natT.sc k:=C3
def GY (k:Nat):tyT.sc k:=C3
def Fh (k:Nat):Ek.sc k:=C3
def GD {k:Nat} (hk:k<=1000):TX k natT:=Dy (rP []) (.inr (.inr (.inr (by omega)))) (Eu k) hk (by simp [natT,Tm.wt,Tm.wtL])
def Gp {k:Nat} (hk:k<=1000):TX k tyT:=Dy (AaG []) (.inr (.inr (.inr (by omega)))) (GY k) hk (by simp [tyT,Tm.wt,Tm.wtL])
def TM {k:Nat} (hk:k<=1000):TX k Ek:=Dy (sL []) (.inr (.inl rfl)) (Fh k) hk (by simp [Ek,Tm.wt,Tm.wtL])
def Mf {x:Tm} {k:Nat} (ho:J9 x.op=some 0) (hs:x.sc k):x=natT:=by
 have ho:x.op=10:=by
  unfold J9 at ho
  repeat' (split at ho)
  all_goals first | assumption | (simp at ho;done) | omega
 obtain ⟨op,n,ks⟩:=x;simp only [Tm.op] at ho;subst ho;rw [Tm.sc,if_neg (by decide)] at hs;have hk:ks=[]:=Aia (Option.some.inj (hs.1.symm.trans (show ar 10=some 0 from rfl)))
 have hn:n=0:=by have:=hs.2.1;rw [BY,if_neg (by decide),if_neg (by decide),if_neg (by decide)] at this;exact this
 subst hk;subst hn;rfl
def Rx {x:Tm} {k:Nat} (ho:J9 x.op=some 1) (hs:x.sc k):x=tyT:=by
 have ho:x.op=14:=by
  unfold J9 at ho
  repeat' (split at ho)
  all_goals first | assumption | (simp at ho;done) | omega
 obtain ⟨op,n,ks⟩:=x;simp only [Tm.op] at ho;subst ho;rw [Tm.sc,if_neg (by decide)] at hs;have hk:ks=[]:=Aia (Option.some.inj (hs.1.symm.trans (show ar 14=some 0 from rfl)))
 have hn:n=0:=by have:=hs.2.1;rw [BY,if_neg (by decide),if_neg (by decide),if_neg (by decide)] at this;exact this
 subst hk;subst hn;rfl
def cD {G:List Nat} {x:Tm} {k:Nat} (h:HasT G x 10) (hs:x.sc k):x=natT:=Mf (BX (s:=0) h).1 hs
def oJ {G:List Nat} {x:Tm} {k:Nat} (h:HasT G x 11) (hs:x.sc k):x=tyT:=Rx (BX (s:=1) h).1 hs
structure CtxX (g:A8) (G:List Nat):Prop where
 ok:∀i st T,i<g.length->g[g.length - 1 - i]?=some (st,T)->T.sc (g.length - 1 - i)/\T.wt<=3000/\(∃D σ,Es σ/\HasT D T σ/\D.length<=1000)/\∀s,G[i]?=some s->(s=0->st=1/\∃f,AE f T=some (natT,0))/\(s=1->st=1/\∃f,AE f T=some (tyT,0))
def fK:CtxX [] []:=⟨fun i st T h=>by simp at h⟩
theorem HY {g:A8} {G:List Nat} (h:CtxX g G) {st:Int} {T:Tm} {s:Nat} (h1:T.sc g.length) (h2:T.wt<=3000) (h4:∃D σ,Es σ/\HasT D T σ/\D.length<=1000) (h5:(s=0->st=1/\∃f,AE f T=some (natT,0))/\(s=1->st=1/\∃f,AE f T=some (tyT,0))):CtxX (g++[(st,T)]) (s::G):=by
 have hl:(g++[(st,T)]).length=g.length+1:=by simp
 refine ⟨fun i st' U hi hg=>?_⟩;rw [hl] at hi hg ⊢;cases i with
 | zero =>
  rw [Ah8 (by omega),show g.length+1 - 1 - 0 - g.length=0 by omega] at hg
  simp only [Aib,AhZ,Ah0] at hg;obtain ⟨rfl,rfl⟩:=hg;refine ⟨by rw [show g.length+1 - 1 - 0=g.length by omega];exact h1,h2,h4,fun s' hs'=>?_⟩
  simp only [Aib,AhZ] at hs';subst hs';exact h5
 | succ i =>
  rw [Ah9 (by omega),show g.length+1 - 1 - (i+1)=g.length - 1 - i by omega] at hg
  obtain ⟨q1,q2,q3,q4⟩:=h.ok i st' U (by omega) hg;refine ⟨by rw [show g.length+1 - 1 - (i+1)=g.length - 1 - i by omega];exact q1,q2,q3,fun s' hs'=>?_⟩
  rw [Aic] at hs';exact q4 s' hs'
def Dm {g:A8} {G:List Nat} (h:CtxX g G) (hl:G.length<=1000) {T:Tm} {s:Nat} (hT:HasT G T (10+s)) (h1:T.sc g.length) (h2:T.wt<=3000):CtxX (g++[(1,T)]) (s::G):=by
 refine HY h h1 h2 ⟨G,10+s,.inr (.inr (.inr (by omega))),hT,hl⟩ ⟨fun h0=>?_,fun h0=>?_⟩
 ·subst h0;rw [cD hT h1];exact ⟨rfl,FU (D9 _ _) (Eu 0) (by omega) (by simp [natT,Tm.wt,Tm.wtL]) (by simp [natT,Tm.dp,Tm.dpL])⟩
 ·subst h0;rw [oJ hT h1];exact ⟨rfl,FU (D9 _ _) (GY 0) (by omega) (by simp [tyT,Tm.wt,Tm.wtL]) (by simp [tyT,Tm.dp,Tm.dpL])⟩
def Ja {g:A8} {G:List Nat} (h:CtxX g G) (hl:G.length<=1000) {T:Tm} (hT:HasT G T 1) (h1:T.sc g.length) (h2:T.wt<=3000):CtxX (g++[(0,T)]) (6::G) :=HY h h1 h2 ⟨G,1,.inr (.inl rfl),hT,hl⟩ ⟨fun h0=>by omega,fun h0=>by omega⟩
def LI {T w:Tm} {k f:Nat} (hk:k<=1000) (h1:T.sc k) (h2:T.dp<=20000) (h:AE f T=some (w,0)):NOk k w:=by
 obtain ⟨f',u,e,hf',c⟩:=IU (k:=k) (by omega) h1 (by have:=Xz T;omega)
 have:=CA h hf'
 simp only [Ah0] at this;obtain ⟨rfl,rfl⟩:=this;rcases c with c | c
 ·exact ⟨c.2.1,c.2.2.1,c.2.2.2⟩
 ·omega
def jA {g:A8} {G:List Nat} (h:CtxT g G) (hK:CtxX g G) (hl:G.length<=1000) (hgl:g.length<=1000) {T:Tm} (hT:HasT G T 2) (hv:T.vb) (h1:T.sc g.length) (h2:T.wt<=3000):∃s,s<10/\CtxT (g++[(1,T)]) (s::G)/\CtxX (g++[(1,T)]) (s::G):=by
 have hne:∀f w,AE f T=some (w,0)->w.op≠4/\w.op≠7:=by
  intro f w hw
  have:=B3 hw hT
  cases this with
  | var=>simp only [Tm.op];omega
  | node _ op n ks _ sg hr =>simp only [Tm.op];cases hr<;>decide
 have hD:∃D σ,Es σ/\HasT D T σ/\D.length<=1000:=⟨G,2,.inr (.inr (.inl rfl)),hT,hl⟩;by_cases hex:∃f w s,AE f T=some (w,0)/\J9 w.op=some s
 ·obtain ⟨f,w,s,hw,hs⟩:=hex;have hlt:=Z0 hs;have wsc:=(LI hgl h1 (by have:=Dz T;omega) hw).sc;refine ⟨s,by omega,Fc h 1 T s (by omega) (by omega) (fun _=>⟨hv,fun f' w' hw'=>⟨(hne f' w' hw').1,(hne f' w' hw').2,fun τ hτ=>?_⟩⟩),HY hK h1 h2 hD ⟨fun h0=>⟨rfl,f,?_⟩,fun h0=>⟨rfl,f,?_⟩⟩⟩
  ·have:=CA hw hw'
   simp only [Ah0,and_true] at this;subst this;rw [hs] at hτ;exact Option.some.inj hτ
  ·subst h0;rw [<- Mf hs wsc];exact hw
  ·subst h0;rw [<- Rx hs wsc];exact hw
 ·exact ⟨7,by omega,Fc h 1 T 7 (by omega) (by omega) (fun _=>⟨hv,fun f' w' hw'=>⟨(hne f' w' hw').1,(hne f' w' hw').2,fun τ hτ=>absurd ⟨f',w',τ,hw',hτ⟩ hex⟩⟩),HY hK h1 h2 hD ⟨fun h0=>by omega,fun h0=>by omega⟩⟩
def q_v {g:A8} {G:List Nat} (hX:CtxX g G) (hk:g.length<=1000) {st:Int} {i:Nat} {T A:Tm} {f:Nat} (hi:i<g.length) (hg:g[g.length - 1 - i]?=some (st,T)) (hn:AE f (T.shift ((i+1:Nat):Int) 0)=some (A,0)):QI g st (.mk 1 i []) A:=by
 obtain ⟨q1,q2,⟨D,σ,_,hD,hl⟩,_⟩:=hX.ok i st T hi hg;have hs:=EV hD (List.replicate (i+1) 0) (by rw [List.length_replicate];omega);rw [List.length_replicate] at hs;have hsc:=CG T (i+1) 0 _ q1 (by omega);rw [show g.length - 1 - i+(i+1)=g.length by omega,show ((0:Nat):Int)=0 from rfl] at hsc
 exact pN hi hk hg q1 (by omega) (oD hs hsc hk (by rw [Bl];exact q2) hn)
def Abs {g:A8} {G:List Nat} (hX:CtxX g G) (hk:g.length<=1000) {i:Nat} {T A:Tm} {f:Nat} (hi:i<g.length) (hg:g[g.length - 1 - i]?=some (1,T)) (hn:AE f T=some (A,0)) (hA:∀d:Int,A.shift d 0=A):QI g 1 (.mk 1 i []) A:=by
 obtain ⟨q1,q2,⟨D,σ,_,hD,hl⟩,_⟩:=hX.ok i 1 T hi hg;have hsc:=CG T (i+1) 0 _ q1 (by omega);rw [show g.length - 1 - i+(i+1)=g.length by omega,show ((0:Nat):Int)=0 from rfl] at hsc
 have hs:=EV hD (List.replicate (i+1) 0) (by rw [List.length_replicate];omega);rw [List.length_replicate] at hs;refine pN hi hk hg q1 (by omega) ⟨hsc,by rw [Di];have:=Dz T;omega,fun f' u hu=>?_⟩;obtain ⟨u0,h1,h2⟩:=NM (by omega) hu (Ij T _ q1 (by omega))
 have:=CA h1 hn
 simp only [Ah0,and_true] at this;subst this;rw [hA] at h2;subst h2;exact ⟨rfl,RY hs hsc (by omega) (by rw [Bl];exact q2) hu⟩
def C4 (g:A8) (x:Int×Tm):(g++[x]).length=g.length+1:=by simp
def Sy {a b:Int} (h1:0<=a/\a<=1) (h2:0<=b/\b<=1):0<=(if a<b then b else a)/\(if a<b then b else a)<=1:=by split<;>omega
def fR {u:Tm} {k:Nat} {n:Int} (h:FT (.mk 2 n [])):n=0:=by
 rcases h with (h | ⟨op',d',c',_,hd,hc,h⟩ | ⟨p,_,h⟩) | ⟨op',d',c',_,hd,hc,h⟩ | h
 ·rcases h with h | h | h | ⟨p,_,h⟩<;>simp only [Tm.mk.injEq] at h<;>omega
 ·simp only [Tm.mk.injEq] at h;omega
 ·simp only [Tm.mk.injEq] at h;omega
 ·simp only [Tm.mk.injEq] at h;omega
 ·simp only [Tm.op] at h;omega
theorem AbI {G:List Nat} {u:Tm} {s:Nat} (h:NfT G u s):∀g,CtxX g G->G.length=g.length->u.sc g.length->g.length+2 * u.dp<=800->u.wt<=3000->(s=0->QI g 1 u natT)/\(s=1->QI g 1 u tyT)/\(10<=s->FT u->∃m,(0<=m/\m<=1)/\QI g 1 u (.mk 2 m [])):=by
 induction h with
 | var G n s h0 h hs =>
  intro g hX hG hsc hd hw3;rw [Tm.sc,if_pos rfl] at hsc;simp only [Tm.dp,Tm.dpL] at hd;have hi:n.toNat<g.length:=by omega
  obtain ⟨T,hT⟩:∃p,g[g.length - 1 - n.toNat]?=some p:=⟨_,Ah6 (by omega)⟩;obtain ⟨st,T⟩:=T;obtain ⟨_,_,_,q4⟩:=hX.ok _ _ _ hi hT;obtain ⟨q5,q6⟩:=q4 s h;rw [show n=((n.toNat:Nat):Int) by omega]
  refine ⟨fun h0=>?_,fun h0=>?_,fun h0=>by omega⟩
  ·obtain ⟨rfl,f,hf⟩:=q5 h0;exact Abs hX (by omega) hi hT hf fun d=>Ft (.inl rfl) d 0
  ·obtain ⟨rfl,f,hf⟩:=q6 h0;exact Abs hX (by omega) hi hT hf fun d=>Ft (.inr (.inl rfl)) d 0
 | node G op n ks s sg hr hl hst hk ih =>
  intro g hX hG hsc hd hw3;have o1:=(ED hr).1;rw [Tm.sc,if_neg o1] at hsc;simp only [Tm.wt] at hw3;simp only [Tm.dp] at hd;have hgl:g.length<=800:=by omega
  cases hr with
  | natT =>obtain rfl:=Aia hl;exact ⟨by omega,by omega,fun _ _=>⟨0,by omega,XC _ _⟩⟩
  | tyT =>obtain rfl:=Aia hl;exact ⟨by omega,by omega,fun _ _=>⟨0,by omega,jU _ _⟩⟩
  | uT =>
   obtain rfl:=Aia hl;refine ⟨by omega,by omega,fun _ hf=>⟨1,by omega,?_⟩⟩
   have:=fR (u:=natT) (k:=0) hf
   subst this;exact nZ g (m:=0) (by omega)
  | liftT =>obtain ⟨x,rfl⟩:=FD hl;simp only [Tm.wtL,Tm.dpL] at hd hw3;have q:=(ih 0 x [] 1 rfl rfl g hX hG hsc.2.2.1 (by omega) (by omega)).2.1 rfl;exact ⟨by omega,by omega,fun _ _=>⟨0,by omega,O5 _ (Dp (by omega) q (Gp (by omega)))⟩⟩
  | piT a b ha hb =>obtain ⟨x,y,rfl⟩:=QN hl;simp only [Tm.wtL,Tm.dpL] at hd hw3;refine ⟨by omega,by omega,fun _ hf=>?_⟩;obtain ⟨f1,f2⟩:=ON (.inl rfl) hf;have xsc:x.sc g.length:=hsc.2.2.1;obtain ⟨m1,b1,q1⟩:=(ih 0 x [] (10+a) rfl rfl g hX hG xsc (by omega) (by omega)).2.2 (by omega) (Ns f1);have hX2:=Dm hX (by omega) (AZ (hk 0 x [] (10+a) rfl rfl)) xsc (by omega);obtain ⟨m2,b2,q2⟩:=(ih 1 y [a] (10+b) rfl rfl _ hX2 (by rw [C4];simp [hG]) (by rw [C4];exact hsc.2.2.2.1) (by rw [C4];omega) (by omega)).2.2 (by omega) (Ns f2);exact ⟨_,Sy b1 b2,Y7 _ (.inl rfl) (by omega) (YT q1) (YT q2)⟩
  | sigT a b ha hb =>obtain ⟨x,y,rfl⟩:=QN hl;simp only [Tm.wtL,Tm.dpL] at hd hw3;refine ⟨by omega,by omega,fun _ hf=>?_⟩;obtain ⟨f1,f2⟩:=ON (.inr rfl) hf;have xsc:x.sc g.length:=hsc.2.2.1;obtain ⟨m1,b1,q1⟩:=(ih 0 x [] (10+a) rfl rfl g hX hG xsc (by omega) (by omega)).2.2 (by omega) (Ns f1);have hX2:=Dm hX (by omega) (AZ (hk 0 x [] (10+a) rfl rfl)) xsc (by omega);obtain ⟨m2,b2,q2⟩:=(ih 1 y [a] (10+b) rfl rfl _ hX2 (by rw [C4];simp [hG]) (by rw [C4];exact hsc.2.2.2.1) (by rw [C4];omega) (by omega)).2.2 (by omega) (Ns f2);exact ⟨_,Sy b1 b2,Y7 _ (.inr rfl) (by omega) (YT q1) (YT q2)⟩
  | zero =>obtain rfl:=Aia hl;exact ⟨fun _=>SG _ _,by omega,by omega⟩
  | suc =>obtain ⟨x,rfl⟩:=FD hl;simp only [Tm.wtL,Tm.dpL] at hd hw3;have q:=(ih 0 x [] 0 rfl rfl g hX hG hsc.2.2.1 (by omega) (by omega)).1 rfl;exact ⟨fun _=>Z6 _ (Dp (by omega) q (GD (by omega))),by omega,by omega⟩
  | recR s hs =>
   obtain ⟨p,z,w,k,rfl⟩:=TE hl;simp only [Tm.wtL,Tm.dpL] at hd hw3;obtain ⟨_,_,psc,zsc,wsc,ksc,_⟩:=hsc;have hk0:=AZ (hk 0 p [0] (10+s) rfl rfl);have ihz:=ih 1 z [] s rfl rfl g hX hG zsc (by omega) (by omega);have ihk:=(ih 3 k [] 0 rfl rfl g hX hG ksc (by omega) (by omega)).1 rfl;have hX1:=Dm (T:=natT) (s:=0) hX (by omega) (ht0 (.natT)) (Eu _) (by simp [natT,Tm.wt,Tm.wtL]);have l1:=C4 g (1,natT);refine ⟨fun h0=>?_,fun h0=>?_,by omega⟩
   ·subst h0;have e:=cD hk0 psc;subst e;have hX2:=Dm (T:=natT) (s:=0) hX1 (by simp;omega) (ht0 (.natT)) (Eu _) (by simp [natT,Tm.wt,Tm.wtL]);have l2:=C4 (g++[(1,natT)]) (1,natT);have ihw:=(ih 2 w [0,0] 0 rfl rfl _ hX2 (by rw [l2,l1];simp [hG]) (by rw [l2,l1];exact wsc) (by rw [l2,l1];omega) (by omega)).1 rfl;exact eD _ (.inl rfl) (by omega) (GD (by omega)).n ksc (by omega) (Dp (by omega) (ihz.1 rfl) (GD (by omega))) (Dp (by rw [l2,l1];omega) ihw (GD (by rw [l2,l1];omega))) (Dp (by omega) ihk (GD (by omega)))
   ·subst h0;have e:=oJ hk0 psc;subst e;have hX2:=Dm (T:=tyT) (s:=1) hX1 (by simp;omega) (ht0 (.tyT)) (GY _) (by simp [tyT,Tm.wt,Tm.wtL]);have l2:=C4 (g++[(1,natT)]) (1,tyT);have ihw:=(ih 2 w [1,0] 1 rfl rfl _ hX2 (by rw [l2,l1];simp [hG]) (by rw [l2,l1];exact wsc) (by rw [l2,l1];omega) (by omega)).2.1 rfl;exact eD _ (.inr rfl) (by omega) (Gp (by omega)).n ksc (by omega) (Dp (by omega) (ihz.2.1 rfl) (Gp (by omega))) (Dp (by rw [l2,l1];omega) ihw (Gp (by rw [l2,l1];omega))) (Dp (by omega) ihk (GD (by omega)))
  | tint =>obtain rfl:=Aia hl;exact ⟨by omega,fun _=>Ug _ _,by omega⟩
  | tfun =>obtain ⟨x,y,rfl⟩:=QN hl;simp only [Tm.wtL,Tm.dpL] at hd hw3;have q1:=(ih 0 x [] 1 rfl rfl g hX hG hsc.2.2.1 (by omega) (by omega)).2.1 rfl;have q2:=(ih 1 y [] 1 rfl rfl g hX hG hsc.2.2.2.1 (by omega) (by omega)).2.1 rfl;exact ⟨by omega,fun _=>SP _ (.inl rfl) (Dp (by omega) q1 (Gp (by omega))) (Dp (by omega) q2 (Gp (by omega))),by omega⟩
  | tpro =>obtain ⟨x,y,rfl⟩:=QN hl;simp only [Tm.wtL,Tm.dpL] at hd hw3;have q1:=(ih 0 x [] 1 rfl rfl g hX hG hsc.2.2.1 (by omega) (by omega)).2.1 rfl;have q2:=(ih 1 y [] 1 rfl rfl g hX hG hsc.2.2.2.1 (by omega) (by omega)).2.1 rfl;exact ⟨by omega,fun _=>SP _ (.inr rfl) (Dp (by omega) q1 (Gp (by omega))) (Dp (by omega) q2 (Gp (by omega))),by omega⟩
  | natU=>exact ⟨by omega,by omega,by omega⟩
  | tyU=>exact ⟨by omega,by omega,by omega⟩
  | uU=>exact ⟨by omega,by omega,by omega⟩
  | liftU=>exact ⟨by omega,by omega,by omega⟩
  | piU=>exact ⟨by omega,by omega,by omega⟩
  | sigU=>exact ⟨by omega,by omega,by omega⟩
  | lam=>exact ⟨by omega,by omega,by omega⟩
  | pair=>exact ⟨by omega,by omega,by omega⟩
  | quo=>exact ⟨by omega,by omega,by omega⟩
  | spl=>exact ⟨by omega,by omega,by omega⟩
  | olam=>exact ⟨by omega,by omega,by omega⟩
  | oapp=>exact ⟨by omega,by omega,by omega⟩
  | opair=>exact ⟨by omega,by omega,by omega⟩
  | ofst=>exact ⟨by omega,by omega,by omega⟩
  | osnd=>exact ⟨by omega,by omega,by omega⟩
  | oint=>exact ⟨by omega,by omega,by omega⟩
  | oprim=>exact ⟨by omega,by omega,by omega⟩
  | oif=>exact ⟨by omega,by omega,by omega⟩
  | olet=>exact ⟨by omega,by omega,by omega⟩
  | ofix=>exact ⟨by omega,by omega,by omega⟩
def Oq {G:List Nat} {a:Tm} {s:Nat} (h:NfT G a s) (x:Nat) (hb:G.length+2 * a.wt<=100000000):NfT (x::G) (a.shift 1 0) s:=by
 have:=EV (AZ h) [x] (by simp only [Ah3,List.length_nil];omega)
 exact EP (by simpa using this) (TS _ _ _ (BW h))
def Kj {k:Nat} {a:Tm} (h:NOk k a) (hk:k<=1000):NOk (k+1) (a.shift 1 0):=⟨CG _ 1 0 _ h.sc (by have:=h.wt;omega),by rw [Bl];exact h.wt,by rw [Di];exact h.dp⟩
def qt {G:List Nat} {a:Tm} {s:Nat} {g:A8} (h:NfT G a (10+s)) (hX:CtxX g G) (hG:G.length=g.length) (hok:NOk g.length a) (hl:g.length<=500) (hf:FT a):∃m,(0<=m/\m<=1)/\QL g a m:=by
 have:=hok.dp
 obtain ⟨m,h1,h2⟩:=(AbI h g hX hG hok.sc (by omega) hok.wt).2.2 (by omega) hf;exact ⟨m,h1,YT h2⟩
def qo {G:List Nat} {a:Tm} {g:A8} (h:NfT G a 1) (hX:CtxX g G) (hG:G.length=g.length) (hok:NOk g.length a) (hl:g.length<=500):QC g 1 a tyT:=by
 have:=hok.dp
 exact Dp (by omega) ((AbI h g hX hG hok.sc (by omega) hok.wt).2.1 rfl) (Gp (by omega))
def RD {k:Nat} {a:Tm} (h:a.sc k) (hw:a.wt<=100):NOk k a:=⟨h,by omega,by have:=Dz a;omega⟩
def Kk {s:Nat}:Es (10+s):=.inr (.inr (.inr (by omega)))
def pH {G:List Nat} {a0 a:Tm} {s k f:Nat} (h:FT a0) (hT:HasT G a0 (10+s)) (hs:a0.sc k) (hk:k<=1000) (hn:AE f a0=some (a,0)):FT a:=by
 rcases h with h | ⟨op,x,y,ho,hx,hy,rfl⟩ | h
 ·have:=AN (DH h) hs (by have:=Fm h;omega) hn
  subst this;exact .inl h
 ·have:=AN (jT (by omega) (DH hx) (DH hy)) hs (by have:=Fm hx;have:=Fm hy;rw [D1];omega) hn
  subst this;exact .inr (.inl ⟨op,x,y,ho,hx,hy,rfl⟩)
 ·have h1:=(BX hT).1;rw [h] at h1;have h2:=(BX (AZ (B3 hn hT))).1;rw [<- h1] at h2;refine .inr (.inr ?_);unfold J9 at h2
  repeat' (split at h2)
  all_goals first | assumption | (simp at h2;done) | omega
theorem pL {g:A8} (hg:g.length<=1000):∀j,QI g 1 (GQ j) natT
 | 0=>SG _ _
 | j+1=>Z6 _ (Dp hg (pL hg j) (GD hg))
def Lo {op n:Int} {x y:Tm} (ho:op=3\/op=6\/op=16\/op=17\/op=18) (hx:x.stl) (hy:y.stl):(Tm.mk op n [x,y]).stl:=jT (by omega) hx hy
def NC {op n:Int} {ks:List Tm} {k:Nat} (h:(Tm.mk op n ks).sc k) (h1:op≠1) (h2:op≠2) (h26:op≠26) (h25:op≠25):n=0:=by
 rw [Tm.sc,if_neg h1] at h
 have:=h.2.1
 rw [BY,if_neg h2,if_neg h26,if_neg h25] at this;exact this
def Wt {a:Tm} {k:Nat} (ha:a.op=2) (hs:a.sc k) (hf:FT a):a=.mk 2 0 []:=by
 obtain ⟨op,m,ks⟩:=a;simp only [Tm.op] at ha;subst ha;have hk:ks=[]:=by rw [Tm.sc] at hs;exact Aia (Option.some.inj (hs.1.symm.trans (show ar 2=some 0 from rfl)))
 subst hk;rw [fR (u:=natT) (k:=0) hf]
def RA {a:Tm} {o:Int} {k:Nat} (h:a.sc k) (ho:a.op=o) (har:ar o=some 0) (h1:o≠1) (h2:o≠2) (h26:o≠26) (h25:o≠25):a=.mk o 0 []:=by
 obtain ⟨op,m,ks⟩:=a;simp only [Tm.op] at ho;subst ho
 have:=NC h h1 h2 h26 h25
 subst this;rw [Tm.sc,if_neg h1] at h;have hk:ks=[]:=Aia (Option.some.inj (h.1.symm.trans har));rw [hk]
theorem nI {κ e:Nat} {g:A8} {a t:Tm} (h:Gr κ e g a t):∀G,CtxT g G->CtxX g G->t.sc g.length->t.wt<=3000 ->
  (κ=0->g.length<=100->∃m,(0<=m/\m<=1)/\QI g 1 t (.mk 2 m [])) /\
  (κ=1->∀s,HasT G a (10+s)->a.sc g.length->FT a->∃f A,AE f a=some (A,0)/\QI g 1 t A) /\
  (κ=2->HasT G a 1->a.sc g.length->∃f A,AE f a=some (A,0)/\QI g 0 t A) /\
  (κ=3->∀s,NfT G a (10+s)->NOk g.length a->g.length<=60->FT a->QI g 1 t a) /\
  (κ=4->NfT G a 1->NOk g.length a->g.length<=60->QI g 0 t a):=by
 have hv:∀{g:A8} {a b:Tm} {f:Nat},b.stl->NOk g.length b->g.length<=61->AE f b=some (a,0)->a=b:=fun hs hok hl hn=>AN hs hok.sc (by have:=hok.wt;omega) hn;have xnat:∀{g:A8} {G:List Nat},CtxX g G->G.length<=1000->CtxX (g++[(1,natT)]) (0::G):=fun h hl=>Dm (s:=0) h hl (ht0 .natT) (Eu _) (by simp [natT,Tm.wt,Tm.wtL]);have vnat:natT.vb:=Ij natT 0 (Eu 0) (by simp [natT,Tm.wt,Tm.wtL])
 induction h with
 | tnat e g a=>intro G hG hX hsc hw;exact Lc fun _=>⟨0,by omega,XC _ _⟩
 | tty e g a=>intro G hG hX hsc hw;exact Lc fun _=>⟨0,by omega,jU _ _⟩
 | tu e g a=>intro G hG hX hsc hw;exact Lc fun _=>⟨1,by omega,nZ g (m:=0) (by omega)⟩
 | tlp e g a r =>intro G hG hX hsc hw;refine Lc fun hl=>⟨0,by omega,O5 _ ?_⟩;have hp:=Gm r;exact qo (EP (BS G 1 r) (Iv hp)) hX hG.len (RD (G5 hp _) (by have:=N8 hp;omega)) (by omega)
 | tpi e g a x y op ho h6 hgl hx h1 h2 ih1 ih2 =>
  intro G hG hX hsc hw;refine Lc fun hl=>?_;rw [D1] at hw;rw [Tm.sc,if_neg (by omega)] at hsc;obtain ⟨s,_,hs⟩:=(JV h1 G hG).1 rfl;have b0:Al op 0=0:=by rcases ho with rfl | rfl<;>rfl
  have b1:Al op 1=1:=by rcases ho with rfl | rfl<;>rfl
  have ysc:=hsc.2.2.2.1;rw [b1] at ysc;obtain ⟨m1,c1,q1⟩:=(ih1 G hG hX hx.sc (by omega)).1 rfl hl;have l1:=C4 g (1,x);have hX2:=Dm hX (by rw [hG.len];omega) hs hx.sc (by omega);obtain ⟨m2,c2,q2⟩:=(ih2 _ (D6 hG hs (Ku hx (by omega))) hX2 (by rw [l1];exact ysc) (by omega)).1 rfl (by omega);exact ⟨_,Sy c1 c2,Y7 _ ho (by omega) (YT q1) (YT q2)⟩
 | tlift e g a t h6 h1 ih =>
  intro G hG hX hsc hw;refine Lc fun hl=>⟨0,by omega,O5 _ ?_⟩;rw [Ll] at hw;rw [Tm.sc,if_neg (by decide)] at hsc;obtain ⟨f,A,hn,q⟩:=(ih G hG hX hsc.2.2.1 (by omega)).2.1 rfl 1 (ht0 .tyT) (GY _) Rf
  have:=AN (t:=tyT) (D9 _ _) (GY 0) (by simp [tyT,Tm.wt,Tm.wtL]) hn
  subst this;exact Dp (by omega) q (Gp (by omega))
 | grow e g a0 a t f hn hg ha h1 ih =>intro G hG hX hsc hw;refine AaL fun s hT has hf=>⟨f,a,hn,?_⟩;exact (ih G hG hX hsc hw).2.2.2.1 rfl s (B3 hn hT) ha hg (pH hf hT has (by omega) hn)
 | objc e g a0 a t f hn hg ha h1 ih =>intro G hG hX hsc hw;refine AbA fun hT has=>⟨f,a,hn,?_⟩;exact (ih G hG hX hsc hw).2.2.2.2 rfl (B3 hn hT) ha hg
 | var1 e g a i h =>intro G hG hX hsc hw;refine Df fun s hT hok hl hf=>?_;obtain ⟨hi,T,f,w,hg,hn,he⟩:=h;obtain ⟨q1,q2,⟨D,σ,hσ,hD,hl2⟩,_⟩:=hX.ok i 1 T hi hg;have hs:=EV hD (List.replicate (i+1) 0) (by rw [List.length_replicate];omega);rw [List.length_replicate] at hs;have e1:=IC (B3 hn hs) hσ;rw [e1,IC hT Kk] at he;subst he;exact q_v hX (by omega) hi hg hn
 | var0 e g a i h =>intro G hG hX hsc hw;refine FL fun hT hok hl=>?_;obtain ⟨hi,T,f,w,hg,hn,he⟩:=h;obtain ⟨q1,q2,⟨D,σ,hσ,hD,hl2⟩,_⟩:=hX.ok i 0 T hi hg;have hs:=EV hD (List.replicate (i+1) 0) (by rw [List.length_replicate];omega);rw [List.length_replicate] at hs;have e1:=IC (B3 hn hs) hσ;rw [e1,IC hT (.inr (.inl rfl))] at he;subst he;exact q_v hX (by omega) hi hg hn
 | fst e g a b c x h6 hb h1 h2 h3 ih1 ih2 ih3 =>
  intro G hG hX hsc hw;refine Df fun s hT hok hl hf=>?_;have hGl:=hG.len;simp only [Ll,oB,D1] at hw;simp only [Tm.sc,Tm.scL] at hsc;obtain ⟨_,_,⟨_,_,⟨_,_,asc,bsc,_⟩,csc,xsc,_⟩,_⟩:=hsc;simp only [show Al 8 0=0 from rfl,show Al 7 0=0 from rfl,show Al 7 (0+1)=0 from rfl,show Al 7 (0+1+1)=0 from rfl,show Al 6 0=0 from rfl,show Al 6 (0+1)=1 from rfl,Nat.add_zero] at asc bsc csc xsc
  obtain ⟨sb,hsb,hTb⟩:=(JV h1 G hG).1 rfl;have fb:=sK h1;have wb:=Fm fb;have bok:=RD hb.sc (by omega);have nb:=EP hTb (DH fb);have hs6:=(BX (AZ hT)).2;have haw:=hok.wt;obtain ⟨m1,c1,q1⟩:=qt hT hX hGl hok (by omega) hf;have l1:=C4 g (1,a);have hXa:=Dm hX (by omega) (AZ hT) hok.sc haw;have nb2:=Oq nb s (by omega);obtain ⟨m2,c2,q2⟩:=qt nb2 hXa (by rw [l1];simp [hGl]) (by rw [l1];exact Kj bok (by omega)) (by omega) (.inl (by have:=Jp fb hb.sc (by omega) (d:=1) (c:=0) (by omega) (by omega);simpa using this));have hS:=YT (Y7 0 (.inr rfl) (by omega) q1 q2);have Ssc:(Tm.mk 6 0 [a,b.shift 1 0]).sc g.length:=CR asc bsc;have hN:NX g.length (.mk 6 0 [a,b.shift 1 0]) (.mk 6 0 [a,b.shift 1 0]):=Nf (ht2 (.sigT s sb hs6 hsb) (AZ hT) (AZ nb2)) (Lo (by omega) (BW hT) (TS _ _ _ (DH fb))) Ssc (by omega) (by rw [D1,Bl];omega);obtain ⟨f1,A,n1,r1⟩:=(ih3 G hG hX csc (by omega)).2.1 rfl s (AZ hT) hok.sc hf
  have:=AN (BW hT) hok.sc (by omega) n1
  subst this;obtain ⟨f2,B,n2,r2⟩:=(ih2 G hG hX xsc (by omega)).2.1 rfl sb hTb hb.sc (Ns fb)
  have:=AN (DH fb) hb.sc (by omega) n2
  subst this;have tA:=Dy hT Kk hok.sc (by omega) (by omega);have tB:=Dy nb Kk hb.sc (by omega) (by omega);have eb:=MV B c 0 0 g.length hb.sc (by omega) (by omega);exact yV 0 (bP 0 (by omega) hN (by rw [<- l1];exact (by rw [l1];exact bsc)) (by rw [Bl];omega) csc (by omega) hS (Dp (by omega) r1 tA) r2 tB (by rw [eb];exact tB.n))
 | app e g a b c x h6 hb h1 h2 h3 ih1 ih2 ih3 =>
  intro G hG hX hsc hw;refine Df fun s hT hok hl hf=>?_;have hGl:=hG.len;simp only [D1] at hw;simp only [Tm.sc,Tm.scL] at hsc;obtain ⟨_,_,⟨_,_,bsc,csc,_⟩,xsc,_⟩:=hsc;simp only [show Al 5 0=0 from rfl,show Al 5 (0+1)=0 from rfl,show Al 4 0=0 from rfl,show Al 4 (0+1)=1 from rfl,Nat.add_zero] at bsc csc xsc
  obtain ⟨sb,hsb,hTb⟩:=(JV h1 G hG).1 rfl;have fb:=sK h1;have wb:=Fm fb;have bok:=RD hb.sc (by omega);have nb:=EP hTb (DH fb);have hs6:=(BX (AZ hT)).2;have haw:=hok.wt;have l1:=C4 g (1,b);obtain ⟨m1,c1,q1⟩:=qt nb hX hGl bok (by omega) (Ns fb);have hXb:=Dm hX (by omega) hTb hb.sc (by omega);have na2:=Oq hT sb (by omega);have aok2:=Kj hok (by omega);have fa2:FT (a.shift 1 0):=by
   rcases hf with h | ⟨op,x,y,ho,hx,hy,rfl⟩ | h
   ·have:=Jp h hok.sc (by omega) (d:=1) (c:=0) (by omega) (by omega)
    exact .inl (by simpa using this)
   ·have q:=hok.sc;rw [Tm.sc,if_neg (by omega)] at q;have b0:Al op 0=0:=by rcases ho with rfl | rfl<;>rfl
    have b1:Al op 1=1:=by rcases ho with rfl | rfl<;>rfl
    have q0:=q.2.2.1;have q1:=q.2.2.2.1;rw [b0] at q0;rw [b1] at q1;refine .inr (.inl ⟨op,x.shift 1 0,y.shift 1 1,ho,?_,?_,?_⟩)
    ·have:=Jp hx q0 (by omega) (d:=1) (c:=0) (by omega) (by omega);simpa using this
    ·have:=Jp hy q1 (by omega) (d:=1) (c:=1) (by omega) (by omega);simpa using this
    ·rw [Tm.shift,if_neg (by omega)];simp only [Tm.shiftL,b0,Nat.zero_add,b1];simp
   ·exact .inr (.inr (by rw [LX];exact h))
  obtain ⟨f1,A,n1,r1⟩:=(ih3 _ (D6 hG hTb (Ku hb (by omega))) hXb (by rw [l1];exact csc) (by omega)).2.1 rfl s (AZ na2) (by rw [l1];exact aok2.sc) fa2
  have:=AN (BW na2) aok2.sc (by rw [Bl];omega) n1
  subst this;have Psc:(Tm.mk 3 0 [b,a.shift 1 0]).sc g.length:=CR bsc aok2.sc;have hN:NX g.length (.mk 3 0 [b,a.shift 1 0]) (.mk 3 0 [b,a.shift 1 0]):=Nf (ht2 (.piT sb s hsb hs6) hTb (AZ na2)) (Lo (by omega) (DH fb) (BW na2)) Psc (by omega) (by rw [D1,Bl];omega);have q2:=pB 0 (by omega) q1 r1 hN;obtain ⟨f2,B,n2,r2⟩:=(ih2 G hG hX xsc (by omega)).2.1 rfl sb hTb hb.sc (Ns fb)
  have:=AN (DH fb) hb.sc (by omega) n2
  subst this;have tA:=Dy hT Kk hok.sc (by omega) (by omega);have tB:=Dy nb Kk hb.sc (by omega) (by omega);have eb:=MV a x 0 0 g.length hok.sc (by omega) (by omega);exact Aaw 0 (by omega) xsc (by omega) aok2.sc (by rw [Bl];omega) q2 (Dp (by omega) r2 tB) (by rw [eb];exact tA.n)
 | recc e g a n z s h6 ha h1 h2 h3 ih1 ih2 ih3 =>
  intro G hG hX hsc hw;refine Df fun σ hT hok hl hf=>?_;have hGl:=hG.len;have hX':a=natT\/a=tyT:=by
   rcases ha with ha | ha
   ·exact .inl (Mf (by rw [ha];rfl) hok.sc)
   ·exact .inr (Rx (by rw [ha];rfl) hok.sc)
  have hsh:∀d c:Int,a.shift d c=a:=by
   intro d c;rcases hX' with rfl | rfl
   ·exact Ft (.inl rfl) d c
   ·exact Ft (.inr (.inl rfl)) d c
  rw [hsh 1 0] at hw hsc ih3 ⊢;rw [hsh 2 0] at ih3;clear h1 h2 h3;simp only [wt4] at hw;simp only [Tm.sc,Tm.scL] at hsc;obtain ⟨_,_,asc,zsc,ssc,nsc,_⟩:=hsc;simp only [show Al 13 0=1 from rfl,show Al 13 (0+1)=0 from rfl,show Al 13 (0+1+1)=2 from rfl,show Al 13 (0+1+1+1)=0 from rfl,Nat.add_zero] at asc zsc ssc nsc
  have aw:a.wt<=10:=by rcases hX' with rfl | rfl<;>simp [natT,tyT,Tm.wt,Tm.wtL]
  have tA:=Dy hT Kk hok.sc (by omega) (by omega);have l1:=C4 g (1,.mk 10 0 []);have l2:=C4 (g++[(1,.mk 10 0 [])]) (1,a);have hX1:CtxX (g++[(1,.mk 10 0 [])]) (0::G):=xnat hX (by omega);have hG1:=D6 (s:=0) hG (ht0 .natT) vnat;have aT:∀D,HasT D a (10+σ):=by
   intro D;have hσ:=(BX (AZ hT)).1;rcases hX' with rfl | rfl
   ·have:σ=0:=by simpa [J9,natT,Tm.op] using hσ.symm
    subst this;exact ht0 .natT
   ·have:σ=1:=by simpa [J9,tyT,Tm.op] using hσ.symm
    subst this;exact ht0 .tyT
  have asc':∀k,a.sc k:=by intro k;rcases hX' with rfl | rfl;exact Eu k;exact GY k
  have avb:a.vb:=Ij a 0 (asc' 0) (by omega);have hX2:=Dm (T:=a) hX1 (by simp;omega) (aT _) (asc' _) (by omega);have hG2:=D6 hG1 (aT (0::G)) avb;obtain ⟨f1,A1,n1,r1⟩:=(ih1 G hG hX nsc (by omega)).2.1 rfl 0 (ht0 .natT) (Eu _) Sw
  have:=AN (t:=natT) (D9 _ _) (Eu 0) (by simp [natT,Tm.wt,Tm.wtL]) n1
  subst this;obtain ⟨f2,A2,n2,r2⟩:=(ih2 G hG hX zsc (by omega)).2.1 rfl σ (aT _) hok.sc hf
  have:=AN (BW hT) hok.sc (by omega) n2
  subst this;obtain ⟨f3,A3,n3,r3⟩:=(ih3 _ hG2 hX2 (by rw [l2,l1];exact ssc) (by omega)).2.1 rfl σ (aT _) (asc' _) hf
  have:=AN (BW hT) hok.sc (by omega) n3
  subst this;have tA2:=Dy hT Kk (asc' (g++[((1:Int),Tm.mk 10 0 [])]++[((1:Int),A3)]).length) (by rw [l2,l1];omega) (by omega);exact eD 0 hX' (by omega) tA.n nsc (by omega) (Dp (by omega) r2 tA) (Dp (by simp;omega) r3 tA2) (Dp (by omega) r1 (GD (by omega)))
 | suc e g a n h6 ha h1 ih =>
  intro G hG hX hsc hw;refine Df fun s hT hok hl hf=>?_
  have:=Mf (x:=a) (by rw [ha];rfl) hok.sc
  subst this;rw [Ll] at hw;rw [Tm.sc,if_neg (by decide)] at hsc;obtain ⟨f1,A1,n1,r1⟩:=(ih G hG hX hsc.2.2.1 (by omega)).2.1 rfl 0 (ht0 .natT) (Eu _) Sw
  have:=AN (t:=natT) (D9 _ _) (Eu 0) (by simp [natT,Tm.wt,Tm.wtL]) n1
  subst this;exact Z6 0 (Dp (by omega) r1 (GD (by omega)))
 | num e g a j ha hj =>
  intro G hG hX hsc hw;refine Df fun s hT hok hl hf=>?_
  have:=Mf (x:=a) (by rw [ha];rfl) hok.sc
  subst this;exact pL (by omega) j
 | tint e g a ha =>
  intro G hG hX hsc hw;refine Df fun s hT hok hl hf=>?_
  have:=Rx (x:=a) (by rw [ha];rfl) hok.sc
  subst this;exact Ug g 0
 | tfun e g a x y op ho h6 ha h1 h2 ih1 ih2 =>
  intro G hG hX hsc hw;refine Df fun s hT hok hl hf=>?_
  have:=Rx (x:=a) (by rw [ha];rfl) hok.sc
  subst this;rw [D1] at hw;rw [Tm.sc,if_neg (by omega)] at hsc;have b0:Al op 0=0:=by rcases ho with rfl | rfl<;>rfl
  have b1:Al op 1=0:=by rcases ho with rfl | rfl<;>rfl
  obtain ⟨_,_,xsc,ysc,_⟩:=hsc;rw [b0] at xsc;rw [show 0+1=1 from rfl,b1] at ysc
  obtain ⟨f1,A1,n1,r1⟩:=(ih1 G hG hX xsc (by omega)).2.1 rfl 1 (ht0 .tyT) (GY _) Rf
  have:=AN (t:=tyT) (D9 _ _) (GY 0) (by simp [tyT,Tm.wt,Tm.wtL]) n1
  subst this;obtain ⟨f2,A2,n2,r2⟩:=(ih2 G hG hX ysc (by omega)).2.1 rfl 1 (ht0 .tyT) (GY _) Rf
  have:=AN (t:=tyT) (D9 _ _) (GY 0) (by simp [tyT,Tm.wt,Tm.wtL]) n2
  subst this;exact SP 0 ho (Dp (by omega) r1 (Gp (by omega))) (Dp (by omega) r2 (Gp (by omega)))
 | uni e g a n ha hp =>
  intro G hG hX hsc hw;refine Df fun s hT hok hl hf=>?_;obtain ⟨op,m,ks⟩:=a;simp only [Tm.op,Tm.n] at ha hp;subst ha;have hk:ks=[]:=by
   have:=hok.sc
   rw [Tm.sc] at this;exact Aia (Option.some.inj (this.1.symm.trans (show ar 2=some 0 from rfl)))
  subst hk
  have:=fR (u:=natT) (k:=0) hf
  omega
 | unat e g a ha =>intro G hG hX hsc hw;refine Df fun s hT hok hl hf=>?_;rw [Wt ha hok.sc hf];exact XC g 0
 | uty e g a ha =>intro G hG hX hsc hw;refine Df fun s hT hok hl hf=>?_;rw [Wt ha hok.sc hf];exact jU g 0
 | ult e g a ha =>intro G hG hX hsc hw;refine Df fun s hT hok hl hf=>?_;rw [Wt ha hok.sc hf];exact O5 0 (Dp (by omega) (Ug g 0) (Gp (by omega)))
 | upi e g a x y op ho h6 ha hx h1 h2 ih1 ih2 =>
  intro G hG hX hsc hw;refine Df fun s hT hok hl hf=>?_;have ea:=Wt ha hok.sc hf;subst ea;have u2:∀D,HasT D (.mk 2 0 []) (10+2):=fun D=>ht0 .uT;have usc:∀k,(Tm.mk 2 0 []).sc k:=fun k=>V1 (.inr (.inr (.inl rfl))) k;rw [D1] at hw;rw [Tm.sc,if_neg (by omega)] at hsc;have b1:Al op 1=1:=by rcases ho with rfl | rfl<;>rfl
  have ysc:=hsc.2.2.2.1;rw [show 0+1=1 from rfl,b1] at ysc
  have hxT:=(JV h1 G hG).2.1 rfl 2 (u2 G);obtain ⟨f1,A1,n1,r1⟩:=(ih1 G hG hX hx.sc (by omega)).2.1 rfl 2 (u2 _) (usc _) hf
  have:=AN (D9 _ _) (usc 0) (by simp [Tm.wt,Tm.wtL]) n1
  subst this;obtain ⟨σ,_,hG2,hX2⟩:=jA hG hX (by rw [hG.len];omega) (by omega) hxT (Ku hx (by omega)) hx.sc (by omega);have l1:=C4 g (1,x);obtain ⟨f2,A2,n2,r2⟩:=(ih2 _ hG2 hX2 (by rw [l1];exact ysc) (by omega)).2.1 rfl 2 (u2 _) (usc _) hf
  have:=AN (D9 _ _) (usc 0) (by simp [Tm.wt,Tm.wtL]) n2
  subst this;exact Y7 (i:=0) (j:=0) 0 ho (by omega) (YT r1) (YT r2)
 | lam e g n d c x h1 ih =>
  intro G hG hX hsc hw;refine Df fun s hT hok hl hf=>?_;have hGl:=hG.len;rw [D1] at hw;rw [Tm.sc,if_neg (by decide)] at hsc;obtain ⟨_,_,dsc,xsc,_⟩:=hsc;obtain ⟨f1,f2⟩:=ON (.inl rfl) hf;have hn:=NC hok.sc (by decide) (by decide) (by decide) (by decide);subst hn;obtain ⟨_,a1,b1,ha1,hb1,hd,hc⟩:=U7 (.inl rfl) (AZ hT);have asc:=hok.sc;rw [Tm.sc,if_neg (by decide)] at asc;have csc:c.sc (g.length+1):=asc.2.2.2.1;have w1:=Fm f1;have w2:=Fm f2;have dsc':d.sc g.length:=dsc;obtain ⟨m1,c1,q1⟩:=qt (EP hd (DH f1)) hX hGl (RD dsc' (by omega)) (by omega) (Ns f1);have l1:=C4 g (1,d);obtain ⟨f3,A,n1,r1⟩:=(ih _ (D6 hG hd (Ij d _ dsc' (by omega))) (Dm hX (by omega) hd dsc' (by omega)) (by rw [l1];exact xsc) (by omega)).2.1 rfl b1 hc (by rw [l1];exact csc) (Ns f2)
  have:=AN (DH f2) csc (by omega) n1
  subst this;exact pB 0 (by omega) q1 r1 (Dy hT Kk hok.sc (by omega) (by have:=hok.wt;omega)).n
 | pair e g n d c x y hx h1 h2 ih1 ih2 =>
  intro G hG hX hsc hw;refine Df fun s hT hok hl hf=>?_;have hGl:=hG.len;rw [oB] at hw;rw [Tm.sc,if_neg (by decide)] at hsc;obtain ⟨_,_,_,xsc,ysc,_⟩:=hsc;obtain ⟨f1,f2⟩:=ON (.inr rfl) hf;have w1:=Fm f1;have w2:=Fm f2;have hn:=NC hok.sc (by decide) (by decide) (by decide) (by decide);subst hn;obtain ⟨_,a1,b1,ha1,hb1,hd,hc⟩:=U7 (.inr rfl) (AZ hT);have asc:=hok.sc;rw [Tm.sc,if_neg (by decide)] at asc;have dsc:d.sc g.length:=asc.2.2.1;have csc:c.sc (g.length+1):=asc.2.2.2.1;obtain ⟨m1,c1,q1⟩:=qt hT hX hGl hok (by omega) hf;obtain ⟨f3,A,n1,r1⟩:=(ih1 G hG hX xsc (by omega)).2.1 rfl a1 hd dsc (Ns f1)
  have:=AN (DH f1) dsc (by omega) n1
  subst this;have qx:=(JV h1 G hG).2.1 rfl a1 hd;have hsub:=Mq hc [] G a1 x rfl qx (by rw [hGl];simp only [List.length_nil];omega);have hsub:HasT G (c.subst 0 0 x) (10+b1):=by simpa using hsub
  obtain ⟨p1,p2,p3⟩:=sY f2 x;have ssc:=J5 c x 0 g.length csc hx.sc (by omega);rw [show ((0:Nat):Int)=0 from rfl,Nat.add_zero] at ssc
  obtain ⟨f4,Y,n2,r2⟩:=(ih2 G hG hX ysc (by omega)).2.1 rfl b1 hsub ssc p1;have yok:=LI (by omega) ssc (by have:=Dz x;omega) n2;have hs3:1<=A.wt/\1<=c.wt:=⟨Et _,Et _⟩;rw [D1] at hw;exact bP 0 (by omega) (Dy hT Kk hok.sc (by omega) (by have:=hok.wt;omega)).n csc (by omega) xsc (by omega) q1 (Dp (by omega) r1 (Dy (EP hd (DH f1)) Kk dsc (by omega) (by omega))) r2 (Dy (B3 n2 hsub) Kk yok.sc (by omega) (by have:=yok.wt;omega)) (oD hsub ssc (by omega) (by have:=Et y;omega) n2)
 | quo e g n d x h1 ih =>
  intro G hG hX hsc hw;refine Df fun s hT hok hl hf=>?_;rw [Ll] at hw;rw [Tm.sc,if_neg (by decide)] at hsc;have hn:=NC hok.sc (by decide) (by decide) (by decide) (by decide);subst hn;obtain ⟨_,hd⟩:=U6 (AZ hT);have asc:=hok.sc;rw [Tm.sc,if_neg (by decide)] at asc;have dsc:d.sc g.length:=asc.2.2.1;have hw2:=hok.wt;rw [Ll] at hw2;have hst:=BW hT;rw [Tm.stl,Tm.stlL] at hst;obtain ⟨f1,A,n1,r1⟩:=(ih G hG hX hsc.2.2.1 (by omega)).2.2.1 rfl hd dsc
  have:=AN hst.2.1 dsc (by omega) n1
  subst this;exact Abb 0 r1
 | oif e g a c x y h6 h1 h2 h3 ih1 ih2 ih3 =>
  intro G hG hX hsc hw;refine FL fun hT hok hl=>?_;rw [oB] at hw;rw [Tm.sc,if_neg (by decide)] at hsc;obtain ⟨_,_,csc,xsc,ysc,_⟩:=hsc;have hw2:=hok.wt;obtain ⟨f1,A1,n1,r1⟩:=(ih1 G hG hX csc (by omega)).2.2.1 rfl (ht0 .tint) (Fh _)
  have:=AN (t:=Ek) (D9 _ _) (Fh 0) (by simp [Ek,Tm.wt,Tm.wtL]) n1
  subst this;obtain ⟨f2,A2,n2,r2⟩:=(ih2 G hG hX xsc (by omega)).2.2.1 rfl (AZ hT) hok.sc
  have:=AN (BW hT) hok.sc (by omega) n2
  subst this;obtain ⟨f3,A3,n3,r3⟩:=(ih3 G hG hX ysc (by omega)).2.2.1 rfl (AZ hT) hok.sc
  have:=AN (BW hT) hok.sc (by omega) n3
  subst this;exact yG 0 (Dp (by omega) r1 (TM (by omega))) r2 (Dp (by omega) r3 (Dy hT (.inr (.inl rfl)) hok.sc (by omega) (by omega)))
 | olet e g a r x y h6 h1 h2 ih1 ih2 =>
  intro G hG hX hsc hw;refine FL fun hT hok hl=>?_;rw [D1] at hw;rw [Tm.sc,if_neg (by decide)] at hsc;obtain ⟨_,_,xsc,ysc,_⟩:=hsc;have hGl:=hG.len;have hw2:=hok.wt;have hp:=Gm r;have hpw:=N8 hp;obtain ⟨f1,A1,n1,r1⟩:=(ih1 G hG hX xsc (by omega)).2.2.1 rfl (BS G 1 r) (G5 hp _)
  have:=AN (Iv hp) (G5 hp 0) (by omega) n1
  subst this;have l1:=C4 g (0,r.plainT 1);have na2:=Oq hT 6 (by omega);have aok2:=Kj hok (by omega);obtain ⟨f2,A2,n2,r2⟩:=(ih2 _ (E9 hG _) (Ja hX (by omega) (BS G 1 r) (G5 hp _) (by omega)) (by rw [l1];exact ysc) (by omega)).2.2.1 rfl (AZ na2) (by rw [l1];exact aok2.sc)
  have:=AN (BW na2) aok2.sc (by rw [Bl];omega) n2
  subst this;exact rO 0 (by omega) hok.sc (by omega) r1 r2
 | oapp e g a r x y h6 h1 h2 ih1 ih2 =>
  intro G hG hX hsc hw;refine FL fun hT hok hl=>?_;simp only [D1] at hw;simp only [Tm.sc,Tm.scL] at hsc;obtain ⟨_,_,⟨_,_,psc,ysc,_⟩,xsc,_⟩:=hsc;simp only [show Al 21 0=0 from rfl,show Al 21 (0+1)=0 from rfl,show Al 20 0=0 from rfl,show Al 20 (0+1)=1 from rfl,Nat.add_zero] at psc ysc xsc
  have hGl:=hG.len;have hw2:=hok.wt;have hp:=Gm r;have hpw:=N8 hp;have pT:=EP (BS G 1 r) (Iv hp);obtain ⟨f1,A1,n1,r1⟩:=(ih1 G hG hX xsc (by omega)).2.2.1 rfl (BS G 1 r) (G5 hp _)
  have:=AN (Iv hp) (G5 hp 0) (by omega) n1
  subst this;have l1:=C4 g (0,r.plainT 1);have na2:=Oq hT 6 (by omega);have aok2:=Kj hok (by omega);obtain ⟨f2,A2,n2,r2⟩:=(ih2 _ (E9 hG _) (Ja hX (by omega) (BS G 1 r) (G5 hp _) (by omega)) (by rw [l1];exact ysc) (by omega)).2.2.1 rfl (AZ na2) (by rw [l1];exact aok2.sc)
  have:=AN (BW na2) aok2.sc (by rw [Bl];omega) n2
  subst this;have hN:NX g.length (.mk 16 0 [r.plainT 1,a]) (.mk 16 0 [r.plainT 1,a]):=Nf (ht2 .tfun (BS G 1 r) (AZ hT)) (Lo (by omega) (Iv hp) (BW hT)) (CR (G5 hp _) hok.sc) (by omega) (by rw [D1];omega);exact qC 0 (ZB 0 (by omega) hok.sc (by omega) (qo pT hX hGl (RD (G5 hp _) (by omega)) (by omega)) r2 hN) (Dp (by omega) r1 (Dy pT (.inr (.inl rfl)) (G5 hp _) (by omega) (by omega)))
 | ofst e g a x y h6 h1 h2 ih1 ih2 =>
  intro G hG hX hsc hw;refine FL fun hT hok hl=>?_;simp only [Ll,D1] at hw;simp only [Tm.sc,Tm.scL] at hsc;obtain ⟨_,_,⟨_,_,xsc,ysc,_⟩,_⟩:=hsc;simp only [show Al 23 0=0 from rfl,show Al 22 0=0 from rfl,show Al 22 (0+1)=0 from rfl,Nat.add_zero] at xsc ysc
  have hw2:=hok.wt;obtain ⟨f2,A2,n2,r2⟩:=(ih1 G hG hX xsc (by omega)).2.2.1 rfl (AZ hT) hok.sc
  have:=AN (BW hT) hok.sc (by omega) n2
  subst this;obtain ⟨f1,A1,n1,r1⟩:=(ih2 G hG hX ysc (by omega)).2.2.1 rfl (ht0 .tint) (Fh _)
  have:=AN (t:=Ek) (D9 _ _) (Fh 0) (by simp [Ek,Tm.wt,Tm.wtL]) n1
  subst this;have hN:NX g.length (.mk 17 0 [A2,Ek]) (.mk 17 0 [A2,Ek]):=Nf (ht2 .tpro (AZ hT) (ht0 .tint)) (Lo (by omega) (BW hT) (D9 _ _)) (CR hok.sc (Fh _)) (by omega) (by rw [D1];simp [Ek,Tm.wt,Tm.wtL];omega);exact sH 0 (V8 0 (by omega) r2 r1 hN)
 | ofix e g a x h6 h1 ih =>
  intro G hG hX hsc hw;refine FL fun hT hok hl=>?_;rw [D1] at hw;rw [Tm.sc,if_neg (by decide)] at hsc;obtain ⟨_,_,asc,xsc,_⟩:=hsc;have hGl:=hG.len;have hw2:=hok.wt;have l1:=C4 g (0,a);have na2:=Oq hT 6 (by omega);have aok2:=Kj hok (by omega);obtain ⟨f2,A2,n2,r2⟩:=(ih _ (E9 hG _) (Ja hX (by omega) (AZ hT) hok.sc (by omega)) (by rw [l1];exact xsc) (by omega)).2.2.1 rfl (AZ na2) (by rw [l1];exact aok2.sc)
  have:=AN (BW na2) aok2.sc (by rw [Bl];omega) n2
  subst this;exact uZ 0 (by omega) hok.sc (by omega) (qo hT hX hGl hok (by omega)) (Dp (by omega) r2 (Dy na2 (.inr (.inl rfl)) (by rw [l1];exact aok2.sc) (by omega) (by rw [Bl];omega))) (Dy hT (.inr (.inl rfl)) hok.sc (by omega) (by omega)).n
 | spl e g a x h6 h1 ih =>
  intro G hG hX hsc hw;refine FL fun hT hok hl=>?_;rw [Ll] at hw;rw [Tm.sc,if_neg (by decide)] at hsc;have hw2:=hok.wt;have lsc:(Tm.mk 18 0 [a]).sc g.length:=FO hok.sc;obtain ⟨f2,A2,n2,r2⟩:=(ih G hG hX hsc.2.2.1 (by omega)).2.1 rfl 3 (gD .liftT (AZ hT)) lsc UH
  have:=AN (qJ (by decide) (BW hT)) lsc (by rw [Ll];omega) n2
  subst this;exact yW 0 r2
 | oint e g a n ha =>intro G hG hX hsc hw;refine FL fun hT hok hl=>?_;rw [RA hok.sc ha (by decide) (by decide) (by decide) (by decide) (by decide)];exact ZY g n
 | oprim e g a p q n h6 ha h1 h2 ih1 ih2 =>
  intro G hG hX hsc hw;refine FL fun hT hok hl=>?_;have ea:a=Ek:=RA hok.sc ha (by decide) (by decide) (by decide) (by decide) (by decide);subst ea;rw [D1] at hw;rw [Tm.sc,if_neg (by decide)] at hsc;obtain ⟨_,_,xsc,ysc,_⟩:=hsc;obtain ⟨f1,A1,n1,r1⟩:=(ih1 G hG hX xsc (by omega)).2.2.1 rfl (ht0 .tint) (Fh _)
  have:=AN (t:=Ek) (D9 _ _) (Fh 0) (by simp [Ek,Tm.wt,Tm.wtL]) n1
  subst this;obtain ⟨f2,A2,n2,r2⟩:=(ih2 G hG hX ysc (by omega)).2.2.1 rfl (ht0 .tint) (Fh _)
  have:=AN (t:=Ek) (D9 _ _) (Fh 0) (by simp [Ek,Tm.wt,Tm.wtL]) n2
  subst this;exact j7 n (Dp (by omega) r1 (TM (by omega))) (Dp (by omega) r2 (TM (by omega)))
 | olam e g n d c b h1 ih =>
  intro G hG hX hsc hw;refine FL fun hT hok hl=>?_;rw [D1] at hw;rw [Tm.sc,if_neg (by decide)] at hsc;obtain ⟨_,_,dsc0,xsc,_⟩:=hsc;have hGl:=hG.len;have hw2:=hok.wt;have hd2:=hok.dp;rw [D1] at hw2;rw [Ly] at hd2;have hn:=NC hok.sc (by decide) (by decide) (by decide) (by decide);subst hn;obtain ⟨hd,hc⟩:=LL (.inl rfl) (AZ hT);have asc:=hok.sc;rw [Tm.sc,if_neg (by decide)] at asc;have dok:NOk g.length d:=⟨asc.2.2.1,by omega,by omega⟩;have cok:NOk g.length c:=⟨asc.2.2.2.1,by omega,by omega⟩;have hst:=BW hT;rw [Tm.stl,Tm.stlL,Tm.stlL] at hst;have l1:=C4 g (0,d);have nc2:=Oq (EP hc hst.2.2.1) 6 (by omega);have cok2:=Kj cok (by omega);obtain ⟨f2,A2,n2,r2⟩:=(ih _ (E9 hG _) (Ja hX (by omega) hd dok.sc (by omega)) (by rw [l1];exact xsc) (by omega)).2.2.1 rfl (AZ nc2) (by rw [l1];exact cok2.sc)
  have:=AN (BW nc2) cok2.sc (by rw [Bl];omega) n2
  subst this;exact ZB 0 (by omega) cok.sc (by omega) (qo (EP hd hst.2.1) hX hGl dok (by omega)) r2 (Dy hT (.inr (.inl rfl)) hok.sc (by omega) (by rw [D1];omega)).n
 | opair e g n d c p q h1 h2 ih1 ih2 =>
  intro G hG hX hsc hw;refine FL fun hT hok hl=>?_;rw [D1] at hw;rw [Tm.sc,if_neg (by decide)] at hsc;obtain ⟨_,_,psc,qsc,_⟩:=hsc;have hw2:=hok.wt;rw [D1] at hw2;have hn:=NC hok.sc (by decide) (by decide) (by decide) (by decide);subst hn;obtain ⟨hd,hc⟩:=LL (.inr rfl) (AZ hT);have asc:=hok.sc;rw [Tm.sc,if_neg (by decide)] at asc;have dsc:d.sc g.length:=asc.2.2.1;have csc:c.sc g.length:=asc.2.2.2.1;have hst:=BW hT;rw [Tm.stl,Tm.stlL,Tm.stlL] at hst;obtain ⟨f1,A1,n1,r1⟩:=(ih1 G hG hX psc (by omega)).2.2.1 rfl hd dsc
  have:=AN hst.2.1 dsc (by omega) n1
  subst this;obtain ⟨f2,A2,n2,r2⟩:=(ih2 G hG hX qsc (by omega)).2.2.1 rfl hc csc
  have:=AN hst.2.2.1 csc (by omega) n2
  subst this;exact V8 0 (by omega) r1 r2 (Dy hT (.inr (.inl rfl)) hok.sc (by omega) (by rw [D1];omega)).n
set_option maxRecDepth 20000
set_option maxHeartbeats 16000000
def Tw (n:Nat):Pi (SS dt (n+200) 11 [] ⟨[],[]⟩)=true:=by kernel_rfl
def YH {n:Nat} (h:200<=n):BC (SS dt n 11 [] ⟨[],[]⟩) (.bool true):=by obtain ⟨k,rfl⟩:∃k,n=k+200:=⟨n - 200,by omega⟩;exact X5 (Tw k)
def qK (ih:Ai) (xs:List IV) (h0:Hp) (k:KT (IV×Hp)):CN EE ih (.fv (.func (.func 56) [] [])) xs h0 k=A5 [] false false ih 56 xs h0 k :=NV (by kernel_rfl) (by kernel_rfl) (by kernel_rfl) (by kernel_rfl) ..
def tW {n:Nat} {p:Int×Tm} (h:(p.2.chk 0 1).2=0) (hn:2 * p.2.wt+4<n):BC (SS dt n 56 [.fv (v1 p)] ⟨[],[]⟩) (.bool false):=by obtain ⟨n,rfl⟩:=psc n (by omega);have hc:=Og (n:=n) p.2 (by omega);rw [h] at hc;rw [c56];obtain ⟨st,o,m,ks⟩:=p;simp only [v1,An,Tm.op,Tm.n,Tm.kids] at hc ⊢;simp only [S56,↓XX,XY,↓reduceIte,seval,↓Ar hc];exact Ay _ _
def i9 {n:Nat} (g:A8) (hl:g.length<=1000) (hn:g.length+8000<n) (h:∀p∈g,(p.2.chk 0 1).2=0):BC (SS dt (n+2) 55 [.fv (AM g),.fv (.func (.func 56) [] [])] ⟨[],[]⟩) (.bool false):=by
 have hi:BC (SS dt (n+1) 81 [.fv (AM g),.fv (.func (.func 56) [] [])] ⟨[],[]⟩) (.int .i64 (-1)):=by
  rw [c81,AM];have hlen:(g.map v1).length=g.length:=List.length_map _;simp only [Pb,S81,↓XX,XY,↓reduceIte,seval,hlen];refine Be (Q:=fun r=>BC r _) (fun k V H=>∃pre rest,g=pre++rest/\rest.length=k/\V=[.fv (.sl (g.map v1)),.fv (.func (.func 56) [] []),iv g.length,iv pre.length]/\H=⟨[],[]⟩) ?_ n g.length _ _ (by omega) ⟨[],g,rfl,rfl,rfl,rfl⟩;rintro k V H rec ⟨pre,rest,hk,hkl,rfl,rfl⟩ hrec;cases rest with
  | nil =>
   have hi:¬ (pre.length:Int)<g.length:=by rw [hk];simp
   simp only [Pb,Tc,S81,↓XX,XY,↓reduceIte,seval,hi];exact Ay _ _
  | cons p rest =>
   have hi:(pre.length:Int)<g.length:=by rw [hk];simp;omega
   have hp:(p.2.chk 0 1).2=0:=h p (by rw [hk];simp);have hc:=tW (n:=n) hp (by have:=(Ow p.2 0 1 (by omega)).2.2 hp;omega);have hget:(g.map v1)[pre.length]?=some (v1 p):=by rw [List.getElem?_map,B2 hk];rfl
   have hix:=fun {β:Type}=>Br (β:=β) (size:=4) hget rfl;have hwi:BF ((pre.length:Int)+1)=((pre++[p]).length:Int):=(Az (by omega) (by omega)).trans (by simp);simp only [Ah3] at hkl;have h9:=hrec rest.length [.fv (.sl (g.map v1)),.fv (.func (.func 56) [] []),iv g.length,iv (pre++[p]).length] _ (by omega) ⟨pre++[p],rest,by rw [hk];simp,rfl,rfl,rfl⟩;obtain ⟨st,o,m,ks⟩:=p;simp only [v1,Tm.op,Tm.n,Tm.kids] at hc hix;simp only [Pb,Tc,S81,↓XX,XY,↓reduceIte,seval,hi,↓hix,FV.cells,↓qK,↓Ar hc,hwi];exact h9
 rw [c55];have h2:=fun (h:Hp) (k:KT (IV×Hp))=>Ag (a:=.fv (AM g)) (b:=.fv (.func (.func 56) [] [])) hi rfl rfl h k;simp only [S55,↓XX,XY,↓reduceIte,seval,↓h2];exact Ay _ _
def Xf (g:A8) (st:Int) (t A:Tm):Prop:=Ev 22 [.fv (AM g),iv st,.fv t.enc] (.tuple [A.enc,.int .i64 0])
def kU {A B:Tm} (h:PN A B):Ev 57 [.fv A.enc,iv 0] (.tuple [B.enc,.int .i64 0]):=by obtain ⟨N0,h0⟩:=h;refine ⟨N0+200,fun n hn=>?_⟩;obtain ⟨n,rfl⟩:=psc n (by omega);have h0:=h0 n (by omega);rw [c57];obtain ⟨o1,n1,k1⟩:=A;obtain ⟨o2,n2,k2⟩:=B;simp only [An] at h0 ⊢;simp only [S57,↓XX,XY,↓reduceIte,seval,↓Ar h0];exact A6 rfl
def tJ {g:A8} {st:Int} {t A B:Tm} (hst:st=0\/st=1) (hl:g.length<=1000) (hg:∀p∈g,(p.2.chk 0 1).2=0) (ht:(t.chk 0 1).2=0) (h:KI g st t A) (h2:PN A B):Xf g st t B:=by obtain ⟨N0,h0⟩:=h;obtain ⟨N1,h1⟩:=kU h2;refine ⟨N0+N1+20000,fun n hn=>?_⟩;obtain ⟨n,rfl⟩:=psc n (by omega);have h0:=h0 n (by omega);have h1:=h1 n (by omega);have hc:=Og (n:=n) t (by have:=(Ow t 0 1 (by omega)).2.2 ht;omega);rw [ht] at hc;obtain ⟨n',hn'⟩:∃k,n=k+2:=⟨n - 2,by omega⟩;have hno:=i9 (n:=n') g hl (by omega) hg;rw [<- hn'] at hno;have h9:=fun (h:Hp) (k:KT (IV×Hp))=>Ag (a:=.fv (AM g)) (b:=.fv (.func (.func 56) [] [])) hno rfl rfl h k;rw [c22];obtain ⟨o1,n1,k1⟩:=t;obtain ⟨o2,n2,k2⟩:=A;obtain ⟨o3,n3,k3⟩:=B;simp only [An] at h0 h1 hc ⊢;rcases hst with rfl | rfl<;>(simp only [Zy,S22,↓XX,XY,↓reduceIte,seval,↓Ar hc,↓h9,↓Av h0,↓Ag h1];exact A6 rfl)
def wI {g:A8} {st e:Int} {t A a:Tm} (h:Xf g st t A) (h2:Ev 62 [.fv A.enc,.fv a.enc] (.int .i64 e)):Ev 27 [.fv (AM g),iv st,.fv t.enc,.fv a.enc] (.int .i64 e):=by obtain ⟨N0,h0⟩:=h;obtain ⟨N1,h1⟩:=h2;refine ⟨N0+N1+200,fun n hn=>?_⟩;obtain ⟨n,rfl⟩:=psc n (by omega);have h0:=h0 n (by omega);have h1:=h1 n (by omega);rw [c27];obtain ⟨o1,n1,k1⟩:=t;obtain ⟨o2,n2,k2⟩:=A;obtain ⟨o3,n3,k3⟩:=a;simp only [An] at h0 h1 ⊢;simp only [S27,↓XX,XY,↓reduceIte,seval,↓Av h0,↓Ag h1];exact Ay _ _
end Idl
end Go.Proofs.YtnenpcghegcnhaaGreat
namespace Go.Proofs.YtnenpcghegcnhaaGreat
namespace Idl
def X4 {op:Int} {s:Nat} {sg:Kt} (h:Rule op s sg):ET op=(sg.length:Int):=by cases h<;>rfl
def Tl {op n:Int} (h1:op≠1) (h:BY op n):Mn op n=true:=by
 unfold BY at h;unfold Mn;rw [if_neg h1];by_cases h2:op=2
 ·rw [if_pos h2] at h ⊢;simp [h]
 rw [if_neg h2] at h ⊢;by_cases h26:op=26
 ·rw [if_pos h26] at h ⊢;simp [h]
 rw [if_neg h26] at h ⊢;by_cases h25:op=25
 ·rw [if_pos h25]
 rw [if_neg h25] at h ⊢;simp [h]
theorem Rm {d:Int}:∀(l:List Tm) (n:Int),(∀(i:Nat) t,l[i]?=some t->∀n:Int,n+t.wt<=3000->t.chk n d=(n+t.wt,0))->n+Tm.wtL l<=3000->Tm.chkL l n d=(n+Tm.wtL l,0)
 | [],n,_,_=>by simp [Tm.chkL,Tm.wtL]
 | t::l,n,h,hw=>by
  simp only [Tm.wtL] at hw;have h1:=h 0 t rfl n (by omega);rw [Tm.chkL,h1];simp only [if_true];rw [Rm l (n+t.wt) (fun i t a=>h (i+1) t (by simpa using a)) (by omega)];simp only [Tm.wtL,Ah0,and_true];omega
theorem bD {G:List Nat} {t:Tm} {s:Nat} (h:HasT G t s):∀(k:Nat) (n d:Int),t.sc k->k+2 * t.dp<=3000->n+t.wt<=3000->d+t.dp<=121->t.chk n d=(n+t.wt,0):=by
 have nd:∀(op m:Int) (ks:List Tm) (k:Nat) (n d:Int),op≠1->(ks.length:Int)=ET op->(∀(i:Nat) t,ks[i]?=some t->∀(k:Nat) (n d:Int),t.sc k->k+2 * t.dp<=3000->n+t.wt<=3000->d+t.dp<=121->t.chk n d=(n+t.wt,0))->(Tm.mk op m ks).sc k->k+2 * (Tm.mk op m ks).dp<=3000->n+(Tm.mk op m ks).wt<=3000->d+(Tm.mk op m ks).dp<=121->(Tm.mk op m ks).chk n d=(n+(Tm.mk op m ks).wt,0):=by
  intro op m ks k n d h1 hl ih hsc hkk hw hd;simp only [Tm.wt] at hw;simp only [Tm.dp] at hd hkk;rw [Tm.sc,if_neg h1] at hsc;have hc:¬ (ET op≠(ks.length:Int)\/Mn op m=false):=by rw [hl,Tl h1 hsc.2.1];simp
  rw [Tm.chk,if_neg (by omega),if_neg hc];rw [Rm ks (n+1) (fun i t a n' hn'=>by
   have hwt:=Ix a;have hdt:=Pj a;have hbn:=A0 op i;have hs:=Hu hsc.2.2 a;rw [Nat.zero_add] at hs;exact ih i t a (k+Al op i) n' (d+1) hs (by omega) hn' (by omega)) (by omega)]
  simp only [Tm.wt,Ah0,and_true];omega
 induction h with
 | var G m s h0 h hs =>intro k n d hsc hk hw hd;simp only [Tm.wt,Tm.wtL] at hw;simp only [Tm.dp,Tm.dpL] at hd hk;rw [Tm.sc,if_pos rfl] at hsc;rw [Tm.chk,if_neg (by omega),if_neg (by simp [ET,Mn];omega),Tm.chkL];simp [Tm.wt,Tm.wtL]
 | node G op m ks s sg hr hl hk ih =>intro k n d;exact nd op m ks k n d (ED hr).1 (by rw [X4 hr,hl]) fun i t a=>ih i t _ _ a (Ah6 (by rw [<- hl];exact (Ah7.1 a).1))
 | app G m q a b x y s s0 hs hy ha hb hx iha ihb ihx =>
  intro k n d;refine nd _ _ _ k n d (by decide) rfl fun i t h=>?_
  match i with
  | 0=>simp at h;subst h;intro k n d;refine nd _ _ _ k n d (by decide) rfl fun i t h=>?_;match i with
   | 0=>simp at h;subst h;exact iha
   | 1=>simp at h;subst h;exact ihb
   | i+2=>simp at h
  | 1=>simp at h;subst h;exact ihx
  | i+2=>simp at h
 | fst G m q a x y s s1 s0 hs ha hx hy iha ihx ihy =>
  intro k n d;refine nd _ _ _ k n d (by decide) rfl fun i t h=>?_
  match i with
  | 0=>simp at h;subst h;intro k n d;refine nd _ _ _ k n d (by decide) rfl fun i t h=>?_;match i with
   | 0=>simp at h;subst h;exact iha
   | 1=>simp at h;subst h;exact ihx
   | 2=>simp at h;subst h;exact ihy
   | i+3=>simp at h
  | i+1=>simp at h
 | snd G m q a x y s s1 s0 hs ha hx hy iha ihx ihy =>
  intro k n d;refine nd _ _ _ k n d (by decide) rfl fun i t h=>?_
  match i with
  | 0=>simp at h;subst h;intro k n d;refine nd _ _ _ k n d (by decide) rfl fun i t h=>?_;match i with
   | 0=>simp at h;subst h;exact iha
   | 1=>simp at h;subst h;exact ihx
   | 2=>simp at h;subst h;exact ihy
   | i+3=>simp at h
  | i+1=>simp at h
structure EnQ (g:A8) (st:Int) (T:Tm):Prop where
 wt:T.wt<=130
 chk:(T.chk 0 1).2=0
 ty:(st=1/\∃m,QI g 1 T (.mk 2 m []))\/(st=0/\QI g 1 T tyT)
theorem zO {g:A8} (h:CtxG g):(∀(i:Nat) (p:Int×Tm),g[i]?=some p->p.2.sc i)->g.length<=60->∃G,CtxT g G/\CtxX g G/\∀(i:Nat) (p:Int×Tm),g[i]?=some p->EnQ (g.take i) p.1 p.2:=by
 have more:∀{g:A8} {q:Int×Tm},EnQ g q.1 q.2->(∀(i:Nat) (p:Int×Tm),g[i]?=some p->EnQ (g.take i) p.1 p.2)->∀(i:Nat) (p:Int×Tm),(g++[q])[i]?=some p->EnQ ((g++[q]).take i) p.1 p.2:=by
  intro g q h1 h2 i p hp;by_cases hi:i<g.length
  ·rw [Ah9 hi] at hp;rw [List.take_append_of_le_length (by omega)];exact h2 i p hp
  ·rw [Ah8 (by omega)] at hp;have h0:i - g.length=0:=by
    have:=(Ah7.1 hp).1
    simp at this;omega
   rw [h0] at hp;simp only [Aib,AhZ] at hp;subst hp;rw [show i=g.length by omega,List.take_left]
   exact h1
 have less:∀{g:A8} {q:Int×Tm},(∀(i:Nat) (p:Int×Tm),(g++[q])[i]?=some p->p.2.sc i)->(∀(i:Nat) (p:Int×Tm),g[i]?=some p->p.2.sc i)/\q.2.sc g.length:=by intro g q h;refine ⟨fun i p hp=>h i p (by rw [Ah9 (Ah7.1 hp).1];exact hp),h g.length q (by simp)⟩
 induction h with
 | nil=>exact fun _ _=>⟨[],dM,fK,fun i p h=>by simp at h⟩
 | ob g t h h1 ih =>
  intro hs hl;rw [C4] at hl;obtain ⟨hs,ts⟩:=less hs;obtain ⟨G,hG,hX,hE⟩:=ih hs (by omega);have hGl:=hG.len;obtain ⟨w,d⟩:=s_7 h1;have hT:=(JV h1 G hG).2.1 rfl 1 (ht0 .tyT);obtain ⟨f,A,hn,q⟩:=(nI h1 G hG hX ts (by omega)).2.1 rfl 1 (ht0 .tyT) (GY _) Rf
  have:=AN (t:=tyT) (D9 _ _) (GY 0) (by simp [tyT,Tm.wt,Tm.wtL]) hn
  subst this;exact ⟨_,E9 hG t,Ja hX (by omega) hT ts (by omega),more ⟨w,by rw [bD hT g.length 0 1 ts (by omega) (by omega) (by omega)],.inr ⟨rfl,q⟩⟩ hE⟩
 | me g a h ha hgl h1 ih =>
  intro hs hl;rw [C4] at hl;obtain ⟨hs,ts⟩:=less hs;obtain ⟨G,hG,hX,hE⟩:=ih hs (by omega);have hGl:=hG.len;obtain ⟨s,_,hT⟩:=(JV h1 G hG).1 rfl;have w:=t_7 h1
  have:=Dz a
  obtain ⟨m,_,q⟩:=(nI h1 G hG hX ts (by omega)).1 rfl (by omega);exact ⟨_,D6 hG hT (Ku ha (by omega)),Dm hX (by omega) hT ts (by omega),more ⟨by show a.wt<=130;omega,by rw [bD hT g.length 0 1 ts (by omega) (by omega) (by omega)],.inl ⟨rfl,m,q⟩⟩ hE⟩
def cT {G:FV} {st f:Int} {t a A:Tm} {k:Nat} (h:JI G st t A f) (hk:k<=1000) (hA:A.sc k) (ha:a.sc k) (hAd:A.dp<=20000) (had:a.dp<=20000):∃e,JC G st t a e:=by
 by_cases hf:f=0
 ·subst hf;obtain ⟨w,e,hE,c⟩:=je hk hA ha hAd had;by_cases he:e=0
  ·subst he;cases w
   ·exact ⟨_,zY h hE⟩
   ·exact ⟨_,j4 h hE⟩
  ·exact ⟨_,nC he h hE⟩
 ·exact ⟨_,TF hf h⟩
structure CaK (g:A8) (st:Int) (a t:Tm) (A x:Tm) (f h c:Int):Prop where
 cf:Nk f\/f=0/\x=A/\A.wt<=3000/\Xf g st t A
 ch:Nk h\/h=0/\Ev 27 [.fv (AM g),iv st,.fv t.enc,.fv a.enc] (.int .i64 0)
 cc:Nk c\/c=0/\Ev 37 [.fv (AM g)] (.int .i64 0)
def lA {k:Nat} {A:Tm} (h:NX k A A) (hs:A.stl) (hk:k<=1000) (hN:NOk k A):PN A A:=by obtain ⟨f,h1⟩:=FU hs hN.sc (by omega) hN.wt hN.dp;exact (h.nf f _ h1).2
def mH {g:A8} (h:∀(i:Nat) (p:Int×Tm),g[i]?=some p->EnQ (g.take i) p.1 p.2):∀p∈g,(p.2.chk 0 1).2=0:=fun p hp=>by
 obtain ⟨i,hi⟩:=List.getElem?_of_mem hp;exact (h i p hi).chk
def Yg {g:A8} {a t q:Tm} {object:Bool} {st:Int} (hC:CaseOk g a t true object) (hpl:object=true->a=q.plainT 2) (hst:st=if object then 0 else 1):∃G f A s,CtxT g G/\CtxX g G/\(∀(i:Nat) (p:Int×Tm),g[i]?=some p->EnQ (g.take i) p.1 p.2)/\(t.chk 0 1).2=0/\AE f a=some (A,0)/\Es s/\HasT G a s/\a.wt<=3000/\NOk g.length A/\QI g st t A/\(st=1/\10<=s/\FT A\/st=0/\s=1):=by
 have hl:=hC.len;obtain ⟨G,hG,hX,hE⟩:=zO hC.cg (fun i p hp=>(hC.gok.ok i p hp).1) (by omega);have hGl:=hG.len;have had:=hC.adp;have asc:=hC.asc;have tsc:=hC.tsc;have hck:=hC.chk rfl;have tw:=(vA hck).1;have gt:=hC.gt rfl;cases object
 ·have ga:=hC.ga rfl;obtain ⟨s,_,hs⟩:=(JV ga G hG).1 rfl;have w:=t_7 ga;subst hst;obtain ⟨f,A,hn,q⟩:=(nI gt G hG hX tsc tw).2.1 rfl s hs asc (oL ga (by omega));exact ⟨G,f,A,_,hG,hX,hE,hck,hn,Kk,hs,by omega,LI (by omega) asc (by omega) hn,q,.inl ⟨rfl,by omega,pH (oL ga (by omega)) hs asc (by omega) hn⟩⟩
 ·have ha:=hpl rfl;have hs:HasT G a 1:=by rw [ha];exact BS G 2 q
  have w:a.wt<=20:=by have:=Ff 2 q;rw [<- ha] at this;simpa using Nat.le_trans this (by decide)
  subst hst;obtain ⟨f,A,hn,q⟩:=(nI gt G hG hX tsc tw).2.2.1 rfl hs asc;exact ⟨G,f,A,_,hG,hX,hE,hck,hn,.inr (.inl rfl),hs,by omega,LI (by omega) asc (by omega) hn,q,.inr ⟨rfl,rfl⟩⟩
def ZD {g:A8} {a t:Tm} {object:Bool} {st:Int} (hC:CaseOk g a t false object) (hst:st=if object then 0 else 1):∃A r f,A.sc g.length/\A.wt<=10/\JI (AM g) st t r f/\(f=0->r=A):=by
 have ht:=hC.zt rfl;obtain ⟨A,hA,hw,r,f,hJ,hv⟩:∃A:Tm,A.sc g.length/\A.wt<=10/\QI g st t A:=by
  subst ht;cases object
  ·exact ⟨natT,Eu _,by simp [natT,Tm.wt,Tm.wtL],by subst hst;exact SG g 0⟩
  ·exact ⟨Ek,Fh _,by simp [Ek,Tm.wt,Tm.wtL],by subst hst;exact ZY g 0⟩
 refine ⟨A,r,f,hA,hw,hJ,fun hf=>?_⟩;rcases hv with hv | hv
 ·exact absurd hf (AW hv)
 ·exact hv.2.1
theorem OP {ev:Int->Int->Tm->Option (RV×Int×Int)} (hev:∀s t v s',ev s 0 t=some (v,s',0)->s<=s'/\∀s2,0<=s2->s2<=s->ev s2 0 t=some (v,s2+(s' - s),0)) (herr:∀s e t v s',ev s e t=some (v,s',0)->e=0) (op:Int) (env:List RV) :
  ∀(l:List Tm) (i:Nat) (s:Int) (vs:List RV) (s':Int),A7 ev op env i l s 0=some (vs,s',0)->s<=s'/\∀s2,0<=s2->s2<=s->A7 ev op env i l s2 0=some (vs,s2+(s' - s),0)
 | [],i,s,vs,s',h=>by
  simp only [A7,AhZ,Ah0] at h;obtain ⟨rfl,rfl,_⟩:=h;refine ⟨Int.le_refl _,fun s2 _ _=>?_⟩;simp only [A7,AhZ,Ah0,true_and,and_true];omega
 | t::l,i,s,vs,s',h=>by
  simp only [A7] at h;by_cases hb:0<Al op i
  ·rw [if_pos hb] at h;cases hk:A7 ev op env (i+1) l s 0 with
   | none=>rw [hk] at h;cases h
   | some q =>obtain ⟨us,s1,e1⟩:=q;rw [hk] at h;simp only [Ah2,AhZ,Ah0] at h;obtain ⟨rfl,rfl,rfl⟩:=h;obtain ⟨h1,h2⟩:=OP hev herr op env l (i+1) s us s1 hk;refine ⟨h1,fun s2 a b=>?_⟩;rw [A7,if_pos hb,h2 s2 a b];rfl
  ·rw [if_neg hb] at h;cases he:ev s 0 t with
   | none=>rw [he] at h;cases h
   | some q =>
    obtain ⟨v,s1,e1⟩:=q;rw [he] at h;simp only at h;cases hk:A7 ev op env (i+1) l s1 e1 with
    | none=>rw [hk] at h;cases h
    | some q =>obtain ⟨us,s3,e3⟩:=q;rw [hk] at h;simp only [Ah2,AhZ,Ah0] at h;obtain ⟨rfl,rfl,rfl⟩:=h;have he1:=Gk ev herr op env l _ _ _ _ _ hk;subst he1;obtain ⟨a1,a2⟩:=hev _ _ _ _ he;obtain ⟨b1,b2⟩:=OP hev herr op env l (i+1) s1 us s3 hk;refine ⟨by omega,fun s2 a b=>?_⟩;rw [A7,if_neg hb,a2 s2 a b];simp only;rw [b2 (s2+(s1 - s)) (by omega) (by omega)];simp only [Ah2,AhZ,Ah0,true_and,and_true];omega
theorem LM:∀f,(∀s t env v s',AC f s 0 t env=some (v,s',0)->s<=s'/\∀s2,0<=s2->s2<=s->AC f s2 0 t env=some (v,s2+(s' - s),0))/\(∀s v w s',headR f s 0 v=some (w,s',0)->s<=s'/\∀s2,0<=s2->s2<=s->headR f s2 0 v=some (w,s2+(s' - s),0)):=by
 intro f
 induction f with
 | zero=>exact ⟨(by intro s t env v s' h;rw [AC] at h;cases h),(by intro s v w s' h;rw [headR] at h;cases h)⟩
 | succ f ih =>
  refine ⟨?_,?_⟩
  ·intro s t env v s' h;obtain ⟨op,m,ks⟩:=t;rw [AC,if_neg (by simp)] at h;have goal:∀s2:Int,AC (f+1) s2 0 (.mk op m ks) env=_:=fun s2=>by rw [AC,if_neg (by simp)]
   by_cases h9:900000<env.length
   ·rw [if_pos h9] at h;cases h
   rw [if_neg h9] at h;by_cases h1:op=1
   ·rw [if_pos h1] at h;by_cases hm:m<env.length
    ·rw [if_pos hm] at h;by_cases h0:0<=m
     ·rw [if_pos h0] at h;cases hx:env[((env.length:Int) - 1 - m).toNat]? with
      | none=>rw [hx] at h;cases h
      | some x =>rw [hx] at h;simp only [Ah2,AhZ,Ah0] at h;obtain ⟨rfl,rfl,_⟩:=h;refine ⟨Int.le_refl _,fun s2 _ _=>?_⟩;rw [goal s2,if_neg h9,if_pos h1,if_pos hm,if_pos h0,hx];simp only [Ah2,AhZ,Ah0,true_and,and_true];omega
     ·rw [if_neg h0] at h;cases h
    ·rw [if_neg hm] at h;by_cases h4:m<=4611686018427387904
     ·rw [if_pos h4] at h;simp only [AhZ,Ah0] at h;obtain ⟨rfl,rfl,_⟩:=h;refine ⟨Int.le_refl _,fun s2 _ _=>?_⟩;rw [goal s2,if_neg h9,if_pos h1,if_neg hm,if_pos h4];simp only [AhZ,Ah0,true_and,and_true];omega
     ·rw [if_neg h4] at h;cases h
   ·rw [if_neg h1] at h;by_cases h2:f<=ks.length
    ·rw [if_pos h2] at h;cases h
    rw [if_neg h2] at h;by_cases h3:900000<ks.length
    ·rw [if_pos h3] at h;cases h
    rw [if_neg h3] at h;cases hk:A7 (fun s e t=>AC f s e t env) op env 0 ks s 0 with
    | none=>rw [hk] at h;cases h
    | some q =>obtain ⟨vs,s1,e1⟩:=q;rw [hk] at h;simp only at h;have he:=Gg h;subst he;obtain ⟨a1,a2⟩:=OP (ev:=fun s e t=>AC f s e t env) (fun s t v s' a=>ih.1 s t env v s' a) (fun s e t v s' a=>Cq a) op env ks 0 s vs s1 hk;obtain ⟨b1,b2⟩:=ih.2 _ _ _ _ h;refine ⟨by omega,fun s2 a b=>?_⟩;rw [goal s2,if_neg h9,if_neg h1,if_neg h2,if_neg h3,a2 s2 a b];simp only;rw [b2 (s2+(s1 - s)) (by omega) (by omega)];simp only [AhZ,Ah0,true_and,and_true];omega
  ·intro s v w s' h;rw [headR,if_neg (by simp)] at h;have goal:∀s2:Int,headR (f+1) s2 0 v=_:=fun s2=>by rw [headR,if_neg (by simp)]
   by_cases hs:s<0\/1000000<s
   ·rw [if_pos hs] at h;cases h
   rw [if_neg hs] at h;have one:∀{β:Type} {x y:β} {p q:Int},(x,p,(0:Int))=(y,q,0) ↔ x=y/\p=q:=by intro β x y p q;simp
   by_cases h5:v.op=5
   ·rw [if_pos h5] at h;cases hk:v.k[0]? with
    | none=>rw [hk] at h;cases h
    | some k0 =>
     rw [hk] at h;simp only at h;by_cases h4:k0.op=4
     ·rw [if_pos h4] at h;by_cases hq:s+1<=1000
      ·rw [if_pos hq] at h;cases hc:k0.k[1]? with
       | none=>rw [hc] at h;cases h
       | some c =>
       cases hx:v.k[1]? with
       | none=>rw [hc,hx] at h;cases h
       | some x =>
        rw [hc,hx] at h;simp only at h;by_cases hl:900000<c.env.length
        ·rw [if_pos hl] at h;cases h
        rw [if_neg hl] at h;obtain ⟨a1,a2⟩:=ih.1 _ _ _ _ _ h;refine ⟨by omega,fun s2 a b=>?_⟩;rw [goal s2,if_neg (by omega),if_pos h5,hk];simp only;rw [if_pos h4,if_pos (by omega),hc,hx];simp only;rw [if_neg hl,a2 (s2+1) (by omega) (by omega)];simp only [AhZ,one,true_and];omega
      ·rw [if_neg hq] at h;simp at h
     ·rw [if_neg h4] at h;simp only [AhZ,one] at h;obtain ⟨rfl,rfl⟩:=h;refine ⟨Int.le_refl _,fun s2 a b=>?_⟩;rw [goal s2,if_neg (by omega),if_pos h5,hk];simp only;rw [if_neg h4];simp only [AhZ,one,true_and];omega
   rw [if_neg h5] at h;have proj:∀(o:Int) (i:Nat),(match v.k[0]? with
     | none=>none
     | some k0=>if k0.op=o then (if s+1<=1000 then (k0.k[i]?).map fun x=>(x,s+1,(0:Int)) else some (v,s+1,17)) else some (v,s,0))=some (w,s',0) ->
     s<=s'/\∀s2,0<=s2->s2<=s->(match v.k[0]? with
     | none=>none
     | some k0=>if k0.op=o then (if s2+1<=1000 then (k0.k[i]?).map fun x=>(x,s2+1,(0:Int)) else some (v,s2+1,17)) else some (v,s2,0))=some (w,s2+(s' - s),0):=by
    intro o i h;cases hk:v.k[0]? with
    | none=>rw [hk] at h;cases h
    | some k0 =>
     rw [hk] at h;simp only at h ⊢;by_cases h4:k0.op=o
     ·rw [if_pos h4] at h;by_cases hq:s+1<=1000
      ·rw [if_pos hq] at h;cases hx:k0.k[i]? with
       | none=>rw [hx] at h;cases h
       | some x =>rw [hx] at h;simp only [Ah2,AhZ,one] at h;obtain ⟨rfl,rfl⟩:=h;refine ⟨by omega,fun s2 a b=>?_⟩;rw [if_pos h4,if_pos (by omega)];simp only [Ah2,AhZ,one,true_and];omega
      ·rw [if_neg hq] at h;simp at h
     ·rw [if_neg h4] at h;simp only [AhZ,one] at h;obtain ⟨rfl,rfl⟩:=h;refine ⟨Int.le_refl _,fun s2 a b=>?_⟩;rw [if_neg h4];simp only [AhZ,one,true_and];omega
   by_cases h89:v.op=8\/v.op=9
   ·rw [if_pos h89] at h;obtain ⟨a1,a2⟩:=proj 7 _ h;refine ⟨a1,fun s2 a b=>?_⟩;rw [goal s2,if_neg (by omega),if_neg h5,if_pos h89];exact a2 s2 a b
   rw [if_neg h89] at h;by_cases h30:v.op=30
   ·rw [if_pos h30] at h;obtain ⟨a1,a2⟩:=proj 19 0 h;refine ⟨a1,fun s2 a b=>?_⟩;rw [goal s2,if_neg (by omega),if_neg h5,if_neg h89,if_pos h30];exact a2 s2 a b
   rw [if_neg h30] at h;by_cases h19:v.op=19
   ·rw [if_pos h19] at h;obtain ⟨a1,a2⟩:=proj 30 0 h;refine ⟨a1,fun s2 a b=>?_⟩;rw [goal s2,if_neg (by omega),if_neg h5,if_neg h89,if_neg h30,if_pos h19];exact a2 s2 a b
   rw [if_neg h19] at h;by_cases h13:v.op=13
   ·rw [if_pos h13] at h;cases hk0:v.k[0]? with
    | none=>rw [hk0] at h;cases h
    | some k0 =>
    cases hk1:v.k[1]? with
    | none=>rw [hk0,hk1] at h;cases h
    | some k1 =>
    cases hk2:v.k[2]? with
    | none=>rw [hk0,hk1,hk2] at h;cases h
    | some k2 =>
    cases hk3:v.k[3]? with
    | none=>rw [hk0,hk1,hk2,hk3] at h;cases h
    | some k3 =>
     rw [hk0,hk1,hk2,hk3] at h;simp only at h;have g2:∀s2:Int,0<=s2->s2<=s->headR (f+1) s2 0 v=_:=fun s2 a b=>by
      rw [goal s2,if_neg (by omega),if_neg h5,if_neg h89,if_neg h30,if_neg h19,if_pos h13,hk0,hk1,hk2,hk3]
     by_cases h11:k3.op=11
     ·rw [if_pos h11] at h;by_cases hq:s+1<=1000
      ·rw [if_pos hq] at h;simp only [AhZ,one] at h;obtain ⟨rfl,rfl⟩:=h;refine ⟨by omega,fun s2 a b=>?_⟩;rw [g2 s2 a b];simp only;rw [if_pos h11,if_pos (by omega)];simp only [AhZ,one,true_and];omega
      ·rw [if_neg hq] at h;simp at h
     rw [if_neg h11] at h;by_cases h12:k3.op=12
     ·rw [if_pos h12] at h;by_cases hq:s+1<=1000
      ·rw [if_pos hq] at h;cases hx:k3.k[0]? with
       | none=>rw [hx] at h;cases h
       | some x =>
        rw [hx] at h;simp only at h;cases hd:headR f (s+1) 0 (.node 13 0 [k0,k1,k2,x]) with
        | none=>rw [hd] at h;cases h
        | some q =>
         obtain ⟨y,s1,e1⟩:=q;rw [hd] at h;simp only at h;by_cases hl:900000<k2.env.length
         ·rw [if_pos hl] at h;cases h
         rw [if_neg hl] at h;have he:=Cq h;subst he;obtain ⟨a1,a2⟩:=ih.2 _ _ _ _ hd;obtain ⟨b1,b2⟩:=ih.1 _ _ _ _ _ h;refine ⟨by omega,fun s2 a b=>?_⟩;rw [g2 s2 a b];simp only;rw [if_neg h11,if_pos h12,if_pos (by omega),hx];simp only;rw [a2 (s2+1) (by omega) (by omega)];simp only;rw [if_neg hl,b2 (s2+1+(s1 - (s+1))) (by omega) (by omega)];simp only [AhZ,one,true_and];omega
      ·rw [if_neg hq] at h;simp at h
     ·rw [if_neg h12] at h;simp only [AhZ,one] at h;obtain ⟨rfl,rfl⟩:=h;refine ⟨Int.le_refl _,fun s2 a b=>?_⟩;rw [g2 s2 a b];simp only;rw [if_neg h11,if_neg h12];simp only [AhZ,one,true_and];omega
   rw [if_neg h13] at h;simp only [AhZ,one] at h;obtain ⟨rfl,rfl⟩:=h;refine ⟨Int.le_refl _,fun s2 a b=>?_⟩;rw [goal s2,if_neg (by omega),if_neg h5,if_neg h89,if_neg h30,if_neg h19,if_neg h13];simp only [AhZ,one,true_and];omega
theorem RG {rd:Int->Int->Int->RV->Int->Option (Tm×Int×Int×Int)} {f:Nat} (hrd:∀s nd v u t s' nd',rd s nd 0 v u=some (t,s',nd',0)->s<=s'/\∀s2,0<=s2->s2<=s->rd s2 nd 0 v u=some (t,s2+(s' - s),nd',0)) (herr:∀s nd e v u t s' nd',rd s nd e v u=some (t,s',nd',0)->e=0) (op u:Int) :
  ∀(l:List RV) (i:Nat) (s nd:Int) (ts:List Tm) (s' nd':Int),Bd rd f op u i l s nd 0=some (ts,s',nd',0)->s<=s'/\∀s2,0<=s2->s2<=s->Bd rd f op u i l s2 nd 0=some (ts,s2+(s' - s),nd',0)
 | [],i,s,nd,ts,s',nd',h=>by
  simp only [Bd,AhZ,Ah0] at h;obtain ⟨rfl,rfl,rfl,_⟩:=h;refine ⟨Int.le_refl _,fun s2 _ _=>?_⟩;simp only [Bd,AhZ,Ah0,true_and,and_true];omega
 | k::l,i,s,nd,ts,s',nd',h=>by
  rw [Bd] at h;cases hk:(if 0<Al op i then (if 900000<k.env.length then none else AC f s 0 k.b (k.env++ER u (Al op i))) else some (k,s,0)) with
  | none=>rw [hk] at h;cases h
  | some q =>
   obtain ⟨y,s1,e1⟩:=q;rw [hk] at h;simp only at h;cases ht:rd s1 nd e1 y (u+Al op i) with
   | none=>rw [ht] at h;cases h
   | some q =>
    obtain ⟨t,s3,nd3,e3⟩:=q;rw [ht] at h;simp only at h;cases hr:Bd rd f op u (i+1) l s3 nd3 e3 with
    | none=>rw [hr] at h;cases h
    | some q =>
     obtain ⟨us,s4,nd4,e4⟩:=q;rw [hr] at h;simp only [Ah2,AhZ,Ah0] at h;obtain ⟨rfl,rfl,rfl,rfl⟩:=h;have he3:e3=0:=Ko.readK_err herr op u l _ _ _ _ _ _ _ hr;subst he3;have he1:=herr _ _ _ _ _ _ _ _ ht;subst he1;have hkk:s<=s1/\∀s2,0<=s2->s2<=s->(if 0<Al op i then (if 900000<k.env.length then none else AC f s2 0 k.b (k.env++ER u (Al op i))) else some (k,s2,0))=some (y,s2+(s1 - s),0):=by
      by_cases hb:0<Al op i
      ·rw [if_pos hb] at hk;by_cases hl:900000<k.env.length
       ·rw [if_pos hl] at hk;cases hk
       rw [if_neg hl] at hk;obtain ⟨a1,a2⟩:=(LM f).1 _ _ _ _ _ hk;refine ⟨a1,fun s2 a b=>?_⟩;rw [if_pos hb,if_neg hl];exact a2 s2 a b
      ·rw [if_neg hb] at hk;simp only [AhZ,Ah0] at hk;obtain ⟨rfl,rfl,_⟩:=hk;refine ⟨Int.le_refl _,fun s2 a b=>?_⟩;rw [if_neg hb];simp only [AhZ,Ah0,true_and,and_true];omega
     obtain ⟨a1,a2⟩:=hkk;obtain ⟨b1,b2⟩:=hrd _ _ _ _ _ _ _ ht;obtain ⟨c1,c2⟩:=RG hrd herr op u l (i+1) s3 nd3 us s4 nd4 hr;refine ⟨by omega,fun s2 a b=>?_⟩;rw [Bd,a2 s2 a b];simp only;rw [b2 (s2+(s1 - s)) (by omega) (by omega)];simp only;rw [c2 (s2+(s1 - s)+(s3 - s1)) (by omega) (by omega)];simp only [Ah2,AhZ,Ah0,true_and,and_true];omega
theorem lP:∀f s nd v u d t s' nd',AT f s nd 0 v u d=some (t,s',nd',0)->s<=s'/\∀s2,0<=s2->s2<=s->AT f s2 nd 0 v u d=some (t,s2+(s' - s),nd',0):=by
 intro f
 induction f with
 | zero=>intro s nd v u d t s' nd' h;rw [AT] at h;cases h
 | succ f ih =>
  intro s nd v u d t s' nd' h;rw [AT] at h;by_cases hb:nd<0\/1000000<nd\/u<0\/1000000<u\/d<0\/1000000<d\/v.n < -2305843009213693952\/2305843009213693952<v.n\/f<=v.k.length\/900000<v.k.length\/f<=3
  ·rw [if_pos hb] at h;cases h
  rw [if_neg hb] at h;by_cases h3:(0:Int)=0/\(3000<nd+1\/120<d)
  ·rw [if_pos h3,if_pos (by decide)] at h;simp at h
  rw [if_neg h3,if_neg (by simp)] at h;have goal:∀s2:Int,AT (f+1) s2 nd 0 v u d=_:=fun s2=>by rw [AT,if_neg hb,if_neg h3,if_neg (by simp)]
  by_cases h1:v.op=1
  ·rw [if_pos h1] at h;simp only [AhZ,Ah0] at h;obtain ⟨rfl,rfl,rfl,_⟩:=h;refine ⟨Int.le_refl _,fun s2 a b=>?_⟩;rw [goal s2,if_pos h1];simp only [AhZ,Ah0,true_and,and_true];omega
  ·rw [if_neg h1] at h;cases hr:Bd (fun s nd e k u=>AT f s nd e k u (d+1)) f v.op u 0 v.k s (nd+1) 0 with
   | none=>rw [hr] at h;cases h
   | some q =>obtain ⟨us,s3,nd3,e3⟩:=q;rw [hr] at h;simp only [Ah2,AhZ,Ah0] at h;obtain ⟨rfl,rfl,rfl,rfl⟩:=h;obtain ⟨a1,a2⟩:=RG (fun s nd v u t s' nd' a=>ih s nd v u (d+1) t s' nd' a) (fun s nd e v u t s' nd' a=>DL a) v.op u v.k 0 s (nd+1) us s3 nd3 hr;refine ⟨a1,fun s2 a b=>?_⟩;rw [goal s2,if_neg h1,a2 s2 a b];rfl
mutual
theorem AbG:∀(t:Tm) (k:Nat) (c:Int),t.sc k->k+2 * t.wt<=4000000000000000000->t.shift 0 c=t
 | .mk op n ks,k,c,h,hk=>by
  rw [Tm.sc] at h;rw [Tm.wt] at hk;rw [Tm.shift,shL_0 ks op 0 k c h.2.2 (by omega)];split
  ·rename_i h1
   have:=h.2.1
   rw [if_pos h1.1] at this;rw [Az (by omega) (by omega),Int.add_zero]
  ·rfl
theorem shL_0:∀(l:List Tm) (op:Int) (i k:Nat) (c:Int),Tm.scL op i l k->k+2+2 * Tm.wtL l<=4000000000000000000->Tm.shiftL op i l 0 c=l
 | [],_,_,_,_,_,_=>rfl
 | t::l,op,i,k,c,h,hk=>by
  rw [Tm.scL] at h;simp only [Tm.wtL] at hk
  have:=A0 op i
  rw [Tm.shiftL,AbG t _ _ h.1 (by omega),shL_0 l op (i+1) k c h.2 (by omega)]
end
theorem To {f:Nat} {a b x u:Tm} (hv:a.vb) (h:AE f (.mk 5 0 [.mk 4 0 [b,a.shift 1 0],x])=some (u,0)):∃f' w,AE f' a=some (w,0)/\u=w.shift 0 0:=by
 rw [AE] at h;cases he:AC f 0 0 (.mk 5 0 [.mk 4 0 [b,a.shift 1 0],x]) [] with
 | none=>rw [he] at h;cases h
 | some q =>
  obtain ⟨v,s,e⟩:=q;rw [he] at h;simp only at h;cases hr:AT f s 0 e v 0 1 with
  | none=>rw [hr] at h;cases h
  | some q =>
   obtain ⟨w,s2,nd2,e2⟩:=q;rw [hr] at h;simp only [AhZ] at h;by_cases h2:e2≠0
   ·rw [if_pos h2] at h;simp only [Ah0] at h;exact absurd h.2 h2
   rw [if_neg h2] at h;simp only [Ah0,and_true] at h;subst h;have he2:e2=0:=by omega
   subst he2;have he0:=DL hr;subst he0;cases f with
   | zero=>rw [AC] at he;cases he
   | succ f =>
    obtain ⟨vs,s1,q1,q2⟩:=Hk he (by decide);simp only [A7] at q1;rw [if_neg (by decide)] at q1;cases hq:AC f 0 0 (.mk 4 0 [b,a.shift 1 0]) [] with
    | none=>rw [hq] at q1;cases q1
    | some p =>
     obtain ⟨v0,s3,e3⟩:=p;rw [hq] at q1;simp only at q1;rw [if_neg (by decide)] at q1;cases hx:AC f s3 e3 x [] with
     | none=>rw [hx] at q1;cases q1
     | some p =>
      obtain ⟨v1,s4,e4⟩:=p;rw [hx] at q1;simp only [Ah2,AhZ,Ah0] at q1;obtain ⟨rfl,rfl,rfl⟩:=q1;have he3:=Cq hx;subst he3;have m3:=((LM _).1 _ _ _ _ _ hq).1;have m4:=((LM _).1 _ _ _ _ _ hx).1;obtain ⟨va,rfl⟩:=OL hq;cases f with
      | zero=>rw [AC] at hq;cases hq
      | succ f =>
       have hb:=R7 q2;obtain ⟨v2,p1,p2⟩:=(Qq 0 0 (by omega) f).1 (s4+1) 0 a [] [v1] v s 0 (by simpa [xD] using hb) hv ⟨⟨by simp,.inl rfl⟩,fun j x x' a=>by simp at a⟩;obtain ⟨t,r1,r2⟩:=UQ 0 0 (by omega) _ _ _ _ _ _ 0 _ _ _ _ _ hr p2;obtain ⟨k1,k2⟩:=(LM _).1 _ _ _ _ _ p1;have hrd:=(lP _ _ _ _ _ _ _ _ _ r1).2 (s - (s4+1)) (by omega) (by omega);refine ⟨f+1+1,t,?_,by simpa using r2⟩;rw [AE,B4 (show f<=f+1+1 by omega) (k2 0 (by omega) (by omega))]
       simp only;rw [show ((0:Nat):Int)=0 from rfl] at hrd
       rw [Int.zero_add,hrd];simp
theorem Afc {G:List Nat} {t:Tm} {σ:Nat} (h:HasT G t σ):∀s,σ=10+s->HasT G t 2:=by
 induction h with
 | var G n s h0 h hs=>intro s' h;omega
 | app G n m a b x y s s0 hs=>intro s' h;omega
 | fst G n m a x y s s1 s0 hs=>intro s' h;omega
 | snd G n m a x y s s1 s0 hs=>intro s' h;omega
 | node G op n ks s sg hr hl hk ih =>
  intro s' h;have two:∀(a b:Nat),sg=[([],10+a),([a],10+b)]->Rule op 2 [([],2),([a],2)]->HasT G (.mk op n ks) 2:=by
   intro a b hsg hr2;subst hsg;refine .node _ _ _ _ _ _ hr2 hl fun i t bs s' h1 h2=>?_
   match i with
   | 0=>simp at h2;obtain ⟨rfl,rfl⟩:=h2;exact ih 0 t [] (10+a) h1 rfl a rfl
   | 1=>simp at h2;obtain ⟨rfl,rfl⟩:=h2;exact ih 1 t [a] (10+b) h1 rfl b rfl
   | i+2=>simp at h2
  cases hr with
  | natT=>exact .node _ _ _ _ _ _ .natU hl hk
  | tyT=>exact .node _ _ _ _ _ _ .tyU hl hk
  | uT=>exact .node _ _ _ _ _ _ .uU hl hk
  | liftT=>exact .node _ _ _ _ _ _ .liftU hl hk
  | piT a b ha hb=>exact two a b rfl (.piU a (by omega))
  | sigT a b ha hb=>exact two a b rfl (.sigU a 2 2 (by omega) (.inl ⟨rfl,rfl⟩))
  | recR s hs=>omega
  | _=>omega
def aI (a:Tm):Tm:=.mk 5 0 [.mk 4 0 [natT,a.shift 1 0],SK]
def Ad8 {a A B:Tm} {w:Bool} {e:Int} (hw:A.same B=w) (he:e=if w then 0 else 11) (h0:PN a B) (h1:PN A A) (h2:PE A) (h3:PE B) (wA:A.wt<=3001) (wB:B.wt<=3001):Ev 62 [.fv A.enc,.fv a.enc] (.int .i64 e):=by
 have hE:Ev 89 [.fv A.enc,.fv a.enc] (.tuple [.bool w,.int .i64 0]):=by refine Ni 20000 (kJ h0 h3) (kJ h1 h2) fun n hn q0 q1=>?_;have c:=R8 (n:=n) A B 0 0 (by omega) (by omega);rw [hw] at c;rw [c89];simp only [EM,TU] at q0 q1 c ⊢;simp only [TD,S89,↓XX,XY,↓reduceIte,seval,↓Ar q0,↓Ar q1,↓QU,↓Ag c];exact A6 rfl
 refine C8 200 hE fun n hn h0=>?_;rw [c62];subst he;simp only [EM] at h0 ⊢;cases w
 ·simp only [S62,↓XX,XY,↓reduceIte,seval,↓Ag h0];exact A6 rfl
 ·simp only [S62,↓XX,XY,↓reduceIte,seval,↓Ag h0];exact A6 rfl
def AbC {a:Tm} {k:Nat} (h:a.sc k) (hw:k+2 * a.wt<=100000000):(aI a).sc k:=by
 have:=CG a 1 0 k h (by omega)
 exact CR (CR (Eu _) this) (C3)
def AaD (a:Tm):(aI a).dp<=3+a.dp:=by rw [aI,Ly,Ly,Di];simp only [natT,SK,Tm.dp,Tm.dpL];omega
def Abj (a:Tm):(aI a).wt=4+a.wt:=by rw [aI,D1,D1,Bl];simp only [natT,SK,Tm.wt,Tm.wtL];omega
structure CaC (g:A8) (a t b:Tm) (f h:Int):Prop where
 cf:Nk f\/Ev 27 [.fv (AM g),iv 1,.fv t.enc,.fv b.enc] (.int .i64 f)
 ch:Nk h\/h=0/\Ev 27 [.fv (AM g),iv 1,.fv t.enc,.fv (aI a).enc] (.int .i64 0)
def sZ {g:A8} {a t b:Tm} {is:Bool} (hC:CaseOk g a t is false) (gb:Gr 0 7 g .z b) (bsc:b.sc g.length):∃f h,JC (AM g) 1 t b f/\JC (AM g) 1 t (aI a) h/\(is=true->CaC g a t b f h):=by
 have hl:=hC.len;have had:=hC.adp;have asc:=hC.asc;have haw:=hC.awt;have bw:=t_7 gb;have bd:=Dz b;have wsc:=AbC asc (by omega);have wd:=AaD a;cases is
 ·obtain ⟨A,r,f,hA,hw,hJ,hf⟩:=ZD hC rfl;by_cases h0:f=0
  ·subst h0
   have:=hf rfl
   subst this;have rd:=Dz r;obtain ⟨e,he⟩:=cT hJ (by omega) hA bsc (by omega) (by omega);obtain ⟨e',he'⟩:=cT hJ (by omega) hA wsc (by omega) (by omega);exact ⟨e,e',he,he',fun h=>by cases h⟩
  ·exact ⟨f,f,TF h0 hJ,TF h0 hJ,fun h=>by cases h⟩
 ·obtain ⟨G,f,A,s,hG,hX,hE,hck,hn,hEs,hT,aw,hN,⟨x,r,hJ,cf⟩,st2⟩:=Yg (q:=.z) hC (fun h=>by cases h) rfl;rcases cf with cf | ⟨rfl,rfl,hK⟩
  ·exact ⟨r,r,TF (AW cf) hJ,TF (AW cf) hJ,fun _=>⟨.inl cf,.inl cf⟩⟩
  have nA:=B3 hn hT;have Aw:=hN.wt;have aw1:=t_7 (hC.ga rfl);have Ad:=hN.dp;have tA:=Dy nA hEs hN.sc (by omega) (by omega);have pA:=lA tA.n (BW nA) (by omega) hN;have hX2:=tJ (.inr rfl) (by omega) (mH hE) hck hK pA;have e1:=IC nA hEs;have cmp:∀{X:Tm},X.sc g.length->X.dp<=20000->(∀f y,AE f X=some (y,0)->(∃D σ,NfT D y σ/\Es σ)/\PN X y)->∃e,JC (AM g) 1 t X e/\(Nk e\/∃y f',AE f' X=some (y,0)/\e=(if x.same y then 0 else 11)/\Ev 27 [.fv (AM g),iv 1,.fv t.enc,.fv X.enc] (.int .i64 e)):=by
   intro X Xs Xd hX;obtain ⟨w,e,hE,c2⟩:=je (by omega) hN.sc Xs (by omega) Xd;rcases c2 with c2 | ⟨rfl,f1,x',f2,y,h1,h2,_,o2,hw⟩
   ·exact ⟨e,nC (AW c2) hJ hE,.inl c2⟩
   have:=(tA.n.nf _ _ h1).1
   subst this;obtain ⟨⟨D,σ,hD,hσ⟩,hP⟩:=hX _ _ h2;rw [e1,IC hD hσ] at hw;have yw:=o2.wt;have hk:=wI hX2 (Ad8 (e:=if w then 0 else 11) hw.symm rfl hP pA tA.e (nV hD hσ o2.sc (by omega) (by omega)) (by omega) (by omega));cases w
   ·exact ⟨11,zY hJ hE,.inr ⟨y,f2,h2,by rw [<- hw];rfl,hk⟩⟩
   ·exact ⟨0,j4 hJ hE,.inr ⟨y,f2,h2,by rw [<- hw];rfl,hk⟩⟩
  obtain ⟨s',_,hTb⟩:=(JV gb G hG).1 rfl;have hGl:=hG.len;obtain ⟨f1,hf1,cf⟩:=cmp bsc (by omega) fun f y hy=>⟨⟨G,_,B3 hy hTb,Kk⟩,RY hTb bsc (by omega) (by omega) hy⟩;have hTW:HasT G (aI a) 2:=by
   rcases st2 with ⟨_,h10,_⟩ | ⟨h,_⟩
   ·have h2:=Afc hT (s - 10) (by omega);have h3:=EV h2 [0] (by simp only [Ah3,List.length_nil];omega);exact .app _ _ _ _ _ _ 0 _ 10 (by omega) (by omega) (ht0 .natT) (by simpa using h3) (ht0 .zero)
   ·exact absurd h (by decide)
  obtain ⟨f2,hf2,ch⟩:=cmp wsc (by omega) fun f y hy=>⟨⟨G,_,B3 hy hTW,.inr (.inr (.inl rfl))⟩,RY hTW wsc (by omega) (by rw [Abj];omega) hy⟩;refine ⟨f1,f2,hf1,hf2,fun _=>⟨?_,?_⟩⟩
  ·rcases cf with cf | ⟨_,_,_,_,h⟩
   ·exact .inl cf
   ·exact .inr h
  ·rcases ch with ch | ⟨y,f',hy,he,h⟩
   ·exact .inl ch
   ·obtain ⟨f3,w,h3,h4⟩:=To (Ij a _ asc (by omega)) hy
    have:=CA h3 hn
    simp only [Ah0,and_true] at this;subst this;rw [AbG w _ 0 hN.sc (by omega)] at h4;subst h4;rw [(J3 y y).2 rfl] at he;subst he;exact .inr ⟨rfl,h⟩
def hvB {e:Int} (h:Nk e):(decide (e=17) || decide (e=5))=true:=by rcases h with rfl | rfl<;>rfl
def O6 {n:Nat} (hn:1<n) (op:Int) (l:List Tm):BC (SS dt n 34 [iv op,.fv (.sl (l.map Tm.enc))] ⟨[],[]⟩) (Tm.mk op 0 l).enc:=by obtain ⟨n,rfl⟩:=psc n (by omega);have h:=CO (n:=n) (by omega) op l;rw [c34];rw [An] at h ⊢;simp only [S34,↓XX,XY,↓reduceIte,seval,↓Ag h];exact A6 rfl
structure CaD (n:Nat) (g:A8) (a t b:Tm) (f h:Int):Prop where
 kf:Nk f\/BC (SS dt n 27 [.fv (AM g),iv 1,.fv t.enc,.fv b.enc] ⟨[],[]⟩) (.int .i64 f)
 kh:Nk h\/h=0/\BC (SS dt n 27 [.fv (AM g),iv 1,.fv t.enc,.fv (aI a).enc] ⟨[],[]⟩) (.int .i64 0)
def Lb (l:List Tm) (hll:l.length<=9223372036854775807) (r q s:Tm):∃N,zK (SS dt N 8 [.fv (.sl (l.map Tm.enc)),.fv r.enc,.fv q.enc,.fv s.enc] ⟨[],[]⟩) (.bool true):=by
 obtain ⟨g,a,t,is,⟨N0,h0⟩,hC,hpl,_⟩:=lO l hll r q false;obtain ⟨hT,_,_⟩:=I1 7 (by omega);obtain ⟨b,⟨N1,h1⟩,tb⟩:=hT g s (Ba (by omega) hC.gok);obtain ⟨f,h,⟨N2,h2⟩,⟨N3,h3⟩,hK⟩:=sZ hC tb.gr tb.sc;have asc:=hC.asc;have awt:=hC.awt;have hl:=hC.len;obtain ⟨N4,h4⟩:∃N,is=true->∀n,N<=n->CaD n g a t b f h:=by
  by_cases hi:is=true
  ·obtain ⟨c1,c2⟩:=hK hi;obtain ⟨M1,k1⟩:∃M,∀n,M<=n->(Nk f\/BC (SS dt n 27 [.fv (AM g),iv 1,.fv t.enc,.fv b.enc] ⟨[],[]⟩) (.int .i64 f)):=by
    rcases c1 with c1 | ⟨M,k⟩
    ·exact ⟨0,fun _ _=>.inl c1⟩
    ·exact ⟨M,fun n hn=>.inr (k n hn)⟩
   rcases c2 with c2 | ⟨e,M2,k2⟩
   ·exact ⟨M1,fun _ n hn=>⟨k1 n hn,.inl c2⟩⟩
   ·exact ⟨M1+M2,fun _ n hn=>⟨k1 n (by omega),.inr ⟨e,k2 n (by omega)⟩⟩⟩
  ·exact ⟨0,fun h=>absurd h hi⟩
 obtain ⟨n,hn⟩:∃n,n=N0+N1+N2+N3+N4+Tm.wtL l+r.wt+q.wt+s.wt+10000000000:=⟨_,rfl⟩;refine ⟨n+1,?_⟩;have h0:=h0 n (by omega);have h1:=h1 n (by omega);have h2:=h2 n (by omega);have h3:=h3 n (by omega);have h4:=fun hi=>h4 hi n (by omega);have sh:=CS n a 1 0 (by omega) (C5 a _ asc) (by omega) (by omega);have t10:=O6 (n:=n) (by omega) 10 [];have t11:=O6 (n:=n) (by omega) 11 [];have t4:=O6 (n:=n) (by omega) 4 [natT,a.shift 1 0];have t5:=O6 (n:=n) (by omega) 5 [.mk 4 0 [natT,a.shift 1 0],SK];have u1:=RK (n:=n) (by omega) f;have u2:=RK (n:=n) (by omega) h;have hk:=YH (n:=n) (by omega);have hm:=jH l hll (n:=n) (by omega);obtain ⟨m,hmn⟩:∃m,n=m+1:=⟨n - 1,by omega⟩;have fr:=Qw (n:=m) r (by omega);have fq:=Qw (n:=m) q (by omega);have fs:=Qw (n:=m) s (by omega);rw [<- hmn] at fr fq fs;rw [show ((7:Nat):Int) - 5=2 from rfl] at h1
 rw [c8];generalize (FV.sl (l.map Tm.enc))=le at *;generalize ZK l=ml at hm;generalize decide (r.count 300<300)=br at fr;generalize decide (q.count 300<300)=bq at fq;generalize decide (s.count 300<300)=bs at fs;clear hC hpl hK asc tb;have e0:(decide ((0:Int)=17) || decide ((0:Int)=5))=false:=rfl;cases ml
 ·simp only [EM];simp only [↓oU,↓XX,XY,↓reduceIte,seval,↓EN hk,↓Ar hm];exact Rp
 simp only [EM,aI,SK] at fr fq fs h0 h1 h2 h3 h4 sh t10 t11 t4 t5 ⊢;cases br
 ·simp only [↓oU,↓XX,XY,↓reduceIte,seval,↓EN hk,↓Ar hm,↓Ar fr];exact Rp
 cases bq
 ·simp only [↓oU,↓XX,XY,↓reduceIte,seval,↓EN hk,↓Ar hm,↓Ar fr,↓Ar fq];exact Rp
 cases bs
 ·simp only [↓oU,↓XX,XY,↓reduceIte,seval,↓EN hk,↓Ar hm,↓Ar fr,↓Ar fq,↓Ar fs];exact Rp
 cases is
 ·clear h4;simp only [↓oU,↓XX,XY,↓reduceIte,seval,↓EN hk,↓Ar hm,↓Ar fr,↓Ar fq,↓Ar fs,↓Au h0,↓Av h1,↓Au h2,↓Ag t10,↓Av sh,↓Ct,↓Ag t4,↓Ag t11,↓Ag t5,↓Au h3];exact Rp
 replace h4:=h4 rfl;obtain ⟨c1,c2⟩:=h4;by_cases hv:Nk f
 ·rw [hvB hv] at u1;simp only [↓oU,↓XX,XY,↓reduceIte,seval,↓EN hk,↓Ar hm,↓Ar fr,↓Ar fq,↓Ar fs,↓Au h0,↓Av h1,↓Au h2,↓Ag t10,↓Av sh,↓Ct,↓Ag t4,↓Ag t11,↓Ag t5,↓Au h3,↓Ar u1];exact Rp
 have hf:(decide (f=17) || decide (f=5))=false:=by unfold Nk at hv;simp only [Bool.or_eq_false_iff,decide_eq_false_iff_not];omega
 rw [hf] at u1;have c1:=c1.resolve_left hv;rcases c2 with hw | ⟨rfl,c2⟩
 ·rw [hvB hw] at u2;simp only [↓oU,↓XX,XY,↓reduceIte,seval,↓EN hk,↓Ar hm,↓Ar fr,↓Ar fq,↓Ar fs,↓Au h0,↓Av h1,↓Au h2,↓Ag t10,↓Av sh,↓Ct,↓Ag t4,↓Ag t11,↓Ag t5,↓Au h3,↓Ar u1,↓Ar u2];exact Rp
 rw [e0] at u2;simp only [EM,aI,SK] at c1 c2;simp only [↓oU,↓XX,XY,↓reduceIte,seval,↓EN hk,↓Ar hm,↓Ar fr,↓Ar fq,↓Ar fs,↓Au h0,↓Av h1,↓Au h2,↓Ag t10,↓Av sh,↓Ct,↓Ag t4,↓Ag t11,↓Ag t5,↓Au h3,↓Ar u1,↓Ar u2,↓Au c1,↓Au c2];exact Rp
end Idl
end Go.Proofs.YtnenpcghegcnhaaGreat

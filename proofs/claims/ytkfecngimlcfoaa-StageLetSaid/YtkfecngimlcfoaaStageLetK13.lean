/-
  Texts of a proof, part 13: an ideal semantics of the program, its functions in shallow form, contracts of them. No statement of the seat is proved here.
-/
import Derived.Test.YtkfecngimlcfoaaStageLetK12
set_option linter.all false
set_option maxRecDepth 20000
set_option maxHeartbeats 16000000
noncomputable section
namespace Go.Proofs.Ytkfecngimlcfoaa
namespace Idl
def Ajd {e:Nat} (h6:6<=e) (he:e<=10) (hO:El 33 2 (e - 2)) (hG:El 39 1 (e - 1)):Ro 59 4 e:=by
 intro g a r hg ha;have hlen:=hg.len;have hW1:Wg e=4 * Wg (e - 1):=by
  obtain ⟨f,rfl⟩:∃f,e=f+1:=⟨e - 1,by omega⟩;rw [Na,Nat.add_sub_cancel]
 have hW2:Wg e=16 * Wg (e - 2):=by
  obtain ⟨f,rfl⟩:∃f,e=f+2:=⟨e - 2,by omega⟩;rw [show f+2=(f+1)+1 by omega,Na,Na,show f+1+1 - 2=f by omega];omega
 have hW0:=M5 (e - 2);have hW10:=O3 he;have hD1:Dg e=Dg (e - 1)+10:=by unfold Dg;omega
 have hD2:Dg e=Dg (e - 2)+20:=by unfold Dg;omega
 have hD0:200<=Dg (e - 2):=by unfold Dg;omega
 have hDm:Dg e<=300:=by unfold Dg;omega
 have we:BM ((e:Int) - 5 - 1)=((e - 1:Nat):Int) - 5:=by rw [Av (by omega) (by omega)];omega
 have we2:BM ((e:Int) - 5 - 2)=((e - 2:Nat):Int) - 5:=by rw [Av (by omega) (by omega)];omega
 have aw:=ha.wt;have ad:=ha.dp;have hk1:=Int.emod_nonneg r.n (show (7:Int)≠0 by decide)
 have hk2:=Int.emod_lt_of_pos r.n (show (0:Int)<7 by decide)
 have hi:AOk g.length (.mk 15 0 []):=⟨Fe,by simp only [Tm.wt,Tm.wtL];omega,by simp only [Tm.dp,Tm.dpL];omega⟩;have hs1:=OG ha (by omega) 1 (by omega);by_cases c0:r.n % 7=0
 ·obtain ⟨c,p,⟨N1,h1⟩,tc⟩:=hO g (.mk 15 0 []) (r.pick 0) (A0 (by omega) hg) hi;obtain ⟨x,q,⟨N2,h2⟩,tx⟩:=hO g a (r.pick 1) (A0 (by omega) hg) (BG ha);obtain ⟨y,f,⟨N3,h3⟩,ty⟩:=hO g a (r.pick 2) (A0 (by omega) hg) (BG ha);refine ⟨.mk 27 0 [c,x,y],p && (q && f),⟨N1+N2+N3+100000,fun n hn=>?_⟩,Anz tc.sc tx.sc ty.sc,by have:=tc.wt;have:=tx.wt;have:=ty.wt;rw [wt3];omega,by have:=tc.dp;have:=tx.dp;have:=ty.dp;rw [dp3];omega,fun hb=>.oif e g a c x y h6 (tc.gr (Mm hb)) (tx.gr (Mm (Kf hb))) (ty.gr (Kf (Kf hb)))⟩
  ·obtain ⟨n,rfl⟩:=psc n (by omega);have h1:=h1 n (by omega);have h2:=h2 n (by omega);have h3:=h3 n (by omega);rw [<- we2] at h1 h2 h3;have hw:=Ar (n:=n) (by omega) r.n (m:=7) (by omega) (by omega);have t15:=AO (n:=n) (by omega) 15;have p0:=AK (n:=n) (by omega) r 0;have p1:=AK (n:=n) (by omega) r 1;have p2:=AK (n:=n) (by omega) r 2;rw [c0] at hw;have t27:=Cx (n:=n) (by omega) 27 [c,x,y];rw [c59];clear hO hG tc tx ty hg ha hi hs1;generalize r.pick 0=r0 at p0 h1;generalize r.pick 1=r1 at p1 h2;generalize r.pick 2=r2 at p2 h3;obtain ⟨o1,x1,k1⟩:=a;obtain ⟨o2,x2,k2⟩:=r;obtain ⟨o3,x3,k3⟩:=c;obtain ⟨o4,x4,k4⟩:=x;obtain ⟨o5,x5,k5⟩:=y;obtain ⟨o6,x6,k6⟩:=r0;obtain ⟨o7,x7,k7⟩:=r1;obtain ⟨o8,x8,k8⟩:=r2;simp only [Tm.n] at hw;simp only [A6,ACb,ACa,Ag] at h1 h2 h3 t15 p0 p1 p2 t27 ⊢;cases p
   ·simp (maxSteps:=1000000) only [↓VH,↓XX,XY,↓reduceIte,seval,↓Ad hw,↓Ad t15,↓Ad p0,↓Ad p1,↓Ad p2,↓Au h1,↓Au h2,↓Au h3,↓LA,↓Ad t27];exact Bi rfl
   ·cases q
    ·simp (maxSteps:=1000000) only [↓VH,↓XX,XY,↓reduceIte,seval,↓Ad hw,↓Ad t15,↓Ad p0,↓Ad p1,↓Ad p2,↓Au h1,↓Au h2,↓Au h3,↓LA,↓Ad t27];exact Bi rfl
    ·simp (maxSteps:=1000000) only [↓VH,↓XX,XY,↓reduceIte,seval,↓Ad hw,↓Ad t15,↓Ad p0,↓Ad p1,↓Ad p2,↓Au h1,↓Au h2,↓Au h3,↓LA,↓Ad t27];exact Bi rfl
 by_cases c12:r.n % 7=1\/r.n % 7=2
 ·have hb:=I5 g.length 1 (r.pick 0);have hbw:=Jd 1 (r.pick 0);have hbd:=GG ((r.pick 0).plainT 1);obtain ⟨b,hbe⟩:∃b,b=(r.pick 0).plainT 1:=⟨_,rfl⟩;rw [<- hbe] at hb hbw hbd;obtain ⟨x,p,⟨N1,h1⟩,tx⟩:=hO g b (r.pick 1) (A0 (by omega) hg) ⟨hb,by omega,by omega⟩;have hgb:GOk (e - 2) (g++[(0,b)]):=Du (A0 (by omega) hg) hb (by omega) (by omega);obtain ⟨y,q,⟨N2,h2⟩,ty⟩:=hO (g++[(0,b)]) (a.shift 1 0) (r.pick 2) hgb (by simpa using BG hs1);have ys:y.sc (g.length+1):=by simpa using ty.sc
  obtain ⟨tt,htt,hok⟩:∃tt:Tm,(r.n % 7=1/\tt=.mk 28 0 [x,y]\/r.n % 7=2/\tt=.mk 21 0 [.mk 20 0 [b,y],x])/\TG 4 e g a tt (p && q):=by
   rcases c12 with h | h
   ·exact ⟨_,.inl ⟨h,rfl⟩,CQ tx.sc ys,by have:=tx.wt;have:=ty.wt;rw [Fi];omega,by have:=tx.dp;have:=ty.dp;rw [Qx];omega,fun hpq=>by subst hbe;exact .olet e g a (r.pick 0) x y h6 (tx.gr (Mm hpq)) (ty.gr (Kf hpq))⟩
   ·exact ⟨_,.inr ⟨h,rfl⟩,CQ (CQ hb ys) tx.sc,by have:=tx.wt;have:=ty.wt;rw [Fi,Fi];omega,by have:=tx.dp;have:=ty.dp;rw [Qx,Qx];omega,fun hpq=>by subst hbe;exact .oapp e g a (r.pick 0) x y h6 (tx.gr (Mm hpq)) (ty.gr (Kf hpq))⟩
  refine ⟨tt,p && q,⟨N1+N2+100000,fun n hn=>?_⟩,hok⟩
  ·obtain ⟨n,rfl⟩:=psc n (by omega);have h1:=h1 n (by omega);have h2:=h2 n (by omega);rw [<- we2] at h1 h2;have hw:=Ar (n:=n) (by omega) r.n (m:=7) (by omega) (by omega);have t15:=AO (n:=n) (by omega) 15;have p0:=AK (n:=n) (by omega) r 0;have p1:=AK (n:=n) (by omega) r 1;have p2:=AK (n:=n) (by omega) r 2;have hp:=Rg 1 n (r.pick 0) (by omega) (by omega);rw [<- hbe] at hp;have hm:=Fy (n:=n) g 0 b (by omega) (by omega);have sh:=C0 n a 1 0 (by omega) (Fp _ _ ha.sc) (by omega) (by omega);have t28:=Cx (n:=n) (by omega) 28 [x,y];have t20:=Cx (n:=n) (by omega) 20 [b,y];have t21:=Cx (n:=n) (by omega) 21 [.mk 20 0 [b,y],x];rw [c59];clear hO hG tx ty hg ha hi hs1 hbe hb hgb ys hok c12;generalize r.n % 7=w7 at hw htt;generalize a.shift 1 0=a1 at sh h2;generalize r.pick 0=r0 at p0 hp;generalize r.pick 1=r1 at p1 h1;generalize r.pick 2=r2 at p2 h2;obtain ⟨o1,x1,k1⟩:=a;obtain ⟨o2,x2,k2⟩:=r;obtain ⟨o3,x3,k3⟩:=b;obtain ⟨o4,x4,k4⟩:=x;obtain ⟨o5,x5,k5⟩:=y;obtain ⟨o6,x6,k6⟩:=r0;obtain ⟨o7,x7,k7⟩:=r1;obtain ⟨o8,x8,k8⟩:=r2;obtain ⟨o9,x9,k9⟩:=a1;simp only [Tm.n] at hw;simp only [A6,ACb,ACa,Ag] at h1 h2 t15 p0 p1 p2 hp hm sh t28 t20 t21 ⊢;rcases htt with ⟨rfl,rfl⟩ | ⟨rfl,rfl⟩
   ·cases p<;>(simp (maxSteps:=1000000) only [↓VH,↓XX,XY,↓reduceIte,seval,↓Ad hw,↓Ad t15,↓Ad p0,↓Ad p1,↓Ad p2,↓Ad hp,↓Au h1,↓AA hm,↓AA sh,↓Au h2,↓Cc,↓Ad t28,Ag,ACb,ACa];exact Bi rfl)
   ·cases p<;>(simp (maxSteps:=1000000) only [↓VH,↓XX,XY,↓reduceIte,seval,↓Ad hw,↓Ad t15,↓Ad p0,↓Ad p1,↓Ad p2,↓Ad hp,↓Au h1,↓AA hm,↓AA sh,↓Au h2,↓Cc,↓Ad t20,↓Ad t21,Ag,ACb,ACa];exact Bi rfl)
 by_cases c3:r.n % 7=3
 ·obtain ⟨x,p,⟨N1,h1⟩,tx⟩:=hO g a (r.pick 0) (A0 (by omega) hg) (BG ha);obtain ⟨y,q,⟨N2,h2⟩,ty⟩:=hO g (.mk 15 0 []) (r.pick 1) (A0 (by omega) hg) hi;refine ⟨.mk 23 0 [.mk 22 0 [x,y]],p && q,⟨N1+N2+100000,fun n hn=>?_⟩,FK (CQ tx.sc ty.sc),by have:=tx.wt;have:=ty.wt;rw [QM,Fi];omega,by have:=tx.dp;have:=ty.dp;rw [dp1,Qx];omega,fun hb=>.ofst e g a x y h6 (tx.gr (Mm hb)) (ty.gr (Kf hb))⟩
  ·obtain ⟨n,rfl⟩:=psc n (by omega);have h1:=h1 n (by omega);have h2:=h2 n (by omega);rw [<- we2] at h1 h2;have hw:=Ar (n:=n) (by omega) r.n (m:=7) (by omega) (by omega);have t15:=AO (n:=n) (by omega) 15;have p0:=AK (n:=n) (by omega) r 0;have p1:=AK (n:=n) (by omega) r 1;have p2:=AK (n:=n) (by omega) r 2;rw [c3] at hw;have t22:=Cx (n:=n) (by omega) 22 [x,y];have t23:=Cx (n:=n) (by omega) 23 [.mk 22 0 [x,y]];rw [c59];clear hO hG tx ty hg ha hi hs1;generalize r.pick 0=r0 at p0 h1;generalize r.pick 1=r1 at p1 h2;obtain ⟨o1,x1,k1⟩:=a;obtain ⟨o2,x2,k2⟩:=r;obtain ⟨o4,x4,k4⟩:=x;obtain ⟨o5,x5,k5⟩:=y;obtain ⟨o6,x6,k6⟩:=r0;obtain ⟨o7,x7,k7⟩:=r1;simp only [Tm.n] at hw;simp only [A6,ACb,ACa,Ag] at h1 h2 t15 p0 p1 t22 t23 ⊢;cases p<;>(simp (maxSteps:=1000000) only [↓VH,↓XX,XY,↓reduceIte,seval,↓Ad hw,↓Ad t15,↓Ad p0,↓Ad p1,↓Au h1,↓Au h2,↓Cc,↓De,↓Ad t22,↓Ad t23];exact Bi rfl)
 by_cases c4:r.n % 7=4
 ·have hga:GOk (e - 2) (g++[(0,a)]):=Du (A0 (by omega) hg) ha.sc (by omega) (by omega);obtain ⟨x,p,⟨N1,h1⟩,tx⟩:=hO (g++[(0,a)]) (a.shift 1 0) (r.pick 0) hga (by simpa using BG hs1);have xs:x.sc (g.length+1):=by simpa using tx.sc
  refine ⟨.mk 29 0 [a,x],p,⟨N1+100000,fun n hn=>?_⟩,CQ ha.sc xs,by have:=tx.wt;rw [Fi];omega,by have:=tx.dp;rw [Qx];omega,fun hb=>.ofix e g a x h6 (tx.gr hb)⟩
  ·obtain ⟨n,rfl⟩:=psc n (by omega);have h1:=h1 n (by omega);rw [<- we2] at h1;have hw:=Ar (n:=n) (by omega) r.n (m:=7) (by omega) (by omega);have t15:=AO (n:=n) (by omega) 15;have p0:=AK (n:=n) (by omega) r 0;have p1:=AK (n:=n) (by omega) r 1;have p2:=AK (n:=n) (by omega) r 2;rw [c4] at hw;have hm:=Fy (n:=n) g 0 a (by omega) (by omega);have sh:=C0 n a 1 0 (by omega) (Fp _ _ ha.sc) (by omega) (by omega);have t29:=Cx (n:=n) (by omega) 29 [a,x];rw [c59];clear hO hG tx hg ha hi hs1 hga xs;generalize a.shift 1 0=a1 at sh h1;generalize r.pick 0=r0 at p0 h1;obtain ⟨o1,x1,k1⟩:=a;obtain ⟨o2,x2,k2⟩:=r;obtain ⟨o4,x4,k4⟩:=x;obtain ⟨o6,x6,k6⟩:=r0;obtain ⟨o9,x9,k9⟩:=a1;simp only [Tm.n] at hw;simp only [A6,ACb,ACa,Ag] at h1 t15 p0 hm sh t29 ⊢;simp (maxSteps:=1000000) only [↓VH,↓XX,XY,↓reduceIte,seval,↓Ad hw,↓Ad t15,↓Ad p0,↓AA hm,↓AA sh,↓Au h1,↓Cc,↓Ad t29];exact Bi rfl
 ·have hla:AOk g.length (.mk 18 0 [a]):=⟨FK ha.sc,by rw [QM];omega,by rw [dp1];omega⟩;obtain ⟨x,p,⟨N1,h1⟩,tx⟩:=hG g (.mk 18 0 [a]) (r.pick 0) (A0 (by omega) hg) hla;refine ⟨.mk 30 0 [x],p,⟨N1+100000,fun n hn=>?_⟩,FK tx.sc,by have:=tx.wt;rw [QM];omega,by have:=tx.dp;rw [dp1];omega,fun hb=>.spl e g a x h6 (tx.gr hb)⟩
  ·obtain ⟨n,rfl⟩:=psc n (by omega);have h1:=h1 n (by omega);rw [<- we] at h1;have hw:=Ar (n:=n) (by omega) r.n (m:=7) (by omega) (by omega);have t15:=AO (n:=n) (by omega) 15;have p0:=AK (n:=n) (by omega) r 0;have p1:=AK (n:=n) (by omega) r 1;have p2:=AK (n:=n) (by omega) r 2;have c1:¬ r.n % 7=1:=fun h=>c12 (.inl h);have c2:¬ r.n % 7=2:=fun h=>c12 (.inr h);have t18:=Cx (n:=n) (by omega) 18 [a];have t30:=Cx (n:=n) (by omega) 30 [x];rw [c59];clear hO hG tx hg ha hi hs1 hla c12 hk1 hk2;generalize r.n % 7=w7 at hw c0 c1 c2 c3 c4;generalize r.pick 0=r0 at p0 h1;obtain ⟨o1,x1,k1⟩:=a;obtain ⟨o2,x2,k2⟩:=r;obtain ⟨o4,x4,k4⟩:=x;obtain ⟨o6,x6,k6⟩:=r0;simp only [Tm.n] at hw;simp only [A6,ACb,ACa,Ag] at h1 t15 p0 t18 t30 ⊢;simp (maxSteps:=1000000) only [↓VH,↓XX,XY,↓reduceIte,seval,↓Ad hw,c0,c1,c2,c3,c4,↓Ad t15,↓Ad p0,↓De,↓Ad t18,↓Au h1,↓Ad t30];exact Bi rfl
def Hh {k:Nat} {a:Tm} {r:Nat} (h:NOk k a) (hr:ar a.op=some r):a.kids.length=r:=KK h.sc rfl hr
theorem Afc {l:List Tm} (h:l.length=2):∃x y,l=[x,y]:=by
 match l,h with
 | [x,y],_=>exact ⟨x,y,rfl⟩
theorem AvC {l:List Tm} (h:l.length=1):∃x,l=[x]:=by
 match l,h with
 | [x],_=>exact ⟨x,rfl⟩
def Axq {l:List Tm} (h:l.length=0):l=[]:=List.eq_nil_of_length_eq_zero h
def AiB {e:Nat} (he:e<=10) (hO:1<=e->El 33 2 (e - 1)) (hA:6<=e->Ro 59 4 e):El 33 2 e:=by
 intro g a0 r hg ha0;have hlen:=hg.len;have hW0:=M5 e;have hD0:200<=Dg e:=by unfold Dg;omega
 have hDm:Dg e<=300:=by unfold Dg;omega
 have hW10:=O3 he;obtain ⟨a,er,⟨N0,h0⟩,hcase,fn,hfn⟩:=Fa (k:=g.length) (by omega) ha0.sc (by have:=ha0.dp;omega);rcases hcase with ⟨rfl,ha⟩ | ⟨her,rfl⟩
 case inr =>
  have hne:er≠0:=by omega
  refine ⟨.z,false,⟨N0+100,fun n hn=>?_⟩,AsT _,by simp only [Tm.z,Tm.wt,Tm.wtL];omega,by simp only [Tm.z,Tm.dp,Tm.dpL];omega,fun h=>by cases h⟩;obtain ⟨n,rfl⟩:=psc n (by omega);have h0:=h0 n (by omega);rw [c33];clear hO hA hg ha0;obtain ⟨o1,x1,k1⟩:=a0;obtain ⟨o2,x2,k2⟩:=r;simp only [A6,Tm.z,ACa,Ag] at h0 ⊢;simp (maxSteps:=1000000) only [↓Qe,↓XX,XY,↓reduceIte,seval,↓Ap h0,hne];exact Bi rfl
 obtain ⟨v,is,⟨N1,h1⟩,tv0,hhit⟩:=MV hg 0 ha r.n;have up:∀{t:Tm},Gr 4 e g a t->Gr 2 e g a0 t:=fun h=>.objc e g a0 a _ fn hfn (by omega) ha h;have tv:TG 2 e g a0 v is:=tg (Wy (Nat.zero_le _) tv0) (fun hb=>by
  obtain ⟨i,rfl,hi⟩:=hhit hb;exact up (.var0 e g a i hi))
 clear tv0 hhit;have aw:=ha.wt;have ad:=ha.dp;have hw3m:=Int.emod_nonneg r.op (show (3:Int)≠0 by decide)
 by_cases cv:is=true/\r.op % 3=0\/e=0
 ·refine ⟨v,is,⟨N0+N1+100,fun n hn=>?_⟩,tv⟩;obtain ⟨n,rfl⟩:=psc n (by omega);have h0:=h0 n (by omega);have h1:=h1 n (by omega);have hw:=Ar (n:=n) (by omega) r.op (m:=3) (by omega) (by omega);rw [c33];clear up hfn hO hA hg ha0 ha tv;obtain ⟨o0,x0,k0⟩:=a0;obtain ⟨o1,x1,k1⟩:=a;obtain ⟨o2,x2,k2⟩:=r;obtain ⟨o3,x3,k3⟩:=v;simp only [Tm.n,Tm.op] at h1 hw cv;simp only [A6,Ag] at h0 h1 ⊢;generalize o2 % 3=w3 at hw cv;rcases cv with ⟨rfl,rfl⟩ | rfl
  ·simp (maxSteps:=1000000) only [↓Qe,↓XX,XY,↓reduceIte,seval,↓Ap h0,↓Au h1,↓Ad hw];exact Bi rfl
  ·have hd4:((0:Nat):Int) - 5 < -4:=by omega
   cases is
   ·simp (maxSteps:=1000000) only [↓Qe,↓XX,XY,↓reduceIte,seval,↓Ap h0,↓Au h1,↓Ad hw,hd4,Int.reduceSub,Int.reduceLT,Int.reduceNeg];exact Bi rfl
   ·by_cases h3:w3=0
    ·simp (maxSteps:=1000000) only [↓Qe,↓XX,XY,↓reduceIte,seval,↓Ap h0,↓Au h1,↓Ad hw,h3,hd4,Int.reduceSub,Int.reduceLT,Int.reduceNeg];exact Bi rfl
    ·simp (maxSteps:=1000000) only [↓Qe,↓XX,XY,↓reduceIte,seval,↓Ap h0,↓Au h1,↓Ad hw,h3,hd4,Int.reduceSub,Int.reduceLT,Int.reduceNeg];exact Bi rfl
 have he1:1<=e:=by omega
 have hd4:¬ (e:Int) - 5 < -4:=by omega
 have hv:is=true->¬ r.op % 3=0:=fun h1 h2=>cv (.inl ⟨h1,h2⟩);have hW1:Wg e=4 * Wg (e - 1):=by
  obtain ⟨f,rfl⟩:∃f,e=f+1:=⟨e - 1,by omega⟩;rw [Na,Nat.add_sub_cancel]
 have hW01:=M5 (e - 1);have hD1:Dg e=Dg (e - 1)+10:=by unfold Dg;omega
 have hD01:200<=Dg (e - 1):=by unfold Dg;omega
 have we:BM ((e:Int) - 5 - 1)=((e - 1:Nat):Int) - 5:=by rw [Av (by omega) (by omega)];omega
 have hO:=hO he1;by_cases ca:6<=e/\r.op % 3=1
 ·obtain ⟨t,b,⟨N2,h2⟩,tt⟩:=hA ca.1 g a r hg ha;refine ⟨t,b,⟨N0+N1+N2+100,fun n hn=>?_⟩,Am2 tt up⟩;obtain ⟨n,rfl⟩:=psc n (by omega);have h0:=h0 n (by omega);have h1:=h1 n (by omega);have h2:=h2 n (by omega);have hw:=Ar (n:=n) (by omega) r.op (m:=3) (by omega) (by omega);rw [ca.2] at hw;have hd0:(0:Int)<(e:Int) - 5:=by omega
  rw [c33];clear up hfn hO hA hg ha0 ha tv tt;obtain ⟨o0,x0,k0⟩:=a0;obtain ⟨o1,x1,k1⟩:=a;obtain ⟨o2,x2,k2⟩:=r;obtain ⟨o3,x3,k3⟩:=v;obtain ⟨o4,x4,k4⟩:=t;simp only [Tm.n,Tm.op] at h1 hw;simp only [A6,Ag] at h0 h1 h2 ⊢;cases is<;>(simp (maxSteps:=1000000) only [↓Qe,↓XX,XY,↓reduceIte,seval,↓Ap h0,↓Au h1,↓Ad hw,hd4,hd0,↓Au h2];exact Bi rfl)
 have hna:(0:Int)<(e:Int) - 5->¬ r.op % 3=1:=by omega
 by_cases o15:a.op=15
 ·have hl:=Axq (Hh ha (show ar a.op=some 0 by rw [o15];decide))
  by_cases hs:6<=e/\r.op % 2=1
  ·obtain ⟨x,p,⟨N2,h2⟩,tx⟩:=hO g a (r.pick 0) (A0 (by omega) hg) (BG ha);obtain ⟨y,q,⟨N3,h3⟩,ty⟩:=hO g a (r.pick 1) (A0 (by omega) hg) (BG ha);have hj1:=Int.emod_nonneg r.n (show (5:Int)≠0 by decide)
   have hj2:=Int.emod_lt_of_pos r.n (show (0:Int)<5 by decide)
   refine ⟨.mk 26 (r.n % 5) [x,y],p && q,⟨N0+N1+N2+N3+100,fun n hn=>?_⟩,Yy (by decide) (by decide) (by rw [BJ,if_neg (by decide),if_pos rfl];omega) tx.sc ty.sc,by have:=tx.wt;have:=ty.wt;rw [Fi];omega,by have:=tx.dp;have:=ty.dp;rw [Qx];omega,fun hb=>up (.oprim e g a x y _ hs.1 o15 (tx.gr (Mm hb)) (ty.gr (Kf hb)))⟩;obtain ⟨n,rfl⟩:=psc n (by omega);have h0:=h0 n (by omega);have h1:=h1 n (by omega);have h2:=h2 n (by omega);have h3:=h3 n (by omega);rw [<- we] at h2 h3;have hw:=Ar (n:=n) (by omega) r.op (m:=3) (by omega) (by omega);have hw2:=Ar (n:=n) (by omega) r.op (m:=2) (by omega) (by omega);rw [hs.2] at hw2;have hw5:=Ar (n:=n) (by omega) r.n (m:=5) (by omega) (by omega);have p0:=AK (n:=n) (by omega) r 0;have p1:=AK (n:=n) (by omega) r 1;have hd0:(0:Int)<(e:Int) - 5:=by omega
   replace hna:=hna hd0;rw [c33];clear up hfn hO hA hg ha0 ha tv tx ty hj1 hj2;generalize r.op % 3=w3 at hw hv hna;generalize r.n % 5=w5 at hw5 ⊢;generalize r.pick 0=r0 at p0 h2;generalize r.pick 1=r1 at p1 h3;obtain ⟨o0,x0,k0⟩:=a0;obtain ⟨o1,x1,k1⟩:=a;simp only [Tm.op,Tm.kids] at o15 hl;subst o15 hl;obtain ⟨o2,x2,k2⟩:=r;obtain ⟨o3,x3,k3⟩:=v;obtain ⟨o4,x4,k4⟩:=x;obtain ⟨o5,x5,k5⟩:=y;obtain ⟨o6,x6,k6⟩:=r0;obtain ⟨o7,x7,k7⟩:=r1;simp only [Tm.n,Tm.op] at h1 hw hw2 hw5;simp only [A6,Ag,ACb,ACa] at h0 h1 h2 h3 p0 p1 ⊢;cases is<;>cases p<;>(simp (maxSteps:=1000000) only [↓Qe,↓XX,XY,↓reduceIte,seval,↓Ap h0,↓Au h1,↓Ad hw,hv,hd4,hd0,hna,↓Ad hw2,↓Ad p0,↓Ad p1,↓Au h2,↓Au h3,↓Ad hw5,↓Cc];exact Bi rfl)
  ·have hj1:=Int.emod_nonneg r.n (show (20:Int)≠0 by decide)
   have hj2:=Int.emod_lt_of_pos r.n (show (0:Int)<20 by decide)
   refine ⟨.mk 25 (r.n % 20 - 5) [],true,⟨N0+N1+100,fun n hn=>?_⟩,MA (by decide) (by decide) (by rw [BJ,if_neg (by decide),if_neg (by decide),if_pos rfl];omega),by simp only [Tm.wt,Tm.wtL];omega,by simp only [Tm.dp,Tm.dpL];omega,fun _=>up (.oint e g a _ o15)⟩;obtain ⟨n,rfl⟩:=psc n (by omega);have h0:=h0 n (by omega);have h1:=h1 n (by omega);have hw:=Ar (n:=n) (by omega) r.op (m:=3) (by omega) (by omega);have hw2:=Ar (n:=n) (by omega) r.op (m:=2) (by omega) (by omega);have hw20:=Ar (n:=n) (by omega) r.n (m:=20) (by omega) (by omega);have w5:BM (r.n % 20 - 5)=r.n % 20 - 5:=by rw [Av]<;>omega
   have hin:=Auj (n:=n) (by omega) (r.n % 20 - 5);rw [<- w5] at hin;have h21:(0:Int)<(e:Int) - 5->¬ r.op % 2=1:=by omega
   rw [c33,<- w5];clear up hfn hO hA hg ha0 ha tv hj1 hj2 w5 hs;generalize r.op % 3=w3 at hw hv hna;generalize r.op % 2=w2 at hw2 h21;generalize r.n % 20=w20 at hw20 hin ⊢;obtain ⟨o0,x0,k0⟩:=a0;obtain ⟨o1,x1,k1⟩:=a;simp only [Tm.op,Tm.kids] at o15 hl;subst o15 hl;obtain ⟨o2,x2,k2⟩:=r;obtain ⟨o3,x3,k3⟩:=v;simp only [Tm.n,Tm.op] at h1 hw hw2 hw20;simp only [A6,Ag,ACb,ACa] at h0 h1 hin ⊢;cases is<;>by_cases hd0:(0:Int)<(e:Int) - 5<;>(simp (maxSteps:=1000000) only [↓Qe,↓XX,XY,↓reduceIte,seval,↓Ap h0,↓Au h1,↓Ad hw,hv,hd4,hd0,hna,↓Ad hw2,h21,↓Ad hw20,↓Ap hin];exact Bi rfl)
 by_cases o16:a.op=16
 ·obtain ⟨d,c,hl⟩:=Afc (Hh ha (show ar a.op=some 2 by rw [o16];decide))
  have hd:NOk g.length d/\NOk g.length c:=by
   obtain ⟨o1,x1,k1⟩:=a;simp only [Tm.op,Tm.kids] at o16 hl;subst o16 hl;have hsc:=ha.sc;rw [Tm.sc] at hsc;rw [Fi] at aw;rw [Qx] at ad;exact ⟨⟨hsc.2.2.1,by omega,by omega⟩,⟨hsc.2.2.2.1,by omega,by omega⟩⟩
  obtain ⟨hd,hc⟩:=hd;have hgd:GOk (e - 1) (g++[(0,d)]):=Du (by rw [show e - 1+1=e by omega];exact hg) hd.sc (by have:=hd.wt;omega) (by have:=hd.dp;omega)
  obtain ⟨x,p,⟨N2,h2⟩,tx⟩:=hO (g++[(0,d)]) (c.shift 1 0) (r.pick 0) hgd (by simpa using BG (OG hc (by omega) 1 (by omega)));have xs:x.sc (g.length+1):=by simpa using tx.sc
  refine ⟨.mk 20 0 [d,x],p,⟨N0+N1+N2+100000,fun n hn=>?_⟩,CQ hd.sc xs,by have:=tx.wt;have:=hd.wt;rw [Fi];omega,by have:=tx.dp;have:=hd.dp;rw [Qx];omega,fun hb=>up (by
   obtain ⟨oa,xa,ka⟩:=a;simp only [Tm.op,Tm.kids] at o16 hl;subst o16 hl;exact .olam e g _ d c x (tx.gr hb))⟩
  ·obtain ⟨n,rfl⟩:=psc n (by omega);have h0:=h0 n (by omega);have h1:=h1 n (by omega);have h2:=h2 n (by omega);rw [<- we] at h2;have hw:=Ar (n:=n) (by omega) r.op (m:=3) (by omega) (by omega);have p0:=AK (n:=n) (by omega) r 0;have hm:=Fy (n:=n) g 0 d (by omega) (by omega);have sh:=C0 n c 1 0 (by have:=hc.wt;omega) (Fp _ _ hc.sc) (by omega) (by have:=hc.wt;omega);have t20:=Cx (n:=n) (by omega) 20 [d,x];rw [c33];clear up hfn hO hA hg ha0 ha tv tx hd hc hgd xs;generalize r.op % 3=w3 at hw hv hna;generalize c.shift 1 0=c1 at sh h2;generalize r.pick 0=r0 at p0 h2;obtain ⟨o0,x0,k0⟩:=a0;obtain ⟨o1,x1,k1⟩:=a;simp only [Tm.op,Tm.kids] at o16 hl;subst o16 hl;obtain ⟨o2,x2,k2⟩:=r;obtain ⟨o3,x3,k3⟩:=v;obtain ⟨o4,x4,k4⟩:=x;obtain ⟨o5,x5,k5⟩:=d;obtain ⟨o6,x6,k6⟩:=c;obtain ⟨o7,x7,k7⟩:=c1;obtain ⟨o8,x8,k8⟩:=r0;simp only [Tm.n,Tm.op] at h1 hw;simp only [A6,Ag,ACb,ACa] at h0 h1 h2 p0 hm sh t20 ⊢;cases is<;>by_cases hd0:(0:Int)<(e:Int) - 5<;>(simp (maxSteps:=1000000) only [↓Qe,↓XX,XY,↓reduceIte,seval,↓Ap h0,↓Au h1,↓Ad hw,hv,hd4,hd0,hna,↓HT,↓If,↓Ad p0,↓AA hm,↓AA sh,↓Au h2,↓Cc,↓Ad t20];exact Bi rfl)
 by_cases o17:a.op=17
 ·obtain ⟨d,c,hl⟩:=Afc (Hh ha (show ar a.op=some 2 by rw [o17];decide))
  have hd:NOk g.length d/\NOk g.length c:=by
   obtain ⟨o1,x1,k1⟩:=a;simp only [Tm.op,Tm.kids] at o17 hl;subst o17 hl;have hsc:=ha.sc;rw [Tm.sc] at hsc;rw [Fi] at aw;rw [Qx] at ad;exact ⟨⟨hsc.2.2.1,by omega,by omega⟩,⟨hsc.2.2.2.1,by omega,by omega⟩⟩
  obtain ⟨hd,hc⟩:=hd;obtain ⟨x,p,⟨N2,h2⟩,tx⟩:=hO g d (r.pick 0) (A0 (by omega) hg) (BG hd);obtain ⟨y,q,⟨N3,h3⟩,ty⟩:=hO g c (r.pick 1) (A0 (by omega) hg) (BG hc);refine ⟨.mk 22 0 [x,y],p && q,⟨N0+N1+N2+N3+100,fun n hn=>?_⟩,CQ tx.sc ty.sc,by have:=tx.wt;have:=ty.wt;rw [Fi];omega,by have:=tx.dp;have:=ty.dp;rw [Qx];omega,fun hb=>up (by
   obtain ⟨oa,xa,ka⟩:=a;simp only [Tm.op,Tm.kids] at o17 hl;subst o17 hl;exact .opair e g _ d c x y (tx.gr (Mm hb)) (ty.gr (Kf hb)))⟩
  ·obtain ⟨n,rfl⟩:=psc n (by omega);have h0:=h0 n (by omega);have h1:=h1 n (by omega);have h2:=h2 n (by omega);have h3:=h3 n (by omega);rw [<- we] at h2 h3;have hw:=Ar (n:=n) (by omega) r.op (m:=3) (by omega) (by omega);have p0:=AK (n:=n) (by omega) r 0;have p1:=AK (n:=n) (by omega) r 1;have t22:=Cx (n:=n) (by omega) 22 [x,y];rw [c33];clear up hfn hO hA hg ha0 ha tv tx ty hd hc;generalize r.op % 3=w3 at hw hv hna;generalize r.pick 0=r0 at p0 h2;generalize r.pick 1=r1 at p1 h3;obtain ⟨o0,x0,k0⟩:=a0;obtain ⟨o1,x1,k1⟩:=a;simp only [Tm.op,Tm.kids] at o17 hl;subst o17 hl;obtain ⟨o2,x2,k2⟩:=r;obtain ⟨o3,x3,k3⟩:=v;obtain ⟨o4,x4,k4⟩:=x;obtain ⟨o5,x5,k5⟩:=d;obtain ⟨o6,x6,k6⟩:=c;obtain ⟨o7,x7,k7⟩:=y;obtain ⟨o8,x8,k8⟩:=r0;obtain ⟨o9,x9,k9⟩:=r1;simp only [Tm.n,Tm.op] at h1 hw;simp only [A6,Ag,ACb,ACa] at h0 h1 h2 h3 p0 p1 t22 ⊢;cases is<;>by_cases hd0:(0:Int)<(e:Int) - 5<;>cases p<;>(simp (maxSteps:=1000000) only [↓Qe,↓XX,XY,↓reduceIte,seval,↓Ap h0,↓Au h1,↓Ad hw,hv,hd4,hd0,hna,↓HT,↓If,↓Ad p0,↓Ad p1,↓Au h2,↓Au h3,↓Cc,↓Ad t22];exact Bi rfl)
 refine ⟨v,is,⟨N0+N1+100,fun n hn=>?_⟩,tv⟩
 ·obtain ⟨n,rfl⟩:=psc n (by omega);have h0:=h0 n (by omega);have h1:=h1 n (by omega);have hw:=Ar (n:=n) (by omega) r.op (m:=3) (by omega) (by omega);rw [c33];clear up hfn hO hA hg ha0 ha tv;generalize r.op % 3=w3 at hw hv hna;obtain ⟨o0,x0,k0⟩:=a0;obtain ⟨o1,x1,k1⟩:=a;obtain ⟨o2,x2,k2⟩:=r;obtain ⟨o3,x3,k3⟩:=v;simp only [Tm.n,Tm.op] at h1 hw o15 o16 o17;simp only [A6,Ag] at h0 h1 ⊢;cases is<;>by_cases hd0:(0:Int)<(e:Int) - 5<;>(simp (maxSteps:=1000000) only [↓Qe,↓XX,XY,↓reduceIte,seval,↓Ap h0,↓Au h1,↓Ad hw,hv,hd4,hd0,hna,o15,o16,o17];exact Bi rfl)
def Ao8 {e:Nat} (he:e<=10) (hG:1<=e->El 39 1 (e - 1)) (hO:1<=e->El 33 2 (e - 1)) (hA:6<=e->Ro 65 3 e) (hP:1<=e->Ake 66 3 e):El 39 1 e:=by
 intro g a0 r hg ha0;have hlen:=hg.len;have hW0:=M5 e;have hD0:200<=Dg e:=by unfold Dg;omega
 have hDm:Dg e<=300:=by unfold Dg;omega
 have hW10:=O3 he;obtain ⟨a,er,⟨N0,h0⟩,hcase,fn,hfn⟩:=Fa (k:=g.length) (by omega) ha0.sc (by have:=ha0.dp;omega);rcases hcase with ⟨rfl,ha⟩ | ⟨her,rfl⟩
 case inr =>
  have hne:er≠0:=by omega
  refine ⟨.z,false,⟨N0+100,fun n hn=>?_⟩,AsT _,by simp only [Tm.z,Tm.wt,Tm.wtL];omega,by simp only [Tm.z,Tm.dp,Tm.dpL];omega,fun h=>by cases h⟩;obtain ⟨n,rfl⟩:=psc n (by omega);have h0:=h0 n (by omega);rw [c39];clear hG hO hA hP hg ha0;obtain ⟨o1,x1,k1⟩:=a0;obtain ⟨o2,x2,k2⟩:=r;simp only [A6,Tm.z,ACa,Ag] at h0 ⊢;simp (maxSteps:=1000000) only [↓LL,↓XX,XY,↓reduceIte,seval,↓Ap h0,hne];exact Bi rfl
 obtain ⟨v,is,⟨N1,h1⟩,tv0,hhit⟩:=MV hg 1 ha r.n;have up:∀{t:Tm},Gr 3 e g a t->Gr 1 e g a0 t:=fun h=>.grow e g a0 a _ fn hfn (by omega) ha h;have tv:TG 1 e g a0 v is:=tg (Wy (Nat.zero_le _) tv0) (fun hb=>by
  obtain ⟨i,rfl,hi⟩:=hhit hb;exact up (.var1 e g a i hi))
 clear tv0 hhit;have aw:=ha.wt;have ad:=ha.dp;have hw3m:=Int.emod_nonneg r.op (show (3:Int)≠0 by decide)
 by_cases cv:is=true/\r.op % 3=0\/e=0
 ·refine ⟨v,is,⟨N0+N1+100,fun n hn=>?_⟩,tv⟩;obtain ⟨n,rfl⟩:=psc n (by omega);have h0:=h0 n (by omega);have h1:=h1 n (by omega);have hw:=Ar (n:=n) (by omega) r.op (m:=3) (by omega) (by omega);rw [c39];clear up hfn hG hO hA hP hg ha0 ha tv;obtain ⟨o0,x0,k0⟩:=a0;obtain ⟨o1,x1,k1⟩:=a;obtain ⟨o2,x2,k2⟩:=r;obtain ⟨o3,x3,k3⟩:=v;simp only [Tm.n,Tm.op] at h1 hw cv;simp only [A6,Ag] at h0 h1 ⊢;generalize o2 % 3=w3 at hw cv;rcases cv with ⟨rfl,rfl⟩ | rfl
  ·simp (maxSteps:=1000000) only [↓LL,↓XX,XY,↓reduceIte,seval,↓Ap h0,↓Au h1,↓Ad hw];exact Bi rfl
  ·have hd4:((0:Nat):Int) - 5 < -4:=by omega
   cases is
   ·simp (maxSteps:=1000000) only [↓LL,↓XX,XY,↓reduceIte,seval,↓Ap h0,↓Au h1,↓Ad hw,hd4,Int.reduceSub,Int.reduceLT,Int.reduceNeg];exact Bi rfl
   ·by_cases h3:w3=0
    ·simp (maxSteps:=1000000) only [↓LL,↓XX,XY,↓reduceIte,seval,↓Ap h0,↓Au h1,↓Ad hw,h3,hd4,Int.reduceSub,Int.reduceLT,Int.reduceNeg];exact Bi rfl
    ·simp (maxSteps:=1000000) only [↓LL,↓XX,XY,↓reduceIte,seval,↓Ap h0,↓Au h1,↓Ad hw,h3,hd4,Int.reduceSub,Int.reduceLT,Int.reduceNeg];exact Bi rfl
 have he1:1<=e:=by omega
 have hd4:¬ (e:Int) - 5 < -4:=by omega
 have hv:is=true->¬ r.op % 3=0:=fun h1 h2=>cv (.inl ⟨h1,h2⟩);have hW1:Wg e=4 * Wg (e - 1):=by
  obtain ⟨f,rfl⟩:∃f,e=f+1:=⟨e - 1,by omega⟩;rw [Na,Nat.add_sub_cancel]
 have hW01:=M5 (e - 1);have hD1:Dg e=Dg (e - 1)+10:=by unfold Dg;omega
 have hD01:200<=Dg (e - 1):=by unfold Dg;omega
 have we:BM ((e:Int) - 5 - 1)=((e - 1:Nat):Int) - 5:=by rw [Av (by omega) (by omega)];omega
 have hO:=hO he1;have hG:=hG he1;have hP:=hP he1;by_cases ca:6<=e/\r.op % 7=6
 ·obtain ⟨t,b,⟨N2,h2⟩,tt⟩:=hA ca.1 g a r hg ha;refine ⟨t,b,⟨N0+N1+N2+100,fun n hn=>?_⟩,Am2 tt up⟩;obtain ⟨n,rfl⟩:=psc n (by omega);have h0:=h0 n (by omega);have h1:=h1 n (by omega);have h2:=h2 n (by omega);have hw:=Ar (n:=n) (by omega) r.op (m:=3) (by omega) (by omega);have hw7:=Ar (n:=n) (by omega) r.op (m:=7) (by omega) (by omega);rw [ca.2] at hw7;have hd0:(0:Int)<(e:Int) - 5:=by omega
  rw [c39];clear up hfn hG hO hA hP hg ha0 ha tv tt;generalize r.op % 3=w3 at hw hv;obtain ⟨o0,x0,k0⟩:=a0;obtain ⟨o1,x1,k1⟩:=a;obtain ⟨o2,x2,k2⟩:=r;obtain ⟨o3,x3,k3⟩:=v;obtain ⟨o4,x4,k4⟩:=t;simp only [Tm.n,Tm.op] at h1 hw hw7;simp only [A6,Ag] at h0 h1 h2 ⊢;cases is<;>(simp (maxSteps:=1000000) only [↓LL,↓XX,XY,↓reduceIte,seval,↓Ap h0,↓Au h1,↓Ad hw,↓Ad hw7,hv,hd4,hd0,↓Au h2];exact Bi rfl)
 have hna:(0:Int)<(e:Int) - 5->¬ r.op % 7=6:=by omega
 by_cases hpl:a.op=10\/a.op=14\/a.op=2
 ·obtain ⟨t,b,⟨N2,h2⟩,tt⟩:=hP g a r hg ha hpl;refine ⟨t,b,⟨N0+N1+N2+100,fun n hn=>?_⟩,Am2 tt up⟩
  ·obtain ⟨n,rfl⟩:=psc n (by omega);have h0:=h0 n (by omega);have h1:=h1 n (by omega);have h2:=h2 n (by omega);have hw:=Ar (n:=n) (by omega) r.op (m:=3) (by omega) (by omega);have hw7:=Ar (n:=n) (by omega) r.op (m:=7) (by omega) (by omega);rw [c39];clear up hfn hG hO hA hP hg ha0 ha tv tt;generalize r.op % 3=w3 at hw hv;generalize r.op % 7=w7 at hw7 hna;obtain ⟨o0,x0,k0⟩:=a0;obtain ⟨o1,x1,k1⟩:=a;obtain ⟨o2,x2,k2⟩:=r;obtain ⟨o3,x3,k3⟩:=v;obtain ⟨o4,x4,k4⟩:=t;simp only [Tm.n,Tm.op] at h1 hw hw7 hpl;simp only [A6,Ag] at h0 h1 h2 ⊢;rcases hpl with rfl | rfl | rfl
   ·cases is<;>by_cases hd0:(0:Int)<(e:Int) - 5<;>(simp (maxSteps:=1000000) only [↓LL,↓XX,XY,↓reduceIte,seval,↓Ap h0,↓Au h1,↓Ad hw,↓Ad hw7,hv,hd4,hd0,hna,↓Au h2];exact Bi rfl)
   ·cases is<;>by_cases hd0:(0:Int)<(e:Int) - 5<;>(simp (maxSteps:=1000000) only [↓LL,↓XX,XY,↓reduceIte,seval,↓Ap h0,↓Au h1,↓Ad hw,↓Ad hw7,hv,hd4,hd0,hna,↓Au h2];exact Bi rfl)
   ·cases is<;>by_cases hd0:(0:Int)<(e:Int) - 5<;>(simp (maxSteps:=1000000) only [↓LL,↓XX,XY,↓reduceIte,seval,↓Ap h0,↓Au h1,↓Ad hw,↓Ad hw7,hv,hd4,hd0,hna,↓Au h2];exact Bi rfl)
 by_cases o3:a.op=3
 ·obtain ⟨d,c,hl⟩:=Afc (Hh ha (show ar a.op=some 2 by rw [o3];decide))
  have hd:NOk g.length d/\NOk (g.length+1) c:=by
   obtain ⟨o1,x1,k1⟩:=a;simp only [Tm.op,Tm.kids] at o3 hl;subst o3 hl;have hsc:=ha.sc;rw [Tm.sc] at hsc;rw [Fi] at aw;rw [Qx] at ad;exact ⟨⟨hsc.2.2.1,by omega,by omega⟩,⟨hsc.2.2.2.1,by omega,by omega⟩⟩
  obtain ⟨hd,hc⟩:=hd;have hgd:GOk (e - 1) (g++[(1,d)]):=Du (by rw [show e - 1+1=e by omega];exact hg) hd.sc (by have:=hd.wt;omega) (by have:=hd.dp;omega)
  obtain ⟨x,p,⟨N2,h2⟩,tx⟩:=hG (g++[(1,d)]) c (r.pick 0) hgd (by simpa using BG hc);have xs:x.sc (g.length+1):=by simpa using tx.sc
  refine ⟨.mk 4 0 [d,x],p,⟨N0+N1+N2+100000,fun n hn=>?_⟩,CQ hd.sc xs,by have:=tx.wt;have:=hd.wt;rw [Fi];omega,by have:=tx.dp;have:=hd.dp;rw [Qx];omega,fun hb=>up (by
   obtain ⟨oa,xa,ka⟩:=a;simp only [Tm.op,Tm.kids] at o3 hl;subst o3 hl;exact .lam e g _ d c x (tx.gr hb))⟩
  ·obtain ⟨n,rfl⟩:=psc n (by omega);have h0:=h0 n (by omega);have h1:=h1 n (by omega);have h2:=h2 n (by omega);rw [<- we] at h2;have hw:=Ar (n:=n) (by omega) r.op (m:=3) (by omega) (by omega);have hw7:=Ar (n:=n) (by omega) r.op (m:=7) (by omega) (by omega);have p0:=AK (n:=n) (by omega) r 0;have hm:=Fy (n:=n) g 1 d (by omega) (by omega);have t4:=Cx (n:=n) (by omega) 4 [d,x];rw [c39];clear up hfn hG hO hA hP hg ha0 ha tv tx hd hc hgd xs hpl;generalize r.op % 3=w3 at hw hv;generalize r.op % 7=w7 at hw7 hna;generalize r.pick 0=r0 at p0 h2;obtain ⟨o0,x0,k0⟩:=a0;obtain ⟨o1,x1,k1⟩:=a;simp only [Tm.op,Tm.kids] at o3 hl;subst o3 hl;obtain ⟨o2,x2,k2⟩:=r;obtain ⟨o3,x3,k3⟩:=v;obtain ⟨o4,x4,k4⟩:=x;obtain ⟨o5,x5,k5⟩:=d;obtain ⟨o6,x6,k6⟩:=c;obtain ⟨o8,x8,k8⟩:=r0;simp only [Tm.n,Tm.op] at h1 hw hw7;simp only [A6,Ag,ACb,ACa] at h0 h1 h2 p0 hm t4 ⊢;cases is<;>by_cases hd0:(0:Int)<(e:Int) - 5<;>(simp (maxSteps:=1000000) only [↓LL,↓XX,XY,↓reduceIte,seval,↓Ap h0,↓Au h1,↓Ad hw,↓Ad hw7,hv,hd4,hd0,hna,↓HT,↓If,↓Ad p0,↓AA hm,↓Au h2,↓Cc,↓Ad t4];exact Bi rfl)
 by_cases o6:a.op=6
 ·obtain ⟨d,c,hl⟩:=Afc (Hh ha (show ar a.op=some 2 by rw [o6];decide))
  have hd:NOk g.length d/\NOk (g.length+1) c:=by
   obtain ⟨o1,x1,k1⟩:=a;simp only [Tm.op,Tm.kids] at o6 hl;subst o6 hl;have hsc:=ha.sc;rw [Tm.sc] at hsc;rw [Fi] at aw;rw [Qx] at ad;exact ⟨⟨hsc.2.2.1,by omega,by omega⟩,⟨hsc.2.2.2.1,by omega,by omega⟩⟩
  obtain ⟨hd,hc⟩:=hd;obtain ⟨x,p,⟨N2,h2⟩,tx⟩:=hG g d (r.pick 0) (A0 (by omega) hg) (BG hd);cases p
  ·refine ⟨v,is,⟨N0+N1+N2+100,fun n hn=>?_⟩,tv⟩;obtain ⟨n,rfl⟩:=psc n (by omega);have h0:=h0 n (by omega);have h1:=h1 n (by omega);have h2:=h2 n (by omega);rw [<- we] at h2;have hw:=Ar (n:=n) (by omega) r.op (m:=3) (by omega) (by omega);have hw7:=Ar (n:=n) (by omega) r.op (m:=7) (by omega) (by omega);have p0:=AK (n:=n) (by omega) r 0;rw [c39];clear up hfn hG hO hA hP hg ha0 ha tv tx hd hc hpl;generalize r.op % 3=w3 at hw hv;generalize r.op % 7=w7 at hw7 hna;generalize r.pick 0=r0 at p0 h2;obtain ⟨o0,x0,k0⟩:=a0;obtain ⟨o1,x1,k1⟩:=a;simp only [Tm.op,Tm.kids] at o6 hl;subst o6 hl;obtain ⟨o2,x2,k2⟩:=r;obtain ⟨o3,x3,k3⟩:=v;obtain ⟨o4,x4,k4⟩:=x;obtain ⟨o5,x5,k5⟩:=d;obtain ⟨o6,x6,k6⟩:=c;obtain ⟨o8,x8,k8⟩:=r0;simp only [Tm.n,Tm.op] at h1 hw hw7;simp only [A6,Ag,ACb,ACa] at h0 h1 h2 p0 ⊢;cases is<;>by_cases hd0:(0:Int)<(e:Int) - 5<;>(simp (maxSteps:=1000000) only [↓LL,↓XX,XY,↓reduceIte,seval,↓Ap h0,↓Au h1,↓Ad hw,↓Ad hw7,hv,hd4,hd0,hna,↓HT,↓If,↓Ad p0,↓Au h2];exact Bi rfl)
  ·have hss:AOk g.length (c.subst 0 0 x):=by
    have xw:=tx.wt;have xd:=tx.dp;have cw:=hc.wt;have cd:=hc.dp;have h1:=LB c x 0 0;have h2:=OR c x 0 0;have h3:c.wt * x.wt<=3000 * 21000000000:=Nat.mul_le_mul cw (by omega);exact ⟨Lu c x 0 g.length hc.sc tx.sc (by omega),by omega,by omega⟩
   obtain ⟨y,q,⟨N3,h3⟩,ty⟩:=hG g (c.subst 0 0 x) (r.pick 1) (A0 (by omega) hg) hss;refine ⟨.mk 7 0 [a,x,y],q,⟨N0+N1+N2+N3+1000000000000,fun n hn=>?_⟩,Anz ha.sc tx.sc ty.sc,by have:=tx.wt;have:=ty.wt;rw [wt3];omega,by have:=tx.dp;have:=ty.dp;rw [dp3];omega,fun hb=>up (by
   obtain ⟨oa,xa,ka⟩:=a;simp only [Tm.op,Tm.kids] at o6 hl;subst o6 hl;exact .pair e g _ d c x y (AmY tx (by omega)) (tx.gr rfl) (ty.gr hb))⟩
   obtain ⟨n,rfl⟩:=psc n (by omega);have h0:=h0 n (by omega);have h1:=h1 n (by omega);have h2:=h2 n (by omega);have h3:=h3 n (by omega);rw [<- we] at h2 h3;have hw:=Ar (n:=n) (by omega) r.op (m:=3) (by omega) (by omega);have hw7:=Ar (n:=n) (by omega) r.op (m:=7) (by omega) (by omega);have p0:=AK (n:=n) (by omega) r 0;have p1:=AK (n:=n) (by omega) r 1;have hsb:=PJ (n:=n) c x 0 (Fp _ _ tx.sc) (by have:=tx.wt;omega) (by have:=tx.wt;have:=hc.wt;omega) (Fp _ _ hc.sc) (by have:=hc.wt;omega) (by omega) (by have:=hc.wt;omega);have t7:=Cx (n:=n) (by omega) 7 [a,x,y];rw [c39];clear up hfn hG hO hA hP hg ha0 ha tv tx ty hd hc hpl hss;generalize r.op % 3=w3 at hw hv;generalize r.op % 7=w7 at hw7 hna;generalize c.subst 0 0 x=sb at hsb h3;generalize r.pick 0=r0 at p0 h2;generalize r.pick 1=r1 at p1 h3;obtain ⟨o0,x0,k0⟩:=a0;obtain ⟨o1,x1,k1⟩:=a;simp only [Tm.op,Tm.kids] at o6 hl;subst o6 hl;obtain ⟨o2,x2,k2⟩:=r;obtain ⟨o3,x3,k3⟩:=v;obtain ⟨o4,x4,k4⟩:=x;obtain ⟨o5,x5,k5⟩:=d;obtain ⟨o6,x6,k6⟩:=c;obtain ⟨o7,x7,k7⟩:=y;obtain ⟨o8,x8,k8⟩:=r0;obtain ⟨o9,x9,k9⟩:=r1;obtain ⟨oa,xa,ka⟩:=sb;simp only [Tm.n,Tm.op] at h1 hw hw7;simp only [A6,Ag,ACb,ACa] at h0 h1 h2 h3 p0 p1 hsb t7 ⊢;cases is<;>by_cases hd0:(0:Int)<(e:Int) - 5<;>(simp (maxSteps:=1000000) only [↓LL,↓XX,XY,↓reduceIte,seval,↓Ap h0,↓Au h1,↓Ad hw,↓Ad hw7,hv,hd4,hd0,hna,↓HT,↓If,↓Ad p0,↓Ad p1,↓Au h2,↓AA hsb,↓Au h3,↓LA,↓Ad t7];exact Bi rfl)
 by_cases o18:a.op=18
 ·obtain ⟨d,hl⟩:=AvC (Hh ha (show ar a.op=some 1 by rw [o18];decide))
  have hd:NOk g.length d:=by
   obtain ⟨o1,x1,k1⟩:=a;simp only [Tm.op,Tm.kids] at o18 hl;subst o18 hl;have hsc:=ha.sc;rw [Tm.sc] at hsc;rw [QM] at aw;rw [dp1] at ad;exact ⟨hsc.2.2.1,by omega,by omega⟩
  obtain ⟨x,p,⟨N2,h2⟩,tx⟩:=hO g d (r.pick 0) (A0 (by omega) hg) (BG hd);refine ⟨.mk 19 0 [x],p,⟨N0+N1+N2+100,fun n hn=>?_⟩,FK tx.sc,by have:=tx.wt;rw [QM];omega,by have:=tx.dp;rw [dp1];omega,fun hb=>up (by
   obtain ⟨oa,xa,ka⟩:=a;simp only [Tm.op,Tm.kids] at o18 hl;subst o18 hl;exact .quo e g _ d x (tx.gr hb))⟩
  ·obtain ⟨n,rfl⟩:=psc n (by omega);have h0:=h0 n (by omega);have h1:=h1 n (by omega);have h2:=h2 n (by omega);rw [<- we] at h2;have hw:=Ar (n:=n) (by omega) r.op (m:=3) (by omega) (by omega);have hw7:=Ar (n:=n) (by omega) r.op (m:=7) (by omega) (by omega);have p0:=AK (n:=n) (by omega) r 0;have t19:=Cx (n:=n) (by omega) 19 [x];rw [c39];clear up hfn hG hO hA hP hg ha0 ha tv tx hd hpl;generalize r.op % 3=w3 at hw hv;generalize r.op % 7=w7 at hw7 hna;generalize r.pick 0=r0 at p0 h2;obtain ⟨o0,x0,k0⟩:=a0;obtain ⟨o1,x1,k1⟩:=a;simp only [Tm.op,Tm.kids] at o18 hl;subst o18 hl;obtain ⟨o2,x2,k2⟩:=r;obtain ⟨o3,x3,k3⟩:=v;obtain ⟨o4,x4,k4⟩:=x;obtain ⟨o5,x5,k5⟩:=d;obtain ⟨o8,x8,k8⟩:=r0;simp only [Tm.n,Tm.op] at h1 hw hw7;simp only [A6,Ag,ACb,ACa] at h0 h1 h2 p0 t19 ⊢;cases is<;>by_cases hd0:(0:Int)<(e:Int) - 5<;>(simp (maxSteps:=1000000) only [↓LL,↓XX,XY,↓reduceIte,seval,↓Ap h0,↓Au h1,↓Ad hw,↓Ad hw7,hv,hd4,hd0,hna,↓HT,↓Ad p0,↓Au h2,↓De,↓Ad t19];exact Bi rfl)
 have q1:a.op≠10:=fun h=>hpl (.inl h);have q2:a.op≠14:=fun h=>hpl (.inr (.inl h));have q3:a.op≠2:=fun h=>hpl (.inr (.inr h));refine ⟨v,is,⟨N0+N1+100,fun n hn=>?_⟩,tv⟩
 ·obtain ⟨n,rfl⟩:=psc n (by omega);have h0:=h0 n (by omega);have h1:=h1 n (by omega);have hw:=Ar (n:=n) (by omega) r.op (m:=3) (by omega) (by omega);have hw7:=Ar (n:=n) (by omega) r.op (m:=7) (by omega) (by omega);rw [c39];clear up hfn hG hO hA hP hg ha0 ha tv hpl;generalize r.op % 3=w3 at hw hv;generalize r.op % 7=w7 at hw7 hna;obtain ⟨o0,x0,k0⟩:=a0;obtain ⟨o1,x1,k1⟩:=a;obtain ⟨o2,x2,k2⟩:=r;obtain ⟨o4,x3,k3⟩:=v;simp only [Tm.n,Tm.op] at h1 hw hw7 o3 o6 o18 q1 q2 q3;simp only [A6,Ag] at h0 h1 ⊢;cases is<;>by_cases hd0:(0:Int)<(e:Int) - 5<;>(simp (maxSteps:=1000000) only [↓LL,↓XX,XY,↓reduceIte,seval,↓Ap h0,↓Au h1,↓Ad hw,↓Ad hw7,hv,hd4,hd0,hna,o3,o6,o18,q1,q2,q3];exact Bi rfl)
theorem Am4:∀e,e<=10->MO e/\El 39 1 e/\El 33 2 e:=by
 intro e
 induction e using Nat.strongRecOn with
 | _ e ih =>
  intro he;have hp:1<=e->MO (e - 1)/\El 39 1 (e - 1)/\El 33 2 (e - 1):=fun h=>ih (e - 1) (by omega) (by omega);have hp2:2<=e->MO (e - 2)/\El 39 1 (e - 2)/\El 33 2 (e - 2):=fun h=>ih (e - 2) (by omega) (by omega);have hT:MO e:=AoC he (fun h=>(hp (by omega)).1) (fun h=>(hp (by omega)).2.1);have hT6:6<=e->MO 6:=fun h=>by
   by_cases h6:e=6
   ·exact h6 ▸ hT
   ·exact (ih 6 (by omega) (by omega)).1
  have hR:6<=e->Ro 65 3 e:=fun h=>AkE h he (hT6 h) (hp2 (by omega)).2.1;have hP:1<=e->Ake 66 3 e:=fun h=>Amd h he (hp h).2.1 (fun h6=>(hp2 (by omega)).2.1);have hA:6<=e->Ro 59 4 e:=fun h=>Ajd h he (hp2 (by omega)).2.2 (hp (by omega)).2.1;have hO:El 33 2 e:=AiB he (fun h=>(hp h).2.2) hA;exact ⟨hT,Ao8 he (fun h=>(hp h).2.1) (fun h=>(hp h).2.2) hR hP,hO⟩
structure CaseOk (g:Bb) (a t:Tm) (is object:Bool):Prop where
 gok:GOk 10 g
 len:g.length<=4
 asc:a.sc g.length
 awt:a.wt<=32768010
 adp:a.dp<=300
 tsc:t.sc g.length
 tdp:t.dp<=300
 chk:is=true->(t.chk 0 1).2=0
 cg:CtxG g
 ga:object=false->Gr 0 7 g .z a
 gt:is=true->Gr (if object then 2 else 1) 10 g a t
def AjP {t:Tm} {k:Nat} (hst:t.stl) (hsc:t.sc k) (hk:k<=700000) (hw:t.wt<=100) {f:Nat} {u:Tm} {e:Int} (h:AF f t=some (u,e)):u=t:=by
 obtain ⟨f',h'⟩:=GA hst hsc hk (by omega) (by have:=GG t;omega)
 have:=CJ h h'
 simp only [AB6] at this;exact this.1
def DO (op n:Int):(Tm.mk op n []).stl:=by
 rw [Tm.stl,Tm.stlL];exact ⟨⟨⟨fun _ k h=>by simp at h,fun _ k h=>by simp at h,fun _ k h=>by simp at h⟩,fun _ k h=>by simp at h,fun _ k h=>by simp at h⟩,trivial⟩
def AtY {op n:Int} {x:Tm} (h:op≠30/\op≠19/\op≠13/\op≠5/\op≠8/\op≠9) (hx:x.stl):(Tm.mk op n [x]).stl:=by
 rw [Tm.stl,Tm.stlL,Tm.stlL];exact ⟨⟨⟨by omega,by omega,by omega⟩,by omega,by omega⟩,hx,trivial⟩
def AiM {op n:Int} {x y:Tm} (h:op≠30/\op≠19/\op≠13/\op≠5/\op≠8/\op≠9) (hx:x.stl) (hy:y.stl):(Tm.mk op n [x,y]).stl:=by
 rw [Tm.stl,Tm.stlL,Tm.stlL,Tm.stlL];exact ⟨⟨⟨by omega,by omega,by omega⟩,by omega,by omega⟩,hx,hy,trivial⟩
def P0 (p:Tm):Prop:=p=.mk 15 0 []\/∃op:Int,(op=16\/op=17)/\p=.mk op 0 [.mk 15 0 [],.mk 15 0 []]
def H4 (r:Tm):P0 (r.plainT 1):=by
 have h1:=Int.emod_nonneg r.n (show (4:Int)≠0 by decide)
 have h2:=Int.emod_lt_of_pos r.n (show (0:Int)<4 by decide)
 rw [Tm.plainT];split
 ·exact .inl rfl
 ·exact .inr ⟨_,by omega,rfl⟩
def F0 (t:Tm):Prop:=t=.mk 10 0 []\/t=.mk 14 0 []\/t=.mk 2 0 []\/∃p,P0 p/\t=.mk 18 0 [p]
def AhC {p:Tm} (h:P0 p):p.wt<=3:=by
 rcases h with rfl | ⟨op,_,rfl⟩<;>simp [Tm.wt,Tm.wtL]
def Aht {p:Tm} (h:F0 p):p.wt<=4:=by
 rcases h with rfl | rfl | rfl | ⟨q,h,rfl⟩
 ·simp [Tm.wt,Tm.wtL]
 ·simp [Tm.wt,Tm.wtL]
 ·simp [Tm.wt,Tm.wtL]
 ·have:=AhC h
  rw [QM];omega
def ME {p:Tm} (h:P0 p):p.stl:=by
 rcases h with rfl | ⟨op,ho,rfl⟩
 ·exact DO _ _
 ·exact AiM (by omega) (DO _ _) (DO _ _)
def Xk {p:Tm} (h:F0 p):p.stl:=by
 rcases h with rfl | rfl | rfl | ⟨q,h,rfl⟩
 ·exact DO _ _
 ·exact DO _ _
 ·exact DO _ _
 ·exact AtY (by decide) (ME h)
def AsA (k:Nat):(Tm.mk 15 0 []).sc k:=Fe
def Is {p:Tm} (h:P0 p) (k:Nat):p.sc k:=by
 rcases h with rfl | ⟨op,ho,rfl⟩
 ·exact AsA k
 ·rcases ho with rfl | rfl<;>exact CQ (AsA _) (AsA _)
def Aqm {p:Tm} (h:F0 p) (k:Nat):p.sc k:=by
 rcases h with rfl | rfl | rfl | ⟨q,h,rfl⟩
 ·exact Fe
 ·exact Fe
 ·exact MA (by decide) (by decide) (by rw [BJ,if_pos rfl];omega)
 ·exact FK (Is h _)
def F1 (t:Tm):Prop:=F0 t\/(∃(op:Int) (d c:Tm),(op=3\/op=6)/\F0 d/\F0 c/\t=.mk op 0 [d,c])\/∃p:Tm,(p=.mk 15 0 []\/∃i:Nat,p=.mk 1 i [])/\t=.mk 18 0 [p]
def JX {t:Tm} (h:F1 t):t.wt<=9:=by
 rcases h with h | ⟨op,d,c,_,hd,hc,rfl⟩ | ⟨p,hp,rfl⟩
 ·have:=Aht h;omega
 ·have:=Aht hd;have:=Aht hc;rw [Fi];omega
 ·rcases hp with rfl | ⟨i,rfl⟩<;>simp [Tm.wt,Tm.wtL]
def EB {t:Tm} (h:F1 t):t.stl:=by
 rcases h with h | ⟨op,d,c,ho,hd,hc,rfl⟩ | ⟨p,hp,rfl⟩
 ·exact Xk h
 ·exact AiM (by omega) (Xk hd) (Xk hc)
 ·refine AtY (by decide) ?_;rcases hp with rfl | ⟨i,rfl⟩<;>exact DO _ _
theorem t_5 {e:Nat} {g:Bb} {a t:Tm} (he:e<6) (h:Gr 0 e g a t):F0 t:=by
 cases h with
 | tnat=>exact .inl rfl
 | tty=>exact .inr (.inl rfl)
 | tu=>exact .inr (.inr (.inl rfl))
 | tlp _ _ _ r=>exact .inr (.inr (.inr ⟨_,H4 r,rfl⟩))
 | _=>omega
theorem Asp {e:Nat} {g:Bb} {t:Tm} (he:e<6) (h:Gr 1 e g (.mk 14 0 []) t):t=.mk 15 0 []\/∃i:Nat,t=.mk 1 i []:=by
 cases h with
 | grow _ _ _ a' _ f hn hg hna h1 =>
  have:=AjP (DO _ _) (Aqm (.inr (.inl rfl)) 0) (by omega) (by simp [Tm.wt,Tm.wtL]) hn
  subst this;cases h1 with
  | var1 _ _ _ i=>exact .inr ⟨i,rfl⟩
  | tint=>exact .inl rfl
  | uni _ _ _ _ ha _=>simp [Tm.op] at ha
  | _=>first | omega | (rename_i hh;simp [Tm.op] at hh)
theorem t_6 {g:Bb} {a t:Tm} (h:Gr 0 6 g a t):F1 t:=by
 cases h with
 | tnat=>exact .inl (.inl rfl)
 | tty=>exact .inl (.inr (.inl rfl))
 | tu=>exact .inl (.inr (.inr (.inl rfl)))
 | tlp _ _ _ r=>exact .inl (.inr (.inr (.inr ⟨_,H4 r,rfl⟩)))
 | tpi _ _ _ x y op ho h6 hgl hx h1 h2=>exact .inr (.inl ⟨op,x,y,ho,t_5 (by omega) h1,t_5 (by omega) h2,rfl⟩)
 | tlift _ _ _ t h6 h1=>exact .inr (.inr ⟨t,Asp (by omega) h1,rfl⟩)
theorem ApA {op:Int} {r:Nat} (h:ar op=some r):¬ (0<=HB op/\HB op≠(r:Int)):=by
 unfold HB;by_cases h1:op=8\/op=9\/op=12\/op=19\/op=30
 ·rw [if_pos h1];rcases h1 with rfl | rfl | rfl | rfl | rfl<;>(cases (show r=1 from by have:=h;revert this;simp [ar];omega);decide)
 ·rw [if_neg h1];by_cases h2:op=4\/op=5
  ·rw [if_pos h2];rcases h2 with rfl | rfl<;>(cases (show r=2 from by have:=h;revert this;simp [ar];omega);decide)
  ·rw [if_neg h2];by_cases h7:op=7
   ·subst h7;cases (show r=3 from by have:=h;revert this;simp [ar];omega);decide
   ·rw [if_neg h7];by_cases h13:op=13
    ·subst h13;cases (show r=4 from by have:=h;revert this;simp [ar];omega);decide
    ·rw [if_neg h13];omega
mutual
theorem Q9:∀(t:Tm) (k:Nat),t.sc k->t.shaped=true
 | .mk op n ks,k,h=>by
  rw [Tm.sc] at h;rw [Tm.shaped,scL_shaped op 0 ks k h.2.2];have h1:=ApA h.1;have h2:¬ (op=1/\n<0):=by
   rintro ⟨rfl,h3⟩
   have:=h.2.1
   rw [if_pos rfl] at this;omega
  rw [decide_eq_false h1,decide_eq_false h2];rfl
theorem scL_shaped:∀(op:Int) (i:Nat) (l:List Tm) (k:Nat),Tm.scL op i l k->Tm.shapedL l=true
 | _,_,[],_,_=>by rw [Tm.shapedL]
 | op,i,t::l,k,h=>by
  rw [Tm.scL] at h;rw [Tm.shapedL,Q9 t _ h.1,scL_shaped op (i+1) l k h.2];rfl
end
mutual
def Tm.surf:Tm->Nat
 | .mk op _ ks=>1+Tm.surfL op 0 ks
def Tm.surfL:Int->Nat->List Tm->Nat
 | _,_,[]=>0
 | op,i,t::l=>(if 0<Ae op i then 0 else t.surf)+Tm.surfL op (i+1) l
end
mutual
def Tm.inn:Tm->Nat
 | .mk op _ ks=>Tm.innL op 0 ks
def Tm.innL:Int->Nat->List Tm->Nat
 | _,_,[]=>0
 | op,i,t::l=>(if 0<Ae op i then t.wt else t.inn)+Tm.innL op (i+1) l
end
mutual
theorem Qu:∀t:Tm,t.surf+t.inn=t.wt
 | .mk op n ks=>by
  have:=surfL_innL op 0 ks
  simp only [Tm.surf,Tm.inn,Tm.wt];omega
theorem surfL_innL:∀(op:Int) (i:Nat) (l:List Tm),Tm.surfL op i l+Tm.innL op i l=Tm.wtL l
 | _,_,[]=>rfl
 | op,i,t::l=>by
  have h1:=Qu t;have h2:=surfL_innL op (i+1) l;simp only [Tm.surfL,Tm.innL,Tm.wtL];split<;>omega
end
mutual
def RV.vsz:RV->Nat
 | .mk op _ k _ _=>1+RV.vszL op 0 k
def RV.vszL:Int->Nat->List RV->Nat
 | _,_,[]=>0
 | op,i,v::l=>(if 0<Ae op i then 0 else v.vsz)+RV.vszL op (i+1) l
end
theorem Ah3 (v:RV):1<=v.vsz:=by obtain ⟨op,n,k,env,b⟩:=v;rw [RV.vsz];omega
inductive Rel (B:Nat):PV->RV->Prop
 | var (n:Int):Rel B (.var n) (.var n)
 | node (op n n':Int) (kp:List PV) (kr:List RV) (ts:List Tm) (e:List PV) (env:List RV) (h1:op≠1) (har:ar op=some ts.length) (hl:kp.length=ts.length) (hl2:kr.length=ts.length)
   (hk:∀i p r,Ae op i=0->kp[i]?=some p->kr[i]?=some r->Rel B p r)
   (hb:∀i b,0<Ae op i->ts[i]?=some b->(b.good/\b.wt<=B)/\kp[i]?=some .nil/\kr[i]?=some (.clo env b))
   (hel:e.length=env.length) (he:∀(i:Nat) p r,e[i]?=some p->env.reverse[i]?=some r->Rel B p r):Rel B (.mk op n kp (.mk op n' ts) e) (.node op n kr)
def GU (B:Nat) (e:List PV) (env:List RV):Prop:=e.length=env.length/\∀(i:Nat) p r,e[i]?=some p->env.reverse[i]?=some r->Rel B p r
theorem PB {B:Nat} {p:PV} {r:RV} (h:Rel B p r):∃op n k t e,p=.mk op n k t e/\r.op=op/\r.n=n:=by
 cases h with
 | var n=>exact ⟨_,_,_,_,_,rfl,rfl,rfl⟩
 | node=>exact ⟨_,_,_,_,_,rfl,rfl,rfl⟩
theorem X6 (B:Nat):GU B [] []:=⟨rfl,fun i p r h=>by simp at h⟩
theorem XR {B:Nat} {e l:List PV} {env l':List RV} (h:GU B e env) (hl:l.length=l'.length) (hr:∀(i:Nat) p r,l[i]?=some p->l'[i]?=some r->Rel B p r):GU B (l.reverse++e) (env++l'):=by
 refine ⟨by simp [h.1,hl,Nat.add_comm],?_⟩;intro i p r hp hr';rw [List.reverse_append] at hr';by_cases hi:i<l.length
 ·rw [List.getElem?_append_left (by simpa using hi),List.getElem?_reverse hi] at hp;rw [List.getElem?_append_left (by simp;omega),List.getElem?_reverse (by omega)] at hr';exact hr _ _ _ hp (by rw [hl];exact hr')
 ·rw [List.getElem?_append_right (by simp;omega),List.length_reverse] at hp;rw [List.getElem?_append_right (by simp;omega),List.length_reverse,<- hl] at hr';exact h.2 _ _ _ hp hr'
theorem Aop {B:Nat} {e:List PV} {env:List RV} (h:GU B e env) {m:Int} (h0:0<=m) (hm:m<env.length) {r:RV} (hr:env[(env.length - 1 - m).toNat]?=some r):Rel B (GH e m) r:=by
 rw [GH,if_pos (by rw [h.1];exact hm)];have hi:m.toNat<e.length:=by rw [h.1];omega
 rw [List.getD_eq_getElem?_getD,List.getElem?_eq_getElem hi];refine h.2 m.toNat _ _ (List.getElem?_eq_getElem hi) ?_;rw [List.getElem?_reverse (by omega),show env.length - 1 - m.toNat=(env.length - 1 - m).toNat by omega]
 exact hr
def sl (t:Tm) (v:RV):Nat:=if t.op=19/\v.op=19 then 1 else if t.op=30/\v.op=30 then 0 else if t.badR=true then 2 else 3
theorem Ys (t:Tm) (v:RV):sl t v<=3:=by unfold sl;split;omega;split;omega;split<;>omega
structure Cost (t:Tm) (v:RV) (k c u:Nat):Prop where
 le:c<=t.surf+k * t.inn
 p:5 * u<=3 * c+10 * k
 q:5 * u+sl t v<=3 * c+10 * k
 v:k=0->t.surf<=v.vsz
structure MOk (m:M3) (k T:Nat):Prop where
 e:m.e=0
 w:(T:Int)<=m.w
 w2:m.w<=5000000
 s:(k:Int)<=m.s
 s2:m.s<=100000
def G4 (m:M3) (k T:Nat):M3:=⟨m.s - k,m.w - T,0⟩
theorem FE (m:M3) (k1 T1 k2 T2:Nat):G4 (G4 m k1 T1) k2 T2=G4 m (k1+k2) (T1+T2):=by
 simp only [G4,M3.mk.injEq,and_true];omega
theorem Pz {m:M3} {k1 T1 k2 T2:Nat} (h:MOk m (k1+k2) (T1+T2)):MOk m k1 T1:=⟨h.e,by have:=h.w;omega,h.w2,by have:=h.s;omega,h.s2⟩
theorem JQ {m:M3} {k1 T1 k2 T2:Nat} (h:MOk m (k1+k2) (T1+T2)):MOk (G4 m k1 T1) k2 T2:=⟨rfl,by have:=h.w;simp only [G4];omega,by have:=h.w2;simp only [G4];omega,by have:=h.s;simp only [G4];omega,by have:=h.s2;simp only [G4];omega⟩
theorem Qj {m:M3} {k T:Nat} (h:MOk m k (1+T)):Ia m=some (G4 m 0 1):=by
 have h1:=h.w;have h2:=h.w2;have h3:=h.e;rw [Ia,if_neg (by omega),if_neg (by omega),h3];simp only [G4,AB5,M3.mk.injEq,and_true];omega
def AkK (B:Nat) (e:List PV) (t:Tm) (v:RV) (k T:Nat):Prop:=∃v',Rel B v' v/\∃F,∀f,F<=f->∀m,MOk m k T->RL f e t m=some (v',G4 m k T)
def AhA (B f:Nat):Prop:=∀(s:Int) (t:Tm) (env:List RV) (v:RV) (s':Int),AB f s 0 t env=some (v,s',0)->t.good->t.wt<=B->∀e,GU B e env->∃k c u T:Nat,s'=s+k/\Cost t v k c u/\T<=c+u+2 * k/\AkK B e t v k T
def HA (op:Int):Nat->List Tm->List RV->Nat
 | _,[],_=>0
 | _,_::_,[]=>0
 | i,t::l,v::vs=>(if 0<Ae op i then 0 else sl t v)+HA op (i+1) l vs
theorem Aho (k1 k2 a b:Nat):k1 * a+k2 * b<=(k1+k2) * (a+b):=by
 rw [Nat.add_mul,Nat.mul_add,Nat.mul_add];have h1:0<=k1 * b:=Nat.zero_le _;have h2:0<=k2 * a:=Nat.zero_le _;omega
theorem PG {B f:Nat} (ih:AhA B f) (op:Int) (env:List RV) (e:List PV) (he:GU B e env):∀(l:List Tm) (i:Nat) (s:Int) (vs:List RV) (s':Int),AW (fun s e t=>AB f s e t env) op env i l s 0=some (vs,s',0)->Tm.goodL l->Tm.wtL l<=B ->
  ∃k c u T:Nat,s'=s+k/\c<=Tm.surfL op i l+k * Tm.innL op i l/\5 * u+HA op i l vs<=3 * c+10 * k/\(k=0->Tm.surfL op i l<=RV.vszL op i vs)/\T<=c+u+2 * k/\vs.length=l.length /\
   ∃ps:List PV,ps.length=l.length/\(∀j t,l[j]?=some t->0<Ae op (i+j)->ps[j]?=some .nil/\vs[j]?=some (.clo env t))/\(∀j p r,Ae op (i+j)=0->ps[j]?=some p->vs[j]?=some r->Rel B p r) /\
    (∀j t r,l[j]?=some t->Ae op (i+j)=0->vs[j]?=some r->∃s1 s2,AB f s1 0 t env=some (r,s2,0))/\∃F,∀g,F<=g->∀m,MOk m k T->Tb (fun t m=>RL g e t m) op i l m=some (ps,G4 m k T)
 | [],i,s,vs,s',h,_,_=>by
  simp only [AW,AB5,AB6] at h;obtain ⟨rfl,rfl,_⟩:=h;refine ⟨0,0,0,0,by omega,by omega,by rw [HA];omega,fun _=>by rw [Tm.surfL,RV.vszL];omega,by omega,rfl,[],rfl,fun j t h=>by simp at h,fun j p r _ h=>by simp at h,fun j t r h=>by simp at h,0,fun g _ m hm=>?_⟩
  have:G4 m 0 0=m:=by
   obtain ⟨a,b,c⟩:=m
   have:=hm.e
   simp only at this;subst this;simp [G4]
  rw [Tb,this]
 | t::l,i,s,vs,s',h,hg,hw=>by
  rw [Tm.goodL] at hg;rw [Tm.wtL] at hw;simp only [AW] at h;by_cases hb:0<Ae op i
  ·rw [if_pos hb] at h;cases hk:AW (fun s e t=>AB f s e t env) op env (i+1) l s 0 with
   | none=>rw [hk] at h;cases h
   | some q =>
    obtain ⟨vs1,s1,e1⟩:=q;rw [hk] at h;simp only [AB8,AB5,AB6] at h;obtain ⟨rfl,rfl,rfl⟩:=h;obtain ⟨k,c,u,T,h1,h2,h3,h4,h5,h6,ps,h7,h8,h9,h10,F,h11⟩:=PG ih op env e he l (i+1) s vs1 s1 hk hg.2 (by omega);refine ⟨k,c,u,T,h1,?_,?_,?_,h5,by simp [h6],.nil::ps,by simp [h7],?_,?_,?_,F,?_⟩
    ·rw [Tm.surfL,Tm.innL,if_pos hb,if_pos hb]
     have:=Aho 0 k t.wt (Tm.innL op (i+1) l)
     rw [Nat.zero_mul,Nat.zero_add,Nat.zero_add] at this;omega
    ·rw [HA,if_pos hb];omega
    ·intro hk0;rw [Tm.surfL,RV.vszL,if_pos hb,if_pos hb]
     have:=h4 hk0
     omega
    ·intro j x hj hbj;cases j with
     | zero =>
      simp only [List.getElem?_cons_zero,AB5] at hj;subst hj;exact ⟨rfl,rfl⟩
     | succ j =>
      rw [List.getElem?_cons_succ] at hj;rw [List.getElem?_cons_succ,List.getElem?_cons_succ];exact h8 j x hj (by rwa [show i+1+j=i+(j+1) by omega])
    ·intro j p r hbj hp hr;cases j with
     | zero=>rw [Nat.add_zero] at hbj;omega
     | succ j =>
      rw [List.getElem?_cons_succ] at hp hr;exact h9 j p r (by rwa [show i+1+j=i+(j+1) by omega]) hp hr
    ·intro j x r hj hbj hr;cases j with
     | zero=>rw [Nat.add_zero] at hbj;omega
     | succ j =>
      rw [List.getElem?_cons_succ] at hj hr;exact h10 j x r hj (by rwa [show i+1+j=i+(j+1) by omega]) hr
    ·intro g hgF m hm;rw [Tb,if_pos hb,h11 g hgF m hm];rfl
  ·rw [if_neg hb] at h;split at h
   ·cases h
   ·rename_i v s1 e1 hev;cases hk:AW (fun s e t=>AB f s e t env) op env (i+1) l s1 e1 with
    | none=>rw [hk] at h;cases h
    | some q =>
     obtain ⟨vs1,s2,e2⟩:=q;rw [hk] at h;simp only [AB8,AB5,AB6] at h;obtain ⟨rfl,rfl,rfl⟩:=h;have h0:=Hg _ (fun s e t v s' h=>Cy h) op env l _ _ _ _ _ hk;subst h0;obtain ⟨k1,c1,u1,T1,a1,a2,a3,p1,a4,F1,a5⟩:=ih s t env v s1 hev hg.1 (by omega) e he;obtain ⟨k,c,u,T,h1,h2,h3,h4,h5,h6,ps,h7,h8,h9,h10,F,h11⟩:=PG ih op env e he l (i+1) s1 vs1 s2 hk hg.2 (by omega);have ac:=a2.le;have ap:=a2.p;have aq:=a2.q;refine ⟨k1+k,c1+c,u1+u,T1+T,by omega,?_,?_,?_,by omega,by simp [h6],p1::ps,by simp [h7],?_,?_,?_,F1+F,?_⟩
     ·rw [Tm.surfL,Tm.innL,if_neg hb,if_neg hb]
      have:=Aho k1 k t.inn (Tm.innL op (i+1) l)
      omega
     ·rw [HA,if_neg hb];omega
     ·intro hk0;rw [Tm.surfL,RV.vszL,if_neg hb,if_neg hb]
      have:=h4 (by omega)
      have:=a2.v (by omega)
      omega
     ·intro j x hj hbj;cases j with
      | zero=>rw [Nat.add_zero] at hbj;exact absurd hbj hb
      | succ j =>
       rw [List.getElem?_cons_succ] at hj;rw [List.getElem?_cons_succ,List.getElem?_cons_succ];exact h8 j x hj (by rwa [show i+1+j=i+(j+1) by omega])
     ·intro j p r hbj hp hr;cases j with
      | zero =>
       simp only [List.getElem?_cons_zero,AB5] at hp hr;subst hp hr;exact a4
      | succ j =>
       rw [List.getElem?_cons_succ] at hp hr;exact h9 j p r (by rwa [show i+1+j=i+(j+1) by omega]) hp hr
     ·intro j x r hj hbj hr;cases j with
      | zero =>
       simp only [List.getElem?_cons_zero,AB5] at hj hr;subst hj hr;exact ⟨_,_,hev⟩
      | succ j =>
       rw [List.getElem?_cons_succ] at hj hr;exact h10 j x r hj (by rwa [show i+1+j=i+(j+1) by omega]) hr
     ·intro g hgF m hm;rw [Tb,if_neg hb,a5 g (by omega) m (Pz hm)];simp only;rw [h11 g (by omega) _ (JQ hm),FE];rfl
theorem I2 {B:Nat} {p:PV} {r:RV} (h:Rel B p r) (h1:r.op≠1):∃n' kp ts e env,p=.mk r.op r.n kp (.mk r.op n' ts) e/\ar r.op=some ts.length/\kp.length=ts.length/\r.k.length=ts.length /\
  (∀i p' r',Ae r.op i=0->kp[i]?=some p'->r.k[i]?=some r'->Rel B p' r') /\
  (∀i b,0<Ae r.op i->ts[i]?=some b->(b.good/\b.wt<=B)/\kp[i]?=some .nil/\r.k[i]?=some (.clo env b))/\GU B e env:=by
 cases h with
 | var n=>exact absurd rfl h1
 | node op n n' kp kr ts e env h1 har hl hl2 hk hb hel he=>exact ⟨n',kp,ts,e,env,rfl,har,hl,hl2,hk,hb,hel,he⟩
def QZ {m:M3} (h:m.e=0):G4 m 0 0=m:=by
 obtain ⟨a,b,c⟩:=m;simp only at h;subst h;simp [G4]
def Al5 {op:Int} {r:Nat} (h:ar op=some r):r<=4:=by
 unfold ar at h
 repeat' split at h
 all_goals first | (simp only [AB5] at h;omega) | cases h
def Ay1 (g:Nat) (n:Int) (o0 n0:Int) (k0:List PV) (t0:Tm) (e0:List PV) (x:PV) (t:Tm) (e:List PV) (m:M3):stP (g+1) (.mk 5 n [.mk o0 n0 k0 t0 e0,x] t e) m=if o0=4 then opP g (.mk o0 n0 k0 t0 e0) 1 [x] m else some (.nil,m):=by
 rw [stP.eq_def];simp only [if_true]
def AwW (g:Nat) (op n:Int) (h:op=8\/op=9) (n0:Int) (a x y:PV) (t0:Tm) (e0:List PV) (t:Tm) (e:List PV) (m:M3):stP (g+1) (.mk op n [.mk 7 n0 [a,x,y] t0 e0] t e) m=some (if op=8 then x else y,m):=by
 rw [stP.eq_def];simp only;rw [if_neg (by omega),if_pos h,if_true]
def AsC (g:Nat) (n:Int) (p0 z p2:PV) (n3:Int) (k3:List PV) (t3:Tm) (e3:List PV) (t:Tm) (e:List PV) (m:M3):stP (g+1) (.mk 13 n [p0,z,p2,.mk 11 n3 k3 t3 e3] t e) m=some (z,m):=by
 rw [stP.eq_def];simp only [Int.reduceEq,if_false,if_true,or_self]
def Atl {g:Nat} {n:Int} {p0 z p2:PV} {n3:Int} {x y:PV} {t3:Tm} {e3:List PV} {t:Tm} {e:List PV} {m m':M3} (hc:ctP g (.mk 13 n [.nil,z,.nil,x] t e) m=some (y,m')):stP (g+1) (.mk 13 n [p0,z,p2,.mk 12 n3 [x] t3 e3] t e) m=opP g (.mk 13 n [p0,z,p2,.mk 12 n3 [x] t3 e3] t e) 2 [x,y] m':=by
 rw [stP.eq_def];simp only [Int.reduceEq,if_false,if_true,or_self,hc]
def AtX (g:Nat) (n:Int) (p0 z p2:PV) (o3 n3:Int) (k3:List PV) (t3:Tm) (e3:List PV) (t:Tm) (e:List PV) (m:M3) (h11:o3≠11) (h12:o3≠12):stP (g+1) (.mk 13 n [p0,z,p2,.mk o3 n3 k3 t3 e3] t e) m=some (.nil,m):=by
 rw [stP.eq_def];simp only [Int.reduceEq,if_false,if_true,or_self,h11,h12]
def Aw4 (g:Nat) (n:Int) (n0:Int) (x:PV) (t0:Tm) (e0:List PV) (t:Tm) (e:List PV) (m:M3):stP (g+1) (.mk 30 n [.mk 19 n0 [x] t0 e0] t e) m=some (x,m):=by
 rw [stP.eq_def];simp only [Int.reduceEq,if_false,if_true,or_self]
def AuE (g:Nat) (n:Int) (o0 n0:Int) (k0:List PV) (t0:Tm) (e0:List PV) (t:Tm) (e:List PV) (m:M3) (h:o0≠19):stP (g+1) (.mk 30 n [.mk o0 n0 k0 t0 e0] t e) m=some (.nil,m):=by
 rw [stP.eq_def];simp only [Int.reduceEq,if_false,if_true,or_self,h]
def Axt (g:Nat) (n:Int) (n0:Int) (x:PV) (t0:Tm) (e0:List PV) (t:Tm) (e:List PV) (m:M3):stP (g+1) (.mk 19 n [.mk 30 n0 [x] t0 e0] t e) m=some (x,m):=by
 rw [stP.eq_def];simp only [Int.reduceEq,if_false,if_true,or_self]
def AsV (g:Nat) (n:Int) (o0 n0:Int) (k0:List PV) (t0:Tm) (e0:List PV) (t:Tm) (e:List PV) (m:M3) (h:o0≠30):stP (g+1) (.mk 19 n [.mk o0 n0 k0 t0 e0] t e) m=some (.nil,m):=by
 rw [stP.eq_def];simp only [Int.reduceEq,if_false,if_true,or_self,h]
def Ii (op n:Int) (ps:List PV) (t:Tm) (e:List PV) (v':PV) (k T:Nat):Prop:=∃F,∀g,F<=g->∀m,MOk m k T->ctP g (.mk op n ps t e) m=some (v',G4 m k T)
def Axm {op n:Int} {ps:List PV} {t:Tm} {e:List PV} (h:CX op=false):Ii op n ps t e (.mk op n ps t e) 0 0:=by
 refine ⟨1,fun g hg m hm=>?_⟩;obtain ⟨g,rfl⟩:=psc g (by omega);rw [ctP,h,QZ hm.e];rfl
def Qt {op n:Int} {ps:List PV} {t:Tm} {e:List PV} (h:CX op=true) (hs:∃F,∀g,F<=g->∀m,stP g (.mk op n ps t e) m=some (.nil,m)):Ii op n ps t e (.mk op n ps t e) 0 1:=by
 obtain ⟨F,hs⟩:=hs;refine ⟨F+2,fun g hg m hm=>?_⟩;obtain ⟨g,rfl⟩:=psc g (by omega);rw [ctP,if_pos h,if_neg (fun h=>h hm.e),if_neg (by omega),Qj (k:=0) (T:=0) hm];simp only;rw [if_neg (by simp [G4]),hs g (by omega)]
theorem Hb {op n:Int} {ps:List PV} {t:Tm} {e:List PV} {v':PV} {k T:Nat} (h:CX op=true) (hv:v'≠.nil) (hs:∃F,∀g,F<=g->∀m,MOk m k T->stP g (.mk op n ps t e) m=some (v',G4 m k T)):Ii op n ps t e v' (k+1) (1+T):=by
 obtain ⟨F,hs⟩:=hs;refine ⟨F+2,fun g hg m hm=>?_⟩;obtain ⟨g,rfl⟩:=psc g (by omega);have hm':MOk (G4 m 0 1) k T:=JQ (k1:=0) (k2:=k) ⟨hm.e,hm.w,hm.w2,by have:=hm.s;omega,hm.s2⟩;rw [ctP,if_pos h,if_neg (fun h=>h hm.e),if_neg (by omega),Qj hm];simp only;rw [if_neg (by simp [G4]),hs g (by omega) _ hm',FE];have h1:=hm.s;have h2:=hm.s2;cases v' with
 | nil=>exact absurd rfl hv
 | mk o1 n1 k1 t1 e1 =>
  simp only;rw [if_neg (by simp [G4]),if_neg (by simp only [G4];omega),if_neg (by simp only [G4];omega)];simp only [G4,AB5,AB6,true_and,M3.mk.injEq,and_true];omega
def Yz {B:Nat} {op n n':Int} {ps:List PV} {ts:List Tm} {e:List PV} {i:Nat} {b:Tm} {l:List PV} {v:RV} {k T:Nat} (hb:ts[i]?=some b) (hl:l.length<=2) (h:AkK B (l.reverse++e) b v k T) :
  ∃v',Rel B v' v/\∃F,∀g,F<=g->∀m,MOk m k T->opP g (.mk op n ps (.mk op n' ts) e) i l m=some (v',G4 m k T):=by
 obtain ⟨v',hr,F,h⟩:=h;refine ⟨v',hr,F+10,fun g hg m hm=>?_⟩;obtain ⟨g,rfl⟩:=psc g (by omega);rw [opP];rw [if_neg (by omega),hb];exact h g (by omega) m hm
def Mx {B:Nat} {p:PV} {r:RV} (h:Rel B p r):p≠.nil:=by
 obtain ⟨op,n,k,t,e,rfl,_⟩:=PB h;exact fun h=>by cases h
def Qf {B f:Nat} (ih:AhA B f) {e l:List PV} {env l':List RV} (he:GU B e env) (hl:l.length=l'.length) (hr:∀(i:Nat) p r,l[i]?=some p->l'[i]?=some r->Rel B p r) {b:Tm} (hg:b.good) (hw:b.wt<=B) {s s':Int} {v:RV}
  (h:AB f s 0 b (env++l')=some (v,s',0)):∃k c u T:Nat,s'=s+k/\Cost b v k c u/\T<=c+u+2 * k/\AkK B (l.reverse++e) b v k T :=
 ih s b _ v s' h hg hw _ (XR he hl hr)
def Tt {b:Tm} {v:RV} {k c u:Nat} (h:Cost b v k c u):c<=(k+1) * b.wt:=by
 have h1:=h.le;have h2:=Qu b;have h3:k * b.inn<=k * b.wt:=Nat.mul_le_mul_left _ (by omega);rw [Nat.add_mul,Nat.one_mul];omega
theorem ApX {B:Nat}:∀f,(∀g,g<f->AhA B g)->∀(s:Int) (n n0:Int) (env:List RV) (b0 b2:Tm) (vz vn w:RV) (s':Int) (e:List PV) (pz pn:PV) (n':Int) (ts:List Tm),headR f s 0 (.node 13 n0 [.clo env b0,vz,.clo env b2,vn])=some (w,s',0) ->
  Rel B pz vz->Rel B pn vn->GU B e env->ts[2]?=some b2->b2.good->b2.wt<=B->(∀pw:PV,Rel B (.mk 13 n [.nil,pz,.nil,pn] (.mk 13 n' ts) e) (.node 13 n0 [.clo env b0,vz,.clo env b2,vn])) ->
  (∀(px:PV) (vx:RV),Rel B px vx->Rel B (.mk 13 n [.nil,pz,.nil,px] (.mk 13 n' ts) e) (.node 13 0 [.clo env b0,vz,.clo env b2,vx])) ->
  ∃k c u T:Nat,s'=s+k/\c<=k * b2.wt/\5 * u<=3 * c+10 * k/\T<=c+u+2 * k+(if k=0 then 1 else 0)/\(k=0->c=0/\u=0/\w=.node 13 n0 [.clo env b0,vz,.clo env b2,vn]) /\
   ∃w',Rel B w' w/\Ii 13 n [.nil,pz,.nil,pn] (.mk 13 n' ts) e w' k T:=by
 intro f
 induction f with
 | zero=>intro _ s n n0 env b0 b2 vz vn w s' e pz pn n' ts h;rw [headR] at h;cases h
 | succ f ihf =>
  intro ih s n n0 env b0 b2 vz vn w s' e pz pn n' ts h hz hn he hb2 hg2 hw2 hself hless;obtain ⟨V,hV⟩:∃V,V=RV.node 13 n0 [.clo env b0,vz,.clo env b2,vn]:=⟨_,rfl⟩;have hop:V.op=13:=by rw [hV];rfl
  have hk0:V.k[0]?=some (.clo env b0):=by rw [hV];rfl
  have hk1:V.k[1]?=some vz:=by rw [hV];rfl
  have hk2:V.k[2]?=some (.clo env b2):=by rw [hV];rfl
  have hk3:V.k[3]?=some vn:=by rw [hV];rfl
  rw [<- hV] at h hself ⊢;rw [headR] at h;rw [if_neg (by simp)] at h;split at h
  ·cases h
  simp only [hop,if_true] at h;rw [if_neg (by decide),if_neg (by decide),if_neg (by decide),if_neg (by decide),hk0,hk1,hk2,hk3] at h;simp only at h;obtain ⟨on,nn,kn,tn,en,hpn,hon,hnn⟩:=PB hn;by_cases h11:vn.op=11
  ·rw [if_pos h11] at h;by_cases hs:s+1<=1000
   ·rw [if_pos hs] at h;simp only [AB5,AB6] at h;obtain ⟨rfl,rfl,_⟩:=h;refine ⟨1,0,0,1,rfl,by omega,by omega,by simp,fun h=>by omega,pz,hz,Hb (k:=0) (T:=0) (by decide) (Mx hz) ⟨1,fun g hg m hm=>?_⟩⟩;obtain ⟨g,rfl⟩:=psc g (by omega);rw [hpn,<- hon,h11,AsC,QZ hm.e]
   ·rw [if_neg hs] at h;simp at h
  ·rw [if_neg h11] at h;by_cases h12:vn.op=12
   ·rw [if_pos h12] at h;by_cases hs:s+1<=1000
    ·rw [if_pos hs] at h;have hvn1:vn.op≠1:=by omega
     obtain ⟨nn',kp,ts',en',envn,hpn',har,hkl,hrl,hkk,_,_⟩:=I2 hn hvn1;rw [h12,show ar 12=some 1 by decide,AB5] at har
     obtain ⟨vx,hvx⟩:=Cs (l:=vn.k) (by omega);obtain ⟨px,hpx⟩:=Cs (l:=kp) (by omega);have hx:Rel B px vx:=hkk 0 px vx (by rw [h12];decide) (by rw [hpx];rfl) (by rw [hvx];rfl);have hv0:(RV.k vn)[0]?=some vx:=by rw [hvx];rfl
     obtain ⟨on2,nn2,kn2,envn2,bn2⟩:=vn;simp only [RV.k] at hv0 h;rw [hv0] at h;simp only at h;split at h
     ·cases h
     rename_i vh s2 e2 hh;split at h
     ·cases h
     rw [show (RV.clo env b2).env=env from rfl,show (RV.clo env b2).b=b2 from rfl] at h
     have he2:=Cy h;subst he2;obtain ⟨k1,c1,u1,T1,a1,a2,a3,a4,a5,w1,a6,F1,a7⟩:=ihf (fun g hg=>ih g (by omega)) (s+1) n 0 env b0 b2 vz vx vh s2 e pz px n' ts hh hz hx he hb2 hg2 hw2 (fun _=>hless px vx hx) hless;obtain ⟨k2,c2,u2,T2,d1,d2,d3,d4⟩:=Qf (ih f (by omega)) (l:=[px,w1]) (l':=[vx,vh]) he rfl (by
      intro i p r hp hr
      match i with
      | 0=>simp only [List.getElem?_cons_zero,AB5] at hp hr;subst hp hr;exact hx
      | 1=>simp only [List.getElem?_cons_succ,List.getElem?_cons_zero,AB5] at hp hr;subst hp hr;exact a6
      | i+2=>simp at hp) hg2 hw2 h
     obtain ⟨w2,q1,F2,q2⟩:=Yz (op:=13) (n:=n) (n':=n') (ps:=[.nil,pz,.nil,pn]) hb2 (by simp) d4;have hd:=Tt d2;have hdp:=d2.p;refine ⟨k1+k2+1,c1+c2,u1+u2,1+(T1+T2),by omega,?_,by omega,?_,fun h=>by omega,w2,q1,Hb (k:=k1+k2) (T:=T1+T2) (by decide) (Mx q1) ⟨F1+F2+2,fun g hg m hm=>?_⟩⟩
     ·have e1:(k1+k2+1) * b2.wt=k1 * b2.wt+(k2+1) * b2.wt:=by rw [show k1+k2+1=k1+(k2+1) by omega,Nat.add_mul]
      omega
     ·rw [if_neg (by omega)];split at a4<;>omega
     ·obtain ⟨g,rfl⟩:=psc g (by omega);simp only [RV.op] at h12;subst h12;rw [hpn',hpx];simp only [RV.op,RV.n];rw [Atl (a7 g (by omega) m (Pz hm))];rw [hpn',hpx] at q2;simp only [RV.op,RV.n] at q2;rw [q2 g (by omega) _ (JQ hm),FE]
    ·rw [if_neg hs] at h;simp at h
   ·rw [if_neg h12] at h;simp only [AB5,AB6] at h;obtain ⟨rfl,rfl,_⟩:=h;refine ⟨0,0,0,1,by omega,by omega,by omega,by simp,fun _=>⟨rfl,rfl,rfl⟩,_,hself pz,Qt (by decide) ⟨1,fun g hg m=>?_⟩⟩;obtain ⟨g,rfl⟩:=psc g (by omega);rw [hpn,AtX _ _ _ _ _ _ _ _ _ _ _ _ _ (by rw [<- hon];exact h11) (by rw [<- hon];exact h12)]
def DP {op n:Int} {ks:List Tm} {e ps:List PV} {k1 T1 kh Th:Nat} {v':PV} (h1:op≠1) (hks:ks.length<=4) (hK:∃F,∀g,F<=g->∀m,MOk m k1 T1->Tb (fun t m=>RL g e t m) op 0 ks m=some (ps,G4 m k1 T1)) (hH:Ii op n ps (.mk op n ks) e v' kh Th) :
  ∃F,∀g,F<=g->∀m,MOk m (k1+kh) (1+(T1+Th))->RL g e (.mk op n ks) m=some (v',G4 m (k1+kh) (1+(T1+Th))):=by
 obtain ⟨F1,hK⟩:=hK;obtain ⟨F2,hH⟩:=hH;refine ⟨F1+F2+10,fun g hg m hm=>?_⟩;obtain ⟨g,rfl⟩:=psc g (by omega);have hm':MOk (G4 m 0 1) (k1+kh) (T1+Th):=JQ (k1:=0) ⟨hm.e,hm.w,hm.w2,by have:=hm.s;omega,hm.s2⟩;rw [RL,Qj hm];simp only;rw [if_neg h1,if_neg (by omega),if_neg (by simp [G4]),hK g (by omega) _ (Pz hm')];simp only;rw [if_neg (by simp [G4]),hH g (by omega) _ (JQ hm'),FE,FE];congr 3
 all_goals omega
def AoH {op:Int} (h:¬ (op=5\/op=8\/op=9\/op=13\/op=19\/op=30)):CX op=false:=by
 have h1:¬ op=5:=fun e=>h (.inl e);have h2:¬ op=8:=fun e=>h (.inr (.inl e));have h3:¬ op=9:=fun e=>h (.inr (.inr (.inl e)));have h4:¬ op=13:=fun e=>h (.inr (.inr (.inr (.inl e))));have h5:¬ op=19:=fun e=>h (.inr (.inr (.inr (.inr (.inl e)))));have h6:¬ op=30:=fun e=>h (.inr (.inr (.inr (.inr (.inr e)))));simp [CX,h1,h2,h3,h4,h5,h6]
theorem VC (B:Nat):∀f,AhA B f:=by
 intro f
 induction f using Nat.strongRecOn with
 | _ f ih =>
 intro s t env v s' h hg hw e he;cases f with
 | zero=>rw [AB] at h;cases h
 | succ f =>
 obtain ⟨op,n,ks⟩:=t;rw [AB] at h;rw [if_neg (by simp)] at h;split at h
 ·cases h
 rename_i hel;rw [Tm.good] at hg;obtain ⟨hgn,hgl⟩:=hg;have har:=hgn.1;have hk4:=Al5 har;rw [Tm.wt] at hw;by_cases h1:op=1
 ·subst h1;rw [if_pos rfl] at h;have hks:ks=[]:=by
   rw [show ar 1=some 0 by decide,AB5] at har
   exact List.eq_nil_of_length_eq_zero har.symm
  subst hks;have hn:=hgn.2.1 rfl;have hrun:∃F,∀g,F<=g->∀m,MOk m 0 1->RL g e (.mk 1 n []) m=some (GH e n,G4 m 0 1):=by
   refine ⟨e.length+10,fun g hg m hm=>?_⟩;obtain ⟨g,rfl⟩:=psc g (by omega);rw [RL,Qj (k:=0) (T:=0) hm];simp only;rw [if_pos trivial,if_pos ⟨by omega,by omega,by omega⟩]
  have hcost:∀v:RV,Cost (.mk 1 n []) v 0 1 0:=fun v=>⟨by simp [Tm.surf,Tm.surfL],by omega,Nat.le_trans (Nat.add_le_add_left (Ys _ _) _) (by omega),fun _=>by have:=Ah3 v;simp only [Tm.surf,Tm.surfL];omega⟩;by_cases hlt:n<env.length
  ·rw [if_pos hlt,if_pos hn.1] at h;cases hr:env[((env.length:Int) - 1 - n).toNat]? with
   | none=>rw [hr] at h;cases h
   | some r =>
    rw [hr] at h;simp only [AB8,AB5,AB6] at h;obtain ⟨rfl,rfl,_⟩:=h;exact ⟨0,1,0,1,by omega,hcost _,by omega,_,Aop he hn.1 hlt hr,hrun⟩
  ·rw [if_neg hlt] at h;split at h
   ·simp only [AB5,AB6] at h;obtain ⟨rfl,rfl,_⟩:=h;refine ⟨0,1,0,1,by omega,hcost _,by omega,_,?_,hrun⟩;rw [GH,if_neg (by rw [he.1];exact hlt),he.1];exact .var _
   ·cases h
 rw [if_neg h1] at h;split at h
 ·cases h
 split at h
 ·cases h
 split at h
 ·cases h
 rename_i vs s1 e1 hk;have he1:=Iq h;subst he1;obtain ⟨k1,c1,u1,T1,q1,q2,q3,q4,q5,q6,ps,q7,q8,q9,q10,q11⟩:=PG (ih f (by omega)) op env e he ks 0 s vs s1 hk hgl (by omega);simp only [Nat.zero_add] at q8 q9 q10;have hnode:Rel B (.mk op n ps (.mk op n ks) e) (.node op n vs):=by
  refine .node op n n ps vs ks e env h1 har q7 q6 (fun i p r=>q9 i p r) ?_ he.1 he.2;intro i b hb hi;obtain ⟨a1,a2⟩:=q8 i b hi hb;have hm:=List.mem_of_getElem? hi
  have:=CT hm
  exact ⟨⟨RE hgl hm,by omega⟩,a1,a2⟩
 obtain ⟨V,hV⟩:∃V,V=RV.node op n vs:=⟨_,rfl⟩;have hVo:V.op=op:=by rw [hV];rfl
 have hVk:V.k=vs:=by rw [hV];rfl
 have hVz:V.vsz=1+RV.vszL op 0 vs:=by rw [hV,RV.node,RV.vsz]
 rw [<- hV] at h hnode;cases f with
 | zero=>rw [headR] at h;cases h
 | succ f =>
 have h00:=h;rw [headR] at h;rw [if_neg (by simp)] at h;split at h
 ·cases h
 by_cases hr:¬ (op=5\/op=8\/op=9\/op=13\/op=19\/op=30)
 ·rw [hVo,if_neg (by omega),if_neg (by omega),if_neg (by omega),if_neg (by omega),if_neg (by omega)] at h;simp only [AB5,AB6] at h;obtain ⟨rfl,rfl,_⟩:=h;refine ⟨k1,1+c1,u1,1+T1,q1,⟨?_,by omega,Nat.le_trans (Nat.add_le_add_left (Ys _ _) _) (by omega),fun h=>?_⟩,by omega,_,hnode,DP (kh:=0) (Th:=0) h1 (by omega) q11 (Axm (AoH hr))⟩
  ·rw [Tm.surf,Tm.inn];omega
  ·have:=q4 h;rw [Tm.surf,hVz];omega
 have hrule:CX op=true:=by
  have:op=5\/op=8\/op=9\/op=13\/op=19\/op=30:=Decidable.byContradiction hr
  rcases this with rfl | rfl | rfl | rfl | rfl | rfl<;>rfl
 by_cases h5:op=5
 ·subst h5;obtain ⟨m0,a,b,x,rfl⟩:=hgn.2.2.2.1 rfl;obtain ⟨v0,vx,rfl⟩:=Ml q6;obtain ⟨p0,px,rfl⟩:=Ml q7;obtain ⟨t1,t2,hv0⟩:=q10 0 _ v0 rfl (by decide) rfl;obtain ⟨va,rfl⟩:=AgJ hv0;have r0:=q9 0 p0 _ (by decide) rfl rfl;have rx:=q9 1 px vx (by decide) rfl rfl;obtain ⟨n',kp,ts,e0,env0,hp0,b1,b2,b3,b4,b5,b6⟩:=I2 r0 (by simp [RV.node,RV.op]);simp only [RV.node,RV.op,RV.n,RV.k] at hp0 b1 b3 b4 b5;rw [show ar 4=some 2 by decide,AB5] at b1
  obtain ⟨a',b',rfl⟩:=Ml b1.symm;obtain ⟨⟨g1,g2⟩,_,g3⟩:=b5 1 b' (by decide) rfl;simp only [List.getElem?_cons_succ,List.getElem?_cons_zero,AB5,RV.clo,RV.mk.injEq,true_and] at g3;obtain ⟨rfl,rfl⟩:=g3;rw [hVo,if_pos rfl,hVk] at h;simp only [List.getElem?_cons_succ,List.getElem?_cons_zero] at h;rw [show (RV.node 4 m0 [va,RV.clo env b]).op=4 from rfl,if_pos rfl] at h
  split at h
  ·rw [show (RV.node 4 m0 [va,RV.clo env b]).k[1]?=some (RV.clo env b) from rfl] at h
   simp only at h;split at h
   ·cases h
   rw [show (RV.clo env b).env=env from rfl,show (RV.clo env b).b=b from rfl] at h
   obtain ⟨k2,c2,u2,T2,d1,d2,d3,d4⟩:=Qf (ih f (by omega)) (l:=[px]) (l':=[vx]) b6 rfl (by
    intro i p r hp hr
    match i with
    | 0=>simp only [List.getElem?_cons_zero,AB5] at hp hr;subst hp hr;exact rx
    | i+1=>simp at hp) g1 g2 h
   obtain ⟨w2,y1,F2,y2⟩:=Yz (op:=4) (n:=m0) (n':=n') (ps:=kp) (ts:=[a',b]) (i:=1) (b:=b) (l:=[px]) rfl (by simp) d4;have hd:=Tt d2;have hdp:=d2.p;have hiw:b.wt<=Tm.innL 5 0 [.mk 4 m0 [a,b],x]:=by
    simp only [Tm.innL,Tm.inn];rw [if_neg (show ¬ 0<Ae 5 0 by decide),if_neg (show ¬ 0<Ae 4 0 by decide),if_pos (show 0<Ae 4 (0+1) by decide)]
    omega
   refine ⟨k1+(k2+1),1+(c1+c2),u1+u2,1+(T1+(1+T2)),by omega,⟨?_,by omega,Nat.le_trans (Nat.add_le_add_left (Ys _ _) _) (by omega),fun h=>by omega⟩,by omega,w2,y1,DP h1 (by simp) q11 (Hb (k:=k2) (T:=T2) hrule (Mx y1) ⟨F2+1,fun g hg m hm=>?_⟩)⟩
   ·rw [Tm.surf,Tm.inn];have e1:(k1+(k2+1)) * Tm.innL 5 0 [.mk 4 m0 [a,b],x]=k1 * Tm.innL 5 0 [.mk 4 m0 [a,b],x]+(k2+1) * Tm.innL 5 0 [.mk 4 m0 [a,b],x]:=by rw [Nat.add_mul]
    have e2:(k2+1) * b.wt<=(k2+1) * Tm.innL 5 0 [.mk 4 m0 [a,b],x]:=Nat.mul_le_mul_left _ hiw;omega
   ·obtain ⟨g,rfl⟩:=psc g (by omega);rw [hp0,Ay1,if_pos rfl];exact y2 g (by omega) m hm
  ·simp at h
 by_cases h89:op=8\/op=9
 ·obtain ⟨m0,a,x,y,rfl⟩:=hgn.2.2.2.2.1 h89;obtain ⟨v0,rfl⟩:=Cs q6;obtain ⟨p0,rfl⟩:=Cs q7;have hb0:Ae op 0=0:=by rcases h89 with rfl | rfl<;>decide
  obtain ⟨t1,t2,hv0⟩:=q10 0 _ v0 rfl hb0 rfl;obtain ⟨va,vx,vy,rfl⟩:=Anr hv0;have r0:=q9 0 p0 _ hb0 rfl rfl;obtain ⟨n',kp,ts,e0,env0,hp0,b1,b2,b3,b4,b5,b6⟩:=I2 r0 (by simp [RV.node,RV.op]);simp only [RV.node,RV.op,RV.n,RV.k] at hp0 b1 b3 b4 b5;rw [show ar 7=some 3 by decide,AB5] at b1
  obtain ⟨pa,px,py,rfl⟩:=Arj (b2.trans b1.symm);have rx:=b4 1 px vx (by decide) rfl rfl;have ry:=b4 2 py vy (by decide) rfl rfl;rw [hVo,if_neg h5,if_pos h89,hVk] at h;simp only [List.getElem?_cons_zero] at h;rw [show (RV.node 7 m0 [va,vx,vy]).op=7 from rfl,if_pos rfl] at h
  split at h
  ·obtain ⟨w',hw',hvv⟩:∃w',w'=(if op=8 then px else py)/\Rel B w' v/\s'=s1+1:=by
    rcases h89 with rfl | rfl
    ·rw [show (RV.node 7 m0 [va,vx,vy]).k[(1+8 - 8:Int).toNat]?=some vx from rfl] at h
     simp only [AB8,AB5,AB6] at h;obtain ⟨rfl,rfl,_⟩:=h;exact ⟨px,rfl,rx,rfl⟩
    ·rw [show (RV.node 7 m0 [va,vx,vy]).k[(1+9 - 8:Int).toNat]?=some vy from rfl] at h
     simp only [AB8,AB5,AB6] at h;obtain ⟨rfl,rfl,_⟩:=h;exact ⟨py,rfl,ry,rfl⟩
   obtain ⟨hrel,rfl⟩:=hvv;refine ⟨k1+1,1+c1,u1,1+(T1+1),by omega,⟨?_,by omega,Nat.le_trans (Nat.add_le_add_left (Ys _ _) _) (by omega),fun h=>by omega⟩,by omega,w',hrel,DP h1 (by simp) q11 (Hb (k:=0) (T:=0) hrule (Mx hrel) ⟨1,fun g hg m hm=>?_⟩)⟩
   ·rw [Tm.surf,Tm.inn,Nat.add_mul];omega
   ·obtain ⟨g,rfl⟩:=psc g (by omega);rw [hp0,AwW _ _ _ h89,QZ hm.e,hw']
  ·simp at h
 by_cases h30:op=30
 ·subst h30;rw [show ar 30=some 1 by decide,AB5] at har
  obtain ⟨x,rfl⟩:=Cs har.symm;obtain ⟨v0,rfl⟩:=Cs q6;obtain ⟨p0,rfl⟩:=Cs q7;have r0:=q9 0 p0 v0 (by decide) rfl rfl;have hx:=hgn.2.2.2.2.2.2.1 rfl x (by simp);rw [hVo,if_neg h5,if_neg h89,if_pos rfl,hVk] at h;simp only [List.getElem?_cons_zero] at h;simp only [HA] at q3;rw [if_neg (by decide)] at q3;by_cases h19:v0.op=19
  ·rw [if_pos h19] at h;obtain ⟨n',kp,ts,e0,env0,hp0,b1,b2,b3,b4,b5,b6⟩:=I2 r0 (by rw [h19];decide);rw [h19,show ar 19=some 1 by decide,AB5] at b1
   obtain ⟨y,hy⟩:=Cs (b3.trans b1.symm);obtain ⟨py,rfl⟩:=Cs (b2.trans b1.symm);have ry:=b4 0 py y (by rw [h19];decide) rfl (by rw [hy];rfl);rw [hy] at h;simp only [List.getElem?_cons_zero,AB8] at h;split at h
   ·simp only [AB5,AB6] at h;obtain ⟨rfl,rfl,_⟩:=h;refine ⟨k1+1,1+c1,u1,1+(T1+1),by omega,⟨?_,by omega,Nat.le_trans (Nat.add_le_add_left (Ys _ _) _) (by omega),fun h=>by omega⟩,by omega,py,ry,DP h1 (by simp) q11 (Hb (k:=0) (T:=0) hrule (Mx ry) ⟨1,fun g hg m hm=>?_⟩)⟩
    ·rw [Tm.surf,Tm.inn,Nat.add_mul];omega
    ·obtain ⟨g,rfl⟩:=psc g (by omega);rw [hp0,h19,Aw4,QZ hm.e]
   ·simp at h
  ·rw [if_neg h19] at h;simp only [AB5,AB6] at h;obtain ⟨rfl,rfl,_⟩:=h;obtain ⟨o0,n0,k0,t0,e0,hp0,ho0,_⟩:=PB r0;have hns:2<=sl x v0:=by
    unfold sl;rw [if_neg (fun h=>h19 h.2),if_neg (fun h=>hx h.1)];split<;>omega
   have hn0:sl (.mk 30 n [x]) V=0:=by
    unfold sl;rw [if_neg (by simp [Tm.op]),if_pos ⟨rfl,hVo⟩]
   refine ⟨k1,1+c1,u1+1,1+(T1+1),q1,⟨?_,by omega,by rw [hn0];omega,fun h=>?_⟩,by omega,_,hnode,DP (kh:=0) h1 (by simp) q11 (Qt hrule ⟨1,fun g hg m=>?_⟩)⟩
   ·rw [Tm.surf,Tm.inn];omega
   ·have:=q4 h;rw [Tm.surf,hVz];omega
   ·obtain ⟨g,rfl⟩:=psc g (by omega);rw [hp0,AuE _ _ _ _ _ _ _ _ _ _ (by rw [<- ho0];exact h19)]
 by_cases h19:op=19
 ·subst h19;rw [show ar 19=some 1 by decide,AB5] at har
  obtain ⟨x,rfl⟩:=Cs har.symm;obtain ⟨v0,rfl⟩:=Cs q6;obtain ⟨p0,rfl⟩:=Cs q7;have r0:=q9 0 p0 v0 (by decide) rfl rfl;have hx:=hgn.2.2.2.2.2.1 rfl x (by simp);rw [hVo,if_neg h5,if_neg h89,if_neg h30,if_pos rfl,hVk] at h;simp only [List.getElem?_cons_zero] at h;simp only [HA] at q3;rw [if_neg (by decide)] at q3;by_cases hv30:v0.op=30
  ·rw [if_pos hv30] at h;obtain ⟨n',kp,ts,e0,env0,hp0,b1,b2,b3,b4,b5,b6⟩:=I2 r0 (by rw [hv30];decide);rw [hv30,show ar 30=some 1 by decide,AB5] at b1
   obtain ⟨y,hy⟩:=Cs (b3.trans b1.symm);obtain ⟨py,rfl⟩:=Cs (b2.trans b1.symm);have ry:=b4 0 py y (by rw [hv30];decide) rfl (by rw [hy];rfl);rw [hy] at h;simp only [List.getElem?_cons_zero,AB8] at h;split at h
   ·simp only [AB5,AB6] at h;obtain ⟨rfl,rfl,_⟩:=h;refine ⟨k1+1,1+c1,u1,1+(T1+1),by omega,⟨?_,by omega,Nat.le_trans (Nat.add_le_add_left (Ys _ _) _) (by omega),fun h=>by omega⟩,by omega,py,ry,DP h1 (by simp) q11 (Hb (k:=0) (T:=0) hrule (Mx ry) ⟨1,fun g hg m hm=>?_⟩)⟩
    ·rw [Tm.surf,Tm.inn,Nat.add_mul];omega
    ·obtain ⟨g,rfl⟩:=psc g (by omega);rw [hp0,hv30,Axt,QZ hm.e]
   ·simp at h
  ·rw [if_neg hv30] at h;simp only [AB5,AB6] at h;obtain ⟨rfl,rfl,_⟩:=h;obtain ⟨o0,n0,k0,t0,e0,hp0,ho0,_⟩:=PB r0;have hns:sl x v0=3:=by
    unfold sl;rw [if_neg (fun h=>hx.1 h.1),if_neg (fun h=>hv30 h.2),if_neg (fun h=>hx.2 (AnQ h))]
   have hn0:sl (.mk 19 n [x]) V=1:=by
    unfold sl;rw [if_pos ⟨rfl,hVo⟩]
   refine ⟨k1,1+c1,u1+1,1+(T1+1),q1,⟨?_,by omega,by rw [hn0];omega,fun h=>?_⟩,by omega,_,hnode,DP (kh:=0) h1 (by simp) q11 (Qt hrule ⟨1,fun g hg m=>?_⟩)⟩
   ·rw [Tm.surf,Tm.inn];omega
   ·have:=q4 h;rw [Tm.surf,hVz];omega
   ·obtain ⟨g,rfl⟩:=psc g (by omega);rw [hp0,AsV _ _ _ _ _ _ _ _ _ _ (by rw [<- ho0];exact hv30)]
 have h13:op=13:=by omega
 subst h13;rw [show ar 13=some 4 by decide,AB5] at har
 obtain ⟨b0,z,b2,nn,rfl⟩:=Nd har.symm;obtain ⟨w0,vz,w2,vn,rfl⟩:=Nd q6;obtain ⟨p0,pz,p2,pn,rfl⟩:=Nd q7;obtain ⟨x0,y0⟩:=q8 0 b0 rfl (by decide);obtain ⟨x2,y2⟩:=q8 2 b2 rfl (by decide);simp only [List.getElem?_cons_succ,List.getElem?_cons_zero,AB5] at x0 y0 x2 y2;subst x0 y0 x2 y2;have rz:=q9 1 pz vz (by decide) rfl rfl;have rn:=q9 3 pn vn (by decide) rfl rfl;have hgd:=hgn.2.2.2.2.2.2.2 rfl b0 z b2 nn rfl;have hn0:=hgn.2.2.1 rfl;simp only [Tm.goodL,and_true] at hgl;simp only [Tm.wtL] at hw;rw [hV] at h00 hnode;obtain ⟨kr,cr,ur,Tr,a1,a2,a3,a4,a5,w',a6,a7⟩:=ApX (f+1) (fun g hg=>ih g (by omega)) s1 n n env b0 b2 vz vn v s' e pz pn n [b0,z,b2,nn] h00 rz rn he rfl hgl.2.2.1 (by omega) (fun _=>hnode) (by
  intro px vx hx;rw [hn0];refine .node 13 0 0 [.nil,pz,.nil,px] [.clo env b0,vz,.clo env b2,vx] [b0,z,b2,nn] e env (by decide) (show ar 13=some 4 by decide) rfl rfl ?_ ?_ he.1 he.2
  ·intro i p r hb hp hr
   match i with
   | 0=>exact absurd hb (by decide)
   | 1=>simp only [List.getElem?_cons_succ,List.getElem?_cons_zero,AB5] at hp hr;subst hp hr;exact rz
   | 2=>exact absurd hb (by decide)
   | 3=>simp only [List.getElem?_cons_succ,List.getElem?_cons_zero,AB5] at hp hr;subst hp hr;exact hx
   | i+4=>simp at hp
  ·intro i b hb hi
   match i with
   | 0=>simp only [List.getElem?_cons_zero,AB5] at hi;subst hi;exact ⟨⟨hgl.1,by omega⟩,rfl,rfl⟩
   | 1=>exact absurd hb (by decide)
   | 2=>simp only [List.getElem?_cons_succ,List.getElem?_cons_zero,AB5] at hi;subst hi;exact ⟨⟨hgl.2.2.1,by omega⟩,rfl,rfl⟩
   | 3=>exact absurd hb (by decide)
   | i+4=>simp at hi)
 have hiw:b2.wt<=Tm.innL 13 0 [b0,z,b2,nn]:=by
  simp only [Tm.innL];rw [if_pos (by decide),if_neg (by decide),if_pos (by decide),if_neg (by decide)];omega
 have hsl:HA 13 0 [b0,z,b2,nn] [.clo env b0,vz,.clo env b2,vn]=sl z vz+sl nn vn:=by
  simp only [HA];rw [if_pos (show 0<Ae 13 0 by decide),if_neg (show ¬ 0<Ae 13 (0+1) by decide),if_pos (show 0<Ae 13 (0+1+1) by decide),if_neg (show ¬ 0<Ae 13 (0+1+1+1) by decide)]
  omega
 have hsn:sl nn vn=3:=by
  unfold sl;rw [if_neg (fun h=>hgd.2.1.1 h.1),if_neg (fun h=>hgd.2.1.2 h.1),if_neg (by rw [hgd.2.2];decide)]
 have hsz:1<=sl z vz:=by
  unfold sl;split
  ·omega
  ·rw [if_neg (fun h=>hgd.1 h.1)];split<;>omega
 have hst:sl (.mk 13 n [b0,z,b2,nn]) V+2<=sl z vz+sl nn vn:=by
  have e1:sl (.mk 13 n [b0,z,b2,nn]) V=if (Tm.mk 13 n [b0,z,b2,nn]).badR=true then 2 else 3:=by
   unfold sl;rw [if_neg (by simp [Tm.op]),if_neg (by simp [Tm.op])]
  rw [e1];split
  ·omega
  ·rename_i hnb;have hb:¬ (z.op=19\/z.badR=true):=by
    intro h;apply hnb;rw [Tm.badR];simpa using h
   have:sl z vz=3:=by
    unfold sl;rw [if_neg (fun h=>hb (.inl h.1)),if_neg (fun h=>hgd.1 h.1),if_neg (fun h=>hb (.inr h))]
   omega
 have hle:1+(c1+cr)<=(Tm.mk 13 n [b0,z,b2,nn]).surf+(k1+kr) * (Tm.mk 13 n [b0,z,b2,nn]).inn:=by
  rw [Tm.surf,Tm.inn,Nat.add_mul];have e2:kr * b2.wt<=kr * Tm.innL 13 0 [b0,z,b2,nn]:=Nat.mul_le_mul_left _ hiw;omega
 by_cases hk0:kr=0
 ·obtain ⟨z1,z2,z3⟩:=a5 hk0;subst hk0 z1 z2;rw [if_pos rfl] at a4;refine ⟨k1+0,1+(c1+0),u1+1,1+(T1+Tr),by omega,⟨hle,by omega,by rw [z3,<- hV];omega,fun h=>?_⟩,by omega,w',a6,DP h1 (by simp) q11 a7⟩
  have:=q4 (by omega)
  rw [z3,<- hV,Tm.surf,hVz];omega
 ·rw [if_neg hk0] at a4;exact ⟨k1+kr,1+(c1+cr),u1+ur,1+(T1+Tr),by omega,⟨hle,by omega,Nat.le_trans (Nat.add_le_add_left (Ys _ _) _) (by omega),fun h=>by omega⟩,by omega,w',a6,DP h1 (by simp) q11 a7⟩
theorem Uq {f:Nat} (op:Int) (env:List RV) (ih:∀s t v s',AB f s 0 t env=some (v,s',0)->s<=1000->s'<=1000):∀(l:List Tm) (i:Nat) (s:Int) (vs:List RV) (s':Int),AW (fun s e t=>AB f s e t env) op env i l s 0=some (vs,s',0)->s<=1000->s'<=1000
 | [],i,s,vs,s',h,hs=>by
  simp only [AW,AB5,AB6] at h;omega
 | t::l,i,s,vs,s',h,hs=>by
  simp only [AW] at h;split at h
  ·cases hk:AW (fun s e t=>AB f s e t env) op env (i+1) l s 0 with
   | none=>rw [hk] at h;cases h
   | some q =>
    obtain ⟨vs1,s1,e1⟩:=q;rw [hk] at h;simp only [AB8,AB5,AB6] at h;obtain ⟨_,rfl,rfl⟩:=h;exact Uq op env ih l _ _ _ _ hk hs
  ·split at h
   ·cases h
   ·rename_i v s1 e1 he;cases hk:AW (fun s e t=>AB f s e t env) op env (i+1) l s1 e1 with
    | none=>rw [hk] at h;cases h
    | some q =>
     obtain ⟨vs2,s2,e2⟩:=q;rw [hk] at h;simp only [AB8,AB5,AB6] at h;obtain ⟨_,rfl,rfl⟩:=h;have h0:=Hg _ (fun s e t v s' h=>Cy h) op env l _ _ _ _ _ hk;subst h0;exact Uq op env ih l _ _ _ _ hk (ih _ _ _ _ he hs)
theorem AqM:∀f,(
           ∀s t env v s',AB f s 0 t env=some (v,s',0)->s<=1000->s'<=1000)/\(∀s v w s',headR f s 0 v=some (w,s',0)->s<=1000->s'<=1000):=by
 intro f
 induction f with
 | zero=>exact ⟨(by intro s t env v s' h;rw [AB] at h;cases h),(by intro s v w s' h;rw [headR] at h;cases h)⟩
 | succ f ih =>
  refine ⟨?_,?_⟩
  ·intro s t env v s' h hs;obtain ⟨op,n,ks⟩:=t;rw [AB] at h;rw [if_neg (by simp)] at h;split at h
   ·cases h
   split at h
   ·split at h
    ·split at h
     ·cases hr:env[((env.length:Int) - 1 - n).toNat]? with
      | none=>rw [hr] at h;cases h
      | some r =>
       rw [hr] at h;simp only [AB8,AB5,AB6] at h;omega
     ·cases h
    ·split at h
     ·simp only [AB5,AB6] at h;omega
     ·cases h
   split at h
   ·cases h
   split at h
   ·cases h
   split at h
   ·cases h
   rename_i vs s1 e1 hk;have he:=Iq h;subst he;exact ih.2 _ _ _ _ h (Uq op env (fun s t v s'=>ih.1 s t env v s') ks _ _ _ _ hk hs)
  ·intro s v w s' h hs;rw [headR] at h;rw [if_neg (by simp)] at h;split at h
   ·cases h
   split at h
   ·split at h
    ·cases h
    ·split at h
     ·split at h
      ·split at h
       ·split at h
        ·cases h
        ·exact ih.1 _ _ _ _ _ h (by omega)
       ·cases h
      ·simp at h
     ·simp only [AB5,AB6] at h;omega
   split at h
   ·split at h
    ·cases h
    ·rename_i k0 _;split at h
     ·split at h
      ·cases hx:k0.k[(1+v.op - 8).toNat]? with
       | none=>rw [hx] at h;cases h
       | some x=>rw [hx] at h;simp only [AB8,AB5,AB6] at h;omega
      ·simp at h
     ·simp only [AB5,AB6] at h;omega
   split at h
   ·split at h
    ·cases h
    ·rename_i k0 _;split at h
     ·split at h
      ·cases hx:k0.k[0]? with
       | none=>rw [hx] at h;cases h
       | some x=>rw [hx] at h;simp only [AB8,AB5,AB6] at h;omega
      ·simp at h
     ·simp only [AB5,AB6] at h;omega
   split at h
   ·split at h
    ·cases h
    ·rename_i k0 _;split at h
     ·split at h
      ·cases hx:k0.k[0]? with
       | none=>rw [hx] at h;cases h
       | some x=>rw [hx] at h;simp only [AB8,AB5,AB6] at h;omega
      ·simp at h
     ·simp only [AB5,AB6] at h;omega
   split at h
   ·split at h
    ·split at h
     ·split at h
      ·simp only [AB5,AB6] at h;omega
      ·simp at h
     ·split at h
      ·split at h
       ·split at h
        ·cases h
        ·split at h
         ·cases h
         ·rename_i vh s2 e2 hh;split at h
          ·cases h
          ·have he:=Cy h;subst he;exact ih.1 _ _ _ _ _ h (ih.2 _ _ _ _ hh (by omega))
       ·simp at h
      ·simp only [AB5,AB6] at h;omega
    ·cases h
   ·simp only [AB5,AB6] at h;omega
theorem Me {f:Nat} {op u d:Int}:∀(l:List RV) (i:Nat) (s nd e:Int) (ts:List Tm) (s' nd':Int),Ba (fun s nd e k u=>AL f s nd e k u d) f op u i l s nd e=some (ts,s',nd',0)->e=0
 | [],i,s,nd,e,ts,s',nd',h=>by
  simp only [Ba,AB5,AB6] at h;exact h.2.2.2
 | k::l,i,s,nd,e,ts,s',nd',h=>by
  simp only [Ba] at h;split at h
  ·cases h
  rename_i k1 s1 e1 hk;split at h
  ·cases h
  rename_i t s2 nd2 e2 hr;cases hrest:Ba (fun s nd e k u=>AL f s nd e k u d) f op u (i+1) l s2 nd2 e2 with
  | none=>rw [hrest] at h;cases h
  | some q =>
   obtain ⟨ts2,s3,nd3,e3⟩:=q;rw [hrest] at h;simp only [AB8,AB5,AB6] at h;obtain ⟨_,_,_,rfl⟩:=h
   have:=Me l _ _ _ _ _ _ _ hrest
   subst this
   have:=Dx hr
   subst this;split at hk
   ·split at hk
    ·cases hk
    ·exact Cy hk
   ·simp only [AB5,AB6] at hk;exact hk.2.2
def Aqs (B f:Nat):Prop:=∀(s nd:Int) (v:RV) (u d:Int) (t:Tm) (s' nd':Int),AL f s nd 0 v u d=some (t,s',nd',0)->0<=nd->∀v',Rel B v' v->∃k c uu T N:Nat,s'=s+k/\nd'=nd+N/\nd'<=3000/\(s<=1000->s'<=1000)/\c+v.vsz<=N+B * k/\5 * uu<=3 * c+10 * k/\T<=N+c+uu+2 * k /\
 ∃F,∀g,F<=g->∀m,MOk m k T->V6 g v' u d m nd=some (t,G4 m k T,nd')
theorem ArC {B:Nat} (u:Int) (b:Nat):∀(i:Nat) p r,(Vo u b)[i]?=some p->(Fo u b)[i]?=some r->Rel B p r:=by
 intro i p r hp hr;rw [Vo,List.getElem?_map] at hp;rw [Fo,List.getElem?_map] at hr;cases hx:(List.range b)[i]? with
 | none=>rw [hx] at hp;cases hp
 | some j =>
  rw [hx] at hp hr;simp only [AB8,AB5] at hp hr;subst hp hr;exact .var _
theorem XM {B f:Nat} (ih:Aqs B f) (op u d n n':Int) (kp0:List PV) (ts:List Tm) (e:List PV) (env:List RV) (he:GU B e env):∀(l:List RV) (lp:List PV) (i:Nat) (s nd:Int) (rs:List Tm) (s' nd':Int),Ba (fun s nd e k u=>AL f s nd e k u (d+1)) f op u i l s nd 0=some (rs,s',nd',0)->0<=nd->nd<=3000->lp.length=l.length ->
  (∀j p r,Ae op (i+j)=0->lp[j]?=some p->l[j]?=some r->Rel B p r)->(∀j r,0<Ae op (i+j)->l[j]?=some r->∃b,ts[i+j]?=some b/\b.good/\b.wt<=B/\r=.clo env b) ->
  ∃k c uu T N:Nat,s'=s+k/\nd'=nd+N/\nd'<=3000/\(s<=1000->s'<=1000)/\c+RV.vszL op i l<=N+B * k/\5 * uu<=3 * c+10 * k/\T<=N+c+uu+2 * k /\
   ∃F,∀g,F<=g->∀m,MOk m k T->bkK (fun v below m r=>V6 g v below (d+1) m r) (fun i l m=>opP g (.mk op n kp0 (.mk op n' ts) e) i l m) op u i lp m nd=some (some rs,G4 m k T,nd')
 | [],lp,i,s,nd,rs,s',nd',h,h0,h3,hl,_,_=>by
  simp only [Ba,AB5,AB6] at h;obtain ⟨rfl,rfl,rfl,_⟩:=h
  have:lp=[]:=List.eq_nil_of_length_eq_zero hl
  subst this;refine ⟨0,0,0,0,0,by omega,by omega,h3,id,by simp [RV.vszL],by omega,by omega,0,fun g _ m hm=>?_⟩;rw [bkK,QZ hm.e]
 | k::l,lp,i,s,nd,rs,s',nd',h,h0,h3,hl,hA,hB=>by
  obtain ⟨p,lp,rfl⟩:∃p lp',lp=p::lp':=by
   cases lp with
   | nil=>cases hl
   | cons p lp=>exact ⟨p,lp,rfl⟩
  simp only [Ba] at h;split at h
  ·cases h
  rename_i k1 s1 e1 hk;split at h
  ·cases h
  rename_i t s2 nd2 e2 hr;cases hrest:Ba (fun s nd e k u=>AL f s nd e k u (d+1)) f op u (i+1) l s2 nd2 e2 with
  | none=>rw [hrest] at h;cases h
  | some q =>
  obtain ⟨ts2,s3,nd3,e3⟩:=q;rw [hrest] at h;simp only [AB8,AB5,AB6] at h;obtain ⟨rfl,rfl,rfl,rfl⟩:=h;have h2:=Me l _ _ _ _ _ _ _ hrest;subst h2;have h1:=Dx hr;subst h1;have hA':∀j p r,Ae op (i+1+j)=0->lp[j]?=some p->l[j]?=some r->Rel B p r:=fun j p r a b c=>hA (j+1) p r (by rwa [show i+(j+1)=i+1+j by omega]) b c
  have hB':∀j r,0<Ae op (i+1+j)->l[j]?=some r->∃b,ts[i+1+j]?=some b/\b.good/\b.wt<=B/\r=.clo env b:=fun j r a b=>by
   obtain ⟨x,y⟩:=hB (j+1) r (by rwa [show i+(j+1)=i+1+j by omega]) b
   exact ⟨x,by rwa [show i+1+j=i+(j+1) by omega]⟩
  by_cases hb:0<Ae op i
  ·rw [if_pos hb] at hk;split at hk
   ·cases hk
   obtain ⟨b,hb1,hb2,hb3,rfl⟩:=hB 0 k (by simpa using hb) rfl;rw [Nat.add_zero] at hb1;rw [show (RV.clo env b).env=env from rfl,show (RV.clo env b).b=b from rfl] at hk
   have hb22:=Bo op i;obtain ⟨ke,ce,ue,Te,d1,d2,d3,d4⟩:=Qf (VC B f) (l:=Vo u (Ae op i)) (l':=Fo u (Ae op i)) he (by rw [K5,B1]) (ArC u _) hb2 hb3 hk;obtain ⟨w1,y1,F1,y2⟩:=Yz (op:=op) (n:=n) (n':=n') (ps:=kp0) hb1 (by rw [K5];exact hb22) d4;have hsle:=(AqM f).1 _ _ _ _ _ hk;obtain ⟨kr,cr,ur,Tr,Nr,r1,r2,r3,r4,r5,r6,r7,F2,r8⟩:=ih s1 nd k1 _ _ t s2 nd2 hr h0 w1 y1;obtain ⟨kk,cc,uu,TT,NN,q1,q2,q3,q4,q5,q6,q7,F3,q8⟩:=XM ih op u d n n' kp0 ts e env he l lp (i+1) s2 nd2 ts2 s3 nd3 hrest (by omega) (by omega) (by simpa using hl) hA' hB';have hde:=d2.le;have hdp:=d2.p;have hsi:=Qu b;refine ⟨ke+(kr+kk),ce+(cr+cc),ue+(ur+uu),Te+(Tr+TT),Nr+NN,by omega,by omega,q3,fun h=>q4 (r4 (hsle h)),?_,by omega,by omega,F1+F2+F3,fun g hg m hm=>?_⟩
   ·rw [RV.vszL,if_pos hb,Nat.mul_add,Nat.mul_add];have hce:ce<=k1.vsz+B * ke:=by
     cases hke:ke with
     | zero =>
      have:=d2.v hke
      rw [hke] at hde;omega
     | succ k' =>
      rw [hke] at hde;have e1:(k'+1) * b.wt<=(k'+1) * B:=Nat.mul_le_mul_left _ hb3;have e2:(k'+1) * b.wt=(k'+1) * b.surf+(k'+1) * b.inn:=by rw [<- hsi,Nat.mul_add]
      have e3:b.surf<=(k'+1) * b.surf:=Nat.le_mul_of_pos_left _ (by omega);rw [Nat.mul_comm B];omega
    omega
   ·rw [bkK,if_pos hb,y2 g (by omega) m (Pz hm)];have hm2:=JQ hm;simp only;rw [if_neg (by simp [G4]),r8 g (by omega) _ (Pz hm2)];simp only;rw [q8 g (by omega) _ (JQ hm2),FE,FE];simp only [AB8]
  ·rw [if_neg hb] at hk;simp only [AB5,AB6] at hk;obtain ⟨rfl,rfl,_⟩:=hk;have hb0:Ae op i=0:=by omega
   have hrel:=hA 0 p k (by simpa using hb0) rfl rfl;obtain ⟨kr,cr,ur,Tr,Nr,r1,r2,r3,r4,r5,r6,r7,F2,r8⟩:=ih s nd k _ _ t s2 nd2 hr h0 p hrel;obtain ⟨kk,cc,uu,TT,NN,q1,q2,q3,q4,q5,q6,q7,F3,q8⟩:=XM ih op u d n n' kp0 ts e env he l lp (i+1) s2 nd2 ts2 s3 nd3 hrest (by omega) (by omega) (by simpa using hl) hA' hB';refine ⟨kr+kk,cr+cc,ur+uu,Tr+TT,Nr+NN,by omega,by omega,q3,fun h=>q4 (r4 h),?_,by omega,by omega,F2+F3,fun g hg m hm=>?_⟩
   ·rw [RV.vszL,if_neg hb,Nat.mul_add];omega
   ·rw [bkK,if_neg hb];simp only;rw [if_neg (fun h=>h hm.e),r8 g (by omega) _ (Pz hm)];simp only;rw [q8 g (by omega) _ (JQ hm),FE];simp only [AB8]
theorem Ani (B:Nat):∀f,Aqs B f:=by
 intro f
 induction f with
 | zero=>intro s nd v u d t s' nd' h;rw [AL] at h;cases h
 | succ f ih =>
  intro s nd v u d t s' nd' h h0 v' hv;rw [AL] at h;split at h
  ·cases h
  rename_i hr;by_cases hbig:3000<nd+1\/120<d
  ·rw [if_pos (show (0:Int)=0/\(3000<nd+1\/120<d) from ⟨rfl,hbig⟩)] at h
   simp at h
  rw [if_neg (show ¬ ((0:Int)=0/\(3000<nd+1\/120<d)) from fun h=>hbig h.2),if_neg (by simp)] at h
  have htick:∀{m:M3} {k T:Nat},MOk m k (1+T)->Ia ⟨m.s,m.w,if m.e=0/\(3000<nd+1\/120<d) then 5 else m.e⟩=some (G4 m 0 1):=by
   intro m k T hm;rw [if_neg (fun h=>hbig h.2)];exact Qj hm
  by_cases h1:v.op=1
  ·rw [if_pos h1] at h;simp only [AB5,AB6] at h;obtain ⟨rfl,rfl,rfl,_⟩:=h;obtain ⟨op,n,k,t0,e0,rfl,ho,hn⟩:=PB hv;have hvz:v.vsz=1:=by
    cases hv with
    | var n=>simp [RV.var,RV.vsz,RV.vszL]
    | node op n n' kp kr ts e env h1'=>exact absurd h1 h1'
   refine ⟨0,0,0,1,1,by omega,by omega,by omega,id,by omega,by omega,by omega,1,fun g hg m hm=>?_⟩;obtain ⟨g,rfl⟩:=psc g (by omega);rw [V6,if_neg (by omega),htick (k:=0) (T:=0) hm];simp only;rw [if_neg (by simp [G4]),if_pos (by rw [<- ho];exact h1),if_neg (by rw [<- hn];omega),hn]
  ·rw [if_neg h1] at h;obtain ⟨n',kp,ts,e,env,rfl,b1,b2,b3,b4,b5,b6⟩:=I2 hv h1;have b14:=Al5 b1;cases hk:Ba (fun s nd e k u=>AL f s nd e k u (d+1)) f v.op u 0 v.k s (nd+1) 0 with
   | none=>rw [hk] at h;cases h
   | some q =>
   obtain ⟨rs,s1,nd1,e1⟩:=q;rw [hk] at h;simp only [AB8,AB5,AB6] at h;obtain ⟨rfl,rfl,rfl,rfl⟩:=h;obtain ⟨kk,cc,uu,TT,NN,q1,q2,q3,q4,q5,q6,q7,F3,q8⟩:=XM ih v.op u d v.n n' kp ts e env b6 v.k kp 0 s (nd+1) rs s1 nd1 hk (by omega) (by omega) (by omega) (fun j p r a b c=>b4 j p r (by simpa using a) b c) (by
    intro j r a b;rw [Nat.zero_add] at a ⊢;have hj:j<ts.length:=by
     have:=(List.getElem?_eq_some_iff.1 b).1
     omega
    obtain ⟨⟨g1,g2⟩,_,g3⟩:=b5 j ts[j] a (List.getElem?_eq_getElem hj);rw [b,AB5] at g3;exact ⟨ts[j],List.getElem?_eq_getElem hj,g1,g2,g3⟩)
   have hvz:v.vsz=1+RV.vszL v.op 0 v.k:=by obtain ⟨a,b,c,d,e⟩:=v;rw [RV.vsz];rfl
   refine ⟨kk,cc,uu,1+TT,1+NN,q1,by omega,q3,q4,by omega,by omega,by omega,F3+20,fun g hg m hm=>?_⟩;obtain ⟨g,rfl⟩:=psc g (by omega);have hm':MOk (G4 m 0 1) kk TT:=JQ (k1:=0) ⟨hm.e,hm.w,hm.w2,by have:=hm.s;omega,hm.s2⟩;rw [V6,if_neg (by omega),htick hm];simp only;rw [if_neg (by simp [G4]),if_neg h1,if_neg (by omega),q8 g (by omega) _ hm',FE];simp only [Nat.zero_add]
def AjL {f:Nat} {t u:Tm} (hg:t.good) (hw:t.wt<=3000) (hs:t.shaped=true) (h:AF f t=some (u,0)):∃F,∀g,F<=g->W8 g t=some (u,0):=by
 rw [AF] at h;split at h
 ·cases h
 rename_i v s e he;split at h
 ·cases h
 rename_i w s2 nd2 e2 hr;simp only [AB5] at h;by_cases h2:e2=0
 ·subst h2;rw [if_neg (by simp)] at h;simp only [AB6,and_true] at h;subst h;have h1:=Dx hr;subst h1;obtain ⟨k0,c0,u0,T0,a1,a2,a3,v',a4,F0,a5⟩:=VC 3000 f 0 t [] v s he hg hw [] (X6 _);obtain ⟨k1,c1,u1,T1,N,r1,r2,r3,r4,r5,r6,r7,F1,r8⟩:=Ani 3000 f s 0 v 0 1 w s2 nd2 hr (by omega) v' a4;have hs1:=(AqM f).1 _ _ _ _ _ he (by omega);have hs2:=r4 hs1;have hc:=Tt a2;have hp:=a2.p;have hk:k0+k1<=1000:=by omega
  have hc2:(k0+1) * t.wt<=(k0+1) * 3000:=Nat.mul_le_mul_left _ hw;have hvp:=Ah3 v;refine ⟨F0+F1,fun g hg=>?_⟩;have hm:MOk ⟨100000,5000000,0⟩ (k0+k1) (T0+T1):=⟨rfl,by simp only;omega,by simp,by simp only;omega,by simp⟩;rw [W8,if_neg (by rw [hs];simp),a5 g (by omega) _ (Pz hm)];simp only;rw [if_neg (by simp [G4]),r8 g (by omega) _ (JQ hm)];simp only;rw [if_neg (by simp [G4])]
 ·rw [if_pos h2] at h;simp only [AB6] at h;exact absurd h.2 h2
def AlG {t:Tm} (h:(t.chk 0 1).2=0):t.wt<=3000/\(t.chk 0 1).1=t.wt:=by
 have:=(Vq t 0 1 (by omega)).2.2 h
 omega
theorem OO:∀{l:List Tm},(∀(i:Nat) t,l[i]?=some t->t.plainP=true)->Tm.plainPL l=true
 | [],_=>rfl
 | x::l,h=>by
  rw [Tm.plainPL,h 0 x rfl,OO fun i t hi=>h (i+1) t (by simpa using hi)];rfl
theorem Aw2 {G:List Nat} {t:Tm} {s:Nat} (h:NfT G t s):(∀x∈G,x=6)->(s=6\/s=1->t.plainP=true)/\(s=0->t.op=11\/t.op=12)/\(s=3->t.op=19):=by
 induction h with
 | var G n s h0 h hs =>
  intro hG
  have:=hG s (List.mem_of_getElem? h)
  subst this;exact ⟨fun _=>by simp [Tm.plainP,Tm.plainPL,okP],by omega,by omega⟩
 | node G op n ks s sg hr hl hst hk ih =>
  intro hG;have h6:∀x∈([6]++G),x=6:=by
   intro x hx;rcases List.mem_append.1 hx with hx | hx
   ·simpa using hx
   ·exact hG x hx
  have key:okP op=true->(∀(i:Nat) bs s',sg[i]?=some (bs,s')->(bs=[]\/bs=[6])/\(s'=6\/s'=1))->(Tm.mk op n ks).plainP=true:=by
   intro ho hs;rw [Tm.plainP,ho,OO]
   ·rfl
   ·intro i t hi;have hlt:i<sg.length:=by rw [<- hl];exact (List.getElem?_eq_some_iff.1 hi).1
    have hsg:sg[i]?=some (sg[i].1,sg[i].2):=List.getElem?_eq_getElem hlt;obtain ⟨h1,h2⟩:=hs i _ _ hsg;rcases h1 with h1 | h1
    ·rw [h1] at hsg;exact (ih i t [] _ hi hsg (by simpa using hG)).1 h2
    ·rw [h1] at hsg;exact (ih i t [6] _ hi hsg h6).1 h2
  have k1:∀{i:Nat} {a b:List Nat×Nat} {bs:List Nat} {s':Nat},[a,b][i]?=some (bs,s')->(bs,s')=a\/(bs,s')=b:=by
   intro i a b bs s' h
   match i with
   | 0=>simp at h;exact .inl h.symm
   | 1=>simp at h;exact .inr h.symm
   | i+2=>simp at h
  have k0:∀{i:Nat} {a:List Nat×Nat} {bs:List Nat} {s':Nat},[a][i]?=some (bs,s')->(bs,s')=a:=by
   intro i a bs s' h
   match i with
   | 0=>simp at h;exact h.symm
   | i+1=>simp at h
  have k3:∀{i:Nat} {a b c:List Nat×Nat} {bs:List Nat} {s':Nat},[a,b,c][i]?=some (bs,s')->(bs,s')=a\/(bs,s')=b\/(bs,s')=c:=by
   intro i a b c bs s' h
   match i with
   | 0=>simp at h;exact .inl h.symm
   | 1=>simp at h;exact .inr (.inl h.symm)
   | 2=>simp at h;exact .inr (.inr h.symm)
   | i+3=>simp at h
  have two:∀{b1 b2:List Nat} {s1 s2:Nat},(b1=[]\/b1=[6])/\(s1=6\/s1=1)->(b2=[]\/b2=[6])/\(s2=6\/s2=1)->∀(i:Nat) bs s',[(b1,s1),(b2,s2)][i]?=some (bs,s')->(bs=[]\/bs=[6])/\(s'=6\/s'=1):=by
   intro b1 b2 s1 s2 h1 h2 i bs s' h;rcases k1 h with h | h<;>(simp only [AB6] at h;obtain ⟨rfl,rfl⟩:=h)
   ·exact h1
   ·exact h2
  have one:∀{b1:List Nat} {s1:Nat},(b1=[]\/b1=[6])/\(s1=6\/s1=1)->∀(i:Nat) bs s',[(b1,s1)][i]?=some (bs,s')->(bs=[]\/bs=[6])/\(s'=6\/s'=1):=by
   intro b1 s1 h1 i bs s' h;have h:=k0 h;simp only [AB6] at h;obtain ⟨rfl,rfl⟩:=h;exact h1
  have thr:∀{b1 b2 b3:List Nat} {s1 s2 s3:Nat},(b1=[]\/b1=[6])/\(s1=6\/s1=1)->(b2=[]\/b2=[6])/\(s2=6\/s2=1)->(b3=[]\/b3=[6])/\(s3=6\/s3=1)->∀(i:Nat) bs s',[(b1,s1),(b2,s2),(b3,s3)][i]?=some (bs,s')->(bs=[]\/bs=[6])/\(s'=6\/s'=1):=by
   intro b1 b2 b3 s1 s2 s3 h1 h2 h3 i bs s' h;rcases k3 h with h | h | h<;>(simp only [AB6] at h;obtain ⟨rfl,rfl⟩:=h)
   ·exact h1
   ·exact h2
   ·exact h3
  have e6:(([]:List Nat)=[]\/([]:List Nat)=[6])/\(6=6\/6=1):=by simp
  have e1:(([]:List Nat)=[]\/([]:List Nat)=[6])/\(1=6\/1=1):=by simp
  have b6:(([6]:List Nat)=[]\/([6]:List Nat)=[6])/\(6=6\/6=1):=by simp
  have nil:∀(i:Nat) bs s',([]:Mv)[i]?=some (bs,s')->(bs=[]\/bs=[6])/\(s'=6\/s'=1):=fun i bs s' h=>by simp at h
  cases hr with
  | recR _ hs =>
   obtain ⟨a,b,c,d,rfl⟩:=Nd hl;have h3:=(ih 3 d [] 0 rfl rfl (by simpa using hG)).2.1 rfl
   have:=hst.2.2 rfl d rfl
   omega
  | spl =>
   obtain ⟨a,rfl⟩:=Cs hl;have h3:=(ih 0 a [] 3 rfl rfl (by simpa using hG)).2.2 rfl;exact absurd h3 (hst.1 rfl a rfl)
  | zero=>exact ⟨by omega,fun _=>.inl rfl,by omega⟩
  | suc=>exact ⟨by omega,fun _=>.inr rfl,by omega⟩
  | quo=>exact ⟨by omega,by omega,fun _=>rfl⟩
  | tint=>exact ⟨fun _=>key rfl nil,by omega,by omega⟩
  | tfun=>exact ⟨fun _=>key rfl (two e1 e1),by omega,by omega⟩
  | tpro=>exact ⟨fun _=>key rfl (two e1 e1),by omega,by omega⟩
  | olam=>exact ⟨fun _=>key rfl (two e1 b6),by omega,by omega⟩
  | oapp=>exact ⟨fun _=>key rfl (two e6 e6),by omega,by omega⟩
  | opair=>exact ⟨fun _=>key rfl (two e6 e6),by omega,by omega⟩
  | ofst=>exact ⟨fun _=>key rfl (one e6),by omega,by omega⟩
  | osnd=>exact ⟨fun _=>key rfl (one e6),by omega,by omega⟩
  | oint=>exact ⟨fun _=>key rfl nil,by omega,by omega⟩
  | oprim=>exact ⟨fun _=>key rfl (two e6 e6),by omega,by omega⟩
  | oif=>exact ⟨fun _=>key rfl (thr e6 e6 e6),by omega,by omega⟩
  | olet=>exact ⟨fun _=>key rfl (two e6 b6),by omega,by omega⟩
  | ofix=>exact ⟨fun _=>key rfl (two e1 b6),by omega,by omega⟩
  | _=>exact ⟨by omega,by omega,by omega⟩
def Al6 {t u:Tm} {k f:Nat} (ht:HasT [] t 6) (hsc:t.sc k) (hk:k<=100) (hc:(t.chk 0 1).2=0) (hf:AF f t=some (u,0)) (hu:NOk k u):Ev 16 [.fv t.enc] (.tuple [u.enc,.int .i64 0]):=by
 have hw:=(AlG hc).1;obtain ⟨F,hF⟩:=AjL (Ajo ht k hsc (by omega)) hw (Q9 t k hsc) hf;have hp:=(Aw2 (BU hf ht) (fun x h=>by simp at h)).1 (.inl rfl);have huw:=hu.wt;exact ⟨F+100000,fun n hn'=>Al0 (f:=F) hc (hF F (Nat.le_refl _)) hp (by omega) (by omega) (by omega) (by omega)⟩
def RY {n:Nat} (hn:0<n) (x:Int) {m:Int} (h1:0<m) (h2:m<=4611686018427387904):BW (SS dt n 23 [iv x,iv m] ⟨[],[]⟩) (.int .i64 (x % m)):=by
 obtain ⟨n,rfl⟩:=Nat.exists_eq_add_of_lt hn;rw [Nat.zero_add,c23];simp only [S23,↓XX,XY,↓reduceIte,seval,↓PX (show m≠0 by omega)]
 rw [<- AlO h1 h2];by_cases hc:x.tmod m<0<;>simp only [hc,if_true,if_false]<;>exact Aw _ _
def AqV (o1 n1:Int) (k1:FV) (s:Nat) (h:Hp) (k:KT (IV×Hp)):Ay (Aj EE 28 1 [(0,.agg [.fv (.int .i64 o1),.fv (.int .i64 n1),.fv k1])]) s h k=k (.clip [.agg [.int .i64 o1,.int .i64 n1,k1]]) h [] []:=by
 have:Aj EE 28 1 [(0,.agg [.fv (.int .i64 o1),.fv (.int .i64 n1),.fv k1])]=.ret { eff:={ val:=.clip [.agg [.int .i64 o1,.int .i64 n1,k1]],upd:=[] } }:=by
  simp only [Aj,QS,tTm];rw [if_neg (by decide)];rfl
 rw [this];exact HF _ s h k
def vT (i:Nat):Tm:=.mk 1 (i:Int) []
def MI (k:Nat) (ρ:Nat->Nat):Nat->Nat:=fun i=>if i<k then i else ρ (i - k)+k
mutual
def Tm.ren:Tm->(Nat->Nat)->Tm
 | .mk op n ks,ρ=>if op=1 then (if n<0\/ks.isEmpty=false then .mk op n ks else vT (ρ n.toNat)) else .mk op n (Tm.renL op 0 ks ρ)
def Tm.renL:Int->Nat->List Tm->(Nat->Nat)->List Tm
 | _,_,[],_=>[]
 | op,i,t::l,ρ=>t.ren (MI (Ae op i) ρ)::Tm.renL op (i+1) l ρ
end
def GK (k:Nat) (σ:Nat->Tm):Nat->Tm:=fun i=>if i<k then vT i else (σ (i - k)).ren (fun j=>j+k)
mutual
def Tm.sub:Tm->(Nat->Tm)->Tm
 | .mk op n ks,σ=>if op=1 then (if n<0\/ks.isEmpty=false then .mk op n ks else σ n.toNat) else .mk op n (Tm.subL op 0 ks σ)
def Tm.subL:Int->Nat->List Tm->(Nat->Tm)->List Tm
 | _,_,[],_=>[]
 | op,i,t::l,σ=>t.sub (GK (Ae op i) σ)::Tm.subL op (i+1) l σ
end
theorem AvI (i:Nat):¬ ((i:Int)<0\/([]:List Tm).isEmpty=false):=by
 rintro (h | h)
 ·omega
 ·cases h
theorem KS (i:Nat) (ρ:Nat->Nat):(vT i).ren ρ=vT (ρ i):=by
 rw [vT,Tm.ren,if_pos rfl,if_neg (AvI i)];rfl
theorem JY (i:Nat) (σ:Nat->Tm):(vT i).sub σ=σ i:=by
 rw [vT,Tm.sub,if_pos rfl,if_neg (AvI i)];rfl
theorem Ik (op:Int) (ρ:Nat->Nat):∀(l:List Tm) (i:Nat),(Tm.renL op i l ρ).length=l.length
 | [],_=>rfl
 | _::l,i=>by simp only [Tm.renL,AB9,Ik op ρ l]
theorem L6 (op:Int) (σ:Nat->Tm):∀(l:List Tm) (i:Nat),(Tm.subL op i l σ).length=l.length
 | [],_=>rfl
 | _::l,i=>by simp only [Tm.subL,AB9,L6 op σ l]
theorem Ou (op:Int) (ρ:Nat->Nat):∀(l:List Tm) (i j:Nat),(Tm.renL op i l ρ)[j]?=(l[j]?).map fun t=>t.ren (MI (Ae op (i+j)) ρ)
 | [],_,_=>by simp [Tm.renL]
 | t::l,i,0=>by simp [Tm.renL]
 | t::l,i,j+1=>by
  simp only [Tm.renL,List.getElem?_cons_succ];rw [Ou op ρ l (i+1) j,show i+1+j=i+(j+1) by omega]
theorem Wc (op:Int) (σ:Nat->Tm):∀(l:List Tm) (i j:Nat),(Tm.subL op i l σ)[j]?=(l[j]?).map fun t=>t.sub (GK (Ae op (i+j)) σ)
 | [],_,_=>by simp [Tm.subL]
 | t::l,i,0=>by simp [Tm.subL]
 | t::l,i,j+1=>by
  simp only [Tm.subL,List.getElem?_cons_succ];rw [Wc op σ l (i+1) j,show i+1+j=i+(j+1) by omega]
theorem Mq {k:Nat} {ρ:Nat->Nat} {i:Nat} (h:i<k):MI k ρ i=i:=if_pos h
theorem J4 {k:Nat} {ρ:Nat->Nat} {i:Nat} (h:¬ i<k):MI k ρ i=ρ (i - k)+k:=if_neg h
theorem Hu {k:Nat} {σ:Nat->Tm} {i:Nat} (h:i<k):GK k σ i=vT i:=if_pos h
theorem Hr {k:Nat} {σ:Nat->Tm} {i:Nat} (h:¬ i<k):GK k σ i=(σ (i - k)).ren fun j=>j+k:=if_neg h
theorem AjV (k:Nat) (ρ ρ':Nat->Nat):(fun i=>MI k ρ' (MI k ρ i))=MI k (fun i=>ρ' (ρ i)):=by
 funext i
 by_cases h:i<k
 ·rw [Mq (ρ:=ρ) h,Mq h,Mq h]
 ·rw [J4 (ρ:=ρ) h,J4 h,J4 (by omega),Nat.add_sub_cancel]
mutual
theorem Sr:∀(t:Tm) (ρ ρ':Nat->Nat),(t.ren ρ).ren ρ'=t.ren (fun i=>ρ' (ρ i))
 | .mk op n ks,ρ,ρ'=>by
  rw [Tm.ren,Tm.ren];by_cases h:op=1
  ·rw [if_pos h,if_pos h];by_cases hn:n<0\/ks.isEmpty=false
   ·rw [if_pos hn,if_pos hn,Tm.ren,if_pos h,if_pos hn]
   ·rw [if_neg hn,if_neg hn,KS]
  ·rw [if_neg h,if_neg h,Tm.ren,if_neg h,renL_ren ks op 0 ρ ρ']
theorem renL_ren:∀(l:List Tm) (op:Int) (i:Nat) (ρ ρ':Nat->Nat),Tm.renL op i (Tm.renL op i l ρ) ρ'=Tm.renL op i l (fun i=>ρ' (ρ i))
 | [],_,_,_,_=>rfl
 | t::l,op,i,ρ,ρ'=>by simp only [Tm.renL,Sr t,AjV,renL_ren l]
end
theorem Aqa (k:Nat) (ρ:Nat->Nat) (σ:Nat->Tm):(fun i=>GK k σ (MI k ρ i))=GK k (fun i=>σ (ρ i)):=by
 funext i
 by_cases h:i<k
 ·rw [Mq h,Hu h,Hu h]
 ·rw [J4 h,Hr h,Hr (by omega),Nat.add_sub_cancel]
mutual
theorem KZ:∀(t:Tm) (ρ:Nat->Nat) (σ:Nat->Tm),(t.ren ρ).sub σ=t.sub (fun i=>σ (ρ i))
 | .mk op n ks,ρ,σ=>by
  rw [Tm.ren,Tm.sub];by_cases h:op=1
  ·rw [if_pos h,if_pos h];by_cases hn:n<0\/ks.isEmpty=false
   ·rw [if_pos hn,if_pos hn,Tm.sub,if_pos h,if_pos hn]
   ·rw [if_neg hn,if_neg hn,JY]
  ·rw [if_neg h,if_neg h,Tm.sub,if_neg h,subL_ren ks op 0 ρ σ]
theorem subL_ren:∀(l:List Tm) (op:Int) (i:Nat) (ρ:Nat->Nat) (σ:Nat->Tm),Tm.subL op i (Tm.renL op i l ρ) σ=Tm.subL op i l (fun i=>σ (ρ i))
 | [],_,_,_,_=>rfl
 | t::l,op,i,ρ,σ=>by simp only [Tm.renL,Tm.subL,KZ t,Aqa,subL_ren l]
end
theorem Ae3 (k:Nat) (σ:Nat->Tm) (ρ:Nat->Nat):(fun i=>(GK k σ i).ren (MI k ρ))=GK k (fun i=>(σ i).ren ρ):=by
 funext i
 by_cases h:i<k
 ·rw [Hu h,Hu h,KS,Mq h]
 ·rw [Hr h,Hr h,Sr,Sr];congr 1
  funext j
  rw [J4 (by omega),Nat.add_sub_cancel]
mutual
theorem KX:∀(t:Tm) (σ:Nat->Tm) (ρ:Nat->Nat),(t.sub σ).ren ρ=t.sub (fun i=>(σ i).ren ρ)
 | .mk op n ks,σ,ρ=>by
  rw [Tm.sub,Tm.sub];by_cases h:op=1
  ·rw [if_pos h,if_pos h];by_cases hn:n<0\/ks.isEmpty=false
   ·rw [if_pos hn,if_pos hn,Tm.ren,if_pos h,if_pos hn]
   ·rw [if_neg hn,if_neg hn]
  ·rw [if_neg h,if_neg h,Tm.ren,if_neg h,renL_sub ks op 0 σ ρ]
theorem renL_sub:∀(l:List Tm) (op:Int) (i:Nat) (σ:Nat->Tm) (ρ:Nat->Nat),Tm.renL op i (Tm.subL op i l σ) ρ=Tm.subL op i l (fun i=>(σ i).ren ρ)
 | [],_,_,_,_=>rfl
 | t::l,op,i,σ,ρ=>by simp only [Tm.renL,Tm.subL,KX t,Ae3,renL_sub l]
end
theorem Ao3 (k:Nat) (σ τ:Nat->Tm):(fun i=>(GK k σ i).sub (GK k τ))=GK k (fun i=>(σ i).sub τ):=by
 funext i
 by_cases h:i<k
 ·rw [Hu h,Hu h,JY,Hu h]
 ·rw [Hr h,Hr h,KZ,KX];congr 1
  funext j
  rw [Hr (by omega),Nat.add_sub_cancel]
mutual
theorem HI:∀(t:Tm) (σ τ:Nat->Tm),(t.sub σ).sub τ=t.sub (fun i=>(σ i).sub τ)
 | .mk op n ks,σ,τ=>by
  rw [Tm.sub,Tm.sub];by_cases h:op=1
  ·rw [if_pos h,if_pos h];by_cases hn:n<0\/ks.isEmpty=false
   ·rw [if_pos hn,if_pos hn,Tm.sub,if_pos h,if_pos hn]
   ·rw [if_neg hn,if_neg hn]
  ·rw [if_neg h,if_neg h,Tm.sub,if_neg h,subL_sub ks op 0 σ τ]
theorem subL_sub:∀(l:List Tm) (op:Int) (i:Nat) (σ τ:Nat->Tm),Tm.subL op i (Tm.subL op i l σ) τ=Tm.subL op i l (fun i=>(σ i).sub τ)
 | [],_,_,_,_=>rfl
 | t::l,op,i,σ,τ=>by simp only [Tm.subL,HI t,Ao3,subL_sub l]
end
theorem Axy (k:Nat):GK k vT=vT:=by
 funext i
 by_cases h:i<k
 ·rw [Hu h]
 ·rw [Hr h,KS,show i - k+k=i by omega]
theorem XB:∀(t:Tm) (ρ:Nat->Nat),t.ren ρ=t.sub (fun i=>vT (ρ i)):=by
 intro t ρ;have h:∀(k:Nat) (ρ:Nat->Nat),GK k (fun i=>vT (ρ i))=fun i=>vT (MI k ρ i):=by
  intro k ρ
  funext i
  by_cases h:i<k
  ·rw [Hu h,Mq h]
  ·rw [Hr h,J4 h,KS]
 exact go h t ρ
where
 go (
   h:∀(k:Nat) (ρ:Nat->Nat),GK k (fun i=>vT (ρ i))=fun i=>vT (MI k ρ i)):∀(t:Tm) (ρ:Nat->Nat),t.ren ρ=t.sub (fun i=>vT (ρ i))
  | .mk op n ks,ρ=>by
   rw [Tm.ren,Tm.sub];by_cases ho:op=1
   ·rw [if_pos ho,if_pos ho]
   ·rw [if_neg ho,if_neg ho,goL h ks op 0 ρ]
 goL (h:∀(k:Nat) (ρ:Nat->Nat),GK k (fun i=>vT (ρ i))=fun i=>vT (MI k ρ i)):∀(l:List Tm) (op:Int) (i:Nat) (ρ:Nat->Nat),Tm.renL op i l ρ=Tm.subL op i l (fun i=>vT (ρ i))
  | [],_,_,_=>rfl
  | t::l,op,i,ρ=>by simp only [Tm.renL,Tm.subL,go h t,goL h l,h]
mutual
theorem T6:∀(t:Tm),t.sub vT=t
 | .mk op n ks=>by
  rw [Tm.sub];by_cases ho:op=1
  ·rw [if_pos ho];by_cases hn:n<0\/ks.isEmpty=false
   ·rw [if_pos hn]
   ·rw [if_neg hn,vT,ho];have hk:ks=[]:=by
     cases ks with
     | nil=>rfl
     | cons a l=>exact absurd (.inr rfl) hn
    rw [hk];congr 1
    have:¬ n<0:=fun h=>hn (.inl h)
    omega
  ·rw [if_neg ho,subL_id ks op 0]
theorem subL_id:∀(l:List Tm) (op:Int) (i:Nat),Tm.subL op i l vT=l
 | [],_,_=>rfl
 | t::l,op,i=>by
  simp only [Tm.subL];rw [Axy,T6 t,subL_id l op (i+1)]
end
def s1 (x:Tm):Nat->Tm
 | 0=>x
 | j+1=>vT j
def s2 (r k:Tm):Nat->Tm
 | 0=>r
 | 1=>k
 | j+2=>vT j
inductive Par:Tm->Tm->Prop
 | var (n:Int) (ks:List Tm):Par (.mk 1 n ks) (.mk 1 n ks)
 | node (op n:Int) (ks ks':List Tm) (h1:op≠1) (hl:ks'.length=ks.length) (hk:∀(i:Nat) a b,ks[i]?=some a->ks'[i]?=some b->Par a b):Par (.mk op n ks) (.mk op n ks')
 | beta (n m:Int) (a b b' x x':Tm) (hb:Par b b') (hx:Par x x'):Par (.mk 5 n [.mk 4 m [a,b],x]) (b'.sub (s1 x'))
 | fst (n m:Int) (a x x' y:Tm) (hx:Par x x'):Par (.mk 8 n [.mk 7 m [a,x,y]]) x'
 | snd (n m:Int) (a x y y':Tm) (hy:Par y y'):Par (.mk 9 n [.mk 7 m [a,x,y]]) y'
 | splq (c c':Tm) (hc:Par c c'):Par (.mk 30 0 [.mk 19 0 [c]]) c'
 | quos (c c':Tm) (hc:Par c c'):Par (.mk 19 0 [.mk 30 0 [c]]) c'
 | recz (n m:Int) (a z z' s:Tm) (l:List Tm) (hz:Par z z'):Par (.mk 13 n [a,z,s,.mk 11 m l]) z'
 | recs (n m:Int) (a a' z z' s s' k k':Tm) (ha:Par a a') (hz:Par z z') (hs:Par s s') (hk:Par k k'):Par (.mk 13 n [a,z,s,.mk 12 m [k]]) (s'.sub (s2 (.mk 13 0 [a',z',s',k']) k'))
theorem W0:∀(m:Nat) (t:Tm),t.wt<m->Par t t:=by
 intro m
 induction m with
 | zero=>intro t h;omega
 | succ m ih =>
  intro t h;obtain ⟨op,n,ks⟩:=t;simp only [Tm.wt] at h;by_cases h1:op=1
  ·subst h1;exact .var n ks
  ·exact .node op n ks ks h1 rfl (fun i a b ha hb=>by
    rw [ha] at hb;cases hb;exact ih a (by have:=Ke ha;omega))
def BT (t:Tm):Par t t:=W0 (t.wt+1) t (by omega)
def MZ (ρ:Nat->Nat):MI 0 ρ=ρ:=by
 funext i;simp [MI]
def MN (σ:Nat->Tm):GK 0 σ=σ:=by
 funext i
 simp only [GK,Nat.not_lt_zero,if_false,Nat.sub_zero];rw [XB];exact T6 _
theorem Atq (x:Tm) (ρ:Nat->Nat):(fun i=>(s1 x i).ren ρ)=fun i=>s1 (x.ren ρ) (MI 1 ρ i):=by
 funext i
 cases i with
 | zero=>simp [s1,MI]
 | succ i=>simp [s1,MI,KS]
theorem Auz (r k:Tm) (ρ:Nat->Nat):(fun i=>(s2 r k i).ren ρ)=fun i=>s2 (r.ren ρ) (k.ren ρ) (MI 2 ρ i):=by
 funext i
 match i with
 | 0=>simp [s2,MI]
 | 1=>simp [s2,MI]
 | i+2 =>
  show (vT i).ren ρ=s2 _ _ (MI 2 ρ (i+2))
  rw [J4 (by omega),KS,Nat.add_sub_cancel];rfl
def LZ (t:Tm) (k:Nat) (τ:Nat->Tm) (h:∀j,τ (j+k)=vT j):(t.ren fun j=>j+k).sub τ=t:=by
 rw [KZ]
 have:(fun i=>τ (i+k))=vT:=funext h
 rw [this,T6]
theorem AtU (x:Tm) (σ:Nat->Tm):(fun i=>(s1 x i).sub σ)=fun i=>(GK 1 σ i).sub (s1 (x.sub σ)):=by
 funext i
 cases i with
 | zero=>simp [s1,GK,JY]
 | succ i =>
  simp only [s1,GK,JY];rw [if_neg (by omega),Nat.add_sub_cancel,LZ _ _ _ (fun j=>rfl)]
theorem Aq5 (r k:Tm) (σ:Nat->Tm):(fun i=>(s2 r k i).sub σ)=fun i=>(GK 2 σ i).sub (s2 (r.sub σ) (k.sub σ)):=by
 funext i
 match i with
 | 0=>simp [s2,GK,JY]
 | 1=>simp [s2,GK,JY]
 | i+2 =>
  simp only [s2,GK,JY];rw [if_neg (by omega),Nat.add_sub_cancel,LZ _ _ _ (fun j=>rfl)]
theorem An7 {t t':Tm} (h:Par t t'):∀ρ,Par (t.ren ρ) (t'.ren ρ):=by
 induction h with
 | var n ks=>intro ρ;exact BT _
 | node op n ks ks' h1 hl hk ih =>
  intro ρ;rw [Tm.ren,if_neg h1,Tm.ren,if_neg h1];refine .node _ _ _ _ h1 (by rw [Ik,Ik,hl]) (fun i a b ha hb=>?_);rw [Ou,Nat.zero_add] at ha hb;cases hx:ks[i]? with
  | none=>rw [hx] at ha;cases ha
  | some x =>
   cases hy:ks'[i]? with
   | none=>rw [hy] at hb;cases hb
   | some y =>
    rw [hx] at ha;rw [hy] at hb;simp only [AB8,AB5] at ha hb;subst ha hb;exact ih i x y hx hy _
 | beta n m a b b' x x' hb hx ihb ihx =>
  intro ρ
  have:=Par.beta n m (a.ren (MI 0 ρ)) _ _ _ _ (ihb (MI 1 ρ)) (ihx ρ)
  rw [KX,Atq,<- KZ];simp only [Tm.ren,Tm.renL];rw [if_neg (by omega),if_neg (by omega)];simpa [Ae,MZ] using this
 | fst n m a x x' y hx ih =>
  intro ρ
  have:=Par.fst n m (a.ren ρ) _ _ (y.ren ρ) (ih ρ)
  simp only [Tm.ren,Tm.renL];rw [if_neg (by omega),if_neg (by omega)];simpa [Ae,MZ] using this
 | snd n m a x y y' hy ih =>
  intro ρ
  have:=Par.snd n m (a.ren ρ) (x.ren ρ) _ _ (ih ρ)
  simp only [Tm.ren,Tm.renL];rw [if_neg (by omega),if_neg (by omega)];simpa [Ae,MZ] using this
 | splq c c' hc ih =>
  intro ρ
  have:=Par.splq _ _ (ih ρ)
  simp only [Tm.ren,Tm.renL];rw [if_neg (by omega),if_neg (by omega)];simpa [Ae,MZ] using this
 | quos c c' hc ih =>
  intro ρ
  have:=Par.quos _ _ (ih ρ)
  simp only [Tm.ren,Tm.renL];rw [if_neg (by omega),if_neg (by omega)];simpa [Ae,MZ] using this
 | recz n m a z z' s l hz ih =>
  intro ρ
  have:=Par.recz n m (a.ren (MI 1 ρ)) _ _ (s.ren (MI 2 ρ)) (Tm.renL 11 0 l ρ) (ih ρ)
  simp only [Tm.ren,Tm.renL];rw [if_neg (by omega),if_neg (by omega)];simpa [Ae,MZ] using this
 | recs n m a a' z z' s s' k k' ha hz hs hk iha ihz ihs ihk =>
  intro ρ
  have:=Par.recs n m _ _ _ _ _ _ _ _ (iha (MI 1 ρ)) (ihz ρ) (ihs (MI 2 ρ)) (ihk ρ)
  rw [KX,Auz,<- KZ];simp only [Tm.ren,Tm.renL];rw [if_neg (by omega),if_neg (by omega),if_neg (by omega)];simpa [Ae,MZ] using this
def NT {σ σ':Nat->Tm} (h:∀i,Par (σ i) (σ' i)) (k:Nat):∀i,Par (GK k σ i) (GK k σ' i):=by
 intro i;simp only [GK];by_cases hi:i<k
 ·rw [if_pos hi,if_pos hi];exact BT _
 ·rw [if_neg hi,if_neg hi];exact An7 (h _) _
theorem Tp {t t':Tm} (h:Par t t'):∀σ σ',(∀i,Par (σ i) (σ' i))->Par (t.sub σ) (t'.sub σ'):=by
 induction h with
 | var n ks =>
  intro σ σ' hσ;rw [Tm.sub,if_pos rfl,Tm.sub,if_pos rfl];by_cases hn:n<0\/ks.isEmpty=false
  ·rw [if_pos hn,if_pos hn];exact BT _
  ·rw [if_neg hn,if_neg hn];exact hσ _
 | node op n ks ks' h1 hl hk ih =>
  intro σ σ' hσ;rw [Tm.sub,if_neg h1,Tm.sub,if_neg h1];refine .node _ _ _ _ h1 (by rw [L6,L6,hl]) (fun i a b ha hb=>?_);rw [Wc,Nat.zero_add] at ha hb;cases hx:ks[i]? with
  | none=>rw [hx] at ha;cases ha
  | some x =>
   cases hy:ks'[i]? with
   | none=>rw [hy] at hb;cases hb
   | some y =>
    rw [hx] at ha;rw [hy] at hb;simp only [AB8,AB5] at ha hb;subst ha hb;exact ih i x y hx hy _ _ (NT hσ _)
 | beta n m a b b' x x' hb hx ihb ihx =>
  intro σ σ' hσ
  have:=Par.beta n m (a.sub σ) _ _ _ _ (ihb _ _ (NT hσ 1)) (ihx _ _ hσ)
  rw [HI,AtU,<- HI];simp only [Tm.sub,Tm.subL];rw [if_neg (by omega),if_neg (by omega)];simpa [Ae,MN] using this
 | fst n m a x x' y hx ih =>
  intro σ σ' hσ
  have:=Par.fst n m (a.sub σ) _ _ (y.sub σ) (ih _ _ hσ)
  simp only [Tm.sub,Tm.subL];rw [if_neg (by omega),if_neg (by omega)];simpa [Ae,MN] using this
 | snd n m a x y y' hy ih =>
  intro σ σ' hσ
  have:=Par.snd n m (a.sub σ) (x.sub σ) _ _ (ih _ _ hσ)
  simp only [Tm.sub,Tm.subL];rw [if_neg (by omega),if_neg (by omega)];simpa [Ae,MN] using this
 | splq c c' hc ih =>
  intro σ σ' hσ
  have:=Par.splq _ _ (ih _ _ hσ)
  simp only [Tm.sub,Tm.subL];rw [if_neg (by omega),if_neg (by omega)];simpa [Ae,MN] using this
 | quos c c' hc ih =>
  intro σ σ' hσ
  have:=Par.quos _ _ (ih _ _ hσ)
  simp only [Tm.sub,Tm.subL];rw [if_neg (by omega),if_neg (by omega)];simpa [Ae,MN] using this
 | recz n m a z z' s l hz ih =>
  intro σ σ' hσ
  have:=Par.recz n m (a.sub (GK 1 σ)) _ _ (s.sub (GK 2 σ)) (Tm.subL 11 0 l σ) (ih _ _ hσ)
  simp only [Tm.sub,Tm.subL];rw [if_neg (by omega),if_neg (by omega)];simpa [Ae,MN] using this
 | recs n m a a' z z' s s' k k' ha hz hs hk iha ihz ihs ihk =>
  intro σ σ' hσ
  have:=Par.recs n m _ _ _ _ _ _ _ _ (iha _ _ (NT hσ 1)) (ihz _ _ hσ) (ihs _ _ (NT hσ 2)) (ihk _ _ hσ)
  rw [HI,Aq5,<- HI];simp only [Tm.sub,Tm.subL];rw [if_neg (by omega),if_neg (by omega),if_neg (by omega)];simpa [Ae,MN] using this
theorem Ag0 {Q:Tm->Tm->Prop}:∀(ks:List Tm),(∀a∈ks,∃d,Q a d)->∃ds:List Tm,ds.length=ks.length/\∀(i:Nat) a d,ks[i]?=some a->ds[i]?=some d->Q a d
 | [],_=>⟨[],rfl,fun i a d h=>by simp at h⟩
 | a::l,h=>by
  obtain ⟨d,hd⟩:=h a List.mem_cons_self;obtain ⟨ds,h1,h2⟩:=Ag0 l (fun a ha=>h a (List.mem_cons_of_mem _ ha));refine ⟨d::ds,by simp [h1],fun i x y hx hy=>?_⟩;cases i with
  | zero=>simp at hx hy;subst hx hy;exact hd
  | succ i=>simp at hx hy;exact h2 i x y hx hy
def Arr (op n:Int) (ks:List Tm):Prop:=(op=5/\∃m a b x,ks=[.mk 4 m [a,b],x])\/(op=8/\∃m a x y,ks=[.mk 7 m [a,x,y]])\/(op=9/\∃m a x y,ks=[.mk 7 m [a,x,y]])\/(op=30/\n=0/\∃c,ks=[.mk 19 0 [c]])\/(op=19/\n=0/\∃c,ks=[.mk 30 0 [c]]) \/
 (op=13/\∃a z s m l,ks=[a,z,s,.mk 11 m l])\/(op=13/\∃a z s m k,ks=[a,z,s,.mk 12 m [k]])
theorem AwC {n op:Int} {x y:Tm} {t:Tm} (h:Par (.mk op n [x,y]) t) (ho:op≠1/\op≠5):∃x' y',t=.mk op n [x',y']/\Par x x'/\Par y y':=by
 cases h with
 | var=>exact absurd rfl ho.1
 | node _ _ _ ks' h1 hl hk =>
  obtain ⟨x',y',rfl⟩:=Ml hl;exact ⟨x',y',rfl,hk 0 x x' rfl rfl,hk 1 y y' rfl rfl⟩
 | beta=>exact absurd rfl ho.2
theorem AqR {n op:Int} {x y z:Tm} {t:Tm} (h:Par (.mk op n [x,y,z]) t) (ho:op≠1):∃x' y' z',t=.mk op n [x',y',z']/\Par x x'/\Par y y'/\Par z z':=by
 cases h with
 | var=>exact absurd rfl ho
 | node _ _ _ ks' h1 hl hk =>
  obtain ⟨x',y',z',rfl⟩:=Arj hl;exact ⟨x',y',z',rfl,hk 0 x x' rfl rfl,hk 1 y y' rfl rfl,hk 2 z z' rfl rfl⟩
theorem dev:∀(m:Nat) (t:Tm),t.wt<m->∃d,∀t',Par t t'->Par t' d:=by
 intro m
 induction m with
 | zero=>intro t h;omega
 | succ m ih =>
  intro t hw;obtain ⟨op,n,ks⟩:=t;by_cases h1:op=1
  ·subst h1;refine ⟨.mk 1 n ks,fun t' h=>?_⟩;cases h with
   | var=>exact .var n ks
   | node _ _ _ _ h1=>exact absurd rfl h1
  by_cases hr:Arr op n ks
  ·rcases hr with ⟨rfl,m1,a,b,x,rfl⟩ | ⟨rfl,m1,a,x,y,rfl⟩ | ⟨rfl,m1,a,x,y,rfl⟩ | ⟨rfl,rfl,c,rfl⟩ | ⟨rfl,rfl,c,rfl⟩ | ⟨rfl,a,z,s,m1,l,rfl⟩ | ⟨rfl,a,z,s,m1,k,rfl⟩
   ·simp only [Tm.wt,Tm.wtL] at hw;obtain ⟨db,hb⟩:=ih b (by omega);obtain ⟨dx,hx⟩:=ih x (by omega);refine ⟨db.sub (s1 dx),fun t' h=>?_⟩;cases h with
    | node _ _ _ ks' _ hl hk =>
     obtain ⟨l',x',rfl⟩:=Ml hl;obtain ⟨a',b',rfl,_,q2⟩:=AwC (hk 0 _ l' rfl rfl) (by decide);exact .beta n m1 a' b' db x' dx (hb b' q2) (hx x' (hk 1 x x' rfl rfl))
    | beta _ _ _ _ b' _ x' p1 p2 =>
     refine Tp (hb b' p1) _ _ (fun i=>?_);cases i with
     | zero=>exact hx x' p2
     | succ i=>exact BT _
   ·simp only [Tm.wt,Tm.wtL] at hw;obtain ⟨dx,hx⟩:=ih x (by omega);refine ⟨dx,fun t' h=>?_⟩;cases h with
    | node _ _ _ ks' _ hl hk =>
     obtain ⟨l',rfl⟩:=Cs hl;obtain ⟨a',x',y',rfl,_,q2,_⟩:=AqR (hk 0 _ l' rfl rfl) (by decide);exact .fst n m1 a' x' dx y' (hx x' q2)
    | fst _ _ _ _ _ _ p=>exact hx _ p
   ·simp only [Tm.wt,Tm.wtL] at hw;obtain ⟨dy,hy⟩:=ih y (by omega);refine ⟨dy,fun t' h=>?_⟩;cases h with
    | node _ _ _ ks' _ hl hk =>
     obtain ⟨l',rfl⟩:=Cs hl;obtain ⟨a',x',y',rfl,_,_,q3⟩:=AqR (hk 0 _ l' rfl rfl) (by decide);exact .snd n m1 a' x' y' dy (hy y' q3)
    | snd _ _ _ _ _ _ p=>exact hy _ p
   ·simp only [Tm.wt,Tm.wtL] at hw;obtain ⟨dc,hc⟩:=ih c (by omega);refine ⟨dc,fun t' h=>?_⟩;cases h with
    | node _ _ _ ks' _ hl hk =>
     obtain ⟨l',rfl⟩:=Cs hl;have hq:=hk 0 _ l' rfl rfl;cases hq with
     | node _ _ _ ks2 _ hl2 hk2 =>
      obtain ⟨c',rfl⟩:=Cs hl2;exact .splq c' dc (hc c' (hk2 0 c c' rfl rfl))
     | quos e _ he=>exact hc _ (.node 30 0 [e] [l'] (by decide) rfl (fun i a b ha hb=>by
       cases i with
       | zero=>simp at ha hb;subst ha hb;exact he
       | succ i=>simp at ha))
    | splq _ _ p=>exact hc _ p
   ·simp only [Tm.wt,Tm.wtL] at hw;obtain ⟨dc,hc⟩:=ih c (by omega);refine ⟨dc,fun t' h=>?_⟩;cases h with
    | node _ _ _ ks' _ hl hk =>
     obtain ⟨l',rfl⟩:=Cs hl;have hq:=hk 0 _ l' rfl rfl;cases hq with
     | node _ _ _ ks2 _ hl2 hk2 =>
      obtain ⟨c',rfl⟩:=Cs hl2;exact .quos c' dc (hc c' (hk2 0 c c' rfl rfl))
     | splq e _ he=>exact hc _ (.node 19 0 [e] [l'] (by decide) rfl (fun i a b ha hb=>by
       cases i with
       | zero=>simp at ha hb;subst ha hb;exact he
       | succ i=>simp at ha))
    | quos _ _ p=>exact hc _ p
   ·simp only [Tm.wt,Tm.wtL] at hw;obtain ⟨dz,hz⟩:=ih z (by omega);refine ⟨dz,fun t' h=>?_⟩;cases h with
    | node _ _ _ ks' _ hl hk =>
     obtain ⟨a',z',s',k',rfl⟩:=Nd hl;have hq:=hk 3 _ k' rfl rfl;cases hq with
     | node _ _ _ l2 _ hl2 hk2=>exact .recz n m1 a' z' dz s' l2 (hz z' (hk 1 z z' rfl rfl))
    | recz _ _ _ _ _ _ _ p=>exact hz _ p
   ·simp only [Tm.wt,Tm.wtL] at hw;obtain ⟨da,ha⟩:=ih a (by omega);obtain ⟨dz,hz⟩:=ih z (by omega);obtain ⟨ds,hs⟩:=ih s (by omega);obtain ⟨dk,hk⟩:=ih k (by omega);refine ⟨ds.sub (s2 (.mk 13 0 [da,dz,ds,dk]) dk),fun t' h=>?_⟩;cases h with
    | node _ _ _ ks' _ hl hkk =>
     obtain ⟨a',z',s',k',rfl⟩:=Nd hl;have hq:=hkk 3 _ k' rfl rfl;cases hq with
     | node _ _ _ l2 _ hl2 hk2 =>
      obtain ⟨k2,rfl⟩:=Cs hl2;exact .recs n m1 a' da z' dz s' ds k2 dk (ha a' (hkk 0 a a' rfl rfl)) (hz z' (hkk 1 z z' rfl rfl)) (hs s' (hkk 2 s s' rfl rfl)) (hk k2 (hk2 0 k k2 rfl rfl))
    | recs _ _ _ a' _ z' _ s' _ k' pa pz ps pk =>
     refine Tp (hs s' ps) _ _ (fun i=>?_)
     match i with
     | 0 =>
      refine .node 13 0 _ _ (by decide) rfl (fun i a1 b1 e1 e2=>?_)
      match i with
      | 0=>simp at e1 e2;subst e1 e2;exact ha a' pa
      | 1=>simp at e1 e2;subst e1 e2;exact hz z' pz
      | 2=>simp at e1 e2;subst e1 e2;exact hs s' ps
      | 3=>simp at e1 e2;subst e1 e2;exact hk k' pk
      | i+4=>simp at e1
     | 1=>exact hk k' pk
     | i+2=>exact BT _
  ·simp only [Tm.wt] at hw;obtain ⟨ds,hd1,hd2⟩:=Ag0 (Q:=fun a d=>∀t',Par a t'->Par t' d) ks (fun a ha=>ih a (by have:=CT ha;omega));refine ⟨.mk op n ds,fun t' h=>?_⟩;cases h with
   | var=>exact absurd rfl h1
   | node _ _ _ ks' _ hl hk =>
    refine .node op n ks' ds h1 (by rw [hd1,hl]) (fun i a b ha hb=>?_);have hi:i<ks.length:=by rw [<- hl];exact (List.getElem?_eq_some_iff.1 ha).1
    have hx:=List.getElem?_eq_getElem hi;exact hd2 i _ b hx hb a (hk i _ a hx ha)
   | beta _ m1 a b b' x x'=>exact absurd (.inl ⟨rfl,m1,a,b,x,rfl⟩) hr
   | fst _ m1 a x x' y=>exact absurd (.inr (.inl ⟨rfl,m1,a,x,y,rfl⟩)) hr
   | snd _ m1 a x y y'=>exact absurd (.inr (.inr (.inl ⟨rfl,m1,a,x,y,rfl⟩))) hr
   | splq c c'=>exact absurd (.inr (.inr (.inr (.inl ⟨rfl,rfl,c,rfl⟩)))) hr
   | quos c c'=>exact absurd (.inr (.inr (.inr (.inr (.inl ⟨rfl,rfl,c,rfl⟩))))) hr
   | recz _ m1 a z z' s l=>exact absurd (.inr (.inr (.inr (.inr (.inr (.inl ⟨rfl,a,z,s,m1,l,rfl⟩)))))) hr
   | recs _ m1 a a' z z' s s' k k'=>exact absurd (.inr (.inr (.inr (.inr (.inr (.inr ⟨rfl,a,z,s,m1,k,rfl⟩)))))) hr
inductive Pars:Tm->Tm->Prop
 | refl (t:Tm):Pars t t
 | step {a b c:Tm} (h:Par a b) (hs:Pars b c):Pars a c
def Hd {a b:Tm} (h:Par a b):Pars a b:=.step h (.refl _)
theorem FO {a b c:Tm} (h:Pars a b) (h2:Pars b c):Pars a c:=by
 induction h with
 | refl=>exact h2
 | step h _ ih=>exact .step h (ih h2)
theorem Awn {a c:Tm} (h:Pars a c):∀{b:Tm},Par a b->∃d,Pars b d/\Par c d:=by
 induction h with
 | refl t=>intro b hb;exact ⟨b,.refl _,hb⟩
 | @step a b' c h _ ih =>
  intro b hb;obtain ⟨d,hd⟩:=dev (a.wt+1) a (by omega);obtain ⟨e,h1,h2⟩:=ih (hd _ h);exact ⟨e,.step (hd _ hb) h1,h2⟩
theorem Aj9 {a b:Tm} (h:Pars a b):∀{c:Tm},Pars a c->∃d,Pars b d/\Pars c d:=by
 induction h with
 | refl t=>intro c hc;exact ⟨c,hc,.refl _⟩
 | step h _ ih =>
  intro c hc;obtain ⟨d,h1,h2⟩:=Awn hc h;obtain ⟨e,h3,h4⟩:=ih h1;exact ⟨e,h3,.step h2 h4⟩
theorem AnO {t t':Tm} (h:Par t t'):t.stl->t'=t:=by
 induction h with
 | var=>intro _;rfl
 | node op n ks ks' h1 hl hk ih =>
  intro hs;rw [Tm.stl] at hs;congr 1;apply List.ext_getElem?;intro i;by_cases hi:i<ks.length
  ·have hx:=List.getElem?_eq_getElem hi;have hy:=List.getElem?_eq_getElem (show i<ks'.length by omega)
   rw [hx,hy,ih i _ _ hx hy (H0 hs.2 (List.mem_of_getElem? hx))]
  ·rw [List.getElem?_eq_none (by omega),List.getElem?_eq_none (by omega)]
 | beta n m a b b' x x'=>intro hs;rw [Tm.stl] at hs;exact absurd rfl (hs.1.2.1 rfl _ rfl)
 | fst n m a x x' y=>intro hs;rw [Tm.stl] at hs;exact absurd rfl (hs.1.2.2 (.inl rfl) _ rfl)
 | snd n m a x y y'=>intro hs;rw [Tm.stl] at hs;exact absurd rfl (hs.1.2.2 (.inr rfl) _ rfl)
 | splq c c'=>intro hs;rw [Tm.stl] at hs;exact absurd rfl (hs.1.1.1 rfl _ rfl)
 | quos c c'=>intro hs;rw [Tm.stl] at hs;exact absurd rfl (hs.1.1.2.1 rfl _ rfl)
 | recz n m a z z' s l=>intro hs;rw [Tm.stl] at hs;exact absurd rfl (hs.1.1.2.2 rfl _ rfl).1
 | recs n m a a' z z' s s' k k'=>intro hs;rw [Tm.stl] at hs;exact absurd rfl (hs.1.1.2.2 rfl _ rfl).2
theorem LS {t t':Tm} (h:Pars t t'):t.stl->t'=t:=by
 induction h with
 | refl=>intro _;rfl
 | step h _ ih =>
  intro hs
  have:=AnO h hs
  subst this;exact ih hs
def ArQ {t u n m d:Tm} (h1:Pars t n) (h2:Pars u m) (h3:Pars t d) (h4:Pars u d) (hn:n.stl) (hm:m.stl):n=m:=by
 obtain ⟨e,a1,a2⟩:=Aj9 h1 h3;obtain ⟨e',b1,b2⟩:=Aj9 h2 h4
 have:=LS a1 hn
 subst this
 have:=LS b1 hm
 subst this;obtain ⟨x,c1,c2⟩:=Aj9 a2 b2;rw [<- LS c1 hn,LS c2 hm]
def IR {op n:Int} (h1:op≠1):∀{ks ks':List Tm},ks'.length=ks.length->(∀(i:Nat) a b,ks[i]?=some a->ks'[i]?=some b->Pars a b)->Pars (.mk op n ks) (.mk op n ks'):=by
 have key:∀(
        pre ks ks':List Tm),ks'.length=ks.length->(∀(i:Nat) a b,ks[i]?=some a->ks'[i]?=some b->Pars a b)->Pars (.mk op n (pre++ks)) (.mk op n (pre++ks')):=by
  intro pre ks
  induction ks generalizing pre with
  | nil =>
   intro ks' hl _;rw [List.eq_nil_of_length_eq_zero hl];exact .refl _
  | cons a l ih =>
   intro ks' hl hk;cases ks' with
   | nil=>simp at hl
   | cons b l' =>
    have hab:=hk 0 a b rfl rfl;have hrest:=ih (pre++[b]) l' (by simpa using hl) (fun i x y hx hy=>hk (i+1) x y (by simpa using hx) (by simpa using hy));rw [List.append_assoc,List.append_assoc] at hrest;refine FO ?_ hrest;have one:∀{x y:Tm},Pars x y->Pars (.mk op n (pre++x::l)) (.mk op n (pre++y::l)):=by
     intro x y h
     induction h with
     | refl=>exact .refl _
     | step h _ ih2 =>
      refine .step (.node op n _ _ h1 (by simp) (fun i p q hp hq=>?_)) ih2;by_cases hi:i<pre.length
      ·rw [List.getElem?_append_left hi] at hp hq;rw [hp] at hq;cases hq;exact BT _
      ·rw [List.getElem?_append_right (by omega)] at hp hq;cases hd:i - pre.length with
       | zero =>
        rw [hd] at hp hq;simp at hp hq;subst hp hq;exact h
       | succ j =>
        rw [hd] at hp hq;simp at hp hq;rw [hp] at hq;cases hq;exact BT _
    exact one hab
 intro ks ks' hl hk;exact key [] ks ks' hl hk
theorem AoI (t:Tm) (σ:Nat->Tm) (j:Nat) {x y:Tm} (h:Pars x y):Pars (t.sub fun i=>if i=j then x else σ i) (t.sub fun i=>if i=j then y else σ i):=by
 induction h with
 | refl=>exact .refl _
 | step h _ ih =>
  refine .step (Tp (BT t) _ _ (fun i=>?_)) ih;by_cases hi:i=j
  ·simp only [hi,if_true];exact h
  ·simp only [hi,if_false];exact BT _
mutual
def Tm.wa:Tm->Prop
 | .mk op n ks=>ar op=some ks.length/\((op=1->0<=n)/\(op=19\/op=30->n=0))/\Tm.waL ks
def Tm.waL:List Tm->Prop
 | []=>True
 | t::l=>t.wa/\Tm.waL l
end
mutual
theorem Aqz:∀(t:Tm) (k:Nat),t.sc k->t.wa
 | .mk op n ks,k,h=>by
  rw [Tm.sc] at h;rw [Tm.wa];refine ⟨h.1,⟨fun h1=>?_,fun h9=>?_⟩,scL_wa ks op 0 k h.2.2⟩
  ·have:=h.2.1
   rw [if_pos h1] at this;exact this.1
  ·have:=h.2.1
   rw [if_neg (by omega)] at this;rcases h9 with rfl | rfl<;>simpa [BJ] using this
theorem scL_wa:∀(l:List Tm) (op:Int) (i k:Nat),Tm.scL op i l k->Tm.waL l
 | [],_,_,_,_=>by rw [Tm.waL];trivial
 | t::l,op,i,k,h=>by
  rw [Tm.scL] at h;rw [Tm.waL];exact ⟨Aqz t _ h.1,scL_wa l op (i+1) k h.2⟩
end
inductive Un:Nat->RV->Tm->Prop
 | var (u:Nat) (n:Int) (h:n<u):Un u (.var n) (.mk 1 ((u:Int) - 1 - n) [])
 | node (u:Nat) (op n:Int) (k:List RV) (ts:List Tm) (T:Nat->Nat->Tm) (h1:op≠1) (h9:op=19\/op=30->n=0) (har:ar op=some ts.length) (hl:k.length=ts.length)
   (hk:∀(i:Nat) v t,Ae op i=0->k[i]?=some v->ts[i]?=some t->Un u v t)
   (hc:∀(i:Nat) (v:RV) t,0<Ae op i->k[i]?=some v->ts[i]?=some t->t=v.b.sub (GK (Ae op i) (T i))/\v.b.wa)
   (hf:∀(i:Nat) (v:RV) (j:Nat),0<Ae op i->k[i]?=some v->v.env.length<=j->T i j=vT (u+(j - v.env.length)))
   (he:∀(i:Nat) (v:RV) (j:Nat) x,0<Ae op i->k[i]?=some v->v.env.reverse[j]?=some x->Un u x (T i j)):Un u (.node op n k) (.mk op n ts)
def WN (u:Nat) (env:List RV) (τ:Nat->Tm):Prop:=(∀(j:Nat) x,env.reverse[j]?=some x->Un u x (τ j))/\∀j,env.length<=j->τ j=vT (u+(j - env.length))
theorem Ih {u:Nat} {v:RV} {t:Tm} (h:Un u v t) (h1:v.op≠1):∃(ts:List Tm) (T:Nat->Nat->Tm),(v.op=19\/v.op=30->v.n=0)/\v=.node v.op v.n v.k/\t=.mk v.op v.n ts/\ar v.op=some ts.length/\v.k.length=ts.length/\(∀(i:Nat) x y,Ae v.op i=0->v.k[i]?=some x->ts[i]?=some y->Un u x y) /\
  (∀(i:Nat) (x:RV) y,0<Ae v.op i->v.k[i]?=some x->ts[i]?=some y->y=x.b.sub (GK (Ae v.op i) (T i))/\x.b.wa/\WN u x.env (T i)):=by
 cases h with
 | var=>exact absurd rfl h1
 | node op n k ts T h1 h9 har hl hk hc hf he =>
  refine ⟨ts,T,h9,rfl,rfl,har,hl,hk,fun i x y a b c=>?_⟩;obtain ⟨q1,q2⟩:=hc i x y a b c;exact ⟨q1,q2,fun j z hz=>he i x j z a b hz,fun j hj=>hf i x j a b hj⟩
theorem AxL {u:Nat} {v:RV} {t:Tm} (h:Un u v t):∀d:Nat,Un (u+d) v (t.ren fun j=>j+d):=by
 induction h with
 | var n h =>
  intro d;have e:(Tm.mk 1 ((u:Int) - 1 - n) [])=vT ((u:Int) - 1 - n).toNat:=by rw [vT];congr 1;omega
  rw [e,KS]
  have:=Un.var (u+d) n (by omega)
  have e2:vT (((u:Int) - 1 - n).toNat+d)=.mk 1 (((u+d:Nat):Int) - 1 - n) []:=by rw [vT];congr 1;omega
  rw [e2];exact this
 | node op n k ts T h1 h9 har hl hk hc hf he ihk ihe =>
  intro d;rw [Tm.ren,if_neg h1];refine .node (u+d) op n k _ (fun i j=>(T i j).ren fun x=>x+d) h1 h9 (by rw [Ik];exact har) (by rw [Ik];exact hl) ?_ ?_ ?_ ?_
  ·intro i v t hb hv ht;rw [Ou,Nat.zero_add] at ht;cases hx:ts[i]? with
   | none=>rw [hx] at ht;cases ht
   | some y =>
    rw [hx,hb,MZ] at ht;simp only [AB8,AB5] at ht;subst ht;exact ihk i v y hb hv hx d
  ·intro i v t hb hv ht;rw [Ou,Nat.zero_add] at ht;cases hx:ts[i]? with
   | none=>rw [hx] at ht;cases ht
   | some y =>
    rw [hx] at ht;simp only [AB8,AB5] at ht;subst ht;obtain ⟨q1,q2⟩:=hc i v y hb hv hx;refine ⟨?_,q2⟩;rw [q1,KX,Ae3]
  ·intro i v j hb hv hj;rw [hf i v j hb hv hj,KS];congr 1;omega
  ·intro i v j x hb hv hx;exact ihe i v j x hb hv hx d
theorem Alk:WN 0 [] vT:=⟨fun j x h=>by simp at h,fun j _=>by simp⟩
theorem Pt {u:Nat} {env:List RV} {τ:Nat->Tm} (h:WN u env τ) {x:RV} {t:Tm} (hx:Un u x t):WN u (env++[x]) (fun i=>match i with | 0=>t | j+1=>τ j):=by
 refine ⟨fun j y hy=>?_,fun j hj=>?_⟩
 ·rw [List.reverse_append] at hy;cases j with
  | zero =>
   simp at hy;subst hy;exact hx
  | succ j =>
   simp only [List.reverse_cons,List.reverse_nil,List.nil_append,List.cons_append,List.getElem?_cons_succ] at hy;exact h.1 j y hy
 ·rw [List.length_append,AB9,List.length_nil] at hj ⊢;cases j with
  | zero=>omega
  | succ j =>
   simp only;rw [h.2 j (by omega)];congr 1;omega
theorem ApO {u:Nat} {env:List RV} {τ:Nat->Tm} (h:WN u env τ) (b:Nat):WN (u+b) (env++Fo u b) (GK b τ):=by
 refine ⟨fun j y hy=>?_,fun j hj=>?_⟩
 ·rw [List.reverse_append] at hy;by_cases hjb:j<b
  ·rw [List.getElem?_append_left (by rw [List.length_reverse,B1];exact hjb)] at hy;obtain ⟨_,rfl⟩:=AeO _ _ _ hy;simp only [GK,if_pos hjb]
   have:=Un.var (u+b) ((u:Int)+((b - 1 - j:Nat):Int)) (by omega)
   have e:vT j=.mk 1 (((u+b:Nat):Int) - 1 - ((u:Int)+((b - 1 - j:Nat):Int))) []:=by rw [vT];congr 1;omega
   rw [e];exact this
  ·rw [List.getElem?_append_right (by rw [List.length_reverse,B1];omega),List.length_reverse,B1] at hy;simp only [GK,if_neg hjb];exact AxL (h.1 _ _ hy) b
 ·rw [List.length_append,B1] at hj ⊢;simp only [GK];rw [if_neg (by omega),h.2 _ (by omega),KS];congr 1;omega
theorem AjA {f:Nat} {s n:Int} {k0 x v:RV} {s':Int} (h:headR (f+1) s 0 (.node 5 n [k0,x])=some (v,s',0)):k0.op=4/\(∃c,k0.k[1]?=some c/\AB f (s+1) 0 c.b (c.env++[x])=some (v,s',0))\/k0.op≠4/\v=.node 5 n [k0,x]:=by
 rw [headR,if_neg (by simp)] at h;by_cases hs:s<0\/1000000<s
 ·rw [if_pos hs] at h;cases h
 rw [if_neg hs,if_pos (show RV.op (.node 5 n [k0,x])=5 from rfl),show RV.k (.node 5 n [k0,x])=[k0,x] from rfl] at h
 simp only [List.getElem?_cons_zero,List.getElem?_cons_succ] at h;by_cases h0:k0.op=4
 ·rw [if_pos h0] at h;by_cases h1:s+1<=1000
  ·rw [if_pos h1] at h;cases hc:k0.k[1]? with
   | none=>rw [hc] at h;cases h
   | some c =>
    rw [hc] at h;simp only at h;by_cases h2:900000<c.env.length
    ·rw [if_pos h2] at h;cases h
    ·rw [if_neg h2] at h;exact .inl ⟨h0,c,rfl,h⟩
  ·rw [if_neg h1] at h;simp at h
 ·rw [if_neg h0] at h;simp only [AB5,AB6] at h;exact .inr ⟨h0,h.1.symm⟩
theorem Xj {f:Nat} {s op n:Int} {k0 v:RV} {s':Int} (ho:op=8\/op=9) (h:headR (f+1) s 0 (.node op n [k0])=some (v,s',0)):k0.op=7/\k0.k[(1+op - 8).toNat]?=some v\/k0.op≠7/\v=.node op n [k0]:=by
 rw [headR,if_neg (by simp)] at h;by_cases hs:s<0\/1000000<s
 ·rw [if_pos hs] at h;cases h
 have hop:RV.op (.node op n [k0])=op:=rfl;rw [if_neg hs,hop,if_neg (by omega),if_pos ho,show RV.k (.node op n [k0])=[k0] from rfl] at h
 simp only [List.getElem?_cons_zero] at h;by_cases h0:k0.op=7
 ·rw [if_pos h0] at h;by_cases h1:s+1<=1000
  ·rw [if_pos h1] at h;cases hw:k0.k[(1+op - 8).toNat]? with
   | none=>rw [hw] at h;cases h
   | some w =>
    rw [hw] at h;simp only [AB8,AB5,AB6] at h;rw [<- h.1];exact .inl ⟨h0,rfl⟩
  ·rw [if_neg h1] at h;simp at h
 ·rw [if_neg h0] at h;simp only [AB5,AB6] at h;exact .inr ⟨h0,h.1.symm⟩
theorem UT {ev:Int->Int->Tm->Option (RV×Int×Int)} {u:Nat} {env:List RV} {τ:Nat->Tm} (henv:WN u env τ) (hev:∀s t v s',ev s 0 t=some (v,s',0)->t.wa->∃w,Un u v w/\Pars (t.sub τ) w) (herr:∀s e t v s',ev s e t=some (v,s',0)->e=0) (op:Int) :
  ∀(l:List Tm) (i:Nat) (s:Int) (vs:List RV) (s':Int),AW ev op env i l s 0=some (vs,s',0)->Tm.waL l->∃ts:List Tm,ts.length=l.length/\vs.length=l.length/\(∀(j:Nat) a b,(Tm.subL op i l τ)[j]?=some a->ts[j]?=some b->Pars a b) /\
   (∀(j:Nat) v t,Ae op (i+j)=0->vs[j]?=some v->ts[j]?=some t->Un u v t)/\(∀(j:Nat) (v:RV) t,0<Ae op (i+j)->vs[j]?=some v->ts[j]?=some t->t=v.b.sub (GK (Ae op (i+j)) τ)/\v.b.wa/\v.env=env)
 | [],i,s,vs,s',h,hw=>by
  simp only [AW,AB5,AB6] at h;obtain ⟨rfl,_⟩:=h;exact ⟨[],rfl,rfl,fun j a b h=>by simp [Tm.subL] at h,fun j v t _ h=>by simp at h,fun j v t _ h=>by simp at h⟩
 | t::l,i,s,vs,s',h,hw=>by
  rw [Tm.waL] at hw;simp only [AW] at h;by_cases hb:0<Ae op i
  ·rw [if_pos hb] at h;cases hk:AW ev op env (i+1) l s 0 with
   | none=>rw [hk] at h;cases h
   | some q =>
    obtain ⟨us,s1,e1⟩:=q;rw [hk] at h;simp only [AB8,AB5,AB6] at h;obtain ⟨rfl,rfl,rfl⟩:=h;obtain ⟨ts,a1,a2,a3,a4,a5⟩:=UT henv hev herr op l (i+1) s us s1 hk hw.2;refine ⟨t.sub (GK (Ae op i) τ)::ts,by simp [a1],by simp [a2],?_,?_,?_⟩
    ·intro j a b ha hb';cases j with
     | zero =>
      simp only [Tm.subL,List.getElem?_cons_zero,AB5] at ha hb';subst ha hb';exact .refl _
     | succ j =>
      simp only [Tm.subL,List.getElem?_cons_succ] at ha hb';exact a3 j a b ha hb'
    ·intro j v x h0 hv hx;cases j with
     | zero=>rw [Nat.add_zero] at h0;omega
     | succ j =>
      simp only [List.getElem?_cons_succ] at hv hx;exact a4 j v x (by rw [<- h0];congr 1;omega) hv hx
    ·intro j v x h0 hv hx;cases j with
     | zero =>
      simp only [List.getElem?_cons_zero,AB5] at hv hx;subst hv hx;exact ⟨rfl,hw.1,rfl⟩
     | succ j =>
      simp only [List.getElem?_cons_succ] at hv hx
      have:=a5 j v x (by rw [show i+1+j=i+(j+1) by omega];exact h0) hv hx
      rw [show i+1+j=i+(j+1) by omega] at this
      exact this
  ·rw [if_neg hb] at h;have hb0:Ae op i=0:=by omega
   cases he:ev s 0 t with
   | none=>rw [he] at h;cases h
   | some q =>
    obtain ⟨v0,s1,e1⟩:=q;rw [he] at h;simp only at h;cases hk:AW ev op env (i+1) l s1 e1 with
    | none=>rw [hk] at h;cases h
    | some q =>
     obtain ⟨us,s3,e3⟩:=q;rw [hk] at h;simp only [AB8,AB5,AB6] at h;obtain ⟨rfl,rfl,rfl⟩:=h;have he1:=Hg ev herr op env l _ _ _ _ _ hk;subst he1;obtain ⟨w,w1,w2⟩:=hev _ _ _ _ he hw.1;obtain ⟨ts,a1,a2,a3,a4,a5⟩:=UT henv hev herr op l (i+1) s1 us s3 hk hw.2;refine ⟨w::ts,by simp [a1],by simp [a2],?_,?_,?_⟩
     ·intro j a b ha hb';cases j with
      | zero =>
       simp only [Tm.subL,List.getElem?_cons_zero,AB5] at ha hb';subst ha hb';rw [hb0,MN];exact w2
      | succ j =>
       simp only [Tm.subL,List.getElem?_cons_succ] at ha hb';exact a3 j a b ha hb'
     ·intro j v x h0 hv hx;cases j with
      | zero =>
       simp only [List.getElem?_cons_zero,AB5] at hv hx;subst hv hx;exact w1
      | succ j =>
       simp only [List.getElem?_cons_succ] at hv hx;exact a4 j v x (by rw [<- h0];congr 1;omega) hv hx
     ·intro j v x h0 hv hx;cases j with
      | zero=>rw [Nat.add_zero] at h0;omega
      | succ j =>
       simp only [List.getElem?_cons_succ] at hv hx
       have:=a5 j v x (by rw [show i+1+j=i+(j+1) by omega];exact h0) hv hx
       rw [show i+1+j=i+(j+1) by omega] at this
       exact this
def EvU (f:Nat):Prop:=∀s t env v s' u τ,AB f s 0 t env=some (v,s',0)->t.wa->WN u env τ->∃w,Un u v w/\Pars (t.sub τ) w
def HdU (f:Nat):Prop:=∀s op n k v s' u ts,headR f s 0 (.node op n k)=some (v,s',0)->op≠1->Un u (.node op n k) (.mk op n ts)->∃w,Un u v w/\Pars (.mk op n ts) w
theorem AwR {f:Nat} (ihE:EvU f) (ihH:HdU f):EvU (f+1):=by
 intro s t env v s' u τ h hw henv;obtain ⟨op,m,ks⟩:=t;rw [Tm.wa] at hw;by_cases h1:op=1
 ·subst h1;have hks:ks=[]:=List.eq_nil_of_length_eq_zero (Option.some.inj hw.1.symm);subst hks;have hm:=hw.2.1.1 rfl;have hv:¬ (m<0\/([]:List Tm).isEmpty=false):=by
   rintro (h | h)
   ·omega
   ·cases h
  rw [Tm.sub,if_pos rfl,if_neg hv];rcases (Aci h hm).1 with ⟨a1,a2⟩ | ⟨a1,rfl⟩
  ·exact ⟨_,henv.1 _ _ a2,.refl _⟩
  ·refine ⟨_,?_,.refl _⟩;rw [henv.2 _ (by omega)]
   have:=Un.var u ((env.length:Int) - 1 - m) (by omega)
   have e:vT (u+(m.toNat - env.length))=.mk 1 ((u:Int) - 1 - ((env.length:Int) - 1 - m)) []:=by rw [vT];congr 1;omega
   rw [e];exact this
 ·obtain ⟨vs,s1,q1,q2⟩:=HU h h1;obtain ⟨ts,a1,a2,a3,a4,a5⟩:=UT henv (fun s t v s' a b=>ihE s t env v s' u τ a b henv) (fun s e t v s' a=>Cy a) op ks 0 s vs s1 q1 hw.2.2;simp only [Nat.zero_add] at a4 a5;have hun:Un u (.node op m vs) (.mk op m ts):=by
   refine .node u op m vs ts (fun _=>τ) h1 hw.2.1.2 (by rw [a1];exact hw.1) (by rw [a1,a2]) a4 (fun i v t b c d=>⟨(a5 i v t b c d).1,(a5 i v t b c d).2.1⟩) ?_ ?_
   ·intro i v j b c hj;have hi:i<ts.length:=by rw [a1,<- a2];exact (List.getElem?_eq_some_iff.1 c).1
    have:=(a5 i v _ b c (List.getElem?_eq_getElem hi)).2.2
    rw [this] at hj ⊢;exact henv.2 j hj
   ·intro i v j x b c hx;have hi:i<ts.length:=by rw [a1,<- a2];exact (List.getElem?_eq_some_iff.1 c).1
    have:=(a5 i v _ b c (List.getElem?_eq_getElem hi)).2.2
    rw [this] at hx;exact henv.1 j x hx
  obtain ⟨w,w1,w2⟩:=ihH _ _ _ _ _ _ u ts q2 h1 hun;refine ⟨w,w1,?_⟩;rw [Tm.sub,if_neg h1];exact FO (IR h1 (by rw [L6,a1]) a3) w2
theorem Axk {f:Nat} (ihE:EvU f) (ihH:HdU f):HdU (f+1):=by
 intro s op n k v s' u ts h h1 hun;obtain ⟨ts',T,hn9,_,e2,har,hl,hk,hc⟩:=Ih hun h1;simp only [RV.node,RV.op,RV.n,RV.k,Tm.mk.injEq,true_and] at e2 har hl hk hc hn9;subst e2;by_cases h5:op=5
 ·subst h5;obtain ⟨t0,tx,rfl⟩:=Ml (Option.some.inj har.symm:ts.length=2);obtain ⟨k0,x,rfl⟩:=Ml (hl.trans rfl:k.length=2);have u0:=hk 0 k0 t0 rfl rfl rfl;have ux:=hk 1 x tx rfl rfl rfl;rcases AjA h with ⟨h4,c,hcc,hev⟩ | ⟨_,rfl⟩
  ·obtain ⟨us,T0,n0,e0,rfl,QA,l0,_,c0⟩:=Ih u0 (by omega);rw [h4] at QA c0 ⊢;obtain ⟨ta,tb,rfl⟩:=Ml (Option.some.inj QA.symm:us.length=2);obtain ⟨rfl,hwa,henv⟩:=c0 1 c tb (by decide) hcc rfl;obtain ⟨w,w1,w2⟩:=ihE _ _ _ _ _ u _ hev hwa (Pt henv ux);refine ⟨w,w1,.step (.beta n k0.n ta _ _ tx tx (BT _) (BT _)) ?_⟩;rw [HI]
   have:(fun i=>(GK (Ae 4 1) (T0 1) i).sub (s1 tx))=fun i=>match i with | 0=>tx | j+1=>T0 1 j:=by
    funext i
    cases i with
    | zero=>simp [GK,JY,s1,show Ae 4 1=1 from rfl]
    | succ i =>
     simp only [GK,show Ae 4 1=1 from rfl]
     rw [if_neg (by omega),Nat.add_sub_cancel,LZ _ _ _ (fun j=>rfl)]
   rw [this];exact w2
  ·exact ⟨_,hun,.refl _⟩
 by_cases h89:op=8\/op=9
 ·have hl1:ts.length=1:=by rcases h89 with rfl | rfl<;>exact Option.some.inj har.symm
  obtain ⟨t0,rfl⟩:=Cs hl1;obtain ⟨k0,rfl⟩:=Cs (hl.trans rfl:k.length=1);have u0:=hk 0 k0 t0 (by rcases h89 with rfl | rfl<;>rfl) rfl rfl;rcases Xj h89 h with ⟨h7,hx⟩ | ⟨_,rfl⟩
  ·obtain ⟨us,T0,n0,e0,rfl,QA,l0,hk0,_⟩:=Ih u0 (by omega);rw [h7] at QA hk0 ⊢;obtain ⟨ta,tb,tc,rfl⟩:=Arj (Option.some.inj QA.symm:us.length=3);rcases h89 with rfl | rfl
   ·exact ⟨tb,hk0 1 v tb rfl hx rfl,Hd (.fst n k0.n ta tb tb tc (BT _))⟩
   ·exact ⟨tc,hk0 2 v tc rfl hx rfl,Hd (.snd n k0.n ta tb tc tc (BT _))⟩
  ·exact ⟨_,hun,.refl _⟩
 by_cases h30:op=30
 ·subst h30;obtain ⟨t0,rfl⟩:=Cs (Option.some.inj har.symm:ts.length=1);obtain ⟨k0,rfl⟩:=Cs (hl.trans rfl:k.length=1);have u0:=hk 0 k0 t0 rfl rfl rfl;rcases WC h with ⟨h7,hx⟩ | ⟨_,rfl⟩
  ·obtain ⟨us,T0,n0,e0,rfl,QA,l0,hk0,_⟩:=Ih u0 (by omega);rw [h7] at QA hk0 ⊢;obtain ⟨ta,rfl⟩:=Cs (Option.some.inj QA.symm:us.length=1);exact ⟨ta,hk0 0 v ta rfl hx rfl,by rw [hn9 (.inr rfl),n0 (.inl h7)];exact Hd (.splq ta ta (BT _))⟩
  ·exact ⟨_,hun,.refl _⟩
 by_cases h19:op=19
 ·subst h19;obtain ⟨t0,rfl⟩:=Cs (Option.some.inj har.symm:ts.length=1);obtain ⟨k0,rfl⟩:=Cs (hl.trans rfl:k.length=1);have u0:=hk 0 k0 t0 rfl rfl rfl;rcases W1 h with ⟨h7,hx⟩ | ⟨_,rfl⟩
  ·obtain ⟨us,T0,n0,e0,rfl,QA,l0,hk0,_⟩:=Ih u0 (by omega);rw [h7] at QA hk0 ⊢;obtain ⟨ta,rfl⟩:=Cs (Option.some.inj QA.symm:us.length=1);exact ⟨ta,hk0 0 v ta rfl hx rfl,by rw [hn9 (.inl rfl),n0 (.inr h7)];exact Hd (.quos ta ta (BT _))⟩
  ·exact ⟨_,hun,.refl _⟩
 by_cases h13:op=13
 ·subst h13;obtain ⟨t0,t1,t2,t3,rfl⟩:=Nd (Option.some.inj har.symm:ts.length=4);obtain ⟨k0,k1,k2,k3,rfl⟩:=Nd (hl.trans rfl:k.length=4);have u1:=hk 1 k1 t1 rfl rfl rfl;have u3:=hk 3 k3 t3 rfl rfl rfl;rcases W7 h with ⟨h11,rfl⟩ | ⟨h12,x,w,s1',hx,hw,hv⟩ | ⟨_,rfl⟩
  ·obtain ⟨us,T0,n0,e0,rfl,QA,l0,hk0,_⟩:=Ih u3 (by omega);rw [h11];exact ⟨t1,u1,Hd (.recz n k3.n t0 t1 t1 t2 us (BT _))⟩
  ·obtain ⟨us,T0,n0,e0,rfl,QA,l0,hk0,_⟩:=Ih u3 (by omega);rw [h12] at QA hk0 ⊢;obtain ⟨tk,rfl⟩:=Cs (Option.some.inj QA.symm:us.length=1);have ux:=hk0 0 x tk rfl hx rfl;obtain ⟨c2,hwa2,henv2⟩:=hc 2 k2 t2 (by decide) rfl rfl;have hun2:Un u (.node 13 0 [k0,k1,k2,x]) (.mk 13 0 [t0,t1,t2,tk]):=by
    refine .node u 13 0 _ _ T (by decide) (by omega) rfl rfl ?_ ?_ ?_ ?_
    ·intro i v t hb a b
     match i with
     | 0=>exact absurd hb (by decide)
     | 1=>simp at a b;subst a b;exact u1
     | 2=>exact absurd hb (by decide)
     | 3=>simp at a b;subst a b;exact ux
     | i+4=>simp at a
    ·intro i v t hb a b
     match i with
     | 0=>simp at a b;subst a b;exact ⟨(hc 0 k0 t0 hb rfl rfl).1,(hc 0 k0 t0 hb rfl rfl).2.1⟩
     | 1=>exact absurd hb (by decide)
     | 2=>simp at a b;subst a b;exact ⟨(hc 2 k2 t2 hb rfl rfl).1,(hc 2 k2 t2 hb rfl rfl).2.1⟩
     | 3=>exact absurd hb (by decide)
     | i+4=>simp at a
    ·intro i v j hb a hj
     match i with
     | 0=>simp at a;subst a;exact (hc 0 k0 t0 hb rfl rfl).2.2.2 j hj
     | 1=>exact absurd hb (by decide)
     | 2=>simp at a;subst a;exact (hc 2 k2 t2 hb rfl rfl).2.2.2 j hj
     | 3=>exact absurd hb (by decide)
     | i+4=>simp at a
    ·intro i v j y hb a hy
     match i with
     | 0=>simp at a;subst a;exact (hc 0 k0 t0 hb rfl rfl).2.2.1 j y hy
     | 1=>exact absurd hb (by decide)
     | 2=>simp at a;subst a;exact (hc 2 k2 t2 hb rfl rfl).2.2.1 j y hy
     | 3=>exact absurd hb (by decide)
     | i+4=>simp at a
   obtain ⟨tw,w1,w2⟩:=ihH _ _ _ _ _ _ u _ hw (by decide) hun2;have henv3:=Pt (Pt henv2 ux) w1;rw [List.append_assoc] at henv3;obtain ⟨tv,v1,v2⟩:=ihE _ _ _ _ _ u _ hv hwa2 henv3;refine ⟨tv,v1,.step (.recs n k3.n t0 t0 t1 t1 t2 t2 tk tk (BT _) (BT _) (BT _) (BT _)) ?_⟩;have e2:t2=k2.b.sub (GK 2 (T 2)):=c2;have e3:∀r:Tm,t2.sub (s2 r tk)=k2.b.sub (fun i=>if i=0 then r else (fun i=>match i with | 0=>tw | j+1=>(fun i=>match i with | 0=>tk | j+1=>T 2 j) j) i):=by
    intro r;rw [e2,HI];congr 1
    funext i
    match i with
    | 0=>simp [GK,JY,s2]
    | 1=>simp [GK,JY,s2]
    | i+2 =>
     simp only [GK];rw [if_neg (by omega),if_neg (by omega),Nat.add_sub_cancel,LZ _ _ _ (fun j=>rfl)]
   rw [e3];refine FO (AoI k2.b _ 0 w2) ?_;have e4:(fun i=>if i=0 then tw else (fun i=>match i with | 0=>tw | j+1=>(fun i=>match i with | 0=>tk | j+1=>T 2 j) j) i)=(fun i=>match i with | 0=>tw | j+1=>(fun i=>match i with | 0=>tk | j+1=>T 2 j) j:Nat->Tm):=by
    funext i
    cases i with
    | zero=>simp
    | succ i=>simp
   rw [e4];exact v2
  ·exact ⟨_,hun,.refl _⟩
 obtain ⟨rfl,_⟩:=Kd h (by omega);exact ⟨_,hun,.refl _⟩
theorem Aae:∀f,EvU f/\HdU f:=by
 intro f
 induction f with
 | zero=>exact ⟨(by intro s t env v s' u τ h;rw [AB] at h;cases h),(by intro s op n k v s' u ts h;rw [headR] at h;cases h)⟩
 | succ f ih=>exact ⟨AwR ih.1 ih.2,Axk ih.1 ih.2⟩
theorem Apv:∀(f:Nat) (s nd:Int) (v:RV) (u:Nat) (d:Int) (t:Tm) (s' nd':Int) (w:Tm),AL f s nd 0 v u d=some (t,s',nd',0)->Un u v w->Pars w t:=by
 intro f
 induction f with
 | zero=>intro s nd v u d t s' nd' w h;rw [AL] at h;cases h
 | succ f ih =>
  intro s nd v u d t s' nd' w h hun;rcases VV h with ⟨h1,rfl⟩ | ⟨h1,ts,hrk,rfl⟩
  ·cases hun with
   | var=>exact .refl _
   | node op n k us T h2=>exact absurd h1 h2
  ·obtain ⟨us,T,_,e1,rfl,har,hl,hk,hc⟩:=Ih hun h1;obtain ⟨n1,n2⟩:=Mf (fun s nd e v u t s' nd' h=>Dx h) v.op u v.k 0 s (nd+1) 0 ts s' nd' hrk;refine IR h1 (by rw [n1,hl]) (fun i a b ha hb=>?_);have hi:i<v.k.length:=by rw [hl];exact (List.getElem?_eq_some_iff.1 ha).1
   have hki:=List.getElem?_eq_getElem hi;obtain ⟨q1,q2,k',q3,q4,⟨q5,q6⟩,q7⟩:=n2 i _ b hki hb;rw [Nat.zero_add] at q5 q6 q7;by_cases hb0:Ae v.op i=0
   ·have:=q6 hb0
    subst this;rw [hb0] at q7;simp only [Int.ofNat_zero,Int.add_zero] at q7;exact ih _ _ _ u _ _ _ _ a (by simpa using q7) (hk i _ a hb0 hki ha)
   ·have hbp:0<Ae v.op i:=by omega
    obtain ⟨s0,hev⟩:=q5 hbp;obtain ⟨rfl,hwa,henv⟩:=hc i _ a hbp hki ha;obtain ⟨w',w1,w2⟩:=(Aae f).1 _ _ _ _ _ (u+Ae v.op i) _ hev hwa (ApO henv _);rw [show (u:Int)+(Ae v.op i:Int)=((u+Ae v.op i:Nat):Int) by omega] at q7
    exact FO w2 (ih q1 q2 k' (u+Ae v.op i) (d+1) b q3 q4 w' q7 w1)
theorem Qa {f:Nat} {t n:Tm} {k:Nat} (h:AF f t=some (n,0)) (ht:t.sc k):Pars t n:=by
 rw [AF] at h;cases he:AB f 0 0 t [] with
 | none=>rw [he] at h;cases h
 | some q =>
  obtain ⟨v,s,e⟩:=q;rw [he] at h;simp only at h;cases hr:AL f s 0 e v 0 1 with
  | none=>rw [hr] at h;cases h
  | some q =>
   obtain ⟨w,s2,nd2,e2⟩:=q;rw [hr] at h;simp only [AB5] at h;by_cases h2:e2≠0
   ·rw [if_pos h2] at h;simp only [AB6] at h;exact absurd h.2 h2
   rw [if_neg h2] at h;simp only [AB6,and_true] at h;subst h;have he2:e2=0:=by omega
   subst he2;have he0:=Dx hr;subst he0;obtain ⟨x,x1,x2⟩:=(Aae f).1 _ _ _ _ _ 0 vT he (Aqz t k ht) Alk;rw [T6] at x2;exact FO x2 (Apv f s 0 v 0 1 w s2 nd2 x (by simpa using hr) x1)
inductive PT:Tm->Prop
 | int:PT (.mk 15 0 [])
 | bin (op:Int) (a b:Tm) (ho:op=16\/op=17) (ha:PT a) (hb:PT b):PT (.mk op 0 [a,b])
def Bh:Tm:=.mk 15 0 []
inductive OT (m:Nat):List Tm->Tm->Tm->Prop
 | var (g:List Tm) (i:Nat) (P:Tm) (hP:PT P) (hw:P.wt<=m) (hi:i<g.length) (h:g[g.length - 1 - i]?=some P):OT m g (.mk 1 (i:Int) []) P
 | oint (g:List Tm) (n:Int) (hm:1<=m):OT m g (.mk 25 n []) Bh
 | oprim (g:List Tm) (n:Int) (a b:Tm) (ha:OT m g a Bh) (hb:OT m g b Bh):OT m g (.mk 26 n [a,b]) Bh
 | olam (g:List Tm) (a b c:Tm) (ha:PT a) (hw:(Tm.mk 16 0 [a,c]).wt<=m) (hb:OT m (g++[a]) b c):OT m g (.mk 20 0 [a,b]) (.mk 16 0 [a,c])
 | oapp (g:List Tm) (f x a c:Tm) (hf:OT m g f (.mk 16 0 [a,c])) (hx:OT m g x a):OT m g (.mk 21 0 [f,x]) c
 | opair (g:List Tm) (x y a b:Tm) (hw:(Tm.mk 17 0 [a,b]).wt<=m) (hx:OT m g x a) (hy:OT m g y b):OT m g (.mk 22 0 [x,y]) (.mk 17 0 [a,b])
 | ofst (g:List Tm) (x a b:Tm) (hx:OT m g x (.mk 17 0 [a,b])):OT m g (.mk 23 0 [x]) a
 | oif (g:List Tm) (c x y a:Tm) (hc:OT m g c Bh) (hx:OT m g x a) (hy:OT m g y a):OT m g (.mk 27 0 [c,x,y]) a
 | olet (g:List Tm) (x y a b:Tm) (hx:OT m g x a) (hy:OT m (g++[a]) y b):OT m g (.mk 28 0 [x,y]) b
 | ofix (g:List Tm) (a x:Tm) (ha:PT a) (hw:a.wt<=m) (hx:OT m (g++[a]) x a):OT m g (.mk 29 0 [a,x]) a
def mw (P:Tm):Nat:=max P.wt 3+7
def natT:Tm:=.mk 10 0 []
def tyT:Tm:=.mk 14 0 []
def opO (X:Tm):Prop:=X.op=2\/X.op=3\/X.op=6
def Sem (g:List Tm) (A t:Tm):Prop:=(Pars A natT/\∃k,Pars t (HH k))\/(Pars A tyT/\∃P,PT P/\Pars t P)\/(∃P c,PT P/\Pars A (.mk 18 0 [P])/\Pars t (.mk 19 0 [c])/\OT (mw P) g c P)\/∃X,Pars A X/\opO X
def Bw:Nat:=2000000000000000
structure EnvK (g:Bb) (G:List Nat) (D:List Tm) (σ:Nat->Tm):Prop where
 v1:∀i T,i<g.length->g[g.length - 1 - i]?=some (1,T)->T.sc (g.length - 1 - i)/\T.wt<=Bw/\(∃s,HasT G (T.ren fun x=>x+(i+1)) (10+s))/\Sem D (T.sub fun x=>σ (x+(i+1))) (σ i)
 v0:∀i T,i<g.length->g[g.length - 1 - i]?=some (0,T)->T.sc (g.length - 1 - i)/\T.wt<=Bw/\HasT G (T.ren fun x=>x+(i+1)) 1/\∃P j,PT P/\Pars (T.sub fun x=>σ (x+(i+1))) P/\σ i=vT j/\j<D.length/\D[D.length - 1 - j]?=some P
structure OkT (P:Tm):Prop where
 pt:PT P
 w:P.wt<=3000
 d:P.dp<=120
inductive OK7:List Tm->Tm->Tm->Prop
 | var (g:List Tm) (i:Nat) (P:Tm) (hP:OkT P) (hi:i<g.length) (h:g[g.length - 1 - i]?=some P):OK7 g (.mk 1 (i:Int) []) P
 | oint (g:List Tm) (n:Int):OK7 g (.mk 25 n []) Bh
 | oprim (g:List Tm) (n:Int) (a b:Tm) (ha:OK7 g a Bh) (hb:OK7 g b Bh):OK7 g (.mk 26 n [a,b]) Bh
 | olam (g:List Tm) (n:Int) (a b c:Tm) (hP:OkT (.mk 16 0 [a,c])) (hb:OK7 (g++[a]) b c):OK7 g (.mk 20 n [a,b]) (.mk 16 0 [a,c])
 | oapp (g:List Tm) (n:Int) (f x a c:Tm) (hf:OK7 g f (.mk 16 0 [a,c])) (hx:OK7 g x a):OK7 g (.mk 21 n [f,x]) c
 | opair (g:List Tm) (n:Int) (x y a b:Tm) (hP:OkT (.mk 17 0 [a,b])) (hx:OK7 g x a) (hy:OK7 g y b):OK7 g (.mk 22 n [x,y]) (.mk 17 0 [a,b])
 | ofst (g:List Tm) (n:Int) (x a b:Tm) (hx:OK7 g x (.mk 17 0 [a,b])):OK7 g (.mk 23 n [x]) a
 | osnd (g:List Tm) (n:Int) (x a b:Tm) (hx:OK7 g x (.mk 17 0 [a,b])):OK7 g (.mk 24 n [x]) b
 | oif (g:List Tm) (n:Int) (c x y a:Tm) (hc:OK7 g c Bh) (hx:OK7 g x a) (hy:OK7 g y a):OK7 g (.mk 27 n [c,x,y]) a
 | olet (g:List Tm) (n:Int) (x y a b:Tm) (hx:OK7 g x a) (hy:OK7 (g++[a]) y b):OK7 g (.mk 28 n [x,y]) b
 | ofix (g:List Tm) (n:Int) (a x:Tm) (hP:OkT a) (hx:OK7 (g++[a]) x a):OK7 g (.mk 29 n [a,x]) a
theorem Ath {n:Nat} (g:Bb) (st:Int) (a:Tm) (hg:g.length<=100000) (hn:0<n):BW (SS dt n 79 [.fv (A6 g),iv st,.fv a.enc] ⟨[],[]⟩) (A6 (g++[(st,a)])):=by
 obtain ⟨n,rfl⟩:=psc n (by omega);rw [c79];rw [A6,A6,List.map_append,ACb,ACa];cases g with
 | nil =>
  have h0:=fun {β:Type}=>AjK (β:=β) (E:=EE) sV1 (.sl []) (s0:=.clip []) (.inr rfl);have happ:=fun {β:Type}=>JT (β:=β) sV1 (.clip [v1 (st,a)]) (GE [(st,a)]) rfl (by simp) (s0:=.clip []) (.inr rfl);obtain ⟨o,p,k⟩:=a;simp only [v1,Tm.op,Tm.n,Tm.kids] at happ ⊢;rw [Ag];simp only [Xh,Yh,S79,↓XX,XY,↓reduceIte,seval,↓Tw,↓h0,↓SV,↓happ];exact Bl rfl _
 | cons t g =>
  have h0:=fun {β:Type}=>JT (β:=β) sV1 (.sl ((t::g).map v1)) (GE (t::g)) rfl (by simp at hg ⊢;omega) (s0:=.clip []) (.inr rfl);have happ:=fun {β:Type}=>Re (β:=β) sV1 (es:=(t::g).map v1) (es2:=[v1 (st,a)]) (.clip _) (GE [(st,a)]) (GE (t::g)) (AlT [(st,a)]) (by simp at hg ⊢;omega);obtain ⟨o,p,k⟩:=a;simp only [ACb,List.length_map,AB9,List.length_nil,List.cons_append] at h0 happ ⊢;simp only [v1,Tm.op,Tm.n,Tm.kids] at h0 happ ⊢;rw [Ag];simp only [Xh,Yh,S79,↓XX,XY,↓reduceIte,seval,↓Tw,↓h0,↓SV,↓happ,HN];exact Bl rfl _
theorem Axx {n:Nat} {G:FV} {st:Int} {a:Tm} (ks:List Tm) (hl:ks.length<=1000) (hn:ks.length<n) (h:∀t∈ks,BW (SS dt n 48 [.fv G,iv st,.fv t.enc,.fv a.enc] ⟨[],[]⟩) (.int .i64 0)) :
  BW (SS dt (n+1) 49 [.fv G,iv st,.fv (.sl (ks.map Tm.enc)),.fv a.enc] ⟨[],[]⟩) (.int .i64 0):=by
 rw [c49];obtain ⟨oa,na,ka⟩:=a;simp only [Ag] at h ⊢;simp only [J6,Km,Kl,S49,↓XX,XY,↓reduceIte,seval];refine Bd (Q:=fun r=>BW r _) (fun k V H=>∃pre rest,ks=pre++rest/\rest.length=k/\V=[.fv G,iv st,.fv (.sl (ks.map Tm.enc)),.ptr (.own 51380224) 0,iv pre.length] /\
  H=⟨[(51380224,.row [iv oa,iv na,.fv (.sl (ka.map Tm.enc))] false)],[]⟩) ?_ n ks.length _ _ (by omega) ⟨[],ks,rfl,rfl,rfl,rfl⟩
 rintro k V H rec ⟨pre,rest,hk,hkl,rfl,rfl⟩ hrec;have hkk:ks.length=pre.length+rest.length:=by rw [hk];simp
 cases rest with
 | nil =>
  have hno:¬ ((pre.length:Int)<ks.length):=by rw [hkk];simp
  simp only [J6,Km,Kl,PD,S49,↓XX,XY,↓reduceIte,seval,hno];exact Aw _ _
 | cons t rest =>
  have hi:(pre.length:Int)<ks.length:=by rw [hkk];simp;omega
  have hg:=Cr hk;have hc:=h t (by rw [hk];simp);have hwi:BM ((pre.length:Int)+1)=((pre++[t]).length:Int):=(Av (by omega) (by omega)).trans (by simp);simp only [AB9] at hkl;have h9:=hrec rest.length [.fv G,iv st,.fv (.sl (ks.map Tm.enc)),.ptr (.own 51380224) 0,iv (pre++[t]).length] _ (by omega) ⟨pre++[t],rest,by rw [hk];simp,rfl,rfl,rfl⟩;obtain ⟨o,p,l⟩:=t;rw [Ag] at hc;simp only [J6,Km,Kl,PD,S49,↓XX,XY,↓reduceIte,seval,hi,↓BS (AY hg) (BA _ _ _),↓CB,↓Au hc,hwi];exact h9
def AiK {k:Nat} (hk:k<=1000) {a b:Tm} (ha:a.sc k) (hb:b.sc k) (hda:a.dp<=20000) (hdb:b.dp<=20000):∃w e,Ev 82 [.fv a.enc,.fv b.enc] (.tuple [.bool w,.int .i64 e]) /\
  ((e=5\/e=17)\/e=0/\∃f x f' y,AF f a=some (x,0)/\AF f' b=some (y,0)/\NOk k x/\NOk k y/\w=x.eta.same y.eta):=by
 obtain ⟨x,e,⟨N1,h1⟩,c1,f,hf⟩:=Fa hk ha hda;obtain ⟨y,e',⟨N2,h2⟩,c2,f',hf'⟩:=Fa hk hb hdb;rcases c1 with ⟨rfl,hx⟩ | ⟨he,rfl⟩
 ·rcases c2 with ⟨rfl,hy⟩ | ⟨he',rfl⟩
  ·refine ⟨x.eta.same y.eta,0,⟨N1+N2+100000,fun n hn=>?_⟩,.inr ⟨rfl,f,x,f',y,hf,hf',hx,hy,rfl⟩⟩;obtain ⟨n,rfl⟩:=psc n (by omega);have h1:=h1 n (by omega);have h2:=h2 n (by omega);have xw:=hx.wt;have yw:=hy.wt;have e1:=NE n x k hx.sc (by omega) (by omega);have e2:=NE n y k hy.sc (by omega) (by omega);have w1:=(TH x k hx.sc (by omega)).2;have w2:=(TH y k hy.sc (by omega)).2;have s1:=I8 n x.eta y.eta (by omega) (by omega);rw [c82];clear hf hf' hx hy;generalize x.eta.same y.eta=sm at s1 ⊢;generalize x.eta=xe at e1 s1;generalize y.eta=ye at e2 s1;obtain ⟨o1,p1,k1⟩:=a;obtain ⟨o2,p2,k2⟩:=b;obtain ⟨o3,p3,k3⟩:=x;obtain ⟨o4,p4,k4⟩:=y;obtain ⟨o5,p5,k5⟩:=xe;obtain ⟨o6,p6,k6⟩:=ye;simp only [Ag] at h1 h2 e1 e2 s1 ⊢;simp only [UM,UR,Ti,RZ,Vk,S82,↓XX,XY,↓reduceIte,seval,↓Ap h1,↓Ap h2,↓Ap e1,↓Ap e2,↓Ad s1];exact Bi rfl
  ·have hne:e'≠0:=by omega
   refine ⟨false,e',⟨N1+N2+1,fun n hn=>?_⟩,.inl he'⟩;obtain ⟨n,rfl⟩:=psc n (by omega);have h1:=h1 n (by omega);have h2:=h2 n (by omega);rw [c82];clear hf hf' hx;obtain ⟨o1,p1,k1⟩:=a;obtain ⟨o2,p2,k2⟩:=b;obtain ⟨o3,p3,k3⟩:=x;simp only [Ag,Tm.z,ACa] at h1 h2 ⊢;simp only [UM,UR,Ti,RZ,Vk,S82,↓XX,XY,↓reduceIte,seval,↓Ap h1,↓Ap h2,hne];exact Bi rfl
 ·have hne:e≠0:=by omega
  refine ⟨false,e,⟨N1+1,fun n hn=>?_⟩,.inl he⟩;obtain ⟨n,rfl⟩:=psc n (by omega);have h1:=h1 n (by omega);rw [c82];clear hf hf';obtain ⟨o1,p1,k1⟩:=a;obtain ⟨o2,p2,k2⟩:=b;simp only [Ag,Tm.z,ACa] at h1 ⊢;simp only [UM,UR,Ti,RZ,Vk,S82,↓XX,XY,↓reduceIte,seval,↓Ap h1,hne];exact Bi rfl
def zeT:Tm:=.mk 11 0 []
def JI (G:FV) (st:Int) (t r:Tm) (e:Int):Prop:=Ev 20 [.fv G,iv st,.fv t.enc] (.tuple [r.enc,.int .i64 e])
def JC (G:FV) (st:Int) (t a:Tm) (e:Int):Prop:=Ev 48 [.fv G,iv st,.fv t.enc,.fv a.enc] (.int .i64 e)
def JCs (G:FV) (st:Int) (ks:List Tm) (a:Tm) (e:Int):Prop:=Ev 49 [.fv G,iv st,.fv (.sl (ks.map Tm.enc)),.fv a.enc] (.int .i64 e)
def JS (G:FV) (st:Int) (t:Tm) (op:Int) (r:Tm) (e:Int):Prop:=Ev 80 [.fv G,iv st,.fv t.enc,iv op] (.tuple [r.enc,.int .i64 e])
def JL (G:FV) (t:Tm) (m e:Int):Prop:=Ev 83 [.fv G,.fv t.enc] (.tuple [.int .i64 m,.int .i64 e])
def JU (G:FV) (a b r:Tm) (e:Int):Prop:=Ev 78 [.fv G,.fv a.enc,.fv b.enc] (.tuple [r.enc,.int .i64 e])
def JD (c r:Tm) (e:Int):Prop:=Ev 105 [.fv c.enc] (.tuple [r.enc,.int .i64 e])
def JO (G:FV) (t r:Tm) (e:Int):Prop:=Ev 46 [.fv G,.fv t.enc] (.tuple [r.enc,.int .i64 e])
def JP (G:FV) (t r:Tm) (e:Int):Prop:=Ev 81 [.fv G,.fv t.enc] (.tuple [r.enc,.int .i64 e])
def JM (G:FV) (t r:Tm) (e:Int):Prop:=Ev 50 [.fv G,.fv t.enc] (.tuple [r.enc,.int .i64 e])
def JPr (G:FV) (t r:Tm) (e:Int):Prop:=Ev 84 [.fv G,.fv t.enc] (.tuple [r.enc,.int .i64 e])
def JR (G:FV) (t r:Tm) (e:Int):Prop:=Ev 85 [.fv G,.fv t.enc] (.tuple [r.enc,.int .i64 e])
def JN (t r:Tm) (e:Int):Prop:=Ev 34 [.fv t.enc] (.tuple [r.enc,.int .i64 e])
def JE (a b:Tm) (w:Bool) (e:Int):Prop:=Ev 82 [.fv a.enc,.fv b.enc] (.tuple [.bool w,.int .i64 e])
def JB (G:FV) (st:Int) (a:Tm) (G1:FV):Prop:=Ev 79 [.fv G,iv st,.fv a.enc] G1
def JSh (a:Tm) (d c:Int) (r:Tm):Prop:=Ev 45 [.fv a.enc,iv d,iv c] r.enc
def JSu (a u r:Tm):Prop:=Ev 67 [.fv a.enc,iv 0,.fv u.enc] r.enc
def JF (c:Tm) (w:Bool):Prop:=Ev 107 [.fv c.enc,iv 0] (.bool w)
def JNx (p r:Tm):Prop:=Ev 106 [.fv p.enc] r.enc
def BB {n:Nat} (hn:0<n) (e:Int):BW (SS dt n 44 [iv e] ⟨[],[]⟩) (.tuple [Tm.z.enc,.int .i64 e]):=by
 obtain ⟨n,rfl⟩:=psc n (by omega);rw [c44];simp only [Tm.z,Ag,ACa];simp only [S44,↓XX,XY,↓reduceIte,seval];exact Bi rfl
def AwB {G:FV} {t a b:Tm} {st e:Int}  (s0:e≠0) (h0:JI G st t b e):JC G st t a e:=by
 obtain ⟨N0,h0⟩:=h0;refine ⟨N0+200,fun n hn=>?_⟩;obtain ⟨n,rfl⟩:=psc n (by omega);have h0:=h0 n (by omega);rw [c48];obtain ⟨ot,pt,kt⟩:=t;obtain ⟨oa,pa,ka⟩:=a;obtain ⟨ob,pb,kb⟩:=b;simp only [Ag,ACb,ACa,Bh,tyT,natT,Tm.z,Tm.op,Tm.n] at h0 ⊢;simp (maxSteps:=1000000) only [RX,Sp,UF,S48,↓XX,XY,↓reduceIte,seval,↓AA h0,s0];exact Bi rfl
def Avd {G:FV} {t a b:Tm} {st e:Int} {w:Bool}  (s0:e≠0) (h0:JI G st t b 0) (h1:JE b a w e):JC G st t a e:=by
 obtain ⟨N0,h0⟩:=h0;obtain ⟨N1,h1⟩:=h1;refine ⟨N0+N1+200,fun n hn=>?_⟩;obtain ⟨n,rfl⟩:=psc n (by omega);have h0:=h0 n (by omega);have h1:=h1 n (by omega);rw [c48];obtain ⟨ot,pt,kt⟩:=t;obtain ⟨oa,pa,ka⟩:=a;obtain ⟨ob,pb,kb⟩:=b;simp only [Ag,ACb,ACa,Bh,tyT,natT,Tm.z,Tm.op,Tm.n] at h0 h1 ⊢;simp (maxSteps:=1000000) only [RX,Sp,UF,S48,↓XX,XY,↓reduceIte,seval,↓AA h0,↓Ad h1,s0];exact Bi rfl
def Axh {G:FV} {t a b:Tm} {st:Int}  (h0:JI G st t b 0) (h1:JE b a true 0):JC G st t a 0:=by
 obtain ⟨N0,h0⟩:=h0;obtain ⟨N1,h1⟩:=h1;refine ⟨N0+N1+200,fun n hn=>?_⟩;obtain ⟨n,rfl⟩:=psc n (by omega);have h0:=h0 n (by omega);have h1:=h1 n (by omega);rw [c48];obtain ⟨ot,pt,kt⟩:=t;obtain ⟨oa,pa,ka⟩:=a;obtain ⟨ob,pb,kb⟩:=b;simp only [Ag,ACb,ACa,Bh,tyT,natT,Tm.z,Tm.op,Tm.n] at h0 h1 ⊢;simp (maxSteps:=1000000) only [RX,Sp,UF,S48,↓XX,XY,↓reduceIte,seval,↓AA h0,↓Ad h1];exact Bi rfl
def Amv {G:FV} {t b:Tm} {st op e:Int}  (s0:e≠0) (h0:JI G st t b e):JS G st t op .z e:=by
 obtain ⟨N0,h0⟩:=h0;refine ⟨N0+200,fun n hn=>?_⟩;obtain ⟨n,rfl⟩:=psc n (by omega);have h0:=h0 n (by omega);have hnone:=BB (n:=n) (by omega) e;rw [c80];obtain ⟨ot,pt,kt⟩:=t;obtain ⟨ob,pb,kb⟩:=b;simp only [Ag,ACb,ACa,Bh,tyT,natT,Tm.z,Tm.op,Tm.n] at h0 hnone ⊢;simp (maxSteps:=1000000) only [Ya,Xd,XZ,Yp,XU,S80,↓XX,XY,↓reduceIte,seval,↓Ap hnone,↓AA h0,s0];exact Bi rfl
def Aj7 {G:FV} {t b:Tm} {st op:Int}  (s0:b.op=op) (h0:JI G st t b 0):JS G st t op b 0:=by
 obtain ⟨N0,h0⟩:=h0;refine ⟨N0+200,fun n hn=>?_⟩;obtain ⟨n,rfl⟩:=psc n (by omega);have h0:=h0 n (by omega);rw [c80];obtain ⟨ot,pt,kt⟩:=t;obtain ⟨ob,pb,kb⟩:=b;simp only [Ag,ACb,ACa,Bh,tyT,natT,Tm.z,Tm.op,Tm.n] at h0 ⊢;simp only [Tm.op,Tm.n] at s0;simp (maxSteps:=1000000) only [Ya,Xd,XZ,Yp,XU,S80,↓XX,XY,↓reduceIte,seval,↓AA h0,s0];exact Bi rfl
def Azk {G:FV} {t b:Tm} {e:Int}  (s0:e≠0) (h0:JI G 1 t b e):JL G t 0 e:=by
 obtain ⟨N0,h0⟩:=h0;refine ⟨N0+200,fun n hn=>?_⟩;obtain ⟨n,rfl⟩:=psc n (by omega);have h0:=h0 n (by omega);rw [c83];obtain ⟨ot,pt,kt⟩:=t;obtain ⟨ob,pb,kb⟩:=b;simp only [Ag,ACb,ACa,Bh,tyT,natT,Tm.z,Tm.op,Tm.n] at h0 ⊢;simp (maxSteps:=1000000) only [X7,Xg,YZ,S83,↓XX,XY,↓reduceIte,seval,↓AA h0,s0];exact Bi rfl
def Ayx {G:FV} {t b:Tm}  (s0:b.op=2) (h0:JI G 1 t b 0):JL G t b.n 0:=by
 obtain ⟨N0,h0⟩:=h0;refine ⟨N0+200,fun n hn=>?_⟩;obtain ⟨n,rfl⟩:=psc n (by omega);have h0:=h0 n (by omega);rw [c83];obtain ⟨ot,pt,kt⟩:=t;obtain ⟨ob,pb,kb⟩:=b;simp only [Ag,ACb,ACa,Bh,tyT,natT,Tm.z,Tm.op,Tm.n] at h0 ⊢;simp only [Tm.op,Tm.n] at s0;simp (maxSteps:=1000000) only [X7,Xg,YZ,S83,↓XX,XY,↓reduceIte,seval,↓AA h0,s0];exact Bi rfl
def AzR {c r:Tm}  (h0:JF c false) (h1:JSu c zeT r):JD c r 0:=by
 obtain ⟨N0,h0⟩:=h0;obtain ⟨N1,h1⟩:=h1;refine ⟨N0+N1+200,fun n hn=>?_⟩;obtain ⟨n,rfl⟩:=psc n (by omega);have h0:=h0 n (by omega);have h1:=h1 n (by omega);have t11:=AO (n:=n) (by omega) 11;rw [AyC];simp only [zeT] at h1;obtain ⟨oc,pc,kc⟩:=c;obtain ⟨or,pr,kr⟩:=r;simp only [Ag,ACb,ACa,Bh,tyT,natT,Tm.z,Tm.op,Tm.n] at h0 h1 t11 ⊢;simp (maxSteps:=1000000) only [Ae8,AdM,AcQ,Aqb,↓XX,XY,↓reduceIte,seval,↓Ad t11,↓Ad h0,↓AA h1];exact Bi rfl
def Ayq {G:FV} {a b c:Tm} {G1:FV} {e:Int}  (s0:e≠0) (h0:JB G 0 a G1) (h1:JI G1 0 b c e):JU G a b .z e:=by
 obtain ⟨N0,h0⟩:=h0;obtain ⟨N1,h1⟩:=h1;refine ⟨N0+N1+200,fun n hn=>?_⟩;obtain ⟨n,rfl⟩:=psc n (by omega);have h0:=h0 n (by omega);have h1:=h1 n (by omega);have hnone:=BB (n:=n) (by omega) e;rw [c78];obtain ⟨oa,pa,ka⟩:=a;obtain ⟨ob,pb,kb⟩:=b;obtain ⟨oc,pc,kc⟩:=c;simp only [Ag,ACb,ACa,Bh,tyT,natT,Tm.z,Tm.op,Tm.n] at h0 h1 hnone ⊢;simp (maxSteps:=1000000) only [X0,Ym,Xm,YY,Xu,S78,↓XX,XY,↓reduceIte,seval,↓Ap hnone,↓AA h0,↓AA h1,s0];exact Bi rfl
def Azs {G:FV} {a b c r:Tm} {G1:FV} {e:Int}  (h0:JB G 0 a G1) (h1:JI G1 0 b c 0) (h2:JD c r e):JU G a b r e:=by
 obtain ⟨N0,h0⟩:=h0;obtain ⟨N1,h1⟩:=h1;obtain ⟨N2,h2⟩:=h2;refine ⟨N0+N1+N2+200,fun n hn=>?_⟩;obtain ⟨n,rfl⟩:=psc n (by omega);have h0:=h0 n (by omega);have h1:=h1 n (by omega);have h2:=h2 n (by omega);rw [c78];obtain ⟨oa,pa,ka⟩:=a;obtain ⟨ob,pb,kb⟩:=b;obtain ⟨oc,pc,kc⟩:=c;obtain ⟨or,pr,kr⟩:=r;simp only [Ag,ACb,ACa,Bh,tyT,natT,Tm.z,Tm.op,Tm.n] at h0 h1 h2 ⊢;simp (maxSteps:=1000000) only [X0,Ym,Xm,YY,Xu,S78,↓XX,XY,↓reduceIte,seval,↓AA h0,↓AA h1,↓Ap h2];exact Bi rfl
def kx {p q r:Tm}  (h0:JSh p 2 1 q) (h1:JSu q (.mk 12 0 [.mk 1 1 []]) r):JNx p r:=by
 obtain ⟨N0,h0⟩:=h0;obtain ⟨N1,h1⟩:=h1;refine ⟨N0+N1+200,fun n hn=>?_⟩;obtain ⟨n,rfl⟩:=psc n (by omega);have h0:=h0 n (by omega);have h1:=h1 n (by omega);have tv:=Al8 (n:=n) (by omega) 1;have u12:=Cx (n:=n) (by omega) 12 [.mk 1 1 []];rw [AyB];obtain ⟨op,pp,kp⟩:=p;obtain ⟨oq,pq,kq⟩:=q;obtain ⟨or,pr,kr⟩:=r;simp only [Ag,ACb,ACa,Bh,tyT,natT,Tm.z,Tm.op,Tm.n] at h0 h1 tv u12 ⊢;simp (maxSteps:=1000000) only [Zu,Aor,↓XX,XY,↓reduceIte,seval,↓Ap tv,↓Ad u12,↓AA h0,↓AA h1,↓De];exact Bi rfl
def Arc {G:FV} {m:Int}  : JO G (.mk 25 m []) Bh 0:=by
 refine ⟨200,fun n hn=>?_⟩;obtain ⟨n,rfl⟩:=psc n (by omega);have t14:=AO (n:=n) (by omega) 14;have t15:=AO (n:=n) (by omega) 15;rw [c46];simp only [Ag,ACb,ACa,Bh,tyT,natT,Tm.z,Tm.op,Tm.n] at t14 t15 ⊢;simp (maxSteps:=1000000) only [↓LK,↓XX,XY,↓reduceIte,seval,↓Ad t14,↓Ad t15];exact Bi rfl
def AiO {G:FV} {a b:Tm} {m:Int} {e:Int}  (s0:e≠0) (h0:JCs G 0 [a,b] Bh e):JO G (.mk 26 m [a,b]) .z e:=by
 obtain ⟨N0,h0⟩:=h0;refine ⟨N0+200,fun n hn=>?_⟩;obtain ⟨n,rfl⟩:=psc n (by omega);have h0:=h0 n (by omega);have t14:=AO (n:=n) (by omega) 14;have t15:=AO (n:=n) (by omega) 15;have hnone:=BB (n:=n) (by omega) e;rw [c46];obtain ⟨oa,pa,ka⟩:=a;obtain ⟨ob,pb,kb⟩:=b;simp only [Ag,ACb,ACa,Bh,tyT,natT,Tm.z,Tm.op,Tm.n] at h0 t14 t15 hnone ⊢;simp (maxSteps:=1000000) only [↓LK,↓XX,XY,↓reduceIte,seval,↓Ad t14,↓Ad t15,↓Ap hnone,↓Au h0,s0];exact Bi rfl
def ApZ {G:FV} {a b:Tm} {m:Int}  (h0:JCs G 0 [a,b] Bh 0):JO G (.mk 26 m [a,b]) Bh 0:=by
 obtain ⟨N0,h0⟩:=h0;refine ⟨N0+200,fun n hn=>?_⟩;obtain ⟨n,rfl⟩:=psc n (by omega);have h0:=h0 n (by omega);have t14:=AO (n:=n) (by omega) 14;have t15:=AO (n:=n) (by omega) 15;rw [c46];obtain ⟨oa,pa,ka⟩:=a;obtain ⟨ob,pb,kb⟩:=b;simp only [Ag,ACb,ACa,Bh,tyT,natT,Tm.z,Tm.op,Tm.n] at h0 t14 t15 ⊢;simp (maxSteps:=1000000) only [↓LK,↓XX,XY,↓reduceIte,seval,↓Ad t14,↓Ad t15,↓Au h0];exact Bi rfl
def AmO {G:FV} {a b:Tm} {m:Int} {e:Int}  (s0:e≠0) (h0:JC G 1 a tyT e):JO G (.mk 20 m [a,b]) .z e:=by
 obtain ⟨N0,h0⟩:=h0;refine ⟨N0+200,fun n hn=>?_⟩;obtain ⟨n,rfl⟩:=psc n (by omega);have h0:=h0 n (by omega);have t14:=AO (n:=n) (by omega) 14;have t15:=AO (n:=n) (by omega) 15;have hnone:=BB (n:=n) (by omega) e;rw [c46];obtain ⟨oa,pa,ka⟩:=a;obtain ⟨ob,pb,kb⟩:=b;simp only [Ag,ACb,ACa,Bh,tyT,natT,Tm.z,Tm.op,Tm.n] at h0 t14 t15 hnone ⊢;simp (maxSteps:=1000000) only [↓LK,↓XX,XY,↓reduceIte,seval,↓Ad t14,↓Ad t15,↓Ap hnone,↓Au h0,s0];exact Bi rfl
def Alz {G:FV} {a b c:Tm} {m:Int} {e:Int}  (s0:e≠0) (h0:JC G 1 a tyT 0) (h1:JU G a b c e):JO G (.mk 20 m [a,b]) .z e:=by
 obtain ⟨N0,h0⟩:=h0;obtain ⟨N1,h1⟩:=h1;refine ⟨N0+N1+200,fun n hn=>?_⟩;obtain ⟨n,rfl⟩:=psc n (by omega);have h0:=h0 n (by omega);have h1:=h1 n (by omega);have t14:=AO (n:=n) (by omega) 14;have t15:=AO (n:=n) (by omega) 15;have hnone:=BB (n:=n) (by omega) e;rw [c46];obtain ⟨oa,pa,ka⟩:=a;obtain ⟨ob,pb,kb⟩:=b;obtain ⟨oc,pc,kc⟩:=c;simp only [Ag,ACb,ACa,Bh,tyT,natT,Tm.z,Tm.op,Tm.n] at h0 h1 t14 t15 hnone ⊢;simp (maxSteps:=1000000) only [↓LK,↓XX,XY,↓reduceIte,seval,↓Ad t14,↓Ad t15,↓Ap hnone,↓Au h0,↓AA h1,s0];exact Bi rfl
def Aub {G:FV} {a b c r:Tm} {m:Int} {e:Int}  (h0:JC G 1 a tyT 0) (h1:JU G a b c 0) (h2:JN (.mk 16 0 [a,c]) r e):JO G (.mk 20 m [a,b]) r e:=by
 obtain ⟨N0,h0⟩:=h0;obtain ⟨N1,h1⟩:=h1;obtain ⟨N2,h2⟩:=h2;refine ⟨N0+N1+N2+200,fun n hn=>?_⟩;obtain ⟨n,rfl⟩:=psc n (by omega);have h0:=h0 n (by omega);have h1:=h1 n (by omega);have h2:=h2 n (by omega);have t14:=AO (n:=n) (by omega) 14;have t15:=AO (n:=n) (by omega) 15;have u16:=Cx (n:=n) (by omega) 16 [a,c];rw [c46];obtain ⟨oa,pa,ka⟩:=a;obtain ⟨ob,pb,kb⟩:=b;obtain ⟨oc,pc,kc⟩:=c;obtain ⟨or,pr,kr⟩:=r;simp only [Ag,ACb,ACa,Bh,tyT,natT,Tm.z,Tm.op,Tm.n] at h0 h1 h2 t14 t15 u16 ⊢;simp (maxSteps:=1000000) only [↓LK,↓XX,XY,↓reduceIte,seval,↓Ad t14,↓Ad t15,↓Ad u16,↓Au h0,↓AA h1,↓Ap h2,↓Cc];exact Bi rfl
def Alo {G:FV} {a b:Tm} {m:Int} {e:Int}  (s0:e≠0) (h0:JC G 1 a tyT e):JO G (.mk 29 m [a,b]) .z e:=by
 obtain ⟨N0,h0⟩:=h0;refine ⟨N0+200,fun n hn=>?_⟩;obtain ⟨n,rfl⟩:=psc n (by omega);have h0:=h0 n (by omega);have t14:=AO (n:=n) (by omega) 14;have t15:=AO (n:=n) (by omega) 15;have hnone:=BB (n:=n) (by omega) e;rw [c46];obtain ⟨oa,pa,ka⟩:=a;obtain ⟨ob,pb,kb⟩:=b;simp only [Ag,ACb,ACa,Bh,tyT,natT,Tm.z,Tm.op,Tm.n] at h0 t14 t15 hnone ⊢;simp (maxSteps:=1000000) only [↓LK,↓XX,XY,↓reduceIte,seval,↓Ad t14,↓Ad t15,↓Ap hnone,↓Au h0,s0];exact Bi rfl
def AkH {G:FV} {a b s:Tm} {m:Int} {e:Int} {G1:FV}  (s0:e≠0) (h0:JC G 1 a tyT 0) (h1:JB G 0 a G1) (h2:JSh a 1 0 s) (h3:JC G1 0 b s e):JO G (.mk 29 m [a,b]) .z e:=by
 obtain ⟨N0,h0⟩:=h0;obtain ⟨N1,h1⟩:=h1;obtain ⟨N2,h2⟩:=h2;obtain ⟨N3,h3⟩:=h3;refine ⟨N0+N1+N2+N3+200,fun n hn=>?_⟩;obtain ⟨n,rfl⟩:=psc n (by omega);have h0:=h0 n (by omega);have h1:=h1 n (by omega);have h2:=h2 n (by omega);have h3:=h3 n (by omega);have t14:=AO (n:=n) (by omega) 14;have t15:=AO (n:=n) (by omega) 15;have hnone:=BB (n:=n) (by omega) e;rw [c46];obtain ⟨oa,pa,ka⟩:=a;obtain ⟨ob,pb,kb⟩:=b;obtain ⟨os,ps,ks⟩:=s;simp only [Ag,ACb,ACa,Bh,tyT,natT,Tm.z,Tm.op,Tm.n] at h0 h1 h2 h3 t14 t15 hnone ⊢;simp (maxSteps:=1000000) only [↓LK,↓XX,XY,↓reduceIte,seval,↓Ad t14,↓Ad t15,↓Ap hnone,↓Au h0,↓AA h1,↓AA h2,↓Au h3,s0];exact Bi rfl
def Asc {G:FV} {a b s r:Tm} {m:Int} {e:Int} {G1:FV}  (h0:JC G 1 a tyT 0) (h1:JB G 0 a G1) (h2:JSh a 1 0 s) (h3:JC G1 0 b s 0) (h4:JN a r e):JO G (.mk 29 m [a,b]) r e:=by
 obtain ⟨N0,h0⟩:=h0;obtain ⟨N1,h1⟩:=h1;obtain ⟨N2,h2⟩:=h2;obtain ⟨N3,h3⟩:=h3;obtain ⟨N4,h4⟩:=h4;refine ⟨N0+N1+N2+N3+N4+200,fun n hn=>?_⟩;obtain ⟨n,rfl⟩:=psc n (by omega);have h0:=h0 n (by omega);have h1:=h1 n (by omega);have h2:=h2 n (by omega);have h3:=h3 n (by omega);have h4:=h4 n (by omega);have t14:=AO (n:=n) (by omega) 14;have t15:=AO (n:=n) (by omega) 15;rw [c46];obtain ⟨oa,pa,ka⟩:=a;obtain ⟨ob,pb,kb⟩:=b;obtain ⟨os,ps,ks⟩:=s;obtain ⟨or,pr,kr⟩:=r;simp only [Ag,ACb,ACa,Bh,tyT,natT,Tm.z,Tm.op,Tm.n] at h0 h1 h2 h3 h4 t14 t15 ⊢;simp (maxSteps:=1000000) only [↓LK,↓XX,XY,↓reduceIte,seval,↓Ad t14,↓Ad t15,↓Au h0,↓AA h1,↓AA h2,↓Au h3,↓Ap h4];exact Bi rfl
def AlX {G:FV} {a b c:Tm} {m:Int} {e:Int}  (s0:e≠0) (h0:JI G 0 a c e):JO G (.mk 28 m [a,b]) .z e:=by
 obtain ⟨N0,h0⟩:=h0;refine ⟨N0+200,fun n hn=>?_⟩;obtain ⟨n,rfl⟩:=psc n (by omega);have h0:=h0 n (by omega);have t14:=AO (n:=n) (by omega) 14;have t15:=AO (n:=n) (by omega) 15;have hnone:=BB (n:=n) (by omega) e;rw [c46];obtain ⟨oa,pa,ka⟩:=a;obtain ⟨ob,pb,kb⟩:=b;obtain ⟨oc,pc,kc⟩:=c;simp only [Ag,ACb,ACa,Bh,tyT,natT,Tm.z,Tm.op,Tm.n] at h0 t14 t15 hnone ⊢;simp (maxSteps:=1000000) only [↓LK,↓XX,XY,↓reduceIte,seval,↓Ad t14,↓Ad t15,↓Ap hnone,↓AA h0,s0];exact Bi rfl
def Ars {G:FV} {a b c r:Tm} {m:Int} {e:Int}  (h0:JI G 0 a c 0) (h1:JU G c b r e):JO G (.mk 28 m [a,b]) r e:=by
 obtain ⟨N0,h0⟩:=h0;obtain ⟨N1,h1⟩:=h1;refine ⟨N0+N1+200,fun n hn=>?_⟩;obtain ⟨n,rfl⟩:=psc n (by omega);have h0:=h0 n (by omega);have h1:=h1 n (by omega);have t14:=AO (n:=n) (by omega) 14;have t15:=AO (n:=n) (by omega) 15;rw [c46];obtain ⟨oa,pa,ka⟩:=a;obtain ⟨ob,pb,kb⟩:=b;obtain ⟨oc,pc,kc⟩:=c;obtain ⟨or,pr,kr⟩:=r;simp only [Ag,ACb,ACa,Bh,tyT,natT,Tm.z,Tm.op,Tm.n] at h0 h1 t14 t15 ⊢;simp (maxSteps:=1000000) only [↓LK,↓XX,XY,↓reduceIte,seval,↓Ad t14,↓Ad t15,↓AA h0,↓AA h1];exact Bi rfl
def Am9 {G:FV} {a c:Tm} {m:Int} {e:Int}  (s0:e≠0) (h0:JS G 1 a 18 c e):JO G (.mk 30 m [a]) .z e:=by
 obtain ⟨N0,h0⟩:=h0;refine ⟨N0+200,fun n hn=>?_⟩;obtain ⟨n,rfl⟩:=psc n (by omega);have h0:=h0 n (by omega);have t14:=AO (n:=n) (by omega) 14;have t15:=AO (n:=n) (by omega) 15;have hnone:=BB (n:=n) (by omega) e;rw [c46];obtain ⟨oa,pa,ka⟩:=a;obtain ⟨oc,pc,kc⟩:=c;simp only [Ag,ACb,ACa,Bh,tyT,natT,Tm.z,Tm.op,Tm.n] at h0 t14 t15 hnone ⊢;simp (maxSteps:=1000000) only [↓LK,↓XX,XY,↓reduceIte,seval,↓Ad t14,↓Ad t15,↓Ap hnone,↓Au h0,s0];exact Bi rfl
def Ark {G:FV} {a c:Tm} {m:Int} {q:Int}  (h0:JS G 1 a 18 (.mk 18 q [c]) 0):JO G (.mk 30 m [a]) c 0:=by
 obtain ⟨N0,h0⟩:=h0;refine ⟨N0+200,fun n hn=>?_⟩;obtain ⟨n,rfl⟩:=psc n (by omega);have h0:=h0 n (by omega);have t14:=AO (n:=n) (by omega) 14;have t15:=AO (n:=n) (by omega) 15;rw [c46];obtain ⟨oa,pa,ka⟩:=a;obtain ⟨oc,pc,kc⟩:=c;simp only [Ag,ACb,ACa,Bh,tyT,natT,Tm.z,Tm.op,Tm.n] at h0 t14 t15 ⊢;simp (maxSteps:=1000000) only [↓LK,↓XX,XY,↓reduceIte,seval,↓Ad t14,↓Ad t15,↓Au h0];exact Bi rfl
def LO {G:FV} {op m e:Int} {ks:List Tm} {r:Tm} (ho:op=21\/op=22\/op=23\/op=24\/op=27) (h:JP G (.mk op m ks) r e):JO G (.mk op m ks) r e:=by
 obtain ⟨N,h⟩:=h;refine ⟨N+200,fun n hn=>?_⟩;obtain ⟨n,rfl⟩:=psc n (by omega);have h:=h n (by omega);have t14:=AO (n:=n) (by omega) 14;have t15:=AO (n:=n) (by omega) 15;rw [c46];obtain ⟨oP,nP,kP⟩:=r;rcases ho with rfl | rfl | rfl | rfl | rfl
 all_goals
  simp only [Ag,ACa] at t14 t15 h ⊢;simp (maxSteps:=1000000) only [↓LK,↓XX,XY,↓reduceIte,seval,↓Ad t14,↓Ad t15,↓Ad h];exact Bi rfl
def Anv {G:FV} {f x b:Tm} {m:Int} {e:Int}  (s0:e≠0) (h0:JS G 0 f 16 b e):JP G (.mk 21 m [f,x]) .z e:=by
 obtain ⟨N0,h0⟩:=h0;refine ⟨N0+200,fun n hn=>?_⟩;obtain ⟨n,rfl⟩:=psc n (by omega);have h0:=h0 n (by omega);have hnone:=BB (n:=n) (by omega) e;rw [c81];obtain ⟨of,pf,kf⟩:=f;obtain ⟨ox,px,kx⟩:=x;obtain ⟨ob,pb,kb⟩:=b;simp only [Ag,ACb,ACa,Bh,tyT,natT,Tm.z,Tm.op,Tm.n] at h0 hnone ⊢;simp (maxSteps:=1000000) only [↓M8,↓XX,XY,↓reduceIte,seval,↓Ap hnone,↓Au h0,s0];exact Bi rfl
def Ak7 {G:FV} {f x a c:Tm} {m:Int} {q e:Int}  (s0:e≠0) (h0:JS G 0 f 16 (.mk 16 q [a,c]) 0) (h1:JC G 0 x a e):JP G (.mk 21 m [f,x]) .z e:=by
 obtain ⟨N0,h0⟩:=h0;obtain ⟨N1,h1⟩:=h1;refine ⟨N0+N1+200,fun n hn=>?_⟩;obtain ⟨n,rfl⟩:=psc n (by omega);have h0:=h0 n (by omega);have h1:=h1 n (by omega);have hnone:=BB (n:=n) (by omega) e;rw [c81];obtain ⟨of,pf,kf⟩:=f;obtain ⟨ox,px,kx⟩:=x;obtain ⟨oa,pa,ka⟩:=a;obtain ⟨oc,pc,kc⟩:=c;simp only [Ag,ACb,ACa,Bh,tyT,natT,Tm.z,Tm.op,Tm.n] at h0 h1 hnone ⊢;simp (maxSteps:=1000000) only [↓M8,↓XX,XY,↓reduceIte,seval,↓Ap hnone,↓Au h0,↓Au h1,s0];exact Bi rfl
def Aux {G:FV} {f x a c:Tm} {m:Int} {q:Int}  (h0:JS G 0 f 16 (.mk 16 q [a,c]) 0) (h1:JC G 0 x a 0):JP G (.mk 21 m [f,x]) c 0:=by
 obtain ⟨N0,h0⟩:=h0;obtain ⟨N1,h1⟩:=h1;refine ⟨N0+N1+200,fun n hn=>?_⟩;obtain ⟨n,rfl⟩:=psc n (by omega);have h0:=h0 n (by omega);have h1:=h1 n (by omega);rw [c81];obtain ⟨of,pf,kf⟩:=f;obtain ⟨ox,px,kx⟩:=x;obtain ⟨oa,pa,ka⟩:=a;obtain ⟨oc,pc,kc⟩:=c;simp only [Ag,ACb,ACa,Bh,tyT,natT,Tm.z,Tm.op,Tm.n] at h0 h1 ⊢;simp (maxSteps:=1000000) only [↓M8,↓XX,XY,↓reduceIte,seval,↓Au h0,↓Au h1];exact Bi rfl
def Ajf {G:FV} {x y a:Tm} {m:Int} {e:Int}  (s0:e≠0) (h0:JI G 0 x a e):JP G (.mk 22 m [x,y]) .z e:=by
 obtain ⟨N0,h0⟩:=h0;refine ⟨N0+200,fun n hn=>?_⟩;obtain ⟨n,rfl⟩:=psc n (by omega);have h0:=h0 n (by omega);have hnone:=BB (n:=n) (by omega) e;rw [c81];obtain ⟨ox,px,kx⟩:=x;obtain ⟨oy,py,ky⟩:=y;obtain ⟨oa,pa,ka⟩:=a;simp only [Ag,ACb,ACa,Bh,tyT,natT,Tm.z,Tm.op,Tm.n] at h0 hnone ⊢;simp (maxSteps:=1000000) only [↓M8,↓XX,XY,↓reduceIte,seval,↓Ap hnone,↓AA h0,s0];exact Bi rfl
def Aiv {G:FV} {x y a b:Tm} {m:Int} {e:Int}  (s0:e≠0) (h0:JI G 0 x a 0) (h1:JI G 0 y b e):JP G (.mk 22 m [x,y]) .z e:=by
 obtain ⟨N0,h0⟩:=h0;obtain ⟨N1,h1⟩:=h1;refine ⟨N0+N1+200,fun n hn=>?_⟩;obtain ⟨n,rfl⟩:=psc n (by omega);have h0:=h0 n (by omega);have h1:=h1 n (by omega);have hnone:=BB (n:=n) (by omega) e;rw [c81];obtain ⟨ox,px,kx⟩:=x;obtain ⟨oy,py,ky⟩:=y;obtain ⟨oa,pa,ka⟩:=a;obtain ⟨ob,pb,kb⟩:=b;simp only [Ag,ACb,ACa,Bh,tyT,natT,Tm.z,Tm.op,Tm.n] at h0 h1 hnone ⊢;simp (maxSteps:=1000000) only [↓M8,↓XX,XY,↓reduceIte,seval,↓Ap hnone,↓AA h0,↓AA h1,s0];exact Bi rfl
def Ao6 {G:FV} {x y a b r:Tm} {m:Int} {e:Int}  (h0:JI G 0 x a 0) (h1:JI G 0 y b 0) (h2:JN (.mk 17 0 [a,b]) r e):JP G (.mk 22 m [x,y]) r e:=by
 obtain ⟨N0,h0⟩:=h0;obtain ⟨N1,h1⟩:=h1;obtain ⟨N2,h2⟩:=h2;refine ⟨N0+N1+N2+200,fun n hn=>?_⟩;obtain ⟨n,rfl⟩:=psc n (by omega);have h0:=h0 n (by omega);have h1:=h1 n (by omega);have h2:=h2 n (by omega);have u17:=Cx (n:=n) (by omega) 17 [a,b];rw [c81];obtain ⟨ox,px,kx⟩:=x;obtain ⟨oy,py,ky⟩:=y;obtain ⟨oa,pa,ka⟩:=a;obtain ⟨ob,pb,kb⟩:=b;obtain ⟨or,pr,kr⟩:=r;simp only [Ag,ACb,ACa,Bh,tyT,natT,Tm.z,Tm.op,Tm.n] at h0 h1 h2 u17 ⊢;simp (maxSteps:=1000000) only [↓M8,↓XX,XY,↓reduceIte,seval,↓Ad u17,↓AA h0,↓AA h1,↓Ap h2,↓Cc];exact Bi rfl
def Aok {G:FV} {c x y:Tm} {m:Int} {e:Int}  (s0:e≠0) (h0:JC G 0 c Bh e):JP G (.mk 27 m [c,x,y]) .z e:=by
 obtain ⟨N0,h0⟩:=h0;refine ⟨N0+200,fun n hn=>?_⟩;obtain ⟨n,rfl⟩:=psc n (by omega);have h0:=h0 n (by omega);have t15:=AO (n:=n) (by omega) 15;have hnone:=BB (n:=n) (by omega) e;rw [c81];obtain ⟨oc,pc,kc⟩:=c;obtain ⟨ox,px,kx⟩:=x;obtain ⟨oy,py,ky⟩:=y;simp only [Ag,ACb,ACa,Bh,tyT,natT,Tm.z,Tm.op,Tm.n] at h0 t15 hnone ⊢;simp (maxSteps:=1000000) only [↓M8,↓XX,XY,↓reduceIte,seval,↓Ad t15,↓Ap hnone,↓Au h0,s0];exact Bi rfl
def ApF {G:FV} {c x y a:Tm} {m:Int} {e:Int}  (s0:e≠0) (h0:JC G 0 c Bh 0) (h1:JI G 0 x a e):JP G (.mk 27 m [c,x,y]) .z e:=by
 obtain ⟨N0,h0⟩:=h0;obtain ⟨N1,h1⟩:=h1;refine ⟨N0+N1+200,fun n hn=>?_⟩;obtain ⟨n,rfl⟩:=psc n (by omega);have h0:=h0 n (by omega);have h1:=h1 n (by omega);have t15:=AO (n:=n) (by omega) 15;have hnone:=BB (n:=n) (by omega) e;rw [c81];obtain ⟨oc,pc,kc⟩:=c;obtain ⟨ox,px,kx⟩:=x;obtain ⟨oy,py,ky⟩:=y;obtain ⟨oa,pa,ka⟩:=a;simp only [Ag,ACb,ACa,Bh,tyT,natT,Tm.z,Tm.op,Tm.n] at h0 h1 t15 hnone ⊢;simp (maxSteps:=1000000) only [↓M8,↓XX,XY,↓reduceIte,seval,↓Ad t15,↓Ap hnone,↓Au h0,↓AA h1,s0];exact Bi rfl
def AnS {G:FV} {c x y a:Tm} {m:Int} {e:Int}  (s0:e≠0) (h0:JC G 0 c Bh 0) (h1:JI G 0 x a 0) (h2:JC G 0 y a e):JP G (.mk 27 m [c,x,y]) .z e:=by
 obtain ⟨N0,h0⟩:=h0;obtain ⟨N1,h1⟩:=h1;obtain ⟨N2,h2⟩:=h2;refine ⟨N0+N1+N2+200,fun n hn=>?_⟩;obtain ⟨n,rfl⟩:=psc n (by omega);have h0:=h0 n (by omega);have h1:=h1 n (by omega);have h2:=h2 n (by omega);have t15:=AO (n:=n) (by omega) 15;have hnone:=BB (n:=n) (by omega) e;rw [c81];obtain ⟨oc,pc,kc⟩:=c;obtain ⟨ox,px,kx⟩:=x;obtain ⟨oy,py,ky⟩:=y;obtain ⟨oa,pa,ka⟩:=a;simp only [Ag,ACb,ACa,Bh,tyT,natT,Tm.z,Tm.op,Tm.n] at h0 h1 h2 t15 hnone ⊢;simp (maxSteps:=1000000) only [↓M8,↓XX,XY,↓reduceIte,seval,↓Ad t15,↓Ap hnone,↓Au h0,↓AA h1,↓Au h2,s0];exact Bi rfl
def Avc {G:FV} {c x y a:Tm} {m:Int}  (h0:JC G 0 c Bh 0) (h1:JI G 0 x a 0) (h2:JC G 0 y a 0):JP G (.mk 27 m [c,x,y]) a 0:=by
 obtain ⟨N0,h0⟩:=h0;obtain ⟨N1,h1⟩:=h1;obtain ⟨N2,h2⟩:=h2;refine ⟨N0+N1+N2+200,fun n hn=>?_⟩;obtain ⟨n,rfl⟩:=psc n (by omega);have h0:=h0 n (by omega);have h1:=h1 n (by omega);have h2:=h2 n (by omega);have t15:=AO (n:=n) (by omega) 15;rw [c81];obtain ⟨oc,pc,kc⟩:=c;obtain ⟨ox,px,kx⟩:=x;obtain ⟨oy,py,ky⟩:=y;obtain ⟨oa,pa,ka⟩:=a;simp only [Ag,ACb,ACa,Bh,tyT,natT,Tm.z,Tm.op,Tm.n] at h0 h1 h2 t15 ⊢;simp (maxSteps:=1000000) only [↓M8,↓XX,XY,↓reduceIte,seval,↓Ad t15,↓Au h0,↓AA h1,↓Au h2];exact Bi rfl
def Aka {G:FV} {x c:Tm} {m:Int} {e:Int}  (s0:e≠0) (h0:JS G 0 x 17 c e):JP G (.mk 23 m [x]) .z e:=by
 obtain ⟨N0,h0⟩:=h0;refine ⟨N0+200,fun n hn=>?_⟩;obtain ⟨n,rfl⟩:=psc n (by omega);have h0:=h0 n (by omega);have hnone:=BB (n:=n) (by omega) e;rw [c81];obtain ⟨ox,px,kx⟩:=x;obtain ⟨oc,pc,kc⟩:=c;simp only [Ag,ACb,ACa,Bh,tyT,natT,Tm.z,Tm.op,Tm.n] at h0 hnone ⊢;simp (maxSteps:=1000000) only [↓M8,↓XX,XY,↓reduceIte,seval,↓Ap hnone,↓Au h0,s0];exact Bi rfl
def Arw {G:FV} {x a b:Tm} {m:Int} {q:Int}  (h0:JS G 0 x 17 (.mk 17 q [a,b]) 0):JP G (.mk 23 m [x]) a 0:=by
 obtain ⟨N0,h0⟩:=h0;refine ⟨N0+200,fun n hn=>?_⟩;obtain ⟨n,rfl⟩:=psc n (by omega);have h0:=h0 n (by omega);rw [c81];obtain ⟨ox,px,kx⟩:=x;obtain ⟨oa,pa,ka⟩:=a;obtain ⟨ob,pb,kb⟩:=b;simp only [Ag,ACb,ACa,Bh,tyT,natT,Tm.z,Tm.op,Tm.n] at h0 ⊢;simp (maxSteps:=1000000) only [↓M8,↓XX,XY,↓reduceIte,seval,↓Au h0];exact Bi rfl
end Idl
end Go.Proofs.Ytkfecngimlcfoaa

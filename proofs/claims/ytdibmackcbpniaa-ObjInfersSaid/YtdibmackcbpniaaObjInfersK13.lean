/-
  Texts of a proof, part 13: an ideal semantics of the program, its functions in shallow form, contracts of them. No statement of the seat is proved here.
-/
import Derived.Test.YtdibmackcbpniaaObjInfersK12
set_option linter.all false
noncomputable section
namespace Go.Proofs.Ytdibmackcbpniaa
namespace Idl
set_option maxRecDepth 20000 in
set_option maxHeartbeats 8000000 in
theorem AeQ {e:Nat} (h6:6≤e) (he:e≤10) (hO:DD 68 2 (e - 2)) (hG:DD 70 1 (e - 1)):Pm 98 4 e:=by
 intro g a r hg ha;have hlen:=hg.len;have hW1:Wg e=4 * Wg (e - 1):=by
  obtain ⟨f,rfl⟩:∃f,e=f+1:=⟨e - 1,by omega⟩;rw [K6,Nat.add_sub_cancel]
 have hW2:Wg e=16 * Wg (e - 2):=by
  obtain ⟨f,rfl⟩:∃f,e=f+2:=⟨e - 2,by omega⟩;rw [show f+2=(f+1)+1 by omega,K6,K6,show f+1+1 - 2=f by omega];omega
 have hW0:=K7 (e - 2);have hW10:=MY he;have hD1:Dg e=Dg (e - 1)+10:=by unfold Dg;omega
 have hD2:Dg e=Dg (e - 2)+20:=by unfold Dg;omega
 have hD0:200≤Dg (e - 2):=by unfold Dg;omega
 have hDm:Dg e≤300:=by unfold Dg;omega
 have we:BC ((e:Int) - 5 - 1)=((e - 1:Nat):Int) - 5:=by rw [Az (by omega) (by omega)];omega
 have we2:BC ((e:Int) - 5 - 2)=((e - 2:Nat):Int) - 5:=by rw [Az (by omega) (by omega)];omega
 have aw:=ha.wt;have ad:=ha.dp;have hk1:=Int.emod_nonneg r.n (show (7:Int)≠0 by decide)
 have hk2:=Int.emod_lt_of_pos r.n (show (0:Int)<7 by decide)
 have hi:AOk g.length (.mk 15 0 []):=⟨Cr (by decide) (by decide) (BN (by decide) (by decide) (by decide)),by simp only [Tm.wt,Tm.wtL];omega,by simp only [Tm.dp,Tm.dpL];omega⟩;have hs1:=Mc ha (by omega) 1 (by omega);by_cases c0:r.n % 7=0
 ·obtain ⟨c,p,⟨N1,h1⟩,tc⟩:=hO g (.mk 15 0 []) (r.pick 0) (AT (by omega) hg) hi;obtain ⟨x,q,⟨N2,h2⟩,tx⟩:=hO g a (r.pick 1) (AT (by omega) hg) (Bu ha);obtain ⟨y,f,⟨N3,h3⟩,ty⟩:=hO g a (r.pick 2) (AT (by omega) hg) (Bu ha);refine ⟨.mk 27 0 [c,x,y],p && (q && f),⟨N1+N2+N3+100000,fun n hn=>?_⟩,Xx (by decide) (by decide) (BN (by decide) (by decide) (by decide)) tc.sc tx.sc ty.sc,by have:=tc.wt;have:=tx.wt;have:=ty.wt;rw [wt3];omega,by have:=tc.dp;have:=tx.dp;have:=ty.dp;rw [dp3];omega,fun hb=>.oif e g a c x y h6 (tc.gr (KJ hb)) (tx.gr (KJ (I7 hb))) (ty.gr (I7 (I7 hb)))⟩
  ·obtain ⟨n,rfl⟩:∃k,n=k+1:=⟨n - 1,by omega⟩;have h1:=h1 n (by omega);have h2:=h2 n (by omega);have h3:=h3 n (by omega);rw [← we2] at h1 h2 h3;have hw:=As (n:=n) (by omega) r.n (m:=7) (by omega) (by omega);have t15:=Df (n:=n) (by omega) 15;have p0:=AO (n:=n) (by omega) r 0;have p1:=AO (n:=n) (by omega) r 1;have p2:=AO (n:=n) (by omega) r 2;rw [c0] at hw;have t27:=C0 (n:=n) (by omega) 27 [c,x,y];rw [c98];clear hO hG tc tx ty hg ha hi hs1;generalize r.pick 0=r0 at p0 h1;generalize r.pick 1=r1 at p1 h2;generalize r.pick 2=r2 at p2 h3;obtain ⟨o1,x1,k1⟩:=a;obtain ⟨o2,x2,k2⟩:=r;obtain ⟨o3,x3,k3⟩:=c;obtain ⟨o4,x4,k4⟩:=x;obtain ⟨o5,x5,k5⟩:=y;obtain ⟨o6,x6,k6⟩:=r0;obtain ⟨o7,x7,k7⟩:=r1;obtain ⟨o8,x8,k8⟩:=r2;simp only [Tm.n] at hw;simp only [Be,Ayo,Ayn,Ah] at h1 h2 h3 t15 p0 p1 p2 t27 ⊢;cases p
   ·simp (maxSteps:=1000000) only [↓SK,↓XX,XY,↓reduceIte,Nat.reduceBEq,Nat.reduceAdd,Int.reduceEq,Int.reduceLT,Int.reduceLE,↓Ag hw,↓Ag t15,↓Ag p0,↓Ag p1,↓Ag p2,↓AI h1,↓AI h2,↓AI h3,↓Jm,↓Ag t27];first | exact An _ _ | exact Aw rfl (by simp) _
   ·cases q
    ·simp (maxSteps:=1000000) only [↓SK,↓XX,XY,↓reduceIte,Nat.reduceBEq,Nat.reduceAdd,Int.reduceEq,Int.reduceLT,Int.reduceLE,↓Ag hw,↓Ag t15,↓Ag p0,↓Ag p1,↓Ag p2,↓AI h1,↓AI h2,↓AI h3,↓Jm,↓Ag t27];first | exact An _ _ | exact Aw rfl (by simp) _
    ·simp (maxSteps:=1000000) only [↓SK,↓XX,XY,↓reduceIte,Nat.reduceBEq,Nat.reduceAdd,Int.reduceEq,Int.reduceLT,Int.reduceLE,↓Ag hw,↓Ag t15,↓Ag p0,↓Ag p1,↓Ag p2,↓AI h1,↓AI h2,↓AI h3,↓Jm,↓Ag t27];first | exact An _ _ | exact Aw rfl (by simp) _
 by_cases c12:r.n % 7=1∨r.n % 7=2
 ·have hb:=ER g.length 1 (r.pick 0);have hbw:=Db 1 (r.pick 0);have hbd:=U3 ((r.pick 0).plainT 1);obtain ⟨b,hbe⟩:∃b,b=(r.pick 0).plainT 1:=⟨_,rfl⟩;rw [← hbe] at hb hbw hbd;obtain ⟨x,p,⟨N1,h1⟩,tx⟩:=hO g b (r.pick 1) (AT (by omega) hg) ⟨hb,by omega,by omega⟩;have hgb:GOk (e - 2) (g++[(0,b)]):=C1 (AT (by omega) hg) hb (by omega) (by omega);obtain ⟨y,q,⟨N2,h2⟩,ty⟩:=hO (g++[(0,b)]) (a.shift 1 0) (r.pick 2) hgb (by simpa using Bu hs1);have ys:y.sc (g.length+1):=by simpa using ty.sc
  obtain ⟨tt,htt,hok⟩:∃tt:Tm,(r.n % 7=1∧tt=.mk 28 0 [x,y]∨r.n % 7=2∧tt=.mk 21 0 [.mk 20 0 [b,y],x])∧TG 4 e g a tt (p && q):=by
   rcases c12 with h | h
   ·exact ⟨_,.inl ⟨h,rfl⟩,Cs (by decide) (by decide) (BN (by decide) (by decide) (by decide)) tx.sc ys,by have:=tx.wt;have:=ty.wt;rw [MP];omega,by have:=tx.dp;have:=ty.dp;rw [OY];omega,fun hpq=>by subst hbe;exact .olet e g a (r.pick 0) x y h6 (tx.gr (KJ hpq)) (ty.gr (I7 hpq))⟩
   ·exact ⟨_,.inr ⟨h,rfl⟩,Cs (by decide) (by decide) (BN (by decide) (by decide) (by decide)) (Cs (by decide) (by decide) (BN (by decide) (by decide) (by decide)) hb ys) tx.sc,by have:=tx.wt;have:=ty.wt;rw [MP,MP];omega,by have:=tx.dp;have:=ty.dp;rw [OY,OY];omega,fun hpq=>by subst hbe;exact .oapp e g a (r.pick 0) x y h6 (tx.gr (KJ hpq)) (ty.gr (I7 hpq))⟩
  refine ⟨tt,p && q,⟨N1+N2+100000,fun n hn=>?_⟩,hok⟩
  ·obtain ⟨n,rfl⟩:∃k,n=k+1:=⟨n - 1,by omega⟩;have h1:=h1 n (by omega);have h2:=h2 n (by omega);rw [← we2] at h1 h2;have hw:=As (n:=n) (by omega) r.n (m:=7) (by omega) (by omega);have t15:=Df (n:=n) (by omega) 15;have p0:=AO (n:=n) (by omega) r 0;have p1:=AO (n:=n) (by omega) r 1;have p2:=AO (n:=n) (by omega) r 2;have hp:=It 1 n (r.pick 0) (by omega) (by omega);rw [← hbe] at hp;have hm:=Dm (n:=n) g 0 b (by omega) (by omega);have sh:=Di n a 1 0 (by omega) (Gk _ _ ha.sc) (by omega) (by omega);have t28:=C0 (n:=n) (by omega) 28 [x,y];have t20:=C0 (n:=n) (by omega) 20 [b,y];have t21:=C0 (n:=n) (by omega) 21 [.mk 20 0 [b,y],x];rw [c98];clear hO hG tx ty hg ha hi hs1 hbe hb hgb ys hok c12;generalize r.n % 7=w7 at hw htt;generalize a.shift 1 0=a1 at sh h2;generalize r.pick 0=r0 at p0 hp;generalize r.pick 1=r1 at p1 h1;generalize r.pick 2=r2 at p2 h2;obtain ⟨o1,x1,k1⟩:=a;obtain ⟨o2,x2,k2⟩:=r;obtain ⟨o3,x3,k3⟩:=b;obtain ⟨o4,x4,k4⟩:=x;obtain ⟨o5,x5,k5⟩:=y;obtain ⟨o6,x6,k6⟩:=r0;obtain ⟨o7,x7,k7⟩:=r1;obtain ⟨o8,x8,k8⟩:=r2;obtain ⟨o9,x9,k9⟩:=a1;simp only [Tm.n] at hw;simp only [Be,Ayo,Ayn,Ah] at h1 h2 t15 p0 p1 p2 hp hm sh t28 t20 t21 ⊢;rcases htt with ⟨rfl,rfl⟩ | ⟨rfl,rfl⟩
   ·cases p<;>(simp (maxSteps:=1000000) only [↓SK,↓XX,XY,↓reduceIte,Nat.reduceBEq,Nat.reduceAdd,Int.reduceEq,Int.reduceLT,Int.reduceLE,↓Ag hw,↓Ag t15,↓Ag p0,↓Ag p1,↓Ag p2,↓Ag hp,↓AI h1,↓AL hm,↓AL sh,↓AI h2,↓Ct,↓Ag t28,Ah,Ayo,Ayn];first | exact An _ _ | exact Aw rfl (by simp) _)
   ·cases p<;>(simp (maxSteps:=1000000) only [↓SK,↓XX,XY,↓reduceIte,Nat.reduceBEq,Nat.reduceAdd,Int.reduceEq,Int.reduceLT,Int.reduceLE,↓Ag hw,↓Ag t15,↓Ag p0,↓Ag p1,↓Ag p2,↓Ag hp,↓AI h1,↓AL hm,↓AL sh,↓AI h2,↓Ct,↓Ag t20,↓Ag t21,Ah,Ayo,Ayn];first | exact An _ _ | exact Aw rfl (by simp) _)
 by_cases c3:r.n % 7=3
 ·obtain ⟨x,p,⟨N1,h1⟩,tx⟩:=hO g a (r.pick 0) (AT (by omega) hg) (Bu ha);obtain ⟨y,q,⟨N2,h2⟩,ty⟩:=hO g (.mk 15 0 []) (r.pick 1) (AT (by omega) hg) hi;refine ⟨.mk 23 0 [.mk 22 0 [x,y]],p && q,⟨N1+N2+100000,fun n hn=>?_⟩,E7 (by decide) (by decide) (BN (by decide) (by decide) (by decide)) (Cs (by decide) (by decide) (BN (by decide) (by decide) (by decide)) tx.sc ty.sc),by have:=tx.wt;have:=ty.wt;rw [wt1,MP];omega,by have:=tx.dp;have:=ty.dp;rw [dp1,OY];omega,fun hb=>.ofst e g a x y h6 (tx.gr (KJ hb)) (ty.gr (I7 hb))⟩
  ·obtain ⟨n,rfl⟩:∃k,n=k+1:=⟨n - 1,by omega⟩;have h1:=h1 n (by omega);have h2:=h2 n (by omega);rw [← we2] at h1 h2;have hw:=As (n:=n) (by omega) r.n (m:=7) (by omega) (by omega);have t15:=Df (n:=n) (by omega) 15;have p0:=AO (n:=n) (by omega) r 0;have p1:=AO (n:=n) (by omega) r 1;have p2:=AO (n:=n) (by omega) r 2;rw [c3] at hw;have t22:=C0 (n:=n) (by omega) 22 [x,y];have t23:=C0 (n:=n) (by omega) 23 [.mk 22 0 [x,y]];rw [c98];clear hO hG tx ty hg ha hi hs1;generalize r.pick 0=r0 at p0 h1;generalize r.pick 1=r1 at p1 h2;obtain ⟨o1,x1,k1⟩:=a;obtain ⟨o2,x2,k2⟩:=r;obtain ⟨o4,x4,k4⟩:=x;obtain ⟨o5,x5,k5⟩:=y;obtain ⟨o6,x6,k6⟩:=r0;obtain ⟨o7,x7,k7⟩:=r1;simp only [Tm.n] at hw;simp only [Be,Ayo,Ayn,Ah] at h1 h2 t15 p0 p1 t22 t23 ⊢;cases p<;>(simp (maxSteps:=1000000) only [↓SK,↓XX,XY,↓reduceIte,Nat.reduceBEq,Nat.reduceAdd,Int.reduceEq,Int.reduceLT,Int.reduceLE,↓Ag hw,↓Ag t15,↓Ag p0,↓Ag p1,↓AI h1,↓AI h2,↓Ct,↓Cl,↓Ag t22,↓Ag t23];first | exact An _ _ | exact Aw rfl (by simp) _)
 by_cases c4:r.n % 7=4
 ·have hga:GOk (e - 2) (g++[(0,a)]):=C1 (AT (by omega) hg) ha.sc (by omega) (by omega);obtain ⟨x,p,⟨N1,h1⟩,tx⟩:=hO (g++[(0,a)]) (a.shift 1 0) (r.pick 0) hga (by simpa using Bu hs1);have xs:x.sc (g.length+1):=by simpa using tx.sc
  refine ⟨.mk 29 0 [a,x],p,⟨N1+100000,fun n hn=>?_⟩,Cs (by decide) (by decide) (BN (by decide) (by decide) (by decide)) ha.sc xs,by have:=tx.wt;rw [MP];omega,by have:=tx.dp;rw [OY];omega,fun hb=>.ofix e g a x h6 (tx.gr hb)⟩
  ·obtain ⟨n,rfl⟩:∃k,n=k+1:=⟨n - 1,by omega⟩;have h1:=h1 n (by omega);rw [← we2] at h1;have hw:=As (n:=n) (by omega) r.n (m:=7) (by omega) (by omega);have t15:=Df (n:=n) (by omega) 15;have p0:=AO (n:=n) (by omega) r 0;have p1:=AO (n:=n) (by omega) r 1;have p2:=AO (n:=n) (by omega) r 2;rw [c4] at hw;have hm:=Dm (n:=n) g 0 a (by omega) (by omega);have sh:=Di n a 1 0 (by omega) (Gk _ _ ha.sc) (by omega) (by omega);have t29:=C0 (n:=n) (by omega) 29 [a,x];rw [c98];clear hO hG tx hg ha hi hs1 hga xs;generalize a.shift 1 0=a1 at sh h1;generalize r.pick 0=r0 at p0 h1;obtain ⟨o1,x1,k1⟩:=a;obtain ⟨o2,x2,k2⟩:=r;obtain ⟨o4,x4,k4⟩:=x;obtain ⟨o6,x6,k6⟩:=r0;obtain ⟨o9,x9,k9⟩:=a1;simp only [Tm.n] at hw;simp only [Be,Ayo,Ayn,Ah] at h1 t15 p0 hm sh t29 ⊢;simp (maxSteps:=1000000) only [↓SK,↓XX,XY,↓reduceIte,Nat.reduceBEq,Nat.reduceAdd,Int.reduceEq,Int.reduceLT,Int.reduceLE,↓Ag hw,↓Ag t15,↓Ag p0,↓AL hm,↓AL sh,↓AI h1,↓Ct,↓Ag t29];first | exact An _ _ | exact Aw rfl (by simp) _
 ·have hla:AOk g.length (.mk 18 0 [a]):=⟨E7 (by decide) (by decide) (BN (by decide) (by decide) (by decide)) ha.sc,by rw [wt1];omega,by rw [dp1];omega⟩;obtain ⟨x,p,⟨N1,h1⟩,tx⟩:=hG g (.mk 18 0 [a]) (r.pick 0) (AT (by omega) hg) hla;refine ⟨.mk 30 0 [x],p,⟨N1+100000,fun n hn=>?_⟩,E7 (by decide) (by decide) (BN (by decide) (by decide) (by decide)) tx.sc,by have:=tx.wt;rw [wt1];omega,by have:=tx.dp;rw [dp1];omega,fun hb=>.spl e g a x h6 (tx.gr hb)⟩
  ·obtain ⟨n,rfl⟩:∃k,n=k+1:=⟨n - 1,by omega⟩;have h1:=h1 n (by omega);rw [← we] at h1;have hw:=As (n:=n) (by omega) r.n (m:=7) (by omega) (by omega);have t15:=Df (n:=n) (by omega) 15;have p0:=AO (n:=n) (by omega) r 0;have p1:=AO (n:=n) (by omega) r 1;have p2:=AO (n:=n) (by omega) r 2;have c1:¬ r.n % 7=1:=fun h=>c12 (.inl h);have c2:¬ r.n % 7=2:=fun h=>c12 (.inr h);have t18:=C0 (n:=n) (by omega) 18 [a];have t30:=C0 (n:=n) (by omega) 30 [x];rw [c98];clear hO hG tx hg ha hi hs1 hla c12 hk1 hk2;generalize r.n % 7=w7 at hw c0 c1 c2 c3 c4;generalize r.pick 0=r0 at p0 h1;obtain ⟨o1,x1,k1⟩:=a;obtain ⟨o2,x2,k2⟩:=r;obtain ⟨o4,x4,k4⟩:=x;obtain ⟨o6,x6,k6⟩:=r0;simp only [Tm.n] at hw;simp only [Be,Ayo,Ayn,Ah] at h1 t15 p0 t18 t30 ⊢;simp (maxSteps:=1000000) only [↓SK,↓XX,XY,↓reduceIte,Nat.reduceBEq,Nat.reduceAdd,Int.reduceEq,Int.reduceLT,Int.reduceLE,↓Ag hw,c0,c1,c2,c3,c4,↓Ag t15,↓Ag p0,↓Cl,↓Ag t18,↓AI h1,↓Ag t30];first | exact An _ _ | exact Aw rfl (by simp) _
theorem Gn {k:Nat} {a:Tm} {r:Nat} (h:NOk k a) (hr:ar a.op=some r):a.kids.length=r:=JH h.sc rfl hr
theorem YR {l:List Tm} (h:l.length=2):∃x y,l=[x,y]:=by
 match l,h with
 | [x,y],_=>exact ⟨x,y,rfl⟩
theorem Auu {l:List Tm} (h:l.length=1):∃x,l=[x]:=by
 match l,h with
 | [x],_=>exact ⟨x,rfl⟩
theorem AsS {l:List Tm} (h:l.length=0):l=[]:=List.eq_nil_of_length_eq_zero h
set_option maxRecDepth 20000 in
set_option maxHeartbeats 8000000 in
theorem Aeo {e:Nat} (he:e≤10) (hO:1≤e→DD 68 2 (e - 1)) (hA:6≤e→Pm 98 4 e):DD 68 2 e:=by
 intro g a0 r hg ha0;have hlen:=hg.len;have hW0:=K7 e;have hD0:200≤Dg e:=by unfold Dg;omega
 have hDm:Dg e≤300:=by unfold Dg;omega
 have hW10:=MY he;obtain ⟨a,er,⟨N0,h0⟩,hcase,fn,hfn⟩:=Jz (k:=g.length) (by omega) ha0.sc (by have:=ha0.dp;omega);rcases hcase with ⟨rfl,ha⟩ | ⟨her,rfl⟩
 case inr =>
  have hne:er≠0:=by omega
  refine ⟨.z,false,⟨N0+100,fun n hn=>?_⟩,ArS _,by simp only [Tm.z,Tm.wt,Tm.wtL];omega,by simp only [Tm.z,Tm.dp,Tm.dpL];omega,fun h=>by cases h⟩;obtain ⟨n,rfl⟩:∃k,n=k+1:=⟨n - 1,by omega⟩;have h0:=h0 n (by omega);rw [c68];clear hO hA hg ha0;obtain ⟨o1,x1,k1⟩:=a0;obtain ⟨o2,x2,k2⟩:=r;simp only [Be,Tm.z,Ayn,Ah] at h0 ⊢;simp (maxSteps:=1000000) only [↓M4,↓XX,XY,↓reduceIte,Nat.reduceBEq,Nat.reduceAdd,Int.reduceEq,Int.reduceLT,Int.reduceLE,↓Av h0,hne];first | exact An _ _ | exact Aw rfl (by simp) _
 obtain ⟨v,is,⟨N1,h1⟩,tv0,hhit⟩:=K2 hg 0 ha r.n;have up:∀{t:Tm},Gr 4 e g a t→Gr 2 e g a0 t:=fun h=>.objc e g a0 a _ fn hfn (by omega) ha h;have tv:TG 2 e g a0 v is:=tg (Sq (Nat.zero_le _) tv0) (fun hb=>by
  obtain ⟨i,rfl,hi⟩:=hhit hb;exact up (.var0 e g a i hi))
 clear tv0 hhit;have aw:=ha.wt;have ad:=ha.dp;have hw3m:=Int.emod_nonneg r.op (show (3:Int)≠0 by decide)
 by_cases cv:is=true∧r.op % 3=0∨e=0
 ·refine ⟨v,is,⟨N0+N1+100,fun n hn=>?_⟩,tv⟩;obtain ⟨n,rfl⟩:∃k,n=k+1:=⟨n - 1,by omega⟩;have h0:=h0 n (by omega);have h1:=h1 n (by omega);have hw:=As (n:=n) (by omega) r.op (m:=3) (by omega) (by omega);rw [c68];clear up hfn hO hA hg ha0 ha tv;obtain ⟨o0,x0,k0⟩:=a0;obtain ⟨o1,x1,k1⟩:=a;obtain ⟨o2,x2,k2⟩:=r;obtain ⟨o3,x3,k3⟩:=v;simp only [Tm.n,Tm.op] at h1 hw cv;simp only [Be,Ah] at h0 h1 ⊢;generalize o2 % 3=w3 at hw cv;rcases cv with ⟨rfl,rfl⟩ | rfl
  ·simp (maxSteps:=1000000) only [↓M4,↓XX,XY,↓reduceIte,Nat.reduceBEq,Nat.reduceAdd,Int.reduceEq,Int.reduceLT,Int.reduceLE,↓Av h0,↓AI h1,↓Ag hw];first | exact An _ _ | exact Aw rfl (by simp) _
  ·have hd4:((0:Nat):Int) - 5 < -4:=by omega
   cases is
   ·simp (maxSteps:=1000000) only [↓M4,↓XX,XY,↓reduceIte,Nat.reduceBEq,Nat.reduceAdd,Int.reduceEq,Int.reduceLT,Int.reduceLE,↓Av h0,↓AI h1,↓Ag hw,hd4,Int.reduceSub,Int.reduceLT,Int.reduceNeg];first | exact An _ _ | exact Aw rfl (by simp) _
   ·by_cases h3:w3=0
    ·simp (maxSteps:=1000000) only [↓M4,↓XX,XY,↓reduceIte,Nat.reduceBEq,Nat.reduceAdd,Int.reduceEq,Int.reduceLT,Int.reduceLE,↓Av h0,↓AI h1,↓Ag hw,h3,hd4,Int.reduceSub,Int.reduceLT,Int.reduceNeg];first | exact An _ _ | exact Aw rfl (by simp) _
    ·simp (maxSteps:=1000000) only [↓M4,↓XX,XY,↓reduceIte,Nat.reduceBEq,Nat.reduceAdd,Int.reduceEq,Int.reduceLT,Int.reduceLE,↓Av h0,↓AI h1,↓Ag hw,h3,hd4,Int.reduceSub,Int.reduceLT,Int.reduceNeg];first | exact An _ _ | exact Aw rfl (by simp) _
 have he1:1≤e:=by omega
 have hd4:¬ (e:Int) - 5 < -4:=by omega
 have hv:is=true→¬ r.op % 3=0:=fun h1 h2=>cv (.inl ⟨h1,h2⟩);have hW1:Wg e=4 * Wg (e - 1):=by
  obtain ⟨f,rfl⟩:∃f,e=f+1:=⟨e - 1,by omega⟩;rw [K6,Nat.add_sub_cancel]
 have hW01:=K7 (e - 1);have hD1:Dg e=Dg (e - 1)+10:=by unfold Dg;omega
 have hD01:200≤Dg (e - 1):=by unfold Dg;omega
 have we:BC ((e:Int) - 5 - 1)=((e - 1:Nat):Int) - 5:=by rw [Az (by omega) (by omega)];omega
 have hO:=hO he1;by_cases ca:6≤e∧r.op % 3=1
 ·obtain ⟨t,b,⟨N2,h2⟩,tt⟩:=hA ca.1 g a r hg ha;refine ⟨t,b,⟨N0+N1+N2+100,fun n hn=>?_⟩,Aii tt up⟩;obtain ⟨n,rfl⟩:∃k,n=k+1:=⟨n - 1,by omega⟩;have h0:=h0 n (by omega);have h1:=h1 n (by omega);have h2:=h2 n (by omega);have hw:=As (n:=n) (by omega) r.op (m:=3) (by omega) (by omega);rw [ca.2] at hw;have hd0:(0:Int)<(e:Int) - 5:=by omega
  rw [c68];clear up hfn hO hA hg ha0 ha tv tt;obtain ⟨o0,x0,k0⟩:=a0;obtain ⟨o1,x1,k1⟩:=a;obtain ⟨o2,x2,k2⟩:=r;obtain ⟨o3,x3,k3⟩:=v;obtain ⟨o4,x4,k4⟩:=t;simp only [Tm.n,Tm.op] at h1 hw;simp only [Be,Ah] at h0 h1 h2 ⊢;cases is<;>(simp (maxSteps:=1000000) only [↓M4,↓XX,XY,↓reduceIte,Nat.reduceBEq,Nat.reduceAdd,Int.reduceEq,Int.reduceLT,Int.reduceLE,↓Av h0,↓AI h1,↓Ag hw,hd4,hd0,↓AI h2];first | exact An _ _ | exact Aw rfl (by simp) _)
 have hna:(0:Int)<(e:Int) - 5→¬ r.op % 3=1:=by omega
 by_cases o15:a.op=15
 ·have hl:=AsS (Gn ha (show ar a.op=some 0 by rw [o15];decide))
  by_cases hs:6≤e∧r.op % 2=1
  ·obtain ⟨x,p,⟨N2,h2⟩,tx⟩:=hO g a (r.pick 0) (AT (by omega) hg) (Bu ha);obtain ⟨y,q,⟨N3,h3⟩,ty⟩:=hO g a (r.pick 1) (AT (by omega) hg) (Bu ha);have hj1:=Int.emod_nonneg r.n (show (5:Int)≠0 by decide)
   have hj2:=Int.emod_lt_of_pos r.n (show (0:Int)<5 by decide)
   refine ⟨.mk 26 (r.n % 5) [x,y],p && q,⟨N0+N1+N2+N3+100,fun n hn=>?_⟩,Cs (by decide) (by decide) (by rw [BH,if_neg (by decide),if_pos rfl];omega) tx.sc ty.sc,by have:=tx.wt;have:=ty.wt;rw [MP];omega,by have:=tx.dp;have:=ty.dp;rw [OY];omega,fun hb=>up (.oprim e g a x y _ hs.1 o15 (tx.gr (KJ hb)) (ty.gr (I7 hb)))⟩;obtain ⟨n,rfl⟩:∃k,n=k+1:=⟨n - 1,by omega⟩;have h0:=h0 n (by omega);have h1:=h1 n (by omega);have h2:=h2 n (by omega);have h3:=h3 n (by omega);rw [← we] at h2 h3;have hw:=As (n:=n) (by omega) r.op (m:=3) (by omega) (by omega);have hw2:=As (n:=n) (by omega) r.op (m:=2) (by omega) (by omega);rw [hs.2] at hw2;have hw5:=As (n:=n) (by omega) r.n (m:=5) (by omega) (by omega);have p0:=AO (n:=n) (by omega) r 0;have p1:=AO (n:=n) (by omega) r 1;have hd0:(0:Int)<(e:Int) - 5:=by omega
   replace hna:=hna hd0;rw [c68];clear up hfn hO hA hg ha0 ha tv tx ty hj1 hj2;generalize r.op % 3=w3 at hw hv hna;generalize r.n % 5=w5 at hw5 ⊢;generalize r.pick 0=r0 at p0 h2;generalize r.pick 1=r1 at p1 h3;obtain ⟨o0,x0,k0⟩:=a0;obtain ⟨o1,x1,k1⟩:=a;simp only [Tm.op,Tm.kids] at o15 hl;subst o15 hl;obtain ⟨o2,x2,k2⟩:=r;obtain ⟨o3,x3,k3⟩:=v;obtain ⟨o4,x4,k4⟩:=x;obtain ⟨o5,x5,k5⟩:=y;obtain ⟨o6,x6,k6⟩:=r0;obtain ⟨o7,x7,k7⟩:=r1;simp only [Tm.n,Tm.op] at h1 hw hw2 hw5;simp only [Be,Ah,Ayo,Ayn] at h0 h1 h2 h3 p0 p1 ⊢;cases is<;>cases p<;>(simp (maxSteps:=1000000) only [↓M4,↓XX,XY,↓reduceIte,Nat.reduceBEq,Nat.reduceAdd,Int.reduceEq,Int.reduceLT,Int.reduceLE,↓Av h0,↓AI h1,↓Ag hw,hv,hd4,hd0,hna,↓Ag hw2,↓Ag p0,↓Ag p1,↓AI h2,↓AI h3,↓Ag hw5,↓Ct];first | exact An _ _ | exact Aw rfl (by simp) _)
  ·have hj1:=Int.emod_nonneg r.n (show (20:Int)≠0 by decide)
   have hj2:=Int.emod_lt_of_pos r.n (show (0:Int)<20 by decide)
   refine ⟨.mk 25 (r.n % 20 - 5) [],true,⟨N0+N1+100,fun n hn=>?_⟩,Cr (by decide) (by decide) (by rw [BH,if_neg (by decide),if_neg (by decide),if_pos rfl];omega),by simp only [Tm.wt,Tm.wtL];omega,by simp only [Tm.dp,Tm.dpL];omega,fun _=>up (.oint e g a _ o15)⟩;obtain ⟨n,rfl⟩:∃k,n=k+1:=⟨n - 1,by omega⟩;have h0:=h0 n (by omega);have h1:=h1 n (by omega);have hw:=As (n:=n) (by omega) r.op (m:=3) (by omega) (by omega);have hw2:=As (n:=n) (by omega) r.op (m:=2) (by omega) (by omega);have hw20:=As (n:=n) (by omega) r.n (m:=20) (by omega) (by omega);have w5:BC (r.n % 20 - 5)=r.n % 20 - 5:=by rw [Az]<;>omega
   have hin:=Afq (n:=n) (by omega) (r.n % 20 - 5);rw [← w5] at hin;have h21:(0:Int)<(e:Int) - 5→¬ r.op % 2=1:=by omega
   rw [c68,← w5];clear up hfn hO hA hg ha0 ha tv hj1 hj2 w5 hs;generalize r.op % 3=w3 at hw hv hna;generalize r.op % 2=w2 at hw2 h21;generalize r.n % 20=w20 at hw20 hin ⊢;obtain ⟨o0,x0,k0⟩:=a0;obtain ⟨o1,x1,k1⟩:=a;simp only [Tm.op,Tm.kids] at o15 hl;subst o15 hl;obtain ⟨o2,x2,k2⟩:=r;obtain ⟨o3,x3,k3⟩:=v;simp only [Tm.n,Tm.op] at h1 hw hw2 hw20;simp only [Be,Ah,Ayo,Ayn] at h0 h1 hin ⊢;cases is<;>by_cases hd0:(0:Int)<(e:Int) - 5<;>(simp (maxSteps:=1000000) only [↓M4,↓XX,XY,↓reduceIte,Nat.reduceBEq,Nat.reduceAdd,Int.reduceEq,Int.reduceLT,Int.reduceLE,↓Av h0,↓AI h1,↓Ag hw,hv,hd4,hd0,hna,↓Ag hw2,h21,↓Ag hw20,↓Av hin];first | exact An _ _ | exact Aw rfl (by simp) _)
 by_cases o16:a.op=16
 ·obtain ⟨d,c,hl⟩:=YR (Gn ha (show ar a.op=some 2 by rw [o16];decide))
  have hd:NOk g.length d∧NOk g.length c:=by
   obtain ⟨o1,x1,k1⟩:=a;simp only [Tm.op,Tm.kids] at o16 hl;subst o16 hl;have hsc:=ha.sc;rw [Tm.sc] at hsc;rw [MP] at aw;rw [OY] at ad;exact ⟨⟨hsc.2.2.1,by omega,by omega⟩,⟨hsc.2.2.2.1,by omega,by omega⟩⟩
  obtain ⟨hd,hc⟩:=hd;have hgd:GOk (e - 1) (g++[(0,d)]):=C1 (by rw [show e - 1+1=e by omega];exact hg) hd.sc (by have:=hd.wt;omega) (by have:=hd.dp;omega)
  obtain ⟨x,p,⟨N2,h2⟩,tx⟩:=hO (g++[(0,d)]) (c.shift 1 0) (r.pick 0) hgd (by simpa using Bu (Mc hc (by omega) 1 (by omega)));have xs:x.sc (g.length+1):=by simpa using tx.sc
  refine ⟨.mk 20 0 [d,x],p,⟨N0+N1+N2+100000,fun n hn=>?_⟩,Cs (by decide) (by decide) (BN (by decide) (by decide) (by decide)) hd.sc xs,by have:=tx.wt;have:=hd.wt;rw [MP];omega,by have:=tx.dp;have:=hd.dp;rw [OY];omega,fun hb=>up (by
   obtain ⟨oa,xa,ka⟩:=a;simp only [Tm.op,Tm.kids] at o16 hl;subst o16 hl;exact .olam e g _ d c x (tx.gr hb))⟩
  ·obtain ⟨n,rfl⟩:∃k,n=k+1:=⟨n - 1,by omega⟩;have h0:=h0 n (by omega);have h1:=h1 n (by omega);have h2:=h2 n (by omega);rw [← we] at h2;have hw:=As (n:=n) (by omega) r.op (m:=3) (by omega) (by omega);have p0:=AO (n:=n) (by omega) r 0;have hm:=Dm (n:=n) g 0 d (by omega) (by omega);have sh:=Di n c 1 0 (by have:=hc.wt;omega) (Gk _ _ hc.sc) (by omega) (by have:=hc.wt;omega);have t20:=C0 (n:=n) (by omega) 20 [d,x];rw [c68];clear up hfn hO hA hg ha0 ha tv tx hd hc hgd xs;generalize r.op % 3=w3 at hw hv hna;generalize c.shift 1 0=c1 at sh h2;generalize r.pick 0=r0 at p0 h2;obtain ⟨o0,x0,k0⟩:=a0;obtain ⟨o1,x1,k1⟩:=a;simp only [Tm.op,Tm.kids] at o16 hl;subst o16 hl;obtain ⟨o2,x2,k2⟩:=r;obtain ⟨o3,x3,k3⟩:=v;obtain ⟨o4,x4,k4⟩:=x;obtain ⟨o5,x5,k5⟩:=d;obtain ⟨o6,x6,k6⟩:=c;obtain ⟨o7,x7,k7⟩:=c1;obtain ⟨o8,x8,k8⟩:=r0;simp only [Tm.n,Tm.op] at h1 hw;simp only [Be,Ah,Ayo,Ayn] at h0 h1 h2 p0 hm sh t20 ⊢;cases is<;>by_cases hd0:(0:Int)<(e:Int) - 5<;>(simp (maxSteps:=1000000) only [↓M4,↓XX,XY,↓reduceIte,Nat.reduceBEq,Nat.reduceAdd,Int.reduceEq,Int.reduceLT,Int.reduceLE,↓Av h0,↓AI h1,↓Ag hw,hv,hd4,hd0,hna,↓Bx,↓BJ,↓Ag p0,↓AL hm,↓AL sh,↓AI h2,↓Ct,↓Ag t20];first | exact An _ _ | exact Aw rfl (by simp) _)
 by_cases o17:a.op=17
 ·obtain ⟨d,c,hl⟩:=YR (Gn ha (show ar a.op=some 2 by rw [o17];decide))
  have hd:NOk g.length d∧NOk g.length c:=by
   obtain ⟨o1,x1,k1⟩:=a;simp only [Tm.op,Tm.kids] at o17 hl;subst o17 hl;have hsc:=ha.sc;rw [Tm.sc] at hsc;rw [MP] at aw;rw [OY] at ad;exact ⟨⟨hsc.2.2.1,by omega,by omega⟩,⟨hsc.2.2.2.1,by omega,by omega⟩⟩
  obtain ⟨hd,hc⟩:=hd;obtain ⟨x,p,⟨N2,h2⟩,tx⟩:=hO g d (r.pick 0) (AT (by omega) hg) (Bu hd);obtain ⟨y,q,⟨N3,h3⟩,ty⟩:=hO g c (r.pick 1) (AT (by omega) hg) (Bu hc);refine ⟨.mk 22 0 [x,y],p && q,⟨N0+N1+N2+N3+100,fun n hn=>?_⟩,Cs (by decide) (by decide) (BN (by decide) (by decide) (by decide)) tx.sc ty.sc,by have:=tx.wt;have:=ty.wt;rw [MP];omega,by have:=tx.dp;have:=ty.dp;rw [OY];omega,fun hb=>up (by
   obtain ⟨oa,xa,ka⟩:=a;simp only [Tm.op,Tm.kids] at o17 hl;subst o17 hl;exact .opair e g _ d c x y (tx.gr (KJ hb)) (ty.gr (I7 hb)))⟩
  ·obtain ⟨n,rfl⟩:∃k,n=k+1:=⟨n - 1,by omega⟩;have h0:=h0 n (by omega);have h1:=h1 n (by omega);have h2:=h2 n (by omega);have h3:=h3 n (by omega);rw [← we] at h2 h3;have hw:=As (n:=n) (by omega) r.op (m:=3) (by omega) (by omega);have p0:=AO (n:=n) (by omega) r 0;have p1:=AO (n:=n) (by omega) r 1;have t22:=C0 (n:=n) (by omega) 22 [x,y];rw [c68];clear up hfn hO hA hg ha0 ha tv tx ty hd hc;generalize r.op % 3=w3 at hw hv hna;generalize r.pick 0=r0 at p0 h2;generalize r.pick 1=r1 at p1 h3;obtain ⟨o0,x0,k0⟩:=a0;obtain ⟨o1,x1,k1⟩:=a;simp only [Tm.op,Tm.kids] at o17 hl;subst o17 hl;obtain ⟨o2,x2,k2⟩:=r;obtain ⟨o3,x3,k3⟩:=v;obtain ⟨o4,x4,k4⟩:=x;obtain ⟨o5,x5,k5⟩:=d;obtain ⟨o6,x6,k6⟩:=c;obtain ⟨o7,x7,k7⟩:=y;obtain ⟨o8,x8,k8⟩:=r0;obtain ⟨o9,x9,k9⟩:=r1;simp only [Tm.n,Tm.op] at h1 hw;simp only [Be,Ah,Ayo,Ayn] at h0 h1 h2 h3 p0 p1 t22 ⊢;cases is<;>by_cases hd0:(0:Int)<(e:Int) - 5<;>cases p<;>(simp (maxSteps:=1000000) only [↓M4,↓XX,XY,↓reduceIte,Nat.reduceBEq,Nat.reduceAdd,Int.reduceEq,Int.reduceLT,Int.reduceLE,↓Av h0,↓AI h1,↓Ag hw,hv,hd4,hd0,hna,↓Bx,↓BJ,↓Ag p0,↓Ag p1,↓AI h2,↓AI h3,↓Ct,↓Ag t22];first | exact An _ _ | exact Aw rfl (by simp) _)
 refine ⟨v,is,⟨N0+N1+100,fun n hn=>?_⟩,tv⟩
 ·obtain ⟨n,rfl⟩:∃k,n=k+1:=⟨n - 1,by omega⟩;have h0:=h0 n (by omega);have h1:=h1 n (by omega);have hw:=As (n:=n) (by omega) r.op (m:=3) (by omega) (by omega);rw [c68];clear up hfn hO hA hg ha0 ha tv;generalize r.op % 3=w3 at hw hv hna;obtain ⟨o0,x0,k0⟩:=a0;obtain ⟨o1,x1,k1⟩:=a;obtain ⟨o2,x2,k2⟩:=r;obtain ⟨o3,x3,k3⟩:=v;simp only [Tm.n,Tm.op] at h1 hw o15 o16 o17;simp only [Be,Ah] at h0 h1 ⊢;cases is<;>by_cases hd0:(0:Int)<(e:Int) - 5<;>(simp (maxSteps:=1000000) only [↓M4,↓XX,XY,↓reduceIte,Nat.reduceBEq,Nat.reduceAdd,Int.reduceEq,Int.reduceLT,Int.reduceLE,↓Av h0,↓AI h1,↓Ag hw,hv,hd4,hd0,hna,o15,o16,o17];first | exact An _ _ | exact Aw rfl (by simp) _)
set_option maxRecDepth 20000 in
set_option maxHeartbeats 8000000 in
theorem Alr {e:Nat} (he:e≤10) (hG:1≤e→DD 70 1 (e - 1)) (hO:1≤e→DD 68 2 (e - 1)) (hA:6≤e→Pm 100 3 e) (hP:1≤e→Aho 101 3 e):DD 70 1 e:=by
 intro g a0 r hg ha0;have hlen:=hg.len;have hW0:=K7 e;have hD0:200≤Dg e:=by unfold Dg;omega
 have hDm:Dg e≤300:=by unfold Dg;omega
 have hW10:=MY he;obtain ⟨a,er,⟨N0,h0⟩,hcase,fn,hfn⟩:=Jz (k:=g.length) (by omega) ha0.sc (by have:=ha0.dp;omega);rcases hcase with ⟨rfl,ha⟩ | ⟨her,rfl⟩
 case inr =>
  have hne:er≠0:=by omega
  refine ⟨.z,false,⟨N0+100,fun n hn=>?_⟩,ArS _,by simp only [Tm.z,Tm.wt,Tm.wtL];omega,by simp only [Tm.z,Tm.dp,Tm.dpL];omega,fun h=>by cases h⟩;obtain ⟨n,rfl⟩:∃k,n=k+1:=⟨n - 1,by omega⟩;have h0:=h0 n (by omega);rw [c70];clear hG hO hA hP hg ha0;obtain ⟨o1,x1,k1⟩:=a0;obtain ⟨o2,x2,k2⟩:=r;simp only [Be,Tm.z,Ayn,Ah] at h0 ⊢;simp (maxSteps:=1000000) only [↓JV,↓XX,XY,↓reduceIte,Nat.reduceBEq,Nat.reduceAdd,Int.reduceEq,Int.reduceLT,Int.reduceLE,↓Av h0,hne];first | exact An _ _ | exact Aw rfl (by simp) _
 obtain ⟨v,is,⟨N1,h1⟩,tv0,hhit⟩:=K2 hg 1 ha r.n;have up:∀{t:Tm},Gr 3 e g a t→Gr 1 e g a0 t:=fun h=>.grow e g a0 a _ fn hfn (by omega) ha h;have tv:TG 1 e g a0 v is:=tg (Sq (Nat.zero_le _) tv0) (fun hb=>by
  obtain ⟨i,rfl,hi⟩:=hhit hb;exact up (.var1 e g a i hi))
 clear tv0 hhit;have aw:=ha.wt;have ad:=ha.dp;have hw3m:=Int.emod_nonneg r.op (show (3:Int)≠0 by decide)
 by_cases cv:is=true∧r.op % 3=0∨e=0
 ·refine ⟨v,is,⟨N0+N1+100,fun n hn=>?_⟩,tv⟩;obtain ⟨n,rfl⟩:∃k,n=k+1:=⟨n - 1,by omega⟩;have h0:=h0 n (by omega);have h1:=h1 n (by omega);have hw:=As (n:=n) (by omega) r.op (m:=3) (by omega) (by omega);rw [c70];clear up hfn hG hO hA hP hg ha0 ha tv;obtain ⟨o0,x0,k0⟩:=a0;obtain ⟨o1,x1,k1⟩:=a;obtain ⟨o2,x2,k2⟩:=r;obtain ⟨o3,x3,k3⟩:=v;simp only [Tm.n,Tm.op] at h1 hw cv;simp only [Be,Ah] at h0 h1 ⊢;generalize o2 % 3=w3 at hw cv;rcases cv with ⟨rfl,rfl⟩ | rfl
  ·simp (maxSteps:=1000000) only [↓JV,↓XX,XY,↓reduceIte,Nat.reduceBEq,Nat.reduceAdd,Int.reduceEq,Int.reduceLT,Int.reduceLE,↓Av h0,↓AI h1,↓Ag hw];first | exact An _ _ | exact Aw rfl (by simp) _
  ·have hd4:((0:Nat):Int) - 5 < -4:=by omega
   cases is
   ·simp (maxSteps:=1000000) only [↓JV,↓XX,XY,↓reduceIte,Nat.reduceBEq,Nat.reduceAdd,Int.reduceEq,Int.reduceLT,Int.reduceLE,↓Av h0,↓AI h1,↓Ag hw,hd4,Int.reduceSub,Int.reduceLT,Int.reduceNeg];first | exact An _ _ | exact Aw rfl (by simp) _
   ·by_cases h3:w3=0
    ·simp (maxSteps:=1000000) only [↓JV,↓XX,XY,↓reduceIte,Nat.reduceBEq,Nat.reduceAdd,Int.reduceEq,Int.reduceLT,Int.reduceLE,↓Av h0,↓AI h1,↓Ag hw,h3,hd4,Int.reduceSub,Int.reduceLT,Int.reduceNeg];first | exact An _ _ | exact Aw rfl (by simp) _
    ·simp (maxSteps:=1000000) only [↓JV,↓XX,XY,↓reduceIte,Nat.reduceBEq,Nat.reduceAdd,Int.reduceEq,Int.reduceLT,Int.reduceLE,↓Av h0,↓AI h1,↓Ag hw,h3,hd4,Int.reduceSub,Int.reduceLT,Int.reduceNeg];first | exact An _ _ | exact Aw rfl (by simp) _
 have he1:1≤e:=by omega
 have hd4:¬ (e:Int) - 5 < -4:=by omega
 have hv:is=true→¬ r.op % 3=0:=fun h1 h2=>cv (.inl ⟨h1,h2⟩);have hW1:Wg e=4 * Wg (e - 1):=by
  obtain ⟨f,rfl⟩:∃f,e=f+1:=⟨e - 1,by omega⟩;rw [K6,Nat.add_sub_cancel]
 have hW01:=K7 (e - 1);have hD1:Dg e=Dg (e - 1)+10:=by unfold Dg;omega
 have hD01:200≤Dg (e - 1):=by unfold Dg;omega
 have we:BC ((e:Int) - 5 - 1)=((e - 1:Nat):Int) - 5:=by rw [Az (by omega) (by omega)];omega
 have hO:=hO he1;have hG:=hG he1;have hP:=hP he1;by_cases ca:6≤e∧r.op % 7=6
 ·obtain ⟨t,b,⟨N2,h2⟩,tt⟩:=hA ca.1 g a r hg ha;refine ⟨t,b,⟨N0+N1+N2+100,fun n hn=>?_⟩,Aii tt up⟩;obtain ⟨n,rfl⟩:∃k,n=k+1:=⟨n - 1,by omega⟩;have h0:=h0 n (by omega);have h1:=h1 n (by omega);have h2:=h2 n (by omega);have hw:=As (n:=n) (by omega) r.op (m:=3) (by omega) (by omega);have hw7:=As (n:=n) (by omega) r.op (m:=7) (by omega) (by omega);rw [ca.2] at hw7;have hd0:(0:Int)<(e:Int) - 5:=by omega
  rw [c70];clear up hfn hG hO hA hP hg ha0 ha tv tt;generalize r.op % 3=w3 at hw hv;obtain ⟨o0,x0,k0⟩:=a0;obtain ⟨o1,x1,k1⟩:=a;obtain ⟨o2,x2,k2⟩:=r;obtain ⟨o3,x3,k3⟩:=v;obtain ⟨o4,x4,k4⟩:=t;simp only [Tm.n,Tm.op] at h1 hw hw7;simp only [Be,Ah] at h0 h1 h2 ⊢;cases is<;>(simp (maxSteps:=1000000) only [↓JV,↓XX,XY,↓reduceIte,Nat.reduceBEq,Nat.reduceAdd,Int.reduceEq,Int.reduceLT,Int.reduceLE,↓Av h0,↓AI h1,↓Ag hw,↓Ag hw7,hv,hd4,hd0,↓AI h2];first | exact An _ _ | exact Aw rfl (by simp) _)
 have hna:(0:Int)<(e:Int) - 5→¬ r.op % 7=6:=by omega
 by_cases hpl:a.op=10∨a.op=14∨a.op=2
 ·obtain ⟨t,b,⟨N2,h2⟩,tt⟩:=hP g a r hg ha hpl;refine ⟨t,b,⟨N0+N1+N2+100,fun n hn=>?_⟩,Aii tt up⟩
  ·obtain ⟨n,rfl⟩:∃k,n=k+1:=⟨n - 1,by omega⟩;have h0:=h0 n (by omega);have h1:=h1 n (by omega);have h2:=h2 n (by omega);have hw:=As (n:=n) (by omega) r.op (m:=3) (by omega) (by omega);have hw7:=As (n:=n) (by omega) r.op (m:=7) (by omega) (by omega);rw [c70];clear up hfn hG hO hA hP hg ha0 ha tv tt;generalize r.op % 3=w3 at hw hv;generalize r.op % 7=w7 at hw7 hna;obtain ⟨o0,x0,k0⟩:=a0;obtain ⟨o1,x1,k1⟩:=a;obtain ⟨o2,x2,k2⟩:=r;obtain ⟨o3,x3,k3⟩:=v;obtain ⟨o4,x4,k4⟩:=t;simp only [Tm.n,Tm.op] at h1 hw hw7 hpl;simp only [Be,Ah] at h0 h1 h2 ⊢;rcases hpl with rfl | rfl | rfl
   ·cases is<;>by_cases hd0:(0:Int)<(e:Int) - 5<;>(simp (maxSteps:=1000000) only [↓JV,↓XX,XY,↓reduceIte,Nat.reduceBEq,Nat.reduceAdd,Int.reduceEq,Int.reduceLT,Int.reduceLE,↓Av h0,↓AI h1,↓Ag hw,↓Ag hw7,hv,hd4,hd0,hna,↓AI h2];first | exact An _ _ | exact Aw rfl (by simp) _)
   ·cases is<;>by_cases hd0:(0:Int)<(e:Int) - 5<;>(simp (maxSteps:=1000000) only [↓JV,↓XX,XY,↓reduceIte,Nat.reduceBEq,Nat.reduceAdd,Int.reduceEq,Int.reduceLT,Int.reduceLE,↓Av h0,↓AI h1,↓Ag hw,↓Ag hw7,hv,hd4,hd0,hna,↓AI h2];first | exact An _ _ | exact Aw rfl (by simp) _)
   ·cases is<;>by_cases hd0:(0:Int)<(e:Int) - 5<;>(simp (maxSteps:=1000000) only [↓JV,↓XX,XY,↓reduceIte,Nat.reduceBEq,Nat.reduceAdd,Int.reduceEq,Int.reduceLT,Int.reduceLE,↓Av h0,↓AI h1,↓Ag hw,↓Ag hw7,hv,hd4,hd0,hna,↓AI h2];first | exact An _ _ | exact Aw rfl (by simp) _)
 by_cases o3:a.op=3
 ·obtain ⟨d,c,hl⟩:=YR (Gn ha (show ar a.op=some 2 by rw [o3];decide))
  have hd:NOk g.length d∧NOk (g.length+1) c:=by
   obtain ⟨o1,x1,k1⟩:=a;simp only [Tm.op,Tm.kids] at o3 hl;subst o3 hl;have hsc:=ha.sc;rw [Tm.sc] at hsc;rw [MP] at aw;rw [OY] at ad;exact ⟨⟨hsc.2.2.1,by omega,by omega⟩,⟨hsc.2.2.2.1,by omega,by omega⟩⟩
  obtain ⟨hd,hc⟩:=hd;have hgd:GOk (e - 1) (g++[(1,d)]):=C1 (by rw [show e - 1+1=e by omega];exact hg) hd.sc (by have:=hd.wt;omega) (by have:=hd.dp;omega)
  obtain ⟨x,p,⟨N2,h2⟩,tx⟩:=hG (g++[(1,d)]) c (r.pick 0) hgd (by simpa using Bu hc);have xs:x.sc (g.length+1):=by simpa using tx.sc
  refine ⟨.mk 4 0 [d,x],p,⟨N0+N1+N2+100000,fun n hn=>?_⟩,Cs (by decide) (by decide) (BN (by decide) (by decide) (by decide)) hd.sc xs,by have:=tx.wt;have:=hd.wt;rw [MP];omega,by have:=tx.dp;have:=hd.dp;rw [OY];omega,fun hb=>up (by
   obtain ⟨oa,xa,ka⟩:=a;simp only [Tm.op,Tm.kids] at o3 hl;subst o3 hl;exact .lam e g _ d c x (tx.gr hb))⟩
  ·obtain ⟨n,rfl⟩:∃k,n=k+1:=⟨n - 1,by omega⟩;have h0:=h0 n (by omega);have h1:=h1 n (by omega);have h2:=h2 n (by omega);rw [← we] at h2;have hw:=As (n:=n) (by omega) r.op (m:=3) (by omega) (by omega);have hw7:=As (n:=n) (by omega) r.op (m:=7) (by omega) (by omega);have p0:=AO (n:=n) (by omega) r 0;have hm:=Dm (n:=n) g 1 d (by omega) (by omega);have t4:=C0 (n:=n) (by omega) 4 [d,x];rw [c70];clear up hfn hG hO hA hP hg ha0 ha tv tx hd hc hgd xs hpl;generalize r.op % 3=w3 at hw hv;generalize r.op % 7=w7 at hw7 hna;generalize r.pick 0=r0 at p0 h2;obtain ⟨o0,x0,k0⟩:=a0;obtain ⟨o1,x1,k1⟩:=a;simp only [Tm.op,Tm.kids] at o3 hl;subst o3 hl;obtain ⟨o2,x2,k2⟩:=r;obtain ⟨o3,x3,k3⟩:=v;obtain ⟨o4,x4,k4⟩:=x;obtain ⟨o5,x5,k5⟩:=d;obtain ⟨o6,x6,k6⟩:=c;obtain ⟨o8,x8,k8⟩:=r0;simp only [Tm.n,Tm.op] at h1 hw hw7;simp only [Be,Ah,Ayo,Ayn] at h0 h1 h2 p0 hm t4 ⊢;cases is<;>by_cases hd0:(0:Int)<(e:Int) - 5<;>(simp (maxSteps:=1000000) only [↓JV,↓XX,XY,↓reduceIte,Nat.reduceBEq,Nat.reduceAdd,Int.reduceEq,Int.reduceLT,Int.reduceLE,↓Av h0,↓AI h1,↓Ag hw,↓Ag hw7,hv,hd4,hd0,hna,↓Bx,↓BJ,↓Ag p0,↓AL hm,↓AI h2,↓Ct,↓Ag t4];first | exact An _ _ | exact Aw rfl (by simp) _)
 by_cases o6:a.op=6
 ·obtain ⟨d,c,hl⟩:=YR (Gn ha (show ar a.op=some 2 by rw [o6];decide))
  have hd:NOk g.length d∧NOk (g.length+1) c:=by
   obtain ⟨o1,x1,k1⟩:=a;simp only [Tm.op,Tm.kids] at o6 hl;subst o6 hl;have hsc:=ha.sc;rw [Tm.sc] at hsc;rw [MP] at aw;rw [OY] at ad;exact ⟨⟨hsc.2.2.1,by omega,by omega⟩,⟨hsc.2.2.2.1,by omega,by omega⟩⟩
  obtain ⟨hd,hc⟩:=hd;obtain ⟨x,p,⟨N2,h2⟩,tx⟩:=hG g d (r.pick 0) (AT (by omega) hg) (Bu hd);cases p
  ·refine ⟨v,is,⟨N0+N1+N2+100,fun n hn=>?_⟩,tv⟩;obtain ⟨n,rfl⟩:∃k,n=k+1:=⟨n - 1,by omega⟩;have h0:=h0 n (by omega);have h1:=h1 n (by omega);have h2:=h2 n (by omega);rw [← we] at h2;have hw:=As (n:=n) (by omega) r.op (m:=3) (by omega) (by omega);have hw7:=As (n:=n) (by omega) r.op (m:=7) (by omega) (by omega);have p0:=AO (n:=n) (by omega) r 0;rw [c70];clear up hfn hG hO hA hP hg ha0 ha tv tx hd hc hpl;generalize r.op % 3=w3 at hw hv;generalize r.op % 7=w7 at hw7 hna;generalize r.pick 0=r0 at p0 h2;obtain ⟨o0,x0,k0⟩:=a0;obtain ⟨o1,x1,k1⟩:=a;simp only [Tm.op,Tm.kids] at o6 hl;subst o6 hl;obtain ⟨o2,x2,k2⟩:=r;obtain ⟨o3,x3,k3⟩:=v;obtain ⟨o4,x4,k4⟩:=x;obtain ⟨o5,x5,k5⟩:=d;obtain ⟨o6,x6,k6⟩:=c;obtain ⟨o8,x8,k8⟩:=r0;simp only [Tm.n,Tm.op] at h1 hw hw7;simp only [Be,Ah,Ayo,Ayn] at h0 h1 h2 p0 ⊢;cases is<;>by_cases hd0:(0:Int)<(e:Int) - 5<;>(simp (maxSteps:=1000000) only [↓JV,↓XX,XY,↓reduceIte,Nat.reduceBEq,Nat.reduceAdd,Int.reduceEq,Int.reduceLT,Int.reduceLE,↓Av h0,↓AI h1,↓Ag hw,↓Ag hw7,hv,hd4,hd0,hna,↓Bx,↓BJ,↓Ag p0,↓AI h2];first | exact An _ _ | exact Aw rfl (by simp) _)
  ·have hss:AOk g.length (c.subst 0 0 x):=by
    have xw:=tx.wt;have xd:=tx.dp;have cw:=hc.wt;have cd:=hc.dp;have h1:=Nw c x 0 0;have h2:=TR c x 0 0;have h3:c.wt * x.wt≤3000 * 21000000000:=Nat.mul_le_mul cw (by omega);exact ⟨MW c x 0 g.length hc.sc tx.sc (by omega),by omega,by omega⟩
   obtain ⟨y,q,⟨N3,h3⟩,ty⟩:=hG g (c.subst 0 0 x) (r.pick 1) (AT (by omega) hg) hss;refine ⟨.mk 7 0 [a,x,y],q,⟨N0+N1+N2+N3+1000000000000,fun n hn=>?_⟩,Xx (by decide) (by decide) (BN (by decide) (by decide) (by decide)) ha.sc tx.sc ty.sc,by have:=tx.wt;have:=ty.wt;rw [wt3];omega,by have:=tx.dp;have:=ty.dp;rw [dp3];omega,fun hb=>up (by
   obtain ⟨oa,xa,ka⟩:=a;simp only [Tm.op,Tm.kids] at o6 hl;subst o6 hl;exact .pair e g _ d c x y (AfG tx (by omega)) (tx.gr rfl) (ty.gr hb))⟩
   obtain ⟨n,rfl⟩:∃k,n=k+1:=⟨n - 1,by omega⟩;have h0:=h0 n (by omega);have h1:=h1 n (by omega);have h2:=h2 n (by omega);have h3:=h3 n (by omega);rw [← we] at h2 h3;have hw:=As (n:=n) (by omega) r.op (m:=3) (by omega) (by omega);have hw7:=As (n:=n) (by omega) r.op (m:=7) (by omega) (by omega);have p0:=AO (n:=n) (by omega) r 0;have p1:=AO (n:=n) (by omega) r 1;have hsb:=TU (n:=n) c x 0 (Gk _ _ tx.sc) (by have:=tx.wt;omega) (by have:=tx.wt;have:=hc.wt;omega) (Gk _ _ hc.sc) (by have:=hc.wt;omega) (by omega) (by have:=hc.wt;omega);have t7:=C0 (n:=n) (by omega) 7 [a,x,y];rw [c70];clear up hfn hG hO hA hP hg ha0 ha tv tx ty hd hc hpl hss;generalize r.op % 3=w3 at hw hv;generalize r.op % 7=w7 at hw7 hna;generalize c.subst 0 0 x=sb at hsb h3;generalize r.pick 0=r0 at p0 h2;generalize r.pick 1=r1 at p1 h3;obtain ⟨o0,x0,k0⟩:=a0;obtain ⟨o1,x1,k1⟩:=a;simp only [Tm.op,Tm.kids] at o6 hl;subst o6 hl;obtain ⟨o2,x2,k2⟩:=r;obtain ⟨o3,x3,k3⟩:=v;obtain ⟨o4,x4,k4⟩:=x;obtain ⟨o5,x5,k5⟩:=d;obtain ⟨o6,x6,k6⟩:=c;obtain ⟨o7,x7,k7⟩:=y;obtain ⟨o8,x8,k8⟩:=r0;obtain ⟨o9,x9,k9⟩:=r1;obtain ⟨oa,xa,ka⟩:=sb;simp only [Tm.n,Tm.op] at h1 hw hw7;simp only [Be,Ah,Ayo,Ayn] at h0 h1 h2 h3 p0 p1 hsb t7 ⊢;cases is<;>by_cases hd0:(0:Int)<(e:Int) - 5<;>(simp (maxSteps:=1000000) only [↓JV,↓XX,XY,↓reduceIte,Nat.reduceBEq,Nat.reduceAdd,Int.reduceEq,Int.reduceLT,Int.reduceLE,↓Av h0,↓AI h1,↓Ag hw,↓Ag hw7,hv,hd4,hd0,hna,↓Bx,↓BJ,↓Ag p0,↓Ag p1,↓AI h2,↓AL hsb,↓AI h3,↓Jm,↓Ag t7];first | exact An _ _ | exact Aw rfl (by simp) _)
 by_cases o18:a.op=18
 ·obtain ⟨d,hl⟩:=Auu (Gn ha (show ar a.op=some 1 by rw [o18];decide))
  have hd:NOk g.length d:=by
   obtain ⟨o1,x1,k1⟩:=a;simp only [Tm.op,Tm.kids] at o18 hl;subst o18 hl;have hsc:=ha.sc;rw [Tm.sc] at hsc;rw [wt1] at aw;rw [dp1] at ad;exact ⟨hsc.2.2.1,by omega,by omega⟩
  obtain ⟨x,p,⟨N2,h2⟩,tx⟩:=hO g d (r.pick 0) (AT (by omega) hg) (Bu hd);refine ⟨.mk 19 0 [x],p,⟨N0+N1+N2+100,fun n hn=>?_⟩,E7 (by decide) (by decide) (BN (by decide) (by decide) (by decide)) tx.sc,by have:=tx.wt;rw [wt1];omega,by have:=tx.dp;rw [dp1];omega,fun hb=>up (by
   obtain ⟨oa,xa,ka⟩:=a;simp only [Tm.op,Tm.kids] at o18 hl;subst o18 hl;exact .quo e g _ d x (tx.gr hb))⟩
  ·obtain ⟨n,rfl⟩:∃k,n=k+1:=⟨n - 1,by omega⟩;have h0:=h0 n (by omega);have h1:=h1 n (by omega);have h2:=h2 n (by omega);rw [← we] at h2;have hw:=As (n:=n) (by omega) r.op (m:=3) (by omega) (by omega);have hw7:=As (n:=n) (by omega) r.op (m:=7) (by omega) (by omega);have p0:=AO (n:=n) (by omega) r 0;have t19:=C0 (n:=n) (by omega) 19 [x];rw [c70];clear up hfn hG hO hA hP hg ha0 ha tv tx hd hpl;generalize r.op % 3=w3 at hw hv;generalize r.op % 7=w7 at hw7 hna;generalize r.pick 0=r0 at p0 h2;obtain ⟨o0,x0,k0⟩:=a0;obtain ⟨o1,x1,k1⟩:=a;simp only [Tm.op,Tm.kids] at o18 hl;subst o18 hl;obtain ⟨o2,x2,k2⟩:=r;obtain ⟨o3,x3,k3⟩:=v;obtain ⟨o4,x4,k4⟩:=x;obtain ⟨o5,x5,k5⟩:=d;obtain ⟨o8,x8,k8⟩:=r0;simp only [Tm.n,Tm.op] at h1 hw hw7;simp only [Be,Ah,Ayo,Ayn] at h0 h1 h2 p0 t19 ⊢;cases is<;>by_cases hd0:(0:Int)<(e:Int) - 5<;>(simp (maxSteps:=1000000) only [↓JV,↓XX,XY,↓reduceIte,Nat.reduceBEq,Nat.reduceAdd,Int.reduceEq,Int.reduceLT,Int.reduceLE,↓Av h0,↓AI h1,↓Ag hw,↓Ag hw7,hv,hd4,hd0,hna,↓Bx,↓Ag p0,↓AI h2,↓Cl,↓Ag t19];first | exact An _ _ | exact Aw rfl (by simp) _)
 have q1:a.op≠10:=fun h=>hpl (.inl h);have q2:a.op≠14:=fun h=>hpl (.inr (.inl h));have q3:a.op≠2:=fun h=>hpl (.inr (.inr h));refine ⟨v,is,⟨N0+N1+100,fun n hn=>?_⟩,tv⟩
 ·obtain ⟨n,rfl⟩:∃k,n=k+1:=⟨n - 1,by omega⟩;have h0:=h0 n (by omega);have h1:=h1 n (by omega);have hw:=As (n:=n) (by omega) r.op (m:=3) (by omega) (by omega);have hw7:=As (n:=n) (by omega) r.op (m:=7) (by omega) (by omega);rw [c70];clear up hfn hG hO hA hP hg ha0 ha tv hpl;generalize r.op % 3=w3 at hw hv;generalize r.op % 7=w7 at hw7 hna;obtain ⟨o0,x0,k0⟩:=a0;obtain ⟨o1,x1,k1⟩:=a;obtain ⟨o2,x2,k2⟩:=r;obtain ⟨o4,x3,k3⟩:=v;simp only [Tm.n,Tm.op] at h1 hw hw7 o3 o6 o18 q1 q2 q3;simp only [Be,Ah] at h0 h1 ⊢;cases is<;>by_cases hd0:(0:Int)<(e:Int) - 5<;>(simp (maxSteps:=1000000) only [↓JV,↓XX,XY,↓reduceIte,Nat.reduceBEq,Nat.reduceAdd,Int.reduceEq,Int.reduceLT,Int.reduceLE,↓Av h0,↓AI h1,↓Ag hw,↓Ag hw7,hv,hd4,hd0,hna,o3,o6,o18,q1,q2,q3];first | exact An _ _ | exact Aw rfl (by simp) _)
theorem Oa:∀e,e≤10→KX e∧DD 70 1 e∧DD 68 2 e:=by
 intro e
 induction e using Nat.strongRecOn with
 | _ e ih =>
  intro he;have hp:1≤e→KX (e - 1)∧DD 70 1 (e - 1)∧DD 68 2 (e - 1):=fun h=>ih (e - 1) (by omega) (by omega);have hp2:2≤e→KX (e - 2)∧DD 70 1 (e - 2)∧DD 68 2 (e - 2):=fun h=>ih (e - 2) (by omega) (by omega);have hT:KX e:=AlI he (fun h=>(hp (by omega)).1) (fun h=>(hp (by omega)).2.1);have hT6:6≤e→KX 6:=fun h=>by
   by_cases h6:e=6
   ·exact h6 ▸ hT
   ·exact (ih 6 (by omega) (by omega)).1
  have hR:6≤e→Pm 100 3 e:=fun h=>Afm h he (hT6 h) (hp2 (by omega)).2.1;have hP:1≤e→Aho 101 3 e:=fun h=>Ahi h he (hp h).2.1 (fun h6=>(hp2 (by omega)).2.1);have hA:6≤e→Pm 98 4 e:=fun h=>AeQ h he (hp2 (by omega)).2.2 (hp (by omega)).2.1;have hO:DD 68 2 e:=Aeo he (fun h=>(hp h).2.2) hA;exact ⟨hT,Alr he (fun h=>(hp h).2.1) (fun h=>(hp h).2.2) hR hP,hO⟩
def Ah6 (T1 T2:Ch→Tm→Tm) (B1:Ch→Tm→Bool) (g:Ch) (r:Tm):Ch:=if r.n % 3=0 then (if B1 g r then g++[(0,T1 g r)] else g) else g++[(1,T2 g r)]
def B6 (f:Ch→Tm→Ch) (l:List Tm):Nat→Ch
 | 0=>[]
 | i+1=>match l[i]? with
  | some r=>f (B6 f l i) r
  | none=>B6 f l i
def gV:Ch→IV
 | []=>.nils
 | p::g=>.fv (Be (p::g))
theorem Aoi {g:Ch} (h:g≠[]):gV g=.fv (Be g):=by
 cases g with
 | nil=>exact absurd rfl h
 | cons p g=>rfl
theorem AqT (g:Ch):gV g=.nils∨∃x,gV g=.fv x:=by
 cases g with
 | nil=>exact .inl rfl
 | cons p g=>exact .inr ⟨_,rfl⟩
theorem Aps (g:Ch) (own:List (Nat×Blk)):Bc (Am [gV g] ⟨own,[]⟩) (Be g):=by
 cases g with
 | nil=>exact A1 rfl _
 | cons p g=>exact An _ _
theorem Aq9 (g:Ch):Bl (gV g)=some (Be g):=by
 cases g with
 | nil=>rfl
 | cons p g=>rfl
set_option maxRecDepth 20000 in
set_option maxHeartbeats 4000000 in
theorem Xh (l:List Tm) (hll:l.length≤9223372036854775807):∃g,Ev 67 [.fv (.sl (l.map Tm.enc))] (Be g)∧GOk 10 g∧g.length≤4∧CtxG g∧(l=[]→g=[]):=by
 have hc:∀p:Ch×Tm,∃(t1 t2:Tm) (b1:Bool),GOk 10 p.1→Ev 70 [.fv (Be p.1),.fv (Tm.mk 14 0 []).enc,.fv p.2.enc,iv 2] (.tuple [Tm.enc t1,.bool b1])∧TG 1 7 p.1 (.mk 14 0 []) t1 b1∧Ev 69 [.fv (Be p.1),.fv p.2.enc,iv 2] (Tm.enc t2)∧TyOk p.1 7 t2:=by
  rintro ⟨g,r⟩;by_cases hg:GOk 10 g
  ·obtain ⟨hT,hG,_⟩:=Oa 7 (by omega);obtain ⟨t1,b1,h1,h2⟩:=hG g (.mk 14 0 []) r (AT (by omega) hg) ⟨Cr (by decide) (by decide) (BN (by decide) (by decide) (by decide)),by simp [Tm.wt,Tm.wtL],by simp [Tm.dp,Tm.dpL]⟩;obtain ⟨t2,h3,h4⟩:=hT g r (AT (by omega) hg);exact ⟨t1,t2,b1,fun _=>⟨h1,h2,h3,h4⟩⟩
  ·exact ⟨.z,.z,false,fun h=>absurd h hg⟩
 obtain ⟨T1,hc⟩:=Classical.axiomOfChoice hc;obtain ⟨T2,hc⟩:=Classical.axiomOfChoice hc;obtain ⟨B1,hc⟩:=Classical.axiomOfChoice hc;obtain ⟨f,hf⟩:∃f,f=Ah6 (fun g r=>T1 (g,r)) (fun g r=>T2 (g,r)) (fun g r=>B1 (g,r)):=⟨_,rfl⟩;have hD7:Dg 7=270:=rfl;have hD6:Dg 6=260:=rfl;have hW7:Wg 7=131072000:=rfl;have hW6:Wg 6=32768000:=rfl;have hstep:∀i,i≤4→GOk 10 (B6 f l i)∧(B6 f l i).length≤i∧CtxG (B6 f l i):=by
  intro i
  induction i with
  | zero=>intro _;exact ⟨⟨by simp [B6],fun i p h=>by simp [B6] at h⟩,by simp [B6],.nil⟩
  | succ i ih =>
   intro h;obtain ⟨h1,h2,hcg⟩:=ih (by omega);rw [B6];cases hr:l[i]? with
   | none=>simp only;exact ⟨h1,by omega,hcg⟩
   | some r =>
    simp only;generalize B6 f l i=g at h1 h2 hcg;obtain ⟨_,h4,_,h6⟩:=hc (g,r) h1;simp only at h4 h6;have h4s:=h4.sc;have h4w:=h4.wt;have h4d:=h4.dp;have h6s:=h6.sc;have h6w:=h6.wt;have h6d:=h6.dp;rw [show 7 - 1=6 from rfl] at h6w h6d
    have big:∀(s:Int) (t:Tm),t.sc g.length→t.wt≤100000000000→t.dp≤6000→GOk 10 (g++[(s,t)]):=by
     intro s t q1 q2 q3;have h11:GOk 11 g:=⟨by omega,h1.ok⟩;exact C1 h11 q1 q2 q3
    rw [hf,Ah6];split
    ·split
     ·rename_i hb;exact ⟨big _ _ h4s (by omega) (by omega),by simp;omega,.ob g _ hcg (h4.gr hb)⟩
     ·exact ⟨h1,by omega,hcg⟩
    ·exact ⟨big _ _ h6s (by omega) (by omega),by simp;omega,.me g _ hcg ⟨h6s,by omega,by omega⟩ (by omega) h6.gr⟩
 obtain ⟨m,hm⟩:∃m,m=min l.length 4:=⟨_,rfl⟩;obtain ⟨N,hN⟩:=AhE (P:=fun i n=>∀r,l[i]?=some r→Bc (SS dt n 70 [.fv (Be (B6 f l i)),.fv (Tm.mk 14 0 []).enc,.fv r.enc,iv 2] ⟨[],[]⟩) (.tuple [Tm.enc (T1 (B6 f l i,r)),.bool (B1 (B6 f l i,r))])∧Bc (SS dt n 69 [.fv (Be (B6 f l i)),.fv r.enc,iv 2] ⟨[],[]⟩) (Tm.enc (T2 (B6 f l i,r)))) m (fun i hi=>by
  have hil:i<l.length:=by omega
  obtain ⟨⟨N1,h1⟩,_,⟨N2,h2⟩,_⟩:=hc (B6 f l i,l[i]) (hstep i (by omega)).1;refine ⟨N1+N2,fun n hn r hr=>?_⟩;rw [List.getElem?_eq_getElem hil,Ayi] at hr;subst hr;exact ⟨h1 n (by omega),h2 n (by omega)⟩)
 have hm4:=hstep m (by omega);refine ⟨B6 f l m,⟨N+100,fun n hn=>?_⟩,hm4.1,by omega,hm4.2.2,fun h=>by subst h;rw [hm];rfl⟩;obtain ⟨n,rfl⟩:∃k,n=k+1:=⟨n - 1,by omega⟩;rw [c67];simp only [Xl,WU,V9,W3,Xy,W6,Xw,Xu,VZ,S67,↓XX,XY,↓reduceIte,Nat.reduceBEq,Nat.reduceAdd,Int.reduceEq,Int.reduceLT,Int.reduceLE,↓AG,XD,heldB,AN,XE];refine A2 (Q:=fun r=>Bc r _) (fun k V H=>∃i:Nat,i+k=m∧V=[.fv (.sl (l.map Tm.enc)),gV (B6 f l i),iv i]∧H=⟨[],[]⟩)
  ?_ n m _ _ (by omega) ⟨0,by omega,rfl,rfl⟩
 rintro k V H rec ⟨i,hik,rfl,rfl⟩ hrec;have hi4:=hstep i (by omega);cases k with
 | zero =>
  have him:i=m:=by omega
  subst him;have ha:=fun own=>Aps (B6 f l i) own;generalize gV (B6 f l i)=gv at ha;by_cases h1:(i:Int)<l.length
  ·have h4:¬ ((i:Int)<4):=by omega
   simp only [↓TB,↓XX,XY,↓reduceIte,Nat.reduceBEq,Nat.reduceAdd,Int.reduceEq,Int.reduceLT,Int.reduceLE,h1,h4];exact ha _
  ·simp only [↓TB,↓XX,XY,↓reduceIte,Nat.reduceBEq,Nat.reduceAdd,Int.reduceEq,Int.reduceLT,Int.reduceLE,h1];exact ha _
 | succ k =>
  have hil:i<l.length:=by omega
  have h1:(i:Int)<l.length:=by omega
  have h4:(i:Int)<4:=by omega
  have wi:BC ((i:Int)+1)=(i:Int)+1:=by rw [Az]<;>omega
  obtain ⟨r,hr⟩:∃r,l[i]?=some r:=⟨_,List.getElem?_eq_getElem hil⟩;obtain ⟨g1,g2⟩:=hN i (by omega) n (by omega) r hr;have hw:=As (n:=n) (by omega) r.n (m:=3) (by omega) (by omega);have t14:=Df (n:=n) (by omega) 14;have h9:=hrec k [.fv (.sl (l.map Tm.enc)),gV (B6 f l (i+1)),iv (i+1:Nat)] ⟨[],[]⟩ (by omega) ⟨i+1,by omega,rfl,rfl⟩;have hi1:((i+1:Nat):Int)=(i:Int)+1:=by omega
  rw [hi1,B6,hr] at h9;simp only [hf,Ah6] at h9;rw [← hf] at h9;have hfz:=Aq9 (B6 f l i);have htw:=AqT (B6 f l i);have m1:=Dm (n:=n) (B6 f l i) 0 (T1 (B6 f l i,r)) (by omega) (by omega);have m2:=Dm (n:=n) (B6 f l i) 1 (T2 (B6 f l i,r)) (by omega) (by omega);have n1:=Aoi (g:=B6 f l i++[((0:Int),T1 (B6 f l i,r))]) (by simp);have n2:=Aoi (g:=B6 f l i++[((1:Int),T2 (B6 f l i,r))]) (by simp);generalize Be (B6 f l i++[((0:Int),T1 (B6 f l i,r))])=e1 at m1 n1;generalize Be (B6 f l i++[((1:Int),T2 (B6 f l i,r))])=e2 at m2 n2;clear hc hstep hN hi4 hm4;by_cases c0:r.n % 3=0
  ·rw [if_pos c0] at h9;rw [c0] at hw;cases hb:B1 (B6 f l i,r)
   ·rw [hb] at g1 h9;simp only [Bool.false_eq_true,if_false] at h9;generalize T1 (B6 f l i,r)=t1 at g1;generalize gV (B6 f l i)=gv at hfz h9 htw;generalize Be (B6 f l i)=ge at hfz g1;obtain ⟨o,p,ks⟩:=r;obtain ⟨o1,p1,k1⟩:=t1;simp only [Tm.n] at hw;simp only [Ah,Ayn] at g1 t14;have g1:=AI (a:=gv) (b:=.fv (.agg [.int .i64 14,.int .i64 0,.sl []])) (c:=.fv (.agg [.int .i64 o,.int .i64 p,.sl (ks.map Tm.enc)])) (d:=iv 2) g1 hfz rfl rfl rfl;rcases htw with rfl | ⟨x0,rfl⟩
    ·simp (maxSteps:=1000000) only [↓TB,↓XX,XY,↓reduceIte,Nat.reduceBEq,Nat.reduceAdd,Int.reduceEq,Int.reduceLT,Int.reduceLE,h1,h4,wi,↓Bn (AJ hr) (A0 _ _ _),↓BQ,↓Ag hw,↓Ag t14,↓g1,↓AG,XD,heldB,AN,XE];exact h9
    ·simp (maxSteps:=1000000) only [↓TB,↓XX,XY,↓reduceIte,Nat.reduceBEq,Nat.reduceAdd,Int.reduceEq,Int.reduceLT,Int.reduceLE,h1,h4,wi,↓Bn (AJ hr) (A0 _ _ _),↓BQ,↓Ag hw,↓Ag t14,↓g1,↓AG,XD,heldB,AN,XE];exact h9
   ·rw [hb] at g1 h9;simp only [if_true] at h9;rw [n1] at h9;generalize T1 (B6 f l i,r)=t1 at g1 m1;generalize gV (B6 f l i)=gv at hfz htw;generalize Be (B6 f l i)=ge at hfz g1 m1;obtain ⟨o,p,ks⟩:=r;obtain ⟨o1,p1,k1⟩:=t1;simp only [Tm.n] at hw;simp only [Ah,Ayn] at g1 t14 m1;have g1:=AI (a:=gv) (b:=.fv (.agg [.int .i64 14,.int .i64 0,.sl []])) (c:=.fv (.agg [.int .i64 o,.int .i64 p,.sl (ks.map Tm.enc)])) (d:=iv 2) g1 hfz rfl rfl rfl;have m1:=AL (a:=gv) (b:=iv 0) (c:=.fv (.agg [.int .i64 o1,.int .i64 p1,.sl (k1.map Tm.enc)])) m1 hfz rfl rfl;rcases htw with rfl | ⟨x0,rfl⟩
    ·simp (maxSteps:=1000000) only [↓TB,↓XX,XY,↓reduceIte,Nat.reduceBEq,Nat.reduceAdd,Int.reduceEq,Int.reduceLT,Int.reduceLE,h1,h4,wi,↓Bn (AJ hr) (A0 _ _ _),↓BQ,↓Ag hw,↓Ag t14,↓g1,↓m1,↓AG,XD,heldB,AN,XE];exact h9
    ·simp (maxSteps:=1000000) only [↓TB,↓XX,XY,↓reduceIte,Nat.reduceBEq,Nat.reduceAdd,Int.reduceEq,Int.reduceLT,Int.reduceLE,h1,h4,wi,↓Bn (AJ hr) (A0 _ _ _),↓BQ,↓Ag hw,↓Ag t14,↓g1,↓m1,↓AG,XD,heldB,AN,XE];exact h9
  ·rw [if_neg c0,n2] at h9;generalize T2 (B6 f l i,r)=t2 at g2 m2;generalize gV (B6 f l i)=gv at hfz htw;generalize Be (B6 f l i)=ge at hfz g2 m2;obtain ⟨o,p,ks⟩:=r;obtain ⟨o1,p1,k1⟩:=t2;simp only [Tm.n] at hw c0;generalize p % 3=w3 at hw c0;simp only [Ah,Ayn] at g2 m2;have g2:=AL (a:=gv) (b:=.fv (.agg [.int .i64 o,.int .i64 p,.sl (ks.map Tm.enc)])) (c:=iv 2) g2 hfz rfl rfl;have m2:=AL (a:=gv) (b:=iv 1) (c:=.fv (.agg [.int .i64 o1,.int .i64 p1,.sl (k1.map Tm.enc)])) m2 hfz rfl rfl;rcases htw with rfl | ⟨x0,rfl⟩
   ·simp (maxSteps:=1000000) only [↓TB,↓XX,XY,↓reduceIte,Nat.reduceBEq,Nat.reduceAdd,Int.reduceEq,Int.reduceLT,Int.reduceLE,h1,h4,wi,c0,↓Bn (AJ hr) (A0 _ _ _),↓BQ,↓Ag hw,↓g2,↓m2,↓AG,XD,heldB,AN,XE];exact h9
   ·simp (maxSteps:=1000000) only [↓TB,↓XX,XY,↓reduceIte,Nat.reduceBEq,Nat.reduceAdd,Int.reduceEq,Int.reduceLT,Int.reduceLE,h1,h4,wi,c0,↓Bn (AJ hr) (A0 _ _ _),↓BQ,↓Ag hw,↓g2,↓m2,↓AG,XD,heldB,AN,XE];exact h9
def ZB (l:List Tm):Bool:=l.all (fun t=>decide (t.count 300<300)) && decide ((l.length:Int)≤6)
set_option maxHeartbeats 1000000 in
theorem YK (l:List Tm) (hll:l.length≤9223372036854775807) {n:Nat} (hn:Tm.wtL l+10<n):Bc (SS dt n 13 [.fv (.sl (l.map Tm.enc))] ⟨[],[]⟩) (.bool (ZB l)):=by
 obtain ⟨n,rfl⟩:∃k,n=k+1:=⟨n - 1,by omega⟩;rw [c13];simp only [KD,Kn,Kw,S13,↓XX,XY,↓reduceIte,Nat.reduceBEq,Nat.reduceAdd,Int.reduceEq,Int.reduceLT,Int.reduceLE,↓AG,XD,heldB,AN,XE];have hlw:=DL l;refine A2 (Q:=fun r=>Bc r _) (fun k V H=>∃pre rest,l=pre++rest∧rest.length=k∧V=[.fv (.sl (l.map Tm.enc)),iv pre.length]∧H=⟨[],[]⟩∧ZB l=(rest.all (fun t=>decide (t.count 300<300)) && decide ((l.length:Int)≤6)))
  ?_ n l.length _ _ (by omega) ⟨[],l,rfl,rfl,rfl,rfl,rfl⟩
 rintro k V H rec ⟨pre,rest,hk,hl,rfl,rfl,ht⟩ hrec;have hkl:l.length=pre.length+rest.length:=by rw [hk];simp
 cases rest with
 | nil =>
  have hno:¬ ((pre.length:Int)<l.length):=by rw [hkl];simp
  rw [ht,List.all_nil,Bool.true_and];by_cases h6:(l.length:Int)≤6
  ·simp only [KD,Kn,Kw,N9,S13,↓XX,XY,↓reduceIte,Nat.reduceBEq,Nat.reduceAdd,Int.reduceEq,Int.reduceLT,Int.reduceLE,hno,h6];exact An _ _
  ·simp only [KD,Kn,Kw,N9,S13,↓XX,XY,↓reduceIte,Nat.reduceBEq,Nat.reduceAdd,Int.reduceEq,Int.reduceLT,Int.reduceLE,hno,h6];exact An _ _
 | cons x rest =>
  have hi:(pre.length:Int)<l.length:=by rw [hkl];simp;omega
  have hg2:=B7 hk;have hxw:=CO (t:=x) (l:=l) (by rw [hk];simp);obtain ⟨n,rfl⟩:∃k,n=k+1:=⟨n - 1,by omega⟩;have hf:=Jg (n:=n) x (by omega);have hwi:BC ((pre.length:Int)+1)=((pre++[x]).length:Int):=(Az (by omega) (by simp at hkl;omega)).trans (by simp);rw [ht,List.all_cons];cases hx:decide (x.count 300<300)
  ·rw [hx] at hf;obtain ⟨o,p,ks⟩:=x;rw [Ah] at hf;simp only [KD,Kn,Kw,N9,S13,↓XX,XY,↓reduceIte,Nat.reduceBEq,Nat.reduceAdd,Int.reduceEq,Int.reduceLT,Int.reduceLE,hi,↓Bn (AJ hg2) (A0 _ _ _),↓BQ,↓Av hf];exact An _ _
  ·rw [hx] at hf;have h9:=hrec rest.length _ _ (by simp at hl;omega) ⟨pre++[x],rest,by rw [hk];simp,rfl,rfl,rfl,by rw [ht,List.all_cons,hx,Bool.true_and]⟩;rw [Bool.true_and];rw [ht,List.all_cons,hx,Bool.true_and] at h9;obtain ⟨o,p,ks⟩:=x;rw [Ah] at hf;simp only [KD,Kn,Kw,N9,S13,↓XX,XY,↓reduceIte,Nat.reduceBEq,Nat.reduceAdd,Int.reduceEq,Int.reduceLT,Int.reduceLE,hi,↓Bn (AJ hg2) (A0 _ _ _),↓BQ,↓Av hf,hwi];exact h9
structure CaseOk (g:Ch) (a t:Tm) (is object:Bool):Prop where
 gok:GOk 10 g
 len:g.length≤4
 asc:a.sc g.length
 awt:a.wt≤32768010
 adp:a.dp≤300
 tsc:t.sc g.length
 tdp:t.dp≤300
 chk:is=true→(t.chk 0 1).2=0
 cg:CtxG g
 ga:object=false→Gr 0 7 g .z a
 gt:is=true→Gr (if object then 2 else 1) 10 g a t
set_option maxRecDepth 20000 in
set_option maxHeartbeats 4000000 in
theorem Ai7 (l:List Tm) (hll:l.length≤9223372036854775807) (r q:Tm) (object:Bool):∃g a t is,Ev 43 [.fv (.sl (l.map Tm.enc)),.fv r.enc,.fv q.enc,.fv (.bool object)] (.tuple [Be g,a.enc,t.enc,.bool is])∧CaseOk g a t is object∧(object=true→a=q.plainT 2)∧(l=[]→g=[]):=by
 obtain ⟨g,⟨N0,h0⟩,hg,hg4,hcg,hnil⟩:=Xh l hll;have hW6:Wg 6=32768000:=rfl;have hD6:Dg 6=260:=rfl;have hW10:Wg 10=8388608000:=rfl;have hD10:Dg 10=300:=rfl;obtain ⟨_,hG,hO⟩:=Oa 10 (by omega);cases object
 ·obtain ⟨hT,_,_⟩:=Oa 7 (by omega);obtain ⟨a,⟨N1,h1⟩,ta⟩:=hT g q (AT (by omega) hg);have aw:=ta.wt;have ad:=ta.dp;have asc:=ta.sc;rw [show 7 - 1=6 from rfl] at aw ad
  obtain ⟨t,b,⟨N2,h2⟩,tt⟩:=hG g a r hg ⟨asc,by omega,by omega⟩;have tw:=tt.wt;have ts:=tt.sc;have body:∀(t':Tm) (is:Bool),(is=true∧t'=t∧b=true∧(t.chk 0 1).2=0∨is=false∧t'=A7∧(b=false∨b=true∧(t.chk 0 1).2≠0))→Ev 43 [.fv (.sl (l.map Tm.enc)),.fv r.enc,.fv q.enc,.fv (.bool false)] (.tuple [Be g,a.enc,t'.enc,.bool is]):=by
   intro t' is hd;refine ⟨N0+N1+N2+100000000000+1,fun n hn=>?_⟩;obtain ⟨n,rfl⟩:∃k,n=k+1:=⟨n - 1,by omega⟩;have h0:=h0 n (by omega);have h1:=h1 n (by omega);have h2:=h2 n (by omega);have hk:=Mb (n:=n) t (by omega);have t11:=Df (n:=n) (by omega) 11;rw [c43];clear ta tt;generalize (t.chk 0 1).2=ck at hk hd;rw [show ((10:Nat):Int) - 5=5 from rfl] at h2
   rw [show ((7:Nat):Int) - 5=2 from rfl] at h1
   generalize Be g=ge at *;generalize (FV.sl (l.map Tm.enc))=le at *;rcases hd with ⟨rfl,rfl,rfl,rfl⟩ | ⟨rfl,rfl,hd⟩
   ·obtain ⟨o1,p1,k1⟩:=r;obtain ⟨o2,p2,k2⟩:=q;obtain ⟨o3,p3,k3⟩:=a;obtain ⟨o4,p4,k4⟩:=t';simp only [Ah] at h1 h2 hk ⊢;simp (maxSteps:=1000000) only [↓Aef,↓XX,XY,↓reduceIte,Nat.reduceBEq,Nat.reduceAdd,Int.reduceEq,Int.reduceLT,Int.reduceLE,↓Av h0,↓AL h1,↓AI h2,↓Av hk];first | exact An _ _ | exact Aw rfl (by simp) _
   ·rw [A7];rcases hd with rfl | ⟨rfl,hd⟩
    ·obtain ⟨o1,p1,k1⟩:=r;obtain ⟨o2,p2,k2⟩:=q;obtain ⟨o3,p3,k3⟩:=a;obtain ⟨o4,p4,k4⟩:=t;simp only [Ah,Ayn] at h1 h2 hk t11 ⊢;simp (maxSteps:=1000000) only [↓Aef,↓XX,XY,↓reduceIte,Nat.reduceBEq,Nat.reduceAdd,Int.reduceEq,Int.reduceLT,Int.reduceLE,↓Av h0,↓AL h1,↓AI h2,↓Av hk,↓Ag t11];first | exact An _ _ | exact Aw rfl (by simp) _
    ·obtain ⟨o1,p1,k1⟩:=r;obtain ⟨o2,p2,k2⟩:=q;obtain ⟨o3,p3,k3⟩:=a;obtain ⟨o4,p4,k4⟩:=t;simp only [Ah,Ayn] at h1 h2 hk t11 ⊢;simp (maxSteps:=1000000) only [↓Aef,↓XX,XY,↓reduceIte,Nat.reduceBEq,Nat.reduceAdd,Int.reduceEq,Int.reduceLT,Int.reduceLE,hd,↓Av h0,↓AL h1,↓AI h2,↓Av hk,↓Ag t11];first | exact An _ _ | exact Aw rfl (by simp) _
  by_cases hb:b=true
  ·by_cases hc:(t.chk 0 1).2=0
   ·exact ⟨g,a,t,true,body t true (.inl ⟨rfl,rfl,hb,hc⟩),⟨hg,hg4,asc,by omega,by omega,ts,by have:=tt.dp;omega,fun _=>hc,hcg,fun _=>ta.gr,fun _=>tt.gr hb⟩,(fun h=>by cases h),hnil⟩
   ·exact ⟨g,a,A7,false,body A7 false (.inr ⟨rfl,rfl,.inr ⟨hb,hc⟩⟩),⟨hg,hg4,asc,by omega,by omega,J6 _,by decide,(fun h=>by cases h),hcg,fun _=>ta.gr,fun h=>by cases h⟩,(fun h=>by cases h),hnil⟩
  ·exact ⟨g,a,A7,false,body A7 false (.inr ⟨rfl,rfl,.inl (by simpa using hb)⟩),⟨hg,hg4,asc,by omega,by omega,J6 _,by decide,(fun h=>by cases h),hcg,fun _=>ta.gr,fun h=>by cases h⟩,(fun h=>by cases h),hnil⟩
 ·obtain ⟨a,ha⟩:∃a,a=q.plainT 2:=⟨_,rfl⟩;have asc:a.sc g.length:=ha ▸ ER _ 2 q;have aw:a.wt≤20:=by have:=Db 2 q;rw [← ha] at this;simpa using Nat.le_trans this (by decide)
  have ad:a.dp≤300:=Nat.le_trans (U3 a) (by omega);obtain ⟨t,b,⟨N2,h2⟩,tt⟩:=hO g a r hg ⟨asc,by omega,by omega⟩;have tw:=tt.wt;have ts:=tt.sc;have body:∀(t':Tm) (is:Bool),(is=true∧t'=t∧b=true∧(t.chk 0 1).2=0∨is=false∧t'=.mk 25 0 []∧(b=false∨b=true∧(t.chk 0 1).2≠0))→Ev 43 [.fv (.sl (l.map Tm.enc)),.fv r.enc,.fv q.enc,.fv (.bool true)] (.tuple [Be g,a.enc,t'.enc,.bool is]):=by
   intro t' is hd;refine ⟨N0+N2+100000000000+1,fun n hn=>?_⟩;obtain ⟨n,rfl⟩:∃k,n=k+1:=⟨n - 1,by omega⟩;have h0:=h0 n (by omega);have h1:=It 2 n q (by omega) (by omega);have h2:=h2 n (by omega);have hk:=Mb (n:=n) t (by omega);have t25:=Afq (n:=n) (by omega) 0;rw [c43];rw [← ha] at h1;clear tt ha;generalize (t.chk 0 1).2=ck at hk hd;rw [show ((10:Nat):Int) - 5=5 from rfl] at h2
   generalize Be g=ge at *;generalize (FV.sl (l.map Tm.enc))=le at *;rcases hd with ⟨rfl,rfl,rfl,rfl⟩ | ⟨rfl,rfl,hd⟩
   ·obtain ⟨o1,p1,k1⟩:=r;obtain ⟨o2,p2,k2⟩:=q;obtain ⟨o3,p3,k3⟩:=a;obtain ⟨o4,p4,k4⟩:=t';simp only [Ah,Int.cast_ofNat_Int] at h1 h2 hk ⊢;simp (maxSteps:=1000000) only [↓Aef,↓XX,XY,↓reduceIte,Nat.reduceBEq,Nat.reduceAdd,Int.reduceEq,Int.reduceLT,Int.reduceLE,↓Av h0,↓Ag h1,↓AI h2,↓Av hk];first | exact An _ _ | exact Aw rfl (by simp) _
   ·rcases hd with rfl | ⟨rfl,hd⟩
    ·obtain ⟨o1,p1,k1⟩:=r;obtain ⟨o2,p2,k2⟩:=q;obtain ⟨o3,p3,k3⟩:=a;obtain ⟨o4,p4,k4⟩:=t;simp only [Ah,Ayn,Int.cast_ofNat_Int] at h1 h2 hk t25 ⊢;simp (maxSteps:=1000000) only [↓Aef,↓XX,XY,↓reduceIte,Nat.reduceBEq,Nat.reduceAdd,Int.reduceEq,Int.reduceLT,Int.reduceLE,↓Av h0,↓Ag h1,↓AI h2,↓Av hk,↓Av t25];first | exact An _ _ | exact Aw rfl (by simp) _
    ·obtain ⟨o1,p1,k1⟩:=r;obtain ⟨o2,p2,k2⟩:=q;obtain ⟨o3,p3,k3⟩:=a;obtain ⟨o4,p4,k4⟩:=t;simp only [Ah,Ayn,Int.cast_ofNat_Int] at h1 h2 hk t25 ⊢;simp (maxSteps:=1000000) only [↓Aef,↓XX,XY,↓reduceIte,Nat.reduceBEq,Nat.reduceAdd,Int.reduceEq,Int.reduceLT,Int.reduceLE,hd,↓Av h0,↓Ag h1,↓AI h2,↓Av hk,↓Av t25];first | exact An _ _ | exact Aw rfl (by simp) _
  have is25:∀k,(Tm.mk 25 0 []).sc k:=fun k=>Cr (by decide) (by decide) (by rw [BH];simp);by_cases hb:b=true
  ·by_cases hc:(t.chk 0 1).2=0
   ·exact ⟨g,a,t,true,body t true (.inl ⟨rfl,rfl,hb,hc⟩),⟨hg,hg4,asc,by omega,by omega,ts,by have:=tt.dp;omega,fun _=>hc,hcg,(fun h=>by cases h),fun _=>tt.gr hb⟩,(fun _=>ha),hnil⟩
   ·exact ⟨g,a,_,false,body _ false (.inr ⟨rfl,rfl,.inr ⟨hb,hc⟩⟩),⟨hg,hg4,asc,by omega,by omega,is25 _,by decide,(fun h=>by cases h),hcg,(fun h=>by cases h),fun h=>by cases h⟩,(fun _=>ha),hnil⟩
  ·exact ⟨g,a,_,false,body _ false (.inr ⟨rfl,rfl,.inl (by simpa using hb)⟩),⟨hg,hg4,asc,by omega,by omega,is25 _,by decide,(fun h=>by cases h),hcg,(fun h=>by cases h),fun h=>by cases h⟩,(fun _=>ha),hnil⟩
theorem AeB {n:Nat} {t u:Tm} {e:Int} (h:Bc (SS dt n 58 [.fv t.enc] ⟨[],[]⟩) (.tuple [u.enc,.int .i64 e])) (hz:e≠0→u=.z):Bc (SS dt (n+1) 44 [.fv t.enc] ⟨[],[]⟩) (.tuple [u.enc,.int .i64 e]):=by
 rw [c44];by_cases he:e=0
 ·obtain ⟨o1,p1,k1⟩:=t;obtain ⟨o2,p2,k2⟩:=u;simp only [Ah] at h ⊢;simp only [Wa,Xf,Wv,S44,↓XX,XY,↓reduceIte,Nat.reduceBEq,Nat.reduceAdd,Int.reduceEq,Int.reduceLT,Int.reduceLE,↓Av h,he];first | exact An _ _ | exact Aw rfl (by simp) _
 ·have:=hz he
  subst this;obtain ⟨o1,p1,k1⟩:=t;simp only [Ah,Tm.z,Ayn] at h ⊢;simp only [Wa,Xf,Wv,S44,↓XX,XY,↓reduceIte,Nat.reduceBEq,Nat.reduceAdd,Int.reduceEq,Int.reduceLT,Int.reduceLE,↓Av h,he];first | exact An _ _ | exact Aw rfl (by simp) _
structure CodeOk (q c a:Tm):Prop where
 ha:a=q.plainT 2
 ot:OT 14 [] c a
 nok:NOk 0 c
 chk:(c.chk 0 1).2=0
set_option maxRecDepth 20000 in
set_option maxHeartbeats 4000000 in
theorem AnR (r q:Tm):∃c a b,Ev 15 [.fv r.enc,.fv q.enc] (.tuple [Tm.enc c,Tm.enc a,.bool b])∧(b=true→CodeOk q c a):=by
 obtain ⟨g,a,t,is,⟨N1,h1⟩,hC,hpl,hnil⟩:=Ai7 [] (by simp) r q true;have hg:=hnil rfl;subst hg;have hsc:=hC.tsc;obtain ⟨c,e,⟨N2,h2⟩,hcase,f,hf⟩:=Jz (k:=0) (by omega) hsc (by have:=hC.tdp;omega);have hz:e≠0→c=.z:=by
  intro he;rcases hcase with ⟨h,_⟩ | ⟨_,h⟩
  ·exact absurd h he
  ·exact h
 rw [Be,Ayn,Ayn] at h1;cases is
 ·refine ⟨t,a,false,⟨N1+1,fun n hn=>?_⟩,fun h=>by cases h⟩;obtain ⟨n,rfl⟩:∃k,n=k+1:=⟨n - 1,by omega⟩;have h1:=h1 n (by omega);have hq:=fun (h:Hp) (kk:IV→Hp→List Ref→List Ref→Option (IV×Hp))=>AI (a:=.nils) (b:=.fv r.enc) (c:=.fv q.enc) (d:=.fv (.bool true)) h1 rfl rfl rfl rfl h kk;clear h1 hC hf hcase h2 hz hpl hnil hsc;rw [c15];obtain ⟨o1,x1,k1⟩:=r;obtain ⟨o3,x3,k3⟩:=q;obtain ⟨o5,x5,k5⟩:=t;obtain ⟨o6,x6,k6⟩:=a;simp only [Ah] at hq ⊢;simp (maxSteps:=1000000) only [Qh,QB,RS,Rz,RJ,P6,RP,PJ,S15,↓XX,XY,↓reduceIte,Nat.reduceBEq,Nat.reduceAdd,Int.reduceEq,Int.reduceLT,Int.reduceLE,↓hq];first | exact An _ _ | exact Aw rfl (by simp) _
 ·refine ⟨c,a,decide (e=0),⟨N1+N2+2,fun n hn=>?_⟩,fun h=>?_⟩
  ·obtain ⟨n,rfl⟩:∃k,n=k+2:=⟨n - 2,by omega⟩;have h1:=h1 (n+1) (by omega);have hq:=fun (h:Hp) (kk:IV→Hp→List Ref→List Ref→Option (IV×Hp))=>AI (a:=.nils) (b:=.fv r.enc) (c:=.fv q.enc) (d:=.fv (.bool true)) h1 rfl rfl rfl rfl h kk;have h2:=AeB (h2 n (by omega)) hz;clear h1 hC hf hcase hz hpl hnil hsc;rw [c15];obtain ⟨o1,x1,k1⟩:=r;obtain ⟨o3,x3,k3⟩:=q;obtain ⟨o5,x5,k5⟩:=t;obtain ⟨o6,x6,k6⟩:=a;obtain ⟨o7,x7,k7⟩:=c;simp only [Ah] at hq h2 ⊢;by_cases he:e=0
   ·simp (maxSteps:=1000000) only [Qh,QB,RS,Rz,RJ,P6,RP,PJ,S15,↓XX,XY,↓reduceIte,Nat.reduceBEq,Nat.reduceAdd,Int.reduceEq,Int.reduceLT,Int.reduceLE,↓hq,↓Av h2,he];first | exact An _ _ | exact Aw rfl (by simp) _
   ·simp (maxSteps:=1000000) only [Qh,QB,RS,Rz,RJ,P6,RP,PJ,S15,↓XX,XY,↓reduceIte,Nat.reduceBEq,Nat.reduceAdd,Int.reduceEq,Int.reduceLT,Int.reduceLE,↓hq,↓Av h2,he];first | exact An _ _ | exact Aw rfl (by simp) _
  ·simp only [decide_eq_true_eq] at h;subst h;rcases hcase with ⟨_,hu⟩ | ⟨h,_⟩
   case inr=>omega
   have hgt:=hC.gt rfl;have ha:=hpl rfl;subst ha;simp only [if_true] at hgt;have ht:=(Aib hgt [] N8).2.2.1 rfl (BA [] 2 q);have hw:=hu.wt;have hd:=hu.dp;exact ⟨rfl,Ajg hgt hsc hf,hu,by rw [AoQ (CH hf ht) 0 0 1 hu.sc (by omega) (by omega) (by omega)]⟩
def Qe (o:Option (IV×Hp)):Bool:=match o with
 | some (.fv (.bool b),⟨_,[]⟩)=>b
 | _=>false
theorem Agn {o:Option (IV×Hp)} (h:Qe o=true):Bc o (.bool true):=by
 unfold Qe at h;split at h
 ·subst h;exact An _ _
 ·cases h
theorem Oe:∀(n:Nat) (t:Tm),t.wt<n→Bc (SS dt n 52 [.fv t.enc] ⟨[],[]⟩) (.bool t.typed):=by
 intro n
 induction n with
 | zero=>intro t h;omega
 | succ n ih =>
  intro t h;rw [c52];obtain ⟨op,m,ks⟩:=t;simp only [Tm.wt] at h;rw [Ah];by_cases h1:op=15
  ·subst h1
   match ks with
   | []=>simp only [↓Oy,↓XX,XY,↓reduceIte,Nat.reduceBEq,Nat.reduceAdd,Int.reduceEq,Int.reduceLT,Int.reduceLE,Tm.typed];exact An _ _
   | [_]=>simp only [↓Oy,↓XX,XY,↓reduceIte,Nat.reduceBEq,Nat.reduceAdd,Int.reduceEq,Int.reduceLT,Int.reduceLE,KL];exact An _ _
   | [a,b]=>simp only [↓Oy,↓XX,XY,↓reduceIte,Nat.reduceBEq,Nat.reduceAdd,Int.reduceEq,Int.reduceLT,Int.reduceLE,Tm.typed];exact An _ _
   | a::b::c::l =>
    have:¬ ((l.length:Int)+1+1+1=0):=by omega
    simp only [↓Oy,↓XX,XY,↓reduceIte,Nat.reduceBEq,Nat.reduceAdd,Int.reduceEq,Int.reduceLT,Int.reduceLE,Int.natCast_add,Ko,this];exact An _ _
  ·by_cases h2:op=16∨op=17
   ·match ks with
    | []=>rcases h2 with rfl | rfl<;>(simp only [↓Oy,↓XX,XY,↓reduceIte,Nat.reduceBEq,Nat.reduceAdd,Int.reduceEq,Int.reduceLT,Int.reduceLE,Tm.typed];exact An _ _)
    | [_]=>rcases h2 with rfl | rfl<;>(simp only [↓Oy,↓XX,XY,↓reduceIte,Nat.reduceBEq,Nat.reduceAdd,Int.reduceEq,Int.reduceLT,Int.reduceLE,KL];exact An _ _)
    | [a,b] =>
     simp only [Tm.wtL] at h;have ha:=ih a (by omega);have hb:=ih b (by omega);rw [Tm.typed];generalize a.typed=x at ha ⊢;generalize b.typed=y at hb ⊢;obtain ⟨o1,n1,k1⟩:=a;obtain ⟨o2,n2,k2⟩:=b;simp only [Ah] at ha hb;cases x
     ·rcases h2 with rfl | rfl<;>(simp only [↓Oy,↓XX,XY,↓reduceIte,Nat.reduceBEq,Nat.reduceAdd,Int.reduceEq,Int.reduceLT,Int.reduceLE,Ah,↓Av ha];exact An _ _)
     ·rcases h2 with rfl | rfl<;>(simp only [↓Oy,↓XX,XY,↓reduceIte,Nat.reduceBEq,Nat.reduceAdd,Int.reduceEq,Int.reduceLT,Int.reduceLE,Ah,↓Av ha,↓Av hb];exact An _ _)
    | a::b::c::l =>
     have:¬ ((l.length:Int)+1+1+1=2):=by omega
     rcases h2 with rfl | rfl<;>(simp only [↓Oy,↓XX,XY,↓reduceIte,Nat.reduceBEq,Nat.reduceAdd,Int.reduceEq,Int.reduceLT,Int.reduceLE,Int.natCast_add,Ko,this];exact An _ _)
   ·have h3:op≠16:=fun e=>h2 (.inl e);have h4:op≠17:=fun e=>h2 (.inr e)
    have:(Tm.mk op m ks).typed=false:=by
     match ks with
     | []=>simp [Tm.typed,h1]
     | [_]=>exact KL ..
     | [a,b]=>simp [Tm.typed,h3,h4]
     | a::b::c::l=>exact Ko ..
    rw [this];simp only [↓Oy,↓XX,XY,↓reduceIte,Nat.reduceBEq,Nat.reduceAdd,Int.reduceEq,Int.reduceLT,Int.reduceLE,h1,h3,h4];exact An _ _
section
variable {β:Type} {E:Env}
theorem Aoa {t:TypeId} {size:Nat} (T:SliceT E t size) {x:IV} {es es2:List FV} (hx:Plain2 x es2) (h1:Bm size es2=true) (h2:Bm size es=true) (hne:es2.isEmpty=false) (hb:es.length+es2.length≤1000000) (s:Nat) (own:List (Nat×Blk)) (ext:List Blk)
  (k:IV→Hp→List Ref→List Ref→Option β):AD (AK E s false .append [t,t] [.clip es,x]) s ⟨own,ext⟩ k=C7 own s (Bk own s (.tok (es.length+es2.length) size) fun own=>k (.app (.own s) (es++es2)) ⟨own,ext⟩ [] [.own s]):=by
 obtain ⟨a,b,e,z,ei,hT,he,rfl,h0,hby⟩:=T.h;have hlen:¬ (Bm ei.size es=false∨(es.length+es2.length) * ei.bytes > 140737488355328∨es.length+es2.length > 1073741824):=by
  have:(es.length+es2.length) * ei.bytes≤1000000 * 100000:=Nat.mul_le_mul hb hby
  rw [h2];rintro (h | h | h)
  ·cases h
  ·omega
  ·omega
 have key:AK E s false .append [t,t] [.clip es,x]=.ret { eff:={ val:=.app (.own s) (es++es2),upd:=[] },new:=some (.tok (es++es2).length ei.size) }:=by
  show Dw E s t (some t) false (.clip es) x=_
  simp only [Dw,hT,Option.bind_some,he,RC hx,Rd.bind,h0,h1,false_or,Bool.true_eq_false,if_false];simp only [Cb,if_neg hlen,hne,Bool.false_eq_true,if_false]
 rw [key,List.length_append];unfold AD;simp only [Rd.runLog]
 show (Mr (some (.tok (es.length+es2.length) ei.size)) s ⟨own,ext⟩ fun h=>fV 3 (.app (.own s) (es++es2)) fun v=>k v h [] ([]++[.own s]))=_
 simp only [Mr,C5,CD];rfl
theorem At0 {t a b e:TypeId} {z:List IV} (hT:E.T t=some ⟨a,b,.slice e,z⟩) (x:FV) (l:List FV) (k:IV→Option β):AQ E t (.fv (.sl (x::l))) .nils k=k (.fv (.bool false)):=by
 show CC E t .eql _ _ k=_
 rw [CC,Cu]
 have:Gq E .eql t (.fv (.sl (x::l))) .nils=some (.fv (.bool false)):=by
  simp only [Gq,hT,Xc,PM,Option.bind_some]
 rw [this];rfl
theorem Akr {t:TypeId} {size:Nat} (T:SliceT E t size) {es:List FV} (h1:Bm size es=true) (s:Nat) (h:Hp) (k:IV→Hp→List Ref→List Ref→Option β) :
  AD (I4 E t (.fv (.sl es)) none (some (iv es.length)) (some (iv es.length))) s h k=k (.clip es) h [] []:=by
 obtain ⟨a,b,e,z,ei,hT,he,rfl,h0,hby⟩:=T.h;have key:I4 E t (.fv (.sl es)) none (some (iv es.length)) (some (iv es.length))=.ret { eff:={ val:=.clip es,upd:=[] } }:=by
  have hn:IM (iv es.length) es.length=some es.length:=by
   simp [IM,iv]
  simp only [I4,hT,he];rw [show CR 4096 (.fv (.sl es))=.ret (.sl es,[]) from rfl]
  simp [Rd.bind,h1,hn,FI]
 rw [key];exact H9 _ s h k
end
theorem ApK {ih:Aa} {f:FuncId} {a:IV} {x w:FV} (hr:Bc (Eu true ih f [.fv x] []) w) (ha:Bl a=some x) (h:Hp) (k:IV→Hp→List Ref→List Ref→Option (IV×Hp)):Ai [] true false ih f [a] h k=k (.fv w) h [] []:=by
 obtain ⟨v,own,e,hv⟩:=hr;have hu:∃u,(CR 4096 v).run ⟨own,[]⟩=some (w,u):=by
  rcases hv with ⟨u',lg',hf⟩ | ⟨hf,hu⟩
  ·exact N7 ⟨u',lg',hf⟩
  ·exact hu
 obtain ⟨u,hu⟩:=hu
 show Et [] true false ih f [a] h k=_
 unfold Et;have hz:=Hc [a] (AeN ha);simp only [hz,Rd.runLog,B9,Ed,Ayn,A6,CZ (CD 3),CZ C5,Ayo,e,hu,Ayl,IV.ren,IV.ren.renL,Bool.false_eq_true,if_false,Option.bind_some]
 show (match laid h ([]++(Bo []).zip []) with | none=>none | some h'=>fH h' fun h'=>fV 3 (.fv w) fun res=>k res h' [] _)=_
 simp only [Bo,Ayn,List.zip_nil_left,List.append_nil,laid,JS,CD]
theorem AqR {ih:Aa} {f:FuncId} {a:IV} {x:FV} {es:List FV} {own:List (Nat×Blk)} (hr:ih f [.fv x] ⟨[],[]⟩=some (.clip es,⟨own,[]⟩)) (ha:Bl a=some x) (h:Hp) (k:IV→Hp→List Ref→List Ref→Option (IV×Hp)):Ai [] false true ih f [a] h k=k (.clip es) h [] []:=by
 show Et [] false true ih f [a] h k=_
 unfold Et;have hz:=Hc [a] (AeN ha);simp only [hz,Rd.runLog,B9,Ed,Ayn,A6,CZ (CD 3),CZ C5,Ayo,Eu,hr,Ayl,IV.ren,IV.ren.renL,Bool.false_eq_true,if_false,if_true,Option.bind_some]
 show (match laid h ([]++(Bo []).zip []) with | none=>none | some h'=>fH h' fun h'=>fV 3 (.clip es) fun res=>k res h' [] _)=_
 simp only [Bo,Ayn,List.zip_nil_left,List.append_nil,laid,JS,CD]
end Idl
end Go.Proofs.Ytdibmackcbpniaa
namespace Go.Proofs.Ytdibmackcbpniaa
namespace Idl
theorem ZC (ih:Aa) (xs:List IV) (h0:Hp) (k:IV→Hp→List Ref→List Ref→Option (IV×Hp)):Om EE ih (.fv (.func (.func 104) [] [])) xs h0 k=Ai [] false false ih 104 xs h0 k :=
 AfA (by kernel_rfl) (by kernel_rfl) (by kernel_rfl) (by kernel_rfl) ..
theorem ArL {n:Nat} (ka kb:List Tm) (hn:ka.length<n) (hl:ka.length≤1000000000) (ih:∀a∈ka,∀b∈kb,Bc (SS dt n 104 [.fv a.enc,.fv b.enc] ⟨[],[]⟩) (.bool (a.same b))) :
  Bc (SS dt (n+1) 116 [.fv (.sl (ka.map Tm.enc)),.fv (.sl (kb.map Tm.enc)),.fv (.func (.func 104) [] [])] ⟨[],[]⟩) (.bool (decide (ka.length=kb.length) && Tm.sameL ka kb)):=by
 rw [Avo];by_cases h:ka.length=kb.length
 ·have h':(ka.length:Int)=kb.length:=by omega
  rw [decide_eq_true h,Bool.true_and];simp only [Ih,Iy,H8,Ip,IB,RB,↓XX,XY,↓reduceIte,Nat.reduceBEq,Nat.reduceAdd,Int.reduceEq,Int.reduceLT,Int.reduceLE,h',↓AG,XD,heldB,AN,XE];refine A2 (Q:=fun r=>Bc r _) (fun k V H=>∃pa ra pb rb,ka=pa++ra∧kb=pb++rb∧pa.length=pb.length∧ra.length=k∧V=[.fv (.sl (kb.map Tm.enc)),.fv (.func (.func 104) [] []),.fv (.sl (ka.map Tm.enc)),iv ka.length,iv pa.length]∧H=⟨[],[]⟩∧Tm.sameL ra rb=Tm.sameL ka kb)
   ?_ n ka.length _ _ hn ⟨[],ka,[],kb,rfl,rfl,rfl,rfl,by rw [h];rfl,rfl,rfl⟩
  rintro k V H rec ⟨pa,ra,pb,rb,hka,hkb,hpl,hk,rfl,rfl,hs⟩ hrec;have hal:ka.length=pa.length+ra.length:=by rw [hka];simp
  have hbl:kb.length=pb.length+rb.length:=by rw [hkb];simp
  cases ra with
  | nil =>
   have hno:¬ ((pa.length:Int)<ka.length):=by rw [hal];simp
   rw [← hs];simp only [Ih,Iy,H8,Ip,JN,IB,RB,↓XX,XY,↓reduceIte,Nat.reduceBEq,Nat.reduceAdd,Int.reduceEq,Int.reduceLT,Int.reduceLE,hno,Tm.sameL];exact An _ _
  | cons a ra =>
   simp only [Aym] at hal hk;cases rb with
   | nil=>simp only [List.length_nil] at hbl;omega
   | cons b rb =>
    have hi:(pa.length:Int)<ka.length:=by omega
    have hga:=B7 hka;have hgb:=B7 hkb;rw [← hpl] at hgb;have hc:=ih a (by rw [hka];simp) b (by rw [hkb];simp);have hwi:BC ((pa.length:Int)+1)=((pa++[a]).length:Int):=(Az (by omega) (by omega)).trans (by simp);simp only [Tm.sameL] at hs;generalize a.same b=v at hc hs;obtain ⟨o,p,l⟩:=a;obtain ⟨o2,p2,l2⟩:=b;simp only [Ah] at hc;cases v
    ·rw [← hs];simp only [Ih,Iy,H8,Ip,JN,IB,RB,↓XX,XY,↓reduceIte,Nat.reduceBEq,Nat.reduceAdd,Int.reduceEq,Int.reduceLT,Int.reduceLE,hi,↓Bn (AJ hga) (A0 _ _ _),↓Bn (AJ hgb) (A0 _ _ _),↓BQ,↓ZC,↓Ag hc];exact An _ _
    ·simp only [Ih,Iy,H8,Ip,JN,IB,RB,↓XX,XY,↓reduceIte,Nat.reduceBEq,Nat.reduceAdd,Int.reduceEq,Int.reduceLT,Int.reduceLE,hi,↓Bn (AJ hga) (A0 _ _ _),↓Bn (AJ hgb) (A0 _ _ _),↓BQ,↓ZC,↓Ag hc,hwi,↓AG,XD,heldB,AN,XE];exact hrec ra.length _ _ (by omega) ⟨pa++[.mk o p l],ra,pb++[.mk o2 p2 l2],rb,by rw [hka];simp,by rw [hkb];simp,by simp [hpl],rfl,rfl,rfl,by simpa using hs⟩
 ·have h':¬ (ka.length:Int)=kb.length:=by omega
  rw [decide_eq_false h,Bool.false_and];simp only [Ih,Iy,H8,Ip,JN,IB,RB,↓XX,XY,↓reduceIte,Nat.reduceBEq,Nat.reduceAdd,Int.reduceEq,Int.reduceLT,Int.reduceLE,h'];exact An _ _
theorem Agv:∀(n:Nat) (a b:Tm),2 * a.wt+2<n→a.wt≤100000000→Bc (SS dt n 104 [.fv a.enc,.fv b.enc] ⟨[],[]⟩) (.bool (a.same b)):=by
 intro n
 induction n using Nat.strongRecOn with
 | ind n ih =>
  intro a b hn hw;obtain ⟨o,m,ka⟩:=a;obtain ⟨o',m',kb⟩:=b;simp only [Tm.wt] at hn hw;obtain ⟨n,rfl⟩:∃k,n=k+1+1:=⟨n - 2,by omega⟩;have hlen:=DL ka;have hq:=ArL (n:=n) ka kb (by omega) (by omega) (fun a ha b _=>ih n (by omega) a b (by have:=CO ha;omega) (by have:=CO ha;omega));rw [AvC,Ah,Ah,Tm.same];generalize (decide (ka.length=kb.length) && Tm.sameL ka kb)=v at hq;by_cases h1:o=o'
  ·by_cases h2:m=m'
   ·subst h1 h2;simp only [Lf,Lu,LF,W4,↓XX,XY,↓reduceIte,Nat.reduceBEq,Nat.reduceAdd,Int.reduceEq,Int.reduceLT,Int.reduceLE,↓AL hq];exact An _ _
   ·have h2':=decide_eq_false h2;subst h1;simp only [Lf,Lu,LF,W4,↓XX,XY,↓reduceIte,Nat.reduceBEq,Nat.reduceAdd,Int.reduceEq,Int.reduceLT,Int.reduceLE,h2];exact An _ _
  ·simp only [Lf,Lu,LF,W4,↓XX,XY,↓reduceIte,Nat.reduceBEq,Nat.reduceAdd,Int.reduceEq,Int.reduceLT,Int.reduceLE,h1];exact An _ _
theorem tSc:EE.T 78=some ⟨1,24,.slice 30,[.nils]⟩:=by kernel_rfl
theorem sSc:SliceT EE 78 3:=⟨_,_,_,_,_,tSc,tTm,rfl,by decide,by decide⟩
theorem AqN (s:Nat) (h:Hp) (k:IV→Hp→List Ref→List Ref→Option (IV×Hp)):AD (Al EE 78 0 []) s h k=k (.clip []) h [] []:=DB tSc tTm (by decide) (cells:=[]) rfl k
theorem AqY (o1 n1:Int) (k1:List FV) (s:Nat) (h:Hp) (k:IV→Hp→List Ref→List Ref→Option (IV×Hp)):AD (Al EE 78 1 [(0,.fv (.agg [.int .i64 o1,.int .i64 n1,.sl k1]))]) s h k=k (.clip [.agg [.int .i64 o1,.int .i64 n1,.sl k1]]) h [] [] :=
 DB tSc tTm (by decide) (cells:=[.int .i64 o1,.int .i64 n1,.sl k1]) rfl k
theorem AfV {n:Nat} (g:List Tm) (hg:g.length≤900000):Bc (Eu true (SS dt (n+1)) 107 [.fv (.sl (g.map Tm.enc))] []) (.sl (g.map Tm.enc)):=by
 cases g with
 | nil =>
  have h1:Cj (SS dt (n+1) 107 [.nils] ⟨[],[]⟩)=true:=by kernel_rfl
  have h2:Cj (SS dt (n+1) 107 [.emp] ⟨[],[]⟩)=true:=by kernel_rfl
  simp only [Eu,Ayn,h1,h2,Bool.and_self,if_true];exact An _ _
 | cons t g =>
  have e:Eu true (SS dt (n+1)) 107 [.fv (.sl ((t::g).map Tm.enc))] []=SS dt (n+1) 107 [.fv (.sl ((t::g).map Tm.enc))] ⟨[],[]⟩:=by
   simp [Eu]
  rw [e,Avi];have happ:=fun {β:Type}=>Gj (β:=β) sSc (.sl ((t::g).map Tm.enc)) (Ca (t::g)) rfl (by simp at hg ⊢;omega) (s0:=.clip []) (.inr rfl);simp only [Ayo] at happ ⊢;simp only [Ahh,↓XX,XY,↓reduceIte,Nat.reduceBEq,Nat.reduceAdd,Int.reduceEq,Int.reduceLT,Int.reduceLE,↓At0 tSc,↓AqN,↓happ];exact A1 rfl _
theorem Akp {n:Nat} (g:List Tm):∃own,SS dt (n+1) 106 [.fv (.sl (g.map Tm.enc))] ⟨[],[]⟩=some (.clip (g.map Tm.enc),⟨own,[]⟩):=by
 rw [Au6];have hs:=fun {β:Type}=>Akr (β:=β) (E:=EE) sSc (es:=g.map Tm.enc) (Ca g);simp only [List.length_map] at hs;simp only [AgL,↓XX,XY,↓reduceIte,Nat.reduceBEq,Nat.reduceAdd,Int.reduceEq,Int.reduceLT,Int.reduceLE,↓hs];exact ⟨_,rfl⟩
theorem Ad7 {n:Nat} (g:List Tm) (a:Tm) (hg:g.length≤900000) (hn:1<n):Bc (SS dt n 75 [.fv (.sl (g.map Tm.enc)),.fv a.enc] ⟨[],[]⟩) (.sl ((g++[a]).map Tm.enc)):=by
 obtain ⟨n,rfl⟩:∃k,n=k+1+1:=⟨n - 2,by omega⟩;rw [c75];have h1:=AfV (n:=n) g hg;obtain ⟨o2,h2⟩:=Akp (n:=n) g;have happ:=fun {β:Type}=>Aoa (β:=β) sSc (.clip [a.enc]) (Ca [a]) (Ca g) rfl (by simp;omega);rw [List.map_append,Ayo,Ayn];obtain ⟨o,p,k⟩:=a;rw [Ah] at happ ⊢;simp only [Ahb,S75,↓XX,XY,↓reduceIte,Nat.reduceBEq,Nat.reduceAdd,Int.reduceEq,Int.reduceLT,Int.reduceLE,↓ApK h1,↓AqR h2,↓AqY,↓happ];exact A1 rfl _
theorem Agk {n:Nat} (hn:0<n) (op:Int) (l:List Tm):Bc (SS dt n 64 [iv op,.fv (.sl (l.map Tm.enc))] ⟨[],[]⟩) (Tm.mk op 0 l).enc:=by
 obtain ⟨n,rfl⟩:∃k,n=k+1:=⟨n - 1,by omega⟩;rw [c64];simp only [S64,↓XX,XY,↓reduceIte,Nat.reduceBEq,Nat.reduceAdd,Int.reduceEq,Int.reduceLT,Int.reduceLE,Ah];exact An _ _
theorem Arn {n:Nat} (hn:0<n) (op:Int):Bc (SS dt n 64 [iv op,.fv (.sl [])] ⟨[],[]⟩) (.agg [.int .i64 op,.int .i64 0,.sl []]):=Agk hn op []
theorem AaP {n:Nat} (a:Tm) (e:Int) (hn:0<n) (hn:e=0→2 * a.wt+4<n):Bc (SS dt n 105 [.fv a.enc,iv e] ⟨[],[]⟩) (.tuple [a.enc,.int .i64 (if e=0 then (a.chk 0 1).2 else e)]):=by
 obtain ⟨n,rfl⟩:∃k,n=k+1:=⟨n - 1,by omega⟩;rw [AvU];by_cases he:e=0
 ·have h:=O9 (n:=n) a (by have:=hn he;omega);generalize (a.chk 0 1).2=c at h ⊢;obtain ⟨o,p,k⟩:=a;rw [Ah] at h ⊢;simp only [Re,QA,Aez,↓XX,XY,↓reduceIte,Nat.reduceBEq,Nat.reduceAdd,Int.reduceEq,Int.reduceLT,Int.reduceLE,he,↓Av h];first | exact An _ _ | exact Aw rfl (by simp) _
 ·obtain ⟨o,p,k⟩:=a;rw [Ah];simp only [Re,QA,Aez,↓XX,XY,↓reduceIte,Nat.reduceBEq,Nat.reduceAdd,Int.reduceEq,Int.reduceLT,Int.reduceLE,he];first | exact An _ _ | exact Aw rfl (by simp) _
theorem AmT {n:Nat} {g:List Tm} {t a:Tm} {q:Int×Tm} (h:G5 (SS dt n 53 [.fv (.sl (g.map Tm.enc)),.fv t.enc] ⟨[],[]⟩) q) (hw:2 * a.wt+2<n) (ha:a.wt≤100000000) :
  Bc (SS dt (n+1) 73 [.fv (.sl (g.map Tm.enc)),.fv t.enc,.fv a.enc] ⟨[],[]⟩) (.int .i64 (CM q a)):=by
 obtain ⟨u,hu,he⟩:=h;obtain ⟨e,r⟩:=q;simp only at hu he;rw [c73];have hs:=Agv n a u hw ha;unfold CM;simp only;by_cases h0:e=0
 ·have hur:=he h0;subst hur h0;rw [if_pos rfl];generalize a.same u=b at hs ⊢;obtain ⟨o1,n1,k1⟩:=t;obtain ⟨o2,n2,k2⟩:=a;obtain ⟨o3,n3,k3⟩:=u;simp only [Ah] at hu hs ⊢;cases b
  ·simp only [Py,RG,S73,↓XX,XY,↓reduceIte,Nat.reduceBEq,Nat.reduceAdd,Int.reduceEq,Int.reduceLT,Int.reduceLE,↓Ag hu,↓Ag hs];exact An _ _
  ·simp only [Py,RG,S73,↓XX,XY,↓reduceIte,Nat.reduceBEq,Nat.reduceAdd,Int.reduceEq,Int.reduceLT,Int.reduceLE,↓Ag hu,↓Ag hs];exact An _ _
 ·rw [if_neg h0];obtain ⟨o1,n1,k1⟩:=t;obtain ⟨o2,n2,k2⟩:=a;obtain ⟨o3,n3,k3⟩:=u;simp only [Ah] at hu hs ⊢;simp only [Py,RG,S73,↓XX,XY,↓reduceIte,Nat.reduceBEq,Nat.reduceAdd,Int.reduceEq,Int.reduceLT,Int.reduceLE,↓Ag hu,h0];exact An _ _
def Apu (r:Option (IV×Hp)) (q:Int×Tm) (op:Int):Prop:=∃u v e,Bc r (.tuple [Tm.enc u,Tm.enc v,.int .i64 e])∧(q.1≠0→e=q.1)∧(q.1=0→q.2.op≠op→e=12)∧(q.1=0→q.2.op=op→e=0∧u=q.2.kid 0∧v=q.2.kid 1)
theorem Tj {n:Nat} {g:List Tm} {t:Tm} {op:Int} {q:Int×Tm} (h:G5 (SS dt n 53 [.fv (.sl (g.map Tm.enc)),.fv t.enc] ⟨[],[]⟩) q) (ht:q.1=0→q.2.op=op→∃x y,q.2.kids=[x,y]) :
  Apu (SS dt (n+1) 108 [.fv (.sl (g.map Tm.enc)),.fv t.enc,iv op] ⟨[],[]⟩) q op:=by
 obtain ⟨u,hu,he⟩:=h;obtain ⟨e,r⟩:=q;simp only at hu he ht;rw [Ava];by_cases h0:e=0
 ·have hur:=he h0;subst hur h0;obtain ⟨o1,n1,k1⟩:=t;obtain ⟨o3,n3,k3⟩:=u;simp only [Ah,Tm.op,Tm.kids] at hu ht ⊢;by_cases h1:o3=op
  ·obtain ⟨x,y,rfl⟩:=ht trivial h1;refine ⟨x,y,0,?_,fun h=>absurd rfl h,fun _ h=>absurd h1 h,fun _ _=>⟨rfl,rfl,rfl⟩⟩;subst h1;obtain ⟨o4,n4,k4⟩:=x;obtain ⟨o5,n5,k5⟩:=y;simp only [Ayo,Ayn,Ah] at hu ⊢;simp only [Lk,LH,LA,LR,LM,L2,Lj,LI,Lh,WT,↓XX,XY,↓reduceIte,Nat.reduceBEq,Nat.reduceAdd,Int.reduceEq,Int.reduceLT,Int.reduceLE,↓Ag hu,↓Bx,↓BJ];first | exact An _ _ | exact Aw rfl (by simp) _
  ·refine ⟨.z,.z,12,?_,fun h=>absurd rfl h,fun _ _=>rfl,fun _ h=>absurd h h1⟩;simp only [Lk,LH,LA,LR,LM,L2,Lj,LI,Lh,WT,↓XX,XY,↓reduceIte,Nat.reduceBEq,Nat.reduceAdd,Int.reduceEq,Int.reduceLT,Int.reduceLE,↓Ag hu,h1,Tm.z,Ah];first | exact An _ _ | exact Aw rfl (by simp) _
 ·obtain ⟨o1,n1,k1⟩:=t;obtain ⟨o3,n3,k3⟩:=u;simp only [Ah] at hu ⊢;refine ⟨.z,.z,e,?_,fun h=>rfl,fun h=>absurd h h0,fun h=>absurd h h0⟩;simp only [Lk,LH,LA,LR,LM,L2,Lj,LI,Lh,WT,↓XX,XY,↓reduceIte,Nat.reduceBEq,Nat.reduceAdd,Int.reduceEq,Int.reduceLT,Int.reduceLE,↓Ag hu,h0,Tm.z,Ah];first | exact An _ _ | exact Aw rfl (by simp) _
theorem AgC (ih:Aa) (xs:List IV) (h0:Hp) (k:IV→Hp→List Ref→List Ref→Option (IV×Hp)):Om EE ih (.fv (.func (.func 76) [] [])) xs h0 k=Ai [] false false ih 76 xs h0 k :=
 AfA (by kernel_rfl) (by kernel_rfl) (by kernel_rfl) (by kernel_rfl) ..
abbrev Aac (n:Nat) (g:List Tm) (t:Tm):Prop:=G5 (SS dt n 53 [.fv (.sl (g.map Tm.enc)),.fv t.enc] ⟨[],[]⟩) (t.inf g)
set_option maxRecDepth 20000 in
theorem AeF {n:Nat} {g:List Tm} {op m:Int} {a b:Tm} (ho:op=20∨op=29) (hg:g.length≤900000) (hn:a.wt+3<n) (ih:a.typed=true→Aac n (g++[a]) b)
  (ihc:a.typed=true→Bc (SS dt n 73 [.fv (.sl ((g++[a]).map Tm.enc)),.fv b.enc,.fv a.enc] ⟨[],[]⟩) (.int .i64 (CM (b.inf (g++[a])) a)))
  (hb:a.typed=true→(b.inf (g++[a])).1=0→2 * (2+a.wt+(b.inf (g++[a])).2.wt)+4<n) :
  G5 (SS dt (n+1) 74 [.fv (.sl (g.map Tm.enc)),.fv (Tm.mk op m [a,b]).enc] ⟨[],[]⟩) ((Tm.mk op m [a,b]).inf g):=by
 rw [c74,Tm.inf];have hty:=Oe n a (by omega);have hw:=Ad7 (n:=n) g a hg (by omega);cases hta:a.typed
 ·rw [hta] at hty
  have:(Tm.mk op m [a,b]).inf g=(10,.z):=by rcases ho with rfl | rfl<;>simp [Tm.inf,hta]
  rw [Tm.inf] at this;simp only [hta] at this;simp only [this];refine CT (u:=.z) ?_ (by decide);obtain ⟨o1,n1,k1⟩:=a;obtain ⟨o2,n2,k2⟩:=b;simp only [Ah,Tm.z,Ayo,Ayn] at hty ⊢;simp only [LB,LK,LZ,LO,Lq,Lx,LY,Le,LG,Lz,LC,Ln,LU,Ll,S74,↓XX,XY,↓reduceIte,Nat.reduceBEq,Nat.reduceAdd,Int.reduceEq,Int.reduceLT,Int.reduceLE,↓Bx,↓BJ,↓Av hty];first | exact An _ _ | exact Aw rfl (by simp) _
 ·rw [hta] at hty;rcases ho with rfl | rfl
  ·obtain ⟨u,hu,he⟩:=ih hta;have hbb:=hb hta;simp only [if_true,Int.reduceEq,if_false,GP];generalize b.inf (g++[a])=q at hu he hbb ⊢;obtain ⟨e,r⟩:=q;simp only at hu he hbb ⊢;have hof:=Agk (n:=n) (by omega) 16 [a,u];have hm:=AaP (n:=n) (.mk 16 0 [a,u]) e (by omega) (fun h=>by have:=he h;subst this;have:=hbb h;simp only [Tm.wt,Tm.wtL];omega);refine ⟨.mk 16 0 [a,u],?_,fun h0=>?_⟩
   ·have e1:(if e=0 then (((Tm.mk 16 0 [a,r]).chk 0 1).2,Tm.mk 16 0 [a,r]) else (e,.z)).1=(if e=0 then ((Tm.mk 16 0 [a,u]).chk 0 1).2 else e):=by
     by_cases h:e=0
     ·rw [if_pos h,if_pos h,he h]
     ·rw [if_neg h,if_neg h]
    rw [e1];generalize (if e=0 then ((Tm.mk 16 0 [a,u]).chk 0 1).2 else e)=w at hm ⊢;obtain ⟨o1,n1,k1⟩:=a;obtain ⟨o2,n2,k2⟩:=b;obtain ⟨o3,n3,k3⟩:=u;simp only [Ah,Ayo,Ayn,List.map_append] at hty hw hu hof hm ⊢;simp only [LB,LK,LZ,LO,Lq,Lx,LY,Le,LG,Lz,LC,Ln,LU,Ll,S74,↓XX,XY,↓reduceIte,Nat.reduceBEq,Nat.reduceAdd,Int.reduceEq,Int.reduceLT,Int.reduceLE,↓Bx,↓BJ,↓Av hty,↓Ag hw,↓Ag hu,↓Ct,↓Ag hof,↓Ag hm];first | exact An _ _ | exact Aw rfl (by simp) _
   ·by_cases h:e=0
    ·rw [if_pos h,he h]
    ·rw [if_neg h] at h0;exact absurd h0 h
  ·have hc:=ihc hta;simp only [if_true,Int.reduceEq,if_false];refine I2 ?_;generalize CM (b.inf (g++[a])) a=w at hc ⊢;obtain ⟨o1,n1,k1⟩:=a;obtain ⟨o2,n2,k2⟩:=b;simp only [Ah,Ayo,Ayn,List.map_append] at hty hw hc ⊢;simp only [LB,LK,LZ,LO,Lq,Lx,LY,Le,LG,Lz,LC,Ln,LU,Ll,S74,↓XX,XY,↓reduceIte,Nat.reduceBEq,Nat.reduceAdd,Int.reduceEq,Int.reduceLT,Int.reduceLE,↓Bx,↓BJ,↓Av hty,↓Ag hw,↓AL hc];first | exact An _ _ | exact Aw rfl (by simp) _
theorem AmU {n:Nat} {g:List Tm} {op m:Int} {l:List Tm} (h1:op≠22) (h2:op≠21) (h3:op≠23) (h4:op≠24):Bc (SS dt (n+1) 76 [.fv (.sl (g.map Tm.enc)),.fv (Tm.mk op m l).enc] ⟨[],[]⟩) (.tuple [Tm.z.enc,.int .i64 10]):=by
 rw [c76,Ah];simp only [↓Wx,↓XX,XY,↓reduceIte,Nat.reduceBEq,Nat.reduceAdd,Int.reduceEq,Int.reduceLT,Int.reduceLE,h1,h2,h3,h4,Tm.z,Ah];first | exact An _ _ | exact Aw rfl (by simp) _
theorem AlR {n:Nat} {g:List Tm} {op m:Int} {a:Tm} (ho:op=23∨op=24) (hs:Apu (SS dt n 108 [.fv (.sl (g.map Tm.enc)),.fv a.enc,iv 17] ⟨[],[]⟩) (a.inf g) 17) :
  G5 (SS dt (n+1) 76 [.fv (.sl (g.map Tm.enc)),.fv (Tm.mk op m [a]).enc] ⟨[],[]⟩) ((Tm.mk op m [a]).inf g):=by
 rw [c76,Tm.inf];obtain ⟨u,v,e,hu,he1,he2,he3⟩:=hs;generalize a.inf g=q at he1 he2 he3 ⊢;obtain ⟨e',r⟩:=q;simp only at he1 he2 he3 ⊢;rcases ho with rfl | rfl
 ·simp only [if_true];refine ⟨u,?_,?_⟩
  ·have:(if e'=0 then if r.op=17 then ((0:Int),r.kid 0) else (12,.z) else (e',.z)).1=e:=by
    by_cases h:e'=0
    ·rw [if_pos h];by_cases h2:r.op=17
     ·rw [if_pos h2,(he3 h h2).1]
     ·rw [if_neg h2,he2 h h2]
    ·rw [if_neg h,he1 h]
   rw [this];obtain ⟨o1,n1,k1⟩:=a;obtain ⟨o2,n2,k2⟩:=u;obtain ⟨o3,n3,k3⟩:=v;simp only [Ah,Ayo,Ayn] at hu ⊢;simp only [↓Wx,↓XX,XY,↓reduceIte,Nat.reduceBEq,Nat.reduceAdd,Int.reduceEq,Int.reduceLT,Int.reduceLE,↓Bx,↓AL hu];first | exact An _ _ | exact Aw rfl (by simp) _
  ·intro h0;by_cases h:e'=0
   ·rw [if_pos h] at h0 ⊢;by_cases h2:r.op=17
    ·rw [if_pos h2,(he3 h h2).2.1]
    ·rw [if_neg h2] at h0;cases h0
   ·rw [if_neg h] at h0;exact absurd h0 h
 ·simp only [Int.reduceEq,if_false,if_true];refine ⟨v,?_,?_⟩
  ·have:(if e'=0 then if r.op=17 then ((0:Int),r.kid 1) else (12,.z) else (e',.z)).1=e:=by
    by_cases h:e'=0
    ·rw [if_pos h];by_cases h2:r.op=17
     ·rw [if_pos h2,(he3 h h2).1]
     ·rw [if_neg h2,he2 h h2]
    ·rw [if_neg h,he1 h]
   rw [this];obtain ⟨o1,n1,k1⟩:=a;obtain ⟨o2,n2,k2⟩:=u;obtain ⟨o3,n3,k3⟩:=v;simp only [Ah,Ayo,Ayn] at hu ⊢;simp only [↓Wx,↓XX,XY,↓reduceIte,Nat.reduceBEq,Nat.reduceAdd,Int.reduceEq,Int.reduceLT,Int.reduceLE,↓Bx,↓AL hu];first | exact An _ _ | exact Aw rfl (by simp) _
  ·intro h0;by_cases h:e'=0
   ·rw [if_pos h] at h0 ⊢;by_cases h2:r.op=17
    ·rw [if_pos h2,(he3 h h2).2.2]
    ·rw [if_neg h2] at h0;cases h0
   ·rw [if_neg h] at h0;exact absurd h0 h
set_option maxRecDepth 20000 in
theorem Alh {n:Nat} {g:List Tm} {m:Int} {a b:Tm} (hs:Apu (SS dt n 108 [.fv (.sl (g.map Tm.enc)),.fv a.enc,iv 16] ⟨[],[]⟩) (a.inf g) 16)
  (hc:(a.inf g).1=0→(a.inf g).2.op=16→Bc (SS dt n 73 [.fv (.sl (g.map Tm.enc)),.fv b.enc,.fv ((a.inf g).2.kid 0).enc] ⟨[],[]⟩) (.int .i64 (CM (b.inf g) ((a.inf g).2.kid 0)))) :
  G5 (SS dt (n+1) 76 [.fv (.sl (g.map Tm.enc)),.fv (Tm.mk 21 m [a,b]).enc] ⟨[],[]⟩) ((Tm.mk 21 m [a,b]).inf g):=by
 rw [c76,Tm.inf];obtain ⟨u,v,e,hu,he1,he2,he3⟩:=hs;simp only [Int.reduceEq,if_false,if_true];generalize a.inf g=q at he1 he2 he3 hc ⊢;obtain ⟨e',r⟩:=q;simp only at he1 he2 he3 hc ⊢;have hfail:e≠0→G5 (S76 (SS dt n) n (.fv (.sl (g.map Tm.enc))) (.fv (Tm.mk 21 m [a,b]).enc) ⟨[],[]⟩) (e,.z):=by
  intro h0;refine CT (u:=.z) ?_ h0;obtain ⟨o1,n1,k1⟩:=a;obtain ⟨o2,n2,k2⟩:=u;obtain ⟨o3,n3,k3⟩:=v;simp only [Ah,Ayo,Ayn] at hu ⊢;simp only [↓Wx,↓XX,XY,↓reduceIte,Nat.reduceBEq,Nat.reduceAdd,Int.reduceEq,Int.reduceLT,Int.reduceLE,↓Bx,↓AL hu,h0,Tm.z,Ah];first | exact An _ _ | exact Aw rfl (by simp) _
 by_cases h:e'=0
 ·rw [if_pos h];by_cases h2:r.op=16
  ·rw [if_pos h2];have hcc:=hc h h2;obtain ⟨h3,h4,h5⟩:=he3 h h2;rw [← h4] at hcc ⊢;rw [← h5];subst h3;refine I2 ?_;generalize CM (b.inf g) u=w at hcc ⊢;obtain ⟨o1,n1,k1⟩:=a;obtain ⟨o2,n2,k2⟩:=u;obtain ⟨o3,n3,k3⟩:=v;obtain ⟨o4,n4,k4⟩:=b;simp only [Ah,Ayo,Ayn] at hu hcc ⊢;simp only [↓Wx,↓XX,XY,↓reduceIte,Nat.reduceBEq,Nat.reduceAdd,Int.reduceEq,Int.reduceLT,Int.reduceLE,↓Bx,↓BJ,↓AL hu,↓AL hcc];first | exact An _ _ | exact Aw rfl (by simp) _
  ·rw [if_neg h2]
   have:=he2 h h2
   subst this;exact hfail (by decide)
 ·rw [if_neg h]
  have:=he1 h
  subst this;exact hfail h
set_option maxRecDepth 20000 in
theorem AjJ {n:Nat} {g:List Tm} {m:Int} {a b:Tm} (hn:3<n) (ha:Aac n g a) (hb:(a.inf g).1=0→Aac n g b) (hw:(a.inf g).1=0→(b.inf g).1=0→2 * (2+(a.inf g).2.wt+(b.inf g).2.wt)+4<n) :
  G5 (SS dt (n+1) 76 [.fv (.sl (g.map Tm.enc)),.fv (Tm.mk 22 m [a,b]).enc] ⟨[],[]⟩) ((Tm.mk 22 m [a,b]).inf g):=by
 rw [c76,Tm.inf];obtain ⟨u,hu,he⟩:=ha;simp only [Int.reduceEq,if_false,if_true];generalize a.inf g=q at hu he hw hb ⊢;obtain ⟨e,r⟩:=q;simp only at hu he hw hb ⊢;by_cases h:e=0
 ·rw [if_pos h]
  have:=he h
  subst this;subst h;obtain ⟨v,hv,hve⟩:=hb rfl;have hw:=hw rfl;unfold GP;generalize b.inf g=q at hv hve hw ⊢;obtain ⟨e,r⟩:=q;simp only at hv hve hw ⊢;have hof:=Agk (n:=n) (by omega) 17 [u,v];have hm:=AaP (n:=n) (.mk 17 0 [u,v]) e (by omega) (fun h=>by have:=hve h;subst this;have:=hw h;simp only [Tm.wt,Tm.wtL];omega);refine ⟨.mk 17 0 [u,v],?_,fun h0=>?_⟩
  ·have e1:(if e=0 then (((Tm.mk 17 0 [u,r]).chk 0 1).2,Tm.mk 17 0 [u,r]) else (e,.z)).1=(if e=0 then ((Tm.mk 17 0 [u,v]).chk 0 1).2 else e):=by
    by_cases h:e=0
    ·rw [if_pos h,if_pos h,hve h]
    ·rw [if_neg h,if_neg h]
   rw [e1];generalize (if e=0 then ((Tm.mk 17 0 [u,v]).chk 0 1).2 else e)=w at hm ⊢;obtain ⟨o1,n1,k1⟩:=a;obtain ⟨o2,n2,k2⟩:=b;obtain ⟨o3,n3,k3⟩:=u;obtain ⟨o4,n4,k4⟩:=v;simp only [Ah,Ayo,Ayn] at hu hv hof hm ⊢;simp only [↓Wx,↓XX,XY,↓reduceIte,Nat.reduceBEq,Nat.reduceAdd,Int.reduceEq,Int.reduceLT,Int.reduceLE,↓Bx,↓BJ,↓Ag hu,↓Ag hv,↓Ct,↓Ag hof,↓Ag hm];first | exact An _ _ | exact Aw rfl (by simp) _
  ·by_cases h:e=0
   ·rw [if_pos h,hve h]
   ·rw [if_neg h] at h0;exact absurd h0 h
 ·rw [if_neg h];refine CT (u:=.z) ?_ h;obtain ⟨o1,n1,k1⟩:=a;obtain ⟨o2,n2,k2⟩:=b;obtain ⟨o3,n3,k3⟩:=u;simp only [Ah,Ayo,Ayn] at hu ⊢;simp only [↓Wx,↓XX,XY,↓reduceIte,Nat.reduceBEq,Nat.reduceAdd,Int.reduceEq,Int.reduceLT,Int.reduceLE,↓Bx,↓BJ,↓Ag hu,h,Tm.z,Ah];first | exact An _ _ | exact Aw rfl (by simp) _
set_option maxRecDepth 20000 in
theorem Aqn (M:Nat) (hM:3000≤M) (hM2:M≤1000000):∀(n:Nat) (t:Tm) (g:List Tm),t.shp→t.wt≤M→(∀x∈g,x.typed=true∧x.wt≤M)→g.length+t.wt≤900000→4 * t.wt+6 * M+60<n→Aac n g t:=by
 intro n
 induction n using Nat.strongRecOn with
 | ind n ih =>
  intro t g hs hw hg hl hn;obtain ⟨n,rfl⟩:∃k,n=k+1:=⟨n - 1,by omega⟩;obtain ⟨op,m,l⟩:=t;have hs0:=hs;rw [Tm.shp] at hs;obtain ⟨hk,hv,hsl⟩:=hs;simp only [Tm.wt] at hw hl hn;have hof:=Arn (n:=n) (by omega) 15;have hti:=fun (k:Nat)=>HX M hM k;have hgx:∀a:Tm,a.typed=true∧a.wt≤M→∀x∈g++[a],x.typed=true∧x.wt≤M:=by
   intro a ha x hx;rcases List.mem_append.1 hx with h | h
   ·exact hg x h
   ·rw [List.mem_singleton.1 h];exact ha
  have hck:∀(c a:Tm) (g':List Tm) (k:Nat),k+1≤n→c.shp→c.wt≤M→(∀x∈g',x.typed=true∧x.wt≤M)→g'.length+c.wt≤900000→4 * c.wt+6 * M+60<k→a.wt≤M →
    Bc (SS dt (k+1) 73 [.fv (.sl (g'.map Tm.enc)),.fv c.enc,.fv a.enc] ⟨[],[]⟩) (.int .i64 (CM (c.inf g') a)) :=
   fun c a g' k hk h1 h2 h3 h4 h5 h6=>AmT (ih k (by omega) c g' h1 h2 h3 h4 h5) (by omega) (by omega)
  show G5 _ _
  rw [c53];by_cases o1:op=1
  ·subst o1
   have:=AgI hk
   subst this;have hm:=hv rfl;rw [Tm.inf,if_pos rfl,Ah];by_cases h2:(g.length:Int)≤m
   ·rw [if_pos h2];refine CT (u:=.z) ?_ (by decide);simp only [↓K9,↓XX,XY,↓reduceIte,Nat.reduceBEq,Nat.reduceAdd,Int.reduceEq,Int.reduceLT,Int.reduceLE,h2,Tm.z,Ah];first | exact An _ _ | exact Aw rfl (by simp) _
   ·rw [if_neg h2];have hlt:g.length - 1 - m.toNat<g.length:=by omega
    have hget:g[g.length - 1 - m.toNat]?=some (g.getD (g.length - 1 - m.toNat) .z):=by
     rw [List.getD_eq_getElem?_getD,List.getElem?_eq_getElem hlt];rfl
    have w1:BC ((g.length:Int) - 1)=(g.length:Int) - 1:=by rw [Az]<;>omega
    have w2:BC ((g.length:Int) - 1 - m)=((g.length - 1 - m.toNat:Nat):Int):=by rw [Az (by omega) (by omega)];omega
    refine I2 ?_;generalize g.getD (g.length - 1 - m.toNat) .z=x at hget ⊢;obtain ⟨o,p,k⟩:=x;simp only [↓K9,↓XX,XY,↓reduceIte,Nat.reduceBEq,Nat.reduceAdd,Int.reduceEq,Int.reduceLT,Int.reduceLE,h2,w1,w2,↓Bn (AJ hget) (A0 _ _ _),↓BQ,Ah];first | exact An _ _ | exact Aw rfl (by simp) _
  by_cases o2:op=25
  ·subst o2
   have:=AgI hk
   subst this;rw [Tm.inf,if_neg (by decide),if_pos rfl,Ah];refine I2 ?_;simp only [↓K9,↓XX,XY,↓reduceIte,Nat.reduceBEq,Nat.reduceAdd,Int.reduceEq,Int.reduceLT,Int.reduceLE,↓Ag hof,tI,Ah];first | exact An _ _ | exact Aw rfl (by simp) _
  by_cases o3:op=26
  ·subst o3;obtain ⟨a,b,rfl⟩:=Nd hk;simp only [Tm.wtL] at hw hl hn;obtain ⟨k,rfl⟩:∃k,n=k+1:=⟨n - 1,by omega⟩;have htw:tI.wt≤M:=by simp [tI,Tm.wt,Tm.wtL];omega
   have ha:=hck a tI g k (by omega) hsl.1 (by omega) hg (by omega) (by omega) htw;have hb:=hck b tI g k (by omega) hsl.2.1 (by omega) hg (by omega) (by omega) htw;rw [Tm.inf,if_pos rfl];generalize CM (a.inf g) tI=x at ha ⊢;generalize CM (b.inf g) tI=y at hb ⊢;by_cases h:x=0
   ·rw [if_pos h];refine I2 ?_;subst h;obtain ⟨o1,n1,k1⟩:=a;obtain ⟨o2,n2,k2⟩:=b;simp only [Ah,tI,Ayo,Ayn] at ha hb ⊢;simp only [↓K9,↓XX,XY,↓reduceIte,Nat.reduceBEq,Nat.reduceAdd,Int.reduceEq,Int.reduceLT,Int.reduceLE,↓Ag hof,↓Bx,↓BJ,↓AL ha,↓AL hb];first | exact An _ _ | exact Aw rfl (by simp) _
   ·rw [if_neg h];refine CT (u:=.z) ?_ h;obtain ⟨o1,n1,k1⟩:=a;obtain ⟨o2,n2,k2⟩:=b;simp only [Ah,tI,Ayo,Ayn] at ha hb ⊢;simp only [↓K9,↓XX,XY,↓reduceIte,Nat.reduceBEq,Nat.reduceAdd,Int.reduceEq,Int.reduceLT,Int.reduceLE,↓Ag hof,↓Bx,↓BJ,↓AL ha,h,Tm.z,Ah];first | exact An _ _ | exact Aw rfl (by simp) _
  by_cases o4:op=20∨op=29
  ·have hk2:AY op=2:=by rcases o4 with rfl | rfl<;>rfl
   obtain ⟨a,b,rfl⟩:=Nd (hk.trans hk2);simp only [Tm.wtL] at hw hl hn;obtain ⟨k,rfl⟩:∃k,n=k+1+1:=⟨n - 2,by omega⟩;obtain ⟨u,hu,hue⟩:=AeF (n:=k+1) (g:=g) (op:=op) (m:=m) (a:=a) (b:=b) o4 (by omega) (by omega) (fun h=>ih (k+1) (by omega) b (g++[a]) hsl.2.1 (by omega) (hgx a ⟨h,by omega⟩) (by simp;omega) (by omega))
    (fun h=>hck b a (g++[a]) k (by omega) hsl.2.1 (by omega) (hgx a ⟨h,by omega⟩) (by simp;omega) (by omega) (by omega))
    (fun h h0=>by have:=(hti _ b (g++[a]) (Nat.lt_succ_self _) (by omega) (hgx a ⟨h,by omega⟩) hsl.2.1 h0).2;omega)
   refine ⟨u,?_,hue⟩;generalize (Tm.mk op m [a,b]).inf g=q at hu ⊢;obtain ⟨e,r⟩:=q;obtain ⟨o1,n1,k1⟩:=u;simp only [Ah] at hu ⊢;rcases o4 with rfl | rfl<;>(simp only [↓K9,↓XX,XY,↓reduceIte,Nat.reduceBEq,Nat.reduceAdd,Int.reduceEq,Int.reduceLT,Int.reduceLE,↓Ag hu];first | exact An _ _ | exact Aw rfl (by simp) _)
  by_cases o5:op=28
  ·subst o5;obtain ⟨a,b,rfl⟩:=Nd hk;simp only [Tm.wtL] at hw hl hn;have hpa:=Du a;have hpb:=Du b;have hta:=hti _ a g (Nat.lt_succ_self _) (by omega) hg hsl.1;obtain ⟨u,hu,he⟩:=ih n (by omega) a g hsl.1 (by omega) hg (by omega) (by omega);rw [Tm.inf,if_neg (by decide),if_neg (by decide),if_neg (by decide),if_pos rfl];generalize a.inf g=q at hu he hta ⊢;obtain ⟨e,r⟩:=q;simp only at hu he hta ⊢;by_cases h:e=0
   ·have:=he h
    subst this h;rw [if_pos rfl];have hwi:=Ad7 (n:=n) g u (by omega) (by omega);obtain ⟨v,hv2,hve⟩:=ih n (by omega) b (g++[u]) hsl.2.1 (by omega) (hgx u (hta rfl)) (by simp;omega) (by omega);refine ⟨v,?_,hve⟩;generalize b.inf (g++[u])=q at hv2 ⊢;obtain ⟨o1,n1,k1⟩:=a;obtain ⟨o2,n2,k2⟩:=b;obtain ⟨o3,n3,k3⟩:=u;obtain ⟨o4,n4,k4⟩:=v;simp only [Ah,Ayo,Ayn,List.map_append] at hu hv2 hwi ⊢;simp only [↓K9,↓XX,XY,↓reduceIte,Nat.reduceBEq,Nat.reduceAdd,Int.reduceEq,Int.reduceLT,Int.reduceLE,↓Bx,↓BJ,↓Ag hu,↓Ag hwi,↓Ag hv2];first | exact An _ _ | exact Aw rfl (by simp) _
   ·rw [if_neg h];refine CT (u:=.z) ?_ h;obtain ⟨o1,n1,k1⟩:=a;obtain ⟨o2,n2,k2⟩:=b;obtain ⟨o3,n3,k3⟩:=u;simp only [Ah,Ayo,Ayn] at hu ⊢;simp only [↓K9,↓XX,XY,↓reduceIte,Nat.reduceBEq,Nat.reduceAdd,Int.reduceEq,Int.reduceLT,Int.reduceLE,↓Bx,↓BJ,↓Ag hu,h,Tm.z,Ah];first | exact An _ _ | exact Aw rfl (by simp) _
  by_cases o6:op=27
  ·subst o6;obtain ⟨a,b,c,rfl⟩:=Ati hk;simp only [Tm.wtL] at hw hl hn;obtain ⟨k,rfl⟩:∃k,n=k+1:=⟨n - 1,by omega⟩;have htw:tI.wt≤M:=by simp [tI,Tm.wt,Tm.wtL];omega
   have ha:=hck a tI g k (by omega) hsl.1 (by omega) hg (by omega) (by omega) htw;rw [Tm.inf,if_pos rfl];generalize CM (a.inf g) tI=x at ha ⊢;by_cases h:x=0
   ·subst h;rw [if_pos rfl];obtain ⟨u,hu,he⟩:=ih (k+1) (by omega) b g hsl.2.1 (by omega) hg (by omega) (by omega);have htb:=hti _ b g (Nat.lt_succ_self _) (by omega) hg hsl.2.1;have hc:=fun (y:Tm) (hy:y.wt≤M)=>hck c y g k (by omega) hsl.2.2.1 (by omega) hg (by omega) (by omega) hy;generalize b.inf g=q at hu he htb ⊢;obtain ⟨e,r⟩:=q;simp only at hu he htb ⊢;by_cases h:e=0
    ·have:=he h
     subst this h;rw [if_pos rfl];have hc:=hc u (htb rfl).2;refine I2 ?_;generalize CM (c.inf g) u=w at hc ⊢;obtain ⟨o1,n1,k1⟩:=a;obtain ⟨o2,n2,k2⟩:=b;obtain ⟨o3,n3,k3⟩:=c;obtain ⟨o4,n4,k4⟩:=u;simp only [Ah,tI,Ayo,Ayn] at ha hu hc ⊢;simp only [↓K9,↓XX,XY,↓reduceIte,Nat.reduceBEq,Nat.reduceAdd,Int.reduceEq,Int.reduceLT,Int.reduceLE,↓Ag hof,↓Bx,↓BJ,↓GS,↓AL ha,↓Ag hu,↓AL hc];first | exact An _ _ | exact Aw rfl (by simp) _
    ·rw [if_neg h];refine CT (u:=.z) ?_ h;obtain ⟨o1,n1,k1⟩:=a;obtain ⟨o2,n2,k2⟩:=b;obtain ⟨o3,n3,k3⟩:=c;obtain ⟨o4,n4,k4⟩:=u;simp only [Ah,tI,Ayo,Ayn] at ha hu ⊢;simp only [↓K9,↓XX,XY,↓reduceIte,Nat.reduceBEq,Nat.reduceAdd,Int.reduceEq,Int.reduceLT,Int.reduceLE,↓Ag hof,↓Bx,↓BJ,↓GS,↓AL ha,↓Ag hu,h,Tm.z,Ah];first | exact An _ _ | exact Aw rfl (by simp) _
   ·rw [if_neg h];refine CT (u:=.z) ?_ h;obtain ⟨o1,n1,k1⟩:=a;obtain ⟨o2,n2,k2⟩:=b;obtain ⟨o3,n3,k3⟩:=c;simp only [Ah,tI,Ayo,Ayn] at ha ⊢;simp only [↓K9,↓XX,XY,↓reduceIte,Nat.reduceBEq,Nat.reduceAdd,Int.reduceEq,Int.reduceLT,Int.reduceLE,↓Ag hof,↓Bx,↓BJ,↓GS,↓AL ha,h,Tm.z,Ah];first | exact An _ _ | exact Aw rfl (by simp) _
  have o7:op≠20:=fun h=>o4 (.inl h);have o8:op≠29:=fun h=>o4 (.inr h);have hpart:G5 (SS dt n 76 [.fv (.sl (g.map Tm.enc)),.fv (Tm.mk op m l).enc] ⟨[],[]⟩) ((Tm.mk op m l).inf g):=by
   obtain ⟨n,rfl⟩:∃k,n=k+1+1:=⟨n - 2,by omega⟩;by_cases p1:op=23∨op=24
   ·have hk2:AY op=1:=by rcases p1 with rfl | rfl<;>rfl
    obtain ⟨a,rfl⟩:=Auv (hk.trans hk2);simp only [Tm.wtL] at hw hl hn;refine AlR p1 (Tj (ih n (by omega) a g hsl.1 (by omega) hg (by omega) (by omega)) fun h h2=>?_);exact Gi (.inr rfl) (hti _ a g (Nat.lt_succ_self _) (by omega) hg hsl.1 h).1 h2
   by_cases p2:op=21
   ·subst p2;obtain ⟨a,b,rfl⟩:=Nd hk;simp only [Tm.wtL] at hw hl hn;have hta:=hti _ a g (Nat.lt_succ_self _) (by omega) hg hsl.1;refine Alh (Tj (ih n (by omega) a g hsl.1 (by omega) hg (by omega) (by omega)) fun h h2=>Gi (.inl rfl) (hta h).1 h2) fun h h2=>?_;obtain ⟨x,y,hxy⟩:=Gi (.inl rfl) (hta h).1 h2;exact hck b _ g n (by omega) hsl.2.1 (by omega) hg (by omega) (by omega) (by have:=Adb hxy;have:=(hta h).2;omega)
   by_cases p3:op=22
   ·subst p3;obtain ⟨a,b,rfl⟩:=Nd hk;simp only [Tm.wtL] at hw hl hn;have hta:=hti _ a g (Nat.lt_succ_self _) (by omega) hg hsl.1;have htb:=hti _ b g (Nat.lt_succ_self _) (by omega) hg hsl.2.1;exact AjJ (by omega) (ih (n+1) (by omega) a g hsl.1 (by omega) hg (by omega) (by omega)) (fun _=>ih (n+1) (by omega) b g hsl.2.1 (by omega) hg (by omega) (by omega)) (fun h h2=>by have:=(hta h).2;have:=(htb h2).2;omega)
   rw [OM ⟨o1,o2,fun h=>p1 (.inl h),fun h=>p1 (.inr h),o3,o7,o8,o5,p3,p2,o6⟩];exact I2 (AmU p3 p2 (fun h=>p1 (.inl h)) (fun h=>p1 (.inr h)))
  obtain ⟨u,hu,hue⟩:=hpart;refine ⟨u,?_,hue⟩;generalize (Tm.mk op m l).inf g=q at hu ⊢;obtain ⟨e,r⟩:=q;obtain ⟨p1,p2,p3⟩:=u;simp only [Ah] at hu ⊢;simp only [↓K9,↓XX,XY,↓reduceIte,Nat.reduceBEq,Nat.reduceAdd,Int.reduceEq,Int.reduceLT,Int.reduceLE,o1,o2,o3,o5,o6,o7,o8,↓AgC,↓Ag hu];first | exact An _ _ | exact Aw rfl (by simp) _
abbrev AvW (op m:Int) (ks done:List Tm) (r:Nat):Hp :=
 ⟨[(56623104,.row [iv op,iv m,.fv (.sl (ks.map Tm.enc))] false),(56623105,.row [iv 0,iv 0,.nils] false),(56624131,.row (Ce done r) false)],[]⟩
set_option maxRecDepth 20000 in
set_option maxHeartbeats 1000000 in
theorem AoX:∀(n:Nat) (t:Tm),t.wt+1<n→t.shp→Aqt (SS dt n 54 [.fv t.enc] ⟨[],[]⟩) t.enc:=by
 intro n
 induction n with
 | zero=>intro t h;omega
 | succ n ih =>
  intro t hn hs;obtain ⟨op,m,ks⟩:=t;simp only [Tm.wt] at hn;rw [Tm.shp] at hs;obtain ⟨hk,_,hsl⟩:=hs;have hk4:=Hj op;rw [c54];have hlen:=DL ks;rw [Ah];simp only [PP,Rg,Q1,RD,PE,Pp,S54,↓XX,XY,↓reduceIte,Nat.reduceBEq,Nat.reduceAdd,Int.reduceEq,Int.reduceLT,Int.reduceLE,↓AuU (show ks.length≤1000 by omega),↓AG,XD,heldB,AN,XE,AgQ,Aae]
  refine A2 (Q:=fun r=>Aqt r _) (fun k V H=>∃(pre rest:List Tm),ks=pre++rest∧rest.length=k∧Tm.shpL rest ∧
    V=[.ptr (.own 56623104) 0,.ptr (.own 56623105) 0,.slc (.own 56624131) 3 ks.length,.fv (.sl (ks.map Tm.enc)),iv ks.length,iv pre.length]∧H=AvW op m ks pre rest.length)
   ?_ n ks.length _ _ (by omega) ⟨[],ks,rfl,rfl,hsl,rfl,rfl⟩
  rintro k V H rec ⟨pre,rest,hks,hl,hsr,rfl,rfl⟩ hrec;have hkl:ks.length=pre.length+rest.length:=by rw [hks];simp
  cases rest with
  | nil =>
   have hno:¬ ((pre.length:Int)<ks.length):=by rw [hkl];simp
   have hpk:ks=pre:=by rw [hks,List.append_nil]
   subst hpk;simp only [PP,Rg,Q1,RD,PE,V5,Pp,S54,↓XX,XY,↓reduceIte,Nat.reduceBEq,Nat.reduceAdd,Int.reduceEq,Int.reduceLT,Int.reduceLE,hno];exact ⟨_,_,rfl,_,_,fun e0 K=>Ats (by rfl) (by omega) [] e0 K⟩
  | cons x rest =>
   have hi:(pre.length:Int)<ks.length:=by rw [hkl];simp;omega
   have hg2:=B7 hks;have hxw:=CO (t:=x) (l:=ks) (by rw [hks];simp);have hs:=ih x (by omega) hsr.1;have hwi:BC ((pre.length:Int)+1)=((pre++[x]).length:Int):=(Az (by omega) (by omega)).trans (by simp);have hin:pre.length<ks.length:=by omega
   have hst:=fun {β:Type}=>As6 (β:=β) pre rest.length x.op x.n x.kids;obtain ⟨o,p,l⟩:=x;simp only [Tm.op,Tm.n,Tm.kids] at hst;rw [Ah] at hs;simp only [Aym] at hl;simp only [PP,Rg,Q1,RD,PE,V5,Pp,S54,↓XX,XY,↓reduceIte,Nat.reduceBEq,Nat.reduceAdd,Int.reduceEq,Int.reduceLT,Int.reduceLE,hi,↓Bn (AJ hg2) (A0 _ _ _),↓BQ,hwi,↓Av (AtH hs),↓Aph hin,↓hst,↓AG,XD,heldB,AN,XE,AgQ,Aae];exact hrec rest.length _ _ (by omega) ⟨pre++[.mk o p l],rest,by rw [hks];simp,rfl,hsr.2,rfl,rfl⟩
theorem Ajp (ih:Aa) (xs:List IV) (h0:Hp) (k:IV→Hp→List Ref→List Ref→Option (IV×Hp)):Om EE ih (.fv (.func (.func 51) [] [])) xs h0 k=Ai [] false false ih 51 xs h0 k :=
 AfA (by kernel_rfl) (by kernel_rfl) (by kernel_rfl) (by kernel_rfl) ..
theorem AhR {n:Nat} (t:Tm) (hn:t.wt+1<n) (ht:t.typed=true):Bc (SS dt n 51 [.fv t.enc] ⟨[],[]⟩) (.bool false):=by
 obtain ⟨n,rfl⟩:∃k,n=k+1:=⟨n - 1,by omega⟩;rw [c51];have h:=Oe n t (by omega);rw [ht] at h;obtain ⟨o,p,l⟩:=t;rw [Ah] at h ⊢;simp only [S51,↓XX,XY,↓reduceIte,Nat.reduceBEq,Nat.reduceAdd,Int.reduceEq,Int.reduceLT,Int.reduceLE,↓Av h];exact An _ _
theorem Ah2 {n:Nat} (M:Nat) (g:List Tm) (hg:∀x∈g,x.typed=true∧x.wt≤M) (hl:g.length≤900000) (hn:g.length+M+2<n):Bc (SS dt n 72 [.fv (.sl (g.map Tm.enc)),.fv (.func (.func 51) [] [])] ⟨[],[]⟩) (.int .i64 (-1)):=by
 obtain ⟨n,rfl⟩:∃k,n=k+1:=⟨n - 1,by omega⟩;rw [c72];simp only [RE,Rp,S72,↓XX,XY,↓reduceIte,Nat.reduceBEq,Nat.reduceAdd,Int.reduceEq,Int.reduceLT,Int.reduceLE];refine A2 (Q:=fun r=>Bc r _) (fun k V H=>∃(pre rest:List Tm),g=pre++rest∧rest.length=k ∧
   V=[.fv (.sl (g.map Tm.enc)),.fv (.func (.func 51) [] []),iv g.length,iv pre.length]∧H=⟨[],[]⟩)
  ?_ n g.length _ _ (by omega) ⟨[],g,rfl,rfl,rfl,rfl⟩
 rintro k V H rec ⟨pre,rest,hks,hl,rfl,rfl⟩ hrec;have hkl:g.length=pre.length+rest.length:=by rw [hks];simp
 cases rest with
 | nil =>
  have hno:¬ ((pre.length:Int)<g.length):=by rw [hkl];simp
  simp only [RE,Rp,V8,S72,↓XX,XY,↓reduceIte,Nat.reduceBEq,Nat.reduceAdd,Int.reduceEq,Int.reduceLT,Int.reduceLE,hno];exact An _ _
 | cons x rest =>
  have hi:(pre.length:Int)<g.length:=by rw [hkl];simp;omega
  have hg2:=B7 hks;have hx:=hg x (by rw [hks];simp);have hs:=AhR (n:=n) x (by omega) hx.1;have hwi:BC ((pre.length:Int)+1)=((pre++[x]).length:Int):=(Az (by omega) (by omega)).trans (by simp);obtain ⟨o,p,l⟩:=x;rw [Ah] at hs;simp only [Aym] at hl;simp only [RE,Rp,V8,S72,↓XX,XY,↓reduceIte,Nat.reduceBEq,Nat.reduceAdd,Int.reduceEq,Int.reduceLT,Int.reduceLE,hi,↓Bn (AJ hg2) (A0 _ _ _),↓BQ,↓Ajp,↓Av hs,hwi];exact hrec rest.length _ _ (by omega) ⟨pre++[.mk o p l],rest,by rw [hks];simp,rfl,rfl,rfl⟩
theorem Ul {n:Nat} (M:Nat) (g:List Tm) (hg:∀x∈g,x.typed=true∧x.wt≤M) (hl:g.length≤900000) (hn:g.length+M+3<n):Bc (SS dt n 50 [.fv (.sl (g.map Tm.enc)),.fv (.func (.func 51) [] [])] ⟨[],[]⟩) (.bool false):=by
 obtain ⟨n,rfl⟩:∃k,n=k+1:=⟨n - 1,by omega⟩;rw [c50];have h:=Ah2 (n:=n) M g hg hl (by omega);simp only [S50,↓XX,XY,↓reduceIte,Nat.reduceBEq,Nat.reduceAdd,Int.reduceEq,Int.reduceLT,Int.reduceLE,↓Ag h];exact An _ _
def Tm.infer (t:Tm) (g:List Tm):Tm×Int:=if (t.chk 0 1).2=0 then (if (t.inf g).1=0 then ((t.inf g).2,0) else (.z,(t.inf g).1)) else (.z,1)
theorem Pg (M:Nat) (hM:3000≤M) (hM2:M≤1000000) (n:Nat) (t:Tm) (g:List Tm) (h2:t.wt≤M) (h3:∀x∈g,x.typed=true∧x.wt≤M) (h4:g.length+t.wt≤900000) (h5:4 * t.wt+6 * M+g.length+61<n) :
  Bc (SS dt n 17 [.fv (.sl (g.map Tm.enc)),.fv t.enc] ⟨[],[]⟩) (.tuple [(t.infer g).1.enc,.int .i64 (t.infer g).2]):=by
 obtain ⟨n,rfl⟩:∃k,n=k+1:=⟨n - 1,by omega⟩;rw [c17];have hc:=O9 (n:=n) t (by omega);have hcf:=Ul (n:=n) M g h3 (by omega) (by omega);unfold Tm.infer;by_cases h0:(t.chk 0 1).2=0
 ·rw [if_pos h0];rw [h0] at hc;have hs:=Rk t 0 1 h0;obtain ⟨u,hu,he⟩:=Aqn M hM hM2 n t g hs h2 h3 h4 (by omega);have hty:=HX M hM _ t g (Nat.lt_succ_self _) h2 h3 hs;generalize t.inf g=q at hu he hty ⊢;obtain ⟨e,r⟩:=q;simp only at hu he hty ⊢;by_cases h1:e=0
  ·have:=he h1
   subst this h1;rw [if_pos rfl];have hy:=hty rfl;have ho:=AoX n u (by omega) (Ky u hy.1);obtain ⟨o1,n1,k1⟩:=t;obtain ⟨o2,n2,k2⟩:=u;simp only [Ah] at hc hu ho ⊢;simp only [QF,QL,QH,QZ,Qx,Ro,S17,↓XX,XY,↓reduceIte,Nat.reduceBEq,Nat.reduceAdd,Int.reduceEq,Int.reduceLT,Int.reduceLE,↓Av hc,↓Ag hcf,↓Ag hu,↓Av (AtH ho)];first | exact An _ _ | exact Aw rfl (by simp) _
  ·rw [if_neg h1];obtain ⟨o1,n1,k1⟩:=t;obtain ⟨o2,n2,k2⟩:=u;simp only [Ah,Tm.z] at hc hu ⊢;simp only [QF,QL,QH,QZ,Qx,Ro,S17,↓XX,XY,↓reduceIte,Nat.reduceBEq,Nat.reduceAdd,Int.reduceEq,Int.reduceLT,Int.reduceLE,↓Av hc,↓Ag hcf,↓Ag hu,h1];first | exact An _ _ | exact Aw rfl (by simp) _
 ·rw [if_neg h0];generalize (t.chk 0 1).2=e at hc h0;obtain ⟨o1,n1,k1⟩:=t;simp only [Ah,Tm.z] at hc ⊢;simp only [QF,QL,QH,QZ,Qx,Ro,S17,↓XX,XY,↓reduceIte,Nat.reduceBEq,Nat.reduceAdd,Int.reduceEq,Int.reduceLT,Int.reduceLE,↓Av hc,h0];first | exact An _ _ | exact Aw rfl (by simp) _
theorem Afd (n:Nat):Qe (SS dt (n+60) 11 [] ⟨[],[]⟩)=true:=by kernel_rfl
theorem UC {n:Nat} (h:60≤n):Bc (SS dt n 11 [] ⟨[],[]⟩) (.bool true):=by
 obtain ⟨k,rfl⟩:∃k,n=k+60:=⟨n - 60,by omega⟩;exact Agn (Afd k)
theorem EX {n:Nat} (hn:0<n) (x:Int) {m:Int} (h1:0<m) (h2:m≤4611686018427387904):Bc (SS dt n 45 [iv x,iv m] ⟨[],[]⟩) (.int .i64 (x % m)):=by
 obtain ⟨n,rfl⟩:=Nat.exists_eq_add_of_lt hn;rw [Nat.zero_add,c45];simp only [S45,↓XX,XY,↓reduceIte,Nat.reduceBEq,Nat.reduceAdd,Int.reduceEq,Int.reduceLT,Int.reduceLE,↓Oc (show m≠0 by omega)]
 rw [← Af3 h1 h2];by_cases hc:x.tmod m<0<;>simp only [hc,if_true,if_false]<;>exact An _ _
def Tm.kidT (r:Tm) (i:Nat):Tm:=match r.kids[i]? with
 | some k=>k
 | none=>.mk 0 (BC (r.n+i)) []
theorem Ajw {n:Nat} (hn:0<n) (r:Tm) (i:Nat):Bc (SS dt n 47 [.fv r.enc,iv i] ⟨[],[]⟩) (r.kidT i).enc:=by
 obtain ⟨n,rfl⟩:=Nat.exists_eq_add_of_lt hn;rw [Nat.zero_add,c47];obtain ⟨op,m,ks⟩:=r;rw [Ah];simp only [Tm.kidT,Tm.kids,Tm.n];cases hk:ks[i]? with
 | some k =>
  have hi:(i:Int)<ks.length:=by have:=(List.getElem?_eq_some_iff.1 hk).1;omega
  obtain ⟨o,p,l⟩:=k;simp only [V3,WN,W5,S47,↓XX,XY,↓reduceIte,Nat.reduceBEq,Nat.reduceAdd,Int.reduceEq,Int.reduceLT,Int.reduceLE,hi,↓Bn (AJ hk) (A0 _ _ _),↓BQ,Ah]
  first | exact An _ _ | exact A1 rfl _
 | none =>
  have hi:¬ (i:Int)<ks.length:=by have:=List.getElem?_eq_none_iff.1 hk;omega
  simp only [V3,WN,W5,S47,↓XX,XY,↓reduceIte,Nat.reduceBEq,Nat.reduceAdd,Int.reduceEq,Int.reduceLT,Int.reduceLE,hi,Ah,Ayn]
  first | exact An _ _ | exact A1 rfl _
theorem ApW {P:Nat→Nat→Prop}:∀m,(∀i,i<m→∃N,∀n,N≤n→P i n)→∃N,∀i,i<m→∀n,N≤n→P i n:=by
 intro m
 induction m with
 | zero=>intro _;exact ⟨0,fun i hi=>by omega⟩
 | succ m ih =>
  intro h;obtain ⟨N1,h1⟩:=ih fun i hi=>h i (by omega);obtain ⟨N2,h2⟩:=h m (by omega);refine ⟨N1+N2,fun i hi n hn=>?_⟩;by_cases him:i=m
  ·subst him;exact h2 n (by omega)
  ·exact h1 i (by omega) n (by omega)
def mkW:Nat→Nat
 | 0=>1
 | d+1=>1+4 * mkW d
def AtC (d:Nat):Prop:=∀(r:Tm) (vars:Int),0≤vars→vars≤1000 - 3 * d→∃t,Ev 16 [.fv r.enc,iv d,iv vars] (Tm.enc t)∧t.wt≤mkW d∧t.okn=true∧t.dp≤d+1
abbrev HMk (r:Tm) (op m:Int) (K:IV) (tok:List (Nat×Blk)):Hp :=
 ⟨(16777216,.row [iv r.op,iv r.n,.fv (.sl (r.kids.map Tm.enc))] false)::(16777217,.row [iv 0,iv 0,.nils] false)::(16781314,.row [iv op,iv m,K] false)::tok,[]⟩
set_option maxRecDepth 20000 in
set_option maxHeartbeats 8000000 in
theorem Ae9 {n:Nat} (r:Tm) (d:Int) (vars op m:Int) (K:Nat) (hK:AY op=K) (T:Nat→Tm) (hv:0≤vars∧vars≤2000) (hd:0<K→0<d∧d≤1000) (hn:10<n) (hT:∀i,i<K→Bc (SS dt n 16 [.fv (r.kidT i).enc,iv (d - 1),iv (vars+Ao op i)] ⟨[],[]⟩) (T i).enc) :
  Bc (Bh n (fun q l h=>Ig l (SS dt n) h ⟨[],[]⟩ q) [iv d,iv vars,.ptr (.own 16777216) 0,.ptr (.own 16777217) 0,iv op,.ptr (.own 16781314) 0,iv 0] (HMk r op m .nils [])) (Tm.mk op m ((List.range K).map T)).enc:=by
 have hK4:=Hj op;rw [hK] at hK4;refine A2 (Q:=fun r=>Bc r _) (fun k V H=>∃i:Nat,i+k=K∧V=[iv d,iv vars,.ptr (.own 16777216) 0,.ptr (.own 16777217) 0,iv op,.ptr (.own 16781314) 0,iv i] ∧
   (i=0∧H=HMk r op m .nils []∨0<i∧H=HMk r op m (.app (.own 16794638) (((List.range i).map T).map Tm.enc)) [(16794638,.tok i 3)]))
  ?_ n K _ _ (by omega) ⟨0,by omega,rfl,.inl ⟨rfl,rfl⟩⟩
 rintro k V H rec ⟨i,hik,rfl,hH⟩ hrec;have ha:=MN (n:=n) (by omega) op;rw [hK] at ha;obtain ⟨ro,rn,rk⟩:=r;cases k with
 | zero =>
  have hiK:i=K:=by omega
  subst hiK;have hno:¬ ((i:Int)<i):=by omega
  rw [Ah];rcases hH with ⟨rfl,rfl⟩ | ⟨h0,rfl⟩
  ·simp only [HMk,Tm.op,Tm.n,Tm.kids,List.range_zero,Ayn];simp (maxSteps:=1000000) only [Is,HV,Il,HN,HY,Iw,Iz,Ig,Hw,IG,H7,Ij,HT,H5,H1,Gw,EG,EC,EO,S16,↓XX,XY,↓reduceIte,Nat.reduceBEq,Nat.reduceAdd,Int.reduceEq,Int.reduceLT,Int.reduceLE,↓Av ha,Int.lt_irrefl]
   first | exact An _ _ | exact A1 rfl _
  ·simp only [HMk,Tm.op,Tm.n,Tm.kids];simp (maxSteps:=1000000) only [Is,HV,Il,HN,HY,Iw,Iz,Ig,Hw,IG,H7,Ij,HT,H5,H1,Gw,EG,EC,EO,S16,↓XX,XY,↓reduceIte,Nat.reduceBEq,Nat.reduceAdd,Int.reduceEq,Int.reduceLT,Int.reduceLE,↓Av ha,hno]
   first | exact An _ _ | exact A1 rfl _
 | succ k =>
  have hiK:i<K:=by omega
  have hlt:(i:Int)<K:=by omega
  have hk1:=Ajw (n:=n) (by omega) (.mk ro rn rk) i;have hb:=DF (n:=n) (by omega) op i;have hbl:=BE op i;have hTi:=hT i hiK;have wd:BC (d - 1)=d - 1:=by rw [Az]<;>(have:=hd (by omega);omega)
  have wv:BC (vars+Ao op i)=vars+Ao op i:=by rw [Az]<;>omega
  have wi:BC ((i:Int)+1)=((i+1:Nat):Int):=(Az (by omega) (by omega)).trans (by omega);have h9:=hrec k [iv d,iv vars,.ptr (.own 16777216) 0,.ptr (.own 16777217) 0,iv op,.ptr (.own 16781314) 0,iv (i+1:Nat)] _ (by omega) ⟨i+1,by omega,rfl,.inr ⟨by omega,rfl⟩⟩;have hlist:(List.range (i+1)).map T=(List.range i).map T++[T i]:=by rw [List.range_succ,List.map_append];rfl
  rw [hlist] at h9;rw [← wd,← wv] at hTi;clear hT hrec hlist;generalize T i=ti at hTi h9;generalize (Tm.mk ro rn rk).kidT i=ki at hk1 hTi;rcases hH with ⟨rfl,rfl⟩ | ⟨h0,rfl⟩
  ·have h0':=fun {β:Type}=>Gj (β:=β) sTm (.clip [ti.enc]) (Ca [ti]) rfl (by simp) (s0:=.nils) (.inl rfl);obtain ⟨oi,pi,li⟩:=ti;obtain ⟨o,p,lx⟩:=ki;have hlt0:(0:Int)<K:=by omega
   have w01:BC (0+1)=1:=by rw [Az]<;>omega
   simp only [HMk,Tm.op,Tm.n,Tm.kids,List.range_zero,Ayn,List.nil_append,Ayo,Aym,List.length_nil,Nat.zero_add,Int.natCast_zero,Int.natCast_one,Ah] at h9 h0' hTi hk1 hb ⊢;simp (maxSteps:=1000000) only [Is,HV,Il,HN,HY,Iw,Iz,Ig,Hw,IG,H7,Ij,HT,H5,H1,Gw,EG,EC,EO,S16,↓XX,XY,↓reduceIte,Nat.reduceBEq,Nat.reduceAdd,Int.reduceEq,Int.reduceLT,Int.reduceLE,↓Av ha,hlt0,↓Ag hk1,↓Ag hb,↓AL hTi,↓Cl,↓h0',w01,↓AG,XD,heldB,AN,XE];exact h9
  ·have h1':=fun {β:Type}=>MB (β:=β) sTm (es:=((List.range i).map T).map Tm.enc) (es2:=[ti.enc]) (.clip _) (Ca [ti]) (Ca _) (by simp [QD]) (by simp;omega);obtain ⟨oi,pi,li⟩:=ti;obtain ⟨o,p,lx⟩:=ki;simp only [HMk,Tm.op,Tm.n,Tm.kids,List.length_nil,List.length_map,List.length_range,Ayn,List.map_append,Ayo,Aym,Ah,Nat.zero_add] at h9 h1' hTi hk1 hb ⊢;simp (maxSteps:=1000000) only [Is,HV,Il,HN,HY,Iw,Iz,Ig,Hw,IG,H7,Ij,HT,H5,H1,Gw,EG,EC,EO,S16,↓XX,XY,↓reduceIte,Nat.reduceBEq,Nat.reduceAdd,Int.reduceEq,Int.reduceLT,Int.reduceLE,↓Av ha,hlt,↓Ag hk1,↓Ag hb,↓AL hTi,↓Cl,↓h1',FQ,wi,↓AG,XD,heldB,AN,XE];exact h9
def G4 (r:Tm) (op vars:Int):Int:=if op=1 then r.n % (BC (vars+1)) else if op=2 then r.n % 3 else if op=26 then r.n % 5 else if op=25 then r.n else 0
set_option maxRecDepth 20000 in
set_option maxHeartbeats 8000000 in
theorem Ae6 {n:Nat} (r:Tm) (d:Nat) (vars op:Int) (hop:1≤op∧op≤30) (hv:0≤vars∧vars≤1000) (hd:0<AY op→0<d) (hd2:d≤1000) (hn:10<n) (T:Nat→Tm)
  (hT:∀i:Nat,(i:Int)<AY op→Bc (SS dt n 16 [.fv (r.kidT i).enc,iv ((d:Int) - 1),iv (vars+Ao op i)] ⟨[],[]⟩) (T i).enc) :
  Bc (Gw (iv op) ⟨[(16777216,.row [iv r.op,iv r.n,.fv (.sl (r.kids.map Tm.enc))] false),(16777217,.row [iv 0,iv 0,.nils] false)],[]⟩ ⟨[],[]⟩ (iv d) (iv vars) (.ptr (.own 16777216) 0) (.ptr (.own 16777217) 0) n (SS dt n)) (Tm.mk op (G4 r op vars) ((List.range (AY op).toNat).map T)).enc:=by
 have hK0:0≤AY op:=Sv (P:=fun op=>1≤op→0≤AY op) (by
  intro k hk
  have:∀k:Fin 31,1≤(k.val:Int)→0≤AY (k.val:Int):=by decide
  exact this ⟨k,hk⟩) ⟨by omega,hop.2⟩ hop.1
 have key:=fun m=>Ae9 (n:=n) r d vars op m (AY op).toNat (by omega) T ⟨hv.1,by omega⟩ (fun h=>by have:=hd (by omega);omega) hn (fun i hi=>hT i (by omega));have wv:BC (vars+1)=vars+1:=by rw [Az]<;>omega
 have q1:=EX (n:=n) (by omega) r.n (m:=vars+1) (by omega) (by omega);have q2:=EX (n:=n) (by omega) r.n (m:=3) (by omega) (by omega);have q3:=EX (n:=n) (by omega) r.n (m:=5) (by omega) (by omega);rw [← wv] at q1;clear hT;obtain ⟨ro,rn,rk⟩:=r;simp only [Tm.n] at q1 q2 q3;simp only [HMk,Tm.op,Tm.n,Tm.kids] at key ⊢;by_cases c1:op=1
 ·have hm:G4 (.mk ro rn rk) op vars=rn % (BC (vars+1)):=by rw [G4,if_pos c1];rfl
  rw [hm];clear hm;have k:=key (rn % (BC (vars+1)));generalize rn % (BC (vars+1))=mm at k q1 ⊢;subst c1;simp (maxSteps:=1000000) only [↓Ag5,↓XX,XY,↓reduceIte,Nat.reduceBEq,Nat.reduceAdd,Int.reduceEq,Int.reduceLT,Int.reduceLE,↓Ag q1,↓AG,XD,heldB,AN,XE];exact k
 by_cases c2:op=2
 ·have hm:G4 (.mk ro rn rk) op vars=rn % 3:=by rw [G4,if_neg c1,if_pos c2];rfl
  rw [hm];clear hm;have k:=key (rn % 3);generalize rn % 3=mm at k q2 ⊢;subst c2;simp (maxSteps:=1000000) only [↓Ag5,↓XX,XY,↓reduceIte,Nat.reduceBEq,Nat.reduceAdd,Int.reduceEq,Int.reduceLT,Int.reduceLE,↓Ag q2,↓AG,XD,heldB,AN,XE];exact k
 by_cases c26:op=26
 ·have hm:G4 (.mk ro rn rk) op vars=rn % 5:=by rw [G4,if_neg c1,if_neg c2,if_pos c26];rfl
  rw [hm];clear hm;have k:=key (rn % 5);generalize rn % 5=mm at k q3 ⊢;subst c26;simp (maxSteps:=1000000) only [↓Ag5,↓XX,XY,↓reduceIte,Nat.reduceBEq,Nat.reduceAdd,Int.reduceEq,Int.reduceLT,Int.reduceLE,↓Ag q3,↓AG,XD,heldB,AN,XE];exact k
 by_cases c25:op=25
 ·have hm:G4 (.mk ro rn rk) op vars=rn:=by rw [G4,if_neg c1,if_neg c2,if_neg c26,if_pos c25];rfl
  rw [hm];clear hm;have k:=key rn;subst c25;simp (maxSteps:=1000000) only [↓Ag5,↓XX,XY,↓reduceIte,Nat.reduceBEq,Nat.reduceAdd,Int.reduceEq,Int.reduceLT,Int.reduceLE,↓AG,XD,heldB,AN,XE];exact k
 ·have hm:G4 (.mk ro rn rk) op vars=0:=by rw [G4,if_neg c1,if_neg c2,if_neg c26,if_neg c25]
  rw [hm];clear hm;have k:=key 0;simp (maxSteps:=1000000) only [↓Ag5,↓XX,XY,↓reduceIte,Nat.reduceBEq,Nat.reduceAdd,Int.reduceEq,Int.reduceLT,Int.reduceLE,c1,c2,c25,c26,↓AG,XD,heldB,AN,XE];exact k
theorem Atn (a b c d e:Int) (s:Nat) (h:Hp) (k:IV→Hp→List Ref→List Ref→Option (IV×Hp)):AD (Al EE 51 5 [(0,iv a),(1,iv b),(2,iv c),(3,iv d),(4,iv e)]) s h k=k (.clip [.int .i64 a,.int .i64 b,.int .i64 c,.int .i64 d,.int .i64 e]) h [] [] :=
 DB (by kernel_rfl:EE.T 51=some ⟨1,24,.slice 3,[.nils]⟩) (by kernel_rfl:EE.T 3=some ⟨1,8,.int .i64,[.fv (.int .i64 0)]⟩) (by decide) (cells:=[.int .i64 a,.int .i64 b,.int .i64 c,.int .i64 d,.int .i64 e]) rfl k
theorem ix5 {β:Type} (j:Nat) (a b c d e x:Int) (h:[a,b,c,d,e][j]?=some x) (k:IV→Option β):AP 1 (.clip [.int .i64 a,.int .i64 b,.int .i64 c,.int .i64 d,.int .i64 e]) (iv j) k=k (.fv (.fp [.int .i64 x] 0)):=by
 have:AP 1 (.clip [.int .i64 a,.int .i64 b,.int .i64 c,.int .i64 d,.int .i64 e]) (iv j) k=AP 1 (.fv (.sl ([a,b,c,d,e].map fun x=>FV.int .i64 x))) (iv j) k:=rfl
 rw [this];exact Bn (el:=.int .i64 x) (by rw [List.getElem?_map,h];rfl) rfl k
theorem O6 {n:Nat} (r:Tm) (d:Nat) (vars op:Int) (hv:0≤vars∧vars≤1000) (hd2:d≤1000) (hn:100<n) (hop:∃j x,r.op % 5=((j:Nat):Int)∧[(1:Int),11,25,15,10][j]?=some x∧op=if d=0∧0<AY (1+r.op % 30) then x else 1+r.op % 30)
  (h1:1≤op∧op≤30) (hd:0<AY op→0<d) (T:Nat→Tm) (hT:∀i:Nat,(i:Int)<AY op→Bc (SS dt n 16 [.fv (r.kidT i).enc,iv ((d:Int) - 1),iv (vars+Ao op i)] ⟨[],[]⟩) (T i).enc) :
  Bc (SS dt (n+1) 16 [.fv r.enc,iv d,iv vars] ⟨[],[]⟩) (Tm.mk op (G4 r op vars) ((List.range (AY op).toNat).map T)).enc:=by
 obtain ⟨j,x,hj,hx,hop⟩:=hop;have hk1:=Int.emod_nonneg r.op (show (30:Int)≠0 by decide)
 have hk2:=Int.emod_lt_of_pos r.op (show (0:Int)<30 by decide)
 have ht:=Ae6 (n:=n) r d vars op h1 hv hd hd2 (by omega) T hT;have q1:=EX (n:=n) (by omega) r.op (m:=30) (by omega) (by omega);have q2:=EX (n:=n) (by omega) r.op (m:=5) (by omega) (by omega);rw [hj] at q2;have w1:BC (1+r.op % 30)=1+r.op % 30:=by rw [Az]<;>omega
 have ha:=MN (n:=n) (by omega) (1+r.op % 30);rw [c16];rw [← w1] at ha;have hi5:=fun {β:Type}=>ix5 (β:=β) j 1 11 25 15 10 x hx;rw [← w1] at hop;clear hT h1 hd w1;by_cases hp:d=0∧0<AY (BC (1+r.op % 30))
 ·rw [if_pos hp] at hop;subst hop;obtain ⟨rfl,hp⟩:=hp;generalize r.op % 30=r30 at q1 ha hp;obtain ⟨ro,rn,rk⟩:=r;have hle:((0:Nat):Int)≤0:=by omega
  simp only [Tm.op,Tm.n,Tm.kids,Ah] at ht q1 q2 ⊢;simp (maxSteps:=1000000) only [S16,EO,EC,EG,↓XX,XY,↓reduceIte,Nat.reduceBEq,Nat.reduceAdd,Int.reduceEq,Int.reduceLT,Int.reduceLE,↓Ag q1,↓Av ha,hp,↓Atn,↓Ag q2,↓hi5,Int.le_refl] at ht ⊢;exact ht
 ·rw [if_neg hp] at hop;subst hop;obtain ⟨ro,rn,rk⟩:=r;simp only [Tm.op,Tm.n,Tm.kids,Ah] at ht q1 q2 hp ha ⊢;by_cases hd0:d=0
  ·subst hd0;have hp2:¬ 0<AY (BC (1+ro % 30)):=fun h=>hp ⟨rfl,h⟩;simp (maxSteps:=1000000) only [S16,EO,EC,EG,↓XX,XY,↓reduceIte,Nat.reduceBEq,Nat.reduceAdd,Int.reduceEq,Int.reduceLT,Int.reduceLE,↓Ag q1,↓Av ha,hp2,Int.le_refl] at ht ⊢;exact ht
  ·have hle:¬ ((d:Int)≤0):=by omega
   simp (maxSteps:=1000000) only [S16,EO,EC,EG,↓XX,XY,↓reduceIte,Nat.reduceBEq,Nat.reduceAdd,Int.reduceEq,Int.reduceLT,Int.reduceLE,↓Ag q1,hle];exact ht
theorem ArK {K W:Nat} {T:Nat→Tm} (h:∀i,i<K→(T i).wt≤W):Tm.wtL ((List.range K).map T)≤K * W:=by
 induction K with
 | zero=>simp [Tm.wtL]
 | succ K ih =>
  have h1:=ih (fun i hi=>h i (by omega));have h2:=h K (by omega);have e:∀(l:List Tm) (x:Tm),Tm.wtL (l++[x])=Tm.wtL l+x.wt:=by
   intro l x
   induction l with
   | nil=>simp [Tm.wtL]
   | cons a l ih=>simp only [List.cons_append,Tm.wtL,ih];omega
  rw [List.range_succ,List.map_append,Ayo,Ayn,e,Nat.add_mul];omega
theorem Aaj {r:Tm} {op vars:Int} (h0:0≤vars) (h1:vars≤1000):GT op (G4 r op vars)=true:=by
 unfold GT G4;by_cases a:op=1
 ·rw [if_pos a,if_pos a,Az (by omega) (by omega)]
  have:=Int.emod_nonneg r.n (show vars+1≠0 by omega)
  have:=Int.emod_lt_of_pos r.n (show 0<vars+1 by omega)
  simp only [Bool.and_eq_true,decide_eq_true_eq];omega
 rw [if_neg a,if_neg a];by_cases b:op=2
 ·rw [if_pos b,if_pos b];simp only [Bool.and_eq_true,decide_eq_true_eq];omega
 rw [if_neg b,if_neg b];by_cases c:op=26
 ·rw [if_pos c,if_pos c];simp only [Bool.and_eq_true,decide_eq_true_eq];omega
 rw [if_neg c,if_neg c];by_cases d:op=25
 ·rw [if_pos d]
 rw [if_neg d,if_neg d];simp
theorem AcP:∀{l:List Tm},(∀t∈l,t.okn=true)→Tm.oknL l=true
 | [],_=>rfl
 | a::l,h=>by rw [Tm.oknL,h a (by simp),AcP fun t ht=>h t (by simp [ht])];rfl
theorem AhU {d:Nat}:∀{l:List Tm},(∀t∈l,t.dp≤d)→Tm.dpL l≤d
 | [],_=>by simp [Tm.dpL]
 | a::l,h=>by
  have h1:=h a (by simp);have h2:=AhU (l:=l) fun t ht=>h t (by simp [ht]);rw [Tm.dpL];omega
theorem AhF {op m:Int} {T:Nat→Tm} (hK:0≤AY op) (hm:GT op m=true) (h:∀i,i<(AY op).toNat→(T i).okn=true):(Tm.mk op m ((List.range (AY op).toNat).map T)).okn=true:=by
 rw [Tm.okn,hm,AcP (fun t ht=>?_)]
 ·simp only [List.length_map,List.length_range,Bool.and_self,Bool.and_true,decide_eq_true_eq];omega
 ·obtain ⟨i,hi,rfl⟩:=List.mem_map.1 ht;exact h i (List.mem_range.1 hi)
theorem AtJ {op m:Int} {T:Nat→Tm} {d K:Nat} (h:∀i,i<K→(T i).dp≤d):(Tm.mk op m ((List.range K).map T)).dp≤d+1:=by
 rw [Tm.dp]
 have:=AhU (d:=d) (l:=(List.range K).map T) fun t ht=>by
  obtain ⟨i,hi,rfl⟩:=List.mem_map.1 ht;exact h i (List.mem_range.1 hi)
 omega
theorem AdX {op:Int} (h:1≤op∧op≤30):0≤AY op:=Sv (P:=fun op=>1≤op→0≤AY op) (by
  intro k hk
  have:∀k:Fin 31,1≤(k.val:Int)→0≤AY (k.val:Int):=by decide
  exact this ⟨k,hk⟩) ⟨by omega,h.2⟩ h.1
theorem Anr:∀d,d≤100→AtC d:=by
 intro d
 induction d with
 | zero =>
  intro _ r vars h0 h1;have hk1:=Int.emod_nonneg r.op (show (30:Int)≠0 by decide)
  have hk2:=Int.emod_lt_of_pos r.op (show (0:Int)<30 by decide)
  have hj1:=Int.emod_nonneg r.op (show (5:Int)≠0 by decide)
  have hj2:=Int.emod_lt_of_pos r.op (show (0:Int)<5 by decide)
  obtain ⟨j,hj⟩:∃j:Nat,r.op % 5=j:=⟨(r.op % 5).toNat,by omega⟩;obtain ⟨x,hx,hx0⟩:∃x:Int,[(1:Int),11,25,15,10][j]?=some x∧(x=1∨x=11∨x=25∨x=15∨x=10):=by
   have:j=0∨j=1∨j=2∨j=3∨j=4:=by omega
   rcases this with rfl | rfl | rfl | rfl | rfl
   ·exact ⟨1,rfl,by simp⟩
   ·exact ⟨11,rfl,by simp⟩
   ·exact ⟨25,rfl,by simp⟩
   ·exact ⟨15,rfl,by simp⟩
   ·exact ⟨10,rfl,by simp⟩
  have hx1:AY x=0∧1≤x∧x≤30:=by rcases hx0 with rfl | rfl | rfl | rfl | rfl<;>decide
  obtain ⟨op,hop⟩:∃op:Int,op=if (0:Nat)=0∧0<AY (1+r.op % 30) then x else 1+r.op % 30:=⟨_,rfl⟩;have hop2:¬ 0<AY op∧1≤op∧op≤30:=by
   rw [hop];split
   ·omega
   ·rename_i h;exact ⟨fun h2=>h ⟨rfl,h2⟩,by omega,by omega⟩
  have hK:(AY op).toNat=0:=by omega
  refine ⟨.mk op (G4 r op vars) ((List.range (AY op).toNat).map fun _=>Tm.z),⟨200,fun n hn=>?_⟩,?_⟩
  ·obtain ⟨n,rfl⟩:∃k,n=k+1:=⟨n - 1,by omega⟩;exact O6 r 0 vars op ⟨h0,by omega⟩ (by omega) (by omega) ⟨j,x,hj,hx,hop⟩ hop2.2 (fun h=>absurd h hop2.1) _ (fun i hi=>absurd (show 0<AY op by omega) hop2.1)
  ·rw [hK];refine ⟨by simp [Tm.wt,Tm.wtL,mkW],?_,by simp [Tm.dp,Tm.dpL]⟩
   have:=AhF (op:=op) (m:=G4 r op vars) (T:=fun _=>Tm.z) (AdX hop2.2) (Aaj h0 (by omega)) (fun i hi=>by omega)
   rwa [hK] at this
 | succ d ih =>
  intro hd r vars h0 h1;have hk1:=Int.emod_nonneg r.op (show (30:Int)≠0 by decide)
  have hk2:=Int.emod_lt_of_pos r.op (show (0:Int)<30 by decide)
  have hj1:=Int.emod_nonneg r.op (show (5:Int)≠0 by decide)
  have hj2:=Int.emod_lt_of_pos r.op (show (0:Int)<5 by decide)
  obtain ⟨j,hj⟩:∃j:Nat,r.op % 5=j:=⟨(r.op % 5).toNat,by omega⟩;obtain ⟨x,hx⟩:∃x:Int,[(1:Int),11,25,15,10][j]?=some x:=⟨_,List.getElem?_eq_getElem (by simp;omega)⟩;obtain ⟨op,hop⟩:∃op:Int,op=1+r.op % 30:=⟨_,rfl⟩;have hop1:op=if d+1=0∧0<AY (1+r.op % 30) then x else 1+r.op % 30:=by rw [if_neg (by omega)];exact hop
  have hex:∀i:Nat,∃t:Tm,Ev 16 [.fv (r.kidT i).enc,iv d,iv (vars+Ao op i)] (Tm.enc t)∧t.wt≤mkW d∧t.okn=true∧t.dp≤d+1:=fun i=>by
   have:=BE op i
   exact ih (by omega) (r.kidT i) (vars+Ao op i) (by omega) (by omega)
  obtain ⟨T,hT⟩:=Classical.axiomOfChoice hex;obtain ⟨N,hN⟩:=ApW (P:=fun i n=>Bc (SS dt n 16 [.fv (r.kidT i).enc,iv d,iv (vars+Ao op i)] ⟨[],[]⟩) (Tm.enc (T i))) (AY op).toNat (fun i _=>(hT i).1);refine ⟨.mk op (G4 r op vars) ((List.range (AY op).toNat).map T),⟨N+200,fun n hn=>?_⟩,?_⟩
  ·obtain ⟨n,rfl⟩:∃k,n=k+1:=⟨n - 1,by omega⟩;exact O6 r (d+1) vars op ⟨h0,by omega⟩ (by omega) (by omega) ⟨j,x,hj,hx,hop1⟩ ⟨by omega,by omega⟩ (fun _=>by omega) T (fun i hi=>by
    have:=hN i (by omega) n (by omega)
    rw [show ((d+1:Nat):Int) - 1=d by omega]
    exact this)
  ·have h4:=Hj op
   have:=ArK (K:=(AY op).toNat) (W:=mkW d) (T:=T) (fun i _=>(hT i).2.1)
   have h5:(AY op).toNat * mkW d≤4 * mkW d:=Nat.mul_le_mul_right _ (by omega);refine ⟨by simp only [Tm.wt,mkW];omega,AhF (AdX ⟨by omega,by omega⟩) (Aaj h0 (by omega)) (fun i _=>(hT i).2.2.1),AtJ fun i _=>(hT i).2.2.2⟩
theorem AgE {m:Nat} {g:List Tm} {c P:Tm} (h:OT m g c P) (hm:m≤100) (hc:(c.chk 0 1).2=0):c.infer g=(P,0):=by
 unfold Tm.infer;rw [if_pos hc,AoC h hm];rfl
theorem O0 {n:Nat} (g:List Tm) (a:Tm) (hg:g.length≤900000) (hn:0<n):Bc (SS dt n 78 [.fv (.sl (g.map Tm.enc)),.fv a.enc] ⟨[],[]⟩) (.sl ((g++[a]).map Tm.enc)):=by
 obtain ⟨n,rfl⟩:∃k,n=k+1:=⟨n - 1,by omega⟩;rw [c78];rw [List.map_append,Ayo,Ayn];cases g with
 | nil =>
  have h0:=fun {β:Type}=>Afw (β:=β) (E:=EE) sTm (.sl []) (s0:=.clip []) (.inr rfl);have happ:=fun {β:Type}=>Gj (β:=β) sTm (.clip [a.enc]) (Ca [a]) rfl (by simp) (s0:=.clip []) (.inr rfl);obtain ⟨o,p,k⟩:=a;rw [Ah] at happ ⊢;simp only [Xd,S78,↓XX,XY,↓reduceIte,Nat.reduceBEq,Nat.reduceAdd,Int.reduceEq,Int.reduceLT,Int.reduceLE,↓AgJ,↓h0,↓Cl,↓happ];exact A1 rfl _
 | cons t g =>
  have h0:=fun {β:Type}=>Gj (β:=β) sTm (.sl ((t::g).map Tm.enc)) (Ca (t::g)) rfl (by simp at hg ⊢;omega) (s0:=.clip []) (.inr rfl);have happ:=fun (s r:Nat) (own:List (Nat×Blk)) (ext:List Blk) (k:IV→Hp→List Ref→List Ref→Option (IV×Hp))=>JG (es:=t::g) (by omega) a r s own ext k;obtain ⟨o,p,k⟩:=a;simp only [Ayo,List.map_append,Ayn,List.cons_append,List.length_map,Aym] at h0 happ ⊢;rw [Ah] at happ ⊢;simp only [Xd,S78,↓XX,XY,↓reduceIte,Nat.reduceBEq,Nat.reduceAdd,Int.reduceEq,Int.reduceLT,Int.reduceLE,↓AgJ,↓h0,↓Cl,↓happ,FQ];exact A1 rfl _
mutual
def Tm.rty:Tm→Bool
 | .mk op _ l=>(decide (op=15) || (decide (op=16) || decide (op=17))) && Tm.rtyL l
def Tm.rtyL:List Tm→Bool
 | []=>true
 | t::l=>t.rty && Tm.rtyL l
end
mutual
theorem KG:∀t:Tm,t.shp→t.rty=t.typed
 | .mk op m l,h=>by
  rw [Tm.shp] at h;obtain ⟨h1,h2,h3⟩:=h;have hl:=rtyL_typed l h3;rw [Tm.rty];by_cases h15:op=15
  ·subst h15
   have:=AgI h1
   subst this;simp [Tm.typed,Tm.rtyL]
  ·by_cases h16:op=16∨op=17
   ·have hk2:AY op=2:=by rcases h16 with rfl | rfl<;>rfl
    obtain ⟨a,b,rfl⟩:=Nd (h1.trans hk2);have ha:=hl a (by simp);have hb:=hl b (by simp);simp only [Tm.rtyL,Tm.typed,ha,hb,Bool.and_true,h15,decide_false,Bool.false_or]
   ·have:(Tm.mk op m l).typed=false:=by
     match l with
     | []=>simp [Tm.typed,h15]
     | [_]=>exact KL ..
     | [_,_]=>simp [Tm.typed];omega
     | x::y::z::l=>exact Ko ..
    rw [this];simp only [Bool.and_eq_false_iff,Bool.or_eq_false_iff,decide_eq_false_iff_not];left;omega
theorem rtyL_typed:∀l:List Tm,Tm.shpL l→∀x∈l,x.rty=x.typed
 | [],_,x,hx=>by cases hx
 | t::l,h,x,hx=>by
  rcases List.mem_cons.1 hx with e | hx
  ·rw [e];exact KG t h.1
  ·exact rtyL_typed l h.2 x hx
end
theorem Uk:∀(n:Nat) (t:Tm),t.wt<n→t.wt≤1000000000→Bc (SS dt n 21 [.fv t.enc] ⟨[],[]⟩) (.bool t.rty):=by
 intro n
 induction n with
 | zero=>intro t h;omega
 | succ n ih =>
  intro t hn hw;obtain ⟨op,m,ks⟩:=t;simp only [Tm.wt] at hn hw;rw [c21,Ah,Tm.rty];have hlen:=DL ks;by_cases h:op=15∨op=16∨op=17
  ·have e:(decide (op=15) || (decide (op=16) || decide (op=17)))=true:=by
    simpa using h
   rw [e,Bool.true_and];have hl:Bc (Bh n (fun q l h=>Kh l h (SS dt n) q) [.ptr (.own 22020096) 0,iv 0] ⟨[(22020096,.row [iv op,iv m,.fv (.sl (ks.map Tm.enc))] false)],[]⟩) (.bool (Tm.rtyL ks)):=by
    refine A2 (Q:=fun r=>Bc r _) (fun k V H=>∃pre rest,ks=pre++rest∧rest.length=k∧V=[.ptr (.own 22020096) 0,iv pre.length]∧H=⟨[(22020096,.row [iv op,iv m,.fv (.sl (ks.map Tm.enc))] false)],[]⟩∧Tm.rtyL rest=Tm.rtyL ks)
     ?_ n ks.length _ _ (by omega) ⟨[],ks,rfl,rfl,rfl,rfl,rfl⟩
    rintro k V H rec ⟨pre,rest,hk,hkl,rfl,rfl,hr⟩ hrec;have hkk:ks.length=pre.length+rest.length:=by rw [hk];simp
    cases rest with
    | nil =>
     have hno:¬ ((pre.length:Int)<ks.length):=by rw [hkk];simp
     rw [← hr];simp only [GV,G7,Hm,Kh,Hq,Hb,S21,↓XX,XY,↓reduceIte,Nat.reduceBEq,Nat.reduceAdd,Int.reduceEq,Int.reduceLT,Int.reduceLE,hno,Tm.rtyL];exact An _ _
    | cons t rest =>
     have hi:(pre.length:Int)<ks.length:=by rw [hkk];simp;omega
     have hg:=B7 hk;have htw:=CO (t:=t) (l:=ks) (by rw [hk];simp);have hc:=ih t (by omega) (by omega);have hwi:BC ((pre.length:Int)+1)=((pre++[t]).length:Int):=(Az (by omega) (by omega)).trans (by simp);have h9:=fun e=>hrec rest.length [.ptr (.own 22020096) 0,iv (pre++[t]).length] _ (by simp only [Aym] at hkl;omega) ⟨pre++[t],rest,by rw [hk];simp,rfl,rfl,rfl,e⟩;rw [Tm.rtyL] at hr;generalize t.rty=b at hc hr;cases b
     ·rw [Bool.false_and] at hr;rw [← hr];obtain ⟨o,p,l⟩:=t;rw [Ah] at hc;simp only [GV,G7,Hm,Kh,Hq,Hb,S21,↓XX,XY,↓reduceIte,Nat.reduceBEq,Nat.reduceAdd,Int.reduceEq,Int.reduceLT,Int.reduceLE,hi,↓Bn (AJ hg) (A0 _ _ _),↓BQ,↓Av hc];exact An _ _
     ·rw [Bool.true_and] at hr;have h9:=h9 hr;obtain ⟨o,p,l⟩:=t;rw [Ah] at hc;simp only [GV,G7,Hm,Kh,Hq,Hb,S21,↓XX,XY,↓reduceIte,Nat.reduceBEq,Nat.reduceAdd,Int.reduceEq,Int.reduceLT,Int.reduceLE,hi,↓Bn (AJ hg) (A0 _ _ _),↓BQ,↓Av hc,hwi];exact h9
   by_cases h1:op=15
   ·simp only [GV,G7,Hm,Hq,Hb,S21,↓XX,XY,↓reduceIte,Nat.reduceBEq,Nat.reduceAdd,Int.reduceEq,Int.reduceLT,Int.reduceLE,h1];simp only [h1] at hl;exact hl
   ·by_cases h2:op=16
    ·simp only [GV,G7,Hm,Hq,Hb,S21,↓XX,XY,↓reduceIte,Nat.reduceBEq,Nat.reduceAdd,Int.reduceEq,Int.reduceLT,Int.reduceLE,h1,h2];simp only [h2] at hl;exact hl
    ·have h3:op=17:=by omega
     simp only [GV,G7,Hm,Hq,Hb,S21,↓XX,XY,↓reduceIte,Nat.reduceBEq,Nat.reduceAdd,Int.reduceEq,Int.reduceLT,Int.reduceLE,h1,h2,h3];simp only [h3] at hl;exact hl
  ·have h1:op≠15:=by omega
   have h2:op≠16:=by omega
   have h3:op≠17:=by omega
   simp only [GV,G7,Hm,Kh,Hq,Hb,S21,↓XX,XY,↓reduceIte,Nat.reduceBEq,Nat.reduceAdd,Int.reduceEq,Int.reduceLT,Int.reduceLE,h1,h2,h3,Bool.or_false];exact An _ _
theorem T9 {n:Nat} (a:Tm) (e:Int) (hn:0<n) (hn:e=0→2 * a.wt+4<n):Bc (SS dt n 79 [.fv a.enc,iv e] ⟨[],[]⟩) (.tuple [a.enc,.int .i64 (if e=0 then (a.chk 0 1).2 else e)]):=by
 obtain ⟨n,rfl⟩:∃k,n=k+1:=⟨n - 1,by omega⟩;rw [c79];by_cases he:e=0
 ·have h:=Mb (n:=n) a (by have:=hn he;omega);generalize (a.chk 0 1).2=c at h ⊢;obtain ⟨o,p,k⟩:=a;rw [Ah] at h ⊢;simp only [Xp,Wn,S79,↓XX,XY,↓reduceIte,Nat.reduceBEq,Nat.reduceAdd,Int.reduceEq,Int.reduceLT,Int.reduceLE,he,↓Av h];first | exact An _ _ | exact Aw rfl (by simp) _
 ·obtain ⟨o,p,k⟩:=a;rw [Ah];simp only [Xp,Wn,S79,↓XX,XY,↓reduceIte,Nat.reduceBEq,Nat.reduceAdd,Int.reduceEq,Int.reduceLT,Int.reduceLE,he];first | exact An _ _ | exact Aw rfl (by simp) _
theorem AkE {n:Nat} {g:List Tm} {t a:Tm} {q:Int×Tm} (h:G5 (SS dt n 19 [.fv (.sl (g.map Tm.enc)),.fv t.enc] ⟨[],[]⟩) q) (hw:a.wt+1<n) (ha:a.wt≤100000000) :
  Bc (SS dt (n+1) 77 [.fv (.sl (g.map Tm.enc)),.fv t.enc,.fv a.enc] ⟨[],[]⟩) (.int .i64 (CM q a)):=by
 obtain ⟨u,hu,he⟩:=h;obtain ⟨e,r⟩:=q;simp only at hu he;rw [c77];have hs:=IE n a u hw (by omega);unfold CM;simp only;by_cases h0:e=0
 ·have hur:=he h0;subst hur h0;rw [if_pos rfl];generalize a.same u=b at hs ⊢;obtain ⟨o1,n1,k1⟩:=t;obtain ⟨o2,n2,k2⟩:=a;obtain ⟨o3,n3,k3⟩:=u;simp only [Ah] at hu hs ⊢;cases b
  ·simp only [QJ,Qa,S77,↓XX,XY,↓reduceIte,Nat.reduceBEq,Nat.reduceAdd,Int.reduceEq,Int.reduceLT,Int.reduceLE,↓Ag hu,↓Ag hs];exact An _ _
  ·simp only [QJ,Qa,S77,↓XX,XY,↓reduceIte,Nat.reduceBEq,Nat.reduceAdd,Int.reduceEq,Int.reduceLT,Int.reduceLE,↓Ag hu,↓Ag hs];exact An _ _
 ·rw [if_neg h0];obtain ⟨o1,n1,k1⟩:=t;obtain ⟨o2,n2,k2⟩:=a;obtain ⟨o3,n3,k3⟩:=u;simp only [Ah] at hu hs ⊢;simp only [QJ,Qa,S77,↓XX,XY,↓reduceIte,Nat.reduceBEq,Nat.reduceAdd,Int.reduceEq,Int.reduceLT,Int.reduceLE,↓Ag hu,h0];exact An _ _
theorem OD {n:Nat} {g:List Tm} {t:Tm} {q:Int×Tm} (h:G5 (SS dt n 55 [.fv (.sl (g.map Tm.enc)),.fv t.enc] ⟨[],[]⟩) q) :
  Bc (SS dt (n+1) 19 [.fv (.sl (g.map Tm.enc)),.fv t.enc] ⟨[],[]⟩) (.tuple [(if q.1=0 then q.2 else .z).enc,.int .i64 q.1]):=by
 obtain ⟨u,hu,he⟩:=h;obtain ⟨e,r⟩:=q;simp only at hu he ⊢;rw [c19];by_cases h0:e=0
 ·have hur:=he h0;subst hur h0;rw [if_pos rfl];obtain ⟨o1,n1,k1⟩:=t;obtain ⟨o3,n3,k3⟩:=u;simp only [Ah] at hu ⊢;simp only [WV,WC,WX,S19,↓XX,XY,↓reduceIte,Nat.reduceBEq,Nat.reduceAdd,Int.reduceEq,Int.reduceLT,Int.reduceLE,↓Ag hu];first | exact An _ _ | exact Aw rfl (by simp) _
 ·rw [if_neg h0];obtain ⟨o1,n1,k1⟩:=t;obtain ⟨o3,n3,k3⟩:=u;simp only [Ah] at hu ⊢;simp only [WV,WC,WX,S19,↓XX,XY,↓reduceIte,Nat.reduceBEq,Nat.reduceAdd,Int.reduceEq,Int.reduceLT,Int.reduceLE,↓Ag hu,h0,Tm.z,Ah];first | exact An _ _ | exact Aw rfl (by simp) _
set_option maxRecDepth 20000 in
set_option maxHeartbeats 2000000 in
theorem Ajf (M:Nat) (hM:3000≤M) (hM2:M≤1000000):∀(n:Nat) (t:Tm) (g:List Tm),t.shp→t.wt≤M→(∀x∈g,x.typed=true∧x.wt≤M)→g.length+t.wt≤900000→4 * t.wt+6 * M+60<n →
  G5 (SS dt n 55 [.fv (.sl (g.map Tm.enc)),.fv t.enc] ⟨[],[]⟩) (t.inf g):=by
 intro n
 induction n using Nat.strongRecOn with
 | ind n ih =>
  intro t g hs hw hg hl hn;obtain ⟨n,rfl⟩:∃k,n=k+1:=⟨n - 1,by omega⟩;obtain ⟨op,m,l⟩:=t;have hs0:=hs;rw [Tm.shp] at hs;obtain ⟨hk,hv,hsl⟩:=hs;simp only [Tm.wt] at hw hl hn;have hof:=Df (n:=n) (by omega) 15;rw [Ah,Ayn] at hof;have hti:=fun (k:Nat)=>HX M hM k;have hgx:∀a:Tm,a.typed=true∧a.wt≤M→∀x∈g++[a],x.typed=true∧x.wt≤M:=by
   intro a ha x hx;rcases List.mem_append.1 hx with h | h
   ·exact hg x h
   ·rw [List.mem_singleton.1 h];exact ha
  have hI:∀(c:Tm) (g':List Tm) (k:Nat),k+1≤n→c.shp→c.wt≤M→(∀x∈g',x.typed=true∧x.wt≤M)→g'.length+c.wt≤900000→4 * c.wt+6 * M+60<k →
    Bc (SS dt (k+1) 19 [.fv (.sl (g'.map Tm.enc)),.fv c.enc] ⟨[],[]⟩) (.tuple [(if (c.inf g').1=0 then (c.inf g').2 else .z).enc,.int .i64 (c.inf g').1]) :=
   fun c g' k hk h1 h2 h3 h4 h5=>OD (ih k (by omega) c g' h1 h2 h3 h4 h5)
  have hck:∀(c a:Tm) (g':List Tm) (k:Nat),k+2≤n→c.shp→c.wt≤M→(∀x∈g',x.typed=true∧x.wt≤M)→g'.length+c.wt≤900000→4 * c.wt+6 * M+60<k→a.wt≤M →
    Bc (SS dt (k+2) 77 [.fv (.sl (g'.map Tm.enc)),.fv c.enc,.fv a.enc] ⟨[],[]⟩) (.int .i64 (CM (c.inf g') a)) :=
   fun c a g' k hk h1 h2 h3 h4 h5 h6=>AkE ⟨_,hI c g' k (by omega) h1 h2 h3 h4 h5,fun h0=>by rw [if_pos h0]⟩ (by omega) (by omega)
  show G5 _ _
  rw [c55];obtain ⟨k,rfl⟩:∃k,n=k+1+1:=⟨n - 2,by omega⟩;have htw:tI.wt≤M:=by simp [tI,Tm.wt,Tm.wtL];omega
  by_cases o1:op=1
  ·subst o1
   have:=AgI hk
   subst this;have hm:=hv rfl;rw [Tm.inf,if_pos rfl,Ah];by_cases h2:(g.length:Int)≤m
   ·rw [if_pos h2];refine CT (u:=tI) ?_ (by decide);simp only [↓EJ,↓XX,XY,↓reduceIte,Nat.reduceBEq,Nat.reduceAdd,Int.reduceEq,Int.reduceLT,Int.reduceLE,↓Ag hof,h2,tI,Ah];first | exact An _ _ | exact Aw rfl (by simp) _
   ·rw [if_neg h2];have hlt:g.length - 1 - m.toNat<g.length:=by omega
    have hget:g[g.length - 1 - m.toNat]?=some (g.getD (g.length - 1 - m.toNat) .z):=by
     rw [List.getD_eq_getElem?_getD,List.getElem?_eq_getElem hlt];rfl
    have w1:BC ((g.length:Int) - 1)=(g.length:Int) - 1:=by rw [Az]<;>omega
    have w2:BC ((g.length:Int) - 1 - m)=((g.length - 1 - m.toNat:Nat):Int):=by rw [Az (by omega) (by omega)];omega
    refine I2 ?_;generalize g.getD (g.length - 1 - m.toNat) .z=x at hget ⊢;obtain ⟨o,p,k⟩:=x;simp only [↓EJ,↓XX,XY,↓reduceIte,Nat.reduceBEq,Nat.reduceAdd,Int.reduceEq,Int.reduceLT,Int.reduceLE,↓Ag hof,h2,w1,w2,↓Bn (AJ hget) (A0 _ _ _),↓BQ,Ah];first | exact An _ _ | exact Aw rfl (by simp) _
  by_cases o2:op=25
  ·subst o2
   have:=AgI hk
   subst this;rw [Tm.inf,if_neg (by decide),if_pos rfl,Ah];refine I2 ?_;simp only [↓EJ,↓XX,XY,↓reduceIte,Nat.reduceBEq,Nat.reduceAdd,Int.reduceEq,Int.reduceLT,Int.reduceLE,↓Ag hof,tI,Ah];first | exact An _ _ | exact Aw rfl (by simp) _
  by_cases o3:op=26
  ·subst o3;obtain ⟨a,b,rfl⟩:=Nd hk;simp only [Tm.wtL] at hw hl hn;have ha:=hck a tI g k (by omega) hsl.1 (by omega) hg (by omega) (by omega) htw;have hb:=hck b tI g k (by omega) hsl.2.1 (by omega) hg (by omega) (by omega) htw;rw [Tm.inf,if_pos rfl];generalize CM (a.inf g) tI=x at ha ⊢;generalize CM (b.inf g) tI=y at hb ⊢;by_cases h:x=0
   ·rw [if_pos h];refine I2 ?_;subst h;obtain ⟨o1,n1,k1⟩:=a;obtain ⟨o2,n2,k2⟩:=b;simp only [Ah,tI,Ayo,Ayn] at ha hb ⊢;simp only [↓EJ,↓XX,XY,↓reduceIte,Nat.reduceBEq,Nat.reduceAdd,Int.reduceEq,Int.reduceLT,Int.reduceLE,↓Ag hof,↓Bx,↓BJ,↓AL ha,↓AL hb];first | exact An _ _ | exact Aw rfl (by simp) _
   ·rw [if_neg h];refine CT (u:=tI) ?_ h;obtain ⟨o1,n1,k1⟩:=a;obtain ⟨o2,n2,k2⟩:=b;simp only [Ah,tI,Ayo,Ayn] at ha hb ⊢;simp only [↓EJ,↓XX,XY,↓reduceIte,Nat.reduceBEq,Nat.reduceAdd,Int.reduceEq,Int.reduceLT,Int.reduceLE,↓Ag hof,↓Bx,↓BJ,↓AL ha,h];first | exact An _ _ | exact Aw rfl (by simp) _
  by_cases o4:op=20∨op=29
  ·have hk2:AY op=2:=by rcases o4 with rfl | rfl<;>rfl
   obtain ⟨a,b,rfl⟩:=Nd (hk.trans hk2);simp only [Tm.wtL] at hw hl hn;have hpb:=Du b;have hty:=Uk (k+1+1) a (by omega) (by omega);rw [KG a hsl.1] at hty;have hpl:=O0 (n:=k+1+1) g a (by omega) (by omega);cases hta:a.typed
   ·rw [hta] at hty
    have:(Tm.mk op m [a,b]).inf g=(10,.z):=by rcases o4 with rfl | rfl<;>simp [Tm.inf,hta]
    rw [this];refine CT (u:=tI) ?_ (by decide);obtain ⟨o1,n1,k1⟩:=a;obtain ⟨o2,n2,k2⟩:=b;simp only [Ah,tI,Ayo,Ayn] at hty ⊢;rcases o4 with rfl | rfl<;>(simp only [↓EJ,↓XX,XY,↓reduceIte,Nat.reduceBEq,Nat.reduceAdd,Int.reduceEq,Int.reduceLT,Int.reduceLE,↓Ag hof,↓Bx,↓BJ,↓Av hty];first | exact An _ _ | exact Aw rfl (by simp) _)
   ·rw [hta] at hty;rcases o4 with rfl | rfl
    ·have hb:=hI b (g++[a]) (k+1) (by omega) hsl.2.1 (by omega) (hgx a ⟨hta,by omega⟩) (by simp;omega) (by omega);have htb:=hti _ b (g++[a]) (Nat.lt_succ_self _) (by omega) (hgx a ⟨hta,by omega⟩) hsl.2.1;rw [Tm.inf];simp only [hta,if_true,Int.reduceEq,if_false,GP];generalize b.inf (g++[a])=q at hb htb ⊢;obtain ⟨e,r⟩:=q;simp only at hb htb ⊢;generalize hu:(if e=0 then r else Tm.z)=u at hb;have hof2:=C0 (n:=k+1+1) (by omega) 16 [a,u];have hm:=T9 (n:=k+1+1) (.mk 16 0 [a,u]) e (by omega) (fun h=>by rw [if_pos h] at hu;subst hu;have:=(htb h).2;simp only [Tm.wt,Tm.wtL];omega);refine ⟨.mk 16 0 [a,u],?_,fun h0=>?_⟩
     ·have e1:(if e=0 then (((Tm.mk 16 0 [a,r]).chk 0 1).2,Tm.mk 16 0 [a,r]) else (e,.z)).1=(if e=0 then ((Tm.mk 16 0 [a,u]).chk 0 1).2 else e):=by
       by_cases h:e=0
       ·rw [if_pos h] at hu;rw [if_pos h,if_pos h,hu]
       ·rw [if_neg h,if_neg h]
      rw [e1];generalize (if e=0 then ((Tm.mk 16 0 [a,u]).chk 0 1).2 else e)=w at hm ⊢;clear hu e1 htb;obtain ⟨o1,n1,k1⟩:=a;obtain ⟨o2,n2,k2⟩:=b;obtain ⟨o3,n3,k3⟩:=u;simp only [Ah,Ayo,Ayn,List.map_append] at hty hpl hb hof2 hm ⊢;simp only [↓EJ,↓XX,XY,↓reduceIte,Nat.reduceBEq,Nat.reduceAdd,Int.reduceEq,Int.reduceLT,Int.reduceLE,↓Ag hof,↓Bx,↓BJ,↓Av hty,↓Ag hpl,↓Ag hb,↓Ct,↓Ag hof2,↓Ag hm];first | exact An _ _ | exact Aw rfl (by simp) _
     ·by_cases h:e=0
      ·rw [if_pos h] at hu;rw [if_pos h,hu]
      ·rw [if_neg h] at h0;exact absurd h0 h
    ·have hc:=hck b a (g++[a]) k (by omega) hsl.2.1 (by omega) (hgx a ⟨hta,by omega⟩) (by simp;omega) (by omega) (by omega);rw [Tm.inf];simp only [hta,if_true,Int.reduceEq,if_false];refine I2 ?_;generalize CM (b.inf (g++[a])) a=w at hc ⊢;obtain ⟨o1,n1,k1⟩:=a;obtain ⟨o2,n2,k2⟩:=b;simp only [Ah,Ayo,Ayn,List.map_append] at hty hpl hc ⊢;simp only [↓EJ,↓XX,XY,↓reduceIte,Nat.reduceBEq,Nat.reduceAdd,Int.reduceEq,Int.reduceLT,Int.reduceLE,↓Ag hof,↓Bx,↓BJ,↓Av hty,↓Ag hpl,↓AL hc];first | exact An _ _ | exact Aw rfl (by simp) _
  have o7:op≠20:=fun h=>o4 (.inl h);have o8:op≠29:=fun h=>o4 (.inr h);by_cases o5:op=28
  ·subst o5;obtain ⟨a,b,rfl⟩:=Nd hk;simp only [Tm.wtL] at hw hl hn;have hpa:=Du a;have hpb:=Du b;have hta:=hti _ a g (Nat.lt_succ_self _) (by omega) hg hsl.1;have hu:=hI a g (k+1) (by omega) hsl.1 (by omega) hg (by omega) (by omega);rw [Tm.inf,if_neg (by decide),if_neg (by decide),if_neg (by decide),if_pos rfl];generalize a.inf g=q at hu hta ⊢;obtain ⟨e,u⟩:=q;simp only at hu hta ⊢;by_cases h:e=0
   ·subst h;rw [if_pos rfl] at hu ⊢;have hwi:=O0 (n:=k+1+1) g u (by omega) (by omega);have hv2:=hI b (g++[u]) (k+1) (by omega) hsl.2.1 (by omega) (hgx u (hta rfl)) (by simp;omega) (by omega);refine ⟨if (b.inf (g++[u])).1=0 then (b.inf (g++[u])).2 else .z,?_,fun h0=>if_pos h0⟩;generalize b.inf (g++[u])=q at hv2 ⊢;generalize (if q.1=0 then q.2 else Tm.z)=v at hv2 ⊢;obtain ⟨o1,n1,k1⟩:=a;obtain ⟨o2,n2,k2⟩:=b;obtain ⟨o3,n3,k3⟩:=u;obtain ⟨o4,n4,k4⟩:=v;simp only [Ah,Ayo,Ayn,List.map_append] at hu hv2 hwi ⊢;simp only [↓EJ,↓XX,XY,↓reduceIte,Nat.reduceBEq,Nat.reduceAdd,Int.reduceEq,Int.reduceLT,Int.reduceLE,↓Ag hof,↓Bx,↓BJ,↓Ag hu,↓Ag hwi,↓Ag hv2];first | exact An _ _ | exact Aw rfl (by simp) _
   ·rw [if_neg h] at hu ⊢;refine CT (u:=.z) ?_ h;obtain ⟨o1,n1,k1⟩:=a;obtain ⟨o2,n2,k2⟩:=b;simp only [Tm.z,Ah,Ayo,Ayn] at hu ⊢;simp only [↓EJ,↓XX,XY,↓reduceIte,Nat.reduceBEq,Nat.reduceAdd,Int.reduceEq,Int.reduceLT,Int.reduceLE,↓Ag hof,↓Bx,↓BJ,↓Ag hu,h];first | exact An _ _ | exact Aw rfl (by simp) _
  by_cases o6:op=27
  ·subst o6;obtain ⟨a,b,c,rfl⟩:=Ati hk;simp only [Tm.wtL] at hw hl hn;have ha:=hck a tI g k (by omega) hsl.1 (by omega) hg (by omega) (by omega) htw;rw [Tm.inf,if_pos rfl];generalize CM (a.inf g) tI=x at ha ⊢;by_cases h:x=0
   ·subst h;rw [if_pos rfl];have hu:=hI b g (k+1) (by omega) hsl.2.1 (by omega) hg (by omega) (by omega);have htb:=hti _ b g (Nat.lt_succ_self _) (by omega) hg hsl.2.1;have hc:=fun (y:Tm) (hy:y.wt≤M)=>hck c y g k (by omega) hsl.2.2.1 (by omega) hg (by omega) (by omega) hy;generalize b.inf g=q at hu htb ⊢;obtain ⟨e,u⟩:=q;simp only at hu htb ⊢;by_cases h:e=0
    ·subst h;rw [if_pos rfl] at hu ⊢;have hc:=hc u (htb rfl).2;refine I2 ?_;generalize CM (c.inf g) u=w at hc ⊢;obtain ⟨o1,n1,k1⟩:=a;obtain ⟨o2,n2,k2⟩:=b;obtain ⟨o3,n3,k3⟩:=c;obtain ⟨o4,n4,k4⟩:=u;simp only [Ah,tI,Ayo,Ayn] at ha hu hc ⊢;simp only [↓EJ,↓XX,XY,↓reduceIte,Nat.reduceBEq,Nat.reduceAdd,Int.reduceEq,Int.reduceLT,Int.reduceLE,↓Ag hof,↓Bx,↓BJ,↓GS,↓AL ha,↓Ag hu,↓AL hc];first | exact An _ _ | exact Aw rfl (by simp) _
    ·rw [if_neg h] at hu ⊢;refine CT (u:=.z) ?_ h;obtain ⟨o1,n1,k1⟩:=a;obtain ⟨o2,n2,k2⟩:=b;obtain ⟨o3,n3,k3⟩:=c;simp only [Ah,tI,Tm.z,Ayo,Ayn] at ha hu ⊢;simp only [↓EJ,↓XX,XY,↓reduceIte,Nat.reduceBEq,Nat.reduceAdd,Int.reduceEq,Int.reduceLT,Int.reduceLE,↓Ag hof,↓Bx,↓BJ,↓GS,↓AL ha,↓Ag hu,h];first | exact An _ _ | exact Aw rfl (by simp) _
   ·rw [if_neg h];refine CT (u:=tI) ?_ h;obtain ⟨o1,n1,k1⟩:=a;obtain ⟨o2,n2,k2⟩:=b;obtain ⟨o3,n3,k3⟩:=c;simp only [Ah,tI,Ayo,Ayn] at ha ⊢;simp only [↓EJ,↓XX,XY,↓reduceIte,Nat.reduceBEq,Nat.reduceAdd,Int.reduceEq,Int.reduceLT,Int.reduceLE,↓Ag hof,↓Bx,↓BJ,↓GS,↓AL ha,h];first | exact An _ _ | exact Aw rfl (by simp) _
  by_cases p3:op=22
  ·subst p3;obtain ⟨a,b,rfl⟩:=Nd hk;simp only [Tm.wtL] at hw hl hn;have hpa:=Du a;have hpb:=Du b;have hta:=hti _ a g (Nat.lt_succ_self _) (by omega) hg hsl.1;have htb:=hti _ b g (Nat.lt_succ_self _) (by omega) hg hsl.2.1;have hu:=hI a g (k+1) (by omega) hsl.1 (by omega) hg (by omega) (by omega);have hb:=hI b g (k+1) (by omega) hsl.2.1 (by omega) hg (by omega) (by omega);rw [Tm.inf];simp only [Int.reduceEq,if_false,if_true];generalize a.inf g=q at hu hta ⊢;obtain ⟨e,u⟩:=q;simp only at hu hta ⊢;by_cases h:e=0
   ·subst h;rw [if_pos rfl] at hu ⊢;unfold GP;generalize b.inf g=q at hb htb ⊢;obtain ⟨e,r⟩:=q;simp only at hb htb ⊢;generalize hv:(if e=0 then r else Tm.z)=v at hb;have hof2:=C0 (n:=k+1+1) (by omega) 17 [u,v];have hm:=T9 (n:=k+1+1) (.mk 17 0 [u,v]) e (by omega) (fun h=>by rw [if_pos h] at hv;subst hv;have:=(htb h).2;have:=(hta rfl).2;simp only [Tm.wt,Tm.wtL];omega);refine ⟨.mk 17 0 [u,v],?_,fun h0=>?_⟩
    ·have e1:(if e=0 then (((Tm.mk 17 0 [u,r]).chk 0 1).2,Tm.mk 17 0 [u,r]) else (e,.z)).1=(if e=0 then ((Tm.mk 17 0 [u,v]).chk 0 1).2 else e):=by
      by_cases h:e=0
      ·rw [if_pos h] at hv;rw [if_pos h,if_pos h,hv]
      ·rw [if_neg h,if_neg h]
     rw [e1];generalize (if e=0 then ((Tm.mk 17 0 [u,v]).chk 0 1).2 else e)=w at hm ⊢;clear hv e1 htb hta;obtain ⟨o1,n1,k1⟩:=a;obtain ⟨o2,n2,k2⟩:=b;obtain ⟨o3,n3,k3⟩:=u;obtain ⟨o4,n4,k4⟩:=v;simp only [Ah,Ayo,Ayn] at hu hb hof2 hm ⊢;simp only [↓EJ,↓XX,XY,↓reduceIte,Nat.reduceBEq,Nat.reduceAdd,Int.reduceEq,Int.reduceLT,Int.reduceLE,↓Ag hof,↓Bx,↓BJ,↓Ag hu,↓Ag hb,↓Ct,↓Ag hof2,↓Ag hm];first | exact An _ _ | exact Aw rfl (by simp) _
    ·by_cases h:e=0
     ·rw [if_pos h] at hv;rw [if_pos h,hv]
     ·rw [if_neg h] at h0;exact absurd h0 h
   ·rw [if_neg h] at hu ⊢;refine CT (u:=.z) ?_ h;obtain ⟨o1,n1,k1⟩:=a;obtain ⟨o2,n2,k2⟩:=b;simp only [Ah,Tm.z,Ayo,Ayn] at hu ⊢;simp only [↓EJ,↓XX,XY,↓reduceIte,Nat.reduceBEq,Nat.reduceAdd,Int.reduceEq,Int.reduceLT,Int.reduceLE,↓Ag hof,↓Bx,↓BJ,↓Ag hu,h];first | exact An _ _ | exact Aw rfl (by simp) _
  by_cases p2:op=21
  ·subst p2;obtain ⟨a,b,rfl⟩:=Nd hk;simp only [Tm.wtL] at hw hl hn;have hta:=hti _ a g (Nat.lt_succ_self _) (by omega) hg hsl.1;have hu:=hI a g (k+1) (by omega) hsl.1 (by omega) hg (by omega) (by omega);have hc:=fun (y:Tm) (hy:y.wt≤M)=>hck b y g k (by omega) hsl.2.1 (by omega) hg (by omega) (by omega) hy;rw [Tm.inf];simp only [Int.reduceEq,if_false,if_true];generalize a.inf g=q at hu hta ⊢;obtain ⟨e,u⟩:=q;simp only at hu hta ⊢;by_cases h:e=0
   ·subst h;rw [if_pos rfl] at hu ⊢;by_cases h2:u.op=16
    ·rw [if_pos h2];obtain ⟨x,y,hxy⟩:=Gi (.inl rfl) (hta rfl).1 h2;have hc:=hc (u.kid 0) (by have:=Adb hxy;have:=(hta rfl).2;omega);obtain ⟨o3,n3,k3⟩:=u;simp only [Tm.kids,Tm.op] at hxy h2;subst hxy h2;have e0:(Tm.mk 16 n3 [x,y]).kid 0=x:=rfl;have e1:(Tm.mk 16 n3 [x,y]).kid 1=y:=rfl;rw [e0] at hc ⊢;rw [e1];by_cases h3:CM (b.inf g) x=0
     ·rw [h3] at hc ⊢;refine I2 ?_;obtain ⟨o1,n1,k1⟩:=a;obtain ⟨o2,n2,k2⟩:=b;obtain ⟨o3,n3,k3⟩:=x;obtain ⟨o4,n4,k4⟩:=y;simp only [Ah,Ayo,Ayn] at hu hc ⊢;simp only [↓EJ,↓XX,XY,↓reduceIte,Nat.reduceBEq,Nat.reduceAdd,Int.reduceEq,Int.reduceLT,Int.reduceLE,↓Ag hof,↓Bx,↓BJ,↓Ag hu,↓AL hc];first | exact An _ _ | exact Aw rfl (by simp) _
     ·refine CT (u:=tI) ?_ h3;generalize CM (b.inf g) x=w at hc h3 ⊢;obtain ⟨o1,n1,k1⟩:=a;obtain ⟨o2,n2,k2⟩:=b;obtain ⟨o3,n3,k3⟩:=x;obtain ⟨o4,n4,k4⟩:=y;simp only [Ah,tI,Ayo,Ayn] at hu hc ⊢;simp only [↓EJ,↓XX,XY,↓reduceIte,Nat.reduceBEq,Nat.reduceAdd,Int.reduceEq,Int.reduceLT,Int.reduceLE,↓Ag hof,↓Bx,↓BJ,↓Ag hu,↓AL hc,h3];first | exact An _ _ | exact Aw rfl (by simp) _
    ·rw [if_neg h2];refine CT (u:=tI) ?_ (by decide);obtain ⟨o1,n1,k1⟩:=a;obtain ⟨o2,n2,k2⟩:=b;obtain ⟨o3,n3,k3⟩:=u;simp only [Tm.op] at h2;simp only [Ah,tI,Ayo,Ayn] at hu ⊢;simp only [↓EJ,↓XX,XY,↓reduceIte,Nat.reduceBEq,Nat.reduceAdd,Int.reduceEq,Int.reduceLT,Int.reduceLE,↓Ag hof,↓Bx,↓BJ,↓Ag hu,h2];first | exact An _ _ | exact Aw rfl (by simp) _
   ·rw [if_neg h] at hu ⊢;refine CT (u:=tI) ?_ h;obtain ⟨o1,n1,k1⟩:=a;obtain ⟨o2,n2,k2⟩:=b;simp only [Ah,tI,Tm.z,Ayo,Ayn] at hu ⊢;simp only [↓EJ,↓XX,XY,↓reduceIte,Nat.reduceBEq,Nat.reduceAdd,Int.reduceEq,Int.reduceLT,Int.reduceLE,↓Ag hof,↓Bx,↓BJ,↓Ag hu,h];first | exact An _ _ | exact Aw rfl (by simp) _
  by_cases p1:op=23∨op=24
  ·have hk2:AY op=1:=by rcases p1 with rfl | rfl<;>rfl
   obtain ⟨a,rfl⟩:=Auv (hk.trans hk2);simp only [Tm.wtL] at hw hl hn;have hta:=hti _ a g (Nat.lt_succ_self _) (by omega) hg hsl.1;have hu:=hI a g (k+1) (by omega) hsl.1 (by omega) hg (by omega) (by omega);have hz:G5 (S55 (SS dt (k+1+1)) (k+1+1) (.fv (.sl (g.map Tm.enc))) (.fv (Tm.mk op m [a]).enc) ⟨[],[]⟩) (if (a.inf g).1=0 then (if (a.inf g).2.op=17 then (0,(a.inf g).2.kid (if op=23 then 0 else 1)) else (12,.z)) else ((a.inf g).1,.z)):=by
    generalize a.inf g=q at hu hta ⊢;obtain ⟨e,u⟩:=q;simp only at hu hta ⊢;by_cases h:e=0
    ·subst h;rw [if_pos rfl] at hu ⊢;by_cases h2:u.op=17
     ·rw [if_pos h2];obtain ⟨x,y,hxy⟩:=Gi (.inr rfl) (hta rfl).1 h2;obtain ⟨o3,n3,k3⟩:=u;simp only [Tm.kids,Tm.op] at hxy h2;subst hxy h2;have w0:BC 0=0:=by rw [Az]<;>omega
      have w1:BC 1=1:=by rw [Az]<;>omega
      rcases p1 with rfl | rfl
      ·refine I2 ?_;have e0:(Tm.mk 17 n3 [x,y]).kid (if (23:Int)=23 then 0 else 1)=x:=rfl;rw [e0];obtain ⟨o1,n1,k1⟩:=a;obtain ⟨o3,n3,k3⟩:=x;obtain ⟨o4,n4,k4⟩:=y;simp only [Ah,Ayo,Ayn] at hu ⊢;simp only [↓EJ,↓XX,XY,↓reduceIte,Nat.reduceBEq,Nat.reduceAdd,Int.reduceEq,Int.reduceLT,Int.reduceLE,↓Ag hof,Int.reduceSub,w0,↓Bx,↓BJ,↓Ag hu];first | exact An _ _ | exact Aw rfl (by simp) _
      ·refine I2 ?_;have e0:(Tm.mk 17 n3 [x,y]).kid (if (24:Int)=23 then 0 else 1)=y:=rfl;rw [e0];obtain ⟨o1,n1,k1⟩:=a;obtain ⟨o3,n3,k3⟩:=x;obtain ⟨o4,n4,k4⟩:=y;simp only [Ah,Ayo,Ayn] at hu ⊢;simp only [↓EJ,↓XX,XY,↓reduceIte,Nat.reduceBEq,Nat.reduceAdd,Int.reduceEq,Int.reduceLT,Int.reduceLE,↓Ag hof,Int.reduceSub,w1,↓Bx,↓BJ,↓Ag hu];first | exact An _ _ | exact Aw rfl (by simp) _
     ·rw [if_neg h2];refine CT (u:=tI) ?_ (by decide);obtain ⟨o1,n1,k1⟩:=a;obtain ⟨o3,n3,k3⟩:=u;simp only [Tm.op] at h2;simp only [Ah,tI,Ayo,Ayn] at hu ⊢;rcases p1 with rfl | rfl<;>(simp only [↓EJ,↓XX,XY,↓reduceIte,Nat.reduceBEq,Nat.reduceAdd,Int.reduceEq,Int.reduceLT,Int.reduceLE,↓Ag hof,↓Bx,↓BJ,↓Ag hu,h2];first | exact An _ _ | exact Aw rfl (by simp) _)
    ·rw [if_neg h] at hu ⊢;refine CT (u:=tI) ?_ h;obtain ⟨o1,n1,k1⟩:=a;simp only [Ah,tI,Tm.z,Ayo,Ayn] at hu ⊢;rcases p1 with rfl | rfl<;>(simp only [↓EJ,↓XX,XY,↓reduceIte,Nat.reduceBEq,Nat.reduceAdd,Int.reduceEq,Int.reduceLT,Int.reduceLE,↓Ag hof,↓Bx,↓BJ,↓Ag hu,h];first | exact An _ _ | exact Aw rfl (by simp) _)
   have e:(Tm.mk op m [a]).inf g=(if (a.inf g).1=0 then (if (a.inf g).2.op=17 then (0,(a.inf g).2.kid (if op=23 then 0 else 1)) else (12,.z)) else ((a.inf g).1,.z)):=by
    rcases p1 with rfl | rfl<;>simp [Tm.inf]
   rw [e];exact hz
  have p4:op≠23:=fun h=>p1 (.inl h);have p5:op≠24:=fun h=>p1 (.inr h);rw [OM ⟨o1,o2,p4,p5,o3,o7,o8,o5,p3,p2,o6⟩,Ah];refine CT (u:=tI) ?_ (by decide);simp only [↓EJ,↓XX,XY,↓reduceIte,Nat.reduceBEq,Nat.reduceAdd,Int.reduceEq,Int.reduceLT,Int.reduceLE,↓Ag hof,o1,o2,p4,p5,o3,o7,o8,o5,p3,p2,o6,tI,Ah];first | exact An _ _ | exact Aw rfl (by simp) _
theorem AeU (M:Nat) (hM:3000≤M) (hM2:M≤1000000) (n:Nat) (t:Tm) (g:List Tm) (h1:t.shp) (h2:t.wt≤M) (h3:∀x∈g,x.typed=true∧x.wt≤M) (h4:g.length+t.wt≤900000) (h5:4 * t.wt+6 * M+61<n) :
  Bc (SS dt n 19 [.fv (.sl (g.map Tm.enc)),.fv t.enc] ⟨[],[]⟩) (.tuple [(if (t.inf g).1=0 then (t.inf g).2 else .z).enc,.int .i64 (t.inf g).1]):=by
 obtain ⟨n,rfl⟩:∃k,n=k+1:=⟨n - 1,by omega⟩;exact OD (Ajf M hM hM2 n t g h1 h2 h3 h4 (by omega))
theorem Aft {n:Nat} (t:Tm) (hn:t.wt+1<n):Bc (SS dt n 20 [.fv t.enc] ⟨[],[]⟩) (.bool t.typed):=by
 obtain ⟨n,rfl⟩:∃k,n=k+1:=⟨n - 1,by omega⟩;rw [c20];have h:=Oe n t (by omega);obtain ⟨o,p,l⟩:=t;rw [Ah] at h ⊢;simp only [S20,↓XX,XY,↓reduceIte,Nat.reduceBEq,Nat.reduceAdd,Int.reduceEq,Int.reduceLT,Int.reduceLE,↓Av h];exact An _ _
theorem AcK (b:Bool) (k:IV→Option (IV×Hp)):Cg EE 4 (.fv (.bool b)) (.fv (.bool b)) k=k (.fv (.bool false)):=by
 cases b<;>rfl
structure InfF (n:Nat) (gs:List Tm) (t R:Tm) (e:Int) (b:Bool):Prop where
 hp:Bc (SS dt n 17 [.fv (.sl (gs.map Tm.enc)),.fv t.enc] ⟨[],[]⟩) (.tuple [R.enc,.int .i64 e])
 hr:Bc (SS dt n 19 [.fv (.sl (gs.map Tm.enc)),.fv t.enc] ⟨[],[]⟩) (.tuple [R.enc,.int .i64 e])
 hs:Bc (SS dt n 18 [.fv R.enc,.fv R.enc] ⟨[],[]⟩) (.bool true)
 tp:Bc (SS dt n 20 [.fv t.enc] ⟨[],[]⟩) (.bool b)
 tr:Bc (SS dt n 21 [.fv t.enc] ⟨[],[]⟩) (.bool b)
set_option maxRecDepth 20000 in
set_option maxHeartbeats 8000000 in
theorem Agr {n:Nat} (hn:10<n) {r q s c a:Tm} {gs ls:List Tm} (hgs:gs=[]) (hl:ls.length≤3) (hF:∀t∈ls,∃R e b,InfF n gs t R e b) :
  GC (Bh n (fun q l h=>FX l h (SS dt n) ⟨[],[]⟩ q) [.nils,(.clip (ls.map Tm.enc)),iv 0] ⟨[(3145728,.row [iv r.op,iv r.n,.fv (.sl (r.kids.map Tm.enc))] false),(3145729,.row [iv q.op,iv q.n,.fv (.sl (q.kids.map Tm.enc))] false),(3145730,.row [iv s.op,iv s.n,.fv (.sl (s.kids.map Tm.enc))] false),(3155975,.row [iv c.op,iv c.n,.fv (.sl (c.kids.map Tm.enc))] false),(3155976,.row [iv a.op,iv a.n,.fv (.sl (a.kids.map Tm.enc))] false)],[]⟩) (.bool true):=by
 refine A2 (Q:=fun r=>GC r _) (fun k V H=>∃(pre rest:List Tm),ls=pre++rest∧rest.length=k∧V=[.nils,(.clip (ls.map Tm.enc)),iv pre.length]∧H=⟨[(3145728,.row [iv r.op,iv r.n,.fv (.sl (r.kids.map Tm.enc))] false),(3145729,.row [iv q.op,iv q.n,.fv (.sl (q.kids.map Tm.enc))] false),(3145730,.row [iv s.op,iv s.n,.fv (.sl (s.kids.map Tm.enc))] false),(3155975,.row [iv c.op,iv c.n,.fv (.sl (c.kids.map Tm.enc))] false),(3155976,.row [iv a.op,iv a.n,.fv (.sl (a.kids.map Tm.enc))] false)],[]⟩)
  ?_ n ls.length _ _ (by omega) ⟨[],ls,rfl,rfl,rfl,rfl⟩
 rintro k V H rec ⟨pre,rest,hts,hk,rfl,rfl⟩ hrec;have hkl:ls.length=pre.length+rest.length:=by rw [hts];simp
 obtain ⟨or,nr,kr⟩:=r;obtain ⟨oq,nq,kq⟩:=q;obtain ⟨os,ns,ks⟩:=s;obtain ⟨oc,nc,kc⟩:=c;obtain ⟨oa,na,ka⟩:=a;simp only [Tm.op,Tm.n,Tm.kids] at hrec ⊢;cases rest with
 | nil =>
  have hno:¬ ((pre.length:Int)<ls.length):=by rw [hkl];simp
  simp (maxSteps:=1000000) only [↓UU2,↓XX,XY,↓reduceIte,Nat.reduceBEq,Nat.reduceAdd,Int.reduceEq,Int.reduceLT,Int.reduceLE,hno];exact Uh
 | cons t rest =>
  have hi:(pre.length:Int)<ls.length:=by rw [hkl];simp;omega
  have hg:=B7 hts;obtain ⟨R,e,b,hp,hr,hs,tp,tr⟩:=hF t (by rw [hts];simp);simp only [Aym] at hk;have h9:=hrec rest.length [.nils,(.clip (ls.map Tm.enc)),iv (pre++[t]).length] _ (by omega) ⟨pre++[t],rest,by rw [hts];simp,rfl,rfl,rfl⟩;have wi:BC ((pre.length:Int)+1)=((pre++[t]).length:Int):=(Az (by omega) (by omega)).trans (by simp);clear hrec hF;subst hgs;obtain ⟨o,p,lx⟩:=t;obtain ⟨oi,pi,li⟩:=R;simp only [Ah,Ayn] at hp hr hs tp tr;simp (maxSteps:=1000000) only [↓UU2,↓XX,XY,↓reduceIte,Nat.reduceBEq,Nat.reduceAdd,Int.reduceEq,Int.reduceLT,Int.reduceLE,hi,↓ApX (AJ hg) (A0 _ _ _),↓BQ,↓Ag hp,↓Ag hr,↓Ag hs,↓Av tp,↓Av tr,↓AcK,wi,↓AG,XD,heldB,AN,XE];exact h9
set_option maxRecDepth 20000 in
set_option maxHeartbeats 8000000 in
theorem Ag6 {n:Nat} (hn:10<n) {r q s c a:Tm} {gs ls:List Tm} (hgs:gs=[]) (hl:ls.length≤3) (hF:∀t∈ls,∃R e b,InfF n gs t R e b) :
  GC (Bh n (fun q l h=>FX l h (SS dt n) ⟨[],[]⟩ q) [.nils,(.app (.own 3159044) (ls.map Tm.enc)),iv 0] ⟨[(3145728,.row [iv r.op,iv r.n,.fv (.sl (r.kids.map Tm.enc))] false),(3145729,.row [iv q.op,iv q.n,.fv (.sl (q.kids.map Tm.enc))] false),(3145730,.row [iv s.op,iv s.n,.fv (.sl (s.kids.map Tm.enc))] false),(3155975,.row [iv c.op,iv c.n,.fv (.sl (c.kids.map Tm.enc))] false),(3155976,.row [iv a.op,iv a.n,.fv (.sl (a.kids.map Tm.enc))] false),(3159044,.tok 3 3),(3160069,.row [iv a.op,iv a.n,.fv (.sl (a.kids.map Tm.enc))] false)],[]⟩) (.bool true):=by
 refine A2 (Q:=fun r=>GC r _) (fun k V H=>∃(pre rest:List Tm),ls=pre++rest∧rest.length=k∧V=[.nils,(.app (.own 3159044) (ls.map Tm.enc)),iv pre.length]∧H=⟨[(3145728,.row [iv r.op,iv r.n,.fv (.sl (r.kids.map Tm.enc))] false),(3145729,.row [iv q.op,iv q.n,.fv (.sl (q.kids.map Tm.enc))] false),(3145730,.row [iv s.op,iv s.n,.fv (.sl (s.kids.map Tm.enc))] false),(3155975,.row [iv c.op,iv c.n,.fv (.sl (c.kids.map Tm.enc))] false),(3155976,.row [iv a.op,iv a.n,.fv (.sl (a.kids.map Tm.enc))] false),(3159044,.tok 3 3),(3160069,.row [iv a.op,iv a.n,.fv (.sl (a.kids.map Tm.enc))] false)],[]⟩)
  ?_ n ls.length _ _ (by omega) ⟨[],ls,rfl,rfl,rfl,rfl⟩
 rintro k V H rec ⟨pre,rest,hts,hk,rfl,rfl⟩ hrec;have hkl:ls.length=pre.length+rest.length:=by rw [hts];simp
 obtain ⟨or,nr,kr⟩:=r;obtain ⟨oq,nq,kq⟩:=q;obtain ⟨os,ns,ks⟩:=s;obtain ⟨oc,nc,kc⟩:=c;obtain ⟨oa,na,ka⟩:=a;simp only [Tm.op,Tm.n,Tm.kids] at hrec ⊢;cases rest with
 | nil =>
  have hno:¬ ((pre.length:Int)<ls.length):=by rw [hkl];simp
  simp (maxSteps:=1000000) only [↓UU2,↓XX,XY,↓reduceIte,Nat.reduceBEq,Nat.reduceAdd,Int.reduceEq,Int.reduceLT,Int.reduceLE,hno];exact Uh
 | cons t rest =>
  have hi:(pre.length:Int)<ls.length:=by rw [hkl];simp;omega
  have hg:=B7 hts;obtain ⟨R,e,b,hp,hr,hs,tp,tr⟩:=hF t (by rw [hts];simp);simp only [Aym] at hk;have h9:=hrec rest.length [.nils,(.app (.own 3159044) (ls.map Tm.enc)),iv (pre++[t]).length] _ (by omega) ⟨pre++[t],rest,by rw [hts];simp,rfl,rfl,rfl⟩;have wi:BC ((pre.length:Int)+1)=((pre++[t]).length:Int):=(Az (by omega) (by omega)).trans (by simp);clear hrec hF;subst hgs;obtain ⟨o,p,lx⟩:=t;obtain ⟨oi,pi,li⟩:=R;simp only [Ah,Ayn] at hp hr hs tp tr;simp (maxSteps:=1000000) only [↓UU2,↓XX,XY,↓reduceIte,Nat.reduceBEq,Nat.reduceAdd,Int.reduceEq,Int.reduceLT,Int.reduceLE,hi,↓Ar2 (AJ hg) (A0 _ _ _),↓BQ,↓Ag hp,↓Ag hr,↓Ag hs,↓Av tp,↓Av tr,↓AcK,wi,↓AG,XD,heldB,AN,XE];exact h9
set_option maxRecDepth 20000 in
set_option maxHeartbeats 8000000 in
theorem AhO {n:Nat} (hn:10<n) {r q s c a:Tm} {gs ls:List Tm} (hl:ls.length≤3) (hF:∀t∈ls,∃R e b,InfF n gs t R e b) :
  GC (Bh n (fun q l h=>FX l h (SS dt n) ⟨[],[]⟩ q) [(.app (.own 3154951) (gs.map Tm.enc)),(.clip (ls.map Tm.enc)),iv 0] ⟨[(3145728,.row [iv r.op,iv r.n,.fv (.sl (r.kids.map Tm.enc))] false),(3145729,.row [iv q.op,iv q.n,.fv (.sl (q.kids.map Tm.enc))] false),(3145730,.row [iv s.op,iv s.n,.fv (.sl (s.kids.map Tm.enc))] false),(3154951,.tok gs.length 3),(3155975,.row [iv c.op,iv c.n,.fv (.sl (c.kids.map Tm.enc))] false),(3155976,.row [iv a.op,iv a.n,.fv (.sl (a.kids.map Tm.enc))] false)],[]⟩) (.bool true):=by
 refine A2 (Q:=fun r=>GC r _) (fun k V H=>∃(pre rest:List Tm),ls=pre++rest∧rest.length=k∧V=[(.app (.own 3154951) (gs.map Tm.enc)),(.clip (ls.map Tm.enc)),iv pre.length]∧H=⟨[(3145728,.row [iv r.op,iv r.n,.fv (.sl (r.kids.map Tm.enc))] false),(3145729,.row [iv q.op,iv q.n,.fv (.sl (q.kids.map Tm.enc))] false),(3145730,.row [iv s.op,iv s.n,.fv (.sl (s.kids.map Tm.enc))] false),(3154951,.tok gs.length 3),(3155975,.row [iv c.op,iv c.n,.fv (.sl (c.kids.map Tm.enc))] false),(3155976,.row [iv a.op,iv a.n,.fv (.sl (a.kids.map Tm.enc))] false)],[]⟩)
  ?_ n ls.length _ _ (by omega) ⟨[],ls,rfl,rfl,rfl,rfl⟩
 rintro k V H rec ⟨pre,rest,hts,hk,rfl,rfl⟩ hrec;have hkl:ls.length=pre.length+rest.length:=by rw [hts];simp
 obtain ⟨or,nr,kr⟩:=r;obtain ⟨oq,nq,kq⟩:=q;obtain ⟨os,ns,ks⟩:=s;obtain ⟨oc,nc,kc⟩:=c;obtain ⟨oa,na,ka⟩:=a;simp only [Tm.op,Tm.n,Tm.kids] at hrec ⊢;cases rest with
 | nil =>
  have hno:¬ ((pre.length:Int)<ls.length):=by rw [hkl];simp
  simp (maxSteps:=1000000) only [↓UU2,↓XX,XY,↓reduceIte,Nat.reduceBEq,Nat.reduceAdd,Int.reduceEq,Int.reduceLT,Int.reduceLE,hno];exact Uh
 | cons t rest =>
  have hi:(pre.length:Int)<ls.length:=by rw [hkl];simp;omega
  have hg:=B7 hts;obtain ⟨R,e,b,hp,hr,hs,tp,tr⟩:=hF t (by rw [hts];simp);simp only [Aym] at hk;have h9:=hrec rest.length [(.app (.own 3154951) (gs.map Tm.enc)),(.clip (ls.map Tm.enc)),iv (pre++[t]).length] _ (by omega) ⟨pre++[t],rest,by rw [hts];simp,rfl,rfl,rfl⟩;have wi:BC ((pre.length:Int)+1)=((pre++[t]).length:Int):=(Az (by omega) (by omega)).trans (by simp);clear hrec hF;obtain ⟨o,p,lx⟩:=t;obtain ⟨oi,pi,li⟩:=R;simp only [Ah] at hp hr hs tp tr;simp (maxSteps:=1000000) only [↓UU2,↓XX,XY,↓reduceIte,Nat.reduceBEq,Nat.reduceAdd,Int.reduceEq,Int.reduceLT,Int.reduceLE,hi,↓ApX (AJ hg) (A0 _ _ _),↓BQ,↓Ag hp,↓Ag hr,↓Ag hs,↓Av tp,↓Av tr,↓AcK,wi,↓AG,XD,heldB,AN,XE];exact h9
set_option maxRecDepth 20000 in
set_option maxHeartbeats 8000000 in
theorem Agl {n:Nat} (hn:10<n) {r q s c a:Tm} {gs ls:List Tm} (hl:ls.length≤3) (hF:∀t∈ls,∃R e b,InfF n gs t R e b) :
  GC (Bh n (fun q l h=>FX l h (SS dt n) ⟨[],[]⟩ q) [(.app (.own 3154951) (gs.map Tm.enc)),(.app (.own 3159044) (ls.map Tm.enc)),iv 0] ⟨[(3145728,.row [iv r.op,iv r.n,.fv (.sl (r.kids.map Tm.enc))] false),(3145729,.row [iv q.op,iv q.n,.fv (.sl (q.kids.map Tm.enc))] false),(3145730,.row [iv s.op,iv s.n,.fv (.sl (s.kids.map Tm.enc))] false),(3154951,.tok gs.length 3),(3155975,.row [iv c.op,iv c.n,.fv (.sl (c.kids.map Tm.enc))] false),(3155976,.row [iv a.op,iv a.n,.fv (.sl (a.kids.map Tm.enc))] false),(3159044,.tok 3 3),(3160069,.row [iv a.op,iv a.n,.fv (.sl (a.kids.map Tm.enc))] false)],[]⟩) (.bool true):=by
 refine A2 (Q:=fun r=>GC r _) (fun k V H=>∃(pre rest:List Tm),ls=pre++rest∧rest.length=k∧V=[(.app (.own 3154951) (gs.map Tm.enc)),(.app (.own 3159044) (ls.map Tm.enc)),iv pre.length]∧H=⟨[(3145728,.row [iv r.op,iv r.n,.fv (.sl (r.kids.map Tm.enc))] false),(3145729,.row [iv q.op,iv q.n,.fv (.sl (q.kids.map Tm.enc))] false),(3145730,.row [iv s.op,iv s.n,.fv (.sl (s.kids.map Tm.enc))] false),(3154951,.tok gs.length 3),(3155975,.row [iv c.op,iv c.n,.fv (.sl (c.kids.map Tm.enc))] false),(3155976,.row [iv a.op,iv a.n,.fv (.sl (a.kids.map Tm.enc))] false),(3159044,.tok 3 3),(3160069,.row [iv a.op,iv a.n,.fv (.sl (a.kids.map Tm.enc))] false)],[]⟩)
  ?_ n ls.length _ _ (by omega) ⟨[],ls,rfl,rfl,rfl,rfl⟩
 rintro k V H rec ⟨pre,rest,hts,hk,rfl,rfl⟩ hrec;have hkl:ls.length=pre.length+rest.length:=by rw [hts];simp
 obtain ⟨or,nr,kr⟩:=r;obtain ⟨oq,nq,kq⟩:=q;obtain ⟨os,ns,ks⟩:=s;obtain ⟨oc,nc,kc⟩:=c;obtain ⟨oa,na,ka⟩:=a;simp only [Tm.op,Tm.n,Tm.kids] at hrec ⊢;cases rest with
 | nil =>
  have hno:¬ ((pre.length:Int)<ls.length):=by rw [hkl];simp
  simp (maxSteps:=1000000) only [↓UU2,↓XX,XY,↓reduceIte,Nat.reduceBEq,Nat.reduceAdd,Int.reduceEq,Int.reduceLT,Int.reduceLE,hno];exact Uh
 | cons t rest =>
  have hi:(pre.length:Int)<ls.length:=by rw [hkl];simp;omega
  have hg:=B7 hts;obtain ⟨R,e,b,hp,hr,hs,tp,tr⟩:=hF t (by rw [hts];simp);simp only [Aym] at hk;have h9:=hrec rest.length [(.app (.own 3154951) (gs.map Tm.enc)),(.app (.own 3159044) (ls.map Tm.enc)),iv (pre++[t]).length] _ (by omega) ⟨pre++[t],rest,by rw [hts];simp,rfl,rfl,rfl⟩;have wi:BC ((pre.length:Int)+1)=((pre++[t]).length:Int):=(Az (by omega) (by omega)).trans (by simp);clear hrec hF;obtain ⟨o,p,lx⟩:=t;obtain ⟨oi,pi,li⟩:=R;simp only [Ah] at hp hr hs tp tr;simp (maxSteps:=1000000) only [↓UU2,↓XX,XY,↓reduceIte,Nat.reduceBEq,Nat.reduceAdd,Int.reduceEq,Int.reduceLT,Int.reduceLE,hi,↓Ar2 (AJ hg) (A0 _ _ _),↓BQ,↓Ag hp,↓Ag hr,↓Ag hs,↓Av tp,↓Av tr,↓AcK,wi,↓AG,XD,heldB,AN,XE];exact h9
set_option maxRecDepth 20000 in
set_option maxHeartbeats 16000000 in
theorem Atr {n:Nat} (hn:10<n) {r q s c a m:Tm} {ts:List Tm} {is:Bool} (hl:ts.length≤6)
  (hC:Bc (SS dt n 15 [.fv r.enc,.fv q.enc] ⟨[],[]⟩) (.tuple [c.enc,a.enc,.bool is])) (hM:Bc (SS dt n 16 [.fv s.enc,iv 5,iv ts.length] ⟨[],[]⟩) m.enc)
  (hI:is=true→Bc (SS dt n 17 [.fv (.sl []),.fv c.enc] ⟨[],[]⟩) (.tuple [a.enc,.int .i64 0])) (hE:is=true→Bc (SS dt n 18 [.fv a.enc,.fv a.enc] ⟨[],[]⟩) (.bool true))
  (h00:ts=[]→is=false→GC (Bh n (fun q l h=>FX l h (SS dt n) ⟨[],[]⟩ q) [.nils,(.clip [m.enc]),iv 0] ⟨[(3145728,.row [iv r.op,iv r.n,.fv (.sl (r.kids.map Tm.enc))] false),(3145729,.row [iv q.op,iv q.n,.fv (.sl (q.kids.map Tm.enc))] false),(3145730,.row [iv s.op,iv s.n,.fv (.sl (s.kids.map Tm.enc))] false),(3155975,.row [iv c.op,iv c.n,.fv (.sl (c.kids.map Tm.enc))] false),(3155976,.row [iv a.op,iv a.n,.fv (.sl (a.kids.map Tm.enc))] false)],[]⟩) (.bool true)) (h01:ts=[]→is=true→GC (Bh n (fun q l h=>FX l h (SS dt n) ⟨[],[]⟩ q) [.nils,(.app (.own 3159044) [m.enc,c.enc,a.enc]),iv 0] ⟨[(3145728,.row [iv r.op,iv r.n,.fv (.sl (r.kids.map Tm.enc))] false),(3145729,.row [iv q.op,iv q.n,.fv (.sl (q.kids.map Tm.enc))] false),(3145730,.row [iv s.op,iv s.n,.fv (.sl (s.kids.map Tm.enc))] false),(3155975,.row [iv c.op,iv c.n,.fv (.sl (c.kids.map Tm.enc))] false),(3155976,.row [iv a.op,iv a.n,.fv (.sl (a.kids.map Tm.enc))] false),(3159044,.tok 3 3),(3160069,.row [iv a.op,iv a.n,.fv (.sl (a.kids.map Tm.enc))] false)],[]⟩) (.bool true)) (h10:ts≠[]→is=false→GC (Bh n (fun q l h=>FX l h (SS dt n) ⟨[],[]⟩ q) [(.app (.own 3154951) ((ts.map (Tm.plainT 2)).map Tm.enc)),(.clip [m.enc]),iv 0] ⟨[(3145728,.row [iv r.op,iv r.n,.fv (.sl (r.kids.map Tm.enc))] false),(3145729,.row [iv q.op,iv q.n,.fv (.sl (q.kids.map Tm.enc))] false),(3145730,.row [iv s.op,iv s.n,.fv (.sl (s.kids.map Tm.enc))] false),(3154951,.tok ts.length 3),(3155975,.row [iv c.op,iv c.n,.fv (.sl (c.kids.map Tm.enc))] false),(3155976,.row [iv a.op,iv a.n,.fv (.sl (a.kids.map Tm.enc))] false)],[]⟩) (.bool true)) (h11:ts≠[]→is=true→GC (Bh n (fun q l h=>FX l h (SS dt n) ⟨[],[]⟩ q) [(.app (.own 3154951) ((ts.map (Tm.plainT 2)).map Tm.enc)),(.app (.own 3159044) [m.enc,c.enc,a.enc]),iv 0] ⟨[(3145728,.row [iv r.op,iv r.n,.fv (.sl (r.kids.map Tm.enc))] false),(3145729,.row [iv q.op,iv q.n,.fv (.sl (q.kids.map Tm.enc))] false),(3145730,.row [iv s.op,iv s.n,.fv (.sl (s.kids.map Tm.enc))] false),(3154951,.tok ts.length 3),(3155975,.row [iv c.op,iv c.n,.fv (.sl (c.kids.map Tm.enc))] false),(3155976,.row [iv a.op,iv a.n,.fv (.sl (a.kids.map Tm.enc))] false),(3159044,.tok 3 3),(3160069,.row [iv a.op,iv a.n,.fv (.sl (a.kids.map Tm.enc))] false)],[]⟩) (.bool true)) :
  GC (Bh n (fun q l h=>S3_370 l h (SS dt n) ⟨[],[]⟩ q n) [.fv (.sl (ts.map Tm.enc)),.ptr (.own 3145728) 0,.ptr (.own 3145729) 0,.ptr (.own 3145730) 0,.nils,iv 0] ⟨[(3145728,.row [iv r.op,iv r.n,.fv (.sl (r.kids.map Tm.enc))] false),(3145729,.row [iv q.op,iv q.n,.fv (.sl (q.kids.map Tm.enc))] false),(3145730,.row [iv s.op,iv s.n,.fv (.sl (s.kids.map Tm.enc))] false)],[]⟩) (.bool true):=by
 refine A2 (Q:=fun r=>GC r _) (fun k V H=>∃(pre rest:List Tm),ts=pre++rest∧rest.length=k ∧
   (
    pre=[]∧V=[.fv (.sl (ts.map Tm.enc)),.ptr (.own 3145728) 0,.ptr (.own 3145729) 0,.ptr (.own 3145730) 0,.nils,iv 0]∧H=⟨[(3145728,.row [iv r.op,iv r.n,.fv (.sl (r.kids.map Tm.enc))] false),(3145729,.row [iv q.op,iv q.n,.fv (.sl (q.kids.map Tm.enc))] false),(3145730,.row [iv s.op,iv s.n,.fv (.sl (s.kids.map Tm.enc))] false)],[]⟩ ∨
    pre≠[]∧V=[.fv (.sl (ts.map Tm.enc)),.ptr (.own 3145728) 0,.ptr (.own 3145729) 0,.ptr (.own 3145730) 0,(.app (.own 3154951) ((pre.map (Tm.plainT 2)).map Tm.enc)),iv pre.length]∧H=⟨[(3145728,.row [iv r.op,iv r.n,.fv (.sl (r.kids.map Tm.enc))] false),(3145729,.row [iv q.op,iv q.n,.fv (.sl (q.kids.map Tm.enc))] false),(3145730,.row [iv s.op,iv s.n,.fv (.sl (s.kids.map Tm.enc))] false),(3154951,.tok pre.length 3)],[]⟩))
  ?_ n ts.length _ _ (by omega) ⟨[],ts,rfl,rfl,.inl ⟨rfl,rfl,rfl⟩⟩
 rintro k V H rec ⟨pre,rest,hts,hk,hV⟩ hrec;have hkl:ts.length=pre.length+rest.length:=by rw [hts];simp
 cases rest with
 | nil =>
  have hpre:pre=ts:=by rw [hts,List.append_nil]
  subst hpre;have hno:¬ ((pre.length:Int)<pre.length):=by omega
  have hac:=fun {β:Type}=>Aoa (β:=β) sTm (es:=[m.enc]) (es2:=[c.enc,a.enc]) (.clip _) (Ca [c,a]) (Ca [m]) rfl (by simp);obtain ⟨or,nr,kr⟩:=r;obtain ⟨oq,nq,kq⟩:=q;obtain ⟨os,ns,ks⟩:=s;obtain ⟨oc,nc,kc⟩:=c;obtain ⟨oa,na,ka⟩:=a;obtain ⟨om,nm,km⟩:=m;simp only [Ah,Tm.op,Tm.n,Tm.kids,Aym,List.length_nil,List.cons_append,List.nil_append,Nat.zero_add,Nat.reduceAdd] at hC hM hI hE hac h00 h01 h10 h11 ⊢;rcases hV with ⟨h0,rfl,rfl⟩ | ⟨h0,rfl,rfl⟩
  ·subst h0;simp only [Ayn,List.length_nil,Int.natCast_zero,Tm.op,Tm.n,Tm.kids] at hM h00 h01 ⊢;cases is
   ·simp (maxSteps:=1000000) only [↓UU3,↓XX,XY,↓reduceIte,Nat.reduceBEq,Nat.reduceAdd,Int.reduceEq,Int.reduceLT,Int.reduceLE,↓AG,XD,heldB,AN,XE,Int.lt_irrefl,↓Ag hC,↓AL hM,↓Cl];exact h00 trivial rfl
   ·have hI:=hI rfl;have hE:=hE rfl;simp (maxSteps:=1000000) only [↓UU3,↓XX,XY,↓reduceIte,Nat.reduceBEq,Nat.reduceAdd,Int.reduceEq,Int.reduceLT,Int.reduceLE,↓AG,XD,heldB,AN,XE,Int.lt_irrefl,↓Ag hC,↓AL hM,↓Cl,↓Ct,↓hac,↓Ag hI,↓Ag hE];exact h01 trivial rfl
  ·simp only [Tm.op,Tm.n,Tm.kids] at ⊢;cases is
   ·simp (maxSteps:=1000000) only [↓UU3,↓XX,XY,↓reduceIte,Nat.reduceBEq,Nat.reduceAdd,Int.reduceEq,Int.reduceLT,Int.reduceLE,↓AG,XD,heldB,AN,XE,hno,↓Ag hC,↓AL hM,↓Cl];exact h10 h0 rfl
   ·have hI:=hI rfl;have hE:=hE rfl;simp (maxSteps:=1000000) only [↓UU3,↓XX,XY,↓reduceIte,Nat.reduceBEq,Nat.reduceAdd,Int.reduceEq,Int.reduceLT,Int.reduceLE,↓AG,XD,heldB,AN,XE,hno,↓Ag hC,↓AL hM,↓Cl,↓Ct,↓hac,↓Ag hI,↓Ag hE];exact h11 h0 rfl
 | cons t rest =>
  have hi:(pre.length:Int)<ts.length:=by rw [hkl];simp;omega
  have hg:=B7 hts;have hp:=It 2 n t (by omega) (by omega);simp only [Aym] at hk;have h9:=hrec rest.length [.fv (.sl (ts.map Tm.enc)),.ptr (.own 3145728) 0,.ptr (.own 3145729) 0,.ptr (.own 3145730) 0,(.app (.own 3154951) (((pre++[t]).map (Tm.plainT 2)).map Tm.enc)),iv (pre++[t]).length] _ (by omega) ⟨pre++[t],rest,by rw [hts];simp,rfl,.inr ⟨by simp,rfl,rfl⟩⟩;have wi:BC ((pre.length:Int)+1)=((pre++[t]).length:Int):=(Az (by omega) (by omega)).trans (by simp);simp only [List.map_append,Ayo,Ayn] at h9;generalize Tm.plainT 2 t=pt at hp h9;clear hrec hC hM hI hE h00 h01 h10 h11;obtain ⟨or,nr,kr⟩:=r;obtain ⟨oq,nq,kq⟩:=q;obtain ⟨os,ns,ks⟩:=s;rcases hV with ⟨h0,rfl,rfl⟩ | ⟨h0,rfl,rfl⟩
  ·subst h0;have h0':=fun {β:Type}=>Gj (β:=β) sTm (.clip [pt.enc]) (Ca [pt]) rfl (by simp) (s0:=.nils) (.inl rfl);obtain ⟨o,p,lx⟩:=t;obtain ⟨oi,pi,li⟩:=pt;have w01:BC (0+1)=1:=by rw [Az]<;>omega
   have hx0:=fun {β:Type} (k:IV→Option β)=>Bn (AJ hg) (A0 _ _ _) k;simp only [Tm.op,Tm.n,Tm.kids,Ayn,List.nil_append,Ayo,Aym,List.length_nil,Nat.zero_add,Int.natCast_zero,Int.natCast_one,Ah] at h9 h0' hp hi hx0 ⊢;simp (maxSteps:=1000000) only [↓UU3,↓XX,XY,↓reduceIte,Nat.reduceBEq,Nat.reduceAdd,Int.reduceEq,Int.reduceLT,Int.reduceLE,hi,↓hx0,↓BQ,↓Ag hp,↓Cl,↓h0',w01,↓AG,XD,heldB,AN,XE];exact h9
  ·have h1':=fun {β:Type}=>MB (β:=β) sTm (es:=(pre.map (Tm.plainT 2)).map Tm.enc) (es2:=[pt.enc]) (.clip _) (Ca [pt]) (Ca _) (by simp [QD]) (by simp;omega);obtain ⟨o,p,lx⟩:=t;obtain ⟨oi,pi,li⟩:=pt;simp only [List.length_append,Aym,List.length_nil,Nat.zero_add] at wi;simp only [Tm.op,Tm.n,Tm.kids,List.length_append,List.length_map,List.map_append,List.length_nil,Ayn,Ayo,Aym,Ah,Nat.zero_add] at h9 h1' hp ⊢;simp (maxSteps:=1000000) only [↓UU3,↓XX,XY,↓reduceIte,Nat.reduceBEq,Nat.reduceAdd,Int.reduceEq,Int.reduceLT,Int.reduceLE,hi,↓Bn (AJ hg) (A0 _ _ _),↓BQ,↓Ag hp,↓Cl,↓h1',FQ,wi,↓AG,XD,heldB,AN,XE];exact h9
theorem Aj5 {n:Nat} {gs:List Tm} {t:Tm} (hg:∀x∈gs,x.typed=true∧x.wt≤3000) (hgl:gs.length≤6) (hc:(t.chk 0 1).2=0) (hn:100000≤n):∃R e b,InfF n gs t R e b:=by
 have hw:=AaE hc;have hs:=Rk t 0 1 hc;obtain ⟨R,hR⟩:∃R,R=if (t.inf gs).1=0 then (t.inf gs).2 else .z:=⟨_,rfl⟩;have hRw:R.wt≤3000:=by
  rw [hR];split
  ·rename_i h;exact (HX 3000 (by omega) (t.wt+1) t gs (by omega) hw hg hs h).2
  ·simp [Tm.z,Tm.wt,Tm.wtL]
 have hp:=Pg 3000 (by omega) (by omega) n t gs hw hg (by omega) (by omega);have hi:t.infer gs=(R,(t.inf gs).1):=by
  unfold Tm.infer;rw [if_pos hc,hR];by_cases h:(t.inf gs).1=0
  ·rw [if_pos h,if_pos h,h]
  ·rw [if_neg h,if_neg h]
 rw [hi] at hp;have hr:=AeU 3000 (by omega) (by omega) n t gs hs hw hg (by omega) (by omega);rw [← hR] at hr;have hsm:=IE n R R (by omega) (by omega);rw [(J0 R R).2 rfl] at hsm;have tr:=Uk n t (by omega) (by omega);rw [KG t hs] at tr;exact ⟨R,_,t.typed,hp,hr,hsm,Aft t (by omega),tr⟩
set_option maxRecDepth 20000 in
set_option maxHeartbeats 8000000 in
theorem Ar0 {n:Nat} {r q s:Tm} {le:FV} {br bq bs ml:Bool} (hno:¬ (br=true∧bq=true∧bs=true∧ml=true)) (hk:Bc (SS dt n 11 [] ⟨[],[]⟩) (.bool true))
  (fr:Bc (SS dt n 12 [.fv r.enc] ⟨[],[]⟩) (.bool br)) (fq:Bc (SS dt n 12 [.fv q.enc] ⟨[],[]⟩) (.bool bq)) (fs:Bc (SS dt n 12 [.fv s.enc] ⟨[],[]⟩) (.bool bs)) (hm:Bc (SS dt n 13 [.fv le] ⟨[],[]⟩) (.bool ml)) :
  GC (SS dt (n+1) 3 [.fv r.enc,.fv q.enc,.fv s.enc,.fv le] ⟨[],[]⟩) (.bool true):=by
 rw [c3];obtain ⟨o1,p1,k1⟩:=r;obtain ⟨o2,p2,k2⟩:=q;obtain ⟨o3,p3,k3⟩:=s;simp only [Ah] at fr fq fs ⊢;cases br
 ·simp (maxSteps:=1000000) only [↓UU1,↓XX,XY,↓reduceIte,Nat.reduceBEq,Nat.reduceAdd,Int.reduceEq,Int.reduceLT,Int.reduceLE,↓FA hk,↓Av fr];exact Uh
 cases bq
 ·simp (maxSteps:=1000000) only [↓UU1,↓XX,XY,↓reduceIte,Nat.reduceBEq,Nat.reduceAdd,Int.reduceEq,Int.reduceLT,Int.reduceLE,↓FA hk,↓Av fr,↓Av fq];exact Uh
 cases bs
 ·simp (maxSteps:=1000000) only [↓UU1,↓XX,XY,↓reduceIte,Nat.reduceBEq,Nat.reduceAdd,Int.reduceEq,Int.reduceLT,Int.reduceLE,↓FA hk,↓Av fr,↓Av fq,↓Av fs];exact Uh
 cases ml
 ·simp (maxSteps:=1000000) only [↓UU1,↓XX,XY,↓reduceIte,Nat.reduceBEq,Nat.reduceAdd,Int.reduceEq,Int.reduceLT,Int.reduceLE,↓FA hk,↓Av fr,↓Av fq,↓Av fs,↓Av hm];exact Uh
 exact absurd ⟨rfl,rfl,rfl,rfl⟩ hno
set_option maxRecDepth 20000 in
set_option maxHeartbeats 8000000 in
theorem ArZ {n:Nat} {r q s:Tm} {ts:List Tm} (hk:Bc (SS dt n 11 [] ⟨[],[]⟩) (.bool true))
  (fr:Bc (SS dt n 12 [.fv r.enc] ⟨[],[]⟩) (.bool true)) (fq:Bc (SS dt n 12 [.fv q.enc] ⟨[],[]⟩) (.bool true)) (fs:Bc (SS dt n 12 [.fv s.enc] ⟨[],[]⟩) (.bool true)) (hm:Bc (SS dt n 13 [.fv (.sl (ts.map Tm.enc))] ⟨[],[]⟩) (.bool true))
  (h:GC (Bh n (fun q l h=>S3_370 l h (SS dt n) ⟨[],[]⟩ q n) [.fv (.sl (ts.map Tm.enc)),.ptr (.own 3145728) 0,.ptr (.own 3145729) 0,.ptr (.own 3145730) 0,.nils,iv 0] ⟨[(3145728,.row [iv r.op,iv r.n,.fv (.sl (r.kids.map Tm.enc))] false),(3145729,.row [iv q.op,iv q.n,.fv (.sl (q.kids.map Tm.enc))] false),(3145730,.row [iv s.op,iv s.n,.fv (.sl (s.kids.map Tm.enc))] false)],[]⟩) (.bool true)) :
  GC (SS dt (n+1) 3 [.fv r.enc,.fv q.enc,.fv s.enc,.fv (.sl (ts.map Tm.enc))] ⟨[],[]⟩) (.bool true):=by
 rw [c3];obtain ⟨o1,p1,k1⟩:=r;obtain ⟨o2,p2,k2⟩:=q;obtain ⟨o3,p3,k3⟩:=s;simp only [Ah,Tm.op,Tm.n,Tm.kids] at fr fq fs h ⊢;simp (maxSteps:=1000000) only [↓UU1,↓XX,XY,↓reduceIte,Nat.reduceBEq,Nat.reduceAdd,Int.reduceEq,Int.reduceLT,Int.reduceLE,↓AG,XD,heldB,AN,XE,↓FA hk,↓Av fr,↓Av fq,↓Av fs,↓Av hm];exact h
set_option maxRecDepth 20000 in
set_option maxHeartbeats 8000000 in
theorem PW (r q s:Tm) (ts:List Tm) (hll:ts.length≤9223372036854775807):∃N,GC (SS dt N 3 [.fv r.enc,.fv q.enc,.fv s.enc,.fv (.sl (ts.map Tm.enc))] ⟨[],[]⟩) (.bool true):=by
 by_cases hb:decide (r.count 300<300)=true∧decide (q.count 300<300)=true∧decide (s.count 300<300)=true∧ZB ts=true
 case neg =>
  obtain ⟨m,hm⟩:∃m,m=r.wt+q.wt+s.wt+Tm.wtL ts+10000000000:=⟨_,rfl⟩;exact ⟨m+1+1,Ar0 hb (UC (by omega)) (Jg r (by omega)) (Jg q (by omega)) (Jg s (by omega)) (YK ts hll (by omega))⟩
 obtain ⟨b1,b2,b3,b4⟩:=hb;have hl:ts.length≤6:=by
  have:=b4
  simp only [ZB,Bool.and_eq_true,decide_eq_true_eq] at this;omega
 obtain ⟨c,a,b,⟨N0,h0⟩,hC⟩:=AnR r q;obtain ⟨mk,⟨N1,hM⟩,mw,mo,md⟩:=Anr 5 (by omega) s ts.length (by omega) (by omega);have mw:mk.wt≤1365:=mw;have hmc:(mk.chk 0 1).2=0:=by rw [Abq mk 0 1 mo (by omega) (by omega)]
 obtain ⟨m,hm⟩:∃m,m=N0+N1+r.wt+q.wt+s.wt+Tm.wtL ts+a.wt+10000000000:=⟨_,rfl⟩;have fr:=Jg (n:=m) r (by omega);have fq:=Jg (n:=m) q (by omega);have fs:=Jg (n:=m) s (by omega);have fm:=YK ts hll (n:=m+1) (by omega);rw [b1] at fr;rw [b2] at fq;rw [b3] at fs;rw [b4] at fm;have hg:∀x∈ts.map (Tm.plainT 2),x.typed=true∧x.wt≤3000:=by
  intro x hx;obtain ⟨t,_,rfl⟩:=List.mem_map.1 hx;exact ⟨Jn 2 t,by have:=Db 2 t;omega⟩
 have hI:b=true→Bc (SS dt (m+1) 17 [.fv (.sl []),.fv c.enc] ⟨[],[]⟩) (.tuple [a.enc,.int .i64 0]):=by
  intro hb;obtain ⟨ha,ot,nok,hchk⟩:=hC hb;have hcw:=nok.wt
  have:=Pg 3000 (by omega) (by omega) (m+1) c [] (by omega) (by simp) (by simp;omega) (by simp;omega)
  rwa [AgE ot (by omega) hchk] at this
 have hE:b=true→Bc (SS dt (m+1) 18 [.fv a.enc,.fv a.enc] ⟨[],[]⟩) (.bool true):=by
  intro hb;obtain ⟨ha,ot,nok,hchk⟩:=hC hb
  have:=(SQ ot).2
  have hE:=IE (m+1) a a (by omega) (by omega);rwa [(J0 a a).2 rfl] at hE
 have F1:∀t∈[mk],∃R e b,InfF (m+1) (ts.map (Tm.plainT 2)) t R e b:=by
  intro t ht;rw [List.mem_singleton.1 ht];exact Aj5 hg (by simpa using hl) hmc (by omega)
 have F3:b=true→∀t∈[mk,c,a],∃R e b,InfF (m+1) (ts.map (Tm.plainT 2)) t R e b:=by
  intro hb t ht;obtain ⟨ha,ot,nok,hchk⟩:=hC hb;simp only [List.mem_cons,List.not_mem_nil,or_false] at ht;rcases ht with rfl | rfl | rfl
  ·exact Aj5 hg (by simpa using hl) hmc (by omega)
  ·exact Aj5 hg (by simpa using hl) hchk (by omega)
  ·exact Aj5 hg (by simpa using hl) (W8 (SQ ot).1 (by have:=(SQ ot).2;omega)) (by omega)
 have el:(ts.map (Tm.plainT 2)).length=ts.length:=by simp
 refine ⟨m+1+1,ArZ (UC (by omega)) fr fq fs fm (Atr (by omega) hl (h0 _ (by omega)) (hM _ (by omega)) hI hE (fun h _=>?_) (fun h hb=>?_) (fun h _=>?_) (fun h hb=>?_))⟩
 ·have:=Agr (n:=m+1) (r:=r) (q:=q) (s:=s) (c:=c) (a:=a) (gs:=ts.map (Tm.plainT 2)) (ls:=[mk]) (by omega) (by rw [h];rfl) (by simp) F1
  exact this
 ·have:=Ag6 (n:=m+1) (r:=r) (q:=q) (s:=s) (c:=c) (a:=a) (gs:=ts.map (Tm.plainT 2)) (ls:=[mk,c,a]) (by omega) (by rw [h];rfl) (by simp) (F3 hb)
  exact this
 ·have:=AhO (n:=m+1) (r:=r) (q:=q) (s:=s) (c:=c) (a:=a) (gs:=ts.map (Tm.plainT 2)) (ls:=[mk]) (by omega) (by simp) F1
  rw [el] at this;exact this
 ·have:=Agl (n:=m+1) (r:=r) (q:=q) (s:=s) (c:=c) (a:=a) (gs:=ts.map (Tm.plainT 2)) (ls:=[mk,c,a]) (by omega) (by simp) (F3 hb)
  rw [el] at this;exact this
end Idl
end Go.Proofs.Ytdibmackcbpniaa

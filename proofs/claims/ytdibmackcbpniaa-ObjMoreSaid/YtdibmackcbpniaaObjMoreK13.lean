/-
  Texts of a proof, part 13: an ideal semantics of the program, its functions in shallow form, contracts of them. No statement of the seat is proved here.
-/
import Derived.Test.YtdibmackcbpniaaObjMoreK12
set_option linter.all false
noncomputable section
namespace Go.Proofs.Ytdibmackcbpniaa
namespace Idl
set_option maxRecDepth 20000 in
set_option maxHeartbeats 8000000 in
theorem AcS {e:Nat} (h6:6≤e) (he:e≤10) (hO:Dt 68 2 (e - 2)) (hG:Dt 70 1 (e - 1)):Ov 98 4 e:=by
 intro g a r hg ha;have hlen:=hg.len;have hW1:Wg e=4 * Wg (e - 1):=by
  obtain ⟨f,rfl⟩:∃f,e=f+1:=⟨e - 1,by omega⟩;rw [Kn,Nat.add_sub_cancel]
 have hW2:Wg e=16 * Wg (e - 2):=by
  obtain ⟨f,rfl⟩:∃f,e=f+2:=⟨e - 2,by omega⟩;rw [show f+2=(f+1)+1 by omega,Kn,Kn,show f+1+1 - 2=f by omega];omega
 have hW0:=Kl (e - 2);have hW10:=Ly he;have hD1:Dg e=Dg (e - 1)+10:=by unfold Dg;omega
 have hD2:Dg e=Dg (e - 2)+20:=by unfold Dg;omega
 have hD0:200≤Dg (e - 2):=by unfold Dg;omega
 have hDm:Dg e≤300:=by unfold Dg;omega
 have we:B6 ((e:Int) - 5 - 1)=((e - 1:Nat):Int) - 5:=by rw [Ax (by omega) (by omega)];omega
 have we2:B6 ((e:Int) - 5 - 2)=((e - 2:Nat):Int) - 5:=by rw [Ax (by omega) (by omega)];omega
 have aw:=ha.wt;have ad:=ha.dp;have hk1:=Int.emod_nonneg r.n (show (7:Int)≠0 by decide)
 have hk2:=Int.emod_lt_of_pos r.n (show (0:Int)<7 by decide)
 have hi:AOk g.length (.mk 15 0 []):=⟨Cm (by decide) (by decide) (BA (by decide) (by decide) (by decide)),by simp only [Tm.wt,Tm.wtL];omega,by simp only [Tm.dp,Tm.dpL];omega⟩;have hs1:=Nr ha (by omega) 1 (by omega);by_cases c0:r.n % 7=0
 ·obtain ⟨c,p,⟨N1,h1⟩,tc⟩:=hO g (.mk 15 0 []) (r.pick 0) (AP (by omega) hg) hi;obtain ⟨x,q,⟨N2,h2⟩,tx⟩:=hO g a (r.pick 1) (AP (by omega) hg) (Bo ha);obtain ⟨y,f,⟨N3,h3⟩,ty⟩:=hO g a (r.pick 2) (AP (by omega) hg) (Bo ha);refine ⟨.mk 27 0 [c,x,y],p && (q && f),⟨N1+N2+N3+100000,fun n hn=>?_⟩,UR (by decide) (by decide) (BA (by decide) (by decide) (by decide)) tc.sc tx.sc ty.sc,by have:=tc.wt;have:=tx.wt;have:=ty.wt;rw [wt3];omega,by have:=tc.dp;have:=tx.dp;have:=ty.dp;rw [dp3];omega,fun hb=>.oif e g a c x y h6 (tc.gr (JX hb)) (tx.gr (JX (Ie hb))) (ty.gr (Ie (Ie hb)))⟩
  ·obtain ⟨n,rfl⟩:∃k,n=k+1:=⟨n - 1,by omega⟩;have h1:=h1 n (by omega);have h2:=h2 n (by omega);have h3:=h3 n (by omega);rw [← we2] at h1 h2 h3;have hw:=Aq (n:=n) (by omega) r.n (m:=7) (by omega) (by omega);have t15:=Du (n:=n) (by omega) 15;have p0:=AJ (n:=n) (by omega) r 0;have p1:=AJ (n:=n) (by omega) r 1;have p2:=AJ (n:=n) (by omega) r 2;rw [c0] at hw;have t27:=C5 (n:=n) (by omega) 27 [c,x,y];rw [c98];clear hO hG tc tx ty hg ha hi hs1;generalize r.pick 0=r0 at p0 h1;generalize r.pick 1=r1 at p1 h2;generalize r.pick 2=r2 at p2 h3;obtain ⟨o1,x1,k1⟩:=a;obtain ⟨o2,x2,k2⟩:=r;obtain ⟨o3,x3,k3⟩:=c;obtain ⟨o4,x4,k4⟩:=x;obtain ⟨o5,x5,k5⟩:=y;obtain ⟨o6,x6,k6⟩:=r0;obtain ⟨o7,x7,k7⟩:=r1;obtain ⟨o8,x8,k8⟩:=r2;simp only [Tm.n] at hw;simp only [A9,Aq7,Aq6,Ai] at h1 h2 h3 t15 p0 p1 p2 t27 ⊢;cases p
   ·simp (maxSteps:=1000000) only [↓RT,↓XX,XY,↓reduceIte,Nat.reduceBEq,Nat.reduceAdd,Int.reduceEq,Int.reduceLT,Int.reduceLE,↓Ad hw,↓Ad t15,↓Ad p0,↓Ad p1,↓Ad p2,↓AD h1,↓AD h2,↓AD h3,↓Jv,↓Ad t27];first | exact Al _ _ | exact Ay rfl (by simp) _
   ·cases q
    ·simp (maxSteps:=1000000) only [↓RT,↓XX,XY,↓reduceIte,Nat.reduceBEq,Nat.reduceAdd,Int.reduceEq,Int.reduceLT,Int.reduceLE,↓Ad hw,↓Ad t15,↓Ad p0,↓Ad p1,↓Ad p2,↓AD h1,↓AD h2,↓AD h3,↓Jv,↓Ad t27];first | exact Al _ _ | exact Ay rfl (by simp) _
    ·simp (maxSteps:=1000000) only [↓RT,↓XX,XY,↓reduceIte,Nat.reduceBEq,Nat.reduceAdd,Int.reduceEq,Int.reduceLT,Int.reduceLE,↓Ad hw,↓Ad t15,↓Ad p0,↓Ad p1,↓Ad p2,↓AD h1,↓AD h2,↓AD h3,↓Jv,↓Ad t27];first | exact Al _ _ | exact Ay rfl (by simp) _
 by_cases c12:r.n % 7=1∨r.n % 7=2
 ·have hb:=EB g.length 1 (r.pick 0);have hbw:=CZ 1 (r.pick 0);have hbd:=UC ((r.pick 0).plainT 1);obtain ⟨b,hbe⟩:∃b,b=(r.pick 0).plainT 1:=⟨_,rfl⟩;rw [← hbe] at hb hbw hbd;obtain ⟨x,p,⟨N1,h1⟩,tx⟩:=hO g b (r.pick 1) (AP (by omega) hg) ⟨hb,by omega,by omega⟩;have hgb:GOk (e - 2) (g++[(0,b)]):=CQ (AP (by omega) hg) hb (by omega) (by omega);obtain ⟨y,q,⟨N2,h2⟩,ty⟩:=hO (g++[(0,b)]) (a.shift 1 0) (r.pick 2) hgb (by simpa using Bo hs1);have ys:y.sc (g.length+1):=by simpa using ty.sc
  obtain ⟨tt,htt,hok⟩:∃tt:Tm,(r.n % 7=1∧tt=.mk 28 0 [x,y]∨r.n % 7=2∧tt=.mk 21 0 [.mk 20 0 [b,y],x])∧TG 4 e g a tt (p && q):=by
   rcases c12 with h | h
   ·exact ⟨_,.inl ⟨h,rfl⟩,Cl (by decide) (by decide) (BA (by decide) (by decide) (by decide)) tx.sc ys,by have:=tx.wt;have:=ty.wt;rw [Mg];omega,by have:=tx.dp;have:=ty.dp;rw [NS];omega,fun hpq=>by subst hbe;exact .olet e g a (r.pick 0) x y h6 (tx.gr (JX hpq)) (ty.gr (Ie hpq))⟩
   ·exact ⟨_,.inr ⟨h,rfl⟩,Cl (by decide) (by decide) (BA (by decide) (by decide) (by decide)) (Cl (by decide) (by decide) (BA (by decide) (by decide) (by decide)) hb ys) tx.sc,by have:=tx.wt;have:=ty.wt;rw [Mg,Mg];omega,by have:=tx.dp;have:=ty.dp;rw [NS,NS];omega,fun hpq=>by subst hbe;exact .oapp e g a (r.pick 0) x y h6 (tx.gr (JX hpq)) (ty.gr (Ie hpq))⟩
  refine ⟨tt,p && q,⟨N1+N2+100000,fun n hn=>?_⟩,hok⟩
  ·obtain ⟨n,rfl⟩:∃k,n=k+1:=⟨n - 1,by omega⟩;have h1:=h1 n (by omega);have h2:=h2 n (by omega);rw [← we2] at h1 h2;have hw:=Aq (n:=n) (by omega) r.n (m:=7) (by omega) (by omega);have t15:=Du (n:=n) (by omega) 15;have p0:=AJ (n:=n) (by omega) r 0;have p1:=AJ (n:=n) (by omega) r 1;have p2:=AJ (n:=n) (by omega) r 2;have hp:=G9 1 n (r.pick 0) (by omega) (by omega);rw [← hbe] at hp;have hm:=C6 (n:=n) g 0 b (by omega) (by omega);have sh:=CP n a 1 0 (by omega) (Fv _ _ ha.sc) (by omega) (by omega);have t28:=C5 (n:=n) (by omega) 28 [x,y];have t20:=C5 (n:=n) (by omega) 20 [b,y];have t21:=C5 (n:=n) (by omega) 21 [.mk 20 0 [b,y],x];rw [c98];clear hO hG tx ty hg ha hi hs1 hbe hb hgb ys hok c12;generalize r.n % 7=w7 at hw htt;generalize a.shift 1 0=a1 at sh h2;generalize r.pick 0=r0 at p0 hp;generalize r.pick 1=r1 at p1 h1;generalize r.pick 2=r2 at p2 h2;obtain ⟨o1,x1,k1⟩:=a;obtain ⟨o2,x2,k2⟩:=r;obtain ⟨o3,x3,k3⟩:=b;obtain ⟨o4,x4,k4⟩:=x;obtain ⟨o5,x5,k5⟩:=y;obtain ⟨o6,x6,k6⟩:=r0;obtain ⟨o7,x7,k7⟩:=r1;obtain ⟨o8,x8,k8⟩:=r2;obtain ⟨o9,x9,k9⟩:=a1;simp only [Tm.n] at hw;simp only [A9,Aq7,Aq6,Ai] at h1 h2 t15 p0 p1 p2 hp hm sh t28 t20 t21 ⊢;rcases htt with ⟨rfl,rfl⟩ | ⟨rfl,rfl⟩
   ·cases p<;>(simp (maxSteps:=1000000) only [↓RT,↓XX,XY,↓reduceIte,Nat.reduceBEq,Nat.reduceAdd,Int.reduceEq,Int.reduceLT,Int.reduceLE,↓Ad hw,↓Ad t15,↓Ad p0,↓Ad p1,↓Ad p2,↓Ad hp,↓AD h1,↓AO hm,↓AO sh,↓AD h2,↓C1,↓Ad t28,Ai,Aq7,Aq6];first | exact Al _ _ | exact Ay rfl (by simp) _)
   ·cases p<;>(simp (maxSteps:=1000000) only [↓RT,↓XX,XY,↓reduceIte,Nat.reduceBEq,Nat.reduceAdd,Int.reduceEq,Int.reduceLT,Int.reduceLE,↓Ad hw,↓Ad t15,↓Ad p0,↓Ad p1,↓Ad p2,↓Ad hp,↓AD h1,↓AO hm,↓AO sh,↓AD h2,↓C1,↓Ad t20,↓Ad t21,Ai,Aq7,Aq6];first | exact Al _ _ | exact Ay rfl (by simp) _)
 by_cases c3:r.n % 7=3
 ·obtain ⟨x,p,⟨N1,h1⟩,tx⟩:=hO g a (r.pick 0) (AP (by omega) hg) (Bo ha);obtain ⟨y,q,⟨N2,h2⟩,ty⟩:=hO g (.mk 15 0 []) (r.pick 1) (AP (by omega) hg) hi;refine ⟨.mk 23 0 [.mk 22 0 [x,y]],p && q,⟨N1+N2+100000,fun n hn=>?_⟩,EN (by decide) (by decide) (BA (by decide) (by decide) (by decide)) (Cl (by decide) (by decide) (BA (by decide) (by decide) (by decide)) tx.sc ty.sc),by have:=tx.wt;have:=ty.wt;rw [wt1,Mg];omega,by have:=tx.dp;have:=ty.dp;rw [dp1,NS];omega,fun hb=>.ofst e g a x y h6 (tx.gr (JX hb)) (ty.gr (Ie hb))⟩
  ·obtain ⟨n,rfl⟩:∃k,n=k+1:=⟨n - 1,by omega⟩;have h1:=h1 n (by omega);have h2:=h2 n (by omega);rw [← we2] at h1 h2;have hw:=Aq (n:=n) (by omega) r.n (m:=7) (by omega) (by omega);have t15:=Du (n:=n) (by omega) 15;have p0:=AJ (n:=n) (by omega) r 0;have p1:=AJ (n:=n) (by omega) r 1;have p2:=AJ (n:=n) (by omega) r 2;rw [c3] at hw;have t22:=C5 (n:=n) (by omega) 22 [x,y];have t23:=C5 (n:=n) (by omega) 23 [.mk 22 0 [x,y]];rw [c98];clear hO hG tx ty hg ha hi hs1;generalize r.pick 0=r0 at p0 h1;generalize r.pick 1=r1 at p1 h2;obtain ⟨o1,x1,k1⟩:=a;obtain ⟨o2,x2,k2⟩:=r;obtain ⟨o4,x4,k4⟩:=x;obtain ⟨o5,x5,k5⟩:=y;obtain ⟨o6,x6,k6⟩:=r0;obtain ⟨o7,x7,k7⟩:=r1;simp only [Tm.n] at hw;simp only [A9,Aq7,Aq6,Ai] at h1 h2 t15 p0 p1 t22 t23 ⊢;cases p<;>(simp (maxSteps:=1000000) only [↓RT,↓XX,XY,↓reduceIte,Nat.reduceBEq,Nat.reduceAdd,Int.reduceEq,Int.reduceLT,Int.reduceLE,↓Ad hw,↓Ad t15,↓Ad p0,↓Ad p1,↓AD h1,↓AD h2,↓C1,↓Dr,↓Ad t22,↓Ad t23];first | exact Al _ _ | exact Ay rfl (by simp) _)
 by_cases c4:r.n % 7=4
 ·have hga:GOk (e - 2) (g++[(0,a)]):=CQ (AP (by omega) hg) ha.sc (by omega) (by omega);obtain ⟨x,p,⟨N1,h1⟩,tx⟩:=hO (g++[(0,a)]) (a.shift 1 0) (r.pick 0) hga (by simpa using Bo hs1);have xs:x.sc (g.length+1):=by simpa using tx.sc
  refine ⟨.mk 29 0 [a,x],p,⟨N1+100000,fun n hn=>?_⟩,Cl (by decide) (by decide) (BA (by decide) (by decide) (by decide)) ha.sc xs,by have:=tx.wt;rw [Mg];omega,by have:=tx.dp;rw [NS];omega,fun hb=>.ofix e g a x h6 (tx.gr hb)⟩
  ·obtain ⟨n,rfl⟩:∃k,n=k+1:=⟨n - 1,by omega⟩;have h1:=h1 n (by omega);rw [← we2] at h1;have hw:=Aq (n:=n) (by omega) r.n (m:=7) (by omega) (by omega);have t15:=Du (n:=n) (by omega) 15;have p0:=AJ (n:=n) (by omega) r 0;have p1:=AJ (n:=n) (by omega) r 1;have p2:=AJ (n:=n) (by omega) r 2;rw [c4] at hw;have hm:=C6 (n:=n) g 0 a (by omega) (by omega);have sh:=CP n a 1 0 (by omega) (Fv _ _ ha.sc) (by omega) (by omega);have t29:=C5 (n:=n) (by omega) 29 [a,x];rw [c98];clear hO hG tx hg ha hi hs1 hga xs;generalize a.shift 1 0=a1 at sh h1;generalize r.pick 0=r0 at p0 h1;obtain ⟨o1,x1,k1⟩:=a;obtain ⟨o2,x2,k2⟩:=r;obtain ⟨o4,x4,k4⟩:=x;obtain ⟨o6,x6,k6⟩:=r0;obtain ⟨o9,x9,k9⟩:=a1;simp only [Tm.n] at hw;simp only [A9,Aq7,Aq6,Ai] at h1 t15 p0 hm sh t29 ⊢;simp (maxSteps:=1000000) only [↓RT,↓XX,XY,↓reduceIte,Nat.reduceBEq,Nat.reduceAdd,Int.reduceEq,Int.reduceLT,Int.reduceLE,↓Ad hw,↓Ad t15,↓Ad p0,↓AO hm,↓AO sh,↓AD h1,↓C1,↓Ad t29];first | exact Al _ _ | exact Ay rfl (by simp) _
 ·have hla:AOk g.length (.mk 18 0 [a]):=⟨EN (by decide) (by decide) (BA (by decide) (by decide) (by decide)) ha.sc,by rw [wt1];omega,by rw [dp1];omega⟩;obtain ⟨x,p,⟨N1,h1⟩,tx⟩:=hG g (.mk 18 0 [a]) (r.pick 0) (AP (by omega) hg) hla;refine ⟨.mk 30 0 [x],p,⟨N1+100000,fun n hn=>?_⟩,EN (by decide) (by decide) (BA (by decide) (by decide) (by decide)) tx.sc,by have:=tx.wt;rw [wt1];omega,by have:=tx.dp;rw [dp1];omega,fun hb=>.spl e g a x h6 (tx.gr hb)⟩
  ·obtain ⟨n,rfl⟩:∃k,n=k+1:=⟨n - 1,by omega⟩;have h1:=h1 n (by omega);rw [← we] at h1;have hw:=Aq (n:=n) (by omega) r.n (m:=7) (by omega) (by omega);have t15:=Du (n:=n) (by omega) 15;have p0:=AJ (n:=n) (by omega) r 0;have p1:=AJ (n:=n) (by omega) r 1;have p2:=AJ (n:=n) (by omega) r 2;have c1:¬ r.n % 7=1:=fun h=>c12 (.inl h);have c2:¬ r.n % 7=2:=fun h=>c12 (.inr h);have t18:=C5 (n:=n) (by omega) 18 [a];have t30:=C5 (n:=n) (by omega) 30 [x];rw [c98];clear hO hG tx hg ha hi hs1 hla c12 hk1 hk2;generalize r.n % 7=w7 at hw c0 c1 c2 c3 c4;generalize r.pick 0=r0 at p0 h1;obtain ⟨o1,x1,k1⟩:=a;obtain ⟨o2,x2,k2⟩:=r;obtain ⟨o4,x4,k4⟩:=x;obtain ⟨o6,x6,k6⟩:=r0;simp only [Tm.n] at hw;simp only [A9,Aq7,Aq6,Ai] at h1 t15 p0 t18 t30 ⊢;simp (maxSteps:=1000000) only [↓RT,↓XX,XY,↓reduceIte,Nat.reduceBEq,Nat.reduceAdd,Int.reduceEq,Int.reduceLT,Int.reduceLE,↓Ad hw,c0,c1,c2,c3,c4,↓Ad t15,↓Ad p0,↓Dr,↓Ad t18,↓AD h1,↓Ad t30];first | exact Al _ _ | exact Ay rfl (by simp) _
theorem F8 {k:Nat} {a:Tm} {r:Nat} (h:NOk k a) (hr:ar a.op=some r):a.kids.length=r:=IG h.sc rfl hr
theorem W3 {l:List Tm} (h:l.length=2):∃x y,l=[x,y]:=by
 match l,h with
 | [x,y],_=>exact ⟨x,y,rfl⟩
theorem AmE {l:List Tm} (h:l.length=1):∃x,l=[x]:=by
 match l,h with
 | [x],_=>exact ⟨x,rfl⟩
theorem AmG {l:List Tm} (h:l.length=0):l=[]:=List.eq_nil_of_length_eq_zero h
set_option maxRecDepth 20000 in
set_option maxHeartbeats 8000000 in
theorem AcI {e:Nat} (he:e≤10) (hO:1≤e→Dt 68 2 (e - 1)) (hA:6≤e→Ov 98 4 e):Dt 68 2 e:=by
 intro g a0 r hg ha0;have hlen:=hg.len;have hW0:=Kl e;have hD0:200≤Dg e:=by unfold Dg;omega
 have hDm:Dg e≤300:=by unfold Dg;omega
 have hW10:=Ly he;obtain ⟨a,er,⟨N0,h0⟩,hcase,fn,hfn⟩:=Ji (k:=g.length) (by omega) ha0.sc (by have:=ha0.dp;omega);rcases hcase with ⟨rfl,ha⟩ | ⟨her,rfl⟩
 case inr =>
  have hne:er≠0:=by omega
  refine ⟨.z,false,⟨N0+100,fun n hn=>?_⟩,Akq _,by simp only [Tm.z,Tm.wt,Tm.wtL];omega,by simp only [Tm.z,Tm.dp,Tm.dpL];omega,fun h=>by cases h⟩;obtain ⟨n,rfl⟩:∃k,n=k+1:=⟨n - 1,by omega⟩;have h0:=h0 n (by omega);rw [c68];clear hO hA hg ha0;obtain ⟨o1,x1,k1⟩:=a0;obtain ⟨o2,x2,k2⟩:=r;simp only [A9,Tm.z,Aq6,Ai] at h0 ⊢;simp (maxSteps:=1000000) only [↓MV,↓XX,XY,↓reduceIte,Nat.reduceBEq,Nat.reduceAdd,Int.reduceEq,Int.reduceLT,Int.reduceLE,↓Av h0,hne];first | exact Al _ _ | exact Ay rfl (by simp) _
 obtain ⟨v,is,⟨N1,h1⟩,tv0,hhit⟩:=J7 hg 0 ha r.n;have up:∀{t:Tm},Gr 4 e g a t→Gr 2 e g a0 t:=fun h=>.objc e g a0 a _ fn hfn (by omega) ha h;have tv:TG 2 e g a0 v is:=tg (TZ (Nat.zero_le _) tv0) (fun hb=>by
  obtain ⟨i,rfl,hi⟩:=hhit hb;exact up (.var0 e g a i hi))
 clear tv0 hhit;have aw:=ha.wt;have ad:=ha.dp;have hw3m:=Int.emod_nonneg r.op (show (3:Int)≠0 by decide)
 by_cases cv:is=true∧r.op % 3=0∨e=0
 ·refine ⟨v,is,⟨N0+N1+100,fun n hn=>?_⟩,tv⟩;obtain ⟨n,rfl⟩:∃k,n=k+1:=⟨n - 1,by omega⟩;have h0:=h0 n (by omega);have h1:=h1 n (by omega);have hw:=Aq (n:=n) (by omega) r.op (m:=3) (by omega) (by omega);rw [c68];clear up hfn hO hA hg ha0 ha tv;obtain ⟨o0,x0,k0⟩:=a0;obtain ⟨o1,x1,k1⟩:=a;obtain ⟨o2,x2,k2⟩:=r;obtain ⟨o3,x3,k3⟩:=v;simp only [Tm.n,Tm.op] at h1 hw cv;simp only [A9,Ai] at h0 h1 ⊢;generalize o2 % 3=w3 at hw cv;rcases cv with ⟨rfl,rfl⟩ | rfl
  ·simp (maxSteps:=1000000) only [↓MV,↓XX,XY,↓reduceIte,Nat.reduceBEq,Nat.reduceAdd,Int.reduceEq,Int.reduceLT,Int.reduceLE,↓Av h0,↓AD h1,↓Ad hw];first | exact Al _ _ | exact Ay rfl (by simp) _
  ·have hd4:((0:Nat):Int) - 5 < -4:=by omega
   cases is
   ·simp (maxSteps:=1000000) only [↓MV,↓XX,XY,↓reduceIte,Nat.reduceBEq,Nat.reduceAdd,Int.reduceEq,Int.reduceLT,Int.reduceLE,↓Av h0,↓AD h1,↓Ad hw,hd4,Int.reduceSub,Int.reduceLT,Int.reduceNeg];first | exact Al _ _ | exact Ay rfl (by simp) _
   ·by_cases h3:w3=0
    ·simp (maxSteps:=1000000) only [↓MV,↓XX,XY,↓reduceIte,Nat.reduceBEq,Nat.reduceAdd,Int.reduceEq,Int.reduceLT,Int.reduceLE,↓Av h0,↓AD h1,↓Ad hw,h3,hd4,Int.reduceSub,Int.reduceLT,Int.reduceNeg];first | exact Al _ _ | exact Ay rfl (by simp) _
    ·simp (maxSteps:=1000000) only [↓MV,↓XX,XY,↓reduceIte,Nat.reduceBEq,Nat.reduceAdd,Int.reduceEq,Int.reduceLT,Int.reduceLE,↓Av h0,↓AD h1,↓Ad hw,h3,hd4,Int.reduceSub,Int.reduceLT,Int.reduceNeg];first | exact Al _ _ | exact Ay rfl (by simp) _
 have he1:1≤e:=by omega
 have hd4:¬ (e:Int) - 5 < -4:=by omega
 have hv:is=true→¬ r.op % 3=0:=fun h1 h2=>cv (.inl ⟨h1,h2⟩);have hW1:Wg e=4 * Wg (e - 1):=by
  obtain ⟨f,rfl⟩:∃f,e=f+1:=⟨e - 1,by omega⟩;rw [Kn,Nat.add_sub_cancel]
 have hW01:=Kl (e - 1);have hD1:Dg e=Dg (e - 1)+10:=by unfold Dg;omega
 have hD01:200≤Dg (e - 1):=by unfold Dg;omega
 have we:B6 ((e:Int) - 5 - 1)=((e - 1:Nat):Int) - 5:=by rw [Ax (by omega) (by omega)];omega
 have hO:=hO he1;by_cases ca:6≤e∧r.op % 3=1
 ·obtain ⟨t,b,⟨N2,h2⟩,tt⟩:=hA ca.1 g a r hg ha;refine ⟨t,b,⟨N0+N1+N2+100,fun n hn=>?_⟩,Aem tt up⟩;obtain ⟨n,rfl⟩:∃k,n=k+1:=⟨n - 1,by omega⟩;have h0:=h0 n (by omega);have h1:=h1 n (by omega);have h2:=h2 n (by omega);have hw:=Aq (n:=n) (by omega) r.op (m:=3) (by omega) (by omega);rw [ca.2] at hw;have hd0:(0:Int)<(e:Int) - 5:=by omega
  rw [c68];clear up hfn hO hA hg ha0 ha tv tt;obtain ⟨o0,x0,k0⟩:=a0;obtain ⟨o1,x1,k1⟩:=a;obtain ⟨o2,x2,k2⟩:=r;obtain ⟨o3,x3,k3⟩:=v;obtain ⟨o4,x4,k4⟩:=t;simp only [Tm.n,Tm.op] at h1 hw;simp only [A9,Ai] at h0 h1 h2 ⊢;cases is<;>(simp (maxSteps:=1000000) only [↓MV,↓XX,XY,↓reduceIte,Nat.reduceBEq,Nat.reduceAdd,Int.reduceEq,Int.reduceLT,Int.reduceLE,↓Av h0,↓AD h1,↓Ad hw,hd4,hd0,↓AD h2];first | exact Al _ _ | exact Ay rfl (by simp) _)
 have hna:(0:Int)<(e:Int) - 5→¬ r.op % 3=1:=by omega
 by_cases o15:a.op=15
 ·have hl:=AmG (F8 ha (show ar a.op=some 0 by rw [o15];decide))
  by_cases hs:6≤e∧r.op % 2=1
  ·obtain ⟨x,p,⟨N2,h2⟩,tx⟩:=hO g a (r.pick 0) (AP (by omega) hg) (Bo ha);obtain ⟨y,q,⟨N3,h3⟩,ty⟩:=hO g a (r.pick 1) (AP (by omega) hg) (Bo ha);have hj1:=Int.emod_nonneg r.n (show (5:Int)≠0 by decide)
   have hj2:=Int.emod_lt_of_pos r.n (show (0:Int)<5 by decide)
   refine ⟨.mk 26 (r.n % 5) [x,y],p && q,⟨N0+N1+N2+N3+100,fun n hn=>?_⟩,Cl (by decide) (by decide) (by rw [Bz,if_neg (by decide),if_pos rfl];omega) tx.sc ty.sc,by have:=tx.wt;have:=ty.wt;rw [Mg];omega,by have:=tx.dp;have:=ty.dp;rw [NS];omega,fun hb=>up (.oprim e g a x y _ hs.1 o15 (tx.gr (JX hb)) (ty.gr (Ie hb)))⟩;obtain ⟨n,rfl⟩:∃k,n=k+1:=⟨n - 1,by omega⟩;have h0:=h0 n (by omega);have h1:=h1 n (by omega);have h2:=h2 n (by omega);have h3:=h3 n (by omega);rw [← we] at h2 h3;have hw:=Aq (n:=n) (by omega) r.op (m:=3) (by omega) (by omega);have hw2:=Aq (n:=n) (by omega) r.op (m:=2) (by omega) (by omega);rw [hs.2] at hw2;have hw5:=Aq (n:=n) (by omega) r.n (m:=5) (by omega) (by omega);have p0:=AJ (n:=n) (by omega) r 0;have p1:=AJ (n:=n) (by omega) r 1;have hd0:(0:Int)<(e:Int) - 5:=by omega
   replace hna:=hna hd0;rw [c68];clear up hfn hO hA hg ha0 ha tv tx ty hj1 hj2;generalize r.op % 3=w3 at hw hv hna;generalize r.n % 5=w5 at hw5 ⊢;generalize r.pick 0=r0 at p0 h2;generalize r.pick 1=r1 at p1 h3;obtain ⟨o0,x0,k0⟩:=a0;obtain ⟨o1,x1,k1⟩:=a;simp only [Tm.op,Tm.kids] at o15 hl;subst o15 hl;obtain ⟨o2,x2,k2⟩:=r;obtain ⟨o3,x3,k3⟩:=v;obtain ⟨o4,x4,k4⟩:=x;obtain ⟨o5,x5,k5⟩:=y;obtain ⟨o6,x6,k6⟩:=r0;obtain ⟨o7,x7,k7⟩:=r1;simp only [Tm.n,Tm.op] at h1 hw hw2 hw5;simp only [A9,Ai,Aq7,Aq6] at h0 h1 h2 h3 p0 p1 ⊢;cases is<;>cases p<;>(simp (maxSteps:=1000000) only [↓MV,↓XX,XY,↓reduceIte,Nat.reduceBEq,Nat.reduceAdd,Int.reduceEq,Int.reduceLT,Int.reduceLE,↓Av h0,↓AD h1,↓Ad hw,hv,hd4,hd0,hna,↓Ad hw2,↓Ad p0,↓Ad p1,↓AD h2,↓AD h3,↓Ad hw5,↓C1];first | exact Al _ _ | exact Ay rfl (by simp) _)
  ·have hj1:=Int.emod_nonneg r.n (show (20:Int)≠0 by decide)
   have hj2:=Int.emod_lt_of_pos r.n (show (0:Int)<20 by decide)
   refine ⟨.mk 25 (r.n % 20 - 5) [],true,⟨N0+N1+100,fun n hn=>?_⟩,Cm (by decide) (by decide) (by rw [Bz,if_neg (by decide),if_neg (by decide),if_pos rfl];omega),by simp only [Tm.wt,Tm.wtL];omega,by simp only [Tm.dp,Tm.dpL];omega,fun _=>up (.oint e g a _ o15)⟩;obtain ⟨n,rfl⟩:∃k,n=k+1:=⟨n - 1,by omega⟩;have h0:=h0 n (by omega);have h1:=h1 n (by omega);have hw:=Aq (n:=n) (by omega) r.op (m:=3) (by omega) (by omega);have hw2:=Aq (n:=n) (by omega) r.op (m:=2) (by omega) (by omega);have hw20:=Aq (n:=n) (by omega) r.n (m:=20) (by omega) (by omega);have w5:B6 (r.n % 20 - 5)=r.n % 20 - 5:=by rw [Ax]<;>omega
   have hin:=Ado (n:=n) (by omega) (r.n % 20 - 5);rw [← w5] at hin;have h21:(0:Int)<(e:Int) - 5→¬ r.op % 2=1:=by omega
   rw [c68,← w5];clear up hfn hO hA hg ha0 ha tv hj1 hj2 w5 hs;generalize r.op % 3=w3 at hw hv hna;generalize r.op % 2=w2 at hw2 h21;generalize r.n % 20=w20 at hw20 hin ⊢;obtain ⟨o0,x0,k0⟩:=a0;obtain ⟨o1,x1,k1⟩:=a;simp only [Tm.op,Tm.kids] at o15 hl;subst o15 hl;obtain ⟨o2,x2,k2⟩:=r;obtain ⟨o3,x3,k3⟩:=v;simp only [Tm.n,Tm.op] at h1 hw hw2 hw20;simp only [A9,Ai,Aq7,Aq6] at h0 h1 hin ⊢;cases is<;>by_cases hd0:(0:Int)<(e:Int) - 5<;>(simp (maxSteps:=1000000) only [↓MV,↓XX,XY,↓reduceIte,Nat.reduceBEq,Nat.reduceAdd,Int.reduceEq,Int.reduceLT,Int.reduceLE,↓Av h0,↓AD h1,↓Ad hw,hv,hd4,hd0,hna,↓Ad hw2,h21,↓Ad hw20,↓Av hin];first | exact Al _ _ | exact Ay rfl (by simp) _)
 by_cases o16:a.op=16
 ·obtain ⟨d,c,hl⟩:=W3 (F8 ha (show ar a.op=some 2 by rw [o16];decide))
  have hd:NOk g.length d∧NOk g.length c:=by
   obtain ⟨o1,x1,k1⟩:=a;simp only [Tm.op,Tm.kids] at o16 hl;subst o16 hl;have hsc:=ha.sc;rw [Tm.sc] at hsc;rw [Mg] at aw;rw [NS] at ad;exact ⟨⟨hsc.2.2.1,by omega,by omega⟩,⟨hsc.2.2.2.1,by omega,by omega⟩⟩
  obtain ⟨hd,hc⟩:=hd;have hgd:GOk (e - 1) (g++[(0,d)]):=CQ (by rw [show e - 1+1=e by omega];exact hg) hd.sc (by have:=hd.wt;omega) (by have:=hd.dp;omega)
  obtain ⟨x,p,⟨N2,h2⟩,tx⟩:=hO (g++[(0,d)]) (c.shift 1 0) (r.pick 0) hgd (by simpa using Bo (Nr hc (by omega) 1 (by omega)));have xs:x.sc (g.length+1):=by simpa using tx.sc
  refine ⟨.mk 20 0 [d,x],p,⟨N0+N1+N2+100000,fun n hn=>?_⟩,Cl (by decide) (by decide) (BA (by decide) (by decide) (by decide)) hd.sc xs,by have:=tx.wt;have:=hd.wt;rw [Mg];omega,by have:=tx.dp;have:=hd.dp;rw [NS];omega,fun hb=>up (by
   obtain ⟨oa,xa,ka⟩:=a;simp only [Tm.op,Tm.kids] at o16 hl;subst o16 hl;exact .olam e g _ d c x (tx.gr hb))⟩
  ·obtain ⟨n,rfl⟩:∃k,n=k+1:=⟨n - 1,by omega⟩;have h0:=h0 n (by omega);have h1:=h1 n (by omega);have h2:=h2 n (by omega);rw [← we] at h2;have hw:=Aq (n:=n) (by omega) r.op (m:=3) (by omega) (by omega);have p0:=AJ (n:=n) (by omega) r 0;have hm:=C6 (n:=n) g 0 d (by omega) (by omega);have sh:=CP n c 1 0 (by have:=hc.wt;omega) (Fv _ _ hc.sc) (by omega) (by have:=hc.wt;omega);have t20:=C5 (n:=n) (by omega) 20 [d,x];rw [c68];clear up hfn hO hA hg ha0 ha tv tx hd hc hgd xs;generalize r.op % 3=w3 at hw hv hna;generalize c.shift 1 0=c1 at sh h2;generalize r.pick 0=r0 at p0 h2;obtain ⟨o0,x0,k0⟩:=a0;obtain ⟨o1,x1,k1⟩:=a;simp only [Tm.op,Tm.kids] at o16 hl;subst o16 hl;obtain ⟨o2,x2,k2⟩:=r;obtain ⟨o3,x3,k3⟩:=v;obtain ⟨o4,x4,k4⟩:=x;obtain ⟨o5,x5,k5⟩:=d;obtain ⟨o6,x6,k6⟩:=c;obtain ⟨o7,x7,k7⟩:=c1;obtain ⟨o8,x8,k8⟩:=r0;simp only [Tm.n,Tm.op] at h1 hw;simp only [A9,Ai,Aq7,Aq6] at h0 h1 h2 p0 hm sh t20 ⊢;cases is<;>by_cases hd0:(0:Int)<(e:Int) - 5<;>(simp (maxSteps:=1000000) only [↓MV,↓XX,XY,↓reduceIte,Nat.reduceBEq,Nat.reduceAdd,Int.reduceEq,Int.reduceLT,Int.reduceLE,↓Av h0,↓AD h1,↓Ad hw,hv,hd4,hd0,hna,↓Cy,↓CV,↓Ad p0,↓AO hm,↓AO sh,↓AD h2,↓C1,↓Ad t20];first | exact Al _ _ | exact Ay rfl (by simp) _)
 by_cases o17:a.op=17
 ·obtain ⟨d,c,hl⟩:=W3 (F8 ha (show ar a.op=some 2 by rw [o17];decide))
  have hd:NOk g.length d∧NOk g.length c:=by
   obtain ⟨o1,x1,k1⟩:=a;simp only [Tm.op,Tm.kids] at o17 hl;subst o17 hl;have hsc:=ha.sc;rw [Tm.sc] at hsc;rw [Mg] at aw;rw [NS] at ad;exact ⟨⟨hsc.2.2.1,by omega,by omega⟩,⟨hsc.2.2.2.1,by omega,by omega⟩⟩
  obtain ⟨hd,hc⟩:=hd;obtain ⟨x,p,⟨N2,h2⟩,tx⟩:=hO g d (r.pick 0) (AP (by omega) hg) (Bo hd);obtain ⟨y,q,⟨N3,h3⟩,ty⟩:=hO g c (r.pick 1) (AP (by omega) hg) (Bo hc);refine ⟨.mk 22 0 [x,y],p && q,⟨N0+N1+N2+N3+100,fun n hn=>?_⟩,Cl (by decide) (by decide) (BA (by decide) (by decide) (by decide)) tx.sc ty.sc,by have:=tx.wt;have:=ty.wt;rw [Mg];omega,by have:=tx.dp;have:=ty.dp;rw [NS];omega,fun hb=>up (by
   obtain ⟨oa,xa,ka⟩:=a;simp only [Tm.op,Tm.kids] at o17 hl;subst o17 hl;exact .opair e g _ d c x y (tx.gr (JX hb)) (ty.gr (Ie hb)))⟩
  ·obtain ⟨n,rfl⟩:∃k,n=k+1:=⟨n - 1,by omega⟩;have h0:=h0 n (by omega);have h1:=h1 n (by omega);have h2:=h2 n (by omega);have h3:=h3 n (by omega);rw [← we] at h2 h3;have hw:=Aq (n:=n) (by omega) r.op (m:=3) (by omega) (by omega);have p0:=AJ (n:=n) (by omega) r 0;have p1:=AJ (n:=n) (by omega) r 1;have t22:=C5 (n:=n) (by omega) 22 [x,y];rw [c68];clear up hfn hO hA hg ha0 ha tv tx ty hd hc;generalize r.op % 3=w3 at hw hv hna;generalize r.pick 0=r0 at p0 h2;generalize r.pick 1=r1 at p1 h3;obtain ⟨o0,x0,k0⟩:=a0;obtain ⟨o1,x1,k1⟩:=a;simp only [Tm.op,Tm.kids] at o17 hl;subst o17 hl;obtain ⟨o2,x2,k2⟩:=r;obtain ⟨o3,x3,k3⟩:=v;obtain ⟨o4,x4,k4⟩:=x;obtain ⟨o5,x5,k5⟩:=d;obtain ⟨o6,x6,k6⟩:=c;obtain ⟨o7,x7,k7⟩:=y;obtain ⟨o8,x8,k8⟩:=r0;obtain ⟨o9,x9,k9⟩:=r1;simp only [Tm.n,Tm.op] at h1 hw;simp only [A9,Ai,Aq7,Aq6] at h0 h1 h2 h3 p0 p1 t22 ⊢;cases is<;>by_cases hd0:(0:Int)<(e:Int) - 5<;>cases p<;>(simp (maxSteps:=1000000) only [↓MV,↓XX,XY,↓reduceIte,Nat.reduceBEq,Nat.reduceAdd,Int.reduceEq,Int.reduceLT,Int.reduceLE,↓Av h0,↓AD h1,↓Ad hw,hv,hd4,hd0,hna,↓Cy,↓CV,↓Ad p0,↓Ad p1,↓AD h2,↓AD h3,↓C1,↓Ad t22];first | exact Al _ _ | exact Ay rfl (by simp) _)
 refine ⟨v,is,⟨N0+N1+100,fun n hn=>?_⟩,tv⟩
 ·obtain ⟨n,rfl⟩:∃k,n=k+1:=⟨n - 1,by omega⟩;have h0:=h0 n (by omega);have h1:=h1 n (by omega);have hw:=Aq (n:=n) (by omega) r.op (m:=3) (by omega) (by omega);rw [c68];clear up hfn hO hA hg ha0 ha tv;generalize r.op % 3=w3 at hw hv hna;obtain ⟨o0,x0,k0⟩:=a0;obtain ⟨o1,x1,k1⟩:=a;obtain ⟨o2,x2,k2⟩:=r;obtain ⟨o3,x3,k3⟩:=v;simp only [Tm.n,Tm.op] at h1 hw o15 o16 o17;simp only [A9,Ai] at h0 h1 ⊢;cases is<;>by_cases hd0:(0:Int)<(e:Int) - 5<;>(simp (maxSteps:=1000000) only [↓MV,↓XX,XY,↓reduceIte,Nat.reduceBEq,Nat.reduceAdd,Int.reduceEq,Int.reduceLT,Int.reduceLE,↓Av h0,↓AD h1,↓Ad hw,hv,hd4,hd0,hna,o15,o16,o17];first | exact Al _ _ | exact Ay rfl (by simp) _)
set_option maxRecDepth 20000 in
set_option maxHeartbeats 8000000 in
theorem AhB {e:Nat} (he:e≤10) (hG:1≤e→Dt 70 1 (e - 1)) (hO:1≤e→Dt 68 2 (e - 1)) (hA:6≤e→Ov 100 3 e) (hP:1≤e→Afa 101 3 e):Dt 70 1 e:=by
 intro g a0 r hg ha0;have hlen:=hg.len;have hW0:=Kl e;have hD0:200≤Dg e:=by unfold Dg;omega
 have hDm:Dg e≤300:=by unfold Dg;omega
 have hW10:=Ly he;obtain ⟨a,er,⟨N0,h0⟩,hcase,fn,hfn⟩:=Ji (k:=g.length) (by omega) ha0.sc (by have:=ha0.dp;omega);rcases hcase with ⟨rfl,ha⟩ | ⟨her,rfl⟩
 case inr =>
  have hne:er≠0:=by omega
  refine ⟨.z,false,⟨N0+100,fun n hn=>?_⟩,Akq _,by simp only [Tm.z,Tm.wt,Tm.wtL];omega,by simp only [Tm.z,Tm.dp,Tm.dpL];omega,fun h=>by cases h⟩;obtain ⟨n,rfl⟩:∃k,n=k+1:=⟨n - 1,by omega⟩;have h0:=h0 n (by omega);rw [c70];clear hG hO hA hP hg ha0;obtain ⟨o1,x1,k1⟩:=a0;obtain ⟨o2,x2,k2⟩:=r;simp only [A9,Tm.z,Aq6,Ai] at h0 ⊢;simp (maxSteps:=1000000) only [↓Jm,↓XX,XY,↓reduceIte,Nat.reduceBEq,Nat.reduceAdd,Int.reduceEq,Int.reduceLT,Int.reduceLE,↓Av h0,hne];first | exact Al _ _ | exact Ay rfl (by simp) _
 obtain ⟨v,is,⟨N1,h1⟩,tv0,hhit⟩:=J7 hg 1 ha r.n;have up:∀{t:Tm},Gr 3 e g a t→Gr 1 e g a0 t:=fun h=>.grow e g a0 a _ fn hfn (by omega) ha h;have tv:TG 1 e g a0 v is:=tg (TZ (Nat.zero_le _) tv0) (fun hb=>by
  obtain ⟨i,rfl,hi⟩:=hhit hb;exact up (.var1 e g a i hi))
 clear tv0 hhit;have aw:=ha.wt;have ad:=ha.dp;have hw3m:=Int.emod_nonneg r.op (show (3:Int)≠0 by decide)
 by_cases cv:is=true∧r.op % 3=0∨e=0
 ·refine ⟨v,is,⟨N0+N1+100,fun n hn=>?_⟩,tv⟩;obtain ⟨n,rfl⟩:∃k,n=k+1:=⟨n - 1,by omega⟩;have h0:=h0 n (by omega);have h1:=h1 n (by omega);have hw:=Aq (n:=n) (by omega) r.op (m:=3) (by omega) (by omega);rw [c70];clear up hfn hG hO hA hP hg ha0 ha tv;obtain ⟨o0,x0,k0⟩:=a0;obtain ⟨o1,x1,k1⟩:=a;obtain ⟨o2,x2,k2⟩:=r;obtain ⟨o3,x3,k3⟩:=v;simp only [Tm.n,Tm.op] at h1 hw cv;simp only [A9,Ai] at h0 h1 ⊢;generalize o2 % 3=w3 at hw cv;rcases cv with ⟨rfl,rfl⟩ | rfl
  ·simp (maxSteps:=1000000) only [↓Jm,↓XX,XY,↓reduceIte,Nat.reduceBEq,Nat.reduceAdd,Int.reduceEq,Int.reduceLT,Int.reduceLE,↓Av h0,↓AD h1,↓Ad hw];first | exact Al _ _ | exact Ay rfl (by simp) _
  ·have hd4:((0:Nat):Int) - 5 < -4:=by omega
   cases is
   ·simp (maxSteps:=1000000) only [↓Jm,↓XX,XY,↓reduceIte,Nat.reduceBEq,Nat.reduceAdd,Int.reduceEq,Int.reduceLT,Int.reduceLE,↓Av h0,↓AD h1,↓Ad hw,hd4,Int.reduceSub,Int.reduceLT,Int.reduceNeg];first | exact Al _ _ | exact Ay rfl (by simp) _
   ·by_cases h3:w3=0
    ·simp (maxSteps:=1000000) only [↓Jm,↓XX,XY,↓reduceIte,Nat.reduceBEq,Nat.reduceAdd,Int.reduceEq,Int.reduceLT,Int.reduceLE,↓Av h0,↓AD h1,↓Ad hw,h3,hd4,Int.reduceSub,Int.reduceLT,Int.reduceNeg];first | exact Al _ _ | exact Ay rfl (by simp) _
    ·simp (maxSteps:=1000000) only [↓Jm,↓XX,XY,↓reduceIte,Nat.reduceBEq,Nat.reduceAdd,Int.reduceEq,Int.reduceLT,Int.reduceLE,↓Av h0,↓AD h1,↓Ad hw,h3,hd4,Int.reduceSub,Int.reduceLT,Int.reduceNeg];first | exact Al _ _ | exact Ay rfl (by simp) _
 have he1:1≤e:=by omega
 have hd4:¬ (e:Int) - 5 < -4:=by omega
 have hv:is=true→¬ r.op % 3=0:=fun h1 h2=>cv (.inl ⟨h1,h2⟩);have hW1:Wg e=4 * Wg (e - 1):=by
  obtain ⟨f,rfl⟩:∃f,e=f+1:=⟨e - 1,by omega⟩;rw [Kn,Nat.add_sub_cancel]
 have hW01:=Kl (e - 1);have hD1:Dg e=Dg (e - 1)+10:=by unfold Dg;omega
 have hD01:200≤Dg (e - 1):=by unfold Dg;omega
 have we:B6 ((e:Int) - 5 - 1)=((e - 1:Nat):Int) - 5:=by rw [Ax (by omega) (by omega)];omega
 have hO:=hO he1;have hG:=hG he1;have hP:=hP he1;by_cases ca:6≤e∧r.op % 7=6
 ·obtain ⟨t,b,⟨N2,h2⟩,tt⟩:=hA ca.1 g a r hg ha;refine ⟨t,b,⟨N0+N1+N2+100,fun n hn=>?_⟩,Aem tt up⟩;obtain ⟨n,rfl⟩:∃k,n=k+1:=⟨n - 1,by omega⟩;have h0:=h0 n (by omega);have h1:=h1 n (by omega);have h2:=h2 n (by omega);have hw:=Aq (n:=n) (by omega) r.op (m:=3) (by omega) (by omega);have hw7:=Aq (n:=n) (by omega) r.op (m:=7) (by omega) (by omega);rw [ca.2] at hw7;have hd0:(0:Int)<(e:Int) - 5:=by omega
  rw [c70];clear up hfn hG hO hA hP hg ha0 ha tv tt;generalize r.op % 3=w3 at hw hv;obtain ⟨o0,x0,k0⟩:=a0;obtain ⟨o1,x1,k1⟩:=a;obtain ⟨o2,x2,k2⟩:=r;obtain ⟨o3,x3,k3⟩:=v;obtain ⟨o4,x4,k4⟩:=t;simp only [Tm.n,Tm.op] at h1 hw hw7;simp only [A9,Ai] at h0 h1 h2 ⊢;cases is<;>(simp (maxSteps:=1000000) only [↓Jm,↓XX,XY,↓reduceIte,Nat.reduceBEq,Nat.reduceAdd,Int.reduceEq,Int.reduceLT,Int.reduceLE,↓Av h0,↓AD h1,↓Ad hw,↓Ad hw7,hv,hd4,hd0,↓AD h2];first | exact Al _ _ | exact Ay rfl (by simp) _)
 have hna:(0:Int)<(e:Int) - 5→¬ r.op % 7=6:=by omega
 by_cases hpl:a.op=10∨a.op=14∨a.op=2
 ·obtain ⟨t,b,⟨N2,h2⟩,tt⟩:=hP g a r hg ha hpl;refine ⟨t,b,⟨N0+N1+N2+100,fun n hn=>?_⟩,Aem tt up⟩
  ·obtain ⟨n,rfl⟩:∃k,n=k+1:=⟨n - 1,by omega⟩;have h0:=h0 n (by omega);have h1:=h1 n (by omega);have h2:=h2 n (by omega);have hw:=Aq (n:=n) (by omega) r.op (m:=3) (by omega) (by omega);have hw7:=Aq (n:=n) (by omega) r.op (m:=7) (by omega) (by omega);rw [c70];clear up hfn hG hO hA hP hg ha0 ha tv tt;generalize r.op % 3=w3 at hw hv;generalize r.op % 7=w7 at hw7 hna;obtain ⟨o0,x0,k0⟩:=a0;obtain ⟨o1,x1,k1⟩:=a;obtain ⟨o2,x2,k2⟩:=r;obtain ⟨o3,x3,k3⟩:=v;obtain ⟨o4,x4,k4⟩:=t;simp only [Tm.n,Tm.op] at h1 hw hw7 hpl;simp only [A9,Ai] at h0 h1 h2 ⊢;rcases hpl with rfl | rfl | rfl
   ·cases is<;>by_cases hd0:(0:Int)<(e:Int) - 5<;>(simp (maxSteps:=1000000) only [↓Jm,↓XX,XY,↓reduceIte,Nat.reduceBEq,Nat.reduceAdd,Int.reduceEq,Int.reduceLT,Int.reduceLE,↓Av h0,↓AD h1,↓Ad hw,↓Ad hw7,hv,hd4,hd0,hna,↓AD h2];first | exact Al _ _ | exact Ay rfl (by simp) _)
   ·cases is<;>by_cases hd0:(0:Int)<(e:Int) - 5<;>(simp (maxSteps:=1000000) only [↓Jm,↓XX,XY,↓reduceIte,Nat.reduceBEq,Nat.reduceAdd,Int.reduceEq,Int.reduceLT,Int.reduceLE,↓Av h0,↓AD h1,↓Ad hw,↓Ad hw7,hv,hd4,hd0,hna,↓AD h2];first | exact Al _ _ | exact Ay rfl (by simp) _)
   ·cases is<;>by_cases hd0:(0:Int)<(e:Int) - 5<;>(simp (maxSteps:=1000000) only [↓Jm,↓XX,XY,↓reduceIte,Nat.reduceBEq,Nat.reduceAdd,Int.reduceEq,Int.reduceLT,Int.reduceLE,↓Av h0,↓AD h1,↓Ad hw,↓Ad hw7,hv,hd4,hd0,hna,↓AD h2];first | exact Al _ _ | exact Ay rfl (by simp) _)
 by_cases o3:a.op=3
 ·obtain ⟨d,c,hl⟩:=W3 (F8 ha (show ar a.op=some 2 by rw [o3];decide))
  have hd:NOk g.length d∧NOk (g.length+1) c:=by
   obtain ⟨o1,x1,k1⟩:=a;simp only [Tm.op,Tm.kids] at o3 hl;subst o3 hl;have hsc:=ha.sc;rw [Tm.sc] at hsc;rw [Mg] at aw;rw [NS] at ad;exact ⟨⟨hsc.2.2.1,by omega,by omega⟩,⟨hsc.2.2.2.1,by omega,by omega⟩⟩
  obtain ⟨hd,hc⟩:=hd;have hgd:GOk (e - 1) (g++[(1,d)]):=CQ (by rw [show e - 1+1=e by omega];exact hg) hd.sc (by have:=hd.wt;omega) (by have:=hd.dp;omega)
  obtain ⟨x,p,⟨N2,h2⟩,tx⟩:=hG (g++[(1,d)]) c (r.pick 0) hgd (by simpa using Bo hc);have xs:x.sc (g.length+1):=by simpa using tx.sc
  refine ⟨.mk 4 0 [d,x],p,⟨N0+N1+N2+100000,fun n hn=>?_⟩,Cl (by decide) (by decide) (BA (by decide) (by decide) (by decide)) hd.sc xs,by have:=tx.wt;have:=hd.wt;rw [Mg];omega,by have:=tx.dp;have:=hd.dp;rw [NS];omega,fun hb=>up (by
   obtain ⟨oa,xa,ka⟩:=a;simp only [Tm.op,Tm.kids] at o3 hl;subst o3 hl;exact .lam e g _ d c x (tx.gr hb))⟩
  ·obtain ⟨n,rfl⟩:∃k,n=k+1:=⟨n - 1,by omega⟩;have h0:=h0 n (by omega);have h1:=h1 n (by omega);have h2:=h2 n (by omega);rw [← we] at h2;have hw:=Aq (n:=n) (by omega) r.op (m:=3) (by omega) (by omega);have hw7:=Aq (n:=n) (by omega) r.op (m:=7) (by omega) (by omega);have p0:=AJ (n:=n) (by omega) r 0;have hm:=C6 (n:=n) g 1 d (by omega) (by omega);have t4:=C5 (n:=n) (by omega) 4 [d,x];rw [c70];clear up hfn hG hO hA hP hg ha0 ha tv tx hd hc hgd xs hpl;generalize r.op % 3=w3 at hw hv;generalize r.op % 7=w7 at hw7 hna;generalize r.pick 0=r0 at p0 h2;obtain ⟨o0,x0,k0⟩:=a0;obtain ⟨o1,x1,k1⟩:=a;simp only [Tm.op,Tm.kids] at o3 hl;subst o3 hl;obtain ⟨o2,x2,k2⟩:=r;obtain ⟨o3,x3,k3⟩:=v;obtain ⟨o4,x4,k4⟩:=x;obtain ⟨o5,x5,k5⟩:=d;obtain ⟨o6,x6,k6⟩:=c;obtain ⟨o8,x8,k8⟩:=r0;simp only [Tm.n,Tm.op] at h1 hw hw7;simp only [A9,Ai,Aq7,Aq6] at h0 h1 h2 p0 hm t4 ⊢;cases is<;>by_cases hd0:(0:Int)<(e:Int) - 5<;>(simp (maxSteps:=1000000) only [↓Jm,↓XX,XY,↓reduceIte,Nat.reduceBEq,Nat.reduceAdd,Int.reduceEq,Int.reduceLT,Int.reduceLE,↓Av h0,↓AD h1,↓Ad hw,↓Ad hw7,hv,hd4,hd0,hna,↓Cy,↓CV,↓Ad p0,↓AO hm,↓AD h2,↓C1,↓Ad t4];first | exact Al _ _ | exact Ay rfl (by simp) _)
 by_cases o6:a.op=6
 ·obtain ⟨d,c,hl⟩:=W3 (F8 ha (show ar a.op=some 2 by rw [o6];decide))
  have hd:NOk g.length d∧NOk (g.length+1) c:=by
   obtain ⟨o1,x1,k1⟩:=a;simp only [Tm.op,Tm.kids] at o6 hl;subst o6 hl;have hsc:=ha.sc;rw [Tm.sc] at hsc;rw [Mg] at aw;rw [NS] at ad;exact ⟨⟨hsc.2.2.1,by omega,by omega⟩,⟨hsc.2.2.2.1,by omega,by omega⟩⟩
  obtain ⟨hd,hc⟩:=hd;obtain ⟨x,p,⟨N2,h2⟩,tx⟩:=hG g d (r.pick 0) (AP (by omega) hg) (Bo hd);cases p
  ·refine ⟨v,is,⟨N0+N1+N2+100,fun n hn=>?_⟩,tv⟩;obtain ⟨n,rfl⟩:∃k,n=k+1:=⟨n - 1,by omega⟩;have h0:=h0 n (by omega);have h1:=h1 n (by omega);have h2:=h2 n (by omega);rw [← we] at h2;have hw:=Aq (n:=n) (by omega) r.op (m:=3) (by omega) (by omega);have hw7:=Aq (n:=n) (by omega) r.op (m:=7) (by omega) (by omega);have p0:=AJ (n:=n) (by omega) r 0;rw [c70];clear up hfn hG hO hA hP hg ha0 ha tv tx hd hc hpl;generalize r.op % 3=w3 at hw hv;generalize r.op % 7=w7 at hw7 hna;generalize r.pick 0=r0 at p0 h2;obtain ⟨o0,x0,k0⟩:=a0;obtain ⟨o1,x1,k1⟩:=a;simp only [Tm.op,Tm.kids] at o6 hl;subst o6 hl;obtain ⟨o2,x2,k2⟩:=r;obtain ⟨o3,x3,k3⟩:=v;obtain ⟨o4,x4,k4⟩:=x;obtain ⟨o5,x5,k5⟩:=d;obtain ⟨o6,x6,k6⟩:=c;obtain ⟨o8,x8,k8⟩:=r0;simp only [Tm.n,Tm.op] at h1 hw hw7;simp only [A9,Ai,Aq7,Aq6] at h0 h1 h2 p0 ⊢;cases is<;>by_cases hd0:(0:Int)<(e:Int) - 5<;>(simp (maxSteps:=1000000) only [↓Jm,↓XX,XY,↓reduceIte,Nat.reduceBEq,Nat.reduceAdd,Int.reduceEq,Int.reduceLT,Int.reduceLE,↓Av h0,↓AD h1,↓Ad hw,↓Ad hw7,hv,hd4,hd0,hna,↓Cy,↓CV,↓Ad p0,↓AD h2];first | exact Al _ _ | exact Ay rfl (by simp) _)
  ·have hss:AOk g.length (c.subst 0 0 x):=by
    have xw:=tx.wt;have xd:=tx.dp;have cw:=hc.wt;have cd:=hc.dp;have h1:=Lk c x 0 0;have h2:=TH c x 0 0;have h3:c.wt * x.wt≤3000 * 21000000000:=Nat.mul_le_mul cw (by omega);exact ⟨LQ c x 0 g.length hc.sc tx.sc (by omega),by omega,by omega⟩
   obtain ⟨y,q,⟨N3,h3⟩,ty⟩:=hG g (c.subst 0 0 x) (r.pick 1) (AP (by omega) hg) hss;refine ⟨.mk 7 0 [a,x,y],q,⟨N0+N1+N2+N3+1000000000000,fun n hn=>?_⟩,UR (by decide) (by decide) (BA (by decide) (by decide) (by decide)) ha.sc tx.sc ty.sc,by have:=tx.wt;have:=ty.wt;rw [wt3];omega,by have:=tx.dp;have:=ty.dp;rw [dp3];omega,fun hb=>up (by
   obtain ⟨oa,xa,ka⟩:=a;simp only [Tm.op,Tm.kids] at o6 hl;subst o6 hl;exact .pair e g _ d c x y (Afd tx (by omega)) (tx.gr rfl) (ty.gr hb))⟩
   obtain ⟨n,rfl⟩:∃k,n=k+1:=⟨n - 1,by omega⟩;have h0:=h0 n (by omega);have h1:=h1 n (by omega);have h2:=h2 n (by omega);have h3:=h3 n (by omega);rw [← we] at h2 h3;have hw:=Aq (n:=n) (by omega) r.op (m:=3) (by omega) (by omega);have hw7:=Aq (n:=n) (by omega) r.op (m:=7) (by omega) (by omega);have p0:=AJ (n:=n) (by omega) r 0;have p1:=AJ (n:=n) (by omega) r 1;have hsb:=Uo (n:=n) c x 0 (Fv _ _ tx.sc) (by have:=tx.wt;omega) (by have:=tx.wt;have:=hc.wt;omega) (Fv _ _ hc.sc) (by have:=hc.wt;omega) (by omega) (by have:=hc.wt;omega);have t7:=C5 (n:=n) (by omega) 7 [a,x,y];rw [c70];clear up hfn hG hO hA hP hg ha0 ha tv tx ty hd hc hpl hss;generalize r.op % 3=w3 at hw hv;generalize r.op % 7=w7 at hw7 hna;generalize c.subst 0 0 x=sb at hsb h3;generalize r.pick 0=r0 at p0 h2;generalize r.pick 1=r1 at p1 h3;obtain ⟨o0,x0,k0⟩:=a0;obtain ⟨o1,x1,k1⟩:=a;simp only [Tm.op,Tm.kids] at o6 hl;subst o6 hl;obtain ⟨o2,x2,k2⟩:=r;obtain ⟨o3,x3,k3⟩:=v;obtain ⟨o4,x4,k4⟩:=x;obtain ⟨o5,x5,k5⟩:=d;obtain ⟨o6,x6,k6⟩:=c;obtain ⟨o7,x7,k7⟩:=y;obtain ⟨o8,x8,k8⟩:=r0;obtain ⟨o9,x9,k9⟩:=r1;obtain ⟨oa,xa,ka⟩:=sb;simp only [Tm.n,Tm.op] at h1 hw hw7;simp only [A9,Ai,Aq7,Aq6] at h0 h1 h2 h3 p0 p1 hsb t7 ⊢;cases is<;>by_cases hd0:(0:Int)<(e:Int) - 5<;>(simp (maxSteps:=1000000) only [↓Jm,↓XX,XY,↓reduceIte,Nat.reduceBEq,Nat.reduceAdd,Int.reduceEq,Int.reduceLT,Int.reduceLE,↓Av h0,↓AD h1,↓Ad hw,↓Ad hw7,hv,hd4,hd0,hna,↓Cy,↓CV,↓Ad p0,↓Ad p1,↓AD h2,↓AO hsb,↓AD h3,↓Jv,↓Ad t7];first | exact Al _ _ | exact Ay rfl (by simp) _)
 by_cases o18:a.op=18
 ·obtain ⟨d,hl⟩:=AmE (F8 ha (show ar a.op=some 1 by rw [o18];decide))
  have hd:NOk g.length d:=by
   obtain ⟨o1,x1,k1⟩:=a;simp only [Tm.op,Tm.kids] at o18 hl;subst o18 hl;have hsc:=ha.sc;rw [Tm.sc] at hsc;rw [wt1] at aw;rw [dp1] at ad;exact ⟨hsc.2.2.1,by omega,by omega⟩
  obtain ⟨x,p,⟨N2,h2⟩,tx⟩:=hO g d (r.pick 0) (AP (by omega) hg) (Bo hd);refine ⟨.mk 19 0 [x],p,⟨N0+N1+N2+100,fun n hn=>?_⟩,EN (by decide) (by decide) (BA (by decide) (by decide) (by decide)) tx.sc,by have:=tx.wt;rw [wt1];omega,by have:=tx.dp;rw [dp1];omega,fun hb=>up (by
   obtain ⟨oa,xa,ka⟩:=a;simp only [Tm.op,Tm.kids] at o18 hl;subst o18 hl;exact .quo e g _ d x (tx.gr hb))⟩
  ·obtain ⟨n,rfl⟩:∃k,n=k+1:=⟨n - 1,by omega⟩;have h0:=h0 n (by omega);have h1:=h1 n (by omega);have h2:=h2 n (by omega);rw [← we] at h2;have hw:=Aq (n:=n) (by omega) r.op (m:=3) (by omega) (by omega);have hw7:=Aq (n:=n) (by omega) r.op (m:=7) (by omega) (by omega);have p0:=AJ (n:=n) (by omega) r 0;have t19:=C5 (n:=n) (by omega) 19 [x];rw [c70];clear up hfn hG hO hA hP hg ha0 ha tv tx hd hpl;generalize r.op % 3=w3 at hw hv;generalize r.op % 7=w7 at hw7 hna;generalize r.pick 0=r0 at p0 h2;obtain ⟨o0,x0,k0⟩:=a0;obtain ⟨o1,x1,k1⟩:=a;simp only [Tm.op,Tm.kids] at o18 hl;subst o18 hl;obtain ⟨o2,x2,k2⟩:=r;obtain ⟨o3,x3,k3⟩:=v;obtain ⟨o4,x4,k4⟩:=x;obtain ⟨o5,x5,k5⟩:=d;obtain ⟨o8,x8,k8⟩:=r0;simp only [Tm.n,Tm.op] at h1 hw hw7;simp only [A9,Ai,Aq7,Aq6] at h0 h1 h2 p0 t19 ⊢;cases is<;>by_cases hd0:(0:Int)<(e:Int) - 5<;>(simp (maxSteps:=1000000) only [↓Jm,↓XX,XY,↓reduceIte,Nat.reduceBEq,Nat.reduceAdd,Int.reduceEq,Int.reduceLT,Int.reduceLE,↓Av h0,↓AD h1,↓Ad hw,↓Ad hw7,hv,hd4,hd0,hna,↓Cy,↓Ad p0,↓AD h2,↓Dr,↓Ad t19];first | exact Al _ _ | exact Ay rfl (by simp) _)
 have q1:a.op≠10:=fun h=>hpl (.inl h);have q2:a.op≠14:=fun h=>hpl (.inr (.inl h));have q3:a.op≠2:=fun h=>hpl (.inr (.inr h));refine ⟨v,is,⟨N0+N1+100,fun n hn=>?_⟩,tv⟩
 ·obtain ⟨n,rfl⟩:∃k,n=k+1:=⟨n - 1,by omega⟩;have h0:=h0 n (by omega);have h1:=h1 n (by omega);have hw:=Aq (n:=n) (by omega) r.op (m:=3) (by omega) (by omega);have hw7:=Aq (n:=n) (by omega) r.op (m:=7) (by omega) (by omega);rw [c70];clear up hfn hG hO hA hP hg ha0 ha tv hpl;generalize r.op % 3=w3 at hw hv;generalize r.op % 7=w7 at hw7 hna;obtain ⟨o0,x0,k0⟩:=a0;obtain ⟨o1,x1,k1⟩:=a;obtain ⟨o2,x2,k2⟩:=r;obtain ⟨o4,x3,k3⟩:=v;simp only [Tm.n,Tm.op] at h1 hw hw7 o3 o6 o18 q1 q2 q3;simp only [A9,Ai] at h0 h1 ⊢;cases is<;>by_cases hd0:(0:Int)<(e:Int) - 5<;>(simp (maxSteps:=1000000) only [↓Jm,↓XX,XY,↓reduceIte,Nat.reduceBEq,Nat.reduceAdd,Int.reduceEq,Int.reduceLT,Int.reduceLE,↓Av h0,↓AD h1,↓Ad hw,↓Ad hw7,hv,hd4,hd0,hna,o3,o6,o18,q1,q2,q3];first | exact Al _ _ | exact Ay rfl (by simp) _)
theorem MX:∀e,e≤10→J6 e∧Dt 70 1 e∧Dt 68 2 e:=by
 intro e
 induction e using Nat.strongRecOn with
 | _ e ih =>
  intro he;have hp:1≤e→J6 (e - 1)∧Dt 70 1 (e - 1)∧Dt 68 2 (e - 1):=fun h=>ih (e - 1) (by omega) (by omega);have hp2:2≤e→J6 (e - 2)∧Dt 70 1 (e - 2)∧Dt 68 2 (e - 2):=fun h=>ih (e - 2) (by omega) (by omega);have hT:J6 e:=AgY he (fun h=>(hp (by omega)).1) (fun h=>(hp (by omega)).2.1);have hT6:6≤e→J6 6:=fun h=>by
   by_cases h6:e=6
   ·exact h6 ▸ hT
   ·exact (ih 6 (by omega) (by omega)).1
  have hR:6≤e→Ov 100 3 e:=fun h=>Adn h he (hT6 h) (hp2 (by omega)).2.1;have hP:1≤e→Afa 101 3 e:=fun h=>Afe h he (hp h).2.1 (fun h6=>(hp2 (by omega)).2.1);have hA:6≤e→Ov 98 4 e:=fun h=>AcS h he (hp2 (by omega)).2.2 (hp (by omega)).2.1;have hO:Dt 68 2 e:=AcI he (fun h=>(hp h).2.2) hA;exact ⟨hT,AhB he (fun h=>(hp h).2.1) (fun h=>(hp h).2.2) hR hP,hO⟩
def AeJ (T1 T2:B7→Tm→Tm) (B1:B7→Tm→Bool) (g:B7) (r:Tm):B7:=if r.n % 3=0 then (if B1 g r then g++[(0,T1 g r)] else g) else g++[(1,T2 g r)]
def BX (f:B7→Tm→B7) (l:List Tm):Nat→B7
 | 0=>[]
 | i+1=>match l[i]? with
  | some r=>f (BX f l i) r
  | none=>BX f l i
def gV:B7→IV
 | []=>.nils
 | p::g=>.fv (A9 (p::g))
theorem Ain {g:B7} (h:g≠[]):gV g=.fv (A9 g):=by
 cases g with
 | nil=>exact absurd rfl h
 | cons p g=>rfl
theorem Aj8 (g:B7):gV g=.nils∨∃x,gV g=.fv x:=by
 cases g with
 | nil=>exact .inl rfl
 | cons p g=>exact .inr ⟨_,rfl⟩
theorem AiV (g:B7) (own:List (Nat×Blk)):Bv (Ao [gV g] ⟨own,[]⟩) (A9 g):=by
 cases g with
 | nil=>exact A7 rfl _
 | cons p g=>exact Al _ _
theorem Aju (g:B7):Bf (gV g)=some (A9 g):=by
 cases g with
 | nil=>rfl
 | cons p g=>rfl
set_option maxRecDepth 20000 in
set_option maxHeartbeats 4000000 in
theorem Vd (l:List Tm) (hll:l.length≤9223372036854775807):∃g,Ev 67 [.fv (.sl (l.map Tm.enc))] (A9 g)∧GOk 10 g∧g.length≤4∧CtxG g∧(l=[]→g=[]):=by
 have hc:∀p:B7×Tm,∃(t1 t2:Tm) (b1:Bool),GOk 10 p.1→Ev 70 [.fv (A9 p.1),.fv (Tm.mk 14 0 []).enc,.fv p.2.enc,iv 2] (.tuple [Tm.enc t1,.bool b1])∧TG 1 7 p.1 (.mk 14 0 []) t1 b1∧Ev 69 [.fv (A9 p.1),.fv p.2.enc,iv 2] (Tm.enc t2)∧TyOk p.1 7 t2:=by
  rintro ⟨g,r⟩;by_cases hg:GOk 10 g
  ·obtain ⟨hT,hG,_⟩:=MX 7 (by omega);obtain ⟨t1,b1,h1,h2⟩:=hG g (.mk 14 0 []) r (AP (by omega) hg) ⟨Cm (by decide) (by decide) (BA (by decide) (by decide) (by decide)),by simp [Tm.wt,Tm.wtL],by simp [Tm.dp,Tm.dpL]⟩;obtain ⟨t2,h3,h4⟩:=hT g r (AP (by omega) hg);exact ⟨t1,t2,b1,fun _=>⟨h1,h2,h3,h4⟩⟩
  ·exact ⟨.z,.z,false,fun h=>absurd h hg⟩
 obtain ⟨T1,hc⟩:=Classical.axiomOfChoice hc;obtain ⟨T2,hc⟩:=Classical.axiomOfChoice hc;obtain ⟨B1,hc⟩:=Classical.axiomOfChoice hc;obtain ⟨f,hf⟩:∃f,f=AeJ (fun g r=>T1 (g,r)) (fun g r=>T2 (g,r)) (fun g r=>B1 (g,r)):=⟨_,rfl⟩;have hD7:Dg 7=270:=rfl;have hD6:Dg 6=260:=rfl;have hW7:Wg 7=131072000:=rfl;have hW6:Wg 6=32768000:=rfl;have hstep:∀i,i≤4→GOk 10 (BX f l i)∧(BX f l i).length≤i∧CtxG (BX f l i):=by
  intro i
  induction i with
  | zero=>intro _;exact ⟨⟨by simp [BX],fun i p h=>by simp [BX] at h⟩,by simp [BX],.nil⟩
  | succ i ih =>
   intro h;obtain ⟨h1,h2,hcg⟩:=ih (by omega);rw [BX];cases hr:l[i]? with
   | none=>simp only;exact ⟨h1,by omega,hcg⟩
   | some r =>
    simp only;generalize BX f l i=g at h1 h2 hcg;obtain ⟨_,h4,_,h6⟩:=hc (g,r) h1;simp only at h4 h6;have h4s:=h4.sc;have h4w:=h4.wt;have h4d:=h4.dp;have h6s:=h6.sc;have h6w:=h6.wt;have h6d:=h6.dp;rw [show 7 - 1=6 from rfl] at h6w h6d
    have big:∀(s:Int) (t:Tm),t.sc g.length→t.wt≤100000000000→t.dp≤6000→GOk 10 (g++[(s,t)]):=by
     intro s t q1 q2 q3;have h11:GOk 11 g:=⟨by omega,h1.ok⟩;exact CQ h11 q1 q2 q3
    rw [hf,AeJ];split
    ·split
     ·rename_i hb;exact ⟨big _ _ h4s (by omega) (by omega),by simp;omega,.ob g _ hcg (h4.gr hb)⟩
     ·exact ⟨h1,by omega,hcg⟩
    ·exact ⟨big _ _ h6s (by omega) (by omega),by simp;omega,.me g _ hcg ⟨h6s,by omega,by omega⟩ (by omega) h6.gr⟩
 obtain ⟨m,hm⟩:∃m,m=min l.length 4:=⟨_,rfl⟩;obtain ⟨N,hN⟩:=AeY (P:=fun i n=>∀r,l[i]?=some r→Bv (SS dt n 70 [.fv (A9 (BX f l i)),.fv (Tm.mk 14 0 []).enc,.fv r.enc,iv 2] ⟨[],[]⟩) (.tuple [Tm.enc (T1 (BX f l i,r)),.bool (B1 (BX f l i,r))])∧Bv (SS dt n 69 [.fv (A9 (BX f l i)),.fv r.enc,iv 2] ⟨[],[]⟩) (Tm.enc (T2 (BX f l i,r)))) m (fun i hi=>by
  have hil:i<l.length:=by omega
  obtain ⟨⟨N1,h1⟩,_,⟨N2,h2⟩,_⟩:=hc (BX f l i,l[i]) (hstep i (by omega)).1;refine ⟨N1+N2,fun n hn r hr=>?_⟩;rw [List.getElem?_eq_getElem hil,Aq1] at hr;subst hr;exact ⟨h1 n (by omega),h2 n (by omega)⟩)
 have hm4:=hstep m (by omega);refine ⟨BX f l m,⟨N+100,fun n hn=>?_⟩,hm4.1,by omega,hm4.2.2,fun h=>by subst h;rw [hm];rfl⟩;obtain ⟨n,rfl⟩:∃k,n=k+1:=⟨n - 1,by omega⟩;rw [c67];simp only [Vj,Vc,U5,VJ,UJ,U3,Vs,UU,Wf,S67,↓XX,XY,↓reduceIte,Nat.reduceBEq,Nat.reduceAdd,Int.reduceEq,Int.reduceLT,Int.reduceLE,↓AL,XD,heldB,AQ,XE];refine Bp (Q:=fun r=>Bv r _) (fun k V H=>∃i:Nat,i+k=m∧V=[.fv (.sl (l.map Tm.enc)),gV (BX f l i),iv i]∧H=⟨[],[]⟩)
  ?_ n m _ _ (by omega) ⟨0,by omega,rfl,rfl⟩
 rintro k V H rec ⟨i,hik,rfl,rfl⟩ hrec;have hi4:=hstep i (by omega);cases k with
 | zero =>
  have him:i=m:=by omega
  subst him;have ha:=fun own=>AiV (BX f l i) own;generalize gV (BX f l i)=gv at ha;by_cases h1:(i:Int)<l.length
  ·have h4:¬ ((i:Int)<4):=by omega
   simp only [↓Sq,↓XX,XY,↓reduceIte,Nat.reduceBEq,Nat.reduceAdd,Int.reduceEq,Int.reduceLT,Int.reduceLE,h1,h4];exact ha _
  ·simp only [↓Sq,↓XX,XY,↓reduceIte,Nat.reduceBEq,Nat.reduceAdd,Int.reduceEq,Int.reduceLT,Int.reduceLE,h1];exact ha _
 | succ k =>
  have hil:i<l.length:=by omega
  have h1:(i:Int)<l.length:=by omega
  have h4:(i:Int)<4:=by omega
  have wi:B6 ((i:Int)+1)=(i:Int)+1:=by rw [Ax]<;>omega
  obtain ⟨r,hr⟩:∃r,l[i]?=some r:=⟨_,List.getElem?_eq_getElem hil⟩;obtain ⟨g1,g2⟩:=hN i (by omega) n (by omega) r hr;have hw:=Aq (n:=n) (by omega) r.n (m:=3) (by omega) (by omega);have t14:=Du (n:=n) (by omega) 14;have h9:=hrec k [.fv (.sl (l.map Tm.enc)),gV (BX f l (i+1)),iv (i+1:Nat)] ⟨[],[]⟩ (by omega) ⟨i+1,by omega,rfl,rfl⟩;have hi1:((i+1:Nat):Int)=(i:Int)+1:=by omega
  rw [hi1,BX,hr] at h9;simp only [hf,AeJ] at h9;rw [← hf] at h9;have hfz:=Aju (BX f l i);have htw:=Aj8 (BX f l i);have m1:=C6 (n:=n) (BX f l i) 0 (T1 (BX f l i,r)) (by omega) (by omega);have m2:=C6 (n:=n) (BX f l i) 1 (T2 (BX f l i,r)) (by omega) (by omega);have n1:=Ain (g:=BX f l i++[((0:Int),T1 (BX f l i,r))]) (by simp);have n2:=Ain (g:=BX f l i++[((1:Int),T2 (BX f l i,r))]) (by simp);generalize A9 (BX f l i++[((0:Int),T1 (BX f l i,r))])=e1 at m1 n1;generalize A9 (BX f l i++[((1:Int),T2 (BX f l i,r))])=e2 at m2 n2;clear hc hstep hN hi4 hm4;by_cases c0:r.n % 3=0
  ·rw [if_pos c0] at h9;rw [c0] at hw;cases hb:B1 (BX f l i,r)
   ·rw [hb] at g1 h9;simp only [Bool.false_eq_true,if_false] at h9;generalize T1 (BX f l i,r)=t1 at g1;generalize gV (BX f l i)=gv at hfz h9 htw;generalize A9 (BX f l i)=ge at hfz g1;obtain ⟨o,p,ks⟩:=r;obtain ⟨o1,p1,k1⟩:=t1;simp only [Tm.n] at hw;simp only [Ai,Aq6] at g1 t14;have g1:=AD (a:=gv) (b:=.fv (.agg [.int .i64 14,.int .i64 0,.sl []])) (c:=.fv (.agg [.int .i64 o,.int .i64 p,.sl (ks.map Tm.enc)])) (d:=iv 2) g1 hfz rfl rfl rfl;rcases htw with rfl | ⟨x0,rfl⟩
    ·simp (maxSteps:=1000000) only [↓Sq,↓XX,XY,↓reduceIte,Nat.reduceBEq,Nat.reduceAdd,Int.reduceEq,Int.reduceLT,Int.reduceLE,h1,h4,wi,↓Bs (AK hr) (A8 _ _ _),↓Cb,↓Ad hw,↓Ad t14,↓g1,↓AL,XD,heldB,AQ,XE];exact h9
    ·simp (maxSteps:=1000000) only [↓Sq,↓XX,XY,↓reduceIte,Nat.reduceBEq,Nat.reduceAdd,Int.reduceEq,Int.reduceLT,Int.reduceLE,h1,h4,wi,↓Bs (AK hr) (A8 _ _ _),↓Cb,↓Ad hw,↓Ad t14,↓g1,↓AL,XD,heldB,AQ,XE];exact h9
   ·rw [hb] at g1 h9;simp only [if_true] at h9;rw [n1] at h9;generalize T1 (BX f l i,r)=t1 at g1 m1;generalize gV (BX f l i)=gv at hfz htw;generalize A9 (BX f l i)=ge at hfz g1 m1;obtain ⟨o,p,ks⟩:=r;obtain ⟨o1,p1,k1⟩:=t1;simp only [Tm.n] at hw;simp only [Ai,Aq6] at g1 t14 m1;have g1:=AD (a:=gv) (b:=.fv (.agg [.int .i64 14,.int .i64 0,.sl []])) (c:=.fv (.agg [.int .i64 o,.int .i64 p,.sl (ks.map Tm.enc)])) (d:=iv 2) g1 hfz rfl rfl rfl;have m1:=AO (a:=gv) (b:=iv 0) (c:=.fv (.agg [.int .i64 o1,.int .i64 p1,.sl (k1.map Tm.enc)])) m1 hfz rfl rfl;rcases htw with rfl | ⟨x0,rfl⟩
    ·simp (maxSteps:=1000000) only [↓Sq,↓XX,XY,↓reduceIte,Nat.reduceBEq,Nat.reduceAdd,Int.reduceEq,Int.reduceLT,Int.reduceLE,h1,h4,wi,↓Bs (AK hr) (A8 _ _ _),↓Cb,↓Ad hw,↓Ad t14,↓g1,↓m1,↓AL,XD,heldB,AQ,XE];exact h9
    ·simp (maxSteps:=1000000) only [↓Sq,↓XX,XY,↓reduceIte,Nat.reduceBEq,Nat.reduceAdd,Int.reduceEq,Int.reduceLT,Int.reduceLE,h1,h4,wi,↓Bs (AK hr) (A8 _ _ _),↓Cb,↓Ad hw,↓Ad t14,↓g1,↓m1,↓AL,XD,heldB,AQ,XE];exact h9
  ·rw [if_neg c0,n2] at h9;generalize T2 (BX f l i,r)=t2 at g2 m2;generalize gV (BX f l i)=gv at hfz htw;generalize A9 (BX f l i)=ge at hfz g2 m2;obtain ⟨o,p,ks⟩:=r;obtain ⟨o1,p1,k1⟩:=t2;simp only [Tm.n] at hw c0;generalize p % 3=w3 at hw c0;simp only [Ai,Aq6] at g2 m2;have g2:=AO (a:=gv) (b:=.fv (.agg [.int .i64 o,.int .i64 p,.sl (ks.map Tm.enc)])) (c:=iv 2) g2 hfz rfl rfl;have m2:=AO (a:=gv) (b:=iv 1) (c:=.fv (.agg [.int .i64 o1,.int .i64 p1,.sl (k1.map Tm.enc)])) m2 hfz rfl rfl;rcases htw with rfl | ⟨x0,rfl⟩
   ·simp (maxSteps:=1000000) only [↓Sq,↓XX,XY,↓reduceIte,Nat.reduceBEq,Nat.reduceAdd,Int.reduceEq,Int.reduceLT,Int.reduceLE,h1,h4,wi,c0,↓Bs (AK hr) (A8 _ _ _),↓Cb,↓Ad hw,↓g2,↓m2,↓AL,XD,heldB,AQ,XE];exact h9
   ·simp (maxSteps:=1000000) only [↓Sq,↓XX,XY,↓reduceIte,Nat.reduceBEq,Nat.reduceAdd,Int.reduceEq,Int.reduceLT,Int.reduceLE,h1,h4,wi,c0,↓Bs (AK hr) (A8 _ _ _),↓Cb,↓Ad hw,↓g2,↓m2,↓AL,XD,heldB,AQ,XE];exact h9
structure CaseOk (g:B7) (a t:Tm) (is object:Bool):Prop where
 gok:GOk 10 g
 len:g.length≤4
 asc:a.sc g.length
 awt:a.wt≤32768010
 adp:a.dp≤300
 tsc:t.sc g.length
 tdp:t.dp≤300
 chk:is=true→(t.chk 0 1).2=0
 cg:CtxG g
 ga:object=false→Gr 0 7 g .z a
 gt:is=true→Gr (if object then 2 else 1) 10 g a t
set_option maxRecDepth 20000 in
set_option maxHeartbeats 4000000 in
theorem Ag2 (l:List Tm) (hll:l.length≤9223372036854775807) (r q:Tm) (object:Bool):∃g a t is,Ev 43 [.fv (.sl (l.map Tm.enc)),.fv r.enc,.fv q.enc,.fv (.bool object)] (.tuple [A9 g,a.enc,t.enc,.bool is])∧CaseOk g a t is object∧(object=true→a=q.plainT 2)∧(l=[]→g=[]):=by
 obtain ⟨g,⟨N0,h0⟩,hg,hg4,hcg,hnil⟩:=Vd l hll;have hW6:Wg 6=32768000:=rfl;have hD6:Dg 6=260:=rfl;have hW10:Wg 10=8388608000:=rfl;have hD10:Dg 10=300:=rfl;obtain ⟨_,hG,hO⟩:=MX 10 (by omega);cases object
 ·obtain ⟨hT,_,_⟩:=MX 7 (by omega);obtain ⟨a,⟨N1,h1⟩,ta⟩:=hT g q (AP (by omega) hg);have aw:=ta.wt;have ad:=ta.dp;have asc:=ta.sc;rw [show 7 - 1=6 from rfl] at aw ad
  obtain ⟨t,b,⟨N2,h2⟩,tt⟩:=hG g a r hg ⟨asc,by omega,by omega⟩;have tw:=tt.wt;have ts:=tt.sc;have body:∀(t':Tm) (is:Bool),(is=true∧t'=t∧b=true∧(t.chk 0 1).2=0∨is=false∧t'=A1∧(b=false∨b=true∧(t.chk 0 1).2≠0))→Ev 43 [.fv (.sl (l.map Tm.enc)),.fv r.enc,.fv q.enc,.fv (.bool false)] (.tuple [A9 g,a.enc,t'.enc,.bool is]):=by
   intro t' is hd;refine ⟨N0+N1+N2+100000000000+1,fun n hn=>?_⟩;obtain ⟨n,rfl⟩:∃k,n=k+1:=⟨n - 1,by omega⟩;have h0:=h0 n (by omega);have h1:=h1 n (by omega);have h2:=h2 n (by omega);have hk:=Rn (n:=n) t (by omega);have t11:=Du (n:=n) (by omega) 11;rw [c43];clear ta tt;generalize (t.chk 0 1).2=ck at hk hd;rw [show ((10:Nat):Int) - 5=5 from rfl] at h2
   rw [show ((7:Nat):Int) - 5=2 from rfl] at h1
   generalize A9 g=ge at *;generalize (FV.sl (l.map Tm.enc))=le at *;rcases hd with ⟨rfl,rfl,rfl,rfl⟩ | ⟨rfl,rfl,hd⟩
   ·obtain ⟨o1,p1,k1⟩:=r;obtain ⟨o2,p2,k2⟩:=q;obtain ⟨o3,p3,k3⟩:=a;obtain ⟨o4,p4,k4⟩:=t';simp only [Ai] at h1 h2 hk ⊢;simp (maxSteps:=1000000) only [↓AbV,↓XX,XY,↓reduceIte,Nat.reduceBEq,Nat.reduceAdd,Int.reduceEq,Int.reduceLT,Int.reduceLE,↓Av h0,↓AO h1,↓AD h2,↓Av hk];first | exact Al _ _ | exact Ay rfl (by simp) _
   ·rw [A1];rcases hd with rfl | ⟨rfl,hd⟩
    ·obtain ⟨o1,p1,k1⟩:=r;obtain ⟨o2,p2,k2⟩:=q;obtain ⟨o3,p3,k3⟩:=a;obtain ⟨o4,p4,k4⟩:=t;simp only [Ai,Aq6] at h1 h2 hk t11 ⊢;simp (maxSteps:=1000000) only [↓AbV,↓XX,XY,↓reduceIte,Nat.reduceBEq,Nat.reduceAdd,Int.reduceEq,Int.reduceLT,Int.reduceLE,↓Av h0,↓AO h1,↓AD h2,↓Av hk,↓Ad t11];first | exact Al _ _ | exact Ay rfl (by simp) _
    ·obtain ⟨o1,p1,k1⟩:=r;obtain ⟨o2,p2,k2⟩:=q;obtain ⟨o3,p3,k3⟩:=a;obtain ⟨o4,p4,k4⟩:=t;simp only [Ai,Aq6] at h1 h2 hk t11 ⊢;simp (maxSteps:=1000000) only [↓AbV,↓XX,XY,↓reduceIte,Nat.reduceBEq,Nat.reduceAdd,Int.reduceEq,Int.reduceLT,Int.reduceLE,hd,↓Av h0,↓AO h1,↓AD h2,↓Av hk,↓Ad t11];first | exact Al _ _ | exact Ay rfl (by simp) _
  by_cases hb:b=true
  ·by_cases hc:(t.chk 0 1).2=0
   ·exact ⟨g,a,t,true,body t true (.inl ⟨rfl,rfl,hb,hc⟩),⟨hg,hg4,asc,by omega,by omega,ts,by have:=tt.dp;omega,fun _=>hc,hcg,fun _=>ta.gr,fun _=>tt.gr hb⟩,(fun h=>by cases h),hnil⟩
   ·exact ⟨g,a,A1,false,body A1 false (.inr ⟨rfl,rfl,.inr ⟨hb,hc⟩⟩),⟨hg,hg4,asc,by omega,by omega,Jl _,by decide,(fun h=>by cases h),hcg,fun _=>ta.gr,fun h=>by cases h⟩,(fun h=>by cases h),hnil⟩
  ·exact ⟨g,a,A1,false,body A1 false (.inr ⟨rfl,rfl,.inl (by simpa using hb)⟩),⟨hg,hg4,asc,by omega,by omega,Jl _,by decide,(fun h=>by cases h),hcg,fun _=>ta.gr,fun h=>by cases h⟩,(fun h=>by cases h),hnil⟩
 ·obtain ⟨a,ha⟩:∃a,a=q.plainT 2:=⟨_,rfl⟩;have asc:a.sc g.length:=ha ▸ EB _ 2 q;have aw:a.wt≤20:=by have:=CZ 2 q;rw [← ha] at this;simpa using Nat.le_trans this (by decide)
  have ad:a.dp≤300:=Nat.le_trans (UC a) (by omega);obtain ⟨t,b,⟨N2,h2⟩,tt⟩:=hO g a r hg ⟨asc,by omega,by omega⟩;have tw:=tt.wt;have ts:=tt.sc;have body:∀(t':Tm) (is:Bool),(is=true∧t'=t∧b=true∧(t.chk 0 1).2=0∨is=false∧t'=.mk 25 0 []∧(b=false∨b=true∧(t.chk 0 1).2≠0))→Ev 43 [.fv (.sl (l.map Tm.enc)),.fv r.enc,.fv q.enc,.fv (.bool true)] (.tuple [A9 g,a.enc,t'.enc,.bool is]):=by
   intro t' is hd;refine ⟨N0+N2+100000000000+1,fun n hn=>?_⟩;obtain ⟨n,rfl⟩:∃k,n=k+1:=⟨n - 1,by omega⟩;have h0:=h0 n (by omega);have h1:=G9 2 n q (by omega) (by omega);have h2:=h2 n (by omega);have hk:=Rn (n:=n) t (by omega);have t25:=Ado (n:=n) (by omega) 0;rw [c43];rw [← ha] at h1;clear tt ha;generalize (t.chk 0 1).2=ck at hk hd;rw [show ((10:Nat):Int) - 5=5 from rfl] at h2
   generalize A9 g=ge at *;generalize (FV.sl (l.map Tm.enc))=le at *;rcases hd with ⟨rfl,rfl,rfl,rfl⟩ | ⟨rfl,rfl,hd⟩
   ·obtain ⟨o1,p1,k1⟩:=r;obtain ⟨o2,p2,k2⟩:=q;obtain ⟨o3,p3,k3⟩:=a;obtain ⟨o4,p4,k4⟩:=t';simp only [Ai,Int.cast_ofNat_Int] at h1 h2 hk ⊢;simp (maxSteps:=1000000) only [↓AbV,↓XX,XY,↓reduceIte,Nat.reduceBEq,Nat.reduceAdd,Int.reduceEq,Int.reduceLT,Int.reduceLE,↓Av h0,↓Ad h1,↓AD h2,↓Av hk];first | exact Al _ _ | exact Ay rfl (by simp) _
   ·rcases hd with rfl | ⟨rfl,hd⟩
    ·obtain ⟨o1,p1,k1⟩:=r;obtain ⟨o2,p2,k2⟩:=q;obtain ⟨o3,p3,k3⟩:=a;obtain ⟨o4,p4,k4⟩:=t;simp only [Ai,Aq6,Int.cast_ofNat_Int] at h1 h2 hk t25 ⊢;simp (maxSteps:=1000000) only [↓AbV,↓XX,XY,↓reduceIte,Nat.reduceBEq,Nat.reduceAdd,Int.reduceEq,Int.reduceLT,Int.reduceLE,↓Av h0,↓Ad h1,↓AD h2,↓Av hk,↓Av t25];first | exact Al _ _ | exact Ay rfl (by simp) _
    ·obtain ⟨o1,p1,k1⟩:=r;obtain ⟨o2,p2,k2⟩:=q;obtain ⟨o3,p3,k3⟩:=a;obtain ⟨o4,p4,k4⟩:=t;simp only [Ai,Aq6,Int.cast_ofNat_Int] at h1 h2 hk t25 ⊢;simp (maxSteps:=1000000) only [↓AbV,↓XX,XY,↓reduceIte,Nat.reduceBEq,Nat.reduceAdd,Int.reduceEq,Int.reduceLT,Int.reduceLE,hd,↓Av h0,↓Ad h1,↓AD h2,↓Av hk,↓Av t25];first | exact Al _ _ | exact Ay rfl (by simp) _
  have is25:∀k,(Tm.mk 25 0 []).sc k:=fun k=>Cm (by decide) (by decide) (by rw [Bz];simp);by_cases hb:b=true
  ·by_cases hc:(t.chk 0 1).2=0
   ·exact ⟨g,a,t,true,body t true (.inl ⟨rfl,rfl,hb,hc⟩),⟨hg,hg4,asc,by omega,by omega,ts,by have:=tt.dp;omega,fun _=>hc,hcg,(fun h=>by cases h),fun _=>tt.gr hb⟩,(fun _=>ha),hnil⟩
   ·exact ⟨g,a,_,false,body _ false (.inr ⟨rfl,rfl,.inr ⟨hb,hc⟩⟩),⟨hg,hg4,asc,by omega,by omega,is25 _,by decide,(fun h=>by cases h),hcg,(fun h=>by cases h),fun h=>by cases h⟩,(fun _=>ha),hnil⟩
  ·exact ⟨g,a,_,false,body _ false (.inr ⟨rfl,rfl,.inl (by simpa using hb)⟩),⟨hg,hg4,asc,by omega,by omega,is25 _,by decide,(fun h=>by cases h),hcg,(fun h=>by cases h),fun h=>by cases h⟩,(fun _=>ha),hnil⟩
theorem AcD {n:Nat} {t u:Tm} {e:Int} (h:Bv (SS dt n 58 [.fv t.enc] ⟨[],[]⟩) (.tuple [u.enc,.int .i64 e])) (hz:e≠0→u=.z):Bv (SS dt (n+1) 44 [.fv t.enc] ⟨[],[]⟩) (.tuple [u.enc,.int .i64 e]):=by
 rw [c44];by_cases he:e=0
 ·obtain ⟨o1,p1,k1⟩:=t;obtain ⟨o2,p2,k2⟩:=u;simp only [Ai] at h ⊢;simp only [Vu,VQ,Wm,S44,↓XX,XY,↓reduceIte,Nat.reduceBEq,Nat.reduceAdd,Int.reduceEq,Int.reduceLT,Int.reduceLE,↓Av h,he];first | exact Al _ _ | exact Ay rfl (by simp) _
 ·have:=hz he
  subst this;obtain ⟨o1,p1,k1⟩:=t;simp only [Ai,Tm.z,Aq6] at h ⊢;simp only [Vu,VQ,Wm,S44,↓XX,XY,↓reduceIte,Nat.reduceBEq,Nat.reduceAdd,Int.reduceEq,Int.reduceLT,Int.reduceLE,↓Av h,he];first | exact Al _ _ | exact Ay rfl (by simp) _
structure CodeOk (q c a:Tm):Prop where
 ha:a=q.plainT 2
 ot:OT 14 [] c a
 nok:NOk 0 c
 chk:(c.chk 0 1).2=0
set_option maxRecDepth 20000 in
set_option maxHeartbeats 4000000 in
theorem Ag3 (r q:Tm):∃c a b,Ev 15 [.fv r.enc,.fv q.enc] (.tuple [Tm.enc c,Tm.enc a,.bool b])∧(b=true→CodeOk q c a):=by
 obtain ⟨g,a,t,is,⟨N1,h1⟩,hC,hpl,hnil⟩:=Ag2 [] (by simp) r q true;have hg:=hnil rfl;subst hg;have hsc:=hC.tsc;obtain ⟨c,e,⟨N2,h2⟩,hcase,f,hf⟩:=Ji (k:=0) (by omega) hsc (by have:=hC.tdp;omega);have hz:e≠0→c=.z:=by
  intro he;rcases hcase with ⟨h,_⟩ | ⟨_,h⟩
  ·exact absurd h he
  ·exact h
 rw [A9,Aq6,Aq6] at h1;cases is
 ·refine ⟨t,a,false,⟨N1+1,fun n hn=>?_⟩,fun h=>by cases h⟩;obtain ⟨n,rfl⟩:∃k,n=k+1:=⟨n - 1,by omega⟩;have h1:=h1 n (by omega);have hq:=fun (h:Hp) (kk:IV→Hp→List Ref→List Ref→Option (IV×Hp))=>AD (a:=.nils) (b:=.fv r.enc) (c:=.fv q.enc) (d:=.fv (.bool true)) h1 rfl rfl rfl rfl h kk;clear h1 hC hf hcase h2 hz hpl hnil hsc;rw [c15];obtain ⟨o1,x1,k1⟩:=r;obtain ⟨o3,x3,k3⟩:=q;obtain ⟨o5,x5,k5⟩:=t;obtain ⟨o6,x6,k6⟩:=a;simp only [Ai] at hq ⊢;simp (maxSteps:=1000000) only [Qq,QG,PP,PS,OQ,Pz,Qx,O7,S15,↓XX,XY,↓reduceIte,Nat.reduceBEq,Nat.reduceAdd,Int.reduceEq,Int.reduceLT,Int.reduceLE,↓hq];first | exact Al _ _ | exact Ay rfl (by simp) _
 ·refine ⟨c,a,decide (e=0),⟨N1+N2+2,fun n hn=>?_⟩,fun h=>?_⟩
  ·obtain ⟨n,rfl⟩:∃k,n=k+2:=⟨n - 2,by omega⟩;have h1:=h1 (n+1) (by omega);have hq:=fun (h:Hp) (kk:IV→Hp→List Ref→List Ref→Option (IV×Hp))=>AD (a:=.nils) (b:=.fv r.enc) (c:=.fv q.enc) (d:=.fv (.bool true)) h1 rfl rfl rfl rfl h kk;have h2:=AcD (h2 n (by omega)) hz;clear h1 hC hf hcase hz hpl hnil hsc;rw [c15];obtain ⟨o1,x1,k1⟩:=r;obtain ⟨o3,x3,k3⟩:=q;obtain ⟨o5,x5,k5⟩:=t;obtain ⟨o6,x6,k6⟩:=a;obtain ⟨o7,x7,k7⟩:=c;simp only [Ai] at hq h2 ⊢;by_cases he:e=0
   ·simp (maxSteps:=1000000) only [Qq,QG,PP,PS,OQ,Pz,Qx,O7,S15,↓XX,XY,↓reduceIte,Nat.reduceBEq,Nat.reduceAdd,Int.reduceEq,Int.reduceLT,Int.reduceLE,↓hq,↓Av h2,he];first | exact Al _ _ | exact Ay rfl (by simp) _
   ·simp (maxSteps:=1000000) only [Qq,QG,PP,PS,OQ,Pz,Qx,O7,S15,↓XX,XY,↓reduceIte,Nat.reduceBEq,Nat.reduceAdd,Int.reduceEq,Int.reduceLT,Int.reduceLE,↓hq,↓Av h2,he];first | exact Al _ _ | exact Ay rfl (by simp) _
  ·simp only [decide_eq_true_eq] at h;subst h;rcases hcase with ⟨_,hu⟩ | ⟨h,_⟩
   case inr=>omega
   have hgt:=hC.gt rfl;have ha:=hpl rfl;subst ha;simp only [if_true] at hgt;have ht:=(Afn hgt [] M4).2.2.1 rfl (Br [] 2 q);have hw:=hu.wt;have hd:=hu.dp;exact ⟨rfl,Agd hgt hsc hf,hu,by rw [Ai8 (CB hf ht) 0 0 1 hu.sc (by omega) (by omega) (by omega)]⟩
def PR (o:Option (IV×Hp)):Bool:=match o with
 | some (.fv (.bool b),⟨_,[]⟩)=>b
 | _=>false
theorem AeA {o:Option (IV×Hp)} (h:PR o=true):Bv o (.bool true):=by
 unfold PR at h;split at h
 ·subst h;exact Al _ _
 ·cases h
theorem R5:∀(n:Nat) (t:Tm),t.wt<n→Bv (SS dt n 52 [.fv t.enc] ⟨[],[]⟩) (.bool t.typed):=by
 intro n
 induction n with
 | zero=>intro t h;omega
 | succ n ih =>
  intro t h;rw [c52];obtain ⟨op,m,ks⟩:=t;simp only [Tm.wt] at h;rw [Ai];by_cases h1:op=15
  ·subst h1
   match ks with
   | []=>simp only [↓NB,↓XX,XY,↓reduceIte,Nat.reduceBEq,Nat.reduceAdd,Int.reduceEq,Int.reduceLT,Int.reduceLE,Tm.typed];exact Al _ _
   | [_]=>simp only [↓NB,↓XX,XY,↓reduceIte,Nat.reduceBEq,Nat.reduceAdd,Int.reduceEq,Int.reduceLT,Int.reduceLE,Me];exact Al _ _
   | [a,b]=>simp only [↓NB,↓XX,XY,↓reduceIte,Nat.reduceBEq,Nat.reduceAdd,Int.reduceEq,Int.reduceLT,Int.reduceLE,Tm.typed];exact Al _ _
   | a::b::c::l =>
    have:¬ ((l.length:Int)+1+1+1=0):=by omega
    simp only [↓NB,↓XX,XY,↓reduceIte,Nat.reduceBEq,Nat.reduceAdd,Int.reduceEq,Int.reduceLT,Int.reduceLE,Int.natCast_add,Mj,this];exact Al _ _
  ·by_cases h2:op=16∨op=17
   ·match ks with
    | []=>rcases h2 with rfl | rfl<;>(simp only [↓NB,↓XX,XY,↓reduceIte,Nat.reduceBEq,Nat.reduceAdd,Int.reduceEq,Int.reduceLT,Int.reduceLE,Tm.typed];exact Al _ _)
    | [_]=>rcases h2 with rfl | rfl<;>(simp only [↓NB,↓XX,XY,↓reduceIte,Nat.reduceBEq,Nat.reduceAdd,Int.reduceEq,Int.reduceLT,Int.reduceLE,Me];exact Al _ _)
    | [a,b] =>
     simp only [Tm.wtL] at h;have ha:=ih a (by omega);have hb:=ih b (by omega);rw [Tm.typed];generalize a.typed=x at ha ⊢;generalize b.typed=y at hb ⊢;obtain ⟨o1,n1,k1⟩:=a;obtain ⟨o2,n2,k2⟩:=b;simp only [Ai] at ha hb;cases x
     ·rcases h2 with rfl | rfl<;>(simp only [↓NB,↓XX,XY,↓reduceIte,Nat.reduceBEq,Nat.reduceAdd,Int.reduceEq,Int.reduceLT,Int.reduceLE,Ai,↓Av ha];exact Al _ _)
     ·rcases h2 with rfl | rfl<;>(simp only [↓NB,↓XX,XY,↓reduceIte,Nat.reduceBEq,Nat.reduceAdd,Int.reduceEq,Int.reduceLT,Int.reduceLE,Ai,↓Av ha,↓Av hb];exact Al _ _)
    | a::b::c::l =>
     have:¬ ((l.length:Int)+1+1+1=2):=by omega
     rcases h2 with rfl | rfl<;>(simp only [↓NB,↓XX,XY,↓reduceIte,Nat.reduceBEq,Nat.reduceAdd,Int.reduceEq,Int.reduceLT,Int.reduceLE,Int.natCast_add,Mj,this];exact Al _ _)
   ·have h3:op≠16:=fun e=>h2 (.inl e);have h4:op≠17:=fun e=>h2 (.inr e)
    have:(Tm.mk op m ks).typed=false:=by
     match ks with
     | []=>simp [Tm.typed,h1]
     | [_]=>exact Me ..
     | [a,b]=>simp [Tm.typed,h3,h4]
     | a::b::c::l=>exact Mj ..
    rw [this];simp only [↓NB,↓XX,XY,↓reduceIte,Nat.reduceBEq,Nat.reduceAdd,Int.reduceEq,Int.reduceLT,Int.reduceLE,h1,h3,h4];exact Al _ _
section
variable {β:Type} {E:Env}
theorem AlW {t:TypeId} {size:Nat} (T:SliceT E t size) {x:IV} {es es2:List FV} (hx:Plain2 x es2) (h1:Bi size es2=true) (h2:Bi size es=true) (hne:es2.isEmpty=false) (hb:es.length+es2.length≤1000000) (s:Nat) (own:List (Nat×Blk)) (ext:List Blk)
  (k:IV→Hp→List Ref→List Ref→Option β):AE (AM E s false .append [t,t] [.clip es,x]) s ⟨own,ext⟩ k=CW own s (Be own s (.tok (es.length+es2.length) size) fun own=>k (.app (.own s) (es++es2)) ⟨own,ext⟩ [] [.own s]):=by
 obtain ⟨a,b,e,z,ei,hT,he,rfl,h0,hby⟩:=T.h;have hlen:¬ (Bi ei.size es=false∨(es.length+es2.length) * ei.bytes > 140737488355328∨es.length+es2.length > 1073741824):=by
  have:(es.length+es2.length) * ei.bytes≤1000000 * 100000:=Nat.mul_le_mul hb hby
  rw [h2];rintro (h | h | h)
  ·cases h
  ·omega
  ·omega
 have key:AM E s false .append [t,t] [.clip es,x]=.ret { eff:={ val:=.app (.own s) (es++es2),upd:=[] },new:=some (.tok (es++es2).length ei.size) }:=by
  show C8 E s t (some t) false (.clip es) x=_
  simp only [C8,hT,Option.bind_some,he,OR hx,Rd.bind,h0,h1,false_or,Bool.true_eq_false,if_false];simp only [B0,if_neg hlen,hne,Bool.false_eq_true,if_false]
 rw [key,List.length_append];unfold AE;simp only [Rd.runLog]
 show (Ml (some (.tok (es.length+es2.length) ei.size)) s ⟨own,ext⟩ fun h=>fV 3 (.app (.own s) (es++es2)) fun v=>k v h [] ([]++[.own s]))=_
 simp only [Ml,CY,Cv];rfl
theorem AmP {t a b e:TypeId} {z:List IV} (hT:E.T t=some ⟨a,b,.slice e,z⟩) (x:FV) (l:List FV) (k:IV→Option β):A0 E t (.fv (.sl (x::l))) .nils k=k (.fv (.bool false)):=by
 show CA E t .eql _ _ k=_
 rw [CA,Co]
 have:Gh E .eql t (.fv (.sl (x::l))) .nils=some (.fv (.bool false)):=by
  simp only [Gh,hT,VF,Qm,Option.bind_some]
 rw [this];rfl
theorem AhA {t:TypeId} {size:Nat} (T:SliceT E t size) {es:List FV} (h1:Bi size es=true) (s:Nat) (h:Hp) (k:IV→Hp→List Ref→List Ref→Option β) :
  AE (Ij E t (.fv (.sl es)) none (some (iv es.length)) (some (iv es.length))) s h k=k (.clip es) h [] []:=by
 obtain ⟨a,b,e,z,ei,hT,he,rfl,h0,hby⟩:=T.h;have key:Ij E t (.fv (.sl es)) none (some (iv es.length)) (some (iv es.length))=.ret { eff:={ val:=.clip es,upd:=[] } }:=by
  have hn:Ic (iv es.length) es.length=some es.length:=by
   simp [Ic,iv]
  simp only [Ij,hT,he];rw [show CI 4096 (.fv (.sl es))=.ret (.sl es,[]) from rfl]
  simp [Rd.bind,h1,hn,Fx]
 rw [key];exact Hi _ s h k
end
theorem AiM {ih:Aa} {f:FuncId} {a:IV} {x w:FV} (hr:Bv (Ej true ih f [.fv x] []) w) (ha:Bf a=some x) (h:Hp) (k:IV→Hp→List Ref→List Ref→Option (IV×Hp)):Am [] true false ih f [a] h k=k (.fv w) h [] []:=by
 obtain ⟨v,own,e,hv⟩:=hr;have hu:∃u,(CI 4096 v).run ⟨own,[]⟩=some (w,u):=by
  rcases hv with ⟨u',lg',hf⟩ | ⟨hf,hu⟩
  ·exact M3 ⟨u',lg',hf⟩
  ·exact hu
 obtain ⟨u,hu⟩:=hu
 show Eh [] true false ih f [a] h k=_
 unfold Eh;have hz:=G5 [a] (Acn ha);simp only [hz,Rd.runLog,BY,D4,Aq6,AZ,CR (Cv 3),CR CY,Aq7,e,hu,Aq4,IV.ren,IV.ren.renL,Bool.false_eq_true,if_false,Option.bind_some]
 show (match laid h ([]++(Bj []).zip []) with | none=>none | some h'=>fH h' fun h'=>fV 3 (.fv w) fun res=>k res h' [] _)=_
 simp only [Bj,Aq6,List.zip_nil_left,List.append_nil,laid,Ja,Cv]
theorem Akl {ih:Aa} {f:FuncId} {a:IV} {x:FV} {es:List FV} {own:List (Nat×Blk)} (hr:ih f [.fv x] ⟨[],[]⟩=some (.clip es,⟨own,[]⟩)) (ha:Bf a=some x) (h:Hp) (k:IV→Hp→List Ref→List Ref→Option (IV×Hp)):Am [] false true ih f [a] h k=k (.clip es) h [] []:=by
 show Eh [] false true ih f [a] h k=_
 unfold Eh;have hz:=G5 [a] (Acn ha);simp only [hz,Rd.runLog,BY,D4,Aq6,AZ,CR (Cv 3),CR CY,Aq7,Ej,hr,Aq4,IV.ren,IV.ren.renL,Bool.false_eq_true,if_false,if_true,Option.bind_some]
 show (match laid h ([]++(Bj []).zip []) with | none=>none | some h'=>fH h' fun h'=>fV 3 (.clip es) fun res=>k res h' [] _)=_
 simp only [Bj,Aq6,List.zip_nil_left,List.append_nil,laid,Ja,Cv]
end Idl
end Go.Proofs.Ytdibmackcbpniaa
namespace Go.Proofs.Ytdibmackcbpniaa
namespace Idl
theorem AbM (ih:Aa) (xs:List IV) (h0:Hp) (k:IV→Hp→List Ref→List Ref→Option (IV×Hp)):ND EE ih (.fv (.func (.func 104) [] [])) xs h0 k=Am [] false false ih 104 xs h0 k :=
 Ad4 (by kernel_rfl) (by kernel_rfl) (by kernel_rfl) (by kernel_rfl) ..
theorem AkZ {n:Nat} (ka kb:List Tm) (hn:ka.length<n) (hl:ka.length≤1000000000) (ih:∀a∈ka,∀b∈kb,Bv (SS dt n 104 [.fv a.enc,.fv b.enc] ⟨[],[]⟩) (.bool (a.same b))) :
  Bv (SS dt (n+1) 116 [.fv (.sl (ka.map Tm.enc)),.fv (.sl (kb.map Tm.enc)),.fv (.func (.func 104) [] [])] ⟨[],[]⟩) (.bool (decide (ka.length=kb.length) && Tm.sameL ka kb)):=by
 rw [AoW];by_cases h:ka.length=kb.length
 ·have h':(ka.length:Int)=kb.length:=by omega
  rw [decide_eq_true h,Bool.true_and];simp only [Hu,HZ,Hr,HV,Hg,Qf,↓XX,XY,↓reduceIte,Nat.reduceBEq,Nat.reduceAdd,Int.reduceEq,Int.reduceLT,Int.reduceLE,h',↓AL,XD,heldB,AQ,XE];refine Bp (Q:=fun r=>Bv r _) (fun k V H=>∃pa ra pb rb,ka=pa++ra∧kb=pb++rb∧pa.length=pb.length∧ra.length=k∧V=[.fv (.sl (kb.map Tm.enc)),.fv (.func (.func 104) [] []),.fv (.sl (ka.map Tm.enc)),iv ka.length,iv pa.length]∧H=⟨[],[]⟩∧Tm.sameL ra rb=Tm.sameL ka kb)
   ?_ n ka.length _ _ hn ⟨[],ka,[],kb,rfl,rfl,rfl,rfl,by rw [h];rfl,rfl,rfl⟩
  rintro k V H rec ⟨pa,ra,pb,rb,hka,hkb,hpl,hk,rfl,rfl,hs⟩ hrec;have hal:ka.length=pa.length+ra.length:=by rw [hka];simp
  have hbl:kb.length=pb.length+rb.length:=by rw [hkb];simp
  cases ra with
  | nil =>
   have hno:¬ ((pa.length:Int)<ka.length):=by rw [hal];simp
   rw [← hs];simp only [Hu,HZ,Hr,HV,Jx,Hg,Qf,↓XX,XY,↓reduceIte,Nat.reduceBEq,Nat.reduceAdd,Int.reduceEq,Int.reduceLT,Int.reduceLE,hno,Tm.sameL];exact Al _ _
  | cons a ra =>
   simp only [Aq5] at hal hk;cases rb with
   | nil=>simp only [List.length_nil] at hbl;omega
   | cons b rb =>
    have hi:(pa.length:Int)<ka.length:=by omega
    have hga:=CH hka;have hgb:=CH hkb;rw [← hpl] at hgb;have hc:=ih a (by rw [hka];simp) b (by rw [hkb];simp);have hwi:B6 ((pa.length:Int)+1)=((pa++[a]).length:Int):=(Ax (by omega) (by omega)).trans (by simp);simp only [Tm.sameL] at hs;generalize a.same b=v at hc hs;obtain ⟨o,p,l⟩:=a;obtain ⟨o2,p2,l2⟩:=b;simp only [Ai] at hc;cases v
    ·rw [← hs];simp only [Hu,HZ,Hr,HV,Jx,Hg,Qf,↓XX,XY,↓reduceIte,Nat.reduceBEq,Nat.reduceAdd,Int.reduceEq,Int.reduceLT,Int.reduceLE,hi,↓Bs (AK hga) (A8 _ _ _),↓Bs (AK hgb) (A8 _ _ _),↓Cb,↓AbM,↓Ad hc];exact Al _ _
    ·simp only [Hu,HZ,Hr,HV,Jx,Hg,Qf,↓XX,XY,↓reduceIte,Nat.reduceBEq,Nat.reduceAdd,Int.reduceEq,Int.reduceLT,Int.reduceLE,hi,↓Bs (AK hga) (A8 _ _ _),↓Bs (AK hgb) (A8 _ _ _),↓Cb,↓AbM,↓Ad hc,hwi,↓AL,XD,heldB,AQ,XE];exact hrec ra.length _ _ (by omega) ⟨pa++[.mk o p l],ra,pb++[.mk o2 p2 l2],rb,by rw [hka];simp,by rw [hkb];simp,by simp [hpl],rfl,rfl,rfl,by simpa using hs⟩
 ·have h':¬ (ka.length:Int)=kb.length:=by omega
  rw [decide_eq_false h,Bool.false_and];simp only [Hu,HZ,Hr,HV,Jx,Hg,Qf,↓XX,XY,↓reduceIte,Nat.reduceBEq,Nat.reduceAdd,Int.reduceEq,Int.reduceLT,Int.reduceLE,h'];exact Al _ _
theorem Adg:∀(n:Nat) (a b:Tm),2 * a.wt+2<n→a.wt≤100000000→Bv (SS dt n 104 [.fv a.enc,.fv b.enc] ⟨[],[]⟩) (.bool (a.same b)):=by
 intro n
 induction n using Nat.strongRecOn with
 | ind n ih =>
  intro a b hn hw;obtain ⟨o,m,ka⟩:=a;obtain ⟨o',m',kb⟩:=b;simp only [Tm.wt] at hn hw;obtain ⟨n,rfl⟩:∃k,n=k+1+1:=⟨n - 2,by omega⟩;have hlen:=EH ka;have hq:=AkZ (n:=n) ka kb (by omega) (by omega) (fun a ha b _=>ih n (by omega) a b (by have:=CX ha;omega) (by have:=CX ha;omega));rw [Ao0,Ai,Ai,Tm.same];generalize (decide (ka.length=kb.length) && Tm.sameL ka kb)=v at hq;by_cases h1:o=o'
  ·by_cases h2:m=m'
   ·subst h1 h2;simp only [KE,KA,Lh,UY,↓XX,XY,↓reduceIte,Nat.reduceBEq,Nat.reduceAdd,Int.reduceEq,Int.reduceLT,Int.reduceLE,↓AO hq];exact Al _ _
   ·have h2':=decide_eq_false h2;subst h1;simp only [KE,KA,Lh,UY,↓XX,XY,↓reduceIte,Nat.reduceBEq,Nat.reduceAdd,Int.reduceEq,Int.reduceLT,Int.reduceLE,h2];exact Al _ _
  ·simp only [KE,KA,Lh,UY,↓XX,XY,↓reduceIte,Nat.reduceBEq,Nat.reduceAdd,Int.reduceEq,Int.reduceLT,Int.reduceLE,h1];exact Al _ _
theorem tSc:EE.T 78=some ⟨1,24,.slice 30,[.nils]⟩:=by kernel_rfl
theorem sSc:SliceT EE 78 3:=⟨_,_,_,_,_,tSc,tTm,rfl,by decide,by decide⟩
theorem Ajz (s:Nat) (h:Hp) (k:IV→Hp→List Ref→List Ref→Option (IV×Hp)):AE (Aj EE 78 0 []) s h k=k (.clip []) h [] []:=Em tSc tTm (by decide) (cells:=[]) rfl k
theorem Akz (o1 n1:Int) (k1:List FV) (s:Nat) (h:Hp) (k:IV→Hp→List Ref→List Ref→Option (IV×Hp)):AE (Aj EE 78 1 [(0,.fv (.agg [.int .i64 o1,.int .i64 n1,.sl k1]))]) s h k=k (.clip [.agg [.int .i64 o1,.int .i64 n1,.sl k1]]) h [] [] :=
 Em tSc tTm (by decide) (cells:=[.int .i64 o1,.int .i64 n1,.sl k1]) rfl k
theorem Afb {n:Nat} (g:List Tm) (hg:g.length≤900000):Bv (Ej true (SS dt (n+1)) 107 [.fv (.sl (g.map Tm.enc))] []) (.sl (g.map Tm.enc)):=by
 cases g with
 | nil =>
  have h1:B9 (SS dt (n+1) 107 [.nils] ⟨[],[]⟩)=true:=by kernel_rfl
  have h2:B9 (SS dt (n+1) 107 [.emp] ⟨[],[]⟩)=true:=by kernel_rfl
  simp only [Ej,Aq6,h1,h2,Bool.and_self,if_true];exact Al _ _
 | cons t g =>
  have e:Ej true (SS dt (n+1)) 107 [.fv (.sl ((t::g).map Tm.enc))] []=SS dt (n+1) 107 [.fv (.sl ((t::g).map Tm.enc))] ⟨[],[]⟩:=by
   simp [Ej]
  rw [e,Ao4];have happ:=fun {β:Type}=>H7 (β:=β) sSc (.sl ((t::g).map Tm.enc)) (DQ (t::g)) rfl (by simp at hg ⊢;omega) (s0:=.clip []) (.inr rfl);simp only [Aq7] at happ ⊢;simp only [AfE,↓XX,XY,↓reduceIte,Nat.reduceBEq,Nat.reduceAdd,Int.reduceEq,Int.reduceLT,Int.reduceLE,↓AmP tSc,↓Ajz,↓happ];exact A7 rfl _
theorem AgN {n:Nat} (g:List Tm):∃own,SS dt (n+1) 106 [.fv (.sl (g.map Tm.enc))] ⟨[],[]⟩=some (.clip (g.map Tm.enc),⟨own,[]⟩):=by
 rw [AoX];have hs:=fun {β:Type}=>AhA (β:=β) (E:=EE) sSc (es:=g.map Tm.enc) (DQ g);simp only [List.length_map] at hs;simp only [AdB,↓XX,XY,↓reduceIte,Nat.reduceBEq,Nat.reduceAdd,Int.reduceEq,Int.reduceLT,Int.reduceLE,↓hs];exact ⟨_,rfl⟩
theorem XZ {n:Nat} (g:List Tm) (a:Tm) (hg:g.length≤900000) (hn:1<n):Bv (SS dt n 75 [.fv (.sl (g.map Tm.enc)),.fv a.enc] ⟨[],[]⟩) (.sl ((g++[a]).map Tm.enc)):=by
 obtain ⟨n,rfl⟩:∃k,n=k+1+1:=⟨n - 2,by omega⟩;rw [c75];have h1:=Afb (n:=n) g hg;obtain ⟨o2,h2⟩:=AgN (n:=n) g;have happ:=fun {β:Type}=>AlW (β:=β) sSc (.clip [a.enc]) (DQ [a]) (DQ g) rfl (by simp;omega);rw [List.map_append,Aq7,Aq6];obtain ⟨o,p,k⟩:=a;rw [Ai] at happ ⊢;simp only [Ady,S75,↓XX,XY,↓reduceIte,Nat.reduceBEq,Nat.reduceAdd,Int.reduceEq,Int.reduceLT,Int.reduceLE,↓AiM h1,↓Akl h2,↓Akz,↓happ];exact A7 rfl _
theorem AdQ {n:Nat} (hn:0<n) (op:Int) (l:List Tm):Bv (SS dt n 64 [iv op,.fv (.sl (l.map Tm.enc))] ⟨[],[]⟩) (Tm.mk op 0 l).enc:=by
 obtain ⟨n,rfl⟩:∃k,n=k+1:=⟨n - 1,by omega⟩;rw [c64];simp only [S64,↓XX,XY,↓reduceIte,Nat.reduceBEq,Nat.reduceAdd,Int.reduceEq,Int.reduceLT,Int.reduceLE,Ai];exact Al _ _
theorem Akn {n:Nat} (hn:0<n) (op:Int):Bv (SS dt n 64 [iv op,.fv (.sl [])] ⟨[],[]⟩) (.agg [.int .i64 op,.int .i64 0,.sl []]):=AdQ hn op []
theorem Aa1 {n:Nat} (a:Tm) (e:Int) (hn:0<n) (hn:e=0→2 * a.wt+4<n):Bv (SS dt n 105 [.fv a.enc,iv e] ⟨[],[]⟩) (.tuple [a.enc,.int .i64 (if e=0 then (a.chk 0 1).2 else e)]):=by
 obtain ⟨n,rfl⟩:∃k,n=k+1:=⟨n - 1,by omega⟩;rw [An9];by_cases he:e=0
 ·have h:=Of (n:=n) a (by have:=hn he;omega);generalize (a.chk 0 1).2=c at h ⊢;obtain ⟨o,p,k⟩:=a;rw [Ai] at h ⊢;simp only [PF,QU,Ack,↓XX,XY,↓reduceIte,Nat.reduceBEq,Nat.reduceAdd,Int.reduceEq,Int.reduceLT,Int.reduceLE,he,↓Av h];first | exact Al _ _ | exact Ay rfl (by simp) _
 ·obtain ⟨o,p,k⟩:=a;rw [Ai];simp only [PF,QU,Ack,↓XX,XY,↓reduceIte,Nat.reduceBEq,Nat.reduceAdd,Int.reduceEq,Int.reduceLT,Int.reduceLE,he];first | exact Al _ _ | exact Ay rfl (by simp) _
theorem Agj {n:Nat} {g:List Tm} {t a:Tm} {q:Int×Tm} (h:Kp (SS dt n 53 [.fv (.sl (g.map Tm.enc)),.fv t.enc] ⟨[],[]⟩) q) (hw:2 * a.wt+2<n) (ha:a.wt≤100000000) :
  Bv (SS dt (n+1) 73 [.fv (.sl (g.map Tm.enc)),.fv t.enc,.fv a.enc] ⟨[],[]⟩) (.int .i64 (EQ q a)):=by
 obtain ⟨u,hu,he⟩:=h;obtain ⟨e,r⟩:=q;simp only at hu he;rw [c73];have hs:=Adg n a u hw ha;unfold EQ;simp only;by_cases h0:e=0
 ·have hur:=he h0;subst hur h0;rw [if_pos rfl];generalize a.same u=b at hs ⊢;obtain ⟨o1,n1,k1⟩:=t;obtain ⟨o2,n2,k2⟩:=a;obtain ⟨o3,n3,k3⟩:=u;simp only [Ai] at hu hs ⊢;cases b
  ·simp only [P7,QT,S73,↓XX,XY,↓reduceIte,Nat.reduceBEq,Nat.reduceAdd,Int.reduceEq,Int.reduceLT,Int.reduceLE,↓Ad hu,↓Ad hs];exact Al _ _
  ·simp only [P7,QT,S73,↓XX,XY,↓reduceIte,Nat.reduceBEq,Nat.reduceAdd,Int.reduceEq,Int.reduceLT,Int.reduceLE,↓Ad hu,↓Ad hs];exact Al _ _
 ·rw [if_neg h0];obtain ⟨o1,n1,k1⟩:=t;obtain ⟨o2,n2,k2⟩:=a;obtain ⟨o3,n3,k3⟩:=u;simp only [Ai] at hu hs ⊢;simp only [P7,QT,S73,↓XX,XY,↓reduceIte,Nat.reduceBEq,Nat.reduceAdd,Int.reduceEq,Int.reduceLT,Int.reduceLE,↓Ad hu,h0];exact Al _ _
def AiL (r:Option (IV×Hp)) (q:Int×Tm) (op:Int):Prop:=∃u v e,Bv r (.tuple [Tm.enc u,Tm.enc v,.int .i64 e])∧(q.1≠0→e=q.1)∧(q.1=0→q.2.op≠op→e=12)∧(q.1=0→q.2.op=op→e=0∧u=q.2.kid 0∧v=q.2.kid 1)
theorem TC {n:Nat} {g:List Tm} {t:Tm} {op:Int} {q:Int×Tm} (h:Kp (SS dt n 53 [.fv (.sl (g.map Tm.enc)),.fv t.enc] ⟨[],[]⟩) q) (ht:q.1=0→q.2.op=op→∃x y,q.2.kids=[x,y]) :
  AiL (SS dt (n+1) 108 [.fv (.sl (g.map Tm.enc)),.fv t.enc,iv op] ⟨[],[]⟩) q op:=by
 obtain ⟨u,hu,he⟩:=h;obtain ⟨e,r⟩:=q;simp only at hu he ht;rw [Ao9];by_cases h0:e=0
 ·have hur:=he h0;subst hur h0;obtain ⟨o1,n1,k1⟩:=t;obtain ⟨o3,n3,k3⟩:=u;simp only [Ai,Tm.op,Tm.kids] at hu ht ⊢;by_cases h1:o3=op
  ·obtain ⟨x,y,rfl⟩:=ht trivial h1;refine ⟨x,y,0,?_,fun h=>absurd rfl h,fun _ h=>absurd h1 h,fun _ _=>⟨rfl,rfl,rfl⟩⟩;subst h1;obtain ⟨o4,n4,k4⟩:=x;obtain ⟨o5,n5,k5⟩:=y;simp only [Aq7,Aq6,Ai] at hu ⊢;simp only [KT,KG,K5,KK,K9,KB,KC,KP,KY,V8,↓XX,XY,↓reduceIte,Nat.reduceBEq,Nat.reduceAdd,Int.reduceEq,Int.reduceLT,Int.reduceLE,↓Ad hu,↓Cy,↓CV];first | exact Al _ _ | exact Ay rfl (by simp) _
  ·refine ⟨.z,.z,12,?_,fun h=>absurd rfl h,fun _ _=>rfl,fun _ h=>absurd h h1⟩;simp only [KT,KG,K5,KK,K9,KB,KC,KP,KY,V8,↓XX,XY,↓reduceIte,Nat.reduceBEq,Nat.reduceAdd,Int.reduceEq,Int.reduceLT,Int.reduceLE,↓Ad hu,h1,Tm.z,Ai];first | exact Al _ _ | exact Ay rfl (by simp) _
 ·obtain ⟨o1,n1,k1⟩:=t;obtain ⟨o3,n3,k3⟩:=u;simp only [Ai] at hu ⊢;refine ⟨.z,.z,e,?_,fun h=>rfl,fun h=>absurd h h0,fun h=>absurd h h0⟩;simp only [KT,KG,K5,KK,K9,KB,KC,KP,KY,V8,↓XX,XY,↓reduceIte,Nat.reduceBEq,Nat.reduceAdd,Int.reduceEq,Int.reduceLT,Int.reduceLE,↓Ad hu,h0,Tm.z,Ai];first | exact Al _ _ | exact Ay rfl (by simp) _
theorem Ael (ih:Aa) (xs:List IV) (h0:Hp) (k:IV→Hp→List Ref→List Ref→Option (IV×Hp)):ND EE ih (.fv (.func (.func 76) [] [])) xs h0 k=Am [] false false ih 76 xs h0 k :=
 Ad4 (by kernel_rfl) (by kernel_rfl) (by kernel_rfl) (by kernel_rfl) ..
abbrev Aaf (n:Nat) (g:List Tm) (t:Tm):Prop:=Kp (SS dt n 53 [.fv (.sl (g.map Tm.enc)),.fv t.enc] ⟨[],[]⟩) (t.inf g)
set_option maxRecDepth 20000 in
theorem AcE {n:Nat} {g:List Tm} {op m:Int} {a b:Tm} (ho:op=20∨op=29) (hg:g.length≤900000) (hn:a.wt+3<n) (ih:a.typed=true→Aaf n (g++[a]) b)
  (ihc:a.typed=true→Bv (SS dt n 73 [.fv (.sl ((g++[a]).map Tm.enc)),.fv b.enc,.fv a.enc] ⟨[],[]⟩) (.int .i64 (EQ (b.inf (g++[a])) a)))
  (hb:a.typed=true→(b.inf (g++[a])).1=0→2 * (2+a.wt+(b.inf (g++[a])).2.wt)+4<n) :
  Kp (SS dt (n+1) 74 [.fv (.sl (g.map Tm.enc)),.fv (Tm.mk op m [a,b]).enc] ⟨[],[]⟩) ((Tm.mk op m [a,b]).inf g):=by
 rw [c74,Tm.inf];have hty:=R5 n a (by omega);have hw:=XZ (n:=n) g a hg (by omega);cases hta:a.typed
 ·rw [hta] at hty
  have:(Tm.mk op m [a,b]).inf g=(10,.z):=by rcases ho with rfl | rfl<;>simp [Tm.inf,hta]
  rw [Tm.inf] at this;simp only [hta] at this;simp only [this];refine J9 (u:=.z) ?_ (by decide);obtain ⟨o1,n1,k1⟩:=a;obtain ⟨o2,n2,k2⟩:=b;simp only [Ai,Tm.z,Aq7,Aq6] at hty ⊢;simp only [Kr,K8,KQ,Kx,K3,K0,Ku,Kv,K7,La,KJ,Kt,Lj,KS,S74,↓XX,XY,↓reduceIte,Nat.reduceBEq,Nat.reduceAdd,Int.reduceEq,Int.reduceLT,Int.reduceLE,↓Cy,↓CV,↓Av hty];first | exact Al _ _ | exact Ay rfl (by simp) _
 ·rw [hta] at hty;rcases ho with rfl | rfl
  ·obtain ⟨u,hu,he⟩:=ih hta;have hbb:=hb hta;simp only [if_true,Int.reduceEq,if_false,Ia];generalize b.inf (g++[a])=q at hu he hbb ⊢;obtain ⟨e,r⟩:=q;simp only at hu he hbb ⊢;have hof:=AdQ (n:=n) (by omega) 16 [a,u];have hm:=Aa1 (n:=n) (.mk 16 0 [a,u]) e (by omega) (fun h=>by have:=he h;subst this;have:=hbb h;simp only [Tm.wt,Tm.wtL];omega);refine ⟨.mk 16 0 [a,u],?_,fun h0=>?_⟩
   ·have e1:(if e=0 then (((Tm.mk 16 0 [a,r]).chk 0 1).2,Tm.mk 16 0 [a,r]) else (e,.z)).1=(if e=0 then ((Tm.mk 16 0 [a,u]).chk 0 1).2 else e):=by
     by_cases h:e=0
     ·rw [if_pos h,if_pos h,he h]
     ·rw [if_neg h,if_neg h]
    rw [e1];generalize (if e=0 then ((Tm.mk 16 0 [a,u]).chk 0 1).2 else e)=w at hm ⊢;obtain ⟨o1,n1,k1⟩:=a;obtain ⟨o2,n2,k2⟩:=b;obtain ⟨o3,n3,k3⟩:=u;simp only [Ai,Aq7,Aq6,List.map_append] at hty hw hu hof hm ⊢;simp only [Kr,K8,KQ,Kx,K3,K0,Ku,Kv,K7,La,KJ,Kt,Lj,KS,S74,↓XX,XY,↓reduceIte,Nat.reduceBEq,Nat.reduceAdd,Int.reduceEq,Int.reduceLT,Int.reduceLE,↓Cy,↓CV,↓Av hty,↓Ad hw,↓Ad hu,↓C1,↓Ad hof,↓Ad hm];first | exact Al _ _ | exact Ay rfl (by simp) _
   ·by_cases h:e=0
    ·rw [if_pos h,he h]
    ·rw [if_neg h] at h0;exact absurd h0 h
  ·have hc:=ihc hta;simp only [if_true,Int.reduceEq,if_false];refine Vy ?_;generalize EQ (b.inf (g++[a])) a=w at hc ⊢;obtain ⟨o1,n1,k1⟩:=a;obtain ⟨o2,n2,k2⟩:=b;simp only [Ai,Aq7,Aq6,List.map_append] at hty hw hc ⊢;simp only [Kr,K8,KQ,Kx,K3,K0,Ku,Kv,K7,La,KJ,Kt,Lj,KS,S74,↓XX,XY,↓reduceIte,Nat.reduceBEq,Nat.reduceAdd,Int.reduceEq,Int.reduceLT,Int.reduceLE,↓Cy,↓CV,↓Av hty,↓Ad hw,↓AO hc];first | exact Al _ _ | exact Ay rfl (by simp) _
theorem Ahw {n:Nat} {g:List Tm} {op m:Int} {l:List Tm} (h1:op≠22) (h2:op≠21) (h3:op≠23) (h4:op≠24):Bv (SS dt (n+1) 76 [.fv (.sl (g.map Tm.enc)),.fv (Tm.mk op m l).enc] ⟨[],[]⟩) (.tuple [Tm.z.enc,.int .i64 10]):=by
 rw [c76,Ai];simp only [↓UZ,↓XX,XY,↓reduceIte,Nat.reduceBEq,Nat.reduceAdd,Int.reduceEq,Int.reduceLT,Int.reduceLE,h1,h2,h3,h4,Tm.z,Ai];first | exact Al _ _ | exact Ay rfl (by simp) _
theorem Ah2 {n:Nat} {g:List Tm} {op m:Int} {a:Tm} (ho:op=23∨op=24) (hs:AiL (SS dt n 108 [.fv (.sl (g.map Tm.enc)),.fv a.enc,iv 17] ⟨[],[]⟩) (a.inf g) 17) :
  Kp (SS dt (n+1) 76 [.fv (.sl (g.map Tm.enc)),.fv (Tm.mk op m [a]).enc] ⟨[],[]⟩) ((Tm.mk op m [a]).inf g):=by
 rw [c76,Tm.inf];obtain ⟨u,v,e,hu,he1,he2,he3⟩:=hs;generalize a.inf g=q at he1 he2 he3 ⊢;obtain ⟨e',r⟩:=q;simp only at he1 he2 he3 ⊢;rcases ho with rfl | rfl
 ·simp only [if_true];refine ⟨u,?_,?_⟩
  ·have:(if e'=0 then if r.op=17 then ((0:Int),r.kid 0) else (12,.z) else (e',.z)).1=e:=by
    by_cases h:e'=0
    ·rw [if_pos h];by_cases h2:r.op=17
     ·rw [if_pos h2,(he3 h h2).1]
     ·rw [if_neg h2,he2 h h2]
    ·rw [if_neg h,he1 h]
   rw [this];obtain ⟨o1,n1,k1⟩:=a;obtain ⟨o2,n2,k2⟩:=u;obtain ⟨o3,n3,k3⟩:=v;simp only [Ai,Aq7,Aq6] at hu ⊢;simp only [↓UZ,↓XX,XY,↓reduceIte,Nat.reduceBEq,Nat.reduceAdd,Int.reduceEq,Int.reduceLT,Int.reduceLE,↓Cy,↓AO hu];first | exact Al _ _ | exact Ay rfl (by simp) _
  ·intro h0;by_cases h:e'=0
   ·rw [if_pos h] at h0 ⊢;by_cases h2:r.op=17
    ·rw [if_pos h2,(he3 h h2).2.1]
    ·rw [if_neg h2] at h0;cases h0
   ·rw [if_neg h] at h0;exact absurd h0 h
 ·simp only [Int.reduceEq,if_false,if_true];refine ⟨v,?_,?_⟩
  ·have:(if e'=0 then if r.op=17 then ((0:Int),r.kid 1) else (12,.z) else (e',.z)).1=e:=by
    by_cases h:e'=0
    ·rw [if_pos h];by_cases h2:r.op=17
     ·rw [if_pos h2,(he3 h h2).1]
     ·rw [if_neg h2,he2 h h2]
    ·rw [if_neg h,he1 h]
   rw [this];obtain ⟨o1,n1,k1⟩:=a;obtain ⟨o2,n2,k2⟩:=u;obtain ⟨o3,n3,k3⟩:=v;simp only [Ai,Aq7,Aq6] at hu ⊢;simp only [↓UZ,↓XX,XY,↓reduceIte,Nat.reduceBEq,Nat.reduceAdd,Int.reduceEq,Int.reduceLT,Int.reduceLE,↓Cy,↓AO hu];first | exact Al _ _ | exact Ay rfl (by simp) _
  ·intro h0;by_cases h:e'=0
   ·rw [if_pos h] at h0 ⊢;by_cases h2:r.op=17
    ·rw [if_pos h2,(he3 h h2).2.2]
    ·rw [if_neg h2] at h0;cases h0
   ·rw [if_neg h] at h0;exact absurd h0 h
set_option maxRecDepth 20000 in
theorem AgP {n:Nat} {g:List Tm} {m:Int} {a b:Tm} (hs:AiL (SS dt n 108 [.fv (.sl (g.map Tm.enc)),.fv a.enc,iv 16] ⟨[],[]⟩) (a.inf g) 16)
  (hc:(a.inf g).1=0→(a.inf g).2.op=16→Bv (SS dt n 73 [.fv (.sl (g.map Tm.enc)),.fv b.enc,.fv ((a.inf g).2.kid 0).enc] ⟨[],[]⟩) (.int .i64 (EQ (b.inf g) ((a.inf g).2.kid 0)))) :
  Kp (SS dt (n+1) 76 [.fv (.sl (g.map Tm.enc)),.fv (Tm.mk 21 m [a,b]).enc] ⟨[],[]⟩) ((Tm.mk 21 m [a,b]).inf g):=by
 rw [c76,Tm.inf];obtain ⟨u,v,e,hu,he1,he2,he3⟩:=hs;simp only [Int.reduceEq,if_false,if_true];generalize a.inf g=q at he1 he2 he3 hc ⊢;obtain ⟨e',r⟩:=q;simp only at he1 he2 he3 hc ⊢;have hfail:e≠0→Kp (S76 (SS dt n) n (.fv (.sl (g.map Tm.enc))) (.fv (Tm.mk 21 m [a,b]).enc) ⟨[],[]⟩) (e,.z):=by
  intro h0;refine J9 (u:=.z) ?_ h0;obtain ⟨o1,n1,k1⟩:=a;obtain ⟨o2,n2,k2⟩:=u;obtain ⟨o3,n3,k3⟩:=v;simp only [Ai,Aq7,Aq6] at hu ⊢;simp only [↓UZ,↓XX,XY,↓reduceIte,Nat.reduceBEq,Nat.reduceAdd,Int.reduceEq,Int.reduceLT,Int.reduceLE,↓Cy,↓AO hu,h0,Tm.z,Ai];first | exact Al _ _ | exact Ay rfl (by simp) _
 by_cases h:e'=0
 ·rw [if_pos h];by_cases h2:r.op=16
  ·rw [if_pos h2];have hcc:=hc h h2;obtain ⟨h3,h4,h5⟩:=he3 h h2;rw [← h4] at hcc ⊢;rw [← h5];subst h3;refine Vy ?_;generalize EQ (b.inf g) u=w at hcc ⊢;obtain ⟨o1,n1,k1⟩:=a;obtain ⟨o2,n2,k2⟩:=u;obtain ⟨o3,n3,k3⟩:=v;obtain ⟨o4,n4,k4⟩:=b;simp only [Ai,Aq7,Aq6] at hu hcc ⊢;simp only [↓UZ,↓XX,XY,↓reduceIte,Nat.reduceBEq,Nat.reduceAdd,Int.reduceEq,Int.reduceLT,Int.reduceLE,↓Cy,↓CV,↓AO hu,↓AO hcc];first | exact Al _ _ | exact Ay rfl (by simp) _
  ·rw [if_neg h2]
   have:=he2 h h2
   subst this;exact hfail (by decide)
 ·rw [if_neg h]
  have:=he1 h
  subst this;exact hfail h
set_option maxRecDepth 20000 in
theorem AhD {n:Nat} {g:List Tm} {m:Int} {a b:Tm} (hn:3<n) (ha:Aaf n g a) (hb:(a.inf g).1=0→Aaf n g b) (hw:(a.inf g).1=0→(b.inf g).1=0→2 * (2+(a.inf g).2.wt+(b.inf g).2.wt)+4<n) :
  Kp (SS dt (n+1) 76 [.fv (.sl (g.map Tm.enc)),.fv (Tm.mk 22 m [a,b]).enc] ⟨[],[]⟩) ((Tm.mk 22 m [a,b]).inf g):=by
 rw [c76,Tm.inf];obtain ⟨u,hu,he⟩:=ha;simp only [Int.reduceEq,if_false,if_true];generalize a.inf g=q at hu he hw hb ⊢;obtain ⟨e,r⟩:=q;simp only at hu he hw hb ⊢;by_cases h:e=0
 ·rw [if_pos h]
  have:=he h
  subst this;subst h;obtain ⟨v,hv,hve⟩:=hb rfl;have hw:=hw rfl;unfold Ia;generalize b.inf g=q at hv hve hw ⊢;obtain ⟨e,r⟩:=q;simp only at hv hve hw ⊢;have hof:=AdQ (n:=n) (by omega) 17 [u,v];have hm:=Aa1 (n:=n) (.mk 17 0 [u,v]) e (by omega) (fun h=>by have:=hve h;subst this;have:=hw h;simp only [Tm.wt,Tm.wtL];omega);refine ⟨.mk 17 0 [u,v],?_,fun h0=>?_⟩
  ·have e1:(if e=0 then (((Tm.mk 17 0 [u,r]).chk 0 1).2,Tm.mk 17 0 [u,r]) else (e,.z)).1=(if e=0 then ((Tm.mk 17 0 [u,v]).chk 0 1).2 else e):=by
    by_cases h:e=0
    ·rw [if_pos h,if_pos h,hve h]
    ·rw [if_neg h,if_neg h]
   rw [e1];generalize (if e=0 then ((Tm.mk 17 0 [u,v]).chk 0 1).2 else e)=w at hm ⊢;obtain ⟨o1,n1,k1⟩:=a;obtain ⟨o2,n2,k2⟩:=b;obtain ⟨o3,n3,k3⟩:=u;obtain ⟨o4,n4,k4⟩:=v;simp only [Ai,Aq7,Aq6] at hu hv hof hm ⊢;simp only [↓UZ,↓XX,XY,↓reduceIte,Nat.reduceBEq,Nat.reduceAdd,Int.reduceEq,Int.reduceLT,Int.reduceLE,↓Cy,↓CV,↓Ad hu,↓Ad hv,↓C1,↓Ad hof,↓Ad hm];first | exact Al _ _ | exact Ay rfl (by simp) _
  ·by_cases h:e=0
   ·rw [if_pos h,hve h]
   ·rw [if_neg h] at h0;exact absurd h0 h
 ·rw [if_neg h];refine J9 (u:=.z) ?_ h;obtain ⟨o1,n1,k1⟩:=a;obtain ⟨o2,n2,k2⟩:=b;obtain ⟨o3,n3,k3⟩:=u;simp only [Ai,Aq7,Aq6] at hu ⊢;simp only [↓UZ,↓XX,XY,↓reduceIte,Nat.reduceBEq,Nat.reduceAdd,Int.reduceEq,Int.reduceLT,Int.reduceLE,↓Cy,↓CV,↓Ad hu,h,Tm.z,Ai];first | exact Al _ _ | exact Ay rfl (by simp) _
set_option maxRecDepth 20000 in
theorem Akd (M:Nat) (hM:3000≤M) (hM2:M≤1000000):∀(n:Nat) (t:Tm) (g:List Tm),t.shp→t.wt≤M→(∀x∈g,x.typed=true∧x.wt≤M)→g.length+t.wt≤900000→4 * t.wt+6 * M+60<n→Aaf n g t:=by
 intro n
 induction n using Nat.strongRecOn with
 | ind n ih =>
  intro t g hs hw hg hl hn;obtain ⟨n,rfl⟩:∃k,n=k+1:=⟨n - 1,by omega⟩;obtain ⟨op,m,l⟩:=t;have hs0:=hs;rw [Tm.shp] at hs;obtain ⟨hk,hv,hsl⟩:=hs;simp only [Tm.wt] at hw hl hn;have hof:=Akn (n:=n) (by omega) 15;have hti:=fun (k:Nat)=>On M hM k;have hgx:∀a:Tm,a.typed=true∧a.wt≤M→∀x∈g++[a],x.typed=true∧x.wt≤M:=by
   intro a ha x hx;rcases List.mem_append.1 hx with h | h
   ·exact hg x h
   ·rw [List.mem_singleton.1 h];exact ha
  have hck:∀(c a:Tm) (g':List Tm) (k:Nat),k+1≤n→c.shp→c.wt≤M→(∀x∈g',x.typed=true∧x.wt≤M)→g'.length+c.wt≤900000→4 * c.wt+6 * M+60<k→a.wt≤M →
    Bv (SS dt (k+1) 73 [.fv (.sl (g'.map Tm.enc)),.fv c.enc,.fv a.enc] ⟨[],[]⟩) (.int .i64 (EQ (c.inf g') a)) :=
   fun c a g' k hk h1 h2 h3 h4 h5 h6=>Agj (ih k (by omega) c g' h1 h2 h3 h4 h5) (by omega) (by omega)
  show Kp _ _
  rw [c53];by_cases o1:op=1
  ·subst o1
   have:=Anz hk
   subst this;have hm:=hv rfl;rw [Tm.inf,if_pos rfl,Ai];by_cases h2:(g.length:Int)≤m
   ·rw [if_pos h2];refine J9 (u:=.z) ?_ (by decide);simp only [↓Kj,↓XX,XY,↓reduceIte,Nat.reduceBEq,Nat.reduceAdd,Int.reduceEq,Int.reduceLT,Int.reduceLE,h2,Tm.z,Ai];first | exact Al _ _ | exact Ay rfl (by simp) _
   ·rw [if_neg h2];have hlt:g.length - 1 - m.toNat<g.length:=by omega
    have hget:g[g.length - 1 - m.toNat]?=some (g.getD (g.length - 1 - m.toNat) .z):=by
     rw [List.getD_eq_getElem?_getD,List.getElem?_eq_getElem hlt];rfl
    have w1:B6 ((g.length:Int) - 1)=(g.length:Int) - 1:=by rw [Ax]<;>omega
    have w2:B6 ((g.length:Int) - 1 - m)=((g.length - 1 - m.toNat:Nat):Int):=by rw [Ax (by omega) (by omega)];omega
    refine Vy ?_;generalize g.getD (g.length - 1 - m.toNat) .z=x at hget ⊢;obtain ⟨o,p,k⟩:=x;simp only [↓Kj,↓XX,XY,↓reduceIte,Nat.reduceBEq,Nat.reduceAdd,Int.reduceEq,Int.reduceLT,Int.reduceLE,h2,w1,w2,↓Bs (AK hget) (A8 _ _ _),↓Cb,Ai];first | exact Al _ _ | exact Ay rfl (by simp) _
  by_cases o2:op=25
  ·subst o2
   have:=Anz hk
   subst this;rw [Tm.inf,if_neg (by decide),if_pos rfl,Ai];refine Vy ?_;simp only [↓Kj,↓XX,XY,↓reduceIte,Nat.reduceBEq,Nat.reduceAdd,Int.reduceEq,Int.reduceLT,Int.reduceLE,↓Ad hof,tI,Ai];first | exact Al _ _ | exact Ay rfl (by simp) _
  by_cases o3:op=26
  ·subst o3;obtain ⟨a,b,rfl⟩:=Afi hk;simp only [Tm.wtL] at hw hl hn;obtain ⟨k,rfl⟩:∃k,n=k+1:=⟨n - 1,by omega⟩;have htw:tI.wt≤M:=by simp [tI,Tm.wt,Tm.wtL];omega
   have ha:=hck a tI g k (by omega) hsl.1 (by omega) hg (by omega) (by omega) htw;have hb:=hck b tI g k (by omega) hsl.2.1 (by omega) hg (by omega) (by omega) htw;rw [Tm.inf,if_pos rfl];generalize EQ (a.inf g) tI=x at ha ⊢;generalize EQ (b.inf g) tI=y at hb ⊢;by_cases h:x=0
   ·rw [if_pos h];refine Vy ?_;subst h;obtain ⟨o1,n1,k1⟩:=a;obtain ⟨o2,n2,k2⟩:=b;simp only [Ai,tI,Aq7,Aq6] at ha hb ⊢;simp only [↓Kj,↓XX,XY,↓reduceIte,Nat.reduceBEq,Nat.reduceAdd,Int.reduceEq,Int.reduceLT,Int.reduceLE,↓Ad hof,↓Cy,↓CV,↓AO ha,↓AO hb];first | exact Al _ _ | exact Ay rfl (by simp) _
   ·rw [if_neg h];refine J9 (u:=.z) ?_ h;obtain ⟨o1,n1,k1⟩:=a;obtain ⟨o2,n2,k2⟩:=b;simp only [Ai,tI,Aq7,Aq6] at ha hb ⊢;simp only [↓Kj,↓XX,XY,↓reduceIte,Nat.reduceBEq,Nat.reduceAdd,Int.reduceEq,Int.reduceLT,Int.reduceLE,↓Ad hof,↓Cy,↓CV,↓AO ha,h,Tm.z,Ai];first | exact Al _ _ | exact Ay rfl (by simp) _
  by_cases o4:op=20∨op=29
  ·have hk2:C2 op=2:=by rcases o4 with rfl | rfl<;>rfl
   obtain ⟨a,b,rfl⟩:=Afi (hk.trans hk2);simp only [Tm.wtL] at hw hl hn;obtain ⟨k,rfl⟩:∃k,n=k+1+1:=⟨n - 2,by omega⟩;obtain ⟨u,hu,hue⟩:=AcE (n:=k+1) (g:=g) (op:=op) (m:=m) (a:=a) (b:=b) o4 (by omega) (by omega) (fun h=>ih (k+1) (by omega) b (g++[a]) hsl.2.1 (by omega) (hgx a ⟨h,by omega⟩) (by simp;omega) (by omega))
    (fun h=>hck b a (g++[a]) k (by omega) hsl.2.1 (by omega) (hgx a ⟨h,by omega⟩) (by simp;omega) (by omega) (by omega))
    (fun h h0=>by have:=(hti _ b (g++[a]) (Nat.lt_succ_self _) (by omega) (hgx a ⟨h,by omega⟩) hsl.2.1 h0).2;omega)
   refine ⟨u,?_,hue⟩;generalize (Tm.mk op m [a,b]).inf g=q at hu ⊢;obtain ⟨e,r⟩:=q;obtain ⟨o1,n1,k1⟩:=u;simp only [Ai] at hu ⊢;rcases o4 with rfl | rfl<;>(simp only [↓Kj,↓XX,XY,↓reduceIte,Nat.reduceBEq,Nat.reduceAdd,Int.reduceEq,Int.reduceLT,Int.reduceLE,↓Ad hu];first | exact Al _ _ | exact Ay rfl (by simp) _)
  by_cases o5:op=28
  ·subst o5;obtain ⟨a,b,rfl⟩:=Afi hk;simp only [Tm.wtL] at hw hl hn;have hpa:=Gt a;have hpb:=Gt b;have hta:=hti _ a g (Nat.lt_succ_self _) (by omega) hg hsl.1;obtain ⟨u,hu,he⟩:=ih n (by omega) a g hsl.1 (by omega) hg (by omega) (by omega);rw [Tm.inf,if_neg (by decide),if_neg (by decide),if_neg (by decide),if_pos rfl];generalize a.inf g=q at hu he hta ⊢;obtain ⟨e,r⟩:=q;simp only at hu he hta ⊢;by_cases h:e=0
   ·have:=he h
    subst this h;rw [if_pos rfl];have hwi:=XZ (n:=n) g u (by omega) (by omega);obtain ⟨v,hv2,hve⟩:=ih n (by omega) b (g++[u]) hsl.2.1 (by omega) (hgx u (hta rfl)) (by simp;omega) (by omega);refine ⟨v,?_,hve⟩;generalize b.inf (g++[u])=q at hv2 ⊢;obtain ⟨o1,n1,k1⟩:=a;obtain ⟨o2,n2,k2⟩:=b;obtain ⟨o3,n3,k3⟩:=u;obtain ⟨o4,n4,k4⟩:=v;simp only [Ai,Aq7,Aq6,List.map_append] at hu hv2 hwi ⊢;simp only [↓Kj,↓XX,XY,↓reduceIte,Nat.reduceBEq,Nat.reduceAdd,Int.reduceEq,Int.reduceLT,Int.reduceLE,↓Cy,↓CV,↓Ad hu,↓Ad hwi,↓Ad hv2];first | exact Al _ _ | exact Ay rfl (by simp) _
   ·rw [if_neg h];refine J9 (u:=.z) ?_ h;obtain ⟨o1,n1,k1⟩:=a;obtain ⟨o2,n2,k2⟩:=b;obtain ⟨o3,n3,k3⟩:=u;simp only [Ai,Aq7,Aq6] at hu ⊢;simp only [↓Kj,↓XX,XY,↓reduceIte,Nat.reduceBEq,Nat.reduceAdd,Int.reduceEq,Int.reduceLT,Int.reduceLE,↓Cy,↓CV,↓Ad hu,h,Tm.z,Ai];first | exact Al _ _ | exact Ay rfl (by simp) _
  by_cases o6:op=27
  ·subst o6;obtain ⟨a,b,c,rfl⟩:=AnS hk;simp only [Tm.wtL] at hw hl hn;obtain ⟨k,rfl⟩:∃k,n=k+1:=⟨n - 1,by omega⟩;have htw:tI.wt≤M:=by simp [tI,Tm.wt,Tm.wtL];omega
   have ha:=hck a tI g k (by omega) hsl.1 (by omega) hg (by omega) (by omega) htw;rw [Tm.inf,if_pos rfl];generalize EQ (a.inf g) tI=x at ha ⊢;by_cases h:x=0
   ·subst h;rw [if_pos rfl];obtain ⟨u,hu,he⟩:=ih (k+1) (by omega) b g hsl.2.1 (by omega) hg (by omega) (by omega);have htb:=hti _ b g (Nat.lt_succ_self _) (by omega) hg hsl.2.1;have hc:=fun (y:Tm) (hy:y.wt≤M)=>hck c y g k (by omega) hsl.2.2.1 (by omega) hg (by omega) (by omega) hy;generalize b.inf g=q at hu he htb ⊢;obtain ⟨e,r⟩:=q;simp only at hu he htb ⊢;by_cases h:e=0
    ·have:=he h
     subst this h;rw [if_pos rfl];have hc:=hc u (htb rfl).2;refine Vy ?_;generalize EQ (c.inf g) u=w at hc ⊢;obtain ⟨o1,n1,k1⟩:=a;obtain ⟨o2,n2,k2⟩:=b;obtain ⟨o3,n3,k3⟩:=c;obtain ⟨o4,n4,k4⟩:=u;simp only [Ai,tI,Aq7,Aq6] at ha hu hc ⊢;simp only [↓Kj,↓XX,XY,↓reduceIte,Nat.reduceBEq,Nat.reduceAdd,Int.reduceEq,Int.reduceLT,Int.reduceLE,↓Ad hof,↓Cy,↓CV,↓Im,↓AO ha,↓Ad hu,↓AO hc];first | exact Al _ _ | exact Ay rfl (by simp) _
    ·rw [if_neg h];refine J9 (u:=.z) ?_ h;obtain ⟨o1,n1,k1⟩:=a;obtain ⟨o2,n2,k2⟩:=b;obtain ⟨o3,n3,k3⟩:=c;obtain ⟨o4,n4,k4⟩:=u;simp only [Ai,tI,Aq7,Aq6] at ha hu ⊢;simp only [↓Kj,↓XX,XY,↓reduceIte,Nat.reduceBEq,Nat.reduceAdd,Int.reduceEq,Int.reduceLT,Int.reduceLE,↓Ad hof,↓Cy,↓CV,↓Im,↓AO ha,↓Ad hu,h,Tm.z,Ai];first | exact Al _ _ | exact Ay rfl (by simp) _
   ·rw [if_neg h];refine J9 (u:=.z) ?_ h;obtain ⟨o1,n1,k1⟩:=a;obtain ⟨o2,n2,k2⟩:=b;obtain ⟨o3,n3,k3⟩:=c;simp only [Ai,tI,Aq7,Aq6] at ha ⊢;simp only [↓Kj,↓XX,XY,↓reduceIte,Nat.reduceBEq,Nat.reduceAdd,Int.reduceEq,Int.reduceLT,Int.reduceLE,↓Ad hof,↓Cy,↓CV,↓Im,↓AO ha,h,Tm.z,Ai];first | exact Al _ _ | exact Ay rfl (by simp) _
  have o7:op≠20:=fun h=>o4 (.inl h);have o8:op≠29:=fun h=>o4 (.inr h);have hpart:Kp (SS dt n 76 [.fv (.sl (g.map Tm.enc)),.fv (Tm.mk op m l).enc] ⟨[],[]⟩) ((Tm.mk op m l).inf g):=by
   obtain ⟨n,rfl⟩:∃k,n=k+1+1:=⟨n - 2,by omega⟩;by_cases p1:op=23∨op=24
   ·have hk2:C2 op=1:=by rcases p1 with rfl | rfl<;>rfl
    obtain ⟨a,rfl⟩:=Ao2 (hk.trans hk2);simp only [Tm.wtL] at hw hl hn;refine Ah2 p1 (TC (ih n (by omega) a g hsl.1 (by omega) hg (by omega) (by omega)) fun h h2=>?_);exact JJ (.inr rfl) (hti _ a g (Nat.lt_succ_self _) (by omega) hg hsl.1 h).1 h2
   by_cases p2:op=21
   ·subst p2;obtain ⟨a,b,rfl⟩:=Afi hk;simp only [Tm.wtL] at hw hl hn;have hta:=hti _ a g (Nat.lt_succ_self _) (by omega) hg hsl.1;refine AgP (TC (ih n (by omega) a g hsl.1 (by omega) hg (by omega) (by omega)) fun h h2=>JJ (.inl rfl) (hta h).1 h2) fun h h2=>?_;obtain ⟨x,y,hxy⟩:=JJ (.inl rfl) (hta h).1 h2;exact hck b _ g n (by omega) hsl.2.1 (by omega) hg (by omega) (by omega) (by have:=Aho hxy;have:=(hta h).2;omega)
   by_cases p3:op=22
   ·subst p3;obtain ⟨a,b,rfl⟩:=Afi hk;simp only [Tm.wtL] at hw hl hn;have hta:=hti _ a g (Nat.lt_succ_self _) (by omega) hg hsl.1;have htb:=hti _ b g (Nat.lt_succ_self _) (by omega) hg hsl.2.1;exact AhD (by omega) (ih (n+1) (by omega) a g hsl.1 (by omega) hg (by omega) (by omega)) (fun _=>ih (n+1) (by omega) b g hsl.2.1 (by omega) hg (by omega) (by omega)) (fun h h2=>by have:=(hta h).2;have:=(htb h2).2;omega)
   rw [Acr ⟨o1,o2,fun h=>p1 (.inl h),fun h=>p1 (.inr h),o3,o7,o8,o5,p3,p2,o6⟩];exact Vy (Ahw p3 p2 (fun h=>p1 (.inl h)) (fun h=>p1 (.inr h)))
  obtain ⟨u,hu,hue⟩:=hpart;refine ⟨u,?_,hue⟩;generalize (Tm.mk op m l).inf g=q at hu ⊢;obtain ⟨e,r⟩:=q;obtain ⟨p1,p2,p3⟩:=u;simp only [Ai] at hu ⊢;simp only [↓Kj,↓XX,XY,↓reduceIte,Nat.reduceBEq,Nat.reduceAdd,Int.reduceEq,Int.reduceLT,Int.reduceLE,o1,o2,o3,o5,o6,o7,o8,↓Ael,↓Ad hu];first | exact Al _ _ | exact Ay rfl (by simp) _
abbrev Aos (op m:Int) (ks done:List Tm) (r:Nat):Hp :=
 ⟨[(56623104,.row [iv op,iv m,.fv (.sl (ks.map Tm.enc))] false),(56623105,.row [iv 0,iv 0,.nils] false),(56624131,.row (B3 done r) false)],[]⟩
set_option maxRecDepth 20000 in
set_option maxHeartbeats 1000000 in
theorem Ak3:∀(n:Nat) (t:Tm),t.wt+1<n→t.shp→Aku (SS dt n 54 [.fv t.enc] ⟨[],[]⟩) t.enc:=by
 intro n
 induction n with
 | zero=>intro t h;omega
 | succ n ih =>
  intro t hn hs;obtain ⟨op,m,ks⟩:=t;simp only [Tm.wt] at hn;rw [Tm.shp] at hs;obtain ⟨hk,_,hsl⟩:=hs;have hk4:=M8 op;rw [c54];have hlen:=EH ks;rw [Ai];simp only [QE,PG,PE,Ph,Pf,O5,S54,↓XX,XY,↓reduceIte,Nat.reduceBEq,Nat.reduceAdd,Int.reduceEq,Int.reduceLT,Int.reduceLE,↓AoJ (show ks.length≤1000 by omega),↓AL,XD,heldB,AQ,XE,Ac8,AaS]
  refine Bp (Q:=fun r=>Aku r _) (fun k V H=>∃(pre rest:List Tm),ks=pre++rest∧rest.length=k∧Tm.shpL rest ∧
    V=[.ptr (.own 56623104) 0,.ptr (.own 56623105) 0,.slc (.own 56624131) 3 ks.length,.fv (.sl (ks.map Tm.enc)),iv ks.length,iv pre.length]∧H=Aos op m ks pre rest.length)
   ?_ n ks.length _ _ (by omega) ⟨[],ks,rfl,rfl,hsl,rfl,rfl⟩
  rintro k V H rec ⟨pre,rest,hks,hl,hsr,rfl,rfl⟩ hrec;have hkl:ks.length=pre.length+rest.length:=by rw [hks];simp
  cases rest with
  | nil =>
   have hno:¬ ((pre.length:Int)<ks.length):=by rw [hkl];simp
   have hpk:ks=pre:=by rw [hks,List.append_nil]
   subst hpk;simp only [QE,PG,PE,Ph,Pf,VY,O5,S54,↓XX,XY,↓reduceIte,Nat.reduceBEq,Nat.reduceAdd,Int.reduceEq,Int.reduceLT,Int.reduceLE,hno];exact ⟨_,_,rfl,_,_,fun e0 K=>AlX (by rfl) (by omega) [] e0 K⟩
  | cons x rest =>
   have hi:(pre.length:Int)<ks.length:=by rw [hkl];simp;omega
   have hg2:=CH hks;have hxw:=CX (t:=x) (l:=ks) (by rw [hks];simp);have hs:=ih x (by omega) hsr.1;have hwi:B6 ((pre.length:Int)+1)=((pre++[x]).length:Int):=(Ax (by omega) (by omega)).trans (by simp);have hin:pre.length<ks.length:=by omega
   have hst:=fun {β:Type}=>AmN (β:=β) pre rest.length x.op x.n x.kids;obtain ⟨o,p,l⟩:=x;simp only [Tm.op,Tm.n,Tm.kids] at hst;rw [Ai] at hs;simp only [Aq5] at hl;simp only [QE,PG,PE,Ph,Pf,VY,O5,S54,↓XX,XY,↓reduceIte,Nat.reduceBEq,Nat.reduceAdd,Int.reduceEq,Int.reduceLT,Int.reduceLE,hi,↓Bs (AK hg2) (A8 _ _ _),↓Cb,hwi,↓Av (AlU hs),↓Aj1 hin,↓hst,↓AL,XD,heldB,AQ,XE,Ac8,AaS];exact hrec rest.length _ _ (by omega) ⟨pre++[.mk o p l],rest,by rw [hks];simp,rfl,hsr.2,rfl,rfl⟩
theorem Af9 (ih:Aa) (xs:List IV) (h0:Hp) (k:IV→Hp→List Ref→List Ref→Option (IV×Hp)):ND EE ih (.fv (.func (.func 51) [] [])) xs h0 k=Am [] false false ih 51 xs h0 k :=
 Ad4 (by kernel_rfl) (by kernel_rfl) (by kernel_rfl) (by kernel_rfl) ..
theorem Aej {n:Nat} (t:Tm) (hn:t.wt+1<n) (ht:t.typed=true):Bv (SS dt n 51 [.fv t.enc] ⟨[],[]⟩) (.bool false):=by
 obtain ⟨n,rfl⟩:∃k,n=k+1:=⟨n - 1,by omega⟩;rw [c51];have h:=R5 n t (by omega);rw [ht] at h;obtain ⟨o,p,l⟩:=t;rw [Ai] at h ⊢;simp only [S51,↓XX,XY,↓reduceIte,Nat.reduceBEq,Nat.reduceAdd,Int.reduceEq,Int.reduceLT,Int.reduceLE,↓Av h];exact Al _ _
theorem AfH {n:Nat} (M:Nat) (g:List Tm) (hg:∀x∈g,x.typed=true∧x.wt≤M) (hl:g.length≤900000) (hn:g.length+M+2<n):Bv (SS dt n 72 [.fv (.sl (g.map Tm.enc)),.fv (.func (.func 51) [] [])] ⟨[],[]⟩) (.int .i64 (-1)):=by
 obtain ⟨n,rfl⟩:∃k,n=k+1:=⟨n - 1,by omega⟩;rw [c72];simp only [OJ,P8,S72,↓XX,XY,↓reduceIte,Nat.reduceBEq,Nat.reduceAdd,Int.reduceEq,Int.reduceLT,Int.reduceLE];refine Bp (Q:=fun r=>Bv r _) (fun k V H=>∃(pre rest:List Tm),g=pre++rest∧rest.length=k ∧
   V=[.fv (.sl (g.map Tm.enc)),.fv (.func (.func 51) [] []),iv g.length,iv pre.length]∧H=⟨[],[]⟩)
  ?_ n g.length _ _ (by omega) ⟨[],g,rfl,rfl,rfl,rfl⟩
 rintro k V H rec ⟨pre,rest,hks,hl,rfl,rfl⟩ hrec;have hkl:g.length=pre.length+rest.length:=by rw [hks];simp
 cases rest with
 | nil =>
  have hno:¬ ((pre.length:Int)<g.length):=by rw [hkl];simp
  simp only [OJ,P8,Wo,S72,↓XX,XY,↓reduceIte,Nat.reduceBEq,Nat.reduceAdd,Int.reduceEq,Int.reduceLT,Int.reduceLE,hno];exact Al _ _
 | cons x rest =>
  have hi:(pre.length:Int)<g.length:=by rw [hkl];simp;omega
  have hg2:=CH hks;have hx:=hg x (by rw [hks];simp);have hs:=Aej (n:=n) x (by omega) hx.1;have hwi:B6 ((pre.length:Int)+1)=((pre++[x]).length:Int):=(Ax (by omega) (by omega)).trans (by simp);obtain ⟨o,p,l⟩:=x;rw [Ai] at hs;simp only [Aq5] at hl;simp only [OJ,P8,Wo,S72,↓XX,XY,↓reduceIte,Nat.reduceBEq,Nat.reduceAdd,Int.reduceEq,Int.reduceLT,Int.reduceLE,hi,↓Bs (AK hg2) (A8 _ _ _),↓Cb,↓Af9,↓Av hs,hwi];exact hrec rest.length _ _ (by omega) ⟨pre++[.mk o p l],rest,by rw [hks];simp,rfl,rfl,rfl⟩
theorem Q9 {n:Nat} (M:Nat) (g:List Tm) (hg:∀x∈g,x.typed=true∧x.wt≤M) (hl:g.length≤900000) (hn:g.length+M+3<n):Bv (SS dt n 50 [.fv (.sl (g.map Tm.enc)),.fv (.func (.func 51) [] [])] ⟨[],[]⟩) (.bool false):=by
 obtain ⟨n,rfl⟩:∃k,n=k+1:=⟨n - 1,by omega⟩;rw [c50];have h:=AfH (n:=n) M g hg hl (by omega);simp only [S50,↓XX,XY,↓reduceIte,Nat.reduceBEq,Nat.reduceAdd,Int.reduceEq,Int.reduceLT,Int.reduceLE,↓Ad h];exact Al _ _
def Tm.infer (t:Tm) (g:List Tm):Tm×Int:=if (t.chk 0 1).2=0 then (if (t.inf g).1=0 then ((t.inf g).2,0) else (.z,(t.inf g).1)) else (.z,1)
theorem Aci (M:Nat) (hM:3000≤M) (hM2:M≤1000000) (n:Nat) (t:Tm) (g:List Tm) (h2:t.wt≤M) (h3:∀x∈g,x.typed=true∧x.wt≤M) (h4:g.length+t.wt≤900000) (h5:4 * t.wt+6 * M+g.length+61<n) :
  Bv (SS dt n 17 [.fv (.sl (g.map Tm.enc)),.fv t.enc] ⟨[],[]⟩) (.tuple [(t.infer g).1.enc,.int .i64 (t.infer g).2]):=by
 obtain ⟨n,rfl⟩:∃k,n=k+1:=⟨n - 1,by omega⟩;rw [c17];have hc:=Of (n:=n) t (by omega);have hcf:=Q9 (n:=n) M g h3 (by omega) (by omega);unfold Tm.infer;by_cases h0:(t.chk 0 1).2=0
 ·rw [if_pos h0];rw [h0] at hc;have hs:=AaE t 0 1 h0;obtain ⟨u,hu,he⟩:=Akd M hM hM2 n t g hs h2 h3 h4 (by omega);have hty:=On M hM _ t g (Nat.lt_succ_self _) h2 h3 hs;generalize t.inf g=q at hu he hty ⊢;obtain ⟨e,r⟩:=q;simp only at hu he hty ⊢;by_cases h1:e=0
  ·have:=he h1
   subst this h1;rw [if_pos rfl];have hy:=hty rfl;have ho:=Ak3 n u (by omega) (JD u hy.1);obtain ⟨o1,n1,k1⟩:=t;obtain ⟨o2,n2,k2⟩:=u;simp only [Ai] at hc hu ho ⊢;simp only [Pp,Qc,Pv,O3,Qs,QD,S17,↓XX,XY,↓reduceIte,Nat.reduceBEq,Nat.reduceAdd,Int.reduceEq,Int.reduceLT,Int.reduceLE,↓Av hc,↓Ad hcf,↓Ad hu,↓Av (AlU ho)];first | exact Al _ _ | exact Ay rfl (by simp) _
  ·rw [if_neg h1];obtain ⟨o1,n1,k1⟩:=t;obtain ⟨o2,n2,k2⟩:=u;simp only [Ai,Tm.z] at hc hu ⊢;simp only [Pp,Qc,Pv,O3,Qs,QD,S17,↓XX,XY,↓reduceIte,Nat.reduceBEq,Nat.reduceAdd,Int.reduceEq,Int.reduceLT,Int.reduceLE,↓Av hc,↓Ad hcf,↓Ad hu,h1];first | exact Al _ _ | exact Ay rfl (by simp) _
 ·rw [if_neg h0];generalize (t.chk 0 1).2=e at hc h0;obtain ⟨o1,n1,k1⟩:=t;simp only [Ai,Tm.z] at hc ⊢;simp only [Pp,Qc,Pv,O3,Qs,QD,S17,↓XX,XY,↓reduceIte,Nat.reduceBEq,Nat.reduceAdd,Int.reduceEq,Int.reduceLT,Int.reduceLE,↓Av hc,h0];first | exact Al _ _ | exact Ay rfl (by simp) _
theorem Ab7 (n:Nat):PR (SS dt (n+60) 11 [] ⟨[],[]⟩)=true:=by kernel_rfl
theorem Tb {n:Nat} (h:60≤n):Bv (SS dt n 11 [] ⟨[],[]⟩) (.bool true):=by
 obtain ⟨k,rfl⟩:∃k,n=k+60:=⟨n - 60,by omega⟩;exact AeA (Ab7 k)
theorem Afr {m:Nat} {g:List Tm} {c P:Tm} (h:OT m g c P) (hm:m≤100) (hc:(c.chk 0 1).2=0):c.infer g=(P,0):=by
 unfold Tm.infer;rw [if_pos hc,Ake h hm];rfl
abbrev HMo (r q c a:Tm) (tok:List (Nat×Blk)):Hp :=
 ⟨(5242880,.row [iv r.op,iv r.n,.fv (.sl (r.kids.map Tm.enc))] false)::(5242881,.row [iv q.op,iv q.n,.fv (.sl (q.kids.map Tm.enc))] false)::(5248007,.row [iv c.op,iv c.n,.fv (.sl (c.kids.map Tm.enc))] false)::(5248008,.row [iv a.op,iv a.n,.fv (.sl (a.kids.map Tm.enc))] false)::tok,[]⟩
set_option maxRecDepth 20000 in
set_option maxHeartbeats 8000000 in
theorem Vx {n:Nat} (hn:10<n) {r q c a:Tm} {ts:List Tm} (hl:ts.length≤6) (htw:∀t∈ts,t.wt+10<n)
  (hI:Bv (SS dt n 17 [.fv (.sl ((ts.map (Tm.plainT 2)).map Tm.enc)),.fv c.enc] ⟨[],[]⟩) (.tuple [a.enc,.int .i64 0])) (hS:Bv (SS dt n 28 [.fv c.enc,iv ts.length,iv 0] ⟨[],[]⟩) c.enc) (hE:Bv (SS dt n 18 [.fv a.enc,.fv a.enc] ⟨[],[]⟩) (.bool true)) :
  Vv (B5 n (fun q l h=>PN l h (SS dt n) ⟨[],[]⟩ q) [.fv (.sl (ts.map Tm.enc)),.ptr (.own 5248007) 0,.ptr (.own 5248008) 0,.nils,iv 0] (HMo r q c a [])) (.bool true):=by
 refine Bp (Q:=fun r=>Vv r _) (fun k V H=>∃(pre rest:List Tm),ts=pre++rest∧rest.length=k ∧
   (
    pre=[]∧V=[.fv (.sl (ts.map Tm.enc)),.ptr (.own 5248007) 0,.ptr (.own 5248008) 0,.nils,iv 0]∧H=HMo r q c a [] ∨
    pre≠[]∧V=[.fv (.sl (ts.map Tm.enc)),.ptr (.own 5248007) 0,.ptr (.own 5248008) 0,.app (.own 5257223) ((pre.map (Tm.plainT 2)).map Tm.enc),iv pre.length]∧H=HMo r q c a [(5257223,.tok pre.length 3)]))
  ?_ n ts.length _ _ (by omega) ⟨[],ts,rfl,rfl,.inl ⟨rfl,rfl,rfl⟩⟩
 rintro k V H rec ⟨pre,rest,hts,hk,hV⟩ hrec;have hkl:ts.length=pre.length+rest.length:=by rw [hts];simp
 obtain ⟨or,nr,kr⟩:=r;obtain ⟨oq,nq,kq⟩:=q;obtain ⟨oc,nc,kc⟩:=c;obtain ⟨oa,na,ka⟩:=a;cases rest with
 | nil =>
  have hpre:pre=ts:=by rw [hts,List.append_nil]
  subst hpre;have hno:¬ ((pre.length:Int)<pre.length):=by omega
  rcases hV with ⟨h0,rfl,rfl⟩ | ⟨h0,rfl,rfl⟩
  ·subst h0;simp only [HMo,Tm.op,Tm.n,Tm.kids,Ai,Aq6,List.length_nil,Int.natCast_zero] at hI hS hE ⊢;simp (maxSteps:=1000000) only [↓UU2,↓XX,XY,↓reduceIte,Nat.reduceBEq,Nat.reduceAdd,Int.reduceEq,Int.reduceLT,Int.reduceLE,Int.lt_irrefl,↓Ad hI,↓AO hS,↓Ad hE];exact QY
  ·simp only [HMo,Tm.op,Tm.n,Tm.kids,Ai] at hI hS hE ⊢;simp (maxSteps:=1000000) only [↓UU2,↓XX,XY,↓reduceIte,Nat.reduceBEq,Nat.reduceAdd,Int.reduceEq,Int.reduceLT,Int.reduceLE,hno,↓Ad hI,↓AO hS,↓Ad hE];exact QY
 | cons t rest =>
  have hi:(pre.length:Int)<ts.length:=by rw [hkl];simp;omega
  have hg:=CH hts;obtain ⟨n',hn'⟩:∃n',n=n'+1:=⟨n - 1,by omega⟩;have htn:=htw t (by rw [hts];simp);have hf:=Lu (n:=n') t (by omega);rw [← hn'] at hf;have hp:=G9 2 n t (by omega) (by omega);simp only [Aq5] at hk;have h9:=hrec rest.length [.fv (.sl (ts.map Tm.enc)),.ptr (.own 5248007) 0,.ptr (.own 5248008) 0,.app (.own 5257223) (((pre++[t]).map (Tm.plainT 2)).map Tm.enc),iv (pre++[t]).length] _ (by omega) ⟨pre++[t],rest,by rw [hts];simp,rfl,.inr ⟨by simp,rfl,rfl⟩⟩;have wi:B6 ((pre.length:Int)+1)=((pre++[t]).length:Int):=(Ax (by omega) (by omega)).trans (by simp);generalize decide (t.count 300<300)=bt at hf;simp only [List.map_append,Aq7,Aq6] at h9;generalize Tm.plainT 2 t=pt at hp h9;clear hrec hI hS hE;cases bt
  ·rcases hV with ⟨h0,rfl,rfl⟩ | ⟨h0,rfl,rfl⟩
   ·subst h0;obtain ⟨o,p,lx⟩:=t;have hx0:=fun {β:Type} (k:IV→Option β)=>Bs (AK hg) (A8 _ _ _) k;simp only [HMo,Tm.op,Tm.n,Tm.kids,Ai,List.length_nil,Int.natCast_zero] at hf hi hx0 ⊢;simp (maxSteps:=1000000) only [↓UU2,↓XX,XY,↓reduceIte,Nat.reduceBEq,Nat.reduceAdd,Int.reduceEq,Int.reduceLT,Int.reduceLE,hi,↓hx0,↓Cb,↓Av hf];exact QY
   ·obtain ⟨o,p,lx⟩:=t;simp only [HMo,Tm.op,Tm.n,Tm.kids,Ai] at hf ⊢;simp (maxSteps:=1000000) only [↓UU2,↓XX,XY,↓reduceIte,Nat.reduceBEq,Nat.reduceAdd,Int.reduceEq,Int.reduceLT,Int.reduceLE,hi,↓Bs (AK hg) (A8 _ _ _),↓Cb,↓Av hf];exact QY
  ·rcases hV with ⟨h0,rfl,rfl⟩ | ⟨h0,rfl,rfl⟩
   ·subst h0;have h0':=fun {β:Type}=>H7 (β:=β) sTm (.clip [pt.enc]) (DQ [pt]) rfl (by simp) (s0:=.nils) (.inl rfl);obtain ⟨o,p,lx⟩:=t;obtain ⟨oi,pi,li⟩:=pt;have w01:B6 (0+1)=1:=by rw [Ax]<;>omega
    have hx0:=fun {β:Type} (k:IV→Option β)=>Bs (AK hg) (A8 _ _ _) k;simp only [HMo,Tm.op,Tm.n,Tm.kids,Aq6,List.nil_append,Aq7,Aq5,List.length_nil,Nat.zero_add,Int.natCast_zero,Int.natCast_one,Ai] at h9 h0' hf hp hi hx0 ⊢;simp (maxSteps:=1000000) only [↓UU2,↓XX,XY,↓reduceIte,Nat.reduceBEq,Nat.reduceAdd,Int.reduceEq,Int.reduceLT,Int.reduceLE,hi,↓hx0,↓Cb,↓Av hf,↓Ad hp,↓Dr,↓h0',w01,↓AL,XD,heldB,AQ,XE];exact h9
   ·have h1':=fun {β:Type}=>Om (β:=β) sTm (es:=(pre.map (Tm.plainT 2)).map Tm.enc) (es2:=[pt.enc]) (.clip _) (DQ [pt]) (DQ _) (by simp [Aav]) (by simp;omega);obtain ⟨o,p,lx⟩:=t;obtain ⟨oi,pi,li⟩:=pt;simp only [List.length_append,Aq5,List.length_nil,Nat.zero_add] at wi;simp only [HMo,Tm.op,Tm.n,Tm.kids,List.length_append,List.length_map,List.map_append,List.length_nil,Aq6,Aq7,Aq5,Ai,Nat.zero_add] at h9 h1' hf hp ⊢;simp (maxSteps:=1000000) only [↓UU2,↓XX,XY,↓reduceIte,Nat.reduceBEq,Nat.reduceAdd,Int.reduceEq,Int.reduceLT,Int.reduceLE,hi,↓Bs (AK hg) (A8 _ _ _),↓Cb,↓Av hf,↓Ad hp,↓Dr,↓h1',GD,wi,↓AL,XD,heldB,AQ,XE];exact h9
set_option maxRecDepth 20000 in
set_option maxHeartbeats 8000000 in
theorem Agx {n:Nat} {r q:Tm} {ts:List Tm} {br bq:Bool} (hno:¬ (br=true∧bq=true∧ts.length≤6)) (hk:Bv (SS dt n 11 [] ⟨[],[]⟩) (.bool true))
  (fr:Bv (SS dt n 12 [.fv r.enc] ⟨[],[]⟩) (.bool br)) (fq:Bv (SS dt n 12 [.fv q.enc] ⟨[],[]⟩) (.bool bq)) :
  Vv (SS dt (n+1) 5 [.fv r.enc,.fv q.enc,.fv (.sl (ts.map Tm.enc))] ⟨[],[]⟩) (.bool true):=by
 rw [c5];obtain ⟨o1,p1,k1⟩:=r;obtain ⟨o2,p2,k2⟩:=q;simp only [Ai] at fr fq ⊢;cases br
 ·simp (maxSteps:=1000000) only [↓UU1,↓XX,XY,↓reduceIte,Nat.reduceBEq,Nat.reduceAdd,Int.reduceEq,Int.reduceLT,Int.reduceLE,↓Fd hk,↓Av fr];exact QY
 cases bq
 ·simp (maxSteps:=1000000) only [↓UU1,↓XX,XY,↓reduceIte,Nat.reduceBEq,Nat.reduceAdd,Int.reduceEq,Int.reduceLT,Int.reduceLE,↓Fd hk,↓Av fr,↓Av fq];exact QY
 have h6:(6:Int)<ts.length:=by
  have:¬ ts.length≤6:=fun h=>hno ⟨rfl,rfl,h⟩
  omega
 simp (maxSteps:=1000000) only [↓UU1,↓XX,XY,↓reduceIte,Nat.reduceBEq,Nat.reduceAdd,Int.reduceEq,Int.reduceLT,Int.reduceLE,↓Fd hk,↓Av fr,↓Av fq,h6];exact QY
set_option maxRecDepth 20000 in
set_option maxHeartbeats 8000000 in
theorem Af6 {n:Nat} {r q c a:Tm} {ts:List Tm} {b:Bool} (hl:ts.length≤6) (hk:Bv (SS dt n 11 [] ⟨[],[]⟩) (.bool true))
  (fr:Bv (SS dt n 12 [.fv r.enc] ⟨[],[]⟩) (.bool true)) (fq:Bv (SS dt n 12 [.fv q.enc] ⟨[],[]⟩) (.bool true)) (hc:Bv (SS dt n 15 [.fv r.enc,.fv q.enc] ⟨[],[]⟩) (.tuple [c.enc,a.enc,.bool b]))
  (h:b=true→Vv (B5 n (fun q l h=>PN l h (SS dt n) ⟨[],[]⟩ q) [.fv (.sl (ts.map Tm.enc)),.ptr (.own 5248007) 0,.ptr (.own 5248008) 0,.nils,iv 0] (HMo r q c a [])) (.bool true)) :
  Vv (SS dt (n+1) 5 [.fv r.enc,.fv q.enc,.fv (.sl (ts.map Tm.enc))] ⟨[],[]⟩) (.bool true):=by
 rw [c5];have h6:¬ (6:Int)<ts.length:=by omega
 obtain ⟨o1,p1,k1⟩:=r;obtain ⟨o2,p2,k2⟩:=q;obtain ⟨o3,p3,k3⟩:=c;obtain ⟨o4,p4,k4⟩:=a;simp only [Ai,HMo,Tm.op,Tm.n,Tm.kids] at fr fq hc h ⊢;cases b
 ·simp (maxSteps:=1000000) only [↓UU1,↓XX,XY,↓reduceIte,Nat.reduceBEq,Nat.reduceAdd,Int.reduceEq,Int.reduceLT,Int.reduceLE,↓Fd hk,↓Av fr,↓Av fq,h6,↓Ad hc];exact QY
 ·simp (maxSteps:=1000000) only [↓UU1,↓XX,XY,↓reduceIte,Nat.reduceBEq,Nat.reduceAdd,Int.reduceEq,Int.reduceLT,Int.reduceLE,↓AL,XD,heldB,AQ,XE,↓Fd hk,↓Av fr,↓Av fq,h6,↓Ad hc];exact h rfl
set_option maxRecDepth 20000 in
set_option maxHeartbeats 8000000 in
theorem Wp (r q:Tm) (ts:List Tm) (hll:ts.length≤9223372036854775807):∃N,Vv (SS dt N 5 [.fv r.enc,.fv q.enc,.fv (.sl (ts.map Tm.enc))] ⟨[],[]⟩) (.bool true):=by
 by_cases hb:decide (r.count 300<300)=true∧decide (q.count 300<300)=true∧ts.length≤6
 case neg =>
  obtain ⟨m,hm⟩:∃m,m=r.wt+q.wt+10000000000:=⟨_,rfl⟩;exact ⟨m+1+1,Agx hb (Tb (by omega)) (Lu r (by omega)) (Lu q (by omega))⟩
 obtain ⟨b1,b2,hl⟩:=hb;obtain ⟨c,a,b,⟨N0,h0⟩,hC⟩:=Ag3 r q;obtain ⟨m,hm⟩:∃m,m=N0+r.wt+q.wt+Tm.wtL ts+10000000000:=⟨_,rfl⟩;have fr:=Lu (n:=m) r (by omega);have fq:=Lu (n:=m) q (by omega);rw [b1] at fr;rw [b2] at fq;refine ⟨m+1+1,Af6 hl (Tb (by omega)) fr fq (h0 _ (by omega)) fun hb=>?_⟩;obtain ⟨ha,ot,nok,hchk⟩:=hC hb;have hP:=(AaM ot).1;have hPw:=(AaM ot).2;have hcw:=nok.wt;have hg:∀x∈ts.map (Tm.plainT 2),x.typed=true∧x.wt≤3000:=by
  intro x hx;obtain ⟨t,_,rfl⟩:=List.mem_map.1 hx;exact ⟨IY 2 t,by have:=CZ 2 t;omega⟩
 have hI:=Aci 3000 (by omega) (by omega) (m+1) c (ts.map (Tm.plainT 2)) (by omega) hg (by rw [List.length_map];omega) (by rw [List.length_map];omega);rw [Afr (AiC ot _) (by omega) hchk] at hI;have hS:=CP (m+1) c ts.length 0 (by omega) (Fv c 0 nok.sc) (by omega) (by omega);have e:=EZ (t:=c) nok.sc ts.length (by omega);rw [e,AcT ot _ (fun i hi=>by simp at hi)] at hS;have hE:=KU (m+1) a a (by omega) (by omega);rw [(Ld a a).2 rfl] at hE;exact Vx (by omega) hl (fun t ht=>by have:=CX ht;omega) hI hS hE
end Idl
end Go.Proofs.Ytdibmackcbpniaa

/-
  Texts of a proof, part 13: an ideal semantics of the program, its functions in shallow form, contracts of them. No statement of the seat is proved here.
-/
import Derived.Test.YtkfecngimlcfoaaStageAllK12
set_option linter.all false
set_option maxRecDepth 20000
set_option maxHeartbeats 16000000
noncomputable section
namespace Go.Proofs.Ytkfecngimlcfoaa
namespace Idl
theorem AqP (a b:Int) (s:Nat) (h:Hp) (k:IV->Hp->List Ref->List Ref->Option (IV×Hp)):Ay (Ak EE 75 2 [(0,iv a),(1,iv b)]) s h k=k (.clip [.int .i64 a,.int .i64 b]) h [] []:=Cv Akl ArU (by decide) (cells:=[.int .i64 a,.int .i64 b]) rfl k
theorem U6 {β:Type} (z:Nat) (es:List FV) (x:IV) (k:IV->Option β):AN z (.clip es) x k=AN z (.fv (.sl es)) x k:=rfl
theorem Ayn {β:Type} (a:Int) (r:List FV) (k:IV->Option β):AN 1 (.fv (.sl (.int .i64 a::r))) (iv 0) k=k (.fv (.fp [.int .i64 a] 0)):=Bt (el:=.int .i64 a) (n:=0) rfl rfl k
theorem Ayi {β:Type} (a b:Int) (r:List FV) (k:IV->Option β):AN 1 (.fv (.sl (.int .i64 a :: .int .i64 b::r))) (iv 1) k=k (.fv (.fp [.int .i64 b] 0)):=Bt (el:=.int .i64 b) (n:=1) rfl rfl k
def AjS (F:FuncId) (κ e:Nat):Prop:=∀(g:Ci) (a r:Tm),GOk e g->NOk g.length a->(a.op=10\/a.op=14\/a.op=2)->∃t b,Ev F [.fv (A6 g),.fv a.enc,.fv r.enc,iv ((e:Int) - 5)] (.tuple [Tm.enc t,.bool b])/\TG κ e g a t b
theorem AmV {a:Tm} {k:Nat} (h:a.sc k) (ho:a.op=10\/a.op=14\/a.op=2):∃n,a=.mk a.op n []/\(a.op=2->0<=n/\n<=2)/\(a.op≠2->n=0):=by
 obtain ⟨o,n,l⟩:=a;simp only [Tm.op] at ho ⊢;rw [Tm.sc] at h;obtain ⟨h1,h2,_⟩:=h;have h3:ar o=some 0:=by rcases ho with rfl | rfl | rfl<;>decide
 rw [h3] at h1;have hl:l=[]:=List.eq_nil_of_length_eq_zero (Option.some.inj h1).symm;subst hl;rw [if_neg (by omega)] at h2;refine ⟨n,rfl,fun h=>?_,fun h=>?_⟩
 ·subst h;rw [BJ,if_pos rfl] at h2;exact h2
 ·rw [BJ,if_neg h,if_neg (by omega),if_neg (by omega)] at h2;exact h2
theorem Aj6 {e:Nat} (h1e:1<=e) (he:e<=10) (hG:Eo 39 1 (e - 1)) (hG2:6<=e->Eo 39 1 (e - 2)):AjS 66 3 e:=by
 intro g a r hg ha hop;have hlen:=hg.len;have hW1:Wg e=4 * Wg (e - 1):=by
  obtain ⟨f,rfl⟩:∃f,e=f+1:=⟨e - 1,by omega⟩;rw [MN,Nat.add_sub_cancel]
 have hW0:=MR (e - 1);have hW10:=Pb he;have hD1:Dg e=Dg (e - 1)+10:=by unfold Dg;omega
 have hD0:200<=Dg (e - 1):=by unfold Dg;omega
 have hDm:Dg e<=300:=by unfold Dg;omega
 obtain ⟨an,hae,hu1,hu2⟩:=AmV ha.sc hop;have we:BK ((e:Int) - 5 - 1)=((e - 1:Nat):Int) - 5:=by rw [Av (by omega) (by omega)];omega
 have hk1:=Int.emod_nonneg r.op (show (5:Int)≠0 by decide)
 have hk2:=Int.emod_lt_of_pos r.op (show (0:Int)<5 by decide)
 have aw:=ha.wt;have ad:=ha.dp;have leafT:∀op n:Int,ar op=some 0->op≠1->BJ op n->TOk g.length e (.mk op n []):=fun op n h1 h2 h3=>⟨Ce h1 h2 h3,by simp only [Tm.wt,Tm.wtL];omega,by simp only [Tm.dp,Tm.dpL];omega⟩;have tint:TOk g.length e (.mk 18 0 [.mk 15 0 []]):=⟨FO (by decide) (by decide) (BB (by decide) (by decide) (by decide)) (Ce (by decide) (by decide) (BB (by decide) (by decide) (by decide))),by simp only [Tm.wt,Tm.wtL];omega,by simp only [Tm.dp,Tm.dpL];omega⟩;by_cases hrec:6<=e/\r.op % 5=4/\a.op≠2
 ·obtain ⟨h6,h4,hn2⟩:=hrec;have hW2:Wg e=16 * Wg (e - 2):=by
   obtain ⟨f,rfl⟩:∃f,e=f+2:=⟨e - 2,by omega⟩;rw [show f+2=(f+1)+1 by omega,MN,MN,show f+1+1 - 2=f by omega];omega
  have hD2:Dg e=Dg (e - 2)+20:=by unfold Dg;omega
  have hW20:=MR (e - 2);have we2:BK ((e:Int) - 5 - 2)=((e - 2:Nat):Int) - 5:=by rw [Av (by omega) (by omega)];omega
  have hnat:∀k,NOk k (.mk 10 0 []):=fun k=>⟨Ce (by decide) (by decide) (BB (by decide) (by decide) (by decide)),by simp only [Tm.wt,Tm.wtL];omega,by simp only [Tm.dp,Tm.dpL];omega⟩;have hs1:=NV ha (by omega) 1 (by omega);have hs2:=NV ha (by omega) 2 (by omega);obtain ⟨nn,p,⟨N1,h1⟩,tn⟩:=hG2 h6 g (.mk 10 0 []) (r.pick 0) (AT (by omega) hg) (Bv (hnat _));obtain ⟨z,q,⟨N2,h2⟩,tz⟩:=hG2 h6 g a (r.pick 1) (AT (by omega) hg) (Bv ha);have hg1:GOk (e - 1) (g++[(1,Tm.mk 10 0 [])]):=Db (by rw [show e - 1+1=e by omega];exact hg) (hnat _).sc (by simp only [Tm.wt,Tm.wtL];omega) (by simp only [Tm.dp,Tm.dpL];omega)
  have hg2:GOk (e - 2) ((g++[(1,Tm.mk 10 0 [])])++[(1,a.shift 1 0)]):=Db (by rw [show e - 2+1=e - 1 by omega];exact hg1) (by simpa using hs1.sc) (by rw [BF];omega) (by rw [FZ];omega)
  obtain ⟨s,f,⟨N3,h3⟩,ts⟩:=hG2 h6 _ (a.shift 2 0) (r.pick 2) hg2 (by simpa using Bv hs2);have ss:s.sc (g.length+2):=by simpa using ts.sc
  refine ⟨.mk 13 0 [a.shift 1 0,z,s,nn],p && (q && f),⟨N1+N2+N3+100000,fun n hn=>?_⟩,?_,?_,?_,fun hb=>.recc e g a nn z s h6 (by omega) (tn.gr (L7 hb)) (tz.gr (L7 (Kd hb))) (ts.gr (Kd (Kd hb)))⟩
  ·obtain ⟨n,rfl⟩:∃k,n=k+1:=⟨n - 1,by omega⟩;have h1:=h1 n (by omega);have h2:=h2 n (by omega);have h3:=h3 n (by omega);rw [<- we2] at h1 h2 h3;have hw:=As (n:=n) (by omega) r.op (m:=5) (by omega) (by omega);rw [h4] at hw;have p0:=AL (n:=n) (by omega) r 0;have p1:=AL (n:=n) (by omega) r 1;have p2:=AL (n:=n) (by omega) r 2;have n4:=Nl (n:=n) (by omega);have m1:=Ed (n:=n) g 1 (.mk 10 0 []) (by omega) (by omega);have m2:=Ed (n:=n) (g++[(1,Tm.mk 10 0 [])]) 1 (a.shift 1 0) (by simp;omega) (by omega);have s1:=CJ n a 1 0 (by omega) (Fd _ _ ha.sc) (by omega) (by omega);have s2:=CJ n a 2 0 (by omega) (Fd _ _ ha.sc) (by omega) (by omega);have t13:=CO (n:=n) (by omega) 13 [a.shift 1 0,z,s,nn];have hd0:(0:Int)<(e:Int) - 5:=by omega
   rw [c66];clear hG hG2 tn tz ts hg hg1 hg2 ha hs1 hs2 hnat ss leafT tint hae hu1 hu2;generalize a.shift 1 0=a1 at s1 m2 t13 h3 ⊢;generalize a.shift 2 0=a2 at s2 h3;generalize r.pick 0=r0 at p0 h1;generalize r.pick 1=r1 at p1 h2;generalize r.pick 2=r2 at p2 h3;obtain ⟨o1,x1,k1⟩:=a;obtain ⟨o2,x2,k2⟩:=r;obtain ⟨o3,x3,k3⟩:=a1;obtain ⟨o4,x4,k4⟩:=a2;obtain ⟨o5,x5,k5⟩:=nn;obtain ⟨o6,x6,k6⟩:=z;obtain ⟨o7,x7,k7⟩:=s;obtain ⟨o8,x8,k8⟩:=r0;obtain ⟨o9,x9,k9⟩:=r1;obtain ⟨oa,xa,ka⟩:=r2;simp only [Tm.op] at hw hn2;simp only [A6,AB5,AB4,Am] at h1 h2 h3 p0 p1 p2 n4 m1 m2 s1 s2 t13 ⊢;cases p<;>cases q<;>(simp (maxSteps:=1000000) only [↓Kb,↓XX,XY,↓reduceIte,Nat.reduceBEq,Nat.reduceAdd,Int.reduceEq,Int.reduceLT,Int.reduceLE,hd0,↓Ag hw,hn2,↓Gk n4,↓Ag p0,↓Ag p1,↓Ag p2,↓AC h1,↓AC h2,↓AJ m1,↓AJ m2,↓AJ s1,↓AJ s2,↓AC h3,↓AwZ,↓Ag t13];first | exact An _ _ | exact Ax rfl (by simp) _)
  ·exact AtF (by decide) (by decide) (BB (by decide) (by decide) (by decide)) hs1.sc tz.sc ss tn.sc
  ·have:=tz.wt;have:=ts.wt;have:=tn.wt;rw [wt4,BF];omega
  ·have:=tz.dp;have:=ts.dp;have:=tn.dp;rw [dp4,FZ];omega
 have hnr:¬ (0:Int)<(e:Int) - 5\/¬ r.op % 5=4\/a.op=2:=by omega
 by_cases o10:a.op=10
 ·have hz:=hu2 (by omega);rw [hz,o10] at hae;by_cases hs:6<=e/\r.op % 2=1
  ·obtain ⟨nn,p,⟨N1,h1⟩,tn⟩:=hG g a (r.pick 0) (AT (by omega) hg) (Bv ha);refine ⟨.mk 12 0 [nn],p,⟨N1+100,fun n hn=>?_⟩,FO (by decide) (by decide) (BB (by decide) (by decide) (by decide)) tn.sc,by have:=tn.wt;rw [wt1];omega,by have:=tn.dp;rw [dp1];omega,fun hb=>.suc e g a nn hs.1 o10 (tn.gr hb)⟩;obtain ⟨n,rfl⟩:∃k,n=k+1:=⟨n - 1,by omega⟩;have h1:=h1 n (by omega);rw [<- we] at h1;have hw:=As (n:=n) (by omega) r.op (m:=5) (by omega) (by omega);have hw2:=As (n:=n) (by omega) r.op (m:=2) (by omega) (by omega);rw [hs.2] at hw2;have p0:=AL (n:=n) (by omega) r 0;have t12:=CO (n:=n) (by omega) 12 [nn];have hd0:(0:Int)<(e:Int) - 5:=by omega
   have h45:¬ r.op % 5=4:=by omega
   rw [c66];rw [hae] at h1 ⊢;clear hG hG2 tn hg ha leafT tint hae hu1 hu2 hop hnr;generalize r.op % 5=w5 at hw h45;generalize r.pick 0=r0 at p0 h1;obtain ⟨o2,x2,k2⟩:=r;obtain ⟨o5,x5,k5⟩:=nn;obtain ⟨o8,x8,k8⟩:=r0;simp only [Tm.op] at hw hw2;simp only [A6,AB5,AB4,Am] at h1 p0 t12 ⊢;simp (maxSteps:=1000000) only [↓Kb,↓XX,XY,↓reduceIte,Nat.reduceBEq,Nat.reduceAdd,Int.reduceEq,Int.reduceLT,Int.reduceLE,hd0,↓Ag hw,h45,↓Ag hw2,↓Ag p0,↓AC h1,↓Em,↓Ag t12]
   first | exact An _ _ | exact Ax rfl (by simp) _
  ·have hj1:=Int.emod_nonneg r.n (show (4:Int)≠0 by decide)
   have hj2:=Int.emod_lt_of_pos r.n (show (0:Int)<4 by decide)
   obtain ⟨j,hj⟩:∃j:Nat,r.n % 4=j:=⟨(r.n % 4).toNat,by omega⟩;refine ⟨CM j,true,⟨100,fun n hn=>?_⟩,Ai4 _ j,by rw [AcG];omega,by have:=P3 (CM j);rw [AcG] at this;omega,fun _=>.num e g a j o10 (by omega)⟩;obtain ⟨n,rfl⟩:∃k,n=k+1:=⟨n - 1,by omega⟩;have hw:=As (n:=n) (by omega) r.op (m:=5) (by omega) (by omega);have hw2:=As (n:=n) (by omega) r.op (m:=2) (by omega) (by omega);have hw4:=As (n:=n) (by omega) r.n (m:=4) (by omega) (by omega);rw [hj] at hw4;have hnum:=AuJ (n:=n) j (by omega) (by omega);have h45:(0:Int)<(e:Int) - 5->¬ r.op % 5=4:=by omega
   have h21:(0:Int)<(e:Int) - 5->¬ r.op % 2=1:=by omega
   rw [c66];rw [hae];clear hG hG2 hg ha leafT tint hae hu1 hu2 hop hnr hs;generalize r.op % 5=w5 at hw h45;generalize r.op % 2=w2 at hw2 h21;generalize CM j=nm at hnum ⊢;obtain ⟨o2,x2,k2⟩:=r;obtain ⟨o5,x5,k5⟩:=nm;simp only [Tm.op,Tm.n] at hw hw2 hw4;simp only [A6,AB4,Am] at hnum ⊢;by_cases hd0:(0:Int)<(e:Int) - 5
   ·have h45:=h45 hd0;have h21:=h21 hd0;simp (maxSteps:=1000000) only [↓Kb,↓XX,XY,↓reduceIte,Nat.reduceBEq,Nat.reduceAdd,Int.reduceEq,Int.reduceLT,Int.reduceLE,hd0,↓Ag hw,h45,↓Ag hw2,h21,↓Ag hw4,↓Aw hnum]
    first | exact An _ _ | exact Ax rfl (by simp) _
   ·simp (maxSteps:=1000000) only [↓Kb,↓XX,XY,↓reduceIte,Nat.reduceBEq,Nat.reduceAdd,Int.reduceEq,Int.reduceLT,Int.reduceLE,hd0,↓Ag hw4,↓Aw hnum]
    first | exact An _ _ | exact Ax rfl (by simp) _
 by_cases o14:a.op=14
 ·have hz:=hu2 (by omega);rw [hz,o14] at hae;by_cases hs:6<=e/\1<r.op % 5
  ·obtain ⟨x,p,⟨N1,h1⟩,tx⟩:=hG g a (r.pick 0) (AT (by omega) hg) (Bv ha);obtain ⟨y,q,⟨N2,h2⟩,ty⟩:=hG g a (r.pick 1) (AT (by omega) hg) (Bv ha);have hj1:=Int.emod_nonneg r.n (show (2:Int)≠0 by decide)
   have hj2:=Int.emod_lt_of_pos r.n (show (0:Int)<2 by decide)
   obtain ⟨oo,hoo,hoo2⟩:∃oo:Int,oo=16+r.n % 2/\(oo=16\/oo=17):=⟨_,rfl,by omega⟩;have hsc:(Tm.mk oo 0 [x,y]).sc g.length:=by
    rcases hoo2 with rfl | rfl<;>exact Cr (by decide) (by decide) (BB (by decide) (by decide) (by decide)) tx.sc ty.sc
   refine ⟨.mk oo 0 [x,y],p && q,⟨N1+N2+100,fun n hn=>?_⟩,hsc,by have:=tx.wt;have:=ty.wt;rw [OY];omega,by have:=tx.dp;have:=ty.dp;rw [PY];omega,fun hb=>.tfun e g a x y oo hoo2 hs.1 o14 (tx.gr (L7 hb)) (ty.gr (Kd hb))⟩;obtain ⟨n,rfl⟩:∃k,n=k+1:=⟨n - 1,by omega⟩;have h1:=h1 n (by omega);have h2:=h2 n (by omega);rw [<- we] at h1 h2;have hw:=As (n:=n) (by omega) r.op (m:=5) (by omega) (by omega);have hw2:=As (n:=n) (by omega) r.n (m:=2) (by omega) (by omega);have wo:BK (16+r.n % 2)=oo:=by rw [Av]<;>omega
   have p0:=AL (n:=n) (by omega) r 0;have p1:=AL (n:=n) (by omega) r 1;have t16:=CO (n:=n) (by omega) oo [x,y];rw [<- wo] at t16;have hd0:(0:Int)<(e:Int) - 5:=by omega
   have h45:¬ r.op % 5=4:=by omega
   have h15:=hs.2;rw [c66];rw [hae] at h1 h2 ⊢;clear hG hG2 tx ty hg ha leafT tint hae hu1 hu2 hop hnr hs hoo2 hsc;rw [<- wo];clear wo hoo;generalize r.op % 5=w5 at hw h45 h15;generalize r.n % 2=w2 at hw2 t16 ⊢;generalize r.pick 0=r0 at p0 h1;generalize r.pick 1=r1 at p1 h2;obtain ⟨o2,x2,k2⟩:=r;obtain ⟨o5,x5,k5⟩:=x;obtain ⟨o6,x6,k6⟩:=y;obtain ⟨o8,x8,k8⟩:=r0;obtain ⟨o9,x9,k9⟩:=r1;simp only [Tm.op,Tm.n] at hw hw2;simp only [A6,AB5,AB4,Am] at h1 h2 p0 p1 t16 ⊢;cases p<;>(simp (maxSteps:=1000000) only [↓Kb,↓XX,XY,↓reduceIte,Nat.reduceBEq,Nat.reduceAdd,Int.reduceEq,Int.reduceLT,Int.reduceLE,hd0,↓Ag hw,h45,h15,↓Ag hw2,↓Ag p0,↓Ag p1,↓AC h1,↓AC h2,↓CT,↓Ag t16];first | exact An _ _ | exact Ax rfl (by simp) _)
  ·refine ⟨.mk 15 0 [],true,⟨100,fun n hn=>?_⟩,tg (leafT 15 0 (by decide) (by decide) (BB (by decide) (by decide) (by decide))) (fun _=>.tint e g a o14)⟩;obtain ⟨n,rfl⟩:∃k,n=k+1:=⟨n - 1,by omega⟩;have hw:=As (n:=n) (by omega) r.op (m:=5) (by omega) (by omega);have t15:=BE (n:=n) (by omega) 15;have h45:(0:Int)<(e:Int) - 5->¬ r.op % 5=4/\¬ 1<r.op % 5:=by omega
   rw [c66];rw [hae];clear hG hG2 hg ha leafT tint hae hu1 hu2 hop hnr hs;generalize r.op % 5=w5 at hw h45;obtain ⟨o2,x2,k2⟩:=r;simp only [Tm.op] at hw;simp only [A6,AB4,Am] at t15 ⊢;by_cases hd0:(0:Int)<(e:Int) - 5
   ·obtain ⟨h45,h15⟩:=h45 hd0;simp (maxSteps:=1000000) only [↓Kb,↓XX,XY,↓reduceIte,Nat.reduceBEq,Nat.reduceAdd,Int.reduceEq,Int.reduceLT,Int.reduceLE,hd0,↓Ag hw,h45,h15,↓Ag t15]
    first | exact An _ _ | exact Ax rfl (by simp) _
   ·simp (maxSteps:=1000000) only [↓Kb,↓XX,XY,↓reduceIte,Nat.reduceBEq,Nat.reduceAdd,Int.reduceEq,Int.reduceLT,Int.reduceLE,hd0,↓Ag t15]
    first | exact An _ _ | exact Ax rfl (by simp) _
 have o2:a.op=2:=by omega
 obtain ⟨hu3,hu4⟩:=hu1 o2;rw [o2] at hae;by_cases hn0:0<an
 ·refine ⟨.mk 2 (an - 1) [],true,⟨100,fun n hn=>?_⟩,tg (leafT 2 (an - 1) (by decide) (by decide) (by rw [BJ,if_pos rfl];omega)) (fun _=>.uni e g a _ o2)⟩;obtain ⟨n,rfl⟩:∃k,n=k+1:=⟨n - 1,by omega⟩;have hw:=As (n:=n) (by omega) r.op (m:=5) (by omega) (by omega);have wu:BK (an - 1)=an - 1:=by rw [Av]<;>omega
  have hu:=AiU (n:=n) (by omega) (an - 1);rw [<- wu] at hu;rw [c66];rw [hae,<- wu];clear hG hG2 hg ha leafT tint hae hu1 hu2 hop hnr wu;generalize r.op % 5=w5 at hw;obtain ⟨o2,x2,k2⟩:=r;simp only [Tm.op] at hw;simp only [A6,AB4,Am] at hu ⊢;by_cases hd0:(0:Int)<(e:Int) - 5
  ·by_cases h4:w5=4
   ·simp (maxSteps:=1000000) only [↓Kb,↓XX,XY,↓reduceIte,Nat.reduceBEq,Nat.reduceAdd,Int.reduceEq,Int.reduceLT,Int.reduceLE,hd0,↓Ag hw,h4,hn0,↓Aw hu]
    first | exact An _ _ | exact Ax rfl (by simp) _
   ·simp (maxSteps:=1000000) only [↓Kb,↓XX,XY,↓reduceIte,Nat.reduceBEq,Nat.reduceAdd,Int.reduceEq,Int.reduceLT,Int.reduceLE,hd0,↓Ag hw,h4,hn0,↓Aw hu]
    first | exact An _ _ | exact Ax rfl (by simp) _
  ·simp (maxSteps:=1000000) only [↓Kb,↓XX,XY,↓reduceIte,Nat.reduceBEq,Nat.reduceAdd,Int.reduceEq,Int.reduceLT,Int.reduceLE,hd0,hn0,↓Aw hu]
   first | exact An _ _ | exact Ax rfl (by simp) _
 have han:an=0:=by omega
 subst han;have hq1:=Int.emod_nonneg r.op (show (4:Int)≠0 by decide)
 have hq2:=Int.emod_lt_of_pos r.op (show (0:Int)<4 by decide)
 by_cases hs:6<=e/\1<r.op % 4
 ·obtain ⟨x,p,⟨N1,h1⟩,tx⟩:=hG g a (r.pick 0) (AT (by omega) hg) (Bv ha);have hgx:GOk (e - 1) (g++[(1,x)]):=Db (by rw [show e - 1+1=e by omega];exact hg) tx.sc (by have:=tx.wt;omega) (by have:=tx.dp;omega)
  have hax:AOk (g++[(1,x)]).length a:=⟨by rw [hae];exact Ce (by decide) (by decide) (by rw [BJ,if_pos rfl];omega),by omega,by omega⟩;obtain ⟨y,q,⟨N2,h2⟩,ty⟩:=hG (g++[(1,x)]) a (r.pick 1) hgx hax;have ys:y.sc (g.length+1):=by simpa using ty.sc
  obtain ⟨oo,hoo⟩:∃oo:Int,oo=3/\r.op % 4=2\/oo=6/\r.op % 4=3:=by
   by_cases h7:r.op % 4=2
   ·exact ⟨3,.inl ⟨rfl,h7⟩⟩
   ·exact ⟨6,.inr ⟨rfl,by omega⟩⟩
  have hsc:(Tm.mk oo 0 [x,y]).sc g.length:=by
   rcases hoo with ⟨rfl,_⟩ | ⟨rfl,_⟩<;>exact Cr (by decide) (by decide) (BB (by decide) (by decide) (by decide)) tx.sc ys
  refine ⟨.mk oo 0 [x,y],p && q,⟨N1+N2+100,fun n hn=>?_⟩,hsc,by have:=tx.wt;have:=ty.wt;rw [OY];omega,by have:=tx.dp;have:=ty.dp;rw [PY];omega,fun hb=>.upi e g a x y oo (by omega) hs.1 o2 (AjG tx (by omega)) (tx.gr (L7 hb)) (ty.gr (Kd hb))⟩;obtain ⟨n,rfl⟩:∃k,n=k+1:=⟨n - 1,by omega⟩;have h1:=h1 n (by omega);have h2:=h2 n (by omega);rw [<- we] at h1 h2;have hw:=As (n:=n) (by omega) r.op (m:=5) (by omega) (by omega);have hw4:=As (n:=n) (by omega) r.op (m:=4) (by omega) (by omega);have p0:=AL (n:=n) (by omega) r 0;have p1:=AL (n:=n) (by omega) r 1;have hm:=Ed (n:=n) g 1 x (by omega) (by omega);have t3:=CO (n:=n) (by omega) oo [x,y];have hd0:(0:Int)<(e:Int) - 5:=by omega
  have w22:BK (2 - 2)=0:=by rw [Av]<;>omega
  have w32:BK (3 - 2)=1:=by rw [Av]<;>omega
  have w0:BK 0=0:=by rw [Av]<;>omega
  have w1:BK 1=1:=by rw [Av]<;>omega
  rw [c66];rw [hae] at h1 h2 ⊢;clear hG hG2 tx ty hg ha leafT tint hae hu1 hu2 hop hnr hs hsc hgx hax ys;generalize r.op % 5=w5 at hw;generalize r.op % 4=w4 at hw4 hoo;generalize r.pick 0=r0 at p0 h1;generalize r.pick 1=r1 at p1 h2;obtain ⟨o2,x2,k2⟩:=r;obtain ⟨o5,x5,k5⟩:=x;obtain ⟨o6,x6,k6⟩:=y;obtain ⟨o8,x8,k8⟩:=r0;obtain ⟨o9,x9,k9⟩:=r1;simp only [Tm.op] at hw hw4;simp only [A6,AB5,AB4,Am] at h1 h2 p0 p1 hm t3 ⊢;rcases hoo with ⟨rfl,rfl⟩ | ⟨rfl,rfl⟩
  ·by_cases h4:w5=4<;>cases p<;>(simp (maxSteps:=1000000) only [↓Kb,↓XX,XY,↓reduceIte,Nat.reduceBEq,Nat.reduceAdd,Int.reduceEq,Int.reduceLT,Int.reduceLE,hd0,↓Ag hw,h4,↓Ag hw4,↓Ag p0,↓Ag p1,↓AC h1,↓AJ hm,↓AC h2,↓CT,↓AqP,↓U6,w22,w0,Int.reduceSub,↓Ayn,↓Ag t3];first | exact An _ _ | exact Ax rfl (by simp) _)
  ·by_cases h4:w5=4<;>cases p<;>(simp (maxSteps:=1000000) only [↓Kb,↓XX,XY,↓reduceIte,Nat.reduceBEq,Nat.reduceAdd,Int.reduceEq,Int.reduceLT,Int.reduceLE,hd0,↓Ag hw,h4,↓Ag hw4,↓Ag p0,↓Ag p1,↓AC h1,↓AJ hm,↓AC h2,↓CT,↓AqP,↓U6,w32,w1,Int.reduceSub,↓Ayi,↓Ag t3];first | exact An _ _ | exact Ax rfl (by simp) _)
 ·have hj1:=Int.emod_nonneg r.n (show (3:Int)≠0 by decide)
  have hj2:=Int.emod_lt_of_pos r.n (show (0:Int)<3 by decide)
  obtain ⟨t,ht,tt⟩:∃t:Tm,(r.n % 3=0/\t=.mk 10 0 []\/r.n % 3=1/\t=.mk 14 0 []\/r.n % 3=2/\t=.mk 18 0 [.mk 15 0 []])/\TG 3 e g a t true:=by
   have h:r.n % 3=0\/r.n % 3=1\/r.n % 3=2:=by omega
   rcases h with h | h | h
   ·exact ⟨_,.inl ⟨h,rfl⟩,tg (leafT 10 0 (by decide) (by decide) (BB (by decide) (by decide) (by decide))) (fun _=>.unat e g a o2)⟩
   ·exact ⟨_,.inr (.inl ⟨h,rfl⟩),tg (leafT 14 0 (by decide) (by decide) (BB (by decide) (by decide) (by decide))) (fun _=>.uty e g a o2)⟩
   ·exact ⟨_,.inr (.inr ⟨h,rfl⟩),tg tint (fun _=>.ult e g a o2)⟩
  refine ⟨t,true,⟨100,fun n hn=>?_⟩,tt⟩;obtain ⟨n,rfl⟩:∃k,n=k+1:=⟨n - 1,by omega⟩;have hw:=As (n:=n) (by omega) r.op (m:=5) (by omega) (by omega);have hw4:=As (n:=n) (by omega) r.op (m:=4) (by omega) (by omega);have hw3:=As (n:=n) (by omega) r.n (m:=3) (by omega) (by omega);have n4:=Nl (n:=n) (by omega);have t14:=BE (n:=n) (by omega) 14;have t15:=BE (n:=n) (by omega) 15;have t18:=CO (n:=n) (by omega) 18 [.mk 15 0 []];have h41:(0:Int)<(e:Int) - 5->¬ 1<r.op % 4:=by omega
  rw [c66];rw [hae];clear hG hG2 hg ha leafT tint hae hu1 hu2 hop hnr hs tt;generalize r.op % 5=w5 at hw;generalize r.op % 4=w4 at hw4 h41;generalize r.n % 3=w3 at hw3 ht;obtain ⟨o2,x2,k2⟩:=r;simp only [Tm.op,Tm.n] at hw hw4 hw3;simp only [A6,AB5,AB4,Am] at n4 t14 t15 t18 ⊢;by_cases hd0:(0:Int)<(e:Int) - 5
  ·have h41:=h41 hd0;by_cases h4:w5=4
   ·rcases ht with ⟨rfl,rfl⟩ | ⟨rfl,rfl⟩ | ⟨rfl,rfl⟩<;>(simp (maxSteps:=1000000) only [↓Kb,↓XX,XY,↓reduceIte,Nat.reduceBEq,Nat.reduceAdd,Int.reduceEq,Int.reduceLT,Int.reduceLE,hd0,↓Ag hw,h4,↓Ag hw4,h41,↓Gk n4,↓Ag t14,↓Ag t15,↓Em,↓Ag t18,↓Ls,↓Ag hw3,↓U6,↓Cs,↓CA,↓JS,Am];first | exact An _ _ | exact Ax rfl (by simp) _)
   ·rcases ht with ⟨rfl,rfl⟩ | ⟨rfl,rfl⟩ | ⟨rfl,rfl⟩<;>(simp (maxSteps:=1000000) only [↓Kb,↓XX,XY,↓reduceIte,Nat.reduceBEq,Nat.reduceAdd,Int.reduceEq,Int.reduceLT,Int.reduceLE,hd0,↓Ag hw,h4,↓Ag hw4,h41,↓Gk n4,↓Ag t14,↓Ag t15,↓Em,↓Ag t18,↓Ls,↓Ag hw3,↓U6,↓Cs,↓CA,↓JS,Am];first | exact An _ _ | exact Ax rfl (by simp) _)
  ·rcases ht with ⟨rfl,rfl⟩ | ⟨rfl,rfl⟩ | ⟨rfl,rfl⟩<;>(simp (maxSteps:=1000000) only [↓Kb,↓XX,XY,↓reduceIte,Nat.reduceBEq,Nat.reduceAdd,Int.reduceEq,Int.reduceLT,Int.reduceLE,hd0,↓Ag hw4,↓Gk n4,↓Ag t14,↓Ag t15,↓Em,↓Ag t18,↓Ls,↓Ag hw3,↓U6,↓Cs,↓CA,↓JS,Am];first | exact An _ _ | exact Ax rfl (by simp) _)
theorem Ah0 {e:Nat} (h6:6<=e) (he:e<=10) (hO:Eo 33 2 (e - 2)) (hG:Eo 39 1 (e - 1)):Qq 59 4 e:=by
 intro g a r hg ha;have hlen:=hg.len;have hW1:Wg e=4 * Wg (e - 1):=by
  obtain ⟨f,rfl⟩:∃f,e=f+1:=⟨e - 1,by omega⟩;rw [MN,Nat.add_sub_cancel]
 have hW2:Wg e=16 * Wg (e - 2):=by
  obtain ⟨f,rfl⟩:∃f,e=f+2:=⟨e - 2,by omega⟩;rw [show f+2=(f+1)+1 by omega,MN,MN,show f+1+1 - 2=f by omega];omega
 have hW0:=MR (e - 2);have hW10:=Pb he;have hD1:Dg e=Dg (e - 1)+10:=by unfold Dg;omega
 have hD2:Dg e=Dg (e - 2)+20:=by unfold Dg;omega
 have hD0:200<=Dg (e - 2):=by unfold Dg;omega
 have hDm:Dg e<=300:=by unfold Dg;omega
 have we:BK ((e:Int) - 5 - 1)=((e - 1:Nat):Int) - 5:=by rw [Av (by omega) (by omega)];omega
 have we2:BK ((e:Int) - 5 - 2)=((e - 2:Nat):Int) - 5:=by rw [Av (by omega) (by omega)];omega
 have aw:=ha.wt;have ad:=ha.dp;have hk1:=Int.emod_nonneg r.n (show (7:Int)≠0 by decide)
 have hk2:=Int.emod_lt_of_pos r.n (show (0:Int)<7 by decide)
 have hi:AOk g.length (.mk 15 0 []):=⟨Ce (by decide) (by decide) (BB (by decide) (by decide) (by decide)),by simp only [Tm.wt,Tm.wtL];omega,by simp only [Tm.dp,Tm.dpL];omega⟩;have hs1:=NV ha (by omega) 1 (by omega);by_cases c0:r.n % 7=0
 ·obtain ⟨c,p,⟨N1,h1⟩,tc⟩:=hO g (.mk 15 0 []) (r.pick 0) (AT (by omega) hg) hi;obtain ⟨x,q,⟨N2,h2⟩,tx⟩:=hO g a (r.pick 1) (AT (by omega) hg) (Bv ha);obtain ⟨y,f,⟨N3,h3⟩,ty⟩:=hO g a (r.pick 2) (AT (by omega) hg) (Bv ha);refine ⟨.mk 27 0 [c,x,y],p && (q && f),⟨N1+N2+N3+100000,fun n hn=>?_⟩,WE (by decide) (by decide) (BB (by decide) (by decide) (by decide)) tc.sc tx.sc ty.sc,by have:=tc.wt;have:=tx.wt;have:=ty.wt;rw [wt3];omega,by have:=tc.dp;have:=tx.dp;have:=ty.dp;rw [dp3];omega,fun hb=>.oif e g a c x y h6 (tc.gr (L7 hb)) (tx.gr (L7 (Kd hb))) (ty.gr (Kd (Kd hb)))⟩
  ·obtain ⟨n,rfl⟩:∃k,n=k+1:=⟨n - 1,by omega⟩;have h1:=h1 n (by omega);have h2:=h2 n (by omega);have h3:=h3 n (by omega);rw [<- we2] at h1 h2 h3;have hw:=As (n:=n) (by omega) r.n (m:=7) (by omega) (by omega);have t15:=BE (n:=n) (by omega) 15;have p0:=AL (n:=n) (by omega) r 0;have p1:=AL (n:=n) (by omega) r 1;have p2:=AL (n:=n) (by omega) r 2;rw [c0] at hw;have t27:=CO (n:=n) (by omega) 27 [c,x,y];rw [c59];clear hO hG tc tx ty hg ha hi hs1;generalize r.pick 0=r0 at p0 h1;generalize r.pick 1=r1 at p1 h2;generalize r.pick 2=r2 at p2 h3;obtain ⟨o1,x1,k1⟩:=a;obtain ⟨o2,x2,k2⟩:=r;obtain ⟨o3,x3,k3⟩:=c;obtain ⟨o4,x4,k4⟩:=x;obtain ⟨o5,x5,k5⟩:=y;obtain ⟨o6,x6,k6⟩:=r0;obtain ⟨o7,x7,k7⟩:=r1;obtain ⟨o8,x8,k8⟩:=r2;simp only [Tm.n] at hw;simp only [A6,AB5,AB4,Am] at h1 h2 h3 t15 p0 p1 p2 t27 ⊢;cases p
   ·simp (maxSteps:=1000000) only [↓VD,↓XX,XY,↓reduceIte,Nat.reduceBEq,Nat.reduceAdd,Int.reduceEq,Int.reduceLT,Int.reduceLE,↓Ag hw,↓Ag t15,↓Ag p0,↓Ag p1,↓Ag p2,↓AC h1,↓AC h2,↓AC h3,↓Ls,↓Ag t27];first | exact An _ _ | exact Ax rfl (by simp) _
   ·cases q
    ·simp (maxSteps:=1000000) only [↓VD,↓XX,XY,↓reduceIte,Nat.reduceBEq,Nat.reduceAdd,Int.reduceEq,Int.reduceLT,Int.reduceLE,↓Ag hw,↓Ag t15,↓Ag p0,↓Ag p1,↓Ag p2,↓AC h1,↓AC h2,↓AC h3,↓Ls,↓Ag t27];first | exact An _ _ | exact Ax rfl (by simp) _
    ·simp (maxSteps:=1000000) only [↓VD,↓XX,XY,↓reduceIte,Nat.reduceBEq,Nat.reduceAdd,Int.reduceEq,Int.reduceLT,Int.reduceLE,↓Ag hw,↓Ag t15,↓Ag p0,↓Ag p1,↓Ag p2,↓AC h1,↓AC h2,↓AC h3,↓Ls,↓Ag t27];first | exact An _ _ | exact Ax rfl (by simp) _
 by_cases c12:r.n % 7=1\/r.n % 7=2
 ·have hb:=FH g.length 1 (r.pick 0);have hbw:=EC 1 (r.pick 0);have hbd:=P3 ((r.pick 0).plainT 1);obtain ⟨b,hbe⟩:∃b,b=(r.pick 0).plainT 1:=⟨_,rfl⟩;rw [<- hbe] at hb hbw hbd;obtain ⟨x,p,⟨N1,h1⟩,tx⟩:=hO g b (r.pick 1) (AT (by omega) hg) ⟨hb,by omega,by omega⟩;have hgb:GOk (e - 2) (g++[(0,b)]):=Db (AT (by omega) hg) hb (by omega) (by omega);obtain ⟨y,q,⟨N2,h2⟩,ty⟩:=hO (g++[(0,b)]) (a.shift 1 0) (r.pick 2) hgb (by simpa using Bv hs1);have ys:y.sc (g.length+1):=by simpa using ty.sc
  obtain ⟨tt,htt,hok⟩:∃tt:Tm,(r.n % 7=1/\tt=.mk 28 0 [x,y]\/r.n % 7=2/\tt=.mk 21 0 [.mk 20 0 [b,y],x])/\TG 4 e g a tt (p && q):=by
   rcases c12 with h | h
   ·exact ⟨_,.inl ⟨h,rfl⟩,Cr (by decide) (by decide) (BB (by decide) (by decide) (by decide)) tx.sc ys,by have:=tx.wt;have:=ty.wt;rw [OY];omega,by have:=tx.dp;have:=ty.dp;rw [PY];omega,fun hpq=>by subst hbe;exact .olet e g a (r.pick 0) x y h6 (tx.gr (L7 hpq)) (ty.gr (Kd hpq))⟩
   ·exact ⟨_,.inr ⟨h,rfl⟩,Cr (by decide) (by decide) (BB (by decide) (by decide) (by decide)) (Cr (by decide) (by decide) (BB (by decide) (by decide) (by decide)) hb ys) tx.sc,by have:=tx.wt;have:=ty.wt;rw [OY,OY];omega,by have:=tx.dp;have:=ty.dp;rw [PY,PY];omega,fun hpq=>by subst hbe;exact .oapp e g a (r.pick 0) x y h6 (tx.gr (L7 hpq)) (ty.gr (Kd hpq))⟩
  refine ⟨tt,p && q,⟨N1+N2+100000,fun n hn=>?_⟩,hok⟩
  ·obtain ⟨n,rfl⟩:∃k,n=k+1:=⟨n - 1,by omega⟩;have h1:=h1 n (by omega);have h2:=h2 n (by omega);rw [<- we2] at h1 h2;have hw:=As (n:=n) (by omega) r.n (m:=7) (by omega) (by omega);have t15:=BE (n:=n) (by omega) 15;have p0:=AL (n:=n) (by omega) r 0;have p1:=AL (n:=n) (by omega) r 1;have p2:=AL (n:=n) (by omega) r 2;have hp:=Mi 1 n (r.pick 0) (by omega) (by omega);rw [<- hbe] at hp;have hm:=Ed (n:=n) g 0 b (by omega) (by omega);have sh:=CJ n a 1 0 (by omega) (Fd _ _ ha.sc) (by omega) (by omega);have t28:=CO (n:=n) (by omega) 28 [x,y];have t20:=CO (n:=n) (by omega) 20 [b,y];have t21:=CO (n:=n) (by omega) 21 [.mk 20 0 [b,y],x];rw [c59];clear hO hG tx ty hg ha hi hs1 hbe hb hgb ys hok c12;generalize r.n % 7=w7 at hw htt;generalize a.shift 1 0=a1 at sh h2;generalize r.pick 0=r0 at p0 hp;generalize r.pick 1=r1 at p1 h1;generalize r.pick 2=r2 at p2 h2;obtain ⟨o1,x1,k1⟩:=a;obtain ⟨o2,x2,k2⟩:=r;obtain ⟨o3,x3,k3⟩:=b;obtain ⟨o4,x4,k4⟩:=x;obtain ⟨o5,x5,k5⟩:=y;obtain ⟨o6,x6,k6⟩:=r0;obtain ⟨o7,x7,k7⟩:=r1;obtain ⟨o8,x8,k8⟩:=r2;obtain ⟨o9,x9,k9⟩:=a1;simp only [Tm.n] at hw;simp only [A6,AB5,AB4,Am] at h1 h2 t15 p0 p1 p2 hp hm sh t28 t20 t21 ⊢;rcases htt with ⟨rfl,rfl⟩ | ⟨rfl,rfl⟩
   ·cases p<;>(simp (maxSteps:=1000000) only [↓VD,↓XX,XY,↓reduceIte,Nat.reduceBEq,Nat.reduceAdd,Int.reduceEq,Int.reduceLT,Int.reduceLE,↓Ag hw,↓Ag t15,↓Ag p0,↓Ag p1,↓Ag p2,↓Ag hp,↓AC h1,↓AJ hm,↓AJ sh,↓AC h2,↓CT,↓Ag t28,Am,AB5,AB4];first | exact An _ _ | exact Ax rfl (by simp) _)
   ·cases p<;>(simp (maxSteps:=1000000) only [↓VD,↓XX,XY,↓reduceIte,Nat.reduceBEq,Nat.reduceAdd,Int.reduceEq,Int.reduceLT,Int.reduceLE,↓Ag hw,↓Ag t15,↓Ag p0,↓Ag p1,↓Ag p2,↓Ag hp,↓AC h1,↓AJ hm,↓AJ sh,↓AC h2,↓CT,↓Ag t20,↓Ag t21,Am,AB5,AB4];first | exact An _ _ | exact Ax rfl (by simp) _)
 by_cases c3:r.n % 7=3
 ·obtain ⟨x,p,⟨N1,h1⟩,tx⟩:=hO g a (r.pick 0) (AT (by omega) hg) (Bv ha);obtain ⟨y,q,⟨N2,h2⟩,ty⟩:=hO g (.mk 15 0 []) (r.pick 1) (AT (by omega) hg) hi;refine ⟨.mk 23 0 [.mk 22 0 [x,y]],p && q,⟨N1+N2+100000,fun n hn=>?_⟩,FO (by decide) (by decide) (BB (by decide) (by decide) (by decide)) (Cr (by decide) (by decide) (BB (by decide) (by decide) (by decide)) tx.sc ty.sc),by have:=tx.wt;have:=ty.wt;rw [wt1,OY];omega,by have:=tx.dp;have:=ty.dp;rw [dp1,PY];omega,fun hb=>.ofst e g a x y h6 (tx.gr (L7 hb)) (ty.gr (Kd hb))⟩
  ·obtain ⟨n,rfl⟩:∃k,n=k+1:=⟨n - 1,by omega⟩;have h1:=h1 n (by omega);have h2:=h2 n (by omega);rw [<- we2] at h1 h2;have hw:=As (n:=n) (by omega) r.n (m:=7) (by omega) (by omega);have t15:=BE (n:=n) (by omega) 15;have p0:=AL (n:=n) (by omega) r 0;have p1:=AL (n:=n) (by omega) r 1;have p2:=AL (n:=n) (by omega) r 2;rw [c3] at hw;have t22:=CO (n:=n) (by omega) 22 [x,y];have t23:=CO (n:=n) (by omega) 23 [.mk 22 0 [x,y]];rw [c59];clear hO hG tx ty hg ha hi hs1;generalize r.pick 0=r0 at p0 h1;generalize r.pick 1=r1 at p1 h2;obtain ⟨o1,x1,k1⟩:=a;obtain ⟨o2,x2,k2⟩:=r;obtain ⟨o4,x4,k4⟩:=x;obtain ⟨o5,x5,k5⟩:=y;obtain ⟨o6,x6,k6⟩:=r0;obtain ⟨o7,x7,k7⟩:=r1;simp only [Tm.n] at hw;simp only [A6,AB5,AB4,Am] at h1 h2 t15 p0 p1 t22 t23 ⊢;cases p<;>(simp (maxSteps:=1000000) only [↓VD,↓XX,XY,↓reduceIte,Nat.reduceBEq,Nat.reduceAdd,Int.reduceEq,Int.reduceLT,Int.reduceLE,↓Ag hw,↓Ag t15,↓Ag p0,↓Ag p1,↓AC h1,↓AC h2,↓CT,↓Em,↓Ag t22,↓Ag t23];first | exact An _ _ | exact Ax rfl (by simp) _)
 by_cases c4:r.n % 7=4
 ·have hga:GOk (e - 2) (g++[(0,a)]):=Db (AT (by omega) hg) ha.sc (by omega) (by omega);obtain ⟨x,p,⟨N1,h1⟩,tx⟩:=hO (g++[(0,a)]) (a.shift 1 0) (r.pick 0) hga (by simpa using Bv hs1);have xs:x.sc (g.length+1):=by simpa using tx.sc
  refine ⟨.mk 29 0 [a,x],p,⟨N1+100000,fun n hn=>?_⟩,Cr (by decide) (by decide) (BB (by decide) (by decide) (by decide)) ha.sc xs,by have:=tx.wt;rw [OY];omega,by have:=tx.dp;rw [PY];omega,fun hb=>.ofix e g a x h6 (tx.gr hb)⟩
  ·obtain ⟨n,rfl⟩:∃k,n=k+1:=⟨n - 1,by omega⟩;have h1:=h1 n (by omega);rw [<- we2] at h1;have hw:=As (n:=n) (by omega) r.n (m:=7) (by omega) (by omega);have t15:=BE (n:=n) (by omega) 15;have p0:=AL (n:=n) (by omega) r 0;have p1:=AL (n:=n) (by omega) r 1;have p2:=AL (n:=n) (by omega) r 2;rw [c4] at hw;have hm:=Ed (n:=n) g 0 a (by omega) (by omega);have sh:=CJ n a 1 0 (by omega) (Fd _ _ ha.sc) (by omega) (by omega);have t29:=CO (n:=n) (by omega) 29 [a,x];rw [c59];clear hO hG tx hg ha hi hs1 hga xs;generalize a.shift 1 0=a1 at sh h1;generalize r.pick 0=r0 at p0 h1;obtain ⟨o1,x1,k1⟩:=a;obtain ⟨o2,x2,k2⟩:=r;obtain ⟨o4,x4,k4⟩:=x;obtain ⟨o6,x6,k6⟩:=r0;obtain ⟨o9,x9,k9⟩:=a1;simp only [Tm.n] at hw;simp only [A6,AB5,AB4,Am] at h1 t15 p0 hm sh t29 ⊢;simp (maxSteps:=1000000) only [↓VD,↓XX,XY,↓reduceIte,Nat.reduceBEq,Nat.reduceAdd,Int.reduceEq,Int.reduceLT,Int.reduceLE,↓Ag hw,↓Ag t15,↓Ag p0,↓AJ hm,↓AJ sh,↓AC h1,↓CT,↓Ag t29];first | exact An _ _ | exact Ax rfl (by simp) _
 ·have hla:AOk g.length (.mk 18 0 [a]):=⟨FO (by decide) (by decide) (BB (by decide) (by decide) (by decide)) ha.sc,by rw [wt1];omega,by rw [dp1];omega⟩;obtain ⟨x,p,⟨N1,h1⟩,tx⟩:=hG g (.mk 18 0 [a]) (r.pick 0) (AT (by omega) hg) hla;refine ⟨.mk 30 0 [x],p,⟨N1+100000,fun n hn=>?_⟩,FO (by decide) (by decide) (BB (by decide) (by decide) (by decide)) tx.sc,by have:=tx.wt;rw [wt1];omega,by have:=tx.dp;rw [dp1];omega,fun hb=>.spl e g a x h6 (tx.gr hb)⟩
  ·obtain ⟨n,rfl⟩:∃k,n=k+1:=⟨n - 1,by omega⟩;have h1:=h1 n (by omega);rw [<- we] at h1;have hw:=As (n:=n) (by omega) r.n (m:=7) (by omega) (by omega);have t15:=BE (n:=n) (by omega) 15;have p0:=AL (n:=n) (by omega) r 0;have p1:=AL (n:=n) (by omega) r 1;have p2:=AL (n:=n) (by omega) r 2;have c1:¬ r.n % 7=1:=fun h=>c12 (.inl h);have c2:¬ r.n % 7=2:=fun h=>c12 (.inr h);have t18:=CO (n:=n) (by omega) 18 [a];have t30:=CO (n:=n) (by omega) 30 [x];rw [c59];clear hO hG tx hg ha hi hs1 hla c12 hk1 hk2;generalize r.n % 7=w7 at hw c0 c1 c2 c3 c4;generalize r.pick 0=r0 at p0 h1;obtain ⟨o1,x1,k1⟩:=a;obtain ⟨o2,x2,k2⟩:=r;obtain ⟨o4,x4,k4⟩:=x;obtain ⟨o6,x6,k6⟩:=r0;simp only [Tm.n] at hw;simp only [A6,AB5,AB4,Am] at h1 t15 p0 t18 t30 ⊢;simp (maxSteps:=1000000) only [↓VD,↓XX,XY,↓reduceIte,Nat.reduceBEq,Nat.reduceAdd,Int.reduceEq,Int.reduceLT,Int.reduceLE,↓Ag hw,c0,c1,c2,c3,c4,↓Ag t15,↓Ag p0,↓Em,↓Ag t18,↓AC h1,↓Ag t30];first | exact An _ _ | exact Ax rfl (by simp) _
theorem He {k:Nat} {a:Tm} {r:Nat} (h:NOk k a) (hr:ar a.op=some r):a.kids.length=r:=K2 h.sc rfl hr
theorem AdA {l:List Tm} (h:l.length=2):∃x y,l=[x,y]:=by
 match l,h with
 | [x,y],_=>exact ⟨x,y,rfl⟩
theorem AvA {l:List Tm} (h:l.length=1):∃x,l=[x]:=by
 match l,h with
 | [x],_=>exact ⟨x,rfl⟩
theorem Awq {l:List Tm} (h:l.length=0):l=[]:=List.eq_nil_of_length_eq_zero h
theorem Ah1 {e:Nat} (he:e<=10) (hO:1<=e->Eo 33 2 (e - 1)) (hA:6<=e->Qq 59 4 e):Eo 33 2 e:=by
 intro g a0 r hg ha0;have hlen:=hg.len;have hW0:=MR e;have hD0:200<=Dg e:=by unfold Dg;omega
 have hDm:Dg e<=300:=by unfold Dg;omega
 have hW10:=Pb he;obtain ⟨a,er,⟨N0,h0⟩,hcase,fn,hfn⟩:=Lj (k:=g.length) (by omega) ha0.sc (by have:=ha0.dp;omega);rcases hcase with ⟨rfl,ha⟩ | ⟨her,rfl⟩
 case inr =>
  have hne:er≠0:=by omega
  refine ⟨.z,false,⟨N0+100,fun n hn=>?_⟩,Ati _,by simp only [Tm.z,Tm.wt,Tm.wtL];omega,by simp only [Tm.z,Tm.dp,Tm.dpL];omega,fun h=>by cases h⟩;obtain ⟨n,rfl⟩:∃k,n=k+1:=⟨n - 1,by omega⟩;have h0:=h0 n (by omega);rw [c33];clear hO hA hg ha0;obtain ⟨o1,x1,k1⟩:=a0;obtain ⟨o2,x2,k2⟩:=r;simp only [A6,Tm.z,AB4,Am] at h0 ⊢;simp (maxSteps:=1000000) only [↓OQ,↓XX,XY,↓reduceIte,Nat.reduceBEq,Nat.reduceAdd,Int.reduceEq,Int.reduceLT,Int.reduceLE,↓Aw h0,hne];first | exact An _ _ | exact Ax rfl (by simp) _
 obtain ⟨v,is,⟨N1,h1⟩,tv0,hhit⟩:=MJ hg 0 ha r.n;have up:∀{t:Tm},Gr 4 e g a t->Gr 2 e g a0 t:=fun h=>.objc e g a0 a _ fn hfn (by omega) ha h;have tv:TG 2 e g a0 v is:=tg (VE (Nat.zero_le _) tv0) (fun hb=>by
  obtain ⟨i,rfl,hi⟩:=hhit hb;exact up (.var0 e g a i hi))
 clear tv0 hhit;have aw:=ha.wt;have ad:=ha.dp;have hw3m:=Int.emod_nonneg r.op (show (3:Int)≠0 by decide)
 by_cases cv:is=true/\r.op % 3=0\/e=0
 ·refine ⟨v,is,⟨N0+N1+100,fun n hn=>?_⟩,tv⟩;obtain ⟨n,rfl⟩:∃k,n=k+1:=⟨n - 1,by omega⟩;have h0:=h0 n (by omega);have h1:=h1 n (by omega);have hw:=As (n:=n) (by omega) r.op (m:=3) (by omega) (by omega);rw [c33];clear up hfn hO hA hg ha0 ha tv;obtain ⟨o0,x0,k0⟩:=a0;obtain ⟨o1,x1,k1⟩:=a;obtain ⟨o2,x2,k2⟩:=r;obtain ⟨o3,x3,k3⟩:=v;simp only [Tm.n,Tm.op] at h1 hw cv;simp only [A6,Am] at h0 h1 ⊢;generalize o2 % 3=w3 at hw cv;rcases cv with ⟨rfl,rfl⟩ | rfl
  ·simp (maxSteps:=1000000) only [↓OQ,↓XX,XY,↓reduceIte,Nat.reduceBEq,Nat.reduceAdd,Int.reduceEq,Int.reduceLT,Int.reduceLE,↓Aw h0,↓AC h1,↓Ag hw];first | exact An _ _ | exact Ax rfl (by simp) _
  ·have hd4:((0:Nat):Int) - 5 < -4:=by omega
   cases is
   ·simp (maxSteps:=1000000) only [↓OQ,↓XX,XY,↓reduceIte,Nat.reduceBEq,Nat.reduceAdd,Int.reduceEq,Int.reduceLT,Int.reduceLE,↓Aw h0,↓AC h1,↓Ag hw,hd4,Int.reduceSub,Int.reduceLT,Int.reduceNeg];first | exact An _ _ | exact Ax rfl (by simp) _
   ·by_cases h3:w3=0
    ·simp (maxSteps:=1000000) only [↓OQ,↓XX,XY,↓reduceIte,Nat.reduceBEq,Nat.reduceAdd,Int.reduceEq,Int.reduceLT,Int.reduceLE,↓Aw h0,↓AC h1,↓Ag hw,h3,hd4,Int.reduceSub,Int.reduceLT,Int.reduceNeg];first | exact An _ _ | exact Ax rfl (by simp) _
    ·simp (maxSteps:=1000000) only [↓OQ,↓XX,XY,↓reduceIte,Nat.reduceBEq,Nat.reduceAdd,Int.reduceEq,Int.reduceLT,Int.reduceLE,↓Aw h0,↓AC h1,↓Ag hw,h3,hd4,Int.reduceSub,Int.reduceLT,Int.reduceNeg];first | exact An _ _ | exact Ax rfl (by simp) _
 have he1:1<=e:=by omega
 have hd4:¬ (e:Int) - 5 < -4:=by omega
 have hv:is=true->¬ r.op % 3=0:=fun h1 h2=>cv (.inl ⟨h1,h2⟩);have hW1:Wg e=4 * Wg (e - 1):=by
  obtain ⟨f,rfl⟩:∃f,e=f+1:=⟨e - 1,by omega⟩;rw [MN,Nat.add_sub_cancel]
 have hW01:=MR (e - 1);have hD1:Dg e=Dg (e - 1)+10:=by unfold Dg;omega
 have hD01:200<=Dg (e - 1):=by unfold Dg;omega
 have we:BK ((e:Int) - 5 - 1)=((e - 1:Nat):Int) - 5:=by rw [Av (by omega) (by omega)];omega
 have hO:=hO he1;by_cases ca:6<=e/\r.op % 3=1
 ·obtain ⟨t,b,⟨N2,h2⟩,tt⟩:=hA ca.1 g a r hg ha;refine ⟨t,b,⟨N0+N1+N2+100,fun n hn=>?_⟩,Ale tt up⟩;obtain ⟨n,rfl⟩:∃k,n=k+1:=⟨n - 1,by omega⟩;have h0:=h0 n (by omega);have h1:=h1 n (by omega);have h2:=h2 n (by omega);have hw:=As (n:=n) (by omega) r.op (m:=3) (by omega) (by omega);rw [ca.2] at hw;have hd0:(0:Int)<(e:Int) - 5:=by omega
  rw [c33];clear up hfn hO hA hg ha0 ha tv tt;obtain ⟨o0,x0,k0⟩:=a0;obtain ⟨o1,x1,k1⟩:=a;obtain ⟨o2,x2,k2⟩:=r;obtain ⟨o3,x3,k3⟩:=v;obtain ⟨o4,x4,k4⟩:=t;simp only [Tm.n,Tm.op] at h1 hw;simp only [A6,Am] at h0 h1 h2 ⊢;cases is<;>(simp (maxSteps:=1000000) only [↓OQ,↓XX,XY,↓reduceIte,Nat.reduceBEq,Nat.reduceAdd,Int.reduceEq,Int.reduceLT,Int.reduceLE,↓Aw h0,↓AC h1,↓Ag hw,hd4,hd0,↓AC h2];first | exact An _ _ | exact Ax rfl (by simp) _)
 have hna:(0:Int)<(e:Int) - 5->¬ r.op % 3=1:=by omega
 by_cases o15:a.op=15
 ·have hl:=Awq (He ha (show ar a.op=some 0 by rw [o15];decide))
  by_cases hs:6<=e/\r.op % 2=1
  ·obtain ⟨x,p,⟨N2,h2⟩,tx⟩:=hO g a (r.pick 0) (AT (by omega) hg) (Bv ha);obtain ⟨y,q,⟨N3,h3⟩,ty⟩:=hO g a (r.pick 1) (AT (by omega) hg) (Bv ha);have hj1:=Int.emod_nonneg r.n (show (5:Int)≠0 by decide)
   have hj2:=Int.emod_lt_of_pos r.n (show (0:Int)<5 by decide)
   refine ⟨.mk 26 (r.n % 5) [x,y],p && q,⟨N0+N1+N2+N3+100,fun n hn=>?_⟩,Cr (by decide) (by decide) (by rw [BJ,if_neg (by decide),if_pos rfl];omega) tx.sc ty.sc,by have:=tx.wt;have:=ty.wt;rw [OY];omega,by have:=tx.dp;have:=ty.dp;rw [PY];omega,fun hb=>up (.oprim e g a x y _ hs.1 o15 (tx.gr (L7 hb)) (ty.gr (Kd hb)))⟩;obtain ⟨n,rfl⟩:∃k,n=k+1:=⟨n - 1,by omega⟩;have h0:=h0 n (by omega);have h1:=h1 n (by omega);have h2:=h2 n (by omega);have h3:=h3 n (by omega);rw [<- we] at h2 h3;have hw:=As (n:=n) (by omega) r.op (m:=3) (by omega) (by omega);have hw2:=As (n:=n) (by omega) r.op (m:=2) (by omega) (by omega);rw [hs.2] at hw2;have hw5:=As (n:=n) (by omega) r.n (m:=5) (by omega) (by omega);have p0:=AL (n:=n) (by omega) r 0;have p1:=AL (n:=n) (by omega) r 1;have hd0:(0:Int)<(e:Int) - 5:=by omega
   replace hna:=hna hd0;rw [c33];clear up hfn hO hA hg ha0 ha tv tx ty hj1 hj2;generalize r.op % 3=w3 at hw hv hna;generalize r.n % 5=w5 at hw5 ⊢;generalize r.pick 0=r0 at p0 h2;generalize r.pick 1=r1 at p1 h3;obtain ⟨o0,x0,k0⟩:=a0;obtain ⟨o1,x1,k1⟩:=a;simp only [Tm.op,Tm.kids] at o15 hl;subst o15 hl;obtain ⟨o2,x2,k2⟩:=r;obtain ⟨o3,x3,k3⟩:=v;obtain ⟨o4,x4,k4⟩:=x;obtain ⟨o5,x5,k5⟩:=y;obtain ⟨o6,x6,k6⟩:=r0;obtain ⟨o7,x7,k7⟩:=r1;simp only [Tm.n,Tm.op] at h1 hw hw2 hw5;simp only [A6,Am,AB5,AB4] at h0 h1 h2 h3 p0 p1 ⊢;cases is<;>cases p<;>(simp (maxSteps:=1000000) only [↓OQ,↓XX,XY,↓reduceIte,Nat.reduceBEq,Nat.reduceAdd,Int.reduceEq,Int.reduceLT,Int.reduceLE,↓Aw h0,↓AC h1,↓Ag hw,hv,hd4,hd0,hna,↓Ag hw2,↓Ag p0,↓Ag p1,↓AC h2,↓AC h3,↓Ag hw5,↓CT];first | exact An _ _ | exact Ax rfl (by simp) _)
  ·have hj1:=Int.emod_nonneg r.n (show (20:Int)≠0 by decide)
   have hj2:=Int.emod_lt_of_pos r.n (show (0:Int)<20 by decide)
   refine ⟨.mk 25 (r.n % 20 - 5) [],true,⟨N0+N1+100,fun n hn=>?_⟩,Ce (by decide) (by decide) (by rw [BJ,if_neg (by decide),if_neg (by decide),if_pos rfl];omega),by simp only [Tm.wt,Tm.wtL];omega,by simp only [Tm.dp,Tm.dpL];omega,fun _=>up (.oint e g a _ o15)⟩;obtain ⟨n,rfl⟩:∃k,n=k+1:=⟨n - 1,by omega⟩;have h0:=h0 n (by omega);have h1:=h1 n (by omega);have hw:=As (n:=n) (by omega) r.op (m:=3) (by omega) (by omega);have hw2:=As (n:=n) (by omega) r.op (m:=2) (by omega) (by omega);have hw20:=As (n:=n) (by omega) r.n (m:=20) (by omega) (by omega);have w5:BK (r.n % 20 - 5)=r.n % 20 - 5:=by rw [Av]<;>omega
   have hin:=AkY (n:=n) (by omega) (r.n % 20 - 5);rw [<- w5] at hin;have h21:(0:Int)<(e:Int) - 5->¬ r.op % 2=1:=by omega
   rw [c33,<- w5];clear up hfn hO hA hg ha0 ha tv hj1 hj2 w5 hs;generalize r.op % 3=w3 at hw hv hna;generalize r.op % 2=w2 at hw2 h21;generalize r.n % 20=w20 at hw20 hin ⊢;obtain ⟨o0,x0,k0⟩:=a0;obtain ⟨o1,x1,k1⟩:=a;simp only [Tm.op,Tm.kids] at o15 hl;subst o15 hl;obtain ⟨o2,x2,k2⟩:=r;obtain ⟨o3,x3,k3⟩:=v;simp only [Tm.n,Tm.op] at h1 hw hw2 hw20;simp only [A6,Am,AB5,AB4] at h0 h1 hin ⊢;cases is<;>by_cases hd0:(0:Int)<(e:Int) - 5<;>(simp (maxSteps:=1000000) only [↓OQ,↓XX,XY,↓reduceIte,Nat.reduceBEq,Nat.reduceAdd,Int.reduceEq,Int.reduceLT,Int.reduceLE,↓Aw h0,↓AC h1,↓Ag hw,hv,hd4,hd0,hna,↓Ag hw2,h21,↓Ag hw20,↓Aw hin];first | exact An _ _ | exact Ax rfl (by simp) _)
 by_cases o16:a.op=16
 ·obtain ⟨d,c,hl⟩:=AdA (He ha (show ar a.op=some 2 by rw [o16];decide))
  have hd:NOk g.length d/\NOk g.length c:=by
   obtain ⟨o1,x1,k1⟩:=a;simp only [Tm.op,Tm.kids] at o16 hl;subst o16 hl;have hsc:=ha.sc;rw [Tm.sc] at hsc;rw [OY] at aw;rw [PY] at ad;exact ⟨⟨hsc.2.2.1,by omega,by omega⟩,⟨hsc.2.2.2.1,by omega,by omega⟩⟩
  obtain ⟨hd,hc⟩:=hd;have hgd:GOk (e - 1) (g++[(0,d)]):=Db (by rw [show e - 1+1=e by omega];exact hg) hd.sc (by have:=hd.wt;omega) (by have:=hd.dp;omega)
  obtain ⟨x,p,⟨N2,h2⟩,tx⟩:=hO (g++[(0,d)]) (c.shift 1 0) (r.pick 0) hgd (by simpa using Bv (NV hc (by omega) 1 (by omega)));have xs:x.sc (g.length+1):=by simpa using tx.sc
  refine ⟨.mk 20 0 [d,x],p,⟨N0+N1+N2+100000,fun n hn=>?_⟩,Cr (by decide) (by decide) (BB (by decide) (by decide) (by decide)) hd.sc xs,by have:=tx.wt;have:=hd.wt;rw [OY];omega,by have:=tx.dp;have:=hd.dp;rw [PY];omega,fun hb=>up (by
   obtain ⟨oa,xa,ka⟩:=a;simp only [Tm.op,Tm.kids] at o16 hl;subst o16 hl;exact .olam e g _ d c x (tx.gr hb))⟩
  ·obtain ⟨n,rfl⟩:∃k,n=k+1:=⟨n - 1,by omega⟩;have h0:=h0 n (by omega);have h1:=h1 n (by omega);have h2:=h2 n (by omega);rw [<- we] at h2;have hw:=As (n:=n) (by omega) r.op (m:=3) (by omega) (by omega);have p0:=AL (n:=n) (by omega) r 0;have hm:=Ed (n:=n) g 0 d (by omega) (by omega);have sh:=CJ n c 1 0 (by have:=hc.wt;omega) (Fd _ _ hc.sc) (by omega) (by have:=hc.wt;omega);have t20:=CO (n:=n) (by omega) 20 [d,x];rw [c33];clear up hfn hO hA hg ha0 ha tv tx hd hc hgd xs;generalize r.op % 3=w3 at hw hv hna;generalize c.shift 1 0=c1 at sh h2;generalize r.pick 0=r0 at p0 h2;obtain ⟨o0,x0,k0⟩:=a0;obtain ⟨o1,x1,k1⟩:=a;simp only [Tm.op,Tm.kids] at o16 hl;subst o16 hl;obtain ⟨o2,x2,k2⟩:=r;obtain ⟨o3,x3,k3⟩:=v;obtain ⟨o4,x4,k4⟩:=x;obtain ⟨o5,x5,k5⟩:=d;obtain ⟨o6,x6,k6⟩:=c;obtain ⟨o7,x7,k7⟩:=c1;obtain ⟨o8,x8,k8⟩:=r0;simp only [Tm.n,Tm.op] at h1 hw;simp only [A6,Am,AB5,AB4] at h0 h1 h2 p0 hm sh t20 ⊢;cases is<;>by_cases hd0:(0:Int)<(e:Int) - 5<;>(simp (maxSteps:=1000000) only [↓OQ,↓XX,XY,↓reduceIte,Nat.reduceBEq,Nat.reduceAdd,Int.reduceEq,Int.reduceLT,Int.reduceLE,↓Aw h0,↓AC h1,↓Ag hw,hv,hd4,hd0,hna,↓Cs,↓CA,↓Ag p0,↓AJ hm,↓AJ sh,↓AC h2,↓CT,↓Ag t20];first | exact An _ _ | exact Ax rfl (by simp) _)
 by_cases o17:a.op=17
 ·obtain ⟨d,c,hl⟩:=AdA (He ha (show ar a.op=some 2 by rw [o17];decide))
  have hd:NOk g.length d/\NOk g.length c:=by
   obtain ⟨o1,x1,k1⟩:=a;simp only [Tm.op,Tm.kids] at o17 hl;subst o17 hl;have hsc:=ha.sc;rw [Tm.sc] at hsc;rw [OY] at aw;rw [PY] at ad;exact ⟨⟨hsc.2.2.1,by omega,by omega⟩,⟨hsc.2.2.2.1,by omega,by omega⟩⟩
  obtain ⟨hd,hc⟩:=hd;obtain ⟨x,p,⟨N2,h2⟩,tx⟩:=hO g d (r.pick 0) (AT (by omega) hg) (Bv hd);obtain ⟨y,q,⟨N3,h3⟩,ty⟩:=hO g c (r.pick 1) (AT (by omega) hg) (Bv hc);refine ⟨.mk 22 0 [x,y],p && q,⟨N0+N1+N2+N3+100,fun n hn=>?_⟩,Cr (by decide) (by decide) (BB (by decide) (by decide) (by decide)) tx.sc ty.sc,by have:=tx.wt;have:=ty.wt;rw [OY];omega,by have:=tx.dp;have:=ty.dp;rw [PY];omega,fun hb=>up (by
   obtain ⟨oa,xa,ka⟩:=a;simp only [Tm.op,Tm.kids] at o17 hl;subst o17 hl;exact .opair e g _ d c x y (tx.gr (L7 hb)) (ty.gr (Kd hb)))⟩
  ·obtain ⟨n,rfl⟩:∃k,n=k+1:=⟨n - 1,by omega⟩;have h0:=h0 n (by omega);have h1:=h1 n (by omega);have h2:=h2 n (by omega);have h3:=h3 n (by omega);rw [<- we] at h2 h3;have hw:=As (n:=n) (by omega) r.op (m:=3) (by omega) (by omega);have p0:=AL (n:=n) (by omega) r 0;have p1:=AL (n:=n) (by omega) r 1;have t22:=CO (n:=n) (by omega) 22 [x,y];rw [c33];clear up hfn hO hA hg ha0 ha tv tx ty hd hc;generalize r.op % 3=w3 at hw hv hna;generalize r.pick 0=r0 at p0 h2;generalize r.pick 1=r1 at p1 h3;obtain ⟨o0,x0,k0⟩:=a0;obtain ⟨o1,x1,k1⟩:=a;simp only [Tm.op,Tm.kids] at o17 hl;subst o17 hl;obtain ⟨o2,x2,k2⟩:=r;obtain ⟨o3,x3,k3⟩:=v;obtain ⟨o4,x4,k4⟩:=x;obtain ⟨o5,x5,k5⟩:=d;obtain ⟨o6,x6,k6⟩:=c;obtain ⟨o7,x7,k7⟩:=y;obtain ⟨o8,x8,k8⟩:=r0;obtain ⟨o9,x9,k9⟩:=r1;simp only [Tm.n,Tm.op] at h1 hw;simp only [A6,Am,AB5,AB4] at h0 h1 h2 h3 p0 p1 t22 ⊢;cases is<;>by_cases hd0:(0:Int)<(e:Int) - 5<;>cases p<;>(simp (maxSteps:=1000000) only [↓OQ,↓XX,XY,↓reduceIte,Nat.reduceBEq,Nat.reduceAdd,Int.reduceEq,Int.reduceLT,Int.reduceLE,↓Aw h0,↓AC h1,↓Ag hw,hv,hd4,hd0,hna,↓Cs,↓CA,↓Ag p0,↓Ag p1,↓AC h2,↓AC h3,↓CT,↓Ag t22];first | exact An _ _ | exact Ax rfl (by simp) _)
 refine ⟨v,is,⟨N0+N1+100,fun n hn=>?_⟩,tv⟩
 ·obtain ⟨n,rfl⟩:∃k,n=k+1:=⟨n - 1,by omega⟩;have h0:=h0 n (by omega);have h1:=h1 n (by omega);have hw:=As (n:=n) (by omega) r.op (m:=3) (by omega) (by omega);rw [c33];clear up hfn hO hA hg ha0 ha tv;generalize r.op % 3=w3 at hw hv hna;obtain ⟨o0,x0,k0⟩:=a0;obtain ⟨o1,x1,k1⟩:=a;obtain ⟨o2,x2,k2⟩:=r;obtain ⟨o3,x3,k3⟩:=v;simp only [Tm.n,Tm.op] at h1 hw o15 o16 o17;simp only [A6,Am] at h0 h1 ⊢;cases is<;>by_cases hd0:(0:Int)<(e:Int) - 5<;>(simp (maxSteps:=1000000) only [↓OQ,↓XX,XY,↓reduceIte,Nat.reduceBEq,Nat.reduceAdd,Int.reduceEq,Int.reduceLT,Int.reduceLE,↓Aw h0,↓AC h1,↓Ag hw,hv,hd4,hd0,hna,o15,o16,o17];first | exact An _ _ | exact Ax rfl (by simp) _)
theorem Am3 {e:Nat} (he:e<=10) (hG:1<=e->Eo 39 1 (e - 1)) (hO:1<=e->Eo 33 2 (e - 1)) (hA:6<=e->Qq 65 3 e) (hP:1<=e->AjS 66 3 e):Eo 39 1 e:=by
 intro g a0 r hg ha0;have hlen:=hg.len;have hW0:=MR e;have hD0:200<=Dg e:=by unfold Dg;omega
 have hDm:Dg e<=300:=by unfold Dg;omega
 have hW10:=Pb he;obtain ⟨a,er,⟨N0,h0⟩,hcase,fn,hfn⟩:=Lj (k:=g.length) (by omega) ha0.sc (by have:=ha0.dp;omega);rcases hcase with ⟨rfl,ha⟩ | ⟨her,rfl⟩
 case inr =>
  have hne:er≠0:=by omega
  refine ⟨.z,false,⟨N0+100,fun n hn=>?_⟩,Ati _,by simp only [Tm.z,Tm.wt,Tm.wtL];omega,by simp only [Tm.z,Tm.dp,Tm.dpL];omega,fun h=>by cases h⟩;obtain ⟨n,rfl⟩:∃k,n=k+1:=⟨n - 1,by omega⟩;have h0:=h0 n (by omega);rw [c39];clear hG hO hA hP hg ha0;obtain ⟨o1,x1,k1⟩:=a0;obtain ⟨o2,x2,k2⟩:=r;simp only [A6,Tm.z,AB4,Am] at h0 ⊢;simp (maxSteps:=1000000) only [↓Kr,↓XX,XY,↓reduceIte,Nat.reduceBEq,Nat.reduceAdd,Int.reduceEq,Int.reduceLT,Int.reduceLE,↓Aw h0,hne];first | exact An _ _ | exact Ax rfl (by simp) _
 obtain ⟨v,is,⟨N1,h1⟩,tv0,hhit⟩:=MJ hg 1 ha r.n;have up:∀{t:Tm},Gr 3 e g a t->Gr 1 e g a0 t:=fun h=>.grow e g a0 a _ fn hfn (by omega) ha h;have tv:TG 1 e g a0 v is:=tg (VE (Nat.zero_le _) tv0) (fun hb=>by
  obtain ⟨i,rfl,hi⟩:=hhit hb;exact up (.var1 e g a i hi))
 clear tv0 hhit;have aw:=ha.wt;have ad:=ha.dp;have hw3m:=Int.emod_nonneg r.op (show (3:Int)≠0 by decide)
 by_cases cv:is=true/\r.op % 3=0\/e=0
 ·refine ⟨v,is,⟨N0+N1+100,fun n hn=>?_⟩,tv⟩;obtain ⟨n,rfl⟩:∃k,n=k+1:=⟨n - 1,by omega⟩;have h0:=h0 n (by omega);have h1:=h1 n (by omega);have hw:=As (n:=n) (by omega) r.op (m:=3) (by omega) (by omega);rw [c39];clear up hfn hG hO hA hP hg ha0 ha tv;obtain ⟨o0,x0,k0⟩:=a0;obtain ⟨o1,x1,k1⟩:=a;obtain ⟨o2,x2,k2⟩:=r;obtain ⟨o3,x3,k3⟩:=v;simp only [Tm.n,Tm.op] at h1 hw cv;simp only [A6,Am] at h0 h1 ⊢;generalize o2 % 3=w3 at hw cv;rcases cv with ⟨rfl,rfl⟩ | rfl
  ·simp (maxSteps:=1000000) only [↓Kr,↓XX,XY,↓reduceIte,Nat.reduceBEq,Nat.reduceAdd,Int.reduceEq,Int.reduceLT,Int.reduceLE,↓Aw h0,↓AC h1,↓Ag hw];first | exact An _ _ | exact Ax rfl (by simp) _
  ·have hd4:((0:Nat):Int) - 5 < -4:=by omega
   cases is
   ·simp (maxSteps:=1000000) only [↓Kr,↓XX,XY,↓reduceIte,Nat.reduceBEq,Nat.reduceAdd,Int.reduceEq,Int.reduceLT,Int.reduceLE,↓Aw h0,↓AC h1,↓Ag hw,hd4,Int.reduceSub,Int.reduceLT,Int.reduceNeg];first | exact An _ _ | exact Ax rfl (by simp) _
   ·by_cases h3:w3=0
    ·simp (maxSteps:=1000000) only [↓Kr,↓XX,XY,↓reduceIte,Nat.reduceBEq,Nat.reduceAdd,Int.reduceEq,Int.reduceLT,Int.reduceLE,↓Aw h0,↓AC h1,↓Ag hw,h3,hd4,Int.reduceSub,Int.reduceLT,Int.reduceNeg];first | exact An _ _ | exact Ax rfl (by simp) _
    ·simp (maxSteps:=1000000) only [↓Kr,↓XX,XY,↓reduceIte,Nat.reduceBEq,Nat.reduceAdd,Int.reduceEq,Int.reduceLT,Int.reduceLE,↓Aw h0,↓AC h1,↓Ag hw,h3,hd4,Int.reduceSub,Int.reduceLT,Int.reduceNeg];first | exact An _ _ | exact Ax rfl (by simp) _
 have he1:1<=e:=by omega
 have hd4:¬ (e:Int) - 5 < -4:=by omega
 have hv:is=true->¬ r.op % 3=0:=fun h1 h2=>cv (.inl ⟨h1,h2⟩);have hW1:Wg e=4 * Wg (e - 1):=by
  obtain ⟨f,rfl⟩:∃f,e=f+1:=⟨e - 1,by omega⟩;rw [MN,Nat.add_sub_cancel]
 have hW01:=MR (e - 1);have hD1:Dg e=Dg (e - 1)+10:=by unfold Dg;omega
 have hD01:200<=Dg (e - 1):=by unfold Dg;omega
 have we:BK ((e:Int) - 5 - 1)=((e - 1:Nat):Int) - 5:=by rw [Av (by omega) (by omega)];omega
 have hO:=hO he1;have hG:=hG he1;have hP:=hP he1;by_cases ca:6<=e/\r.op % 7=6
 ·obtain ⟨t,b,⟨N2,h2⟩,tt⟩:=hA ca.1 g a r hg ha;refine ⟨t,b,⟨N0+N1+N2+100,fun n hn=>?_⟩,Ale tt up⟩;obtain ⟨n,rfl⟩:∃k,n=k+1:=⟨n - 1,by omega⟩;have h0:=h0 n (by omega);have h1:=h1 n (by omega);have h2:=h2 n (by omega);have hw:=As (n:=n) (by omega) r.op (m:=3) (by omega) (by omega);have hw7:=As (n:=n) (by omega) r.op (m:=7) (by omega) (by omega);rw [ca.2] at hw7;have hd0:(0:Int)<(e:Int) - 5:=by omega
  rw [c39];clear up hfn hG hO hA hP hg ha0 ha tv tt;generalize r.op % 3=w3 at hw hv;obtain ⟨o0,x0,k0⟩:=a0;obtain ⟨o1,x1,k1⟩:=a;obtain ⟨o2,x2,k2⟩:=r;obtain ⟨o3,x3,k3⟩:=v;obtain ⟨o4,x4,k4⟩:=t;simp only [Tm.n,Tm.op] at h1 hw hw7;simp only [A6,Am] at h0 h1 h2 ⊢;cases is<;>(simp (maxSteps:=1000000) only [↓Kr,↓XX,XY,↓reduceIte,Nat.reduceBEq,Nat.reduceAdd,Int.reduceEq,Int.reduceLT,Int.reduceLE,↓Aw h0,↓AC h1,↓Ag hw,↓Ag hw7,hv,hd4,hd0,↓AC h2];first | exact An _ _ | exact Ax rfl (by simp) _)
 have hna:(0:Int)<(e:Int) - 5->¬ r.op % 7=6:=by omega
 by_cases hpl:a.op=10\/a.op=14\/a.op=2
 ·obtain ⟨t,b,⟨N2,h2⟩,tt⟩:=hP g a r hg ha hpl;refine ⟨t,b,⟨N0+N1+N2+100,fun n hn=>?_⟩,Ale tt up⟩
  ·obtain ⟨n,rfl⟩:∃k,n=k+1:=⟨n - 1,by omega⟩;have h0:=h0 n (by omega);have h1:=h1 n (by omega);have h2:=h2 n (by omega);have hw:=As (n:=n) (by omega) r.op (m:=3) (by omega) (by omega);have hw7:=As (n:=n) (by omega) r.op (m:=7) (by omega) (by omega);rw [c39];clear up hfn hG hO hA hP hg ha0 ha tv tt;generalize r.op % 3=w3 at hw hv;generalize r.op % 7=w7 at hw7 hna;obtain ⟨o0,x0,k0⟩:=a0;obtain ⟨o1,x1,k1⟩:=a;obtain ⟨o2,x2,k2⟩:=r;obtain ⟨o3,x3,k3⟩:=v;obtain ⟨o4,x4,k4⟩:=t;simp only [Tm.n,Tm.op] at h1 hw hw7 hpl;simp only [A6,Am] at h0 h1 h2 ⊢;rcases hpl with rfl | rfl | rfl
   ·cases is<;>by_cases hd0:(0:Int)<(e:Int) - 5<;>(simp (maxSteps:=1000000) only [↓Kr,↓XX,XY,↓reduceIte,Nat.reduceBEq,Nat.reduceAdd,Int.reduceEq,Int.reduceLT,Int.reduceLE,↓Aw h0,↓AC h1,↓Ag hw,↓Ag hw7,hv,hd4,hd0,hna,↓AC h2];first | exact An _ _ | exact Ax rfl (by simp) _)
   ·cases is<;>by_cases hd0:(0:Int)<(e:Int) - 5<;>(simp (maxSteps:=1000000) only [↓Kr,↓XX,XY,↓reduceIte,Nat.reduceBEq,Nat.reduceAdd,Int.reduceEq,Int.reduceLT,Int.reduceLE,↓Aw h0,↓AC h1,↓Ag hw,↓Ag hw7,hv,hd4,hd0,hna,↓AC h2];first | exact An _ _ | exact Ax rfl (by simp) _)
   ·cases is<;>by_cases hd0:(0:Int)<(e:Int) - 5<;>(simp (maxSteps:=1000000) only [↓Kr,↓XX,XY,↓reduceIte,Nat.reduceBEq,Nat.reduceAdd,Int.reduceEq,Int.reduceLT,Int.reduceLE,↓Aw h0,↓AC h1,↓Ag hw,↓Ag hw7,hv,hd4,hd0,hna,↓AC h2];first | exact An _ _ | exact Ax rfl (by simp) _)
 by_cases o3:a.op=3
 ·obtain ⟨d,c,hl⟩:=AdA (He ha (show ar a.op=some 2 by rw [o3];decide))
  have hd:NOk g.length d/\NOk (g.length+1) c:=by
   obtain ⟨o1,x1,k1⟩:=a;simp only [Tm.op,Tm.kids] at o3 hl;subst o3 hl;have hsc:=ha.sc;rw [Tm.sc] at hsc;rw [OY] at aw;rw [PY] at ad;exact ⟨⟨hsc.2.2.1,by omega,by omega⟩,⟨hsc.2.2.2.1,by omega,by omega⟩⟩
  obtain ⟨hd,hc⟩:=hd;have hgd:GOk (e - 1) (g++[(1,d)]):=Db (by rw [show e - 1+1=e by omega];exact hg) hd.sc (by have:=hd.wt;omega) (by have:=hd.dp;omega)
  obtain ⟨x,p,⟨N2,h2⟩,tx⟩:=hG (g++[(1,d)]) c (r.pick 0) hgd (by simpa using Bv hc);have xs:x.sc (g.length+1):=by simpa using tx.sc
  refine ⟨.mk 4 0 [d,x],p,⟨N0+N1+N2+100000,fun n hn=>?_⟩,Cr (by decide) (by decide) (BB (by decide) (by decide) (by decide)) hd.sc xs,by have:=tx.wt;have:=hd.wt;rw [OY];omega,by have:=tx.dp;have:=hd.dp;rw [PY];omega,fun hb=>up (by
   obtain ⟨oa,xa,ka⟩:=a;simp only [Tm.op,Tm.kids] at o3 hl;subst o3 hl;exact .lam e g _ d c x (tx.gr hb))⟩
  ·obtain ⟨n,rfl⟩:∃k,n=k+1:=⟨n - 1,by omega⟩;have h0:=h0 n (by omega);have h1:=h1 n (by omega);have h2:=h2 n (by omega);rw [<- we] at h2;have hw:=As (n:=n) (by omega) r.op (m:=3) (by omega) (by omega);have hw7:=As (n:=n) (by omega) r.op (m:=7) (by omega) (by omega);have p0:=AL (n:=n) (by omega) r 0;have hm:=Ed (n:=n) g 1 d (by omega) (by omega);have t4:=CO (n:=n) (by omega) 4 [d,x];rw [c39];clear up hfn hG hO hA hP hg ha0 ha tv tx hd hc hgd xs hpl;generalize r.op % 3=w3 at hw hv;generalize r.op % 7=w7 at hw7 hna;generalize r.pick 0=r0 at p0 h2;obtain ⟨o0,x0,k0⟩:=a0;obtain ⟨o1,x1,k1⟩:=a;simp only [Tm.op,Tm.kids] at o3 hl;subst o3 hl;obtain ⟨o2,x2,k2⟩:=r;obtain ⟨o3,x3,k3⟩:=v;obtain ⟨o4,x4,k4⟩:=x;obtain ⟨o5,x5,k5⟩:=d;obtain ⟨o6,x6,k6⟩:=c;obtain ⟨o8,x8,k8⟩:=r0;simp only [Tm.n,Tm.op] at h1 hw hw7;simp only [A6,Am,AB5,AB4] at h0 h1 h2 p0 hm t4 ⊢;cases is<;>by_cases hd0:(0:Int)<(e:Int) - 5<;>(simp (maxSteps:=1000000) only [↓Kr,↓XX,XY,↓reduceIte,Nat.reduceBEq,Nat.reduceAdd,Int.reduceEq,Int.reduceLT,Int.reduceLE,↓Aw h0,↓AC h1,↓Ag hw,↓Ag hw7,hv,hd4,hd0,hna,↓Cs,↓CA,↓Ag p0,↓AJ hm,↓AC h2,↓CT,↓Ag t4];first | exact An _ _ | exact Ax rfl (by simp) _)
 by_cases o6:a.op=6
 ·obtain ⟨d,c,hl⟩:=AdA (He ha (show ar a.op=some 2 by rw [o6];decide))
  have hd:NOk g.length d/\NOk (g.length+1) c:=by
   obtain ⟨o1,x1,k1⟩:=a;simp only [Tm.op,Tm.kids] at o6 hl;subst o6 hl;have hsc:=ha.sc;rw [Tm.sc] at hsc;rw [OY] at aw;rw [PY] at ad;exact ⟨⟨hsc.2.2.1,by omega,by omega⟩,⟨hsc.2.2.2.1,by omega,by omega⟩⟩
  obtain ⟨hd,hc⟩:=hd;obtain ⟨x,p,⟨N2,h2⟩,tx⟩:=hG g d (r.pick 0) (AT (by omega) hg) (Bv hd);cases p
  ·refine ⟨v,is,⟨N0+N1+N2+100,fun n hn=>?_⟩,tv⟩;obtain ⟨n,rfl⟩:∃k,n=k+1:=⟨n - 1,by omega⟩;have h0:=h0 n (by omega);have h1:=h1 n (by omega);have h2:=h2 n (by omega);rw [<- we] at h2;have hw:=As (n:=n) (by omega) r.op (m:=3) (by omega) (by omega);have hw7:=As (n:=n) (by omega) r.op (m:=7) (by omega) (by omega);have p0:=AL (n:=n) (by omega) r 0;rw [c39];clear up hfn hG hO hA hP hg ha0 ha tv tx hd hc hpl;generalize r.op % 3=w3 at hw hv;generalize r.op % 7=w7 at hw7 hna;generalize r.pick 0=r0 at p0 h2;obtain ⟨o0,x0,k0⟩:=a0;obtain ⟨o1,x1,k1⟩:=a;simp only [Tm.op,Tm.kids] at o6 hl;subst o6 hl;obtain ⟨o2,x2,k2⟩:=r;obtain ⟨o3,x3,k3⟩:=v;obtain ⟨o4,x4,k4⟩:=x;obtain ⟨o5,x5,k5⟩:=d;obtain ⟨o6,x6,k6⟩:=c;obtain ⟨o8,x8,k8⟩:=r0;simp only [Tm.n,Tm.op] at h1 hw hw7;simp only [A6,Am,AB5,AB4] at h0 h1 h2 p0 ⊢;cases is<;>by_cases hd0:(0:Int)<(e:Int) - 5<;>(simp (maxSteps:=1000000) only [↓Kr,↓XX,XY,↓reduceIte,Nat.reduceBEq,Nat.reduceAdd,Int.reduceEq,Int.reduceLT,Int.reduceLE,↓Aw h0,↓AC h1,↓Ag hw,↓Ag hw7,hv,hd4,hd0,hna,↓Cs,↓CA,↓Ag p0,↓AC h2];first | exact An _ _ | exact Ax rfl (by simp) _)
  ·have hss:AOk g.length (c.subst 0 0 x):=by
    have xw:=tx.wt;have xd:=tx.dp;have cw:=hc.wt;have cd:=hc.dp;have h1:=Od c x 0 0;have h2:=VF c x 0 0;have h3:c.wt * x.wt<=3000 * 21000000000:=Nat.mul_le_mul cw (by omega);exact ⟨O3 c x 0 g.length hc.sc tx.sc (by omega),by omega,by omega⟩
   obtain ⟨y,q,⟨N3,h3⟩,ty⟩:=hG g (c.subst 0 0 x) (r.pick 1) (AT (by omega) hg) hss;refine ⟨.mk 7 0 [a,x,y],q,⟨N0+N1+N2+N3+1000000000000,fun n hn=>?_⟩,WE (by decide) (by decide) (BB (by decide) (by decide) (by decide)) ha.sc tx.sc ty.sc,by have:=tx.wt;have:=ty.wt;rw [wt3];omega,by have:=tx.dp;have:=ty.dp;rw [dp3];omega,fun hb=>up (by
   obtain ⟨oa,xa,ka⟩:=a;simp only [Tm.op,Tm.kids] at o6 hl;subst o6 hl;exact .pair e g _ d c x y (AjG tx (by omega)) (tx.gr rfl) (ty.gr hb))⟩
   obtain ⟨n,rfl⟩:∃k,n=k+1:=⟨n - 1,by omega⟩;have h0:=h0 n (by omega);have h1:=h1 n (by omega);have h2:=h2 n (by omega);have h3:=h3 n (by omega);rw [<- we] at h2 h3;have hw:=As (n:=n) (by omega) r.op (m:=3) (by omega) (by omega);have hw7:=As (n:=n) (by omega) r.op (m:=7) (by omega) (by omega);have p0:=AL (n:=n) (by omega) r 0;have p1:=AL (n:=n) (by omega) r 1;have hsb:=OS (n:=n) c x 0 (Fd _ _ tx.sc) (by have:=tx.wt;omega) (by have:=tx.wt;have:=hc.wt;omega) (Fd _ _ hc.sc) (by have:=hc.wt;omega) (by omega) (by have:=hc.wt;omega);have t7:=CO (n:=n) (by omega) 7 [a,x,y];rw [c39];clear up hfn hG hO hA hP hg ha0 ha tv tx ty hd hc hpl hss;generalize r.op % 3=w3 at hw hv;generalize r.op % 7=w7 at hw7 hna;generalize c.subst 0 0 x=sb at hsb h3;generalize r.pick 0=r0 at p0 h2;generalize r.pick 1=r1 at p1 h3;obtain ⟨o0,x0,k0⟩:=a0;obtain ⟨o1,x1,k1⟩:=a;simp only [Tm.op,Tm.kids] at o6 hl;subst o6 hl;obtain ⟨o2,x2,k2⟩:=r;obtain ⟨o3,x3,k3⟩:=v;obtain ⟨o4,x4,k4⟩:=x;obtain ⟨o5,x5,k5⟩:=d;obtain ⟨o6,x6,k6⟩:=c;obtain ⟨o7,x7,k7⟩:=y;obtain ⟨o8,x8,k8⟩:=r0;obtain ⟨o9,x9,k9⟩:=r1;obtain ⟨oa,xa,ka⟩:=sb;simp only [Tm.n,Tm.op] at h1 hw hw7;simp only [A6,Am,AB5,AB4] at h0 h1 h2 h3 p0 p1 hsb t7 ⊢;cases is<;>by_cases hd0:(0:Int)<(e:Int) - 5<;>(simp (maxSteps:=1000000) only [↓Kr,↓XX,XY,↓reduceIte,Nat.reduceBEq,Nat.reduceAdd,Int.reduceEq,Int.reduceLT,Int.reduceLE,↓Aw h0,↓AC h1,↓Ag hw,↓Ag hw7,hv,hd4,hd0,hna,↓Cs,↓CA,↓Ag p0,↓Ag p1,↓AC h2,↓AJ hsb,↓AC h3,↓Ls,↓Ag t7];first | exact An _ _ | exact Ax rfl (by simp) _)
 by_cases o18:a.op=18
 ·obtain ⟨d,hl⟩:=AvA (He ha (show ar a.op=some 1 by rw [o18];decide))
  have hd:NOk g.length d:=by
   obtain ⟨o1,x1,k1⟩:=a;simp only [Tm.op,Tm.kids] at o18 hl;subst o18 hl;have hsc:=ha.sc;rw [Tm.sc] at hsc;rw [wt1] at aw;rw [dp1] at ad;exact ⟨hsc.2.2.1,by omega,by omega⟩
  obtain ⟨x,p,⟨N2,h2⟩,tx⟩:=hO g d (r.pick 0) (AT (by omega) hg) (Bv hd);refine ⟨.mk 19 0 [x],p,⟨N0+N1+N2+100,fun n hn=>?_⟩,FO (by decide) (by decide) (BB (by decide) (by decide) (by decide)) tx.sc,by have:=tx.wt;rw [wt1];omega,by have:=tx.dp;rw [dp1];omega,fun hb=>up (by
   obtain ⟨oa,xa,ka⟩:=a;simp only [Tm.op,Tm.kids] at o18 hl;subst o18 hl;exact .quo e g _ d x (tx.gr hb))⟩
  ·obtain ⟨n,rfl⟩:∃k,n=k+1:=⟨n - 1,by omega⟩;have h0:=h0 n (by omega);have h1:=h1 n (by omega);have h2:=h2 n (by omega);rw [<- we] at h2;have hw:=As (n:=n) (by omega) r.op (m:=3) (by omega) (by omega);have hw7:=As (n:=n) (by omega) r.op (m:=7) (by omega) (by omega);have p0:=AL (n:=n) (by omega) r 0;have t19:=CO (n:=n) (by omega) 19 [x];rw [c39];clear up hfn hG hO hA hP hg ha0 ha tv tx hd hpl;generalize r.op % 3=w3 at hw hv;generalize r.op % 7=w7 at hw7 hna;generalize r.pick 0=r0 at p0 h2;obtain ⟨o0,x0,k0⟩:=a0;obtain ⟨o1,x1,k1⟩:=a;simp only [Tm.op,Tm.kids] at o18 hl;subst o18 hl;obtain ⟨o2,x2,k2⟩:=r;obtain ⟨o3,x3,k3⟩:=v;obtain ⟨o4,x4,k4⟩:=x;obtain ⟨o5,x5,k5⟩:=d;obtain ⟨o8,x8,k8⟩:=r0;simp only [Tm.n,Tm.op] at h1 hw hw7;simp only [A6,Am,AB5,AB4] at h0 h1 h2 p0 t19 ⊢;cases is<;>by_cases hd0:(0:Int)<(e:Int) - 5<;>(simp (maxSteps:=1000000) only [↓Kr,↓XX,XY,↓reduceIte,Nat.reduceBEq,Nat.reduceAdd,Int.reduceEq,Int.reduceLT,Int.reduceLE,↓Aw h0,↓AC h1,↓Ag hw,↓Ag hw7,hv,hd4,hd0,hna,↓Cs,↓Ag p0,↓AC h2,↓Em,↓Ag t19];first | exact An _ _ | exact Ax rfl (by simp) _)
 have q1:a.op≠10:=fun h=>hpl (.inl h);have q2:a.op≠14:=fun h=>hpl (.inr (.inl h));have q3:a.op≠2:=fun h=>hpl (.inr (.inr h));refine ⟨v,is,⟨N0+N1+100,fun n hn=>?_⟩,tv⟩
 ·obtain ⟨n,rfl⟩:∃k,n=k+1:=⟨n - 1,by omega⟩;have h0:=h0 n (by omega);have h1:=h1 n (by omega);have hw:=As (n:=n) (by omega) r.op (m:=3) (by omega) (by omega);have hw7:=As (n:=n) (by omega) r.op (m:=7) (by omega) (by omega);rw [c39];clear up hfn hG hO hA hP hg ha0 ha tv hpl;generalize r.op % 3=w3 at hw hv;generalize r.op % 7=w7 at hw7 hna;obtain ⟨o0,x0,k0⟩:=a0;obtain ⟨o1,x1,k1⟩:=a;obtain ⟨o2,x2,k2⟩:=r;obtain ⟨o4,x3,k3⟩:=v;simp only [Tm.n,Tm.op] at h1 hw hw7 o3 o6 o18 q1 q2 q3;simp only [A6,Am] at h0 h1 ⊢;cases is<;>by_cases hd0:(0:Int)<(e:Int) - 5<;>(simp (maxSteps:=1000000) only [↓Kr,↓XX,XY,↓reduceIte,Nat.reduceBEq,Nat.reduceAdd,Int.reduceEq,Int.reduceLT,Int.reduceLE,↓Aw h0,↓AC h1,↓Ag hw,↓Ag hw7,hv,hd4,hd0,hna,o3,o6,o18,q1,q2,q3];first | exact An _ _ | exact Ax rfl (by simp) _)
theorem Ot:∀e,e<=10->My e/\Eo 39 1 e/\Eo 33 2 e:=by
 intro e
 induction e using Nat.strongRecOn with
 | _ e ih =>
  intro he;have hp:1<=e->My (e - 1)/\Eo 39 1 (e - 1)/\Eo 33 2 (e - 1):=fun h=>ih (e - 1) (by omega) (by omega);have hp2:2<=e->My (e - 2)/\Eo 39 1 (e - 2)/\Eo 33 2 (e - 2):=fun h=>ih (e - 2) (by omega) (by omega);have hT:My e:=Aqv he (fun h=>(hp (by omega)).1) (fun h=>(hp (by omega)).2.1);have hT6:6<=e->My 6:=fun h=>by
   by_cases h6:e=6
   ·exact h6 ▸ hT
   ·exact (ih 6 (by omega) (by omega)).1
  have hR:6<=e->Qq 65 3 e:=fun h=>Al0 h he (hT6 h) (hp2 (by omega)).2.1;have hP:1<=e->AjS 66 3 e:=fun h=>Aj6 h he (hp h).2.1 (fun h6=>(hp2 (by omega)).2.1);have hA:6<=e->Qq 59 4 e:=fun h=>Ah0 h he (hp2 (by omega)).2.2 (hp (by omega)).2.1;have hO:Eo 33 2 e:=Ah1 he (fun h=>(hp h).2.2) hA;exact ⟨hT,Am3 he (fun h=>(hp h).2.1) (fun h=>(hp h).2.2) hR hP,hO⟩
def Aky (T1 T2:Ci->Tm->Tm) (B1:Ci->Tm->Bool) (g:Ci) (r:Tm):Ci:=if r.n % 3=0 then (if B1 g r then g++[(0,T1 g r)] else g) else g++[(1,T2 g r)]
def B8 (f:Ci->Tm->Ci) (l:List Tm):Nat->Ci
 | 0=>[]
 | i+1=>match l[i]? with
  | some r=>f (B8 f l i) r
  | none=>B8 f l i
def gV:Ci->IV
 | []=>.nils
 | p::g=>.fv (A6 (p::g))
theorem AqW {g:Ci} (h:g≠[]):gV g=.fv (A6 g):=by
 cases g with
 | nil=>exact absurd rfl h
 | cons p g=>rfl
theorem As9 (g:Ci):gV g=.nils\/∃x,gV g=.fv x:=by
 cases g with
 | nil=>exact .inl rfl
 | cons p g=>exact .inr ⟨_,rfl⟩
theorem Aur (g:Ci) (own:List (Nat×Blk)):AZ (Al [gV g] ⟨own,[]⟩) (A6 g):=by
 cases g with
 | nil=>exact Bb rfl _
 | cons p g=>exact An _ _
theorem Aun (g:Ci):Ba (gV g)=some (A6 g):=by
 cases g with
 | nil=>rfl
 | cons p g=>rfl
theorem XH (l:List Tm) (hll:l.length<=9223372036854775807):∃g,Ev 37 [.fv (.sl (l.map Tm.enc))] (A6 g)/\GOk 10 g/\g.length<=4/\CtxG g/\(l=[]->g=[]):=by
 have hc:∀p:Ci×Tm,∃(t1 t2:Tm) (b1:Bool),GOk 10 p.1->Ev 39 [.fv (A6 p.1),.fv (Tm.mk 14 0 []).enc,.fv p.2.enc,iv 2] (.tuple [Tm.enc t1,.bool b1])/\TG 1 7 p.1 (.mk 14 0 []) t1 b1/\Ev 38 [.fv (A6 p.1),.fv p.2.enc,iv 2] (Tm.enc t2)/\TyOk p.1 7 t2:=by
  rintro ⟨g,r⟩;by_cases hg:GOk 10 g
  ·obtain ⟨hT,hG,_⟩:=Ot 7 (by omega);obtain ⟨t1,b1,h1,h2⟩:=hG g (.mk 14 0 []) r (AT (by omega) hg) ⟨Ce (by decide) (by decide) (BB (by decide) (by decide) (by decide)),by simp [Tm.wt,Tm.wtL],by simp [Tm.dp,Tm.dpL]⟩;obtain ⟨t2,h3,h4⟩:=hT g r (AT (by omega) hg);exact ⟨t1,t2,b1,fun _=>⟨h1,h2,h3,h4⟩⟩
  ·exact ⟨.z,.z,false,fun h=>absurd h hg⟩
 obtain ⟨T1,hc⟩:=Classical.axiomOfChoice hc;obtain ⟨T2,hc⟩:=Classical.axiomOfChoice hc;obtain ⟨B1,hc⟩:=Classical.axiomOfChoice hc;obtain ⟨f,hf⟩:∃f,f=Aky (fun g r=>T1 (g,r)) (fun g r=>T2 (g,r)) (fun g r=>B1 (g,r)):=⟨_,rfl⟩;have hD7:Dg 7=270:=rfl;have hD6:Dg 6=260:=rfl;have hW7:Wg 7=131072000:=rfl;have hW6:Wg 6=32768000:=rfl;have hstep:∀i,i<=4->GOk 10 (B8 f l i)/\(B8 f l i).length<=i/\CtxG (B8 f l i):=by
  intro i
  induction i with
  | zero=>intro _;exact ⟨⟨by simp [B8],fun i p h=>by simp [B8] at h⟩,by simp [B8],.nil⟩
  | succ i ih =>
   intro h;obtain ⟨h1,h2,hcg⟩:=ih (by omega);rw [B8];cases hr:l[i]? with
   | none=>simp only;exact ⟨h1,by omega,hcg⟩
   | some r =>
    simp only;generalize B8 f l i=g at h1 h2 hcg;obtain ⟨_,h4,_,h6⟩:=hc (g,r) h1;simp only at h4 h6;have h4s:=h4.sc;have h4w:=h4.wt;have h4d:=h4.dp;have h6s:=h6.sc;have h6w:=h6.wt;have h6d:=h6.dp;rw [show 7 - 1=6 from rfl] at h6w h6d
    have big:∀(s:Int) (t:Tm),t.sc g.length->t.wt<=100000000000->t.dp<=6000->GOk 10 (g++[(s,t)]):=by
     intro s t q1 q2 q3;have h11:GOk 11 g:=⟨by omega,h1.ok⟩;exact Db h11 q1 q2 q3
    rw [hf,Aky];split
    ·split
     ·rename_i hb;exact ⟨big _ _ h4s (by omega) (by omega),by simp;omega,.ob g _ hcg (h4.gr hb)⟩
     ·exact ⟨h1,by omega,hcg⟩
    ·exact ⟨big _ _ h6s (by omega) (by omega),by simp;omega,.me g _ hcg ⟨h6s,by omega,by omega⟩ (by omega) h6.gr⟩
 obtain ⟨m,hm⟩:∃m,m=min l.length 4:=⟨_,rfl⟩;obtain ⟨N,hN⟩:=Al2 (P:=fun i n=>∀r,l[i]?=some r->AZ (SS dt n 39 [.fv (A6 (B8 f l i)),.fv (Tm.mk 14 0 []).enc,.fv r.enc,iv 2] ⟨[],[]⟩) (.tuple [Tm.enc (T1 (B8 f l i,r)),.bool (B1 (B8 f l i,r))])/\AZ (SS dt n 38 [.fv (A6 (B8 f l i)),.fv r.enc,iv 2] ⟨[],[]⟩) (Tm.enc (T2 (B8 f l i,r)))) m (fun i hi=>by
  have hil:i<l.length:=by omega
  obtain ⟨⟨N1,h1⟩,_,⟨N2,h2⟩,_⟩:=hc (B8 f l i,l[i]) (hstep i (by omega)).1;refine ⟨N1+N2,fun n hn r hr=>?_⟩;rw [List.getElem?_eq_getElem hil,ABZ] at hr;subst hr;exact ⟨h1 n (by omega),h2 n (by omega)⟩)
 have hm4:=hstep m (by omega);refine ⟨B8 f l m,⟨N+100,fun n hn=>?_⟩,hm4.1,by omega,hm4.2.2,fun h=>by subst h;rw [hm];rfl⟩;obtain ⟨n,rfl⟩:∃k,n=k+1:=⟨n - 1,by omega⟩;rw [c37];simp only [WP,Wi,WB,Wx,Xw,WC,XJ,XL,Wj,S37,↓XX,XY,↓reduceIte,Nat.reduceBEq,Nat.reduceAdd,Int.reduceEq,Int.reduceLT,Int.reduceLE,↓AI,XD,heldB,AR,XE];refine Bc (Q:=fun r=>AZ r _) (fun k V H=>∃i:Nat,i+k=m/\V=[.fv (.sl (l.map Tm.enc)),gV (B8 f l i),iv i]/\H=⟨[],[]⟩)
  ?_ n m _ _ (by omega) ⟨0,by omega,rfl,rfl⟩
 rintro k V H rec ⟨i,hik,rfl,rfl⟩ hrec;have hi4:=hstep i (by omega);cases k with
 | zero =>
  have him:i=m:=by omega
  subst him;have ha:=fun own=>Aur (B8 f l i) own;generalize gV (B8 f l i)=gv at ha;by_cases h1:(i:Int)<l.length
  ·have h4:¬ ((i:Int)<4):=by omega
   simp only [↓UK,↓XX,XY,↓reduceIte,Nat.reduceBEq,Nat.reduceAdd,Int.reduceEq,Int.reduceLT,Int.reduceLE,h1,h4];exact ha _
  ·simp only [↓UK,↓XX,XY,↓reduceIte,Nat.reduceBEq,Nat.reduceAdd,Int.reduceEq,Int.reduceLT,Int.reduceLE,h1];exact ha _
 | succ k =>
  have hil:i<l.length:=by omega
  have h1:(i:Int)<l.length:=by omega
  have h4:(i:Int)<4:=by omega
  have wi:BK ((i:Int)+1)=(i:Int)+1:=by rw [Av]<;>omega
  obtain ⟨r,hr⟩:∃r,l[i]?=some r:=⟨_,List.getElem?_eq_getElem hil⟩;obtain ⟨g1,g2⟩:=hN i (by omega) n (by omega) r hr;have hw:=As (n:=n) (by omega) r.n (m:=3) (by omega) (by omega);have t14:=BE (n:=n) (by omega) 14;have h9:=hrec k [.fv (.sl (l.map Tm.enc)),gV (B8 f l (i+1)),iv (i+1:Nat)] ⟨[],[]⟩ (by omega) ⟨i+1,by omega,rfl,rfl⟩;have hi1:((i+1:Nat):Int)=(i:Int)+1:=by omega
  rw [hi1,B8,hr] at h9;simp only [hf,Aky] at h9;rw [<- hf] at h9;have hfz:=Aun (B8 f l i);have htw:=As9 (B8 f l i);have m1:=Ed (n:=n) (B8 f l i) 0 (T1 (B8 f l i,r)) (by omega) (by omega);have m2:=Ed (n:=n) (B8 f l i) 1 (T2 (B8 f l i,r)) (by omega) (by omega);have n1:=AqW (g:=B8 f l i++[((0:Int),T1 (B8 f l i,r))]) (by simp);have n2:=AqW (g:=B8 f l i++[((1:Int),T2 (B8 f l i,r))]) (by simp);generalize A6 (B8 f l i++[((0:Int),T1 (B8 f l i,r))])=e1 at m1 n1;generalize A6 (B8 f l i++[((1:Int),T2 (B8 f l i,r))])=e2 at m2 n2;clear hc hstep hN hi4 hm4;by_cases c0:r.n % 3=0
  ·rw [if_pos c0] at h9;rw [c0] at hw;cases hb:B1 (B8 f l i,r)
   ·rw [hb] at g1 h9;simp only [Bool.false_eq_true,if_false] at h9;generalize T1 (B8 f l i,r)=t1 at g1;generalize gV (B8 f l i)=gv at hfz h9 htw;generalize A6 (B8 f l i)=ge at hfz g1;obtain ⟨o,p,ks⟩:=r;obtain ⟨o1,p1,k1⟩:=t1;simp only [Tm.n] at hw;simp only [Am,AB4] at g1 t14;have g1:=AC (a:=gv) (b:=.fv (.agg [.int .i64 14,.int .i64 0,.sl []])) (c:=.fv (.agg [.int .i64 o,.int .i64 p,.sl (ks.map Tm.enc)])) (d:=iv 2) g1 hfz rfl rfl rfl;rcases htw with rfl | ⟨x0,rfl⟩
    ·simp (maxSteps:=1000000) only [↓UK,↓XX,XY,↓reduceIte,Nat.reduceBEq,Nat.reduceAdd,Int.reduceEq,Int.reduceLT,Int.reduceLE,h1,h4,wi,↓Bt (AM hr) (Bg _ _ _),↓Cd,↓Ag hw,↓Ag t14,↓g1,↓AI,XD,heldB,AR,XE];exact h9
    ·simp (maxSteps:=1000000) only [↓UK,↓XX,XY,↓reduceIte,Nat.reduceBEq,Nat.reduceAdd,Int.reduceEq,Int.reduceLT,Int.reduceLE,h1,h4,wi,↓Bt (AM hr) (Bg _ _ _),↓Cd,↓Ag hw,↓Ag t14,↓g1,↓AI,XD,heldB,AR,XE];exact h9
   ·rw [hb] at g1 h9;simp only [if_true] at h9;rw [n1] at h9;generalize T1 (B8 f l i,r)=t1 at g1 m1;generalize gV (B8 f l i)=gv at hfz htw;generalize A6 (B8 f l i)=ge at hfz g1 m1;obtain ⟨o,p,ks⟩:=r;obtain ⟨o1,p1,k1⟩:=t1;simp only [Tm.n] at hw;simp only [Am,AB4] at g1 t14 m1;have g1:=AC (a:=gv) (b:=.fv (.agg [.int .i64 14,.int .i64 0,.sl []])) (c:=.fv (.agg [.int .i64 o,.int .i64 p,.sl (ks.map Tm.enc)])) (d:=iv 2) g1 hfz rfl rfl rfl;have m1:=AJ (a:=gv) (b:=iv 0) (c:=.fv (.agg [.int .i64 o1,.int .i64 p1,.sl (k1.map Tm.enc)])) m1 hfz rfl rfl;rcases htw with rfl | ⟨x0,rfl⟩
    ·simp (maxSteps:=1000000) only [↓UK,↓XX,XY,↓reduceIte,Nat.reduceBEq,Nat.reduceAdd,Int.reduceEq,Int.reduceLT,Int.reduceLE,h1,h4,wi,↓Bt (AM hr) (Bg _ _ _),↓Cd,↓Ag hw,↓Ag t14,↓g1,↓m1,↓AI,XD,heldB,AR,XE];exact h9
    ·simp (maxSteps:=1000000) only [↓UK,↓XX,XY,↓reduceIte,Nat.reduceBEq,Nat.reduceAdd,Int.reduceEq,Int.reduceLT,Int.reduceLE,h1,h4,wi,↓Bt (AM hr) (Bg _ _ _),↓Cd,↓Ag hw,↓Ag t14,↓g1,↓m1,↓AI,XD,heldB,AR,XE];exact h9
  ·rw [if_neg c0,n2] at h9;generalize T2 (B8 f l i,r)=t2 at g2 m2;generalize gV (B8 f l i)=gv at hfz htw;generalize A6 (B8 f l i)=ge at hfz g2 m2;obtain ⟨o,p,ks⟩:=r;obtain ⟨o1,p1,k1⟩:=t2;simp only [Tm.n] at hw c0;generalize p % 3=w3 at hw c0;simp only [Am,AB4] at g2 m2;have g2:=AJ (a:=gv) (b:=.fv (.agg [.int .i64 o,.int .i64 p,.sl (ks.map Tm.enc)])) (c:=iv 2) g2 hfz rfl rfl;have m2:=AJ (a:=gv) (b:=iv 1) (c:=.fv (.agg [.int .i64 o1,.int .i64 p1,.sl (k1.map Tm.enc)])) m2 hfz rfl rfl;rcases htw with rfl | ⟨x0,rfl⟩
   ·simp (maxSteps:=1000000) only [↓UK,↓XX,XY,↓reduceIte,Nat.reduceBEq,Nat.reduceAdd,Int.reduceEq,Int.reduceLT,Int.reduceLE,h1,h4,wi,c0,↓Bt (AM hr) (Bg _ _ _),↓Cd,↓Ag hw,↓g2,↓m2,↓AI,XD,heldB,AR,XE];exact h9
   ·simp (maxSteps:=1000000) only [↓UK,↓XX,XY,↓reduceIte,Nat.reduceBEq,Nat.reduceAdd,Int.reduceEq,Int.reduceLT,Int.reduceLE,h1,h4,wi,c0,↓Bt (AM hr) (Bg _ _ _),↓Cd,↓Ag hw,↓g2,↓m2,↓AI,XD,heldB,AR,XE];exact h9
structure CaseOk (g:Ci) (a t:Tm) (is object:Bool):Prop where
 gok:GOk 10 g
 len:g.length<=4
 asc:a.sc g.length
 awt:a.wt<=32768010
 adp:a.dp<=300
 tsc:t.sc g.length
 tdp:t.dp<=300
 chk:is=true->(t.chk 0 1).2=0
 cg:CtxG g
 ga:object=false->Gr 0 7 g .z a
 gt:is=true->Gr (if object then 2 else 1) 10 g a t
theorem Aps (l:List Tm) (hll:l.length<=9223372036854775807) (r q:Tm) (object:Bool):∃g a t is,Ev 13 [.fv (.sl (l.map Tm.enc)),.fv r.enc,.fv q.enc,.fv (.bool object)] (.tuple [A6 g,a.enc,t.enc,.bool is])/\CaseOk g a t is object/\(object=true->a=q.plainT 2)/\(l=[]->g=[]):=by
 obtain ⟨g,⟨N0,h0⟩,hg,hg4,hcg,hnil⟩:=XH l hll;have hW6:Wg 6=32768000:=rfl;have hD6:Dg 6=260:=rfl;have hW10:Wg 10=8388608000:=rfl;have hD10:Dg 10=300:=rfl;obtain ⟨_,hG,hO⟩:=Ot 10 (by omega);cases object
 ·obtain ⟨hT,_,_⟩:=Ot 7 (by omega);obtain ⟨a,⟨N1,h1⟩,ta⟩:=hT g q (AT (by omega) hg);have aw:=ta.wt;have ad:=ta.dp;have asc:=ta.sc;rw [show 7 - 1=6 from rfl] at aw ad
  obtain ⟨t,b,⟨N2,h2⟩,tt⟩:=hG g a r hg ⟨asc,by omega,by omega⟩;have tw:=tt.wt;have ts:=tt.sc;have body:∀(t':Tm) (is:Bool),(is=true/\t'=t/\b=true/\(t.chk 0 1).2=0\/is=false/\t'=A9/\(b=false\/b=true/\(t.chk 0 1).2≠0))->Ev 13 [.fv (.sl (l.map Tm.enc)),.fv r.enc,.fv q.enc,.fv (.bool false)] (.tuple [A6 g,a.enc,t'.enc,.bool is]):=by
   intro t' is hd;refine ⟨N0+N1+N2+100000000000+1,fun n hn=>?_⟩;obtain ⟨n,rfl⟩:∃k,n=k+1:=⟨n - 1,by omega⟩;have h0:=h0 n (by omega);have h1:=h1 n (by omega);have h2:=h2 n (by omega);have hk:=Pf (n:=n) t (by omega);have t11:=BE (n:=n) (by omega) 11;rw [c13];clear ta tt;generalize (t.chk 0 1).2=ck at hk hd;rw [show ((10:Nat):Int) - 5=5 from rfl] at h2
   rw [show ((7:Nat):Int) - 5=2 from rfl] at h1
   generalize A6 g=ge at *;generalize (FV.sl (l.map Tm.enc))=le at *;rcases hd with ⟨rfl,rfl,rfl,rfl⟩ | ⟨rfl,rfl,hd⟩
   ·obtain ⟨o1,p1,k1⟩:=r;obtain ⟨o2,p2,k2⟩:=q;obtain ⟨o3,p3,k3⟩:=a;obtain ⟨o4,p4,k4⟩:=t';simp only [Am] at h1 h2 hk ⊢;simp (maxSteps:=1000000) only [↓Ahy,↓XX,XY,↓reduceIte,Nat.reduceBEq,Nat.reduceAdd,Int.reduceEq,Int.reduceLT,Int.reduceLE,↓Aw h0,↓AJ h1,↓AC h2,↓Aw hk];first | exact An _ _ | exact Ax rfl (by simp) _
   ·rw [A9];rcases hd with rfl | ⟨rfl,hd⟩
    ·obtain ⟨o1,p1,k1⟩:=r;obtain ⟨o2,p2,k2⟩:=q;obtain ⟨o3,p3,k3⟩:=a;obtain ⟨o4,p4,k4⟩:=t;simp only [Am,AB4] at h1 h2 hk t11 ⊢;simp (maxSteps:=1000000) only [↓Ahy,↓XX,XY,↓reduceIte,Nat.reduceBEq,Nat.reduceAdd,Int.reduceEq,Int.reduceLT,Int.reduceLE,↓Aw h0,↓AJ h1,↓AC h2,↓Aw hk,↓Ag t11];first | exact An _ _ | exact Ax rfl (by simp) _
    ·obtain ⟨o1,p1,k1⟩:=r;obtain ⟨o2,p2,k2⟩:=q;obtain ⟨o3,p3,k3⟩:=a;obtain ⟨o4,p4,k4⟩:=t;simp only [Am,AB4] at h1 h2 hk t11 ⊢;simp (maxSteps:=1000000) only [↓Ahy,↓XX,XY,↓reduceIte,Nat.reduceBEq,Nat.reduceAdd,Int.reduceEq,Int.reduceLT,Int.reduceLE,hd,↓Aw h0,↓AJ h1,↓AC h2,↓Aw hk,↓Ag t11];first | exact An _ _ | exact Ax rfl (by simp) _
  by_cases hb:b=true
  ·by_cases hc:(t.chk 0 1).2=0
   ·exact ⟨g,a,t,true,body t true (.inl ⟨rfl,rfl,hb,hc⟩),⟨hg,hg4,asc,by omega,by omega,ts,by have:=tt.dp;omega,fun _=>hc,hcg,fun _=>ta.gr,fun _=>tt.gr hb⟩,(fun h=>by cases h),hnil⟩
   ·exact ⟨g,a,A9,false,body A9 false (.inr ⟨rfl,rfl,.inr ⟨hb,hc⟩⟩),⟨hg,hg4,asc,by omega,by omega,KV _,by decide,(fun h=>by cases h),hcg,fun _=>ta.gr,fun h=>by cases h⟩,(fun h=>by cases h),hnil⟩
  ·exact ⟨g,a,A9,false,body A9 false (.inr ⟨rfl,rfl,.inl (by simpa using hb)⟩),⟨hg,hg4,asc,by omega,by omega,KV _,by decide,(fun h=>by cases h),hcg,fun _=>ta.gr,fun h=>by cases h⟩,(fun h=>by cases h),hnil⟩
 ·obtain ⟨a,ha⟩:∃a,a=q.plainT 2:=⟨_,rfl⟩;have asc:a.sc g.length:=ha ▸ FH _ 2 q;have aw:a.wt<=20:=by have:=EC 2 q;rw [<- ha] at this;simpa using Nat.le_trans this (by decide)
  have ad:a.dp<=300:=Nat.le_trans (P3 a) (by omega);obtain ⟨t,b,⟨N2,h2⟩,tt⟩:=hO g a r hg ⟨asc,by omega,by omega⟩;have tw:=tt.wt;have ts:=tt.sc;have body:∀(t':Tm) (is:Bool),(is=true/\t'=t/\b=true/\(t.chk 0 1).2=0\/is=false/\t'=.mk 25 0 []/\(b=false\/b=true/\(t.chk 0 1).2≠0))->Ev 13 [.fv (.sl (l.map Tm.enc)),.fv r.enc,.fv q.enc,.fv (.bool true)] (.tuple [A6 g,a.enc,t'.enc,.bool is]):=by
   intro t' is hd;refine ⟨N0+N2+100000000000+1,fun n hn=>?_⟩;obtain ⟨n,rfl⟩:∃k,n=k+1:=⟨n - 1,by omega⟩;have h0:=h0 n (by omega);have h1:=Mi 2 n q (by omega) (by omega);have h2:=h2 n (by omega);have hk:=Pf (n:=n) t (by omega);have t25:=AkY (n:=n) (by omega) 0;rw [c13];rw [<- ha] at h1;clear tt ha;generalize (t.chk 0 1).2=ck at hk hd;rw [show ((10:Nat):Int) - 5=5 from rfl] at h2
   generalize A6 g=ge at *;generalize (FV.sl (l.map Tm.enc))=le at *;rcases hd with ⟨rfl,rfl,rfl,rfl⟩ | ⟨rfl,rfl,hd⟩
   ·obtain ⟨o1,p1,k1⟩:=r;obtain ⟨o2,p2,k2⟩:=q;obtain ⟨o3,p3,k3⟩:=a;obtain ⟨o4,p4,k4⟩:=t';simp only [Am,Int.cast_ofNat_Int] at h1 h2 hk ⊢;simp (maxSteps:=1000000) only [↓Ahy,↓XX,XY,↓reduceIte,Nat.reduceBEq,Nat.reduceAdd,Int.reduceEq,Int.reduceLT,Int.reduceLE,↓Aw h0,↓Ag h1,↓AC h2,↓Aw hk];first | exact An _ _ | exact Ax rfl (by simp) _
   ·rcases hd with rfl | ⟨rfl,hd⟩
    ·obtain ⟨o1,p1,k1⟩:=r;obtain ⟨o2,p2,k2⟩:=q;obtain ⟨o3,p3,k3⟩:=a;obtain ⟨o4,p4,k4⟩:=t;simp only [Am,AB4,Int.cast_ofNat_Int] at h1 h2 hk t25 ⊢;simp (maxSteps:=1000000) only [↓Ahy,↓XX,XY,↓reduceIte,Nat.reduceBEq,Nat.reduceAdd,Int.reduceEq,Int.reduceLT,Int.reduceLE,↓Aw h0,↓Ag h1,↓AC h2,↓Aw hk,↓Aw t25];first | exact An _ _ | exact Ax rfl (by simp) _
    ·obtain ⟨o1,p1,k1⟩:=r;obtain ⟨o2,p2,k2⟩:=q;obtain ⟨o3,p3,k3⟩:=a;obtain ⟨o4,p4,k4⟩:=t;simp only [Am,AB4,Int.cast_ofNat_Int] at h1 h2 hk t25 ⊢;simp (maxSteps:=1000000) only [↓Ahy,↓XX,XY,↓reduceIte,Nat.reduceBEq,Nat.reduceAdd,Int.reduceEq,Int.reduceLT,Int.reduceLE,hd,↓Aw h0,↓Ag h1,↓AC h2,↓Aw hk,↓Aw t25];first | exact An _ _ | exact Ax rfl (by simp) _
  have is25:∀k,(Tm.mk 25 0 []).sc k:=fun k=>Ce (by decide) (by decide) (by rw [BJ];simp);by_cases hb:b=true
  ·by_cases hc:(t.chk 0 1).2=0
   ·exact ⟨g,a,t,true,body t true (.inl ⟨rfl,rfl,hb,hc⟩),⟨hg,hg4,asc,by omega,by omega,ts,by have:=tt.dp;omega,fun _=>hc,hcg,(fun h=>by cases h),fun _=>tt.gr hb⟩,(fun _=>ha),hnil⟩
   ·exact ⟨g,a,_,false,body _ false (.inr ⟨rfl,rfl,.inr ⟨hb,hc⟩⟩),⟨hg,hg4,asc,by omega,by omega,is25 _,by decide,(fun h=>by cases h),hcg,(fun h=>by cases h),fun h=>by cases h⟩,(fun _=>ha),hnil⟩
  ·exact ⟨g,a,_,false,body _ false (.inr ⟨rfl,rfl,.inl (by simpa using hb)⟩),⟨hg,hg4,asc,by omega,by omega,is25 _,by decide,(fun h=>by cases h),hcg,(fun h=>by cases h),fun h=>by cases h⟩,(fun _=>ha),hnil⟩
def P0 (p:Tm):Prop:=p=.mk 15 0 []\/∃op:Int,(op=16\/op=17)/\p=.mk op 0 [.mk 15 0 [],.mk 15 0 []]
theorem AiB (r:Tm):P0 (r.plainT 1):=by
 have h1:=Int.emod_nonneg r.n (show (4:Int)≠0 by decide)
 have h2:=Int.emod_lt_of_pos r.n (show (0:Int)<4 by decide)
 rw [Tm.plainT];split
 ·exact .inl rfl
 ·exact .inr ⟨_,by omega,rfl⟩
def F0 (t:Tm):Prop:=t=.mk 10 0 []\/t=.mk 14 0 []\/t=.mk 2 0 []\/∃p,P0 p/\t=.mk 18 0 [p]
theorem Au2 (k:Nat):(Tm.mk 15 0 []).sc k:=Ce (by decide) (by decide) (BB (by decide) (by decide) (by decide))
theorem Awt {p:Tm} (h:P0 p) (k:Nat):p.sc k:=by
 rcases h with rfl | ⟨op,ho,rfl⟩
 ·exact Au2 k
 ·rcases ho with rfl | rfl<;>exact Cr (by decide) (by decide) (BB (by decide) (by decide) (by decide)) (Au2 _) (Au2 _)
def F1 (t:Tm):Prop:=F0 t\/(∃(op:Int) (d c:Tm),(op=3\/op=6)/\F0 d/\F0 c/\t=.mk op 0 [d,c])\/∃p:Tm,(p=.mk 15 0 []\/∃i:Nat,p=.mk 1 i [])/\t=.mk 18 0 [p]
theorem ApM {op:Int} {r:Nat} (h:ar op=some r):¬ (0<=HH op/\HH op≠(r:Int)):=by
 unfold HH;by_cases h1:op=8\/op=9\/op=12\/op=19\/op=30
 ·rw [if_pos h1];rcases h1 with rfl | rfl | rfl | rfl | rfl<;>(cases (show r=1 from by have:=h;revert this;simp [ar];omega);decide)
 ·rw [if_neg h1];by_cases h2:op=4\/op=5
  ·rw [if_pos h2];rcases h2 with rfl | rfl<;>(cases (show r=2 from by have:=h;revert this;simp [ar];omega);decide)
  ·rw [if_neg h2];by_cases h7:op=7
   ·subst h7;cases (show r=3 from by have:=h;revert this;simp [ar];omega);decide
   ·rw [if_neg h7];by_cases h13:op=13
    ·subst h13;cases (show r=4 from by have:=h;revert this;simp [ar];omega);decide
    ·rw [if_neg h13];omega
mutual
theorem QG:∀(t:Tm) (k:Nat),t.sc k->t.shaped=true
 | .mk op n ks,k,h=>by
  rw [Tm.sc] at h;rw [Tm.shaped,scL_shaped op 0 ks k h.2.2];have h1:=ApM h.1;have h2:¬ (op=1/\n<0):=by
   rintro ⟨rfl,h3⟩
   have:=h.2.1
   rw [if_pos rfl] at this;omega
  rw [decide_eq_false h1,decide_eq_false h2];rfl
theorem scL_shaped:∀(op:Int) (i:Nat) (l:List Tm) (k:Nat),Tm.scL op i l k->Tm.shapedL l=true
 | _,_,[],_,_=>by rw [Tm.shapedL]
 | op,i,t::l,k,h=>by
  rw [Tm.scL] at h;rw [Tm.shapedL,QG t _ h.1,scL_shaped op (i+1) l k h.2];rfl
end
mutual
def Tm.surf:Tm->Nat
 | .mk op _ ks=>1+Tm.surfL op 0 ks
def Tm.surfL:Int->Nat->List Tm->Nat
 | _,_,[]=>0
 | op,i,t::l=>(if 0<Af op i then 0 else t.surf)+Tm.surfL op (i+1) l
end
mutual
def Tm.inn:Tm->Nat
 | .mk op _ ks=>Tm.innL op 0 ks
def Tm.innL:Int->Nat->List Tm->Nat
 | _,_,[]=>0
 | op,i,t::l=>(if 0<Af op i then t.wt else t.inn)+Tm.innL op (i+1) l
end
mutual
theorem Ow:∀t:Tm,t.surf+t.inn=t.wt
 | .mk op n ks=>by
  have:=surfL_innL op 0 ks
  simp only [Tm.surf,Tm.inn,Tm.wt];omega
theorem surfL_innL:∀(op:Int) (i:Nat) (l:List Tm),Tm.surfL op i l+Tm.innL op i l=Tm.wtL l
 | _,_,[]=>rfl
 | op,i,t::l=>by
  have h1:=Ow t;have h2:=surfL_innL op (i+1) l;simp only [Tm.surfL,Tm.innL,Tm.wtL];split<;>omega
end
mutual
def RV.vsz:RV->Nat
 | .mk op _ k _ _=>1+RV.vszL op 0 k
def RV.vszL:Int->Nat->List RV->Nat
 | _,_,[]=>0
 | op,i,v::l=>(if 0<Af op i then 0 else v.vsz)+RV.vszL op (i+1) l
end
theorem Acg (v:RV):1<=v.vsz:=by obtain ⟨op,n,k,env,b⟩:=v;rw [RV.vsz];omega
inductive Rel (B:Nat):PV->RV->Prop
 | var (n:Int):Rel B (.var n) (.var n)
 | node (op n n':Int) (kp:List PV) (kr:List RV) (ts:List Tm) (e:List PV) (env:List RV) (h1:op≠1) (har:ar op=some ts.length) (hl:kp.length=ts.length) (hl2:kr.length=ts.length)
   (hk:∀i p r,Af op i=0->kp[i]?=some p->kr[i]?=some r->Rel B p r)
   (hb:∀i b,0<Af op i->ts[i]?=some b->(b.good/\b.wt<=B)/\kp[i]?=some .nil/\kr[i]?=some (.clo env b))
   (hel:e.length=env.length) (he:∀(i:Nat) p r,e[i]?=some p->env.reverse[i]?=some r->Rel B p r):Rel B (.mk op n kp (.mk op n' ts) e) (.node op n kr)
def GZ (B:Nat) (e:List PV) (env:List RV):Prop:=e.length=env.length/\∀(i:Nat) p r,e[i]?=some p->env.reverse[i]?=some r->Rel B p r
theorem Ps {B:Nat} {p:PV} {r:RV} (h:Rel B p r):∃op n k t e,p=.mk op n k t e/\r.op=op/\r.n=n:=by
 cases h with
 | var n=>exact ⟨_,_,_,_,_,rfl,rfl,rfl⟩
 | node=>exact ⟨_,_,_,_,_,rfl,rfl,rfl⟩
theorem WM (B:Nat):GZ B [] []:=⟨rfl,fun i p r h=>by simp at h⟩
theorem Xy {B:Nat} {e l:List PV} {env l':List RV} (h:GZ B e env) (hl:l.length=l'.length) (hr:∀(i:Nat) p r,l[i]?=some p->l'[i]?=some r->Rel B p r):GZ B (l.reverse++e) (env++l'):=by
 refine ⟨by simp [h.1,hl,Nat.add_comm],?_⟩;intro i p r hp hr';rw [List.reverse_append] at hr';by_cases hi:i<l.length
 ·rw [List.getElem?_append_left (by simpa using hi),List.getElem?_reverse hi] at hp;rw [List.getElem?_append_left (by simp;omega),List.getElem?_reverse (by omega)] at hr';exact hr _ _ _ hp (by rw [hl];exact hr')
 ·rw [List.getElem?_append_right (by simp;omega),List.length_reverse] at hp;rw [List.getElem?_append_right (by simp;omega),List.length_reverse,<- hl] at hr';exact h.2 _ _ _ hp hr'
theorem AnA {B:Nat} {e:List PV} {env:List RV} (h:GZ B e env) {m:Int} (h0:0<=m) (hm:m<env.length) {r:RV} (hr:env[(env.length - 1 - m).toNat]?=some r):Rel B (Gp e m) r:=by
 rw [Gp,if_pos (by rw [h.1];exact hm)];have hi:m.toNat<e.length:=by rw [h.1];omega
 rw [List.getD_eq_getElem?_getD,List.getElem?_eq_getElem hi];refine h.2 m.toNat _ _ (List.getElem?_eq_getElem hi) ?_;rw [List.getElem?_reverse (by omega),show env.length - 1 - m.toNat=(env.length - 1 - m).toNat by omega]
 exact hr
def sl (t:Tm) (v:RV):Nat:=if t.op=19/\v.op=19 then 1 else if t.op=30/\v.op=30 then 0 else if t.badR=true then 2 else 3
theorem Wn (t:Tm) (v:RV):sl t v<=3:=by unfold sl;split;omega;split;omega;split<;>omega
structure Cost (t:Tm) (v:RV) (k c u:Nat):Prop where
 le:c<=t.surf+k * t.inn
 p:5 * u<=3 * c+10 * k
 q:5 * u+sl t v<=3 * c+10 * k
 v:k=0->t.surf<=v.vsz
structure MOk (m:M3) (k T:Nat):Prop where
 e:m.e=0
 w:(T:Int)<=m.w
 w2:m.w<=5000000
 s:(k:Int)<=m.s
 s2:m.s<=100000
def G7 (m:M3) (k T:Nat):M3:=⟨m.s - k,m.w - T,0⟩
theorem Fq (m:M3) (k1 T1 k2 T2:Nat):G7 (G7 m k1 T1) k2 T2=G7 m (k1+k2) (T1+T2):=by
 simp only [G7,M3.mk.injEq,and_true];omega
theorem OW {m:M3} {k1 T1 k2 T2:Nat} (h:MOk m (k1+k2) (T1+T2)):MOk m k1 T1:=⟨h.e,by have:=h.w;omega,h.w2,by have:=h.s;omega,h.s2⟩
theorem JK {m:M3} {k1 T1 k2 T2:Nat} (h:MOk m (k1+k2) (T1+T2)):MOk (G7 m k1 T1) k2 T2:=⟨rfl,by have:=h.w;simp only [G7];omega,by have:=h.w2;simp only [G7];omega,by have:=h.s;simp only [G7];omega,by have:=h.s2;simp only [G7];omega⟩
theorem O4 {m:M3} {k T:Nat} (h:MOk m k (1+T)):HY m=some (G7 m 0 1):=by
 have h1:=h.w;have h2:=h.w2;have h3:=h.e;rw [HY,if_neg (by omega),if_neg (by omega),h3];simp only [G7,ABZ,M3.mk.injEq,and_true];omega
def Akg (B:Nat) (e:List PV) (t:Tm) (v:RV) (k T:Nat):Prop:=∃v',Rel B v' v/\∃F,∀f,F<=f->∀m,MOk m k T->RU f e t m=some (v',G7 m k T)
def AdC (B f:Nat):Prop:=∀(s:Int) (t:Tm) (env:List RV) (v:RV) (s':Int),AA f s 0 t env=some (v,s',0)->t.good->t.wt<=B->∀e,GZ B e env->∃k c u T:Nat,s'=s+k/\Cost t v k c u/\T<=c+u+2 * k/\Akg B e t v k T
def Hx (op:Int):Nat->List Tm->List RV->Nat
 | _,[],_=>0
 | _,_::_,[]=>0
 | i,t::l,v::vs=>(if 0<Af op i then 0 else sl t v)+Hx op (i+1) l vs
theorem AgQ (k1 k2 a b:Nat):k1 * a+k2 * b<=(k1+k2) * (a+b):=by
 rw [Nat.add_mul,Nat.mul_add,Nat.mul_add];have h1:0<=k1 * b:=Nat.zero_le _;have h2:0<=k2 * a:=Nat.zero_le _;omega
theorem Oa {B f:Nat} (ih:AdC B f) (op:Int) (env:List RV) (e:List PV) (he:GZ B e env):∀(l:List Tm) (i:Nat) (s:Int) (vs:List RV) (s':Int),AU (fun s e t=>AA f s e t env) op env i l s 0=some (vs,s',0)->Tm.goodL l->Tm.wtL l<=B ->
  ∃k c u T:Nat,s'=s+k/\c<=Tm.surfL op i l+k * Tm.innL op i l/\5 * u+Hx op i l vs<=3 * c+10 * k/\(k=0->Tm.surfL op i l<=RV.vszL op i vs)/\T<=c+u+2 * k/\vs.length=l.length /\
   ∃ps:List PV,ps.length=l.length/\(∀j t,l[j]?=some t->0<Af op (i+j)->ps[j]?=some .nil/\vs[j]?=some (.clo env t))/\(∀j p r,Af op (i+j)=0->ps[j]?=some p->vs[j]?=some r->Rel B p r) /\
    (∀j t r,l[j]?=some t->Af op (i+j)=0->vs[j]?=some r->∃s1 s2,AA f s1 0 t env=some (r,s2,0))/\∃F,∀g,F<=g->∀m,MOk m k T->R2 (fun t m=>RU g e t m) op i l m=some (ps,G7 m k T)
 | [],i,s,vs,s',h,_,_=>by
  simp only [AU,ABZ,AB0] at h;obtain ⟨rfl,rfl,_⟩:=h;refine ⟨0,0,0,0,by omega,by omega,by rw [Hx];omega,fun _=>by rw [Tm.surfL,RV.vszL];omega,by omega,rfl,[],rfl,fun j t h=>by simp at h,fun j p r _ h=>by simp at h,fun j t r h=>by simp at h,0,fun g _ m hm=>?_⟩
  have:G7 m 0 0=m:=by
   obtain ⟨a,b,c⟩:=m
   have:=hm.e
   simp only at this;subst this;simp [G7]
  rw [R2,this]
 | t::l,i,s,vs,s',h,hg,hw=>by
  rw [Tm.goodL] at hg;rw [Tm.wtL] at hw;simp only [AU] at h;by_cases hb:0<Af op i
  ·rw [if_pos hb] at h;cases hk:AU (fun s e t=>AA f s e t env) op env (i+1) l s 0 with
   | none=>rw [hk] at h;cases h
   | some q =>
    obtain ⟨vs1,s1,e1⟩:=q;rw [hk] at h;simp only [AB2,ABZ,AB0] at h;obtain ⟨rfl,rfl,rfl⟩:=h;obtain ⟨k,c,u,T,h1,h2,h3,h4,h5,h6,ps,h7,h8,h9,h10,F,h11⟩:=Oa ih op env e he l (i+1) s vs1 s1 hk hg.2 (by omega);refine ⟨k,c,u,T,h1,?_,?_,?_,h5,by simp [h6],.nil::ps,by simp [h7],?_,?_,?_,F,?_⟩
    ·rw [Tm.surfL,Tm.innL,if_pos hb,if_pos hb]
     have:=AgQ 0 k t.wt (Tm.innL op (i+1) l)
     rw [Nat.zero_mul,Nat.zero_add,Nat.zero_add] at this;omega
    ·rw [Hx,if_pos hb];omega
    ·intro hk0;rw [Tm.surfL,RV.vszL,if_pos hb,if_pos hb]
     have:=h4 hk0
     omega
    ·intro j x hj hbj;cases j with
     | zero =>
      simp only [List.getElem?_cons_zero,ABZ] at hj;subst hj;exact ⟨rfl,rfl⟩
     | succ j =>
      rw [List.getElem?_cons_succ] at hj;rw [List.getElem?_cons_succ,List.getElem?_cons_succ];exact h8 j x hj (by rwa [show i+1+j=i+(j+1) by omega])
    ·intro j p r hbj hp hr;cases j with
     | zero=>rw [Nat.add_zero] at hbj;omega
     | succ j =>
      rw [List.getElem?_cons_succ] at hp hr;exact h9 j p r (by rwa [show i+1+j=i+(j+1) by omega]) hp hr
    ·intro j x r hj hbj hr;cases j with
     | zero=>rw [Nat.add_zero] at hbj;omega
     | succ j =>
      rw [List.getElem?_cons_succ] at hj hr;exact h10 j x r hj (by rwa [show i+1+j=i+(j+1) by omega]) hr
    ·intro g hgF m hm;rw [R2,if_pos hb,h11 g hgF m hm];rfl
  ·rw [if_neg hb] at h;split at h
   ·cases h
   ·rename_i v s1 e1 hev;cases hk:AU (fun s e t=>AA f s e t env) op env (i+1) l s1 e1 with
    | none=>rw [hk] at h;cases h
    | some q =>
     obtain ⟨vs1,s2,e2⟩:=q;rw [hk] at h;simp only [AB2,ABZ,AB0] at h;obtain ⟨rfl,rfl,rfl⟩:=h;have h0:=Ha _ (fun s e t v s' h=>Cu h) op env l _ _ _ _ _ hk;subst h0;obtain ⟨k1,c1,u1,T1,a1,a2,a3,p1,a4,F1,a5⟩:=ih s t env v s1 hev hg.1 (by omega) e he;obtain ⟨k,c,u,T,h1,h2,h3,h4,h5,h6,ps,h7,h8,h9,h10,F,h11⟩:=Oa ih op env e he l (i+1) s1 vs1 s2 hk hg.2 (by omega);have ac:=a2.le;have ap:=a2.p;have aq:=a2.q;refine ⟨k1+k,c1+c,u1+u,T1+T,by omega,?_,?_,?_,by omega,by simp [h6],p1::ps,by simp [h7],?_,?_,?_,F1+F,?_⟩
     ·rw [Tm.surfL,Tm.innL,if_neg hb,if_neg hb]
      have:=AgQ k1 k t.inn (Tm.innL op (i+1) l)
      omega
     ·rw [Hx,if_neg hb];omega
     ·intro hk0;rw [Tm.surfL,RV.vszL,if_neg hb,if_neg hb]
      have:=h4 (by omega)
      have:=a2.v (by omega)
      omega
     ·intro j x hj hbj;cases j with
      | zero=>rw [Nat.add_zero] at hbj;exact absurd hbj hb
      | succ j =>
       rw [List.getElem?_cons_succ] at hj;rw [List.getElem?_cons_succ,List.getElem?_cons_succ];exact h8 j x hj (by rwa [show i+1+j=i+(j+1) by omega])
     ·intro j p r hbj hp hr;cases j with
      | zero =>
       simp only [List.getElem?_cons_zero,ABZ] at hp hr;subst hp hr;exact a4
      | succ j =>
       rw [List.getElem?_cons_succ] at hp hr;exact h9 j p r (by rwa [show i+1+j=i+(j+1) by omega]) hp hr
     ·intro j x r hj hbj hr;cases j with
      | zero =>
       simp only [List.getElem?_cons_zero,ABZ] at hj hr;subst hj hr;exact ⟨_,_,hev⟩
      | succ j =>
       rw [List.getElem?_cons_succ] at hj hr;exact h10 j x r hj (by rwa [show i+1+j=i+(j+1) by omega]) hr
     ·intro g hgF m hm;rw [R2,if_neg hb,a5 g (by omega) m (OW hm)];simp only;rw [h11 g (by omega) _ (JK hm),Fq];rfl
theorem JG {B:Nat} {p:PV} {r:RV} (h:Rel B p r) (h1:r.op≠1):∃n' kp ts e env,p=.mk r.op r.n kp (.mk r.op n' ts) e/\ar r.op=some ts.length/\kp.length=ts.length/\r.k.length=ts.length /\
  (∀i p' r',Af r.op i=0->kp[i]?=some p'->r.k[i]?=some r'->Rel B p' r') /\
  (∀i b,0<Af r.op i->ts[i]?=some b->(b.good/\b.wt<=B)/\kp[i]?=some .nil/\r.k[i]?=some (.clo env b))/\GZ B e env:=by
 cases h with
 | var n=>exact absurd rfl h1
 | node op n n' kp kr ts e env h1 har hl hl2 hk hb hel he=>exact ⟨n',kp,ts,e,env,rfl,har,hl,hl2,hk,hb,hel,he⟩
theorem Qh {m:M3} (h:m.e=0):G7 m 0 0=m:=by
 obtain ⟨a,b,c⟩:=m;simp only at h;subst h;simp [G7]
theorem Aje {op:Int} {r:Nat} (h:ar op=some r):r<=4:=by
 unfold ar at h
 repeat' split at h
 all_goals first | (simp only [ABZ] at h;omega) | cases h
theorem AyI (g:Nat) (n:Int) (o0 n0:Int) (k0:List PV) (t0:Tm) (e0:List PV) (x:PV) (t:Tm) (e:List PV) (m:M3):stP (g+1) (.mk 5 n [.mk o0 n0 k0 t0 e0,x] t e) m=if o0=4 then opP g (.mk o0 n0 k0 t0 e0) 1 [x] m else some (.nil,m):=by
 rw [stP.eq_def];simp only [if_true]
theorem Axn (g:Nat) (op n:Int) (h:op=8\/op=9) (n0:Int) (a x y:PV) (t0:Tm) (e0:List PV) (t:Tm) (e:List PV) (m:M3):stP (g+1) (.mk op n [.mk 7 n0 [a,x,y] t0 e0] t e) m=some (if op=8 then x else y,m):=by
 rw [stP.eq_def];simp only;rw [if_neg (by omega),if_pos h,if_true]
theorem Arv (g:Nat) (n:Int) (p0 z p2:PV) (n3:Int) (k3:List PV) (t3:Tm) (e3:List PV) (t:Tm) (e:List PV) (m:M3):stP (g+1) (.mk 13 n [p0,z,p2,.mk 11 n3 k3 t3 e3] t e) m=some (z,m):=by
 rw [stP.eq_def];simp only [Int.reduceEq,if_false,if_true,or_self]
theorem Asg {g:Nat} {n:Int} {p0 z p2:PV} {n3:Int} {x y:PV} {t3:Tm} {e3:List PV} {t:Tm} {e:List PV} {m m':M3} (hc:ctP g (.mk 13 n [.nil,z,.nil,x] t e) m=some (y,m')):stP (g+1) (.mk 13 n [p0,z,p2,.mk 12 n3 [x] t3 e3] t e) m=opP g (.mk 13 n [p0,z,p2,.mk 12 n3 [x] t3 e3] t e) 2 [x,y] m':=by
 rw [stP.eq_def];simp only [Int.reduceEq,if_false,if_true,or_self,hc]
theorem Aum (g:Nat) (n:Int) (p0 z p2:PV) (o3 n3:Int) (k3:List PV) (t3:Tm) (e3:List PV) (t:Tm) (e:List PV) (m:M3) (h11:o3≠11) (h12:o3≠12):stP (g+1) (.mk 13 n [p0,z,p2,.mk o3 n3 k3 t3 e3] t e) m=some (.nil,m):=by
 rw [stP.eq_def];simp only [Int.reduceEq,if_false,if_true,or_self,h11,h12]
theorem AxG (g:Nat) (n:Int) (n0:Int) (x:PV) (t0:Tm) (e0:List PV) (t:Tm) (e:List PV) (m:M3):stP (g+1) (.mk 30 n [.mk 19 n0 [x] t0 e0] t e) m=some (x,m):=by
 rw [stP.eq_def];simp only [Int.reduceEq,if_false,if_true,or_self]
theorem AtG (g:Nat) (n:Int) (o0 n0:Int) (k0:List PV) (t0:Tm) (e0:List PV) (t:Tm) (e:List PV) (m:M3) (h:o0≠19):stP (g+1) (.mk 30 n [.mk o0 n0 k0 t0 e0] t e) m=some (.nil,m):=by
 rw [stP.eq_def];simp only [Int.reduceEq,if_false,if_true,or_self,h]
theorem AxF (g:Nat) (n:Int) (n0:Int) (x:PV) (t0:Tm) (e0:List PV) (t:Tm) (e:List PV) (m:M3):stP (g+1) (.mk 19 n [.mk 30 n0 [x] t0 e0] t e) m=some (x,m):=by
 rw [stP.eq_def];simp only [Int.reduceEq,if_false,if_true,or_self]
theorem Ast (g:Nat) (n:Int) (o0 n0:Int) (k0:List PV) (t0:Tm) (e0:List PV) (t:Tm) (e:List PV) (m:M3) (h:o0≠30):stP (g+1) (.mk 19 n [.mk o0 n0 k0 t0 e0] t e) m=some (.nil,m):=by
 rw [stP.eq_def];simp only [Int.reduceEq,if_false,if_true,or_self,h]
def Ii (op n:Int) (ps:List PV) (t:Tm) (e:List PV) (v':PV) (k T:Nat):Prop:=∃F,∀g,F<=g->∀m,MOk m k T->ctP g (.mk op n ps t e) m=some (v',G7 m k T)
theorem AvZ {op n:Int} {ps:List PV} {t:Tm} {e:List PV} (h:CW op=false):Ii op n ps t e (.mk op n ps t e) 0 0:=by
 refine ⟨1,fun g hg m hm=>?_⟩;obtain ⟨g,rfl⟩:∃k,g=k+1:=⟨g - 1,by omega⟩;rw [ctP,h,Qh hm.e];rfl
theorem Oe {op n:Int} {ps:List PV} {t:Tm} {e:List PV} (h:CW op=true) (hs:∃F,∀g,F<=g->∀m,stP g (.mk op n ps t e) m=some (.nil,m)):Ii op n ps t e (.mk op n ps t e) 0 1:=by
 obtain ⟨F,hs⟩:=hs;refine ⟨F+2,fun g hg m hm=>?_⟩;obtain ⟨g,rfl⟩:∃k,g=k+1:=⟨g - 1,by omega⟩;rw [ctP,if_pos h,if_neg (fun h=>h hm.e),if_neg (by omega),O4 (k:=0) (T:=0) hm];simp only;rw [if_neg (by simp [G7]),hs g (by omega)]
theorem Hf {op n:Int} {ps:List PV} {t:Tm} {e:List PV} {v':PV} {k T:Nat} (h:CW op=true) (hv:v'≠.nil) (hs:∃F,∀g,F<=g->∀m,MOk m k T->stP g (.mk op n ps t e) m=some (v',G7 m k T)):Ii op n ps t e v' (k+1) (1+T):=by
 obtain ⟨F,hs⟩:=hs;refine ⟨F+2,fun g hg m hm=>?_⟩;obtain ⟨g,rfl⟩:∃k,g=k+1:=⟨g - 1,by omega⟩;have hm':MOk (G7 m 0 1) k T:=JK (k1:=0) (k2:=k) ⟨hm.e,hm.w,hm.w2,by have:=hm.s;omega,hm.s2⟩;rw [ctP,if_pos h,if_neg (fun h=>h hm.e),if_neg (by omega),O4 hm];simp only;rw [if_neg (by simp [G7]),hs g (by omega) _ hm',Fq];have h1:=hm.s;have h2:=hm.s2;cases v' with
 | nil=>exact absurd rfl hv
 | mk o1 n1 k1 t1 e1 =>
  simp only;rw [if_neg (by simp [G7]),if_neg (by simp only [G7];omega),if_neg (by simp only [G7];omega)];simp only [G7,ABZ,AB0,true_and,M3.mk.injEq,and_true];omega
theorem XC {B:Nat} {op n n':Int} {ps:List PV} {ts:List Tm} {e:List PV} {i:Nat} {b:Tm} {l:List PV} {v:RV} {k T:Nat} (hb:ts[i]?=some b) (hl:l.length<=2) (h:Akg B (l.reverse++e) b v k T) :
  ∃v',Rel B v' v/\∃F,∀g,F<=g->∀m,MOk m k T->opP g (.mk op n ps (.mk op n' ts) e) i l m=some (v',G7 m k T):=by
 obtain ⟨v',hr,F,h⟩:=h;refine ⟨v',hr,F+10,fun g hg m hm=>?_⟩;obtain ⟨g,rfl⟩:∃k,g=k+1:=⟨g - 1,by omega⟩;rw [opP];rw [if_neg (by omega),hb];exact h g (by omega) m hm
theorem LZ {B:Nat} {p:PV} {r:RV} (h:Rel B p r):p≠.nil:=by
 obtain ⟨op,n,k,t,e,rfl,_⟩:=Ps h;exact fun h=>by cases h
theorem NE {B f:Nat} (ih:AdC B f) {e l:List PV} {env l':List RV} (he:GZ B e env) (hl:l.length=l'.length) (hr:∀(i:Nat) p r,l[i]?=some p->l'[i]?=some r->Rel B p r) {b:Tm} (hg:b.good) (hw:b.wt<=B) {s s':Int} {v:RV}
  (h:AA f s 0 b (env++l')=some (v,s',0)):∃k c u T:Nat,s'=s+k/\Cost b v k c u/\T<=c+u+2 * k/\Akg B (l.reverse++e) b v k T :=
 ih s b _ v s' h hg hw _ (Xy he hl hr)
theorem Q7 {b:Tm} {v:RV} {k c u:Nat} (h:Cost b v k c u):c<=(k+1) * b.wt:=by
 have h1:=h.le;have h2:=Ow b;have h3:k * b.inn<=k * b.wt:=Nat.mul_le_mul_left _ (by omega);rw [Nat.add_mul,Nat.one_mul];omega
theorem Aqn {B:Nat}:∀f,(∀g,g<f->AdC B g)->∀(s:Int) (n n0:Int) (env:List RV) (b0 b2:Tm) (vz vn w:RV) (s':Int) (e:List PV) (pz pn:PV) (n':Int) (ts:List Tm),headR f s 0 (.node 13 n0 [.clo env b0,vz,.clo env b2,vn])=some (w,s',0) ->
  Rel B pz vz->Rel B pn vn->GZ B e env->ts[2]?=some b2->b2.good->b2.wt<=B->(∀pw:PV,Rel B (.mk 13 n [.nil,pz,.nil,pn] (.mk 13 n' ts) e) (.node 13 n0 [.clo env b0,vz,.clo env b2,vn])) ->
  (∀(px:PV) (vx:RV),Rel B px vx->Rel B (.mk 13 n [.nil,pz,.nil,px] (.mk 13 n' ts) e) (.node 13 0 [.clo env b0,vz,.clo env b2,vx])) ->
  ∃k c u T:Nat,s'=s+k/\c<=k * b2.wt/\5 * u<=3 * c+10 * k/\T<=c+u+2 * k+(if k=0 then 1 else 0)/\(k=0->c=0/\u=0/\w=.node 13 n0 [.clo env b0,vz,.clo env b2,vn]) /\
   ∃w',Rel B w' w/\Ii 13 n [.nil,pz,.nil,pn] (.mk 13 n' ts) e w' k T:=by
 intro f
 induction f with
 | zero=>intro _ s n n0 env b0 b2 vz vn w s' e pz pn n' ts h;rw [headR] at h;cases h
 | succ f ihf =>
  intro ih s n n0 env b0 b2 vz vn w s' e pz pn n' ts h hz hn he hb2 hg2 hw2 hself hless;obtain ⟨V,hV⟩:∃V,V=RV.node 13 n0 [.clo env b0,vz,.clo env b2,vn]:=⟨_,rfl⟩;have hop:V.op=13:=by rw [hV];rfl
  have hk0:V.k[0]?=some (.clo env b0):=by rw [hV];rfl
  have hk1:V.k[1]?=some vz:=by rw [hV];rfl
  have hk2:V.k[2]?=some (.clo env b2):=by rw [hV];rfl
  have hk3:V.k[3]?=some vn:=by rw [hV];rfl
  rw [<- hV] at h hself ⊢;rw [headR] at h;rw [if_neg (by simp)] at h;split at h
  ·cases h
  simp only [hop,if_true] at h;rw [if_neg (by decide),if_neg (by decide),if_neg (by decide),if_neg (by decide),hk0,hk1,hk2,hk3] at h;simp only at h;obtain ⟨on,nn,kn,tn,en,hpn,hon,hnn⟩:=Ps hn;by_cases h11:vn.op=11
  ·rw [if_pos h11] at h;by_cases hs:s+1<=1000
   ·rw [if_pos hs] at h;simp only [ABZ,AB0] at h;obtain ⟨rfl,rfl,_⟩:=h;refine ⟨1,0,0,1,rfl,by omega,by omega,by simp,fun h=>by omega,pz,hz,Hf (k:=0) (T:=0) (by decide) (LZ hz) ⟨1,fun g hg m hm=>?_⟩⟩;obtain ⟨g,rfl⟩:∃k,g=k+1:=⟨g - 1,by omega⟩;rw [hpn,<- hon,h11,Arv,Qh hm.e]
   ·rw [if_neg hs] at h;simp at h
  ·rw [if_neg h11] at h;by_cases h12:vn.op=12
   ·rw [if_pos h12] at h;by_cases hs:s+1<=1000
    ·rw [if_pos hs] at h;have hvn1:vn.op≠1:=by omega
     obtain ⟨nn',kp,ts',en',envn,hpn',har,hkl,hrl,hkk,_,_⟩:=JG hn hvn1;rw [h12,show ar 12=some 1 by decide,ABZ] at har
     obtain ⟨vx,hvx⟩:=Cp (l:=vn.k) (by omega);obtain ⟨px,hpx⟩:=Cp (l:=kp) (by omega);have hx:Rel B px vx:=hkk 0 px vx (by rw [h12];decide) (by rw [hpx];rfl) (by rw [hvx];rfl);have hv0:(RV.k vn)[0]?=some vx:=by rw [hvx];rfl
     obtain ⟨on2,nn2,kn2,envn2,bn2⟩:=vn;simp only [RV.k] at hv0 h;rw [hv0] at h;simp only at h;split at h
     ·cases h
     rename_i vh s2 e2 hh;split at h
     ·cases h
     rw [show (RV.clo env b2).env=env from rfl,show (RV.clo env b2).b=b2 from rfl] at h
     have he2:=Cu h;subst he2;obtain ⟨k1,c1,u1,T1,a1,a2,a3,a4,a5,w1,a6,F1,a7⟩:=ihf (fun g hg=>ih g (by omega)) (s+1) n 0 env b0 b2 vz vx vh s2 e pz px n' ts hh hz hx he hb2 hg2 hw2 (fun _=>hless px vx hx) hless;obtain ⟨k2,c2,u2,T2,d1,d2,d3,d4⟩:=NE (ih f (by omega)) (l:=[px,w1]) (l':=[vx,vh]) he rfl (by
      intro i p r hp hr
      match i with
      | 0=>simp only [List.getElem?_cons_zero,ABZ] at hp hr;subst hp hr;exact hx
      | 1=>simp only [List.getElem?_cons_succ,List.getElem?_cons_zero,ABZ] at hp hr;subst hp hr;exact a6
      | i+2=>simp at hp) hg2 hw2 h
     obtain ⟨w2,q1,F2,q2⟩:=XC (op:=13) (n:=n) (n':=n') (ps:=[.nil,pz,.nil,pn]) hb2 (by simp) d4;have hd:=Q7 d2;have hdp:=d2.p;refine ⟨k1+k2+1,c1+c2,u1+u2,1+(T1+T2),by omega,?_,by omega,?_,fun h=>by omega,w2,q1,Hf (k:=k1+k2) (T:=T1+T2) (by decide) (LZ q1) ⟨F1+F2+2,fun g hg m hm=>?_⟩⟩
     ·have e1:(k1+k2+1) * b2.wt=k1 * b2.wt+(k2+1) * b2.wt:=by rw [show k1+k2+1=k1+(k2+1) by omega,Nat.add_mul]
      omega
     ·rw [if_neg (by omega)];split at a4<;>omega
     ·obtain ⟨g,rfl⟩:∃k,g=k+1:=⟨g - 1,by omega⟩;simp only [RV.op] at h12;subst h12;rw [hpn',hpx];simp only [RV.op,RV.n];rw [Asg (a7 g (by omega) m (OW hm))];rw [hpn',hpx] at q2;simp only [RV.op,RV.n] at q2;rw [q2 g (by omega) _ (JK hm),Fq]
    ·rw [if_neg hs] at h;simp at h
   ·rw [if_neg h12] at h;simp only [ABZ,AB0] at h;obtain ⟨rfl,rfl,_⟩:=h;refine ⟨0,0,0,1,by omega,by omega,by omega,by simp,fun _=>⟨rfl,rfl,rfl⟩,_,hself pz,Oe (by decide) ⟨1,fun g hg m=>?_⟩⟩;obtain ⟨g,rfl⟩:∃k,g=k+1:=⟨g - 1,by omega⟩;rw [hpn,Aum _ _ _ _ _ _ _ _ _ _ _ _ _ (by rw [<- hon];exact h11) (by rw [<- hon];exact h12)]
theorem DP {op n:Int} {ks:List Tm} {e ps:List PV} {k1 T1 kh Th:Nat} {v':PV} (h1:op≠1) (hks:ks.length<=4) (hK:∃F,∀g,F<=g->∀m,MOk m k1 T1->R2 (fun t m=>RU g e t m) op 0 ks m=some (ps,G7 m k1 T1)) (hH:Ii op n ps (.mk op n ks) e v' kh Th) :
  ∃F,∀g,F<=g->∀m,MOk m (k1+kh) (1+(T1+Th))->RU g e (.mk op n ks) m=some (v',G7 m (k1+kh) (1+(T1+Th))):=by
 obtain ⟨F1,hK⟩:=hK;obtain ⟨F2,hH⟩:=hH;refine ⟨F1+F2+10,fun g hg m hm=>?_⟩;obtain ⟨g,rfl⟩:∃k,g=k+1:=⟨g - 1,by omega⟩;have hm':MOk (G7 m 0 1) (k1+kh) (T1+Th):=JK (k1:=0) ⟨hm.e,hm.w,hm.w2,by have:=hm.s;omega,hm.s2⟩;rw [RU,O4 hm];simp only;rw [if_neg h1,if_neg (by omega),if_neg (by simp [G7]),hK g (by omega) _ (OW hm')];simp only;rw [if_neg (by simp [G7]),hH g (by omega) _ (JK hm'),Fq,Fq];congr 3
 all_goals omega
theorem Aqq {op:Int} (h:¬ (op=5\/op=8\/op=9\/op=13\/op=19\/op=30)):CW op=false:=by
 have h1:¬ op=5:=fun e=>h (.inl e);have h2:¬ op=8:=fun e=>h (.inr (.inl e));have h3:¬ op=9:=fun e=>h (.inr (.inr (.inl e)));have h4:¬ op=13:=fun e=>h (.inr (.inr (.inr (.inl e))));have h5:¬ op=19:=fun e=>h (.inr (.inr (.inr (.inr (.inl e)))));have h6:¬ op=30:=fun e=>h (.inr (.inr (.inr (.inr (.inr e)))));simp [CW,h1,h2,h3,h4,h5,h6]
theorem UG (B:Nat):∀f,AdC B f:=by
 intro f
 induction f using Nat.strongRecOn with
 | _ f ih =>
 intro s t env v s' h hg hw e he;cases f with
 | zero=>rw [AA] at h;cases h
 | succ f =>
 obtain ⟨op,n,ks⟩:=t;rw [AA] at h;rw [if_neg (by simp)] at h;split at h
 ·cases h
 rename_i hel;rw [Tm.good] at hg;obtain ⟨hgn,hgl⟩:=hg;have har:=hgn.1;have hk4:=Aje har;rw [Tm.wt] at hw;by_cases h1:op=1
 ·subst h1;rw [if_pos rfl] at h;have hks:ks=[]:=by
   rw [show ar 1=some 0 by decide,ABZ] at har
   exact List.eq_nil_of_length_eq_zero har.symm
  subst hks;have hn:=hgn.2.1 rfl;have hrun:∃F,∀g,F<=g->∀m,MOk m 0 1->RU g e (.mk 1 n []) m=some (Gp e n,G7 m 0 1):=by
   refine ⟨e.length+10,fun g hg m hm=>?_⟩;obtain ⟨g,rfl⟩:∃k,g=k+1:=⟨g - 1,by omega⟩;rw [RU,O4 (k:=0) (T:=0) hm];simp only;rw [if_pos trivial,if_pos ⟨by omega,by omega,by omega⟩]
  have hcost:∀v:RV,Cost (.mk 1 n []) v 0 1 0:=fun v=>⟨by simp [Tm.surf,Tm.surfL],by omega,Nat.le_trans (Nat.add_le_add_left (Wn _ _) _) (by omega),fun _=>by have:=Acg v;simp only [Tm.surf,Tm.surfL];omega⟩;by_cases hlt:n<env.length
  ·rw [if_pos hlt,if_pos hn.1] at h;cases hr:env[((env.length:Int) - 1 - n).toNat]? with
   | none=>rw [hr] at h;cases h
   | some r =>
    rw [hr] at h;simp only [AB2,ABZ,AB0] at h;obtain ⟨rfl,rfl,_⟩:=h;exact ⟨0,1,0,1,by omega,hcost _,by omega,_,AnA he hn.1 hlt hr,hrun⟩
  ·rw [if_neg hlt] at h;split at h
   ·simp only [ABZ,AB0] at h;obtain ⟨rfl,rfl,_⟩:=h;refine ⟨0,1,0,1,by omega,hcost _,by omega,_,?_,hrun⟩;rw [Gp,if_neg (by rw [he.1];exact hlt),he.1];exact .var _
   ·cases h
 rw [if_neg h1] at h;split at h
 ·cases h
 split at h
 ·cases h
 split at h
 ·cases h
 rename_i vs s1 e1 hk;have he1:=H3 h;subst he1;obtain ⟨k1,c1,u1,T1,q1,q2,q3,q4,q5,q6,ps,q7,q8,q9,q10,q11⟩:=Oa (ih f (by omega)) op env e he ks 0 s vs s1 hk hgl (by omega);simp only [Nat.zero_add] at q8 q9 q10;have hnode:Rel B (.mk op n ps (.mk op n ks) e) (.node op n vs):=by
  refine .node op n n ps vs ks e env h1 har q7 q6 (fun i p r=>q9 i p r) ?_ he.1 he.2;intro i b hb hi;obtain ⟨a1,a2⟩:=q8 i b hi hb;have hm:=List.mem_of_getElem? hi
  have:=CZ hm
  exact ⟨⟨Qg hgl hm,by omega⟩,a1,a2⟩
 obtain ⟨V,hV⟩:∃V,V=RV.node op n vs:=⟨_,rfl⟩;have hVo:V.op=op:=by rw [hV];rfl
 have hVk:V.k=vs:=by rw [hV];rfl
 have hVz:V.vsz=1+RV.vszL op 0 vs:=by rw [hV,RV.node,RV.vsz]
 rw [<- hV] at h hnode;cases f with
 | zero=>rw [headR] at h;cases h
 | succ f =>
 have h00:=h;rw [headR] at h;rw [if_neg (by simp)] at h;split at h
 ·cases h
 by_cases hr:¬ (op=5\/op=8\/op=9\/op=13\/op=19\/op=30)
 ·rw [hVo,if_neg (by omega),if_neg (by omega),if_neg (by omega),if_neg (by omega),if_neg (by omega)] at h;simp only [ABZ,AB0] at h;obtain ⟨rfl,rfl,_⟩:=h;refine ⟨k1,1+c1,u1,1+T1,q1,⟨?_,by omega,Nat.le_trans (Nat.add_le_add_left (Wn _ _) _) (by omega),fun h=>?_⟩,by omega,_,hnode,DP (kh:=0) (Th:=0) h1 (by omega) q11 (AvZ (Aqq hr))⟩
  ·rw [Tm.surf,Tm.inn];omega
  ·have:=q4 h;rw [Tm.surf,hVz];omega
 have hrule:CW op=true:=by
  have:op=5\/op=8\/op=9\/op=13\/op=19\/op=30:=Decidable.byContradiction hr
  rcases this with rfl | rfl | rfl | rfl | rfl | rfl<;>rfl
 by_cases h5:op=5
 ·subst h5;obtain ⟨m0,a,b,x,rfl⟩:=hgn.2.2.2.1 rfl;obtain ⟨v0,vx,rfl⟩:=T5 q6;obtain ⟨p0,px,rfl⟩:=T5 q7;obtain ⟨t1,t2,hv0⟩:=q10 0 _ v0 rfl (by decide) rfl;obtain ⟨va,rfl⟩:=Z2 hv0;have r0:=q9 0 p0 _ (by decide) rfl rfl;have rx:=q9 1 px vx (by decide) rfl rfl;obtain ⟨n',kp,ts,e0,env0,hp0,b1,b2,b3,b4,b5,b6⟩:=JG r0 (by simp [RV.node,RV.op]);simp only [RV.node,RV.op,RV.n,RV.k] at hp0 b1 b3 b4 b5;rw [show ar 4=some 2 by decide,ABZ] at b1
  obtain ⟨a',b',rfl⟩:=T5 b1.symm;obtain ⟨⟨g1,g2⟩,_,g3⟩:=b5 1 b' (by decide) rfl;simp only [List.getElem?_cons_succ,List.getElem?_cons_zero,ABZ,RV.clo,RV.mk.injEq,true_and] at g3;obtain ⟨rfl,rfl⟩:=g3;rw [hVo,if_pos rfl,hVk] at h;simp only [List.getElem?_cons_succ,List.getElem?_cons_zero] at h;rw [show (RV.node 4 m0 [va,RV.clo env b]).op=4 from rfl,if_pos rfl] at h
  split at h
  ·rw [show (RV.node 4 m0 [va,RV.clo env b]).k[1]?=some (RV.clo env b) from rfl] at h
   simp only at h;split at h
   ·cases h
   rw [show (RV.clo env b).env=env from rfl,show (RV.clo env b).b=b from rfl] at h
   obtain ⟨k2,c2,u2,T2,d1,d2,d3,d4⟩:=NE (ih f (by omega)) (l:=[px]) (l':=[vx]) b6 rfl (by
    intro i p r hp hr
    match i with
    | 0=>simp only [List.getElem?_cons_zero,ABZ] at hp hr;subst hp hr;exact rx
    | i+1=>simp at hp) g1 g2 h
   obtain ⟨w2,y1,F2,y2⟩:=XC (op:=4) (n:=m0) (n':=n') (ps:=kp) (ts:=[a',b]) (i:=1) (b:=b) (l:=[px]) rfl (by simp) d4;have hd:=Q7 d2;have hdp:=d2.p;have hiw:b.wt<=Tm.innL 5 0 [.mk 4 m0 [a,b],x]:=by
    simp only [Tm.innL,Tm.inn];rw [if_neg (show ¬ 0<Af 5 0 by decide),if_neg (show ¬ 0<Af 4 0 by decide),if_pos (show 0<Af 4 (0+1) by decide)]
    omega
   refine ⟨k1+(k2+1),1+(c1+c2),u1+u2,1+(T1+(1+T2)),by omega,⟨?_,by omega,Nat.le_trans (Nat.add_le_add_left (Wn _ _) _) (by omega),fun h=>by omega⟩,by omega,w2,y1,DP h1 (by simp) q11 (Hf (k:=k2) (T:=T2) hrule (LZ y1) ⟨F2+1,fun g hg m hm=>?_⟩)⟩
   ·rw [Tm.surf,Tm.inn];have e1:(k1+(k2+1)) * Tm.innL 5 0 [.mk 4 m0 [a,b],x]=k1 * Tm.innL 5 0 [.mk 4 m0 [a,b],x]+(k2+1) * Tm.innL 5 0 [.mk 4 m0 [a,b],x]:=by rw [Nat.add_mul]
    have e2:(k2+1) * b.wt<=(k2+1) * Tm.innL 5 0 [.mk 4 m0 [a,b],x]:=Nat.mul_le_mul_left _ hiw;omega
   ·obtain ⟨g,rfl⟩:∃k,g=k+1:=⟨g - 1,by omega⟩;rw [hp0,AyI,if_pos rfl];exact y2 g (by omega) m hm
  ·simp at h
 by_cases h89:op=8\/op=9
 ·obtain ⟨m0,a,x,y,rfl⟩:=hgn.2.2.2.2.1 h89;obtain ⟨v0,rfl⟩:=Cp q6;obtain ⟨p0,rfl⟩:=Cp q7;have hb0:Af op 0=0:=by rcases h89 with rfl | rfl<;>decide
  obtain ⟨t1,t2,hv0⟩:=q10 0 _ v0 rfl hb0 rfl;obtain ⟨va,vx,vy,rfl⟩:=Aj1 hv0;have r0:=q9 0 p0 _ hb0 rfl rfl;obtain ⟨n',kp,ts,e0,env0,hp0,b1,b2,b3,b4,b5,b6⟩:=JG r0 (by simp [RV.node,RV.op]);simp only [RV.node,RV.op,RV.n,RV.k] at hp0 b1 b3 b4 b5;rw [show ar 7=some 3 by decide,ABZ] at b1
  obtain ⟨pa,px,py,rfl⟩:=AuZ (b2.trans b1.symm);have rx:=b4 1 px vx (by decide) rfl rfl;have ry:=b4 2 py vy (by decide) rfl rfl;rw [hVo,if_neg h5,if_pos h89,hVk] at h;simp only [List.getElem?_cons_zero] at h;rw [show (RV.node 7 m0 [va,vx,vy]).op=7 from rfl,if_pos rfl] at h
  split at h
  ·obtain ⟨w',hw',hvv⟩:∃w',w'=(if op=8 then px else py)/\Rel B w' v/\s'=s1+1:=by
    rcases h89 with rfl | rfl
    ·rw [show (RV.node 7 m0 [va,vx,vy]).k[(1+8 - 8:Int).toNat]?=some vx from rfl] at h
     simp only [AB2,ABZ,AB0] at h;obtain ⟨rfl,rfl,_⟩:=h;exact ⟨px,rfl,rx,rfl⟩
    ·rw [show (RV.node 7 m0 [va,vx,vy]).k[(1+9 - 8:Int).toNat]?=some vy from rfl] at h
     simp only [AB2,ABZ,AB0] at h;obtain ⟨rfl,rfl,_⟩:=h;exact ⟨py,rfl,ry,rfl⟩
   obtain ⟨hrel,rfl⟩:=hvv;refine ⟨k1+1,1+c1,u1,1+(T1+1),by omega,⟨?_,by omega,Nat.le_trans (Nat.add_le_add_left (Wn _ _) _) (by omega),fun h=>by omega⟩,by omega,w',hrel,DP h1 (by simp) q11 (Hf (k:=0) (T:=0) hrule (LZ hrel) ⟨1,fun g hg m hm=>?_⟩)⟩
   ·rw [Tm.surf,Tm.inn,Nat.add_mul];omega
   ·obtain ⟨g,rfl⟩:∃k,g=k+1:=⟨g - 1,by omega⟩;rw [hp0,Axn _ _ _ h89,Qh hm.e,hw']
  ·simp at h
 by_cases h30:op=30
 ·subst h30;rw [show ar 30=some 1 by decide,ABZ] at har
  obtain ⟨x,rfl⟩:=Cp har.symm;obtain ⟨v0,rfl⟩:=Cp q6;obtain ⟨p0,rfl⟩:=Cp q7;have r0:=q9 0 p0 v0 (by decide) rfl rfl;have hx:=hgn.2.2.2.2.2.2.1 rfl x (by simp);rw [hVo,if_neg h5,if_neg h89,if_pos rfl,hVk] at h;simp only [List.getElem?_cons_zero] at h;simp only [Hx] at q3;rw [if_neg (by decide)] at q3;by_cases h19:v0.op=19
  ·rw [if_pos h19] at h;obtain ⟨n',kp,ts,e0,env0,hp0,b1,b2,b3,b4,b5,b6⟩:=JG r0 (by rw [h19];decide);rw [h19,show ar 19=some 1 by decide,ABZ] at b1
   obtain ⟨y,hy⟩:=Cp (b3.trans b1.symm);obtain ⟨py,rfl⟩:=Cp (b2.trans b1.symm);have ry:=b4 0 py y (by rw [h19];decide) rfl (by rw [hy];rfl);rw [hy] at h;simp only [List.getElem?_cons_zero,AB2] at h;split at h
   ·simp only [ABZ,AB0] at h;obtain ⟨rfl,rfl,_⟩:=h;refine ⟨k1+1,1+c1,u1,1+(T1+1),by omega,⟨?_,by omega,Nat.le_trans (Nat.add_le_add_left (Wn _ _) _) (by omega),fun h=>by omega⟩,by omega,py,ry,DP h1 (by simp) q11 (Hf (k:=0) (T:=0) hrule (LZ ry) ⟨1,fun g hg m hm=>?_⟩)⟩
    ·rw [Tm.surf,Tm.inn,Nat.add_mul];omega
    ·obtain ⟨g,rfl⟩:∃k,g=k+1:=⟨g - 1,by omega⟩;rw [hp0,h19,AxG,Qh hm.e]
   ·simp at h
  ·rw [if_neg h19] at h;simp only [ABZ,AB0] at h;obtain ⟨rfl,rfl,_⟩:=h;obtain ⟨o0,n0,k0,t0,e0,hp0,ho0,_⟩:=Ps r0;have hns:2<=sl x v0:=by
    unfold sl;rw [if_neg (fun h=>h19 h.2),if_neg (fun h=>hx h.1)];split<;>omega
   have hn0:sl (.mk 30 n [x]) V=0:=by
    unfold sl;rw [if_neg (by simp [Tm.op]),if_pos ⟨rfl,hVo⟩]
   refine ⟨k1,1+c1,u1+1,1+(T1+1),q1,⟨?_,by omega,by rw [hn0];omega,fun h=>?_⟩,by omega,_,hnode,DP (kh:=0) h1 (by simp) q11 (Oe hrule ⟨1,fun g hg m=>?_⟩)⟩
   ·rw [Tm.surf,Tm.inn];omega
   ·have:=q4 h;rw [Tm.surf,hVz];omega
   ·obtain ⟨g,rfl⟩:∃k,g=k+1:=⟨g - 1,by omega⟩;rw [hp0,AtG _ _ _ _ _ _ _ _ _ _ (by rw [<- ho0];exact h19)]
 by_cases h19:op=19
 ·subst h19;rw [show ar 19=some 1 by decide,ABZ] at har
  obtain ⟨x,rfl⟩:=Cp har.symm;obtain ⟨v0,rfl⟩:=Cp q6;obtain ⟨p0,rfl⟩:=Cp q7;have r0:=q9 0 p0 v0 (by decide) rfl rfl;have hx:=hgn.2.2.2.2.2.1 rfl x (by simp);rw [hVo,if_neg h5,if_neg h89,if_neg h30,if_pos rfl,hVk] at h;simp only [List.getElem?_cons_zero] at h;simp only [Hx] at q3;rw [if_neg (by decide)] at q3;by_cases hv30:v0.op=30
  ·rw [if_pos hv30] at h;obtain ⟨n',kp,ts,e0,env0,hp0,b1,b2,b3,b4,b5,b6⟩:=JG r0 (by rw [hv30];decide);rw [hv30,show ar 30=some 1 by decide,ABZ] at b1
   obtain ⟨y,hy⟩:=Cp (b3.trans b1.symm);obtain ⟨py,rfl⟩:=Cp (b2.trans b1.symm);have ry:=b4 0 py y (by rw [hv30];decide) rfl (by rw [hy];rfl);rw [hy] at h;simp only [List.getElem?_cons_zero,AB2] at h;split at h
   ·simp only [ABZ,AB0] at h;obtain ⟨rfl,rfl,_⟩:=h;refine ⟨k1+1,1+c1,u1,1+(T1+1),by omega,⟨?_,by omega,Nat.le_trans (Nat.add_le_add_left (Wn _ _) _) (by omega),fun h=>by omega⟩,by omega,py,ry,DP h1 (by simp) q11 (Hf (k:=0) (T:=0) hrule (LZ ry) ⟨1,fun g hg m hm=>?_⟩)⟩
    ·rw [Tm.surf,Tm.inn,Nat.add_mul];omega
    ·obtain ⟨g,rfl⟩:∃k,g=k+1:=⟨g - 1,by omega⟩;rw [hp0,hv30,AxF,Qh hm.e]
   ·simp at h
  ·rw [if_neg hv30] at h;simp only [ABZ,AB0] at h;obtain ⟨rfl,rfl,_⟩:=h;obtain ⟨o0,n0,k0,t0,e0,hp0,ho0,_⟩:=Ps r0;have hns:sl x v0=3:=by
    unfold sl;rw [if_neg (fun h=>hx.1 h.1),if_neg (fun h=>hv30 h.2),if_neg (fun h=>hx.2 (Apw h))]
   have hn0:sl (.mk 19 n [x]) V=1:=by
    unfold sl;rw [if_pos ⟨rfl,hVo⟩]
   refine ⟨k1,1+c1,u1+1,1+(T1+1),q1,⟨?_,by omega,by rw [hn0];omega,fun h=>?_⟩,by omega,_,hnode,DP (kh:=0) h1 (by simp) q11 (Oe hrule ⟨1,fun g hg m=>?_⟩)⟩
   ·rw [Tm.surf,Tm.inn];omega
   ·have:=q4 h;rw [Tm.surf,hVz];omega
   ·obtain ⟨g,rfl⟩:∃k,g=k+1:=⟨g - 1,by omega⟩;rw [hp0,Ast _ _ _ _ _ _ _ _ _ _ (by rw [<- ho0];exact hv30)]
 have h13:op=13:=by omega
 subst h13;rw [show ar 13=some 4 by decide,ABZ] at har
 obtain ⟨b0,z,b2,nn,rfl⟩:=PM har.symm;obtain ⟨w0,vz,w2,vn,rfl⟩:=PM q6;obtain ⟨p0,pz,p2,pn,rfl⟩:=PM q7;obtain ⟨x0,y0⟩:=q8 0 b0 rfl (by decide);obtain ⟨x2,y2⟩:=q8 2 b2 rfl (by decide);simp only [List.getElem?_cons_succ,List.getElem?_cons_zero,ABZ] at x0 y0 x2 y2;subst x0 y0 x2 y2;have rz:=q9 1 pz vz (by decide) rfl rfl;have rn:=q9 3 pn vn (by decide) rfl rfl;have hgd:=hgn.2.2.2.2.2.2.2 rfl b0 z b2 nn rfl;have hn0:=hgn.2.2.1 rfl;simp only [Tm.goodL,and_true] at hgl;simp only [Tm.wtL] at hw;rw [hV] at h00 hnode;obtain ⟨kr,cr,ur,Tr,a1,a2,a3,a4,a5,w',a6,a7⟩:=Aqn (f+1) (fun g hg=>ih g (by omega)) s1 n n env b0 b2 vz vn v s' e pz pn n [b0,z,b2,nn] h00 rz rn he rfl hgl.2.2.1 (by omega) (fun _=>hnode) (by
  intro px vx hx;rw [hn0];refine .node 13 0 0 [.nil,pz,.nil,px] [.clo env b0,vz,.clo env b2,vx] [b0,z,b2,nn] e env (by decide) (show ar 13=some 4 by decide) rfl rfl ?_ ?_ he.1 he.2
  ·intro i p r hb hp hr
   match i with
   | 0=>exact absurd hb (by decide)
   | 1=>simp only [List.getElem?_cons_succ,List.getElem?_cons_zero,ABZ] at hp hr;subst hp hr;exact rz
   | 2=>exact absurd hb (by decide)
   | 3=>simp only [List.getElem?_cons_succ,List.getElem?_cons_zero,ABZ] at hp hr;subst hp hr;exact hx
   | i+4=>simp at hp
  ·intro i b hb hi
   match i with
   | 0=>simp only [List.getElem?_cons_zero,ABZ] at hi;subst hi;exact ⟨⟨hgl.1,by omega⟩,rfl,rfl⟩
   | 1=>exact absurd hb (by decide)
   | 2=>simp only [List.getElem?_cons_succ,List.getElem?_cons_zero,ABZ] at hi;subst hi;exact ⟨⟨hgl.2.2.1,by omega⟩,rfl,rfl⟩
   | 3=>exact absurd hb (by decide)
   | i+4=>simp at hi)
 have hiw:b2.wt<=Tm.innL 13 0 [b0,z,b2,nn]:=by
  simp only [Tm.innL];rw [if_pos (by decide),if_neg (by decide),if_pos (by decide),if_neg (by decide)];omega
 have hsl:Hx 13 0 [b0,z,b2,nn] [.clo env b0,vz,.clo env b2,vn]=sl z vz+sl nn vn:=by
  simp only [Hx];rw [if_pos (show 0<Af 13 0 by decide),if_neg (show ¬ 0<Af 13 (0+1) by decide),if_pos (show 0<Af 13 (0+1+1) by decide),if_neg (show ¬ 0<Af 13 (0+1+1+1) by decide)]
  omega
 have hsn:sl nn vn=3:=by
  unfold sl;rw [if_neg (fun h=>hgd.2.1.1 h.1),if_neg (fun h=>hgd.2.1.2 h.1),if_neg (by rw [hgd.2.2];decide)]
 have hsz:1<=sl z vz:=by
  unfold sl;split
  ·omega
  ·rw [if_neg (fun h=>hgd.1 h.1)];split<;>omega
 have hst:sl (.mk 13 n [b0,z,b2,nn]) V+2<=sl z vz+sl nn vn:=by
  have e1:sl (.mk 13 n [b0,z,b2,nn]) V=if (Tm.mk 13 n [b0,z,b2,nn]).badR=true then 2 else 3:=by
   unfold sl;rw [if_neg (by simp [Tm.op]),if_neg (by simp [Tm.op])]
  rw [e1];split
  ·omega
  ·rename_i hnb;have hb:¬ (z.op=19\/z.badR=true):=by
    intro h;apply hnb;rw [Tm.badR];simpa using h
   have:sl z vz=3:=by
    unfold sl;rw [if_neg (fun h=>hb (.inl h.1)),if_neg (fun h=>hgd.1 h.1),if_neg (fun h=>hb (.inr h))]
   omega
 have hle:1+(c1+cr)<=(Tm.mk 13 n [b0,z,b2,nn]).surf+(k1+kr) * (Tm.mk 13 n [b0,z,b2,nn]).inn:=by
  rw [Tm.surf,Tm.inn,Nat.add_mul];have e2:kr * b2.wt<=kr * Tm.innL 13 0 [b0,z,b2,nn]:=Nat.mul_le_mul_left _ hiw;omega
 by_cases hk0:kr=0
 ·obtain ⟨z1,z2,z3⟩:=a5 hk0;subst hk0 z1 z2;rw [if_pos rfl] at a4;refine ⟨k1+0,1+(c1+0),u1+1,1+(T1+Tr),by omega,⟨hle,by omega,by rw [z3,<- hV];omega,fun h=>?_⟩,by omega,w',a6,DP h1 (by simp) q11 a7⟩
  have:=q4 (by omega)
  rw [z3,<- hV,Tm.surf,hVz];omega
 ·rw [if_neg hk0] at a4;exact ⟨k1+kr,1+(c1+cr),u1+ur,1+(T1+Tr),by omega,⟨hle,by omega,Nat.le_trans (Nat.add_le_add_left (Wn _ _) _) (by omega),fun h=>by omega⟩,by omega,w',a6,DP h1 (by simp) q11 a7⟩
theorem Sf {f:Nat} (op:Int) (env:List RV) (ih:∀s t v s',AA f s 0 t env=some (v,s',0)->s<=1000->s'<=1000):∀(l:List Tm) (i:Nat) (s:Int) (vs:List RV) (s':Int),AU (fun s e t=>AA f s e t env) op env i l s 0=some (vs,s',0)->s<=1000->s'<=1000
 | [],i,s,vs,s',h,hs=>by
  simp only [AU,ABZ,AB0] at h;omega
 | t::l,i,s,vs,s',h,hs=>by
  simp only [AU] at h;split at h
  ·cases hk:AU (fun s e t=>AA f s e t env) op env (i+1) l s 0 with
   | none=>rw [hk] at h;cases h
   | some q =>
    obtain ⟨vs1,s1,e1⟩:=q;rw [hk] at h;simp only [AB2,ABZ,AB0] at h;obtain ⟨_,rfl,rfl⟩:=h;exact Sf op env ih l _ _ _ _ hk hs
  ·split at h
   ·cases h
   ·rename_i v s1 e1 he;cases hk:AU (fun s e t=>AA f s e t env) op env (i+1) l s1 e1 with
    | none=>rw [hk] at h;cases h
    | some q =>
     obtain ⟨vs2,s2,e2⟩:=q;rw [hk] at h;simp only [AB2,ABZ,AB0] at h;obtain ⟨_,rfl,rfl⟩:=h;have h0:=Ha _ (fun s e t v s' h=>Cu h) op env l _ _ _ _ _ hk;subst h0;exact Sf op env ih l _ _ _ _ hk (ih _ _ _ _ he hs)
theorem Arf:∀f,(
           ∀s t env v s',AA f s 0 t env=some (v,s',0)->s<=1000->s'<=1000)/\(∀s v w s',headR f s 0 v=some (w,s',0)->s<=1000->s'<=1000):=by
 intro f
 induction f with
 | zero=>exact ⟨(by intro s t env v s' h;rw [AA] at h;cases h),(by intro s v w s' h;rw [headR] at h;cases h)⟩
 | succ f ih =>
  refine ⟨?_,?_⟩
  ·intro s t env v s' h hs;obtain ⟨op,n,ks⟩:=t;rw [AA] at h;rw [if_neg (by simp)] at h;split at h
   ·cases h
   split at h
   ·split at h
    ·split at h
     ·cases hr:env[((env.length:Int) - 1 - n).toNat]? with
      | none=>rw [hr] at h;cases h
      | some r =>
       rw [hr] at h;simp only [AB2,ABZ,AB0] at h;omega
     ·cases h
    ·split at h
     ·simp only [ABZ,AB0] at h;omega
     ·cases h
   split at h
   ·cases h
   split at h
   ·cases h
   split at h
   ·cases h
   rename_i vs s1 e1 hk;have he:=H3 h;subst he;exact ih.2 _ _ _ _ h (Sf op env (fun s t v s'=>ih.1 s t env v s') ks _ _ _ _ hk hs)
  ·intro s v w s' h hs;rw [headR] at h;rw [if_neg (by simp)] at h;split at h
   ·cases h
   split at h
   ·split at h
    ·cases h
    ·split at h
     ·split at h
      ·split at h
       ·split at h
        ·cases h
        ·exact ih.1 _ _ _ _ _ h (by omega)
       ·cases h
      ·simp at h
     ·simp only [ABZ,AB0] at h;omega
   split at h
   ·split at h
    ·cases h
    ·rename_i k0 _;split at h
     ·split at h
      ·cases hx:k0.k[(1+v.op - 8).toNat]? with
       | none=>rw [hx] at h;cases h
       | some x=>rw [hx] at h;simp only [AB2,ABZ,AB0] at h;omega
      ·simp at h
     ·simp only [ABZ,AB0] at h;omega
   split at h
   ·split at h
    ·cases h
    ·rename_i k0 _;split at h
     ·split at h
      ·cases hx:k0.k[0]? with
       | none=>rw [hx] at h;cases h
       | some x=>rw [hx] at h;simp only [AB2,ABZ,AB0] at h;omega
      ·simp at h
     ·simp only [ABZ,AB0] at h;omega
   split at h
   ·split at h
    ·cases h
    ·rename_i k0 _;split at h
     ·split at h
      ·cases hx:k0.k[0]? with
       | none=>rw [hx] at h;cases h
       | some x=>rw [hx] at h;simp only [AB2,ABZ,AB0] at h;omega
      ·simp at h
     ·simp only [ABZ,AB0] at h;omega
   split at h
   ·split at h
    ·split at h
     ·split at h
      ·simp only [ABZ,AB0] at h;omega
      ·simp at h
     ·split at h
      ·split at h
       ·split at h
        ·cases h
        ·split at h
         ·cases h
         ·rename_i vh s2 e2 hh;split at h
          ·cases h
          ·have he:=Cu h;subst he;exact ih.1 _ _ _ _ _ h (ih.2 _ _ _ _ hh (by omega))
       ·simp at h
      ·simp only [ABZ,AB0] at h;omega
    ·cases h
   ·simp only [ABZ,AB0] at h;omega
theorem QK {f:Nat} {op u d:Int}:∀(l:List RV) (i:Nat) (s nd e:Int) (ts:List Tm) (s' nd':Int),Bf (fun s nd e k u=>AS f s nd e k u d) f op u i l s nd e=some (ts,s',nd',0)->e=0
 | [],i,s,nd,e,ts,s',nd',h=>by
  simp only [Bf,ABZ,AB0] at h;exact h.2.2.2
 | k::l,i,s,nd,e,ts,s',nd',h=>by
  simp only [Bf] at h;split at h
  ·cases h
  rename_i k1 s1 e1 hk;split at h
  ·cases h
  rename_i t s2 nd2 e2 hr;cases hrest:Bf (fun s nd e k u=>AS f s nd e k u d) f op u (i+1) l s2 nd2 e2 with
  | none=>rw [hrest] at h;cases h
  | some q =>
   obtain ⟨ts2,s3,nd3,e3⟩:=q;rw [hrest] at h;simp only [AB2,ABZ,AB0] at h;obtain ⟨_,_,_,rfl⟩:=h
   have:=QK l _ _ _ _ _ _ _ hrest
   subst this
   have:=FR hr
   subst this;split at hk
   ·split at hk
    ·cases hk
    ·exact Cu hk
   ·simp only [ABZ,AB0] at hk;exact hk.2.2
def Aq2 (B f:Nat):Prop:=∀(s nd:Int) (v:RV) (u d:Int) (t:Tm) (s' nd':Int),AS f s nd 0 v u d=some (t,s',nd',0)->0<=nd->∀v',Rel B v' v->∃k c uu T N:Nat,s'=s+k/\nd'=nd+N/\nd'<=3000/\(s<=1000->s'<=1000)/\c+v.vsz<=N+B * k/\5 * uu<=3 * c+10 * k/\T<=N+c+uu+2 * k /\
 ∃F,∀g,F<=g->∀m,MOk m k T->Ve g v' u d m nd=some (t,G7 m k T,nd')
theorem Auv {B:Nat} (u:Int) (b:Nat):∀(i:Nat) p r,(Uf u b)[i]?=some p->(Gf u b)[i]?=some r->Rel B p r:=by
 intro i p r hp hr;rw [Uf,List.getElem?_map] at hp;rw [Gf,List.getElem?_map] at hr;cases hx:(List.range b)[i]? with
 | none=>rw [hx] at hp;cases hp
 | some j =>
  rw [hx] at hp hr;simp only [AB2,ABZ] at hp hr;subst hp hr;exact .var _
theorem V9 {B f:Nat} (ih:Aq2 B f) (op u d n n':Int) (kp0:List PV) (ts:List Tm) (e:List PV) (env:List RV) (he:GZ B e env):∀(l:List RV) (lp:List PV) (i:Nat) (s nd:Int) (rs:List Tm) (s' nd':Int),Bf (fun s nd e k u=>AS f s nd e k u (d+1)) f op u i l s nd 0=some (rs,s',nd',0)->0<=nd->nd<=3000->lp.length=l.length ->
  (∀j p r,Af op (i+j)=0->lp[j]?=some p->l[j]?=some r->Rel B p r)->(∀j r,0<Af op (i+j)->l[j]?=some r->∃b,ts[i+j]?=some b/\b.good/\b.wt<=B/\r=.clo env b) ->
  ∃k c uu T N:Nat,s'=s+k/\nd'=nd+N/\nd'<=3000/\(s<=1000->s'<=1000)/\c+RV.vszL op i l<=N+B * k/\5 * uu<=3 * c+10 * k/\T<=N+c+uu+2 * k /\
   ∃F,∀g,F<=g->∀m,MOk m k T->bkK (fun v below m r=>Ve g v below (d+1) m r) (fun i l m=>opP g (.mk op n kp0 (.mk op n' ts) e) i l m) op u i lp m nd=some (some rs,G7 m k T,nd')
 | [],lp,i,s,nd,rs,s',nd',h,h0,h3,hl,_,_=>by
  simp only [Bf,ABZ,AB0] at h;obtain ⟨rfl,rfl,rfl,_⟩:=h
  have:lp=[]:=List.eq_nil_of_length_eq_zero hl
  subst this;refine ⟨0,0,0,0,0,by omega,by omega,h3,id,by simp [RV.vszL],by omega,by omega,0,fun g _ m hm=>?_⟩;rw [bkK,Qh hm.e]
 | k::l,lp,i,s,nd,rs,s',nd',h,h0,h3,hl,hA,hB=>by
  obtain ⟨p,lp,rfl⟩:∃p lp',lp=p::lp':=by
   cases lp with
   | nil=>cases hl
   | cons p lp=>exact ⟨p,lp,rfl⟩
  simp only [Bf] at h;split at h
  ·cases h
  rename_i k1 s1 e1 hk;split at h
  ·cases h
  rename_i t s2 nd2 e2 hr;cases hrest:Bf (fun s nd e k u=>AS f s nd e k u (d+1)) f op u (i+1) l s2 nd2 e2 with
  | none=>rw [hrest] at h;cases h
  | some q =>
  obtain ⟨ts2,s3,nd3,e3⟩:=q;rw [hrest] at h;simp only [AB2,ABZ,AB0] at h;obtain ⟨rfl,rfl,rfl,rfl⟩:=h;have h2:=QK l _ _ _ _ _ _ _ hrest;subst h2;have h1:=FR hr;subst h1;have hA':∀j p r,Af op (i+1+j)=0->lp[j]?=some p->l[j]?=some r->Rel B p r:=fun j p r a b c=>hA (j+1) p r (by rwa [show i+(j+1)=i+1+j by omega]) b c
  have hB':∀j r,0<Af op (i+1+j)->l[j]?=some r->∃b,ts[i+1+j]?=some b/\b.good/\b.wt<=B/\r=.clo env b:=fun j r a b=>by
   obtain ⟨x,y⟩:=hB (j+1) r (by rwa [show i+(j+1)=i+1+j by omega]) b
   exact ⟨x,by rwa [show i+1+j=i+(j+1) by omega]⟩
  by_cases hb:0<Af op i
  ·rw [if_pos hb] at hk;split at hk
   ·cases hk
   obtain ⟨b,hb1,hb2,hb3,rfl⟩:=hB 0 k (by simpa using hb) rfl;rw [Nat.add_zero] at hb1;rw [show (RV.clo env b).env=env from rfl,show (RV.clo env b).b=b from rfl] at hk
   have hb22:=Bj op i;obtain ⟨ke,ce,ue,Te,d1,d2,d3,d4⟩:=NE (UG B f) (l:=Uf u (Af op i)) (l':=Gf u (Af op i)) he (by rw [Kl,B7]) (Auv u _) hb2 hb3 hk;obtain ⟨w1,y1,F1,y2⟩:=XC (op:=op) (n:=n) (n':=n') (ps:=kp0) hb1 (by rw [Kl];exact hb22) d4;have hsle:=(Arf f).1 _ _ _ _ _ hk;obtain ⟨kr,cr,ur,Tr,Nr,r1,r2,r3,r4,r5,r6,r7,F2,r8⟩:=ih s1 nd k1 _ _ t s2 nd2 hr h0 w1 y1;obtain ⟨kk,cc,uu,TT,NN,q1,q2,q3,q4,q5,q6,q7,F3,q8⟩:=V9 ih op u d n n' kp0 ts e env he l lp (i+1) s2 nd2 ts2 s3 nd3 hrest (by omega) (by omega) (by simpa using hl) hA' hB';have hde:=d2.le;have hdp:=d2.p;have hsi:=Ow b;refine ⟨ke+(kr+kk),ce+(cr+cc),ue+(ur+uu),Te+(Tr+TT),Nr+NN,by omega,by omega,q3,fun h=>q4 (r4 (hsle h)),?_,by omega,by omega,F1+F2+F3,fun g hg m hm=>?_⟩
   ·rw [RV.vszL,if_pos hb,Nat.mul_add,Nat.mul_add];have hce:ce<=k1.vsz+B * ke:=by
     cases hke:ke with
     | zero =>
      have:=d2.v hke
      rw [hke] at hde;omega
     | succ k' =>
      rw [hke] at hde;have e1:(k'+1) * b.wt<=(k'+1) * B:=Nat.mul_le_mul_left _ hb3;have e2:(k'+1) * b.wt=(k'+1) * b.surf+(k'+1) * b.inn:=by rw [<- hsi,Nat.mul_add]
      have e3:b.surf<=(k'+1) * b.surf:=Nat.le_mul_of_pos_left _ (by omega);rw [Nat.mul_comm B];omega
    omega
   ·rw [bkK,if_pos hb,y2 g (by omega) m (OW hm)];have hm2:=JK hm;simp only;rw [if_neg (by simp [G7]),r8 g (by omega) _ (OW hm2)];simp only;rw [q8 g (by omega) _ (JK hm2),Fq,Fq];simp only [AB2]
  ·rw [if_neg hb] at hk;simp only [ABZ,AB0] at hk;obtain ⟨rfl,rfl,_⟩:=hk;have hb0:Af op i=0:=by omega
   have hrel:=hA 0 p k (by simpa using hb0) rfl rfl;obtain ⟨kr,cr,ur,Tr,Nr,r1,r2,r3,r4,r5,r6,r7,F2,r8⟩:=ih s nd k _ _ t s2 nd2 hr h0 p hrel;obtain ⟨kk,cc,uu,TT,NN,q1,q2,q3,q4,q5,q6,q7,F3,q8⟩:=V9 ih op u d n n' kp0 ts e env he l lp (i+1) s2 nd2 ts2 s3 nd3 hrest (by omega) (by omega) (by simpa using hl) hA' hB';refine ⟨kr+kk,cr+cc,ur+uu,Tr+TT,Nr+NN,by omega,by omega,q3,fun h=>q4 (r4 h),?_,by omega,by omega,F2+F3,fun g hg m hm=>?_⟩
   ·rw [RV.vszL,if_neg hb,Nat.mul_add];omega
   ·rw [bkK,if_neg hb];simp only;rw [if_neg (fun h=>h hm.e),r8 g (by omega) _ (OW hm)];simp only;rw [q8 g (by omega) _ (JK hm),Fq];simp only [AB2]
theorem Ai5 (B:Nat):∀f,Aq2 B f:=by
 intro f
 induction f with
 | zero=>intro s nd v u d t s' nd' h;rw [AS] at h;cases h
 | succ f ih =>
  intro s nd v u d t s' nd' h h0 v' hv;rw [AS] at h;split at h
  ·cases h
  rename_i hr;by_cases hbig:3000<nd+1\/120<d
  ·rw [if_pos (show (0:Int)=0/\(3000<nd+1\/120<d) from ⟨rfl,hbig⟩)] at h
   simp at h
  rw [if_neg (show ¬ ((0:Int)=0/\(3000<nd+1\/120<d)) from fun h=>hbig h.2),if_neg (by simp)] at h
  have htick:∀{m:M3} {k T:Nat},MOk m k (1+T)->HY ⟨m.s,m.w,if m.e=0/\(3000<nd+1\/120<d) then 5 else m.e⟩=some (G7 m 0 1):=by
   intro m k T hm;rw [if_neg (fun h=>hbig h.2)];exact O4 hm
  by_cases h1:v.op=1
  ·rw [if_pos h1] at h;simp only [ABZ,AB0] at h;obtain ⟨rfl,rfl,rfl,_⟩:=h;obtain ⟨op,n,k,t0,e0,rfl,ho,hn⟩:=Ps hv;have hvz:v.vsz=1:=by
    cases hv with
    | var n=>simp [RV.var,RV.vsz,RV.vszL]
    | node op n n' kp kr ts e env h1'=>exact absurd h1 h1'
   refine ⟨0,0,0,1,1,by omega,by omega,by omega,id,by omega,by omega,by omega,1,fun g hg m hm=>?_⟩;obtain ⟨g,rfl⟩:∃k,g=k+1:=⟨g - 1,by omega⟩;rw [Ve,if_neg (by omega),htick (k:=0) (T:=0) hm];simp only;rw [if_neg (by simp [G7]),if_pos (by rw [<- ho];exact h1),if_neg (by rw [<- hn];omega),hn]
  ·rw [if_neg h1] at h;obtain ⟨n',kp,ts,e,env,rfl,b1,b2,b3,b4,b5,b6⟩:=JG hv h1;have b14:=Aje b1;cases hk:Bf (fun s nd e k u=>AS f s nd e k u (d+1)) f v.op u 0 v.k s (nd+1) 0 with
   | none=>rw [hk] at h;cases h
   | some q =>
   obtain ⟨rs,s1,nd1,e1⟩:=q;rw [hk] at h;simp only [AB2,ABZ,AB0] at h;obtain ⟨rfl,rfl,rfl,rfl⟩:=h;obtain ⟨kk,cc,uu,TT,NN,q1,q2,q3,q4,q5,q6,q7,F3,q8⟩:=V9 ih v.op u d v.n n' kp ts e env b6 v.k kp 0 s (nd+1) rs s1 nd1 hk (by omega) (by omega) (by omega) (fun j p r a b c=>b4 j p r (by simpa using a) b c) (by
    intro j r a b;rw [Nat.zero_add] at a ⊢;have hj:j<ts.length:=by
     have:=(List.getElem?_eq_some_iff.1 b).1
     omega
    obtain ⟨⟨g1,g2⟩,_,g3⟩:=b5 j ts[j] a (List.getElem?_eq_getElem hj);rw [b,ABZ] at g3;exact ⟨ts[j],List.getElem?_eq_getElem hj,g1,g2,g3⟩)
   have hvz:v.vsz=1+RV.vszL v.op 0 v.k:=by obtain ⟨a,b,c,d,e⟩:=v;rw [RV.vsz];rfl
   refine ⟨kk,cc,uu,1+TT,1+NN,q1,by omega,q3,q4,by omega,by omega,by omega,F3+20,fun g hg m hm=>?_⟩;obtain ⟨g,rfl⟩:∃k,g=k+1:=⟨g - 1,by omega⟩;have hm':MOk (G7 m 0 1) kk TT:=JK (k1:=0) ⟨hm.e,hm.w,hm.w2,by have:=hm.s;omega,hm.s2⟩;rw [Ve,if_neg (by omega),htick hm];simp only;rw [if_neg (by simp [G7]),if_neg h1,if_neg (by omega),q8 g (by omega) _ hm',Fq];simp only [Nat.zero_add]
theorem Amf {f:Nat} {t u:Tm} (hg:t.good) (hw:t.wt<=3000) (hs:t.shaped=true) (h:AX f t=some (u,0)):∃F,∀g,F<=g->U9 g t=some (u,0):=by
 rw [AX] at h;split at h
 ·cases h
 rename_i v s e he;split at h
 ·cases h
 rename_i w s2 nd2 e2 hr;simp only [ABZ] at h;by_cases h2:e2=0
 ·subst h2;rw [if_neg (by simp)] at h;simp only [AB0,and_true] at h;subst h;have h1:=FR hr;subst h1;obtain ⟨k0,c0,u0,T0,a1,a2,a3,v',a4,F0,a5⟩:=UG 3000 f 0 t [] v s he hg hw [] (WM _);obtain ⟨k1,c1,u1,T1,N,r1,r2,r3,r4,r5,r6,r7,F1,r8⟩:=Ai5 3000 f s 0 v 0 1 w s2 nd2 hr (by omega) v' a4;have hs1:=(Arf f).1 _ _ _ _ _ he (by omega);have hs2:=r4 hs1;have hc:=Q7 a2;have hp:=a2.p;have hk:k0+k1<=1000:=by omega
  have hc2:(k0+1) * t.wt<=(k0+1) * 3000:=Nat.mul_le_mul_left _ hw;have hvp:=Acg v;refine ⟨F0+F1,fun g hg=>?_⟩;have hm:MOk ⟨100000,5000000,0⟩ (k0+k1) (T0+T1):=⟨rfl,by simp only;omega,by simp,by simp only;omega,by simp⟩;rw [U9,if_neg (by rw [hs];simp),a5 g (by omega) _ (OW hm)];simp only;rw [if_neg (by simp [G7]),r8 g (by omega) _ (JK hm)];simp only;rw [if_neg (by simp [G7])]
 ·rw [if_pos h2] at h;simp only [AB0] at h;exact absurd h.2 h2
theorem ArY {t:Tm} (h:(t.chk 0 1).2=0):t.wt<=3000/\(t.chk 0 1).1=t.wt:=by
 have:=(PP t 0 1 (by omega)).2.2 h
 omega
theorem Ah4 {op:Int} {s:Nat} {sg:MO} (h:Rule op s sg):C4 op=(sg.length:Int):=by cases h<;>rfl
theorem Xe {op n:Int} (h1:op≠1) (h:BJ op n):J9 op n=true:=by
 unfold BJ at h;unfold J9;rw [if_neg h1];by_cases h2:op=2
 ·rw [if_pos h2] at h ⊢;simp [h]
 rw [if_neg h2] at h ⊢;by_cases h26:op=26
 ·rw [if_pos h26] at h ⊢;simp [h]
 rw [if_neg h26] at h ⊢;by_cases h25:op=25
 ·rw [if_pos h25]
 rw [if_neg h25] at h ⊢;simp [h]
theorem U3 {d:Int}:∀(l:List Tm) (n:Int),(∀(i:Nat) t,l[i]?=some t->∀n:Int,n+t.wt<=3000->t.chk n d=(n+t.wt,0))->n+Tm.wtL l<=3000->Tm.chkL l n d=(n+Tm.wtL l,0)
 | [],n,_,_=>by simp [Tm.chkL,Tm.wtL]
 | t::l,n,h,hw=>by
  simp only [Tm.wtL] at hw;have h1:=h 0 t rfl n (by omega);rw [Tm.chkL,h1];simp only [if_true];rw [U3 l (n+t.wt) (fun i t a=>h (i+1) t (by simpa using a)) (by omega)];simp only [Tm.wtL,AB0,and_true];omega
theorem Atq {G:List Nat} {t:Tm} {s:Nat} (h:NfT G t s):∀(k:Nat) (n d:Int),t.sc k->k+2 * t.dp<=3000->n+t.wt<=3000->d+t.dp<=121->t.chk n d=(n+t.wt,0):=by
 induction h with
 | var G m s h0 h hs =>
  intro k n d hsc hk hw hd;simp only [Tm.wt,Tm.wtL] at hw;simp only [Tm.dp,Tm.dpL] at hd hk;rw [Tm.sc,if_pos rfl] at hsc;rw [Tm.chk,if_neg (by omega),if_neg (by simp [C4,J9];omega),Tm.chkL];simp [Tm.wt,Tm.wtL]
 | node G op m ks s sg hr hl hst hk ih =>
  intro k n d hsc hkk hw hd;simp only [Tm.wt] at hw;simp only [Tm.dp] at hd hkk;rw [Tm.sc,if_neg (E4 hr).1] at hsc;have hc:¬ (C4 op≠(ks.length:Int)\/J9 op m=false):=by
   rw [Ah4 hr,hl,Xe (E4 hr).1 hsc.2.1];simp
  rw [Tm.chk,if_neg (by omega),if_neg hc];rw [U3 ks (n+1) (fun i t a n' hn'=>by
   have hi:i<sg.length:=by rw [<- hl];exact (List.getElem?_eq_some_iff.1 a).1
   have hwt:=Iv a;have hdt:=SV a;have hbn:=Bj op i;have hs:=LV hsc.2.2 a;rw [Nat.zero_add] at hs;exact ih i t _ _ a (List.getElem?_eq_getElem hi) (k+Af op i) n' (d+1) hs (by omega) hn' (by omega)) (by omega)]
  simp only [Tm.wt,AB0,and_true];omega
theorem Aii {n:Nat} {t u:Tm} {e:Int} (h:AZ (SS dt n 34 [.fv t.enc] ⟨[],[]⟩) (.tuple [u.enc,.int .i64 e])) (hz:e≠0->u=.z):AZ (SS dt (n+1) 14 [.fv t.enc] ⟨[],[]⟩) (.tuple [u.enc,.int .i64 e]):=by
 rw [c14];by_cases he:e=0
 ·obtain ⟨o1,p1,k1⟩:=t;obtain ⟨o2,p2,k2⟩:=u;simp only [Am] at h ⊢;simp only [V7,WL,Wf,S14,↓XX,XY,↓reduceIte,Nat.reduceBEq,Nat.reduceAdd,Int.reduceEq,Int.reduceLT,Int.reduceLE,↓Aw h,he];first | exact An _ _ | exact Ax rfl (by simp) _
 ·have:=hz he
  subst this;obtain ⟨o1,p1,k1⟩:=t;simp only [Am,Tm.z,AB4] at h ⊢;simp only [V7,WL,Wf,S14,↓XX,XY,↓reduceIte,Nat.reduceBEq,Nat.reduceAdd,Int.reduceEq,Int.reduceLT,Int.reduceLE,↓Aw h,he];first | exact An _ _ | exact Ax rfl (by simp) _
def tI:Tm:=.mk 15 0 []
def Gh (r:Int×Tm) (a:Tm):Int:=if r.1=0 then (if a.same r.2 then 0 else 11) else r.1
def JL (op:Int) (a:Tm) (r:Int×Tm):Int×Tm:=if r.1=0 then (((Tm.mk op 0 [a,r.2]).chk 0 1).2,.mk op 0 [a,r.2]) else (r.1,.z)
def Tm.kid (t:Tm) (i:Nat):Tm:=t.kids.getD i .z
def Tm.inf:Tm->List Tm->Int×Tm
 | .mk op n [],g=>if op=1 then (if (g.length:Int)<=n then (8,.z) else (0,g.getD (g.length - 1 - n.toNat) .z)) else if op=25 then (0,tI) else (10,.z)
 | .mk op _ [a],g=>if op=23 then (if (a.inf g).1=0 then (if (a.inf g).2.op=17 then (0,(a.inf g).2.kid 0) else (12,.z)) else ((a.inf g).1,.z))
  else if op=24 then (if (a.inf g).1=0 then (if (a.inf g).2.op=17 then (0,(a.inf g).2.kid 1) else (12,.z)) else ((a.inf g).1,.z)) else (10,.z)
 | .mk op _ [a,b],g =>
  if op=26 then (if Gh (a.inf g) tI=0 then (Gh (b.inf g) tI,tI) else (Gh (a.inf g) tI,.z))
  else if op=20 then (if a.typed then JL 16 a (b.inf (g++[a])) else (10,.z))
  else if op=29 then (if a.typed then (Gh (b.inf (g++[a])) a,a) else (10,.z))
  else if op=28 then (if (a.inf g).1=0 then b.inf (g++[(a.inf g).2]) else ((a.inf g).1,.z))
  else if op=22 then (if (a.inf g).1=0 then JL 17 (a.inf g).2 (b.inf g) else ((a.inf g).1,.z))
  else if op=21 then (if (a.inf g).1=0 then (if (a.inf g).2.op=16 then (Gh (b.inf g) ((a.inf g).2.kid 0),(a.inf g).2.kid 1) else (12,.z)) else ((a.inf g).1,.z))
  else (10,.z)
 | .mk op _ [a,b,c],g=>if op=27 then (if Gh (a.inf g) tI=0 then (if (b.inf g).1=0 then (Gh (c.inf g) (b.inf g).2,(b.inf g).2) else ((b.inf g).1,.z)) else (Gh (a.inf g) tI,.z)) else (10,.z)
 | _,_=>(10,.z)
mutual
def Tm.shp:Tm->Prop
 | .mk op n l=>(l.length:Int)=C4 op/\(op=1->0<=n)/\Tm.shpL l
def Tm.shpL:List Tm->Prop
 | []=>True
 | t::l=>t.shp/\Tm.shpL l
end
mutual
theorem Zs:∀(t:Tm) (n d:Int),(t.chk n d).2=0->t.shp
 | .mk op m l,n,d,h=>by
  rw [Tm.chk] at h;split at h
  ·cases h
  ·split at h
   ·cases h
   ·rename_i h1 h2;rw [Tm.shp];have h3:C4 op=(l.length:Int):=Classical.byContradiction fun e=>h2 (.inl e);have h4:J9 op m=true:=by cases hb:J9 op m with
     | true=>rfl
     | false=>exact absurd (.inr hb) h2
    refine ⟨h3.symm,?_,chkL_shp l _ _ h⟩;rintro rfl;simp [J9] at h4;exact h4.1
theorem chkL_shp:∀(l:List Tm) (n d:Int),(Tm.chkL l n d).2=0->Tm.shpL l
 | [],_,_,_=>trivial
 | t::l,n,d,h=>by
  rw [Tm.chkL] at h;split at h
  ·rename_i h1;exact ⟨Zs t _ _ h1,chkL_shp l _ _ h⟩
  ·rename_i h1;exact absurd h h1
end
theorem Ao8 {t:Tm} (h:(t.chk 0 1).2=0):t.wt<=3000:=by
 have:=(PP t 0 1 (by omega)).2.2 h
 omega
theorem Of {t:Tm} (h:t.typed=true):(t.op=15/\t.kids=[])\/((t.op=16\/t.op=17)/\∃a b,t.kids=[a,b]/\a.typed=true/\b.typed=true):=by
 obtain ⟨op,m,l⟩:=t
 match l,h with
 | [],h=>exact .inl ⟨by simpa [Tm.typed,Tm.op] using h,rfl⟩
 | [_],h=>rw [AiZ] at h;cases h
 | x::y::z::l,h=>rw [Ajx] at h;cases h
 | [a,b],h =>
  simp only [Tm.typed,Bool.and_eq_true,Bool.or_eq_true,decide_eq_true_eq] at h;exact .inr ⟨h.1,a,b,rfl,h.2.1,h.2.2⟩
theorem Uq:tI.typed=true:=by simp [tI,Tm.typed]
theorem Ahp (M:Nat) (hM:3000<=M):∀(n:Nat) (t:Tm) (g:List Tm),t.wt<n->t.wt<=M->(∀x∈g,x.typed=true/\x.wt<=M)->t.shp->(t.inf g).1=0->(t.inf g).2.typed=true/\(t.inf g).2.wt<=M:=by
 intro n
 induction n with
 | zero=>intro t g h;omega
 | succ n ih =>
  intro t g hn hw hg hs h;obtain ⟨op,m,l⟩:=t;simp only [Tm.wt] at hn hw;have hp:∀{x a:Tm},x∈g++[a]->a.typed=true/\a.wt<=M->x.typed=true/\x.wt<=M:=by
   intro x a hx ha;rcases List.mem_append.1 hx with h | h
   ·exact hg x h
   ·rw [List.mem_singleton.1 h];exact ha
  rw [Tm.shp] at hs;obtain ⟨_,hv,hs⟩:=hs
  match l,hs with
  | [],_ =>
   unfold Tm.inf at h ⊢;by_cases h1:op=1
   ·rw [if_pos h1] at h ⊢;by_cases h2:(g.length:Int)<=m
    ·rw [if_pos h2] at h;cases h
    ·rw [if_neg h2]
     have:=hv h1
     have hlt:g.length - 1 - m.toNat<g.length:=by omega
     rw [List.getD_eq_getElem?_getD,List.getElem?_eq_getElem hlt];exact hg _ (List.getElem_mem hlt)
   ·rw [if_neg h1] at h ⊢;by_cases h2:op=25
    ·rw [if_pos h2];exact ⟨Uq,by simp [tI,Tm.wt,Tm.wtL];omega⟩
    ·rw [if_neg h2] at h;cases h
  | [a],hs =>
   simp only [Tm.wtL] at hn hw;have key:(a.inf g).1=0->(a.inf g).2.op=17->∀i,i<2->((a.inf g).2.kid i).typed=true/\((a.inf g).2.kid i).wt<=M:=by
    intro h1 h2 i hi;obtain ⟨h3,h4⟩:=ih a g (by omega) (by omega) hg hs.1 h1;rcases Of h3 with ⟨h5,_⟩ | ⟨_,x,y,h6,h7,h8⟩
    ·omega
    ·generalize (a.inf g).2=r at *;obtain ⟨o,p,k⟩:=r;simp only [Tm.kids] at h6;subst h6;simp only [Tm.wt,Tm.wtL] at h4
     match i,hi with
     | 0,_=>exact ⟨h7,by show x.wt<=M;omega⟩
     | 1,_=>exact ⟨h8,by show y.wt<=M;omega⟩
   unfold Tm.inf at h ⊢;by_cases h1:op=23
   ·rw [if_pos h1] at h ⊢;by_cases h2:(a.inf g).1=0
    ·rw [if_pos h2] at h ⊢;by_cases h3:(a.inf g).2.op=17
     ·rw [if_pos h3];exact key h2 h3 0 (by decide)
     ·rw [if_neg h3] at h;cases h
    ·rw [if_neg h2] at h;exact absurd h h2
   ·rw [if_neg h1] at h ⊢;by_cases h1:op=24
    ·rw [if_pos h1] at h ⊢;by_cases h2:(a.inf g).1=0
     ·rw [if_pos h2] at h ⊢;by_cases h3:(a.inf g).2.op=17
      ·rw [if_pos h3];exact key h2 h3 1 (by decide)
      ·rw [if_neg h3] at h;cases h
     ·rw [if_neg h2] at h;exact absurd h h2
    ·rw [if_neg h1] at h;cases h
  | [a,b],hs =>
   simp only [Tm.wtL] at hn hw;have hmade:∀(o:Int) (x:Tm) (r:Int×Tm),(o=16\/o=17)->x.typed=true->(r.1=0->r.2.typed=true)->(JL o x r).1=0->(JL o x r).2.typed=true/\(JL o x r).2.wt<=M:=by
    intro o x r ho hx hr hz;unfold JL at hz ⊢;by_cases h1:r.1=0
    ·rw [if_pos h1] at hz ⊢;refine ⟨?_,Nat.le_trans (Ao8 hz) hM⟩;simp only [Tm.typed,hx,hr h1,Bool.and_true,Bool.or_eq_true,decide_eq_true_eq];exact ho
    ·rw [if_neg h1] at hz;exact absurd hz h1
   unfold Tm.inf at h ⊢;by_cases h1:op=26
   ·rw [if_pos h1] at h ⊢;by_cases h2:Gh (a.inf g) tI=0
    ·rw [if_pos h2];exact ⟨Uq,by simp [tI,Tm.wt,Tm.wtL];omega⟩
    ·rw [if_neg h2] at h;exact absurd h h2
   rw [if_neg h1] at h ⊢;by_cases h1:op=20
   ·rw [if_pos h1] at h ⊢;by_cases h2:a.typed=true
    ·rw [if_pos h2] at h ⊢;exact hmade 16 a _ (.inl rfl) h2 (fun e=>(ih b (g++[a]) (by omega) (by omega) (fun x hx=>hp hx ⟨h2,by omega⟩) hs.2.1 e).1) h
    ·rw [if_neg h2] at h;cases h
   rw [if_neg h1] at h ⊢;by_cases h1:op=29
   ·rw [if_pos h1] at h ⊢;by_cases h2:a.typed=true
    ·rw [if_pos h2];exact ⟨h2,by show a.wt<=M;omega⟩
    ·rw [if_neg h2] at h;cases h
   rw [if_neg h1] at h ⊢;by_cases h1:op=28
   ·rw [if_pos h1] at h ⊢;by_cases h2:(a.inf g).1=0
    ·rw [if_pos h2] at h ⊢;have ha:=ih a g (by omega) (by omega) hg hs.1 h2;exact ih b _ (by omega) (by omega) (fun x hx=>hp hx ha) hs.2.1 h
    ·rw [if_neg h2] at h;exact absurd h h2
   rw [if_neg h1] at h ⊢;by_cases h1:op=22
   ·rw [if_pos h1] at h ⊢;by_cases h2:(a.inf g).1=0
    ·rw [if_pos h2] at h ⊢;exact hmade 17 _ _ (.inr rfl) (ih a g (by omega) (by omega) hg hs.1 h2).1 (fun e=>(ih b g (by omega) (by omega) hg hs.2.1 e).1) h
    ·rw [if_neg h2] at h;exact absurd h h2
   rw [if_neg h1] at h ⊢;by_cases h1:op=21
   ·rw [if_pos h1] at h ⊢;by_cases h2:(a.inf g).1=0
    ·rw [if_pos h2] at h ⊢;by_cases h3:(a.inf g).2.op=16
     ·rw [if_pos h3];obtain ⟨h5,h4⟩:=ih a g (by omega) (by omega) hg hs.1 h2;rcases Of h5 with ⟨h5,_⟩ | ⟨_,x,y,h6,h7,h8⟩
      ·omega
      ·generalize (a.inf g).2=r at *;obtain ⟨o,p,k⟩:=r;simp only [Tm.kids] at h6;subst h6;simp only [Tm.wt,Tm.wtL] at h4;exact ⟨h8,by show y.wt<=M;omega⟩
     ·rw [if_neg h3] at h;cases h
    ·rw [if_neg h2] at h;exact absurd h h2
   ·rw [if_neg h1] at h;cases h
  | [a,b,c],hs =>
   simp only [Tm.wtL] at hn hw;unfold Tm.inf at h ⊢;by_cases h1:op=27
   ·rw [if_pos h1] at h ⊢;by_cases h2:Gh (a.inf g) tI=0
    ·rw [if_pos h2] at h ⊢;by_cases h3:(b.inf g).1=0
     ·rw [if_pos h3];exact ih b g (by omega) (by omega) hg hs.2.1 h3
     ·rw [if_neg h3] at h;exact absurd h h3
    ·rw [if_neg h2] at h;exact absurd h h2
   ·rw [if_neg h1] at h;cases h
  | a::b::c::d::l,_ =>
   rw [Tm.inf] at h
   ·cases h
   all_goals simp
def XK (r:Option (IV×Hp)) (q:Int×Tm):Prop:=∃u,AZ r (.tuple [Tm.enc u,.int .i64 q.1])/\(q.1=0->u=q.2)
theorem Vr {r:Option (IV×Hp)} {e:Int} {u:Tm} (h:AZ r (.tuple [u.enc,.int .i64 e])):XK r (e,u):=⟨u,h,fun _=>rfl⟩
theorem Hq {r:Option (IV×Hp)} {e:Int} {u v:Tm} (h:AZ r (.tuple [u.enc,.int .i64 e])) (he:e≠0):XK r (e,v):=⟨u,h,fun h=>absurd h he⟩
theorem Aho {op m:Int} {l:List Tm} {g:List Tm} (h:op≠1/\op≠25/\op≠23/\op≠24/\op≠26/\op≠20/\op≠29/\op≠28/\op≠22/\op≠21/\op≠27):(Tm.mk op m l).inf g=(10,.z):=by
 obtain ⟨h1,h2,h3,h4,h5,h6,h7,h8,h9,h10,h11⟩:=h
 match l with
 | []=>rw [Tm.inf,if_neg h1,if_neg h2]
 | [_]=>rw [Tm.inf,if_neg h3,if_neg h4]
 | [_,_]=>rw [Tm.inf,if_neg h5,if_neg h6,if_neg h7,if_neg h8,if_neg h9,if_neg h10]
 | [_,_,_]=>rw [Tm.inf,if_neg h11]
 | a::b::c::d::l =>
  rw [Tm.inf]
  all_goals simp
theorem AuG {l:List Tm} (h:(l.length:Int)=0):l=[]:=List.eq_nil_of_length_eq_zero (by omega)
theorem Ay8 {l:List Tm} (h:(l.length:Int)=1):∃a,l=[a]:=by
 match l,h with
 | [a],_=>exact ⟨a,rfl⟩
 | [],h=>simp at h
 | a::b::l,h=>simp only [AB3] at h;omega
theorem AhX {l:List Tm} (h:(l.length:Int)=2):∃a b,l=[a,b]:=by
 match l,h with
 | [a,b],_=>exact ⟨a,b,rfl⟩
 | [],h=>simp at h
 | [_],h=>simp at h
 | a::b::c::l,h=>simp only [AB3] at h;omega
theorem AyS {l:List Tm} (h:(l.length:Int)=3):∃a b c,l=[a,b,c]:=by
 match l,h with
 | [a,b,c],_=>exact ⟨a,b,c,rfl⟩
 | [],h=>simp at h
 | [_],h=>simp at h
 | [_,_],h=>simp at h
 | a::b::c::d::l,h=>simp only [AB3] at h;omega
theorem Qd {op:Int} (ho:op=16\/op=17) {t:Tm} (h:t.typed=true) (h1:t.op=op):∃x y,t.kids=[x,y]:=by
 rcases Of h with ⟨h2,_⟩ | ⟨_,a,b,h2,_⟩
 ·omega
 ·exact ⟨a,b,h2⟩
theorem AqA {t x y:Tm} (h:t.kids=[x,y]):(t.kid 0).wt<t.wt:=by
 obtain ⟨o,p,k⟩:=t;simp only [Tm.kids] at h;subst h
 show x.wt<_
 simp only [Tm.wt,Tm.wtL];omega
section
variable {β:Type} {E:Env}
end
end Idl
end Go.Proofs.Ytkfecngimlcfoaa
namespace Go.Proofs.Ytkfecngimlcfoaa
namespace Idl
theorem Qi {n:Nat} (g:List Tm) (a:Tm) (hg:g.length<=900000) (hn:0<n):AZ (SS dt n 76 [.fv (.sl (g.map Tm.enc)),.fv a.enc] ⟨[],[]⟩) (.sl ((g++[a]).map Tm.enc)):=by
 obtain ⟨n,rfl⟩:∃k,n=k+1:=⟨n - 1,by omega⟩;rw [c76];rw [List.map_append,AB5,AB4];cases g with
 | nil =>
  have h0:=fun {β:Type}=>YF (β:=β) (E:=EE) sTm (.sl []) (s0:=.clip []) (.inr rfl);have happ:=fun {β:Type}=>HS (β:=β) sTm (.clip [a.enc]) (Kt [a]) rfl (by simp) (s0:=.clip []) (.inr rfl);obtain ⟨o,p,k⟩:=a;rw [Am] at happ ⊢;simp only [W0,S76,↓XX,XY,↓reduceIte,Nat.reduceBEq,Nat.reduceAdd,Int.reduceEq,Int.reduceLT,Int.reduceLE,↓AkW,↓h0,↓Em,↓happ];exact Bb rfl _
 | cons t g =>
  have h0:=fun {β:Type}=>HS (β:=β) sTm (.sl ((t::g).map Tm.enc)) (Kt (t::g)) rfl (by simp at hg ⊢;omega) (s0:=.clip []) (.inr rfl);have happ:=fun (s r:Nat) (own:List (Nat×Blk)) (ext:List Blk) (k:IV->Hp->List Ref->List Ref->Option (IV×Hp))=>Kq (es:=t::g) (by omega) a r s own ext k;obtain ⟨o,p,k⟩:=a;simp only [AB5,List.map_append,AB4,List.cons_append,List.length_map,AB3] at h0 happ ⊢;rw [Am] at happ ⊢;simp only [W0,S76,↓XX,XY,↓reduceIte,Nat.reduceBEq,Nat.reduceAdd,Int.reduceEq,Int.reduceLT,Int.reduceLE,↓AkW,↓h0,↓Em,↓happ,Hl];exact Bb rfl _
mutual
def Tm.rty:Tm->Bool
 | .mk op _ l=>(decide (op=15) || (decide (op=16) || decide (op=17))) && Tm.rtyL l
def Tm.rtyL:List Tm->Bool
 | []=>true
 | t::l=>t.rty && Tm.rtyL l
end
mutual
theorem PN:∀t:Tm,t.shp->t.rty=t.typed
 | .mk op m l,h=>by
  rw [Tm.shp] at h;obtain ⟨h1,h2,h3⟩:=h;have hl:=rtyL_typed l h3;rw [Tm.rty];by_cases h15:op=15
  ·subst h15
   have:=AuG h1
   subst this;simp [Tm.typed,Tm.rtyL]
  ·by_cases h16:op=16\/op=17
   ·have hk2:C4 op=2:=by rcases h16 with rfl | rfl<;>rfl
    obtain ⟨a,b,rfl⟩:=AhX (h1.trans hk2);have ha:=hl a (by simp);have hb:=hl b (by simp);simp only [Tm.rtyL,Tm.typed,ha,hb,Bool.and_true,h15,decide_false,Bool.false_or]
   ·have:(Tm.mk op m l).typed=false:=by
     match l with
     | []=>simp [Tm.typed,h15]
     | [_]=>exact AiZ ..
     | [_,_]=>simp [Tm.typed];omega
     | x::y::z::l=>exact Ajx ..
    rw [this];simp only [Bool.and_eq_false_iff,Bool.or_eq_false_iff,decide_eq_false_iff_not];left;omega
theorem rtyL_typed:∀l:List Tm,Tm.shpL l->∀x∈l,x.rty=x.typed
 | [],_,x,hx=>by cases hx
 | t::l,h,x,hx=>by
  rcases List.mem_cons.1 hx with e | hx
  ·rw [e];exact PN t h.1
  ·exact rtyL_typed l h.2 x hx
end
theorem Amt:∀(n:Nat) (t:Tm),t.wt<n->t.wt<=1000000000->AZ (SS dt n 29 [.fv t.enc] ⟨[],[]⟩) (.bool t.rty):=by
 intro n
 induction n with
 | zero=>intro t h;omega
 | succ n ih =>
  intro t hn hw;obtain ⟨op,m,ks⟩:=t;simp only [Tm.wt] at hn hw;rw [c29,Am,Tm.rty];have hlen:=Fj ks;by_cases h:op=15\/op=16\/op=17
  ·have e:(decide (op=15) || (decide (op=16) || decide (op=17)))=true:=by
    simpa using h
   rw [e,Bool.true_and];have hl:AZ (BH n (fun q l h=>L2 l h (SS dt n) q) [.ptr (.own 30408704) 0,iv 0] ⟨[(30408704,.row [iv op,iv m,.fv (.sl (ks.map Tm.enc))] false)],[]⟩) (.bool (Tm.rtyL ks)):=by
    refine Bc (Q:=fun r=>AZ r _) (fun k V H=>∃pre rest,ks=pre++rest/\rest.length=k/\V=[.ptr (.own 30408704) 0,iv pre.length]/\H=⟨[(30408704,.row [iv op,iv m,.fv (.sl (ks.map Tm.enc))] false)],[]⟩/\Tm.rtyL rest=Tm.rtyL ks)
     ?_ n ks.length _ _ (by omega) ⟨[],ks,rfl,rfl,rfl,rfl,rfl⟩
    rintro k V H rec ⟨pre,rest,hk,hkl,rfl,rfl,hr⟩ hrec;have hkk:ks.length=pre.length+rest.length:=by rw [hk];simp
    cases rest with
    | nil =>
     have hno:¬ ((pre.length:Int)<ks.length):=by rw [hkk];simp
     rw [<- hr];simp only [Is,IB,Ij,L2,Ig,H9,S29,↓XX,XY,↓reduceIte,Nat.reduceBEq,Nat.reduceAdd,Int.reduceEq,Int.reduceLT,Int.reduceLE,hno,Tm.rtyL];exact An _ _
    | cons t rest =>
     have hi:(pre.length:Int)<ks.length:=by rw [hkk];simp;omega
     have hg:=CC hk;have htw:=CZ (t:=t) (l:=ks) (by rw [hk];simp);have hc:=ih t (by omega) (by omega);have hwi:BK ((pre.length:Int)+1)=((pre++[t]).length:Int):=(Av (by omega) (by omega)).trans (by simp);have h9:=fun e=>hrec rest.length [.ptr (.own 30408704) 0,iv (pre++[t]).length] _ (by simp only [AB3] at hkl;omega) ⟨pre++[t],rest,by rw [hk];simp,rfl,rfl,rfl,e⟩;rw [Tm.rtyL] at hr;generalize t.rty=b at hc hr;cases b
     ·rw [Bool.false_and] at hr;rw [<- hr];obtain ⟨o,p,l⟩:=t;rw [Am] at hc;simp only [Is,IB,Ij,L2,Ig,H9,S29,↓XX,XY,↓reduceIte,Nat.reduceBEq,Nat.reduceAdd,Int.reduceEq,Int.reduceLT,Int.reduceLE,hi,↓Bt (AM hg) (Bg _ _ _),↓Cd,↓Aw hc];exact An _ _
     ·rw [Bool.true_and] at hr;have h9:=h9 hr;obtain ⟨o,p,l⟩:=t;rw [Am] at hc;simp only [Is,IB,Ij,L2,Ig,H9,S29,↓XX,XY,↓reduceIte,Nat.reduceBEq,Nat.reduceAdd,Int.reduceEq,Int.reduceLT,Int.reduceLE,hi,↓Bt (AM hg) (Bg _ _ _),↓Cd,↓Aw hc,hwi];exact h9
   by_cases h1:op=15
   ·simp only [Is,IB,Ij,Ig,H9,S29,↓XX,XY,↓reduceIte,Nat.reduceBEq,Nat.reduceAdd,Int.reduceEq,Int.reduceLT,Int.reduceLE,h1];simp only [h1] at hl;exact hl
   ·by_cases h2:op=16
    ·simp only [Is,IB,Ij,Ig,H9,S29,↓XX,XY,↓reduceIte,Nat.reduceBEq,Nat.reduceAdd,Int.reduceEq,Int.reduceLT,Int.reduceLE,h1,h2];simp only [h2] at hl;exact hl
    ·have h3:op=17:=by omega
     simp only [Is,IB,Ij,Ig,H9,S29,↓XX,XY,↓reduceIte,Nat.reduceBEq,Nat.reduceAdd,Int.reduceEq,Int.reduceLT,Int.reduceLE,h1,h2,h3];simp only [h3] at hl;exact hl
  ·have h1:op≠15:=by omega
   have h2:op≠16:=by omega
   have h3:op≠17:=by omega
   simp only [Is,IB,Ij,L2,Ig,H9,S29,↓XX,XY,↓reduceIte,Nat.reduceBEq,Nat.reduceAdd,Int.reduceEq,Int.reduceLT,Int.reduceLE,h1,h2,h3,Bool.or_false];exact An _ _
theorem VA {n:Nat} (a:Tm) (e:Int) (hn:0<n) (hn:e=0->2 * a.wt+4<n):AZ (SS dt n 77 [.fv a.enc,iv e] ⟨[],[]⟩) (.tuple [a.enc,.int .i64 (if e=0 then (a.chk 0 1).2 else e)]):=by
 obtain ⟨n,rfl⟩:∃k,n=k+1:=⟨n - 1,by omega⟩;rw [c77];by_cases he:e=0
 ·have h:=Pf (n:=n) a (by have:=hn he;omega);generalize (a.chk 0 1).2=c at h ⊢;obtain ⟨o,p,k⟩:=a;rw [Am] at h ⊢;simp only [Wy,Xj,S77,↓XX,XY,↓reduceIte,Nat.reduceBEq,Nat.reduceAdd,Int.reduceEq,Int.reduceLT,Int.reduceLE,he,↓Aw h];first | exact An _ _ | exact Ax rfl (by simp) _
 ·obtain ⟨o,p,k⟩:=a;rw [Am];simp only [Wy,Xj,S77,↓XX,XY,↓reduceIte,Nat.reduceBEq,Nat.reduceAdd,Int.reduceEq,Int.reduceLT,Int.reduceLE,he];first | exact An _ _ | exact Ax rfl (by simp) _
theorem AnN {n:Nat} {g:List Tm} {t a:Tm} {q:Int×Tm} (h:XK (SS dt n 19 [.fv (.sl (g.map Tm.enc)),.fv t.enc] ⟨[],[]⟩) q) (hw:a.wt+1<n) (ha:a.wt<=100000000) :
  AZ (SS dt (n+1) 75 [.fv (.sl (g.map Tm.enc)),.fv t.enc,.fv a.enc] ⟨[],[]⟩) (.int .i64 (Gh q a)):=by
 obtain ⟨u,hu,he⟩:=h;obtain ⟨e,r⟩:=q;simp only at hu he;rw [c75];have hs:=HL n a u hw (by omega);unfold Gh;simp only;by_cases h0:e=0
 ·have hur:=he h0;subst hur h0;rw [if_pos rfl];generalize a.same u=b at hs ⊢;obtain ⟨o1,n1,k1⟩:=t;obtain ⟨o2,n2,k2⟩:=a;obtain ⟨o3,n3,k3⟩:=u;simp only [Am] at hu hs ⊢;cases b
  ·simp only [T7,Sx,S75,↓XX,XY,↓reduceIte,Nat.reduceBEq,Nat.reduceAdd,Int.reduceEq,Int.reduceLT,Int.reduceLE,↓Ag hu,↓Ag hs];exact An _ _
  ·simp only [T7,Sx,S75,↓XX,XY,↓reduceIte,Nat.reduceBEq,Nat.reduceAdd,Int.reduceEq,Int.reduceLT,Int.reduceLE,↓Ag hu,↓Ag hs];exact An _ _
 ·rw [if_neg h0];obtain ⟨o1,n1,k1⟩:=t;obtain ⟨o2,n2,k2⟩:=a;obtain ⟨o3,n3,k3⟩:=u;simp only [Am] at hu hs ⊢;simp only [T7,Sx,S75,↓XX,XY,↓reduceIte,Nat.reduceBEq,Nat.reduceAdd,Int.reduceEq,Int.reduceLT,Int.reduceLE,↓Ag hu,h0];exact An _ _
theorem QE {n:Nat} {g:List Tm} {t:Tm} {q:Int×Tm} (h:XK (SS dt n 43 [.fv (.sl (g.map Tm.enc)),.fv t.enc] ⟨[],[]⟩) q) :
  AZ (SS dt (n+1) 19 [.fv (.sl (g.map Tm.enc)),.fv t.enc] ⟨[],[]⟩) (.tuple [(if q.1=0 then q.2 else .z).enc,.int .i64 q.1]):=by
 obtain ⟨u,hu,he⟩:=h;obtain ⟨e,r⟩:=q;simp only at hu he ⊢;rw [c19];by_cases h0:e=0
 ·have hur:=he h0;subst hur h0;rw [if_pos rfl];obtain ⟨o1,n1,k1⟩:=t;obtain ⟨o3,n3,k3⟩:=u;simp only [Am] at hu ⊢;simp only [Wv,XP,WA,S19,↓XX,XY,↓reduceIte,Nat.reduceBEq,Nat.reduceAdd,Int.reduceEq,Int.reduceLT,Int.reduceLE,↓Ag hu];first | exact An _ _ | exact Ax rfl (by simp) _
 ·rw [if_neg h0];obtain ⟨o1,n1,k1⟩:=t;obtain ⟨o3,n3,k3⟩:=u;simp only [Am] at hu ⊢;simp only [Wv,XP,WA,S19,↓XX,XY,↓reduceIte,Nat.reduceBEq,Nat.reduceAdd,Int.reduceEq,Int.reduceLT,Int.reduceLE,↓Ag hu,h0,Tm.z,Am];first | exact An _ _ | exact Ax rfl (by simp) _
theorem Anq (M:Nat) (hM:3000<=M) (hM2:M<=1000000):∀(n:Nat) (t:Tm) (g:List Tm),t.shp->t.wt<=M->(∀x∈g,x.typed=true/\x.wt<=M)->g.length+t.wt<=900000->4 * t.wt+6 * M+60<n ->
  XK (SS dt n 43 [.fv (.sl (g.map Tm.enc)),.fv t.enc] ⟨[],[]⟩) (t.inf g):=by
 intro n
 induction n using Nat.strongRecOn with
 | ind n ih =>
  intro t g hs hw hg hl hn;obtain ⟨n,rfl⟩:∃k,n=k+1:=⟨n - 1,by omega⟩;obtain ⟨op,m,l⟩:=t;have hs0:=hs;rw [Tm.shp] at hs;obtain ⟨hk,hv,hsl⟩:=hs;simp only [Tm.wt] at hw hl hn;have hof:=BE (n:=n) (by omega) 15;rw [Am,AB4] at hof;have hti:=fun (k:Nat)=>Ahp M hM k;have hgx:∀a:Tm,a.typed=true/\a.wt<=M->∀x∈g++[a],x.typed=true/\x.wt<=M:=by
   intro a ha x hx;rcases List.mem_append.1 hx with h | h
   ·exact hg x h
   ·rw [List.mem_singleton.1 h];exact ha
  have hI:∀(c:Tm) (g':List Tm) (k:Nat),k+1<=n->c.shp->c.wt<=M->(∀x∈g',x.typed=true/\x.wt<=M)->g'.length+c.wt<=900000->4 * c.wt+6 * M+60<k ->
    AZ (SS dt (k+1) 19 [.fv (.sl (g'.map Tm.enc)),.fv c.enc] ⟨[],[]⟩) (.tuple [(if (c.inf g').1=0 then (c.inf g').2 else .z).enc,.int .i64 (c.inf g').1]) :=
   fun c g' k hk h1 h2 h3 h4 h5=>QE (ih k (by omega) c g' h1 h2 h3 h4 h5)
  have hck:∀(c a:Tm) (g':List Tm) (k:Nat),k+2<=n->c.shp->c.wt<=M->(∀x∈g',x.typed=true/\x.wt<=M)->g'.length+c.wt<=900000->4 * c.wt+6 * M+60<k->a.wt<=M ->
    AZ (SS dt (k+2) 75 [.fv (.sl (g'.map Tm.enc)),.fv c.enc,.fv a.enc] ⟨[],[]⟩) (.int .i64 (Gh (c.inf g') a)) :=
   fun c a g' k hk h1 h2 h3 h4 h5 h6=>AnN ⟨_,hI c g' k (by omega) h1 h2 h3 h4 h5,fun h0=>by rw [if_pos h0]⟩ (by omega) (by omega)
  show XK _ _
  rw [c43];obtain ⟨k,rfl⟩:∃k,n=k+1+1:=⟨n - 2,by omega⟩;have htw:tI.wt<=M:=by simp [tI,Tm.wt,Tm.wtL];omega
  by_cases o1:op=1
  ·subst o1
   have:=AuG hk
   subst this;have hm:=hv rfl;rw [Tm.inf,if_pos rfl,Am];by_cases h2:(g.length:Int)<=m
   ·rw [if_pos h2];refine Hq (u:=tI) ?_ (by decide);simp only [↓Fv,↓XX,XY,↓reduceIte,Nat.reduceBEq,Nat.reduceAdd,Int.reduceEq,Int.reduceLT,Int.reduceLE,↓Ag hof,h2,tI,Am];first | exact An _ _ | exact Ax rfl (by simp) _
   ·rw [if_neg h2];have hlt:g.length - 1 - m.toNat<g.length:=by omega
    have hget:g[g.length - 1 - m.toNat]?=some (g.getD (g.length - 1 - m.toNat) .z):=by
     rw [List.getD_eq_getElem?_getD,List.getElem?_eq_getElem hlt];rfl
    have w1:BK ((g.length:Int) - 1)=(g.length:Int) - 1:=by rw [Av]<;>omega
    have w2:BK ((g.length:Int) - 1 - m)=((g.length - 1 - m.toNat:Nat):Int):=by rw [Av (by omega) (by omega)];omega
    refine Vr ?_;generalize g.getD (g.length - 1 - m.toNat) .z=x at hget ⊢;obtain ⟨o,p,k⟩:=x;simp only [↓Fv,↓XX,XY,↓reduceIte,Nat.reduceBEq,Nat.reduceAdd,Int.reduceEq,Int.reduceLT,Int.reduceLE,↓Ag hof,h2,w1,w2,↓Bt (AM hget) (Bg _ _ _),↓Cd,Am];first | exact An _ _ | exact Ax rfl (by simp) _
  by_cases o2:op=25
  ·subst o2
   have:=AuG hk
   subst this;rw [Tm.inf,if_neg (by decide),if_pos rfl,Am];refine Vr ?_;simp only [↓Fv,↓XX,XY,↓reduceIte,Nat.reduceBEq,Nat.reduceAdd,Int.reduceEq,Int.reduceLT,Int.reduceLE,↓Ag hof,tI,Am];first | exact An _ _ | exact Ax rfl (by simp) _
  by_cases o3:op=26
  ·subst o3;obtain ⟨a,b,rfl⟩:=AhX hk;simp only [Tm.wtL] at hw hl hn;have ha:=hck a tI g k (by omega) hsl.1 (by omega) hg (by omega) (by omega) htw;have hb:=hck b tI g k (by omega) hsl.2.1 (by omega) hg (by omega) (by omega) htw;rw [Tm.inf,if_pos rfl];generalize Gh (a.inf g) tI=x at ha ⊢;generalize Gh (b.inf g) tI=y at hb ⊢;by_cases h:x=0
   ·rw [if_pos h];refine Vr ?_;subst h;obtain ⟨o1,n1,k1⟩:=a;obtain ⟨o2,n2,k2⟩:=b;simp only [Am,tI,AB5,AB4] at ha hb ⊢;simp only [↓Fv,↓XX,XY,↓reduceIte,Nat.reduceBEq,Nat.reduceAdd,Int.reduceEq,Int.reduceLT,Int.reduceLE,↓Ag hof,↓Cs,↓CA,↓AJ ha,↓AJ hb];first | exact An _ _ | exact Ax rfl (by simp) _
   ·rw [if_neg h];refine Hq (u:=tI) ?_ h;obtain ⟨o1,n1,k1⟩:=a;obtain ⟨o2,n2,k2⟩:=b;simp only [Am,tI,AB5,AB4] at ha hb ⊢;simp only [↓Fv,↓XX,XY,↓reduceIte,Nat.reduceBEq,Nat.reduceAdd,Int.reduceEq,Int.reduceLT,Int.reduceLE,↓Ag hof,↓Cs,↓CA,↓AJ ha,h];first | exact An _ _ | exact Ax rfl (by simp) _
  by_cases o4:op=20\/op=29
  ·have hk2:C4 op=2:=by rcases o4 with rfl | rfl<;>rfl
   obtain ⟨a,b,rfl⟩:=AhX (hk.trans hk2);simp only [Tm.wtL] at hw hl hn;have hpb:=DV b;have hty:=Amt (k+1+1) a (by omega) (by omega);rw [PN a hsl.1] at hty;have hpl:=Qi (n:=k+1+1) g a (by omega) (by omega);cases hta:a.typed
   ·rw [hta] at hty
    have:(Tm.mk op m [a,b]).inf g=(10,.z):=by rcases o4 with rfl | rfl<;>simp [Tm.inf,hta]
    rw [this];refine Hq (u:=tI) ?_ (by decide);obtain ⟨o1,n1,k1⟩:=a;obtain ⟨o2,n2,k2⟩:=b;simp only [Am,tI,AB5,AB4] at hty ⊢;rcases o4 with rfl | rfl<;>(simp only [↓Fv,↓XX,XY,↓reduceIte,Nat.reduceBEq,Nat.reduceAdd,Int.reduceEq,Int.reduceLT,Int.reduceLE,↓Ag hof,↓Cs,↓CA,↓Aw hty];first | exact An _ _ | exact Ax rfl (by simp) _)
   ·rw [hta] at hty;rcases o4 with rfl | rfl
    ·have hb:=hI b (g++[a]) (k+1) (by omega) hsl.2.1 (by omega) (hgx a ⟨hta,by omega⟩) (by simp;omega) (by omega);have htb:=hti _ b (g++[a]) (Nat.lt_succ_self _) (by omega) (hgx a ⟨hta,by omega⟩) hsl.2.1;rw [Tm.inf];simp only [hta,if_true,Int.reduceEq,if_false,JL];generalize b.inf (g++[a])=q at hb htb ⊢;obtain ⟨e,r⟩:=q;simp only at hb htb ⊢;generalize hu:(if e=0 then r else Tm.z)=u at hb;have hof2:=CO (n:=k+1+1) (by omega) 16 [a,u];have hm:=VA (n:=k+1+1) (.mk 16 0 [a,u]) e (by omega) (fun h=>by rw [if_pos h] at hu;subst hu;have:=(htb h).2;simp only [Tm.wt,Tm.wtL];omega);refine ⟨.mk 16 0 [a,u],?_,fun h0=>?_⟩
     ·have e1:(if e=0 then (((Tm.mk 16 0 [a,r]).chk 0 1).2,Tm.mk 16 0 [a,r]) else (e,.z)).1=(if e=0 then ((Tm.mk 16 0 [a,u]).chk 0 1).2 else e):=by
       by_cases h:e=0
       ·rw [if_pos h] at hu;rw [if_pos h,if_pos h,hu]
       ·rw [if_neg h,if_neg h]
      rw [e1];generalize (if e=0 then ((Tm.mk 16 0 [a,u]).chk 0 1).2 else e)=w at hm ⊢;clear hu e1 htb;obtain ⟨o1,n1,k1⟩:=a;obtain ⟨o2,n2,k2⟩:=b;obtain ⟨o3,n3,k3⟩:=u;simp only [Am,AB5,AB4,List.map_append] at hty hpl hb hof2 hm ⊢;simp only [↓Fv,↓XX,XY,↓reduceIte,Nat.reduceBEq,Nat.reduceAdd,Int.reduceEq,Int.reduceLT,Int.reduceLE,↓Ag hof,↓Cs,↓CA,↓Aw hty,↓Ag hpl,↓Ag hb,↓CT,↓Ag hof2,↓Ag hm];first | exact An _ _ | exact Ax rfl (by simp) _
     ·by_cases h:e=0
      ·rw [if_pos h] at hu;rw [if_pos h,hu]
      ·rw [if_neg h] at h0;exact absurd h0 h
    ·have hc:=hck b a (g++[a]) k (by omega) hsl.2.1 (by omega) (hgx a ⟨hta,by omega⟩) (by simp;omega) (by omega) (by omega);rw [Tm.inf];simp only [hta,if_true,Int.reduceEq,if_false];refine Vr ?_;generalize Gh (b.inf (g++[a])) a=w at hc ⊢;obtain ⟨o1,n1,k1⟩:=a;obtain ⟨o2,n2,k2⟩:=b;simp only [Am,AB5,AB4,List.map_append] at hty hpl hc ⊢;simp only [↓Fv,↓XX,XY,↓reduceIte,Nat.reduceBEq,Nat.reduceAdd,Int.reduceEq,Int.reduceLT,Int.reduceLE,↓Ag hof,↓Cs,↓CA,↓Aw hty,↓Ag hpl,↓AJ hc];first | exact An _ _ | exact Ax rfl (by simp) _
  have o7:op≠20:=fun h=>o4 (.inl h);have o8:op≠29:=fun h=>o4 (.inr h);by_cases o5:op=28
  ·subst o5;obtain ⟨a,b,rfl⟩:=AhX hk;simp only [Tm.wtL] at hw hl hn;have hpa:=DV a;have hpb:=DV b;have hta:=hti _ a g (Nat.lt_succ_self _) (by omega) hg hsl.1;have hu:=hI a g (k+1) (by omega) hsl.1 (by omega) hg (by omega) (by omega);rw [Tm.inf,if_neg (by decide),if_neg (by decide),if_neg (by decide),if_pos rfl];generalize a.inf g=q at hu hta ⊢;obtain ⟨e,u⟩:=q;simp only at hu hta ⊢;by_cases h:e=0
   ·subst h;rw [if_pos rfl] at hu ⊢;have hwi:=Qi (n:=k+1+1) g u (by omega) (by omega);have hv2:=hI b (g++[u]) (k+1) (by omega) hsl.2.1 (by omega) (hgx u (hta rfl)) (by simp;omega) (by omega);refine ⟨if (b.inf (g++[u])).1=0 then (b.inf (g++[u])).2 else .z,?_,fun h0=>if_pos h0⟩;generalize b.inf (g++[u])=q at hv2 ⊢;generalize (if q.1=0 then q.2 else Tm.z)=v at hv2 ⊢;obtain ⟨o1,n1,k1⟩:=a;obtain ⟨o2,n2,k2⟩:=b;obtain ⟨o3,n3,k3⟩:=u;obtain ⟨o4,n4,k4⟩:=v;simp only [Am,AB5,AB4,List.map_append] at hu hv2 hwi ⊢;simp only [↓Fv,↓XX,XY,↓reduceIte,Nat.reduceBEq,Nat.reduceAdd,Int.reduceEq,Int.reduceLT,Int.reduceLE,↓Ag hof,↓Cs,↓CA,↓Ag hu,↓Ag hwi,↓Ag hv2];first | exact An _ _ | exact Ax rfl (by simp) _
   ·rw [if_neg h] at hu ⊢;refine Hq (u:=.z) ?_ h;obtain ⟨o1,n1,k1⟩:=a;obtain ⟨o2,n2,k2⟩:=b;simp only [Tm.z,Am,AB5,AB4] at hu ⊢;simp only [↓Fv,↓XX,XY,↓reduceIte,Nat.reduceBEq,Nat.reduceAdd,Int.reduceEq,Int.reduceLT,Int.reduceLE,↓Ag hof,↓Cs,↓CA,↓Ag hu,h];first | exact An _ _ | exact Ax rfl (by simp) _
  by_cases o6:op=27
  ·subst o6;obtain ⟨a,b,c,rfl⟩:=AyS hk;simp only [Tm.wtL] at hw hl hn;have ha:=hck a tI g k (by omega) hsl.1 (by omega) hg (by omega) (by omega) htw;rw [Tm.inf,if_pos rfl];generalize Gh (a.inf g) tI=x at ha ⊢;by_cases h:x=0
   ·subst h;rw [if_pos rfl];have hu:=hI b g (k+1) (by omega) hsl.2.1 (by omega) hg (by omega) (by omega);have htb:=hti _ b g (Nat.lt_succ_self _) (by omega) hg hsl.2.1;have hc:=fun (y:Tm) (hy:y.wt<=M)=>hck c y g k (by omega) hsl.2.2.1 (by omega) hg (by omega) (by omega) hy;generalize b.inf g=q at hu htb ⊢;obtain ⟨e,u⟩:=q;simp only at hu htb ⊢;by_cases h:e=0
    ·subst h;rw [if_pos rfl] at hu ⊢;have hc:=hc u (htb rfl).2;refine Vr ?_;generalize Gh (c.inf g) u=w at hc ⊢;obtain ⟨o1,n1,k1⟩:=a;obtain ⟨o2,n2,k2⟩:=b;obtain ⟨o3,n3,k3⟩:=c;obtain ⟨o4,n4,k4⟩:=u;simp only [Am,tI,AB5,AB4] at ha hu hc ⊢;simp only [↓Fv,↓XX,XY,↓reduceIte,Nat.reduceBEq,Nat.reduceAdd,Int.reduceEq,Int.reduceLT,Int.reduceLE,↓Ag hof,↓Cs,↓CA,↓JS,↓AJ ha,↓Ag hu,↓AJ hc];first | exact An _ _ | exact Ax rfl (by simp) _
    ·rw [if_neg h] at hu ⊢;refine Hq (u:=.z) ?_ h;obtain ⟨o1,n1,k1⟩:=a;obtain ⟨o2,n2,k2⟩:=b;obtain ⟨o3,n3,k3⟩:=c;simp only [Am,tI,Tm.z,AB5,AB4] at ha hu ⊢;simp only [↓Fv,↓XX,XY,↓reduceIte,Nat.reduceBEq,Nat.reduceAdd,Int.reduceEq,Int.reduceLT,Int.reduceLE,↓Ag hof,↓Cs,↓CA,↓JS,↓AJ ha,↓Ag hu,h];first | exact An _ _ | exact Ax rfl (by simp) _
   ·rw [if_neg h];refine Hq (u:=tI) ?_ h;obtain ⟨o1,n1,k1⟩:=a;obtain ⟨o2,n2,k2⟩:=b;obtain ⟨o3,n3,k3⟩:=c;simp only [Am,tI,AB5,AB4] at ha ⊢;simp only [↓Fv,↓XX,XY,↓reduceIte,Nat.reduceBEq,Nat.reduceAdd,Int.reduceEq,Int.reduceLT,Int.reduceLE,↓Ag hof,↓Cs,↓CA,↓JS,↓AJ ha,h];first | exact An _ _ | exact Ax rfl (by simp) _
  by_cases p3:op=22
  ·subst p3;obtain ⟨a,b,rfl⟩:=AhX hk;simp only [Tm.wtL] at hw hl hn;have hpa:=DV a;have hpb:=DV b;have hta:=hti _ a g (Nat.lt_succ_self _) (by omega) hg hsl.1;have htb:=hti _ b g (Nat.lt_succ_self _) (by omega) hg hsl.2.1;have hu:=hI a g (k+1) (by omega) hsl.1 (by omega) hg (by omega) (by omega);have hb:=hI b g (k+1) (by omega) hsl.2.1 (by omega) hg (by omega) (by omega);rw [Tm.inf];simp only [Int.reduceEq,if_false,if_true];generalize a.inf g=q at hu hta ⊢;obtain ⟨e,u⟩:=q;simp only at hu hta ⊢;by_cases h:e=0
   ·subst h;rw [if_pos rfl] at hu ⊢;unfold JL;generalize b.inf g=q at hb htb ⊢;obtain ⟨e,r⟩:=q;simp only at hb htb ⊢;generalize hv:(if e=0 then r else Tm.z)=v at hb;have hof2:=CO (n:=k+1+1) (by omega) 17 [u,v];have hm:=VA (n:=k+1+1) (.mk 17 0 [u,v]) e (by omega) (fun h=>by rw [if_pos h] at hv;subst hv;have:=(htb h).2;have:=(hta rfl).2;simp only [Tm.wt,Tm.wtL];omega);refine ⟨.mk 17 0 [u,v],?_,fun h0=>?_⟩
    ·have e1:(if e=0 then (((Tm.mk 17 0 [u,r]).chk 0 1).2,Tm.mk 17 0 [u,r]) else (e,.z)).1=(if e=0 then ((Tm.mk 17 0 [u,v]).chk 0 1).2 else e):=by
      by_cases h:e=0
      ·rw [if_pos h] at hv;rw [if_pos h,if_pos h,hv]
      ·rw [if_neg h,if_neg h]
     rw [e1];generalize (if e=0 then ((Tm.mk 17 0 [u,v]).chk 0 1).2 else e)=w at hm ⊢;clear hv e1 htb hta;obtain ⟨o1,n1,k1⟩:=a;obtain ⟨o2,n2,k2⟩:=b;obtain ⟨o3,n3,k3⟩:=u;obtain ⟨o4,n4,k4⟩:=v;simp only [Am,AB5,AB4] at hu hb hof2 hm ⊢;simp only [↓Fv,↓XX,XY,↓reduceIte,Nat.reduceBEq,Nat.reduceAdd,Int.reduceEq,Int.reduceLT,Int.reduceLE,↓Ag hof,↓Cs,↓CA,↓Ag hu,↓Ag hb,↓CT,↓Ag hof2,↓Ag hm];first | exact An _ _ | exact Ax rfl (by simp) _
    ·by_cases h:e=0
     ·rw [if_pos h] at hv;rw [if_pos h,hv]
     ·rw [if_neg h] at h0;exact absurd h0 h
   ·rw [if_neg h] at hu ⊢;refine Hq (u:=.z) ?_ h;obtain ⟨o1,n1,k1⟩:=a;obtain ⟨o2,n2,k2⟩:=b;simp only [Am,Tm.z,AB5,AB4] at hu ⊢;simp only [↓Fv,↓XX,XY,↓reduceIte,Nat.reduceBEq,Nat.reduceAdd,Int.reduceEq,Int.reduceLT,Int.reduceLE,↓Ag hof,↓Cs,↓CA,↓Ag hu,h];first | exact An _ _ | exact Ax rfl (by simp) _
  by_cases p2:op=21
  ·subst p2;obtain ⟨a,b,rfl⟩:=AhX hk;simp only [Tm.wtL] at hw hl hn;have hta:=hti _ a g (Nat.lt_succ_self _) (by omega) hg hsl.1;have hu:=hI a g (k+1) (by omega) hsl.1 (by omega) hg (by omega) (by omega);have hc:=fun (y:Tm) (hy:y.wt<=M)=>hck b y g k (by omega) hsl.2.1 (by omega) hg (by omega) (by omega) hy;rw [Tm.inf];simp only [Int.reduceEq,if_false,if_true];generalize a.inf g=q at hu hta ⊢;obtain ⟨e,u⟩:=q;simp only at hu hta ⊢;by_cases h:e=0
   ·subst h;rw [if_pos rfl] at hu ⊢;by_cases h2:u.op=16
    ·rw [if_pos h2];obtain ⟨x,y,hxy⟩:=Qd (.inl rfl) (hta rfl).1 h2;have hc:=hc (u.kid 0) (by have:=AqA hxy;have:=(hta rfl).2;omega);obtain ⟨o3,n3,k3⟩:=u;simp only [Tm.kids,Tm.op] at hxy h2;subst hxy h2;have e0:(Tm.mk 16 n3 [x,y]).kid 0=x:=rfl;have e1:(Tm.mk 16 n3 [x,y]).kid 1=y:=rfl;rw [e0] at hc ⊢;rw [e1];by_cases h3:Gh (b.inf g) x=0
     ·rw [h3] at hc ⊢;refine Vr ?_;obtain ⟨o1,n1,k1⟩:=a;obtain ⟨o2,n2,k2⟩:=b;obtain ⟨o3,n3,k3⟩:=x;obtain ⟨o4,n4,k4⟩:=y;simp only [Am,AB5,AB4] at hu hc ⊢;simp only [↓Fv,↓XX,XY,↓reduceIte,Nat.reduceBEq,Nat.reduceAdd,Int.reduceEq,Int.reduceLT,Int.reduceLE,↓Ag hof,↓Cs,↓CA,↓Ag hu,↓AJ hc];first | exact An _ _ | exact Ax rfl (by simp) _
     ·refine Hq (u:=tI) ?_ h3;generalize Gh (b.inf g) x=w at hc h3 ⊢;obtain ⟨o1,n1,k1⟩:=a;obtain ⟨o2,n2,k2⟩:=b;obtain ⟨o3,n3,k3⟩:=x;obtain ⟨o4,n4,k4⟩:=y;simp only [Am,tI,AB5,AB4] at hu hc ⊢;simp only [↓Fv,↓XX,XY,↓reduceIte,Nat.reduceBEq,Nat.reduceAdd,Int.reduceEq,Int.reduceLT,Int.reduceLE,↓Ag hof,↓Cs,↓CA,↓Ag hu,↓AJ hc,h3];first | exact An _ _ | exact Ax rfl (by simp) _
    ·rw [if_neg h2];refine Hq (u:=tI) ?_ (by decide);obtain ⟨o1,n1,k1⟩:=a;obtain ⟨o2,n2,k2⟩:=b;obtain ⟨o3,n3,k3⟩:=u;simp only [Tm.op] at h2;simp only [Am,tI,AB5,AB4] at hu ⊢;simp only [↓Fv,↓XX,XY,↓reduceIte,Nat.reduceBEq,Nat.reduceAdd,Int.reduceEq,Int.reduceLT,Int.reduceLE,↓Ag hof,↓Cs,↓CA,↓Ag hu,h2];first | exact An _ _ | exact Ax rfl (by simp) _
   ·rw [if_neg h] at hu ⊢;refine Hq (u:=tI) ?_ h;obtain ⟨o1,n1,k1⟩:=a;obtain ⟨o2,n2,k2⟩:=b;simp only [Am,tI,Tm.z,AB5,AB4] at hu ⊢;simp only [↓Fv,↓XX,XY,↓reduceIte,Nat.reduceBEq,Nat.reduceAdd,Int.reduceEq,Int.reduceLT,Int.reduceLE,↓Ag hof,↓Cs,↓CA,↓Ag hu,h];first | exact An _ _ | exact Ax rfl (by simp) _
  by_cases p1:op=23\/op=24
  ·have hk2:C4 op=1:=by rcases p1 with rfl | rfl<;>rfl
   obtain ⟨a,rfl⟩:=Ay8 (hk.trans hk2);simp only [Tm.wtL] at hw hl hn;have hta:=hti _ a g (Nat.lt_succ_self _) (by omega) hg hsl.1;have hu:=hI a g (k+1) (by omega) hsl.1 (by omega) hg (by omega) (by omega);have hz:XK (S43 (SS dt (k+1+1)) (k+1+1) (.fv (.sl (g.map Tm.enc))) (.fv (Tm.mk op m [a]).enc) ⟨[],[]⟩) (if (a.inf g).1=0 then (if (a.inf g).2.op=17 then (0,(a.inf g).2.kid (if op=23 then 0 else 1)) else (12,.z)) else ((a.inf g).1,.z)):=by
    generalize a.inf g=q at hu hta ⊢;obtain ⟨e,u⟩:=q;simp only at hu hta ⊢;by_cases h:e=0
    ·subst h;rw [if_pos rfl] at hu ⊢;by_cases h2:u.op=17
     ·rw [if_pos h2];obtain ⟨x,y,hxy⟩:=Qd (.inr rfl) (hta rfl).1 h2;obtain ⟨o3,n3,k3⟩:=u;simp only [Tm.kids,Tm.op] at hxy h2;subst hxy h2;have w0:BK 0=0:=by rw [Av]<;>omega
      have w1:BK 1=1:=by rw [Av]<;>omega
      rcases p1 with rfl | rfl
      ·refine Vr ?_;have e0:(Tm.mk 17 n3 [x,y]).kid (if (23:Int)=23 then 0 else 1)=x:=rfl;rw [e0];obtain ⟨o1,n1,k1⟩:=a;obtain ⟨o3,n3,k3⟩:=x;obtain ⟨o4,n4,k4⟩:=y;simp only [Am,AB5,AB4] at hu ⊢;simp only [↓Fv,↓XX,XY,↓reduceIte,Nat.reduceBEq,Nat.reduceAdd,Int.reduceEq,Int.reduceLT,Int.reduceLE,↓Ag hof,Int.reduceSub,w0,↓Cs,↓CA,↓Ag hu];first | exact An _ _ | exact Ax rfl (by simp) _
      ·refine Vr ?_;have e0:(Tm.mk 17 n3 [x,y]).kid (if (24:Int)=23 then 0 else 1)=y:=rfl;rw [e0];obtain ⟨o1,n1,k1⟩:=a;obtain ⟨o3,n3,k3⟩:=x;obtain ⟨o4,n4,k4⟩:=y;simp only [Am,AB5,AB4] at hu ⊢;simp only [↓Fv,↓XX,XY,↓reduceIte,Nat.reduceBEq,Nat.reduceAdd,Int.reduceEq,Int.reduceLT,Int.reduceLE,↓Ag hof,Int.reduceSub,w1,↓Cs,↓CA,↓Ag hu];first | exact An _ _ | exact Ax rfl (by simp) _
     ·rw [if_neg h2];refine Hq (u:=tI) ?_ (by decide);obtain ⟨o1,n1,k1⟩:=a;obtain ⟨o3,n3,k3⟩:=u;simp only [Tm.op] at h2;simp only [Am,tI,AB5,AB4] at hu ⊢;rcases p1 with rfl | rfl<;>(simp only [↓Fv,↓XX,XY,↓reduceIte,Nat.reduceBEq,Nat.reduceAdd,Int.reduceEq,Int.reduceLT,Int.reduceLE,↓Ag hof,↓Cs,↓CA,↓Ag hu,h2];first | exact An _ _ | exact Ax rfl (by simp) _)
    ·rw [if_neg h] at hu ⊢;refine Hq (u:=tI) ?_ h;obtain ⟨o1,n1,k1⟩:=a;simp only [Am,tI,Tm.z,AB5,AB4] at hu ⊢;rcases p1 with rfl | rfl<;>(simp only [↓Fv,↓XX,XY,↓reduceIte,Nat.reduceBEq,Nat.reduceAdd,Int.reduceEq,Int.reduceLT,Int.reduceLE,↓Ag hof,↓Cs,↓CA,↓Ag hu,h];first | exact An _ _ | exact Ax rfl (by simp) _)
   have e:(Tm.mk op m [a]).inf g=(if (a.inf g).1=0 then (if (a.inf g).2.op=17 then (0,(a.inf g).2.kid (if op=23 then 0 else 1)) else (12,.z)) else ((a.inf g).1,.z)):=by
    rcases p1 with rfl | rfl<;>simp [Tm.inf]
   rw [e];exact hz
  have p4:op≠23:=fun h=>p1 (.inl h);have p5:op≠24:=fun h=>p1 (.inr h);rw [Aho ⟨o1,o2,p4,p5,o3,o7,o8,o5,p3,p2,o6⟩,Am];refine Hq (u:=tI) ?_ (by decide);simp only [↓Fv,↓XX,XY,↓reduceIte,Nat.reduceBEq,Nat.reduceAdd,Int.reduceEq,Int.reduceLT,Int.reduceLE,↓Ag hof,o1,o2,p4,p5,o3,o7,o8,o5,p3,p2,o6,tI,Am];first | exact An _ _ | exact Ax rfl (by simp) _
theorem AhQ (M:Nat) (hM:3000<=M) (hM2:M<=1000000) (n:Nat) (t:Tm) (g:List Tm) (h1:t.shp) (h2:t.wt<=M) (h3:∀x∈g,x.typed=true/\x.wt<=M) (h4:g.length+t.wt<=900000) (h5:4 * t.wt+6 * M+61<n) :
  AZ (SS dt n 19 [.fv (.sl (g.map Tm.enc)),.fv t.enc] ⟨[],[]⟩) (.tuple [(if (t.inf g).1=0 then (t.inf g).2 else .z).enc,.int .i64 (t.inf g).1]):=by
 obtain ⟨n,rfl⟩:∃k,n=k+1:=⟨n - 1,by omega⟩;exact QE (Anq M hM hM2 n t g h1 h2 h3 h4 (by omega))
def vT (i:Nat):Tm:=.mk 1 (i:Int) []
def LS (k:Nat) (ρ:Nat->Nat):Nat->Nat:=fun i=>if i<k then i else ρ (i - k)+k
mutual
def Tm.ren:Tm->(Nat->Nat)->Tm
 | .mk op n ks,ρ=>if op=1 then (if n<0\/ks.isEmpty=false then .mk op n ks else vT (ρ n.toNat)) else .mk op n (Tm.renL op 0 ks ρ)
def Tm.renL:Int->Nat->List Tm->(Nat->Nat)->List Tm
 | _,_,[],_=>[]
 | op,i,t::l,ρ=>t.ren (LS (Af op i) ρ)::Tm.renL op (i+1) l ρ
end
def CX (k:Nat) (σ:Nat->Tm):Nat->Tm:=fun i=>if i<k then vT i else (σ (i - k)).ren (fun j=>j+k)
mutual
def Tm.sub:Tm->(Nat->Tm)->Tm
 | .mk op n ks,σ=>if op=1 then (if n<0\/ks.isEmpty=false then .mk op n ks else σ n.toNat) else .mk op n (Tm.subL op 0 ks σ)
def Tm.subL:Int->Nat->List Tm->(Nat->Tm)->List Tm
 | _,_,[],_=>[]
 | op,i,t::l,σ=>t.sub (CX (Af op i) σ)::Tm.subL op (i+1) l σ
end
theorem Aw7 (i:Nat):¬ ((i:Int)<0\/([]:List Tm).isEmpty=false):=by
 rintro (h | h)
 ·omega
 ·cases h
theorem Hh (i:Nat) (ρ:Nat->Nat):(vT i).ren ρ=vT (ρ i):=by
 rw [vT,Tm.ren,if_pos rfl,if_neg (Aw7 i)];rfl
theorem FL (i:Nat) (σ:Nat->Tm):(vT i).sub σ=σ i:=by
 rw [vT,Tm.sub,if_pos rfl,if_neg (Aw7 i)];rfl
theorem Ib (op:Int) (ρ:Nat->Nat):∀(l:List Tm) (i:Nat),(Tm.renL op i l ρ).length=l.length
 | [],_=>rfl
 | _::l,i=>by simp only [Tm.renL,AB3,Ib op ρ l]
theorem K0 (op:Int) (σ:Nat->Tm):∀(l:List Tm) (i:Nat),(Tm.subL op i l σ).length=l.length
 | [],_=>rfl
 | _::l,i=>by simp only [Tm.subL,AB3,K0 op σ l]
theorem Nx (op:Int) (ρ:Nat->Nat):∀(l:List Tm) (i j:Nat),(Tm.renL op i l ρ)[j]?=(l[j]?).map fun t=>t.ren (LS (Af op (i+j)) ρ)
 | [],_,_=>by simp [Tm.renL]
 | t::l,i,0=>by simp [Tm.renL]
 | t::l,i,j+1=>by
  simp only [Tm.renL,List.getElem?_cons_succ];rw [Nx op ρ l (i+1) j,show i+1+j=i+(j+1) by omega]
theorem UD (op:Int) (σ:Nat->Tm):∀(l:List Tm) (i j:Nat),(Tm.subL op i l σ)[j]?=(l[j]?).map fun t=>t.sub (CX (Af op (i+j)) σ)
 | [],_,_=>by simp [Tm.subL]
 | t::l,i,0=>by simp [Tm.subL]
 | t::l,i,j+1=>by
  simp only [Tm.subL,List.getElem?_cons_succ];rw [UD op σ l (i+1) j,show i+1+j=i+(j+1) by omega]
theorem Ix {k:Nat} {ρ:Nat->Nat} {i:Nat} (h:i<k):LS k ρ i=i:=if_pos h
theorem HJ {k:Nat} {ρ:Nat->Nat} {i:Nat} (h:¬ i<k):LS k ρ i=ρ (i - k)+k:=if_neg h
theorem GW {k:Nat} {σ:Nat->Tm} {i:Nat} (h:i<k):CX k σ i=vT i:=if_pos h
theorem F5 {k:Nat} {σ:Nat->Tm} {i:Nat} (h:¬ i<k):CX k σ i=(σ (i - k)).ren fun j=>j+k:=if_neg h
theorem Akp (k:Nat) (ρ ρ':Nat->Nat):(fun i=>LS k ρ' (LS k ρ i))=LS k (fun i=>ρ' (ρ i)):=by
 funext i
 by_cases h:i<k
 ·rw [Ix (ρ:=ρ) h,Ix h,Ix h]
 ·rw [HJ (ρ:=ρ) h,HJ h,HJ (by omega),Nat.add_sub_cancel]
mutual
theorem Ky:∀(t:Tm) (ρ ρ':Nat->Nat),(t.ren ρ).ren ρ'=t.ren (fun i=>ρ' (ρ i))
 | .mk op n ks,ρ,ρ'=>by
  rw [Tm.ren,Tm.ren];by_cases h:op=1
  ·rw [if_pos h,if_pos h];by_cases hn:n<0\/ks.isEmpty=false
   ·rw [if_pos hn,if_pos hn,Tm.ren,if_pos h,if_pos hn]
   ·rw [if_neg hn,if_neg hn,Hh]
  ·rw [if_neg h,if_neg h,Tm.ren,if_neg h,renL_ren ks op 0 ρ ρ']
theorem renL_ren:∀(l:List Tm) (op:Int) (i:Nat) (ρ ρ':Nat->Nat),Tm.renL op i (Tm.renL op i l ρ) ρ'=Tm.renL op i l (fun i=>ρ' (ρ i))
 | [],_,_,_,_=>rfl
 | t::l,op,i,ρ,ρ'=>by simp only [Tm.renL,Ky t,Akp,renL_ren l]
end
theorem AoX (k:Nat) (ρ:Nat->Nat) (σ:Nat->Tm):(fun i=>CX k σ (LS k ρ i))=CX k (fun i=>σ (ρ i)):=by
 funext i
 by_cases h:i<k
 ·rw [Ix h,GW h,GW h]
 ·rw [HJ h,F5 h,F5 (by omega),Nat.add_sub_cancel]
mutual
theorem HM:∀(t:Tm) (ρ:Nat->Nat) (σ:Nat->Tm),(t.ren ρ).sub σ=t.sub (fun i=>σ (ρ i))
 | .mk op n ks,ρ,σ=>by
  rw [Tm.ren,Tm.sub];by_cases h:op=1
  ·rw [if_pos h,if_pos h];by_cases hn:n<0\/ks.isEmpty=false
   ·rw [if_pos hn,if_pos hn,Tm.sub,if_pos h,if_pos hn]
   ·rw [if_neg hn,if_neg hn,FL]
  ·rw [if_neg h,if_neg h,Tm.sub,if_neg h,subL_ren ks op 0 ρ σ]
theorem subL_ren:∀(l:List Tm) (op:Int) (i:Nat) (ρ:Nat->Nat) (σ:Nat->Tm),Tm.subL op i (Tm.renL op i l ρ) σ=Tm.subL op i l (fun i=>σ (ρ i))
 | [],_,_,_,_=>rfl
 | t::l,op,i,ρ,σ=>by simp only [Tm.renL,Tm.subL,HM t,AoX,subL_ren l]
end
theorem AeP (k:Nat) (σ:Nat->Tm) (ρ:Nat->Nat):(fun i=>(CX k σ i).ren (LS k ρ))=CX k (fun i=>(σ i).ren ρ):=by
 funext i
 by_cases h:i<k
 ·rw [GW h,GW h,Hh,Ix h]
 ·rw [F5 h,F5 h,Ky,Ky];congr 1
  funext j
  rw [HJ (by omega),Nat.add_sub_cancel]
mutual
theorem GS:∀(t:Tm) (σ:Nat->Tm) (ρ:Nat->Nat),(t.sub σ).ren ρ=t.sub (fun i=>(σ i).ren ρ)
 | .mk op n ks,σ,ρ=>by
  rw [Tm.sub,Tm.sub];by_cases h:op=1
  ·rw [if_pos h,if_pos h];by_cases hn:n<0\/ks.isEmpty=false
   ·rw [if_pos hn,if_pos hn,Tm.ren,if_pos h,if_pos hn]
   ·rw [if_neg hn,if_neg hn]
  ·rw [if_neg h,if_neg h,Tm.ren,if_neg h,renL_sub ks op 0 σ ρ]
theorem renL_sub:∀(l:List Tm) (op:Int) (i:Nat) (σ:Nat->Tm) (ρ:Nat->Nat),Tm.renL op i (Tm.subL op i l σ) ρ=Tm.subL op i l (fun i=>(σ i).ren ρ)
 | [],_,_,_,_=>rfl
 | t::l,op,i,σ,ρ=>by simp only [Tm.renL,Tm.subL,GS t,AeP,renL_sub l]
end
theorem ApB (k:Nat) (σ τ:Nat->Tm):(fun i=>(CX k σ i).sub (CX k τ))=CX k (fun i=>(σ i).sub τ):=by
 funext i
 by_cases h:i<k
 ·rw [GW h,GW h,FL,GW h]
 ·rw [F5 h,F5 h,HM,GS];congr 1
  funext j
  rw [F5 (by omega),Nat.add_sub_cancel]
mutual
theorem Fx:∀(t:Tm) (σ τ:Nat->Tm),(t.sub σ).sub τ=t.sub (fun i=>(σ i).sub τ)
 | .mk op n ks,σ,τ=>by
  rw [Tm.sub,Tm.sub];by_cases h:op=1
  ·rw [if_pos h,if_pos h];by_cases hn:n<0\/ks.isEmpty=false
   ·rw [if_pos hn,if_pos hn,Tm.sub,if_pos h,if_pos hn]
   ·rw [if_neg hn,if_neg hn]
  ·rw [if_neg h,if_neg h,Tm.sub,if_neg h,subL_sub ks op 0 σ τ]
theorem subL_sub:∀(l:List Tm) (op:Int) (i:Nat) (σ τ:Nat->Tm),Tm.subL op i (Tm.subL op i l σ) τ=Tm.subL op i l (fun i=>(σ i).sub τ)
 | [],_,_,_,_=>rfl
 | t::l,op,i,σ,τ=>by simp only [Tm.subL,Fx t,ApB,subL_sub l]
end
theorem AvB (k:Nat):CX k vT=vT:=by
 funext i
 by_cases h:i<k
 ·rw [GW h]
 ·rw [F5 h,Hh,show i - k+k=i by omega]
theorem HA:∀(t:Tm) (ρ:Nat->Nat),t.ren ρ=t.sub (fun i=>vT (ρ i)):=by
 intro t ρ;have h:∀(k:Nat) (ρ:Nat->Nat),CX k (fun i=>vT (ρ i))=fun i=>vT (LS k ρ i):=by
  intro k ρ
  funext i
  by_cases h:i<k
  ·rw [GW h,Ix h]
  ·rw [F5 h,HJ h,Hh]
 exact go h t ρ
where
 go (
   h:∀(k:Nat) (ρ:Nat->Nat),CX k (fun i=>vT (ρ i))=fun i=>vT (LS k ρ i)):∀(t:Tm) (ρ:Nat->Nat),t.ren ρ=t.sub (fun i=>vT (ρ i))
  | .mk op n ks,ρ=>by
   rw [Tm.ren,Tm.sub];by_cases ho:op=1
   ·rw [if_pos ho,if_pos ho]
   ·rw [if_neg ho,if_neg ho,goL h ks op 0 ρ]
 goL (h:∀(k:Nat) (ρ:Nat->Nat),CX k (fun i=>vT (ρ i))=fun i=>vT (LS k ρ i)):∀(l:List Tm) (op:Int) (i:Nat) (ρ:Nat->Nat),Tm.renL op i l ρ=Tm.subL op i l (fun i=>vT (ρ i))
  | [],_,_,_=>rfl
  | t::l,op,i,ρ=>by simp only [Tm.renL,Tm.subL,go h t,goL h l,h]
mutual
theorem Mj:∀(t:Tm),t.sub vT=t
 | .mk op n ks=>by
  rw [Tm.sub];by_cases ho:op=1
  ·rw [if_pos ho];by_cases hn:n<0\/ks.isEmpty=false
   ·rw [if_pos hn]
   ·rw [if_neg hn,vT,ho];have hk:ks=[]:=by
     cases ks with
     | nil=>rfl
     | cons a l=>exact absurd (.inr rfl) hn
    rw [hk];congr 1
    have:¬ n<0:=fun h=>hn (.inl h)
    omega
  ·rw [if_neg ho,subL_id ks op 0]
theorem subL_id:∀(l:List Tm) (op:Int) (i:Nat),Tm.subL op i l vT=l
 | [],_,_=>rfl
 | t::l,op,i=>by
  simp only [Tm.subL];rw [AvB,Mj t,subL_id l op (i+1)]
end
mutual
theorem LW:∀(t:Tm) (d c k:Nat),t.sc k->k+2 * t.wt+d<=9000000000000000000->t.shift d c=t.ren (fun i=>if i<c then i else i+d)
 | .mk op n ks,d,c,k,h,hk=>by
  rw [Tm.sc] at h;rw [Tm.wt] at hk;rw [Tm.shift,Tm.ren];by_cases ho:op=1
  ·subst ho;have h2:=h.2.1;rw [if_pos rfl] at h2;have hks:ks=[]:=List.eq_nil_of_length_eq_zero (Option.some.inj h.1.symm);subst hks;have hv:¬ (n<0\/([]:List Tm).isEmpty=false):=by
    rintro (h | h)
    ·omega
    ·cases h
   rw [if_pos rfl,if_neg hv,vT,Tm.shiftL];by_cases hc:(c:Int)<=n
   ·rw [if_pos ⟨rfl,hc⟩,Av (by omega) (by omega),if_neg (by omega)];congr 1;omega
   ·rw [if_neg (fun h=>hc h.2),if_pos (by omega)];congr 1;omega
  ·rw [if_neg ho,if_neg (fun h=>ho h.1),shiftL_ren ks op 0 d c k h.2.2 (by omega)]
theorem shiftL_ren:∀(l:List Tm) (op:Int) (i d c k:Nat),Tm.scL op i l k->k+2+2 * Tm.wtL l+d<=9000000000000000000->Tm.shiftL op i l d c=Tm.renL op i l (fun i=>if i<c then i else i+d)
 | [],_,_,_,_,_,_,_=>rfl
 | t::l,op,i,d,c,k,h,hk=>by
  rw [Tm.scL] at h;simp only [Tm.wtL] at hk;have hb:=Bj op i;simp only [Tm.shiftL,Tm.renL];have h1:=LW t d (c+Af op i) (k+Af op i) h.1 (by omega);rw [show ((c+Af op i:Nat):Int)=(c:Int)+(Af op i:Int) by omega] at h1
  rw [h1,shiftL_ren l op (i+1) d c k h.2 (by omega)];congr 2
  funext j
  by_cases h1:j<Af op i
  ·rw [Ix h1,if_pos (by omega)]
  ·rw [HJ h1];by_cases h2:j<c+Af op i
   ·rw [if_pos h2,if_pos (by omega)];omega
   ·rw [if_neg h2,if_neg (by omega)];omega
end
def Akf (j:Nat) (u:Tm):Nat->Tm:=fun i=>if i<j then vT i else if i=j then u.ren (fun x=>x+j) else vT (i - 1)
mutual
theorem Qa:∀(t:Tm) (j k:Nat) (u:Tm),t.sc (k+1+j)->u.sc k->k+j+2 * t.wt+2 * u.wt<=4000000000000000000->t.subst j j u=t.sub (Akf j u)
 | .mk op n ks,j,k,u,h,hu,hk=>by
  rw [Tm.sc] at h;rw [Tm.wt] at hk;rw [Tm.subst,Tm.sub];by_cases ho:op=1
  ·subst ho;have h2:=h.2.1;rw [if_pos rfl] at h2;have hks:ks=[]:=List.eq_nil_of_length_eq_zero (Option.some.inj h.1.symm);subst hks;have hv:¬ (n<0\/([]:List Tm).isEmpty=false):=by
    rintro (h | h)
    ·omega
    ·cases h
   rw [if_pos rfl,if_pos rfl,if_neg hv,Akf];by_cases h3:n=j
   ·rw [if_pos h3,if_neg (by omega),if_pos (by omega)]
    have:=LW u j 0 k hu (by omega)
    rw [show ((0:Nat):Int)=0 from rfl] at this
    rw [this];congr 1
   ·rw [if_neg h3];by_cases h4:(j:Int)<n
    ·rw [if_pos h4,if_neg (by omega),if_neg (by omega),vT,Av (by omega) (by omega)];congr 1;omega
    ·rw [if_neg h4,if_pos (by omega),vT];congr 1;omega
  ·rw [if_neg ho,if_neg ho,substL_sub ks op 0 j k u h.2.2 hu (by omega)]
theorem substL_sub:∀(l:List Tm) (op:Int) (i j k:Nat) (u:Tm),Tm.scL op i l (k+1+j)->u.sc k->k+j+2+2 * Tm.wtL l+2 * u.wt<=4000000000000000000->Tm.substL op i l j j u=Tm.subL op i l (Akf j u)
 | [],_,_,_,_,_,_,_,_=>rfl
 | t::l,op,i,j,k,u,h,hu,hk=>by
  rw [Tm.scL] at h;simp only [Tm.wtL] at hk;have hb:=Bj op i;simp only [Tm.substL,Tm.subL];have h1:=Qa t (j+Af op i) k u (by rw [<- Nat.add_assoc];exact h.1) hu (by omega);rw [show ((j+Af op i:Nat):Int)=(j:Int)+(Af op i:Int) by omega] at h1
  rw [h1,substL_sub l op (i+1) j k u h.2 hu (by omega)];congr 2
  funext x
  by_cases h1:x<Af op i
  ·rw [GW h1,Akf,if_pos (by omega)]
  ·rw [F5 h1];simp only [Akf];by_cases h2:x<j+Af op i
   ·rw [if_pos h2,if_pos (show x - Af op i<j by omega),Hh]
    congr 1;omega
   ·rw [if_neg h2,if_neg (show ¬ x - Af op i<j by omega)]
    by_cases h3:x=j+Af op i
    ·rw [if_pos h3,if_pos (show x - Af op i=j by omega),Ky]
     congr 1
     funext y
     omega
    ·rw [if_neg h3,if_neg (show ¬ x - Af op i=j by omega),Hh]
     congr 1;omega
end
end Idl
end Go.Proofs.Ytkfecngimlcfoaa

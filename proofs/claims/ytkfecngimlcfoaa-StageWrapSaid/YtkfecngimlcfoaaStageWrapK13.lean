/-
  Texts of a proof, part 13: an ideal semantics of the program, its functions in shallow form, contracts of them. No statement of the seat is proved here.
-/
import Derived.Test.YtkfecngimlcfoaaStageWrapK12
set_option linter.all false
noncomputable section
namespace Go.Proofs.Ytkfecngimlcfoaa
namespace Idl
theorem Aie (a b:Int) (s:Nat) (h:Hp) (k:IV→Hp→List Ref→List Ref→Option (IV×Hp)):Aw (Af EE 75 2 [(0,iv a),(1,iv b)]) s h k=k (.clip [.int .i64 a,.int .i64 b]) h [] []:=Ci AeB Alb (by decide) (cells:=[.int .i64 a,.int .i64 b]) rfl k
theorem TQ {β:Type} (z:Nat) (es:List FV) (x:IV) (k:IV→Option β):Bf z (.clip es) x k=Bf z (.fv (.sl es)) x k:=rfl
theorem Ao9 {β:Type} (a:Int) (r:List FV) (k:IV→Option β):Bf 1 (.fv (.sl (.int .i64 a::r))) (iv 0) k=k (.fv (.fp [.int .i64 a] 0)):=BN (el:=.int .i64 a) (n:=0) rfl rfl k
theorem AoV {β:Type} (a b:Int) (r:List FV) (k:IV→Option β):Bf 1 (.fv (.sl (.int .i64 a :: .int .i64 b::r))) (iv 1) k=k (.fv (.fp [.int .i64 b] 0)):=BN (el:=.int .i64 b) (n:=1) rfl rfl k
def Ad9 (F:FuncId) (κ e:Nat):Prop:=∀(g:Cz) (a r:Tm),GOk e g→NOk g.length a→(a.op=10∨a.op=14∨a.op=2)→∃t b,Ev F [.fv (BL g),.fv a.enc,.fv r.enc,iv ((e:Int) - 5)] (.tuple [Tm.enc t,.bool b])∧TG κ e g a t b
theorem Aha {a:Tm} {k:Nat} (h:a.sc k) (ho:a.op=10∨a.op=14∨a.op=2):∃n,a=.mk a.op n []∧(a.op=2→0≤n∧n≤2)∧(a.op≠2→n=0):=by
 obtain ⟨o,n,l⟩:=a;simp only [Tm.op] at ho ⊢;rw [Tm.sc] at h;obtain ⟨h1,h2,_⟩:=h;have h3:ar o=some 0:=by rcases ho with rfl | rfl | rfl<;>decide
 rw [h3] at h1;have hl:l=[]:=List.eq_nil_of_length_eq_zero (Option.some.inj h1).symm;subst hl;rw [if_neg (by omega)] at h2;refine ⟨n,rfl,fun h=>?_,fun h=>?_⟩
 ·subst h;rw [BW,if_pos rfl] at h2;exact h2
 ·rw [BW,if_neg h,if_neg (by omega),if_neg (by omega)] at h2;exact h2
set_option maxRecDepth 20000 in
set_option maxHeartbeats 8000000 in
theorem AeN {e:Nat} (h1e:1≤e) (he:e≤10) (hG:DS 39 1 (e - 1)) (hG2:6≤e→DS 39 1 (e - 2)):Ad9 66 3 e:=by
 intro g a r hg ha hop;have hlen:=hg.len;have hW1:Wg e=4 * Wg (e - 1):=by
  obtain ⟨f,rfl⟩:∃f,e=f+1:=⟨e - 1,by omega⟩;rw [Ln,Nat.add_sub_cancel]
 have hW0:=Lm (e - 1);have hW10:=NH he;have hD1:Dg e=Dg (e - 1)+10:=by unfold Dg;omega
 have hD0:200≤Dg (e - 1):=by unfold Dg;omega
 have hDm:Dg e≤300:=by unfold Dg;omega
 obtain ⟨an,hae,hu1,hu2⟩:=Aha ha.sc hop;have we:BM ((e:Int) - 5 - 1)=((e - 1:Nat):Int) - 5:=by rw [As (by omega) (by omega)];omega
 have hk1:=Int.emod_nonneg r.op (show (5:Int)≠0 by decide)
 have hk2:=Int.emod_lt_of_pos r.op (show (0:Int)<5 by decide)
 have aw:=ha.wt;have ad:=ha.dp;have leafT:∀op n:Int,ar op=some 0→op≠1→BW op n→TOk g.length e (.mk op n []):=fun op n h1 h2 h3=>⟨EI h1 h2 h3,by simp only [Tm.wt,Tm.wtL];omega,by simp only [Tm.dp,Tm.dpL];omega⟩;have tint:TOk g.length e (.mk 18 0 [.mk 15 0 []]):=⟨Gc (by decide) (by decide) (BV (by decide) (by decide) (by decide)) (EI (by decide) (by decide) (BV (by decide) (by decide) (by decide))),by simp only [Tm.wt,Tm.wtL];omega,by simp only [Tm.dp,Tm.dpL];omega⟩;by_cases hrec:6≤e∧r.op % 5=4∧a.op≠2
 ·obtain ⟨h6,h4,hn2⟩:=hrec;have hW2:Wg e=16 * Wg (e - 2):=by
   obtain ⟨f,rfl⟩:∃f,e=f+2:=⟨e - 2,by omega⟩;rw [show f+2=(f+1)+1 by omega,Ln,Ln,show f+1+1 - 2=f by omega];omega
  have hD2:Dg e=Dg (e - 2)+20:=by unfold Dg;omega
  have hW20:=Lm (e - 2);have we2:BM ((e:Int) - 5 - 2)=((e - 2:Nat):Int) - 5:=by rw [As (by omega) (by omega)];omega
  have hnat:∀k,NOk k (.mk 10 0 []):=fun k=>⟨EI (by decide) (by decide) (BV (by decide) (by decide) (by decide)),by simp only [Tm.wt,Tm.wtL];omega,by simp only [Tm.dp,Tm.dpL];omega⟩;have hs1:=ML ha (by omega) 1 (by omega);have hs2:=ML ha (by omega) 2 (by omega);obtain ⟨nn,p,⟨N1,h1⟩,tn⟩:=hG2 h6 g (.mk 10 0 []) (r.pick 0) (AW (by omega) hg) (Bq (hnat _));obtain ⟨z,q,⟨N2,h2⟩,tz⟩:=hG2 h6 g a (r.pick 1) (AW (by omega) hg) (Bq ha);have hg1:GOk (e - 1) (g++[(1,Tm.mk 10 0 [])]):=DE (by rw [show e - 1+1=e by omega];exact hg) (hnat _).sc (by simp only [Tm.wt,Tm.wtL];omega) (by simp only [Tm.dp,Tm.dpL];omega)
  have hg2:GOk (e - 2) ((g++[(1,Tm.mk 10 0 [])])++[(1,a.shift 1 0)]):=DE (by rw [show e - 2+1=e - 1 by omega];exact hg1) (by simpa using hs1.sc) (by rw [Fa];omega) (by rw [Fk];omega)
  obtain ⟨s,f,⟨N3,h3⟩,ts⟩:=hG2 h6 _ (a.shift 2 0) (r.pick 2) hg2 (by simpa using Bq hs2);have ss:s.sc (g.length+2):=by simpa using ts.sc
  refine ⟨.mk 13 0 [a.shift 1 0,z,s,nn],p && (q && f),⟨N1+N2+N3+100000,fun n hn=>?_⟩,?_,?_,?_,fun hb=>.recc e g a nn z s h6 (by omega) (tn.gr (KE hb)) (tz.gr (KE (IT hb))) (ts.gr (IT (IT hb)))⟩
  ·obtain ⟨n,rfl⟩:∃k,n=k+1:=⟨n - 1,by omega⟩;have h1:=h1 n (by omega);have h2:=h2 n (by omega);have h3:=h3 n (by omega);rw [← we2] at h1 h2 h3;have hw:=Ar (n:=n) (by omega) r.op (m:=5) (by omega) (by omega);rw [h4] at hw;have p0:=AI (n:=n) (by omega) r 0;have p1:=AI (n:=n) (by omega) r 1;have p2:=AI (n:=n) (by omega) r 2;have n4:=L4 (n:=n) (by omega);have m1:=EY (n:=n) g 1 (.mk 10 0 []) (by omega) (by omega);have m2:=EY (n:=n) (g++[(1,Tm.mk 10 0 [])]) 1 (a.shift 1 0) (by simp;omega) (by omega);have s1:=DC n a 1 0 (by omega) (Gp _ _ ha.sc) (by omega) (by omega);have s2:=DC n a 2 0 (by omega) (Gp _ _ ha.sc) (by omega) (by omega);have t13:=CF (n:=n) (by omega) 13 [a.shift 1 0,z,s,nn];have hd0:(0:Int)<(e:Int) - 5:=by omega
   rw [c66];clear hG hG2 tn tz ts hg hg1 hg2 ha hs1 hs2 hnat ss leafT tint hae hu1 hu2;generalize a.shift 1 0=a1 at s1 m2 t13 h3 ⊢;generalize a.shift 2 0=a2 at s2 h3;generalize r.pick 0=r0 at p0 h1;generalize r.pick 1=r1 at p1 h2;generalize r.pick 2=r2 at p2 h3;obtain ⟨o1,x1,k1⟩:=a;obtain ⟨o2,x2,k2⟩:=r;obtain ⟨o3,x3,k3⟩:=a1;obtain ⟨o4,x4,k4⟩:=a2;obtain ⟨o5,x5,k5⟩:=nn;obtain ⟨o6,x6,k6⟩:=z;obtain ⟨o7,x7,k7⟩:=s;obtain ⟨o8,x8,k8⟩:=r0;obtain ⟨o9,x9,k9⟩:=r1;obtain ⟨oa,xa,ka⟩:=r2;simp only [Tm.op] at hw hn2;simp only [BL,Arl,Ark,Am] at h1 h2 h3 p0 p1 p2 n4 m1 m2 s1 s2 t13 ⊢;cases p<;>cases q<;>(simp (maxSteps:=1000000) only [↓I4,↓XX,XY,↓reduceIte,Nat.reduceBEq,Nat.reduceAdd,Int.reduceEq,Int.reduceLT,Int.reduceLE,hd0,↓Ag hw,hn2,↓G3 n4,↓Ag p0,↓Ag p1,↓Ag p2,↓AG h1,↓AG h2,↓A5 m1,↓A5 m2,↓A5 s1,↓A5 s2,↓AG h3,↓AlY,↓Ag t13];first | exact Ao _ _ | exact AU rfl (by simp) _)
  ·exact Aj3 (by decide) (by decide) (BV (by decide) (by decide) (by decide)) hs1.sc tz.sc ss tn.sc
  ·have:=tz.wt;have:=ts.wt;have:=tn.wt;rw [wt4,Fa];omega
  ·have:=tz.dp;have:=ts.dp;have:=tn.dp;rw [dp4,Fk];omega
 have hnr:¬ (0:Int)<(e:Int) - 5∨¬ r.op % 5=4∨a.op=2:=by omega
 by_cases o10:a.op=10
 ·have hz:=hu2 (by omega);rw [hz,o10] at hae;by_cases hs:6≤e∧r.op % 2=1
  ·obtain ⟨nn,p,⟨N1,h1⟩,tn⟩:=hG g a (r.pick 0) (AW (by omega) hg) (Bq ha);refine ⟨.mk 12 0 [nn],p,⟨N1+100,fun n hn=>?_⟩,Gc (by decide) (by decide) (BV (by decide) (by decide) (by decide)) tn.sc,by have:=tn.wt;rw [wt1];omega,by have:=tn.dp;rw [dp1];omega,fun hb=>.suc e g a nn hs.1 o10 (tn.gr hb)⟩;obtain ⟨n,rfl⟩:∃k,n=k+1:=⟨n - 1,by omega⟩;have h1:=h1 n (by omega);rw [← we] at h1;have hw:=Ar (n:=n) (by omega) r.op (m:=5) (by omega) (by omega);have hw2:=Ar (n:=n) (by omega) r.op (m:=2) (by omega) (by omega);rw [hs.2] at hw2;have p0:=AI (n:=n) (by omega) r 0;have t12:=CF (n:=n) (by omega) 12 [nn];have hd0:(0:Int)<(e:Int) - 5:=by omega
   have h45:¬ r.op % 5=4:=by omega
   rw [c66];rw [hae] at h1 ⊢;clear hG hG2 tn hg ha leafT tint hae hu1 hu2 hop hnr;generalize r.op % 5=w5 at hw h45;generalize r.pick 0=r0 at p0 h1;obtain ⟨o2,x2,k2⟩:=r;obtain ⟨o5,x5,k5⟩:=nn;obtain ⟨o8,x8,k8⟩:=r0;simp only [Tm.op] at hw hw2;simp only [BL,Arl,Ark,Am] at h1 p0 t12 ⊢;simp (maxSteps:=1000000) only [↓I4,↓XX,XY,↓reduceIte,Nat.reduceBEq,Nat.reduceAdd,Int.reduceEq,Int.reduceLT,Int.reduceLE,hd0,↓Ag hw,h45,↓Ag hw2,↓Ag p0,↓AG h1,↓ED,↓Ag t12]
   first | exact Ao _ _ | exact AU rfl (by simp) _
  ·have hj1:=Int.emod_nonneg r.n (show (4:Int)≠0 by decide)
   have hj2:=Int.emod_lt_of_pos r.n (show (0:Int)<4 by decide)
   obtain ⟨j,hj⟩:∃j:Nat,r.n % 4=j:=⟨(r.n % 4).toNat,by omega⟩;refine ⟨Hk j,true,⟨100,fun n hn=>?_⟩,Aeg _ j,by rw [Wu];omega,by have:=SO (Hk j);rw [Wu] at this;omega,fun _=>.num e g a j o10 (by omega)⟩;obtain ⟨n,rfl⟩:∃k,n=k+1:=⟨n - 1,by omega⟩;have hw:=Ar (n:=n) (by omega) r.op (m:=5) (by omega) (by omega);have hw2:=Ar (n:=n) (by omega) r.op (m:=2) (by omega) (by omega);have hw4:=Ar (n:=n) (by omega) r.n (m:=4) (by omega) (by omega);rw [hj] at hw4;have hnum:=Ajb (n:=n) j (by omega) (by omega);have h45:(0:Int)<(e:Int) - 5→¬ r.op % 5=4:=by omega
   have h21:(0:Int)<(e:Int) - 5→¬ r.op % 2=1:=by omega
   rw [c66];rw [hae];clear hG hG2 hg ha leafT tint hae hu1 hu2 hop hnr hs;generalize r.op % 5=w5 at hw h45;generalize r.op % 2=w2 at hw2 h21;generalize Hk j=nm at hnum ⊢;obtain ⟨o2,x2,k2⟩:=r;obtain ⟨o5,x5,k5⟩:=nm;simp only [Tm.op,Tm.n] at hw hw2 hw4;simp only [BL,Ark,Am] at hnum ⊢;by_cases hd0:(0:Int)<(e:Int) - 5
   ·have h45:=h45 hd0;have h21:=h21 hd0;simp (maxSteps:=1000000) only [↓I4,↓XX,XY,↓reduceIte,Nat.reduceBEq,Nat.reduceAdd,Int.reduceEq,Int.reduceLT,Int.reduceLE,hd0,↓Ag hw,h45,↓Ag hw2,h21,↓Ag hw4,↓Ay hnum]
    first | exact Ao _ _ | exact AU rfl (by simp) _
   ·simp (maxSteps:=1000000) only [↓I4,↓XX,XY,↓reduceIte,Nat.reduceBEq,Nat.reduceAdd,Int.reduceEq,Int.reduceLT,Int.reduceLE,hd0,↓Ag hw4,↓Ay hnum]
    first | exact Ao _ _ | exact AU rfl (by simp) _
 by_cases o14:a.op=14
 ·have hz:=hu2 (by omega);rw [hz,o14] at hae;by_cases hs:6≤e∧1<r.op % 5
  ·obtain ⟨x,p,⟨N1,h1⟩,tx⟩:=hG g a (r.pick 0) (AW (by omega) hg) (Bq ha);obtain ⟨y,q,⟨N2,h2⟩,ty⟩:=hG g a (r.pick 1) (AW (by omega) hg) (Bq ha);have hj1:=Int.emod_nonneg r.n (show (2:Int)≠0 by decide)
   have hj2:=Int.emod_lt_of_pos r.n (show (0:Int)<2 by decide)
   obtain ⟨oo,hoo,hoo2⟩:∃oo:Int,oo=16+r.n % 2∧(oo=16∨oo=17):=⟨_,rfl,by omega⟩;have hsc:(Tm.mk oo 0 [x,y]).sc g.length:=by
    rcases hoo2 with rfl | rfl<;>exact Cl (by decide) (by decide) (BV (by decide) (by decide) (by decide)) tx.sc ty.sc
   refine ⟨.mk oo 0 [x,y],p && q,⟨N1+N2+100,fun n hn=>?_⟩,hsc,by have:=tx.wt;have:=ty.wt;rw [Ml];omega,by have:=tx.dp;have:=ty.dp;rw [OY];omega,fun hb=>.tfun e g a x y oo hoo2 hs.1 o14 (tx.gr (KE hb)) (ty.gr (IT hb))⟩;obtain ⟨n,rfl⟩:∃k,n=k+1:=⟨n - 1,by omega⟩;have h1:=h1 n (by omega);have h2:=h2 n (by omega);rw [← we] at h1 h2;have hw:=Ar (n:=n) (by omega) r.op (m:=5) (by omega) (by omega);have hw2:=Ar (n:=n) (by omega) r.n (m:=2) (by omega) (by omega);have wo:BM (16+r.n % 2)=oo:=by rw [As]<;>omega
   have p0:=AI (n:=n) (by omega) r 0;have p1:=AI (n:=n) (by omega) r 1;have t16:=CF (n:=n) (by omega) oo [x,y];rw [← wo] at t16;have hd0:(0:Int)<(e:Int) - 5:=by omega
   have h45:¬ r.op % 5=4:=by omega
   have h15:=hs.2;rw [c66];rw [hae] at h1 h2 ⊢;clear hG hG2 tx ty hg ha leafT tint hae hu1 hu2 hop hnr hs hoo2 hsc;rw [← wo];clear wo hoo;generalize r.op % 5=w5 at hw h45 h15;generalize r.n % 2=w2 at hw2 t16 ⊢;generalize r.pick 0=r0 at p0 h1;generalize r.pick 1=r1 at p1 h2;obtain ⟨o2,x2,k2⟩:=r;obtain ⟨o5,x5,k5⟩:=x;obtain ⟨o6,x6,k6⟩:=y;obtain ⟨o8,x8,k8⟩:=r0;obtain ⟨o9,x9,k9⟩:=r1;simp only [Tm.op,Tm.n] at hw hw2;simp only [BL,Arl,Ark,Am] at h1 h2 p0 p1 t16 ⊢;cases p<;>(simp (maxSteps:=1000000) only [↓I4,↓XX,XY,↓reduceIte,Nat.reduceBEq,Nat.reduceAdd,Int.reduceEq,Int.reduceLT,Int.reduceLE,hd0,↓Ag hw,h45,h15,↓Ag hw2,↓Ag p0,↓Ag p1,↓AG h1,↓AG h2,↓DR,↓Ag t16];first | exact Ao _ _ | exact AU rfl (by simp) _)
  ·refine ⟨.mk 15 0 [],true,⟨100,fun n hn=>?_⟩,tg (leafT 15 0 (by decide) (by decide) (BV (by decide) (by decide) (by decide))) (fun _=>.tint e g a o14)⟩;obtain ⟨n,rfl⟩:∃k,n=k+1:=⟨n - 1,by omega⟩;have hw:=Ar (n:=n) (by omega) r.op (m:=5) (by omega) (by omega);have t15:=EM (n:=n) (by omega) 15;have h45:(0:Int)<(e:Int) - 5→¬ r.op % 5=4∧¬ 1<r.op % 5:=by omega
   rw [c66];rw [hae];clear hG hG2 hg ha leafT tint hae hu1 hu2 hop hnr hs;generalize r.op % 5=w5 at hw h45;obtain ⟨o2,x2,k2⟩:=r;simp only [Tm.op] at hw;simp only [BL,Ark,Am] at t15 ⊢;by_cases hd0:(0:Int)<(e:Int) - 5
   ·obtain ⟨h45,h15⟩:=h45 hd0;simp (maxSteps:=1000000) only [↓I4,↓XX,XY,↓reduceIte,Nat.reduceBEq,Nat.reduceAdd,Int.reduceEq,Int.reduceLT,Int.reduceLE,hd0,↓Ag hw,h45,h15,↓Ag t15]
    first | exact Ao _ _ | exact AU rfl (by simp) _
   ·simp (maxSteps:=1000000) only [↓I4,↓XX,XY,↓reduceIte,Nat.reduceBEq,Nat.reduceAdd,Int.reduceEq,Int.reduceLT,Int.reduceLE,hd0,↓Ag t15]
    first | exact Ao _ _ | exact AU rfl (by simp) _
 have o2:a.op=2:=by omega
 obtain ⟨hu3,hu4⟩:=hu1 o2;rw [o2] at hae;by_cases hn0:0<an
 ·refine ⟨.mk 2 (an - 1) [],true,⟨100,fun n hn=>?_⟩,tg (leafT 2 (an - 1) (by decide) (by decide) (by rw [BW,if_pos rfl];omega)) (fun _=>.uni e g a _ o2)⟩;obtain ⟨n,rfl⟩:∃k,n=k+1:=⟨n - 1,by omega⟩;have hw:=Ar (n:=n) (by omega) r.op (m:=5) (by omega) (by omega);have wu:BM (an - 1)=an - 1:=by rw [As]<;>omega
  have hu:=AdC (n:=n) (by omega) (an - 1);rw [← wu] at hu;rw [c66];rw [hae,← wu];clear hG hG2 hg ha leafT tint hae hu1 hu2 hop hnr wu;generalize r.op % 5=w5 at hw;obtain ⟨o2,x2,k2⟩:=r;simp only [Tm.op] at hw;simp only [BL,Ark,Am] at hu ⊢;by_cases hd0:(0:Int)<(e:Int) - 5
  ·by_cases h4:w5=4
   ·simp (maxSteps:=1000000) only [↓I4,↓XX,XY,↓reduceIte,Nat.reduceBEq,Nat.reduceAdd,Int.reduceEq,Int.reduceLT,Int.reduceLE,hd0,↓Ag hw,h4,hn0,↓Ay hu]
    first | exact Ao _ _ | exact AU rfl (by simp) _
   ·simp (maxSteps:=1000000) only [↓I4,↓XX,XY,↓reduceIte,Nat.reduceBEq,Nat.reduceAdd,Int.reduceEq,Int.reduceLT,Int.reduceLE,hd0,↓Ag hw,h4,hn0,↓Ay hu]
    first | exact Ao _ _ | exact AU rfl (by simp) _
  ·simp (maxSteps:=1000000) only [↓I4,↓XX,XY,↓reduceIte,Nat.reduceBEq,Nat.reduceAdd,Int.reduceEq,Int.reduceLT,Int.reduceLE,hd0,hn0,↓Ay hu]
   first | exact Ao _ _ | exact AU rfl (by simp) _
 have han:an=0:=by omega
 subst han;have hq1:=Int.emod_nonneg r.op (show (4:Int)≠0 by decide)
 have hq2:=Int.emod_lt_of_pos r.op (show (0:Int)<4 by decide)
 by_cases hs:6≤e∧1<r.op % 4
 ·obtain ⟨x,p,⟨N1,h1⟩,tx⟩:=hG g a (r.pick 0) (AW (by omega) hg) (Bq ha);have hgx:GOk (e - 1) (g++[(1,x)]):=DE (by rw [show e - 1+1=e by omega];exact hg) tx.sc (by have:=tx.wt;omega) (by have:=tx.dp;omega)
  have hax:AOk (g++[(1,x)]).length a:=⟨by rw [hae];exact EI (by decide) (by decide) (by rw [BW,if_pos rfl];omega),by omega,by omega⟩;obtain ⟨y,q,⟨N2,h2⟩,ty⟩:=hG (g++[(1,x)]) a (r.pick 1) hgx hax;have ys:y.sc (g.length+1):=by simpa using ty.sc
  obtain ⟨oo,hoo⟩:∃oo:Int,oo=3∧r.op % 4=2∨oo=6∧r.op % 4=3:=by
   by_cases h7:r.op % 4=2
   ·exact ⟨3,.inl ⟨rfl,h7⟩⟩
   ·exact ⟨6,.inr ⟨rfl,by omega⟩⟩
  have hsc:(Tm.mk oo 0 [x,y]).sc g.length:=by
   rcases hoo with ⟨rfl,_⟩ | ⟨rfl,_⟩<;>exact Cl (by decide) (by decide) (BV (by decide) (by decide) (by decide)) tx.sc ys
  refine ⟨.mk oo 0 [x,y],p && q,⟨N1+N2+100,fun n hn=>?_⟩,hsc,by have:=tx.wt;have:=ty.wt;rw [Ml];omega,by have:=tx.dp;have:=ty.dp;rw [OY];omega,fun hb=>.upi e g a x y oo (by omega) hs.1 o2 (AdO tx (by omega)) (tx.gr (KE hb)) (ty.gr (IT hb))⟩;obtain ⟨n,rfl⟩:∃k,n=k+1:=⟨n - 1,by omega⟩;have h1:=h1 n (by omega);have h2:=h2 n (by omega);rw [← we] at h1 h2;have hw:=Ar (n:=n) (by omega) r.op (m:=5) (by omega) (by omega);have hw4:=Ar (n:=n) (by omega) r.op (m:=4) (by omega) (by omega);have p0:=AI (n:=n) (by omega) r 0;have p1:=AI (n:=n) (by omega) r 1;have hm:=EY (n:=n) g 1 x (by omega) (by omega);have t3:=CF (n:=n) (by omega) oo [x,y];have hd0:(0:Int)<(e:Int) - 5:=by omega
  have w22:BM (2 - 2)=0:=by rw [As]<;>omega
  have w32:BM (3 - 2)=1:=by rw [As]<;>omega
  have w0:BM 0=0:=by rw [As]<;>omega
  have w1:BM 1=1:=by rw [As]<;>omega
  rw [c66];rw [hae] at h1 h2 ⊢;clear hG hG2 tx ty hg ha leafT tint hae hu1 hu2 hop hnr hs hsc hgx hax ys;generalize r.op % 5=w5 at hw;generalize r.op % 4=w4 at hw4 hoo;generalize r.pick 0=r0 at p0 h1;generalize r.pick 1=r1 at p1 h2;obtain ⟨o2,x2,k2⟩:=r;obtain ⟨o5,x5,k5⟩:=x;obtain ⟨o6,x6,k6⟩:=y;obtain ⟨o8,x8,k8⟩:=r0;obtain ⟨o9,x9,k9⟩:=r1;simp only [Tm.op] at hw hw4;simp only [BL,Arl,Ark,Am] at h1 h2 p0 p1 hm t3 ⊢;rcases hoo with ⟨rfl,rfl⟩ | ⟨rfl,rfl⟩
  ·by_cases h4:w5=4<;>cases p<;>(simp (maxSteps:=1000000) only [↓I4,↓XX,XY,↓reduceIte,Nat.reduceBEq,Nat.reduceAdd,Int.reduceEq,Int.reduceLT,Int.reduceLE,hd0,↓Ag hw,h4,↓Ag hw4,↓Ag p0,↓Ag p1,↓AG h1,↓A5 hm,↓AG h2,↓DR,↓Aie,↓TQ,w22,w0,Int.reduceSub,↓Ao9,↓Ag t3];first | exact Ao _ _ | exact AU rfl (by simp) _)
  ·by_cases h4:w5=4<;>cases p<;>(simp (maxSteps:=1000000) only [↓I4,↓XX,XY,↓reduceIte,Nat.reduceBEq,Nat.reduceAdd,Int.reduceEq,Int.reduceLT,Int.reduceLE,hd0,↓Ag hw,h4,↓Ag hw4,↓Ag p0,↓Ag p1,↓AG h1,↓A5 hm,↓AG h2,↓DR,↓Aie,↓TQ,w32,w1,Int.reduceSub,↓AoV,↓Ag t3];first | exact Ao _ _ | exact AU rfl (by simp) _)
 ·have hj1:=Int.emod_nonneg r.n (show (3:Int)≠0 by decide)
  have hj2:=Int.emod_lt_of_pos r.n (show (0:Int)<3 by decide)
  obtain ⟨t,ht,tt⟩:∃t:Tm,(r.n % 3=0∧t=.mk 10 0 []∨r.n % 3=1∧t=.mk 14 0 []∨r.n % 3=2∧t=.mk 18 0 [.mk 15 0 []])∧TG 3 e g a t true:=by
   have h:r.n % 3=0∨r.n % 3=1∨r.n % 3=2:=by omega
   rcases h with h | h | h
   ·exact ⟨_,.inl ⟨h,rfl⟩,tg (leafT 10 0 (by decide) (by decide) (BV (by decide) (by decide) (by decide))) (fun _=>.unat e g a o2)⟩
   ·exact ⟨_,.inr (.inl ⟨h,rfl⟩),tg (leafT 14 0 (by decide) (by decide) (BV (by decide) (by decide) (by decide))) (fun _=>.uty e g a o2)⟩
   ·exact ⟨_,.inr (.inr ⟨h,rfl⟩),tg tint (fun _=>.ult e g a o2)⟩
  refine ⟨t,true,⟨100,fun n hn=>?_⟩,tt⟩;obtain ⟨n,rfl⟩:∃k,n=k+1:=⟨n - 1,by omega⟩;have hw:=Ar (n:=n) (by omega) r.op (m:=5) (by omega) (by omega);have hw4:=Ar (n:=n) (by omega) r.op (m:=4) (by omega) (by omega);have hw3:=Ar (n:=n) (by omega) r.n (m:=3) (by omega) (by omega);have n4:=L4 (n:=n) (by omega);have t14:=EM (n:=n) (by omega) 14;have t15:=EM (n:=n) (by omega) 15;have t18:=CF (n:=n) (by omega) 18 [.mk 15 0 []];have h41:(0:Int)<(e:Int) - 5→¬ 1<r.op % 4:=by omega
  rw [c66];rw [hae];clear hG hG2 hg ha leafT tint hae hu1 hu2 hop hnr hs tt;generalize r.op % 5=w5 at hw;generalize r.op % 4=w4 at hw4 h41;generalize r.n % 3=w3 at hw3 ht;obtain ⟨o2,x2,k2⟩:=r;simp only [Tm.op,Tm.n] at hw hw4 hw3;simp only [BL,Arl,Ark,Am] at n4 t14 t15 t18 ⊢;by_cases hd0:(0:Int)<(e:Int) - 5
  ·have h41:=h41 hd0;by_cases h4:w5=4
   ·rcases ht with ⟨rfl,rfl⟩ | ⟨rfl,rfl⟩ | ⟨rfl,rfl⟩<;>(simp (maxSteps:=1000000) only [↓I4,↓XX,XY,↓reduceIte,Nat.reduceBEq,Nat.reduceAdd,Int.reduceEq,Int.reduceLT,Int.reduceLE,hd0,↓Ag hw,h4,↓Ag hw4,h41,↓G3 n4,↓Ag t14,↓Ag t15,↓ED,↓Ag t18,↓Kd,↓Ag hw3,↓TQ,↓G8,↓Hj,↓Lp,Am];first | exact Ao _ _ | exact AU rfl (by simp) _)
   ·rcases ht with ⟨rfl,rfl⟩ | ⟨rfl,rfl⟩ | ⟨rfl,rfl⟩<;>(simp (maxSteps:=1000000) only [↓I4,↓XX,XY,↓reduceIte,Nat.reduceBEq,Nat.reduceAdd,Int.reduceEq,Int.reduceLT,Int.reduceLE,hd0,↓Ag hw,h4,↓Ag hw4,h41,↓G3 n4,↓Ag t14,↓Ag t15,↓ED,↓Ag t18,↓Kd,↓Ag hw3,↓TQ,↓G8,↓Hj,↓Lp,Am];first | exact Ao _ _ | exact AU rfl (by simp) _)
  ·rcases ht with ⟨rfl,rfl⟩ | ⟨rfl,rfl⟩ | ⟨rfl,rfl⟩<;>(simp (maxSteps:=1000000) only [↓I4,↓XX,XY,↓reduceIte,Nat.reduceBEq,Nat.reduceAdd,Int.reduceEq,Int.reduceLT,Int.reduceLE,hd0,↓Ag hw4,↓G3 n4,↓Ag t14,↓Ag t15,↓ED,↓Ag t18,↓Kd,↓Ag hw3,↓TQ,↓G8,↓Hj,↓Lp,Am];first | exact Ao _ _ | exact AU rfl (by simp) _)
set_option maxRecDepth 20000 in
set_option maxHeartbeats 8000000 in
theorem AbE {e:Nat} (h6:6≤e) (he:e≤10) (hO:DS 33 2 (e - 2)) (hG:DS 39 1 (e - 1)):OU 59 4 e:=by
 intro g a r hg ha;have hlen:=hg.len;have hW1:Wg e=4 * Wg (e - 1):=by
  obtain ⟨f,rfl⟩:∃f,e=f+1:=⟨e - 1,by omega⟩;rw [Ln,Nat.add_sub_cancel]
 have hW2:Wg e=16 * Wg (e - 2):=by
  obtain ⟨f,rfl⟩:∃f,e=f+2:=⟨e - 2,by omega⟩;rw [show f+2=(f+1)+1 by omega,Ln,Ln,show f+1+1 - 2=f by omega];omega
 have hW0:=Lm (e - 2);have hW10:=NH he;have hD1:Dg e=Dg (e - 1)+10:=by unfold Dg;omega
 have hD2:Dg e=Dg (e - 2)+20:=by unfold Dg;omega
 have hD0:200≤Dg (e - 2):=by unfold Dg;omega
 have hDm:Dg e≤300:=by unfold Dg;omega
 have we:BM ((e:Int) - 5 - 1)=((e - 1:Nat):Int) - 5:=by rw [As (by omega) (by omega)];omega
 have we2:BM ((e:Int) - 5 - 2)=((e - 2:Nat):Int) - 5:=by rw [As (by omega) (by omega)];omega
 have aw:=ha.wt;have ad:=ha.dp;have hk1:=Int.emod_nonneg r.n (show (7:Int)≠0 by decide)
 have hk2:=Int.emod_lt_of_pos r.n (show (0:Int)<7 by decide)
 have hi:AOk g.length (.mk 15 0 []):=⟨EI (by decide) (by decide) (BV (by decide) (by decide) (by decide)),by simp only [Tm.wt,Tm.wtL];omega,by simp only [Tm.dp,Tm.dpL];omega⟩;have hs1:=ML ha (by omega) 1 (by omega);by_cases c0:r.n % 7=0
 ·obtain ⟨c,p,⟨N1,h1⟩,tc⟩:=hO g (.mk 15 0 []) (r.pick 0) (AW (by omega) hg) hi;obtain ⟨x,q,⟨N2,h2⟩,tx⟩:=hO g a (r.pick 1) (AW (by omega) hg) (Bq ha);obtain ⟨y,f,⟨N3,h3⟩,ty⟩:=hO g a (r.pick 2) (AW (by omega) hg) (Bq ha);refine ⟨.mk 27 0 [c,x,y],p && (q && f),⟨N1+N2+N3+100000,fun n hn=>?_⟩,Vl (by decide) (by decide) (BV (by decide) (by decide) (by decide)) tc.sc tx.sc ty.sc,by have:=tc.wt;have:=tx.wt;have:=ty.wt;rw [wt3];omega,by have:=tc.dp;have:=tx.dp;have:=ty.dp;rw [dp3];omega,fun hb=>.oif e g a c x y h6 (tc.gr (KE hb)) (tx.gr (KE (IT hb))) (ty.gr (IT (IT hb)))⟩
  ·obtain ⟨n,rfl⟩:∃k,n=k+1:=⟨n - 1,by omega⟩;have h1:=h1 n (by omega);have h2:=h2 n (by omega);have h3:=h3 n (by omega);rw [← we2] at h1 h2 h3;have hw:=Ar (n:=n) (by omega) r.n (m:=7) (by omega) (by omega);have t15:=EM (n:=n) (by omega) 15;have p0:=AI (n:=n) (by omega) r 0;have p1:=AI (n:=n) (by omega) r 1;have p2:=AI (n:=n) (by omega) r 2;rw [c0] at hw;have t27:=CF (n:=n) (by omega) 27 [c,x,y];rw [c59];clear hO hG tc tx ty hg ha hi hs1;generalize r.pick 0=r0 at p0 h1;generalize r.pick 1=r1 at p1 h2;generalize r.pick 2=r2 at p2 h3;obtain ⟨o1,x1,k1⟩:=a;obtain ⟨o2,x2,k2⟩:=r;obtain ⟨o3,x3,k3⟩:=c;obtain ⟨o4,x4,k4⟩:=x;obtain ⟨o5,x5,k5⟩:=y;obtain ⟨o6,x6,k6⟩:=r0;obtain ⟨o7,x7,k7⟩:=r1;obtain ⟨o8,x8,k8⟩:=r2;simp only [Tm.n] at hw;simp only [BL,Arl,Ark,Am] at h1 h2 h3 t15 p0 p1 p2 t27 ⊢;cases p
   ·simp (maxSteps:=1000000) only [↓Sy,↓XX,XY,↓reduceIte,Nat.reduceBEq,Nat.reduceAdd,Int.reduceEq,Int.reduceLT,Int.reduceLE,↓Ag hw,↓Ag t15,↓Ag p0,↓Ag p1,↓Ag p2,↓AG h1,↓AG h2,↓AG h3,↓Kd,↓Ag t27];first | exact Ao _ _ | exact AU rfl (by simp) _
   ·cases q
    ·simp (maxSteps:=1000000) only [↓Sy,↓XX,XY,↓reduceIte,Nat.reduceBEq,Nat.reduceAdd,Int.reduceEq,Int.reduceLT,Int.reduceLE,↓Ag hw,↓Ag t15,↓Ag p0,↓Ag p1,↓Ag p2,↓AG h1,↓AG h2,↓AG h3,↓Kd,↓Ag t27];first | exact Ao _ _ | exact AU rfl (by simp) _
    ·simp (maxSteps:=1000000) only [↓Sy,↓XX,XY,↓reduceIte,Nat.reduceBEq,Nat.reduceAdd,Int.reduceEq,Int.reduceLT,Int.reduceLE,↓Ag hw,↓Ag t15,↓Ag p0,↓Ag p1,↓Ag p2,↓AG h1,↓AG h2,↓AG h3,↓Kd,↓Ag t27];first | exact Ao _ _ | exact AU rfl (by simp) _
 by_cases c12:r.n % 7=1∨r.n % 7=2
 ·have hb:=Gn g.length 1 (r.pick 0);have hbw:=Gi 1 (r.pick 0);have hbd:=SO ((r.pick 0).plainT 1);obtain ⟨b,hbe⟩:∃b,b=(r.pick 0).plainT 1:=⟨_,rfl⟩;rw [← hbe] at hb hbw hbd;obtain ⟨x,p,⟨N1,h1⟩,tx⟩:=hO g b (r.pick 1) (AW (by omega) hg) ⟨hb,by omega,by omega⟩;have hgb:GOk (e - 2) (g++[(0,b)]):=DE (AW (by omega) hg) hb (by omega) (by omega);obtain ⟨y,q,⟨N2,h2⟩,ty⟩:=hO (g++[(0,b)]) (a.shift 1 0) (r.pick 2) hgb (by simpa using Bq hs1);have ys:y.sc (g.length+1):=by simpa using ty.sc
  obtain ⟨tt,htt,hok⟩:∃tt:Tm,(r.n % 7=1∧tt=.mk 28 0 [x,y]∨r.n % 7=2∧tt=.mk 21 0 [.mk 20 0 [b,y],x])∧TG 4 e g a tt (p && q):=by
   rcases c12 with h | h
   ·exact ⟨_,.inl ⟨h,rfl⟩,Cl (by decide) (by decide) (BV (by decide) (by decide) (by decide)) tx.sc ys,by have:=tx.wt;have:=ty.wt;rw [Ml];omega,by have:=tx.dp;have:=ty.dp;rw [OY];omega,fun hpq=>by subst hbe;exact .olet e g a (r.pick 0) x y h6 (tx.gr (KE hpq)) (ty.gr (IT hpq))⟩
   ·exact ⟨_,.inr ⟨h,rfl⟩,Cl (by decide) (by decide) (BV (by decide) (by decide) (by decide)) (Cl (by decide) (by decide) (BV (by decide) (by decide) (by decide)) hb ys) tx.sc,by have:=tx.wt;have:=ty.wt;rw [Ml,Ml];omega,by have:=tx.dp;have:=ty.dp;rw [OY,OY];omega,fun hpq=>by subst hbe;exact .oapp e g a (r.pick 0) x y h6 (tx.gr (KE hpq)) (ty.gr (IT hpq))⟩
  refine ⟨tt,p && q,⟨N1+N2+100000,fun n hn=>?_⟩,hok⟩
  ·obtain ⟨n,rfl⟩:∃k,n=k+1:=⟨n - 1,by omega⟩;have h1:=h1 n (by omega);have h2:=h2 n (by omega);rw [← we2] at h1 h2;have hw:=Ar (n:=n) (by omega) r.n (m:=7) (by omega) (by omega);have t15:=EM (n:=n) (by omega) 15;have p0:=AI (n:=n) (by omega) r 0;have p1:=AI (n:=n) (by omega) r 1;have p2:=AI (n:=n) (by omega) r 2;have hp:=KQ 1 n (r.pick 0) (by omega) (by omega);rw [← hbe] at hp;have hm:=EY (n:=n) g 0 b (by omega) (by omega);have sh:=DC n a 1 0 (by omega) (Gp _ _ ha.sc) (by omega) (by omega);have t28:=CF (n:=n) (by omega) 28 [x,y];have t20:=CF (n:=n) (by omega) 20 [b,y];have t21:=CF (n:=n) (by omega) 21 [.mk 20 0 [b,y],x];rw [c59];clear hO hG tx ty hg ha hi hs1 hbe hb hgb ys hok c12;generalize r.n % 7=w7 at hw htt;generalize a.shift 1 0=a1 at sh h2;generalize r.pick 0=r0 at p0 hp;generalize r.pick 1=r1 at p1 h1;generalize r.pick 2=r2 at p2 h2;obtain ⟨o1,x1,k1⟩:=a;obtain ⟨o2,x2,k2⟩:=r;obtain ⟨o3,x3,k3⟩:=b;obtain ⟨o4,x4,k4⟩:=x;obtain ⟨o5,x5,k5⟩:=y;obtain ⟨o6,x6,k6⟩:=r0;obtain ⟨o7,x7,k7⟩:=r1;obtain ⟨o8,x8,k8⟩:=r2;obtain ⟨o9,x9,k9⟩:=a1;simp only [Tm.n] at hw;simp only [BL,Arl,Ark,Am] at h1 h2 t15 p0 p1 p2 hp hm sh t28 t20 t21 ⊢;rcases htt with ⟨rfl,rfl⟩ | ⟨rfl,rfl⟩
   ·cases p<;>(simp (maxSteps:=1000000) only [↓Sy,↓XX,XY,↓reduceIte,Nat.reduceBEq,Nat.reduceAdd,Int.reduceEq,Int.reduceLT,Int.reduceLE,↓Ag hw,↓Ag t15,↓Ag p0,↓Ag p1,↓Ag p2,↓Ag hp,↓AG h1,↓A5 hm,↓A5 sh,↓AG h2,↓DR,↓Ag t28,Am,Arl,Ark];first | exact Ao _ _ | exact AU rfl (by simp) _)
   ·cases p<;>(simp (maxSteps:=1000000) only [↓Sy,↓XX,XY,↓reduceIte,Nat.reduceBEq,Nat.reduceAdd,Int.reduceEq,Int.reduceLT,Int.reduceLE,↓Ag hw,↓Ag t15,↓Ag p0,↓Ag p1,↓Ag p2,↓Ag hp,↓AG h1,↓A5 hm,↓A5 sh,↓AG h2,↓DR,↓Ag t20,↓Ag t21,Am,Arl,Ark];first | exact Ao _ _ | exact AU rfl (by simp) _)
 by_cases c3:r.n % 7=3
 ·obtain ⟨x,p,⟨N1,h1⟩,tx⟩:=hO g a (r.pick 0) (AW (by omega) hg) (Bq ha);obtain ⟨y,q,⟨N2,h2⟩,ty⟩:=hO g (.mk 15 0 []) (r.pick 1) (AW (by omega) hg) hi;refine ⟨.mk 23 0 [.mk 22 0 [x,y]],p && q,⟨N1+N2+100000,fun n hn=>?_⟩,Gc (by decide) (by decide) (BV (by decide) (by decide) (by decide)) (Cl (by decide) (by decide) (BV (by decide) (by decide) (by decide)) tx.sc ty.sc),by have:=tx.wt;have:=ty.wt;rw [wt1,Ml];omega,by have:=tx.dp;have:=ty.dp;rw [dp1,OY];omega,fun hb=>.ofst e g a x y h6 (tx.gr (KE hb)) (ty.gr (IT hb))⟩
  ·obtain ⟨n,rfl⟩:∃k,n=k+1:=⟨n - 1,by omega⟩;have h1:=h1 n (by omega);have h2:=h2 n (by omega);rw [← we2] at h1 h2;have hw:=Ar (n:=n) (by omega) r.n (m:=7) (by omega) (by omega);have t15:=EM (n:=n) (by omega) 15;have p0:=AI (n:=n) (by omega) r 0;have p1:=AI (n:=n) (by omega) r 1;have p2:=AI (n:=n) (by omega) r 2;rw [c3] at hw;have t22:=CF (n:=n) (by omega) 22 [x,y];have t23:=CF (n:=n) (by omega) 23 [.mk 22 0 [x,y]];rw [c59];clear hO hG tx ty hg ha hi hs1;generalize r.pick 0=r0 at p0 h1;generalize r.pick 1=r1 at p1 h2;obtain ⟨o1,x1,k1⟩:=a;obtain ⟨o2,x2,k2⟩:=r;obtain ⟨o4,x4,k4⟩:=x;obtain ⟨o5,x5,k5⟩:=y;obtain ⟨o6,x6,k6⟩:=r0;obtain ⟨o7,x7,k7⟩:=r1;simp only [Tm.n] at hw;simp only [BL,Arl,Ark,Am] at h1 h2 t15 p0 p1 t22 t23 ⊢;cases p<;>(simp (maxSteps:=1000000) only [↓Sy,↓XX,XY,↓reduceIte,Nat.reduceBEq,Nat.reduceAdd,Int.reduceEq,Int.reduceLT,Int.reduceLE,↓Ag hw,↓Ag t15,↓Ag p0,↓Ag p1,↓AG h1,↓AG h2,↓DR,↓ED,↓Ag t22,↓Ag t23];first | exact Ao _ _ | exact AU rfl (by simp) _)
 by_cases c4:r.n % 7=4
 ·have hga:GOk (e - 2) (g++[(0,a)]):=DE (AW (by omega) hg) ha.sc (by omega) (by omega);obtain ⟨x,p,⟨N1,h1⟩,tx⟩:=hO (g++[(0,a)]) (a.shift 1 0) (r.pick 0) hga (by simpa using Bq hs1);have xs:x.sc (g.length+1):=by simpa using tx.sc
  refine ⟨.mk 29 0 [a,x],p,⟨N1+100000,fun n hn=>?_⟩,Cl (by decide) (by decide) (BV (by decide) (by decide) (by decide)) ha.sc xs,by have:=tx.wt;rw [Ml];omega,by have:=tx.dp;rw [OY];omega,fun hb=>.ofix e g a x h6 (tx.gr hb)⟩
  ·obtain ⟨n,rfl⟩:∃k,n=k+1:=⟨n - 1,by omega⟩;have h1:=h1 n (by omega);rw [← we2] at h1;have hw:=Ar (n:=n) (by omega) r.n (m:=7) (by omega) (by omega);have t15:=EM (n:=n) (by omega) 15;have p0:=AI (n:=n) (by omega) r 0;have p1:=AI (n:=n) (by omega) r 1;have p2:=AI (n:=n) (by omega) r 2;rw [c4] at hw;have hm:=EY (n:=n) g 0 a (by omega) (by omega);have sh:=DC n a 1 0 (by omega) (Gp _ _ ha.sc) (by omega) (by omega);have t29:=CF (n:=n) (by omega) 29 [a,x];rw [c59];clear hO hG tx hg ha hi hs1 hga xs;generalize a.shift 1 0=a1 at sh h1;generalize r.pick 0=r0 at p0 h1;obtain ⟨o1,x1,k1⟩:=a;obtain ⟨o2,x2,k2⟩:=r;obtain ⟨o4,x4,k4⟩:=x;obtain ⟨o6,x6,k6⟩:=r0;obtain ⟨o9,x9,k9⟩:=a1;simp only [Tm.n] at hw;simp only [BL,Arl,Ark,Am] at h1 t15 p0 hm sh t29 ⊢;simp (maxSteps:=1000000) only [↓Sy,↓XX,XY,↓reduceIte,Nat.reduceBEq,Nat.reduceAdd,Int.reduceEq,Int.reduceLT,Int.reduceLE,↓Ag hw,↓Ag t15,↓Ag p0,↓A5 hm,↓A5 sh,↓AG h1,↓DR,↓Ag t29];first | exact Ao _ _ | exact AU rfl (by simp) _
 ·have hla:AOk g.length (.mk 18 0 [a]):=⟨Gc (by decide) (by decide) (BV (by decide) (by decide) (by decide)) ha.sc,by rw [wt1];omega,by rw [dp1];omega⟩;obtain ⟨x,p,⟨N1,h1⟩,tx⟩:=hG g (.mk 18 0 [a]) (r.pick 0) (AW (by omega) hg) hla;refine ⟨.mk 30 0 [x],p,⟨N1+100000,fun n hn=>?_⟩,Gc (by decide) (by decide) (BV (by decide) (by decide) (by decide)) tx.sc,by have:=tx.wt;rw [wt1];omega,by have:=tx.dp;rw [dp1];omega,fun hb=>.spl e g a x h6 (tx.gr hb)⟩
  ·obtain ⟨n,rfl⟩:∃k,n=k+1:=⟨n - 1,by omega⟩;have h1:=h1 n (by omega);rw [← we] at h1;have hw:=Ar (n:=n) (by omega) r.n (m:=7) (by omega) (by omega);have t15:=EM (n:=n) (by omega) 15;have p0:=AI (n:=n) (by omega) r 0;have p1:=AI (n:=n) (by omega) r 1;have p2:=AI (n:=n) (by omega) r 2;have c1:¬ r.n % 7=1:=fun h=>c12 (.inl h);have c2:¬ r.n % 7=2:=fun h=>c12 (.inr h);have t18:=CF (n:=n) (by omega) 18 [a];have t30:=CF (n:=n) (by omega) 30 [x];rw [c59];clear hO hG tx hg ha hi hs1 hla c12 hk1 hk2;generalize r.n % 7=w7 at hw c0 c1 c2 c3 c4;generalize r.pick 0=r0 at p0 h1;obtain ⟨o1,x1,k1⟩:=a;obtain ⟨o2,x2,k2⟩:=r;obtain ⟨o4,x4,k4⟩:=x;obtain ⟨o6,x6,k6⟩:=r0;simp only [Tm.n] at hw;simp only [BL,Arl,Ark,Am] at h1 t15 p0 t18 t30 ⊢;simp (maxSteps:=1000000) only [↓Sy,↓XX,XY,↓reduceIte,Nat.reduceBEq,Nat.reduceAdd,Int.reduceEq,Int.reduceLT,Int.reduceLE,↓Ag hw,c0,c1,c2,c3,c4,↓Ag t15,↓Ag p0,↓ED,↓Ag t18,↓AG h1,↓Ag t30];first | exact Ao _ _ | exact AU rfl (by simp) _
theorem Gt {k:Nat} {a:Tm} {r:Nat} (h:NOk k a) (hr:ar a.op=some r):a.kids.length=r:=JO h.sc rfl hr
theorem ZQ {l:List Tm} (h:l.length=2):∃x y,l=[x,y]:=by
 match l,h with
 | [x,y],_=>exact ⟨x,y,rfl⟩
theorem Al0 {l:List Tm} (h:l.length=1):∃x,l=[x]:=by
 match l,h with
 | [x],_=>exact ⟨x,rfl⟩
theorem AmH {l:List Tm} (h:l.length=0):l=[]:=List.eq_nil_of_length_eq_zero h
set_option maxRecDepth 20000 in
set_option maxHeartbeats 8000000 in
theorem Acx {e:Nat} (he:e≤10) (hO:1≤e→DS 33 2 (e - 1)) (hA:6≤e→OU 59 4 e):DS 33 2 e:=by
 intro g a0 r hg ha0;have hlen:=hg.len;have hW0:=Lm e;have hD0:200≤Dg e:=by unfold Dg;omega
 have hDm:Dg e≤300:=by unfold Dg;omega
 have hW10:=NH he;obtain ⟨a,er,⟨N0,h0⟩,hcase,fn,hfn⟩:=Hb (k:=g.length) (by omega) ha0.sc (by have:=ha0.dp;omega);rcases hcase with ⟨rfl,ha⟩ | ⟨her,rfl⟩
 case inr =>
  have hne:er≠0:=by omega
  refine ⟨.z,false,⟨N0+100,fun n hn=>?_⟩,AiN _,by simp only [Tm.z,Tm.wt,Tm.wtL];omega,by simp only [Tm.z,Tm.dp,Tm.dpL];omega,fun h=>by cases h⟩;obtain ⟨n,rfl⟩:∃k,n=k+1:=⟨n - 1,by omega⟩;have h0:=h0 n (by omega);rw [c33];clear hO hA hg ha0;obtain ⟨o1,x1,k1⟩:=a0;obtain ⟨o2,x2,k2⟩:=r;simp only [BL,Tm.z,Ark,Am] at h0 ⊢;simp (maxSteps:=1000000) only [↓Nb,↓XX,XY,↓reduceIte,Nat.reduceBEq,Nat.reduceAdd,Int.reduceEq,Int.reduceLT,Int.reduceLE,↓Ay h0,hne];first | exact Ao _ _ | exact AU rfl (by simp) _
 obtain ⟨v,is,⟨N1,h1⟩,tv0,hhit⟩:=Lf hg 0 ha r.n;have up:∀{t:Tm},Gr 4 e g a t→Gr 2 e g a0 t:=fun h=>.objc e g a0 a _ fn hfn (by omega) ha h;have tv:TG 2 e g a0 v is:=tg (SC (Nat.zero_le _) tv0) (fun hb=>by
  obtain ⟨i,rfl,hi⟩:=hhit hb;exact up (.var0 e g a i hi))
 clear tv0 hhit;have aw:=ha.wt;have ad:=ha.dp;have hw3m:=Int.emod_nonneg r.op (show (3:Int)≠0 by decide)
 by_cases cv:is=true∧r.op % 3=0∨e=0
 ·refine ⟨v,is,⟨N0+N1+100,fun n hn=>?_⟩,tv⟩;obtain ⟨n,rfl⟩:∃k,n=k+1:=⟨n - 1,by omega⟩;have h0:=h0 n (by omega);have h1:=h1 n (by omega);have hw:=Ar (n:=n) (by omega) r.op (m:=3) (by omega) (by omega);rw [c33];clear up hfn hO hA hg ha0 ha tv;obtain ⟨o0,x0,k0⟩:=a0;obtain ⟨o1,x1,k1⟩:=a;obtain ⟨o2,x2,k2⟩:=r;obtain ⟨o3,x3,k3⟩:=v;simp only [Tm.n,Tm.op] at h1 hw cv;simp only [BL,Am] at h0 h1 ⊢;generalize o2 % 3=w3 at hw cv;rcases cv with ⟨rfl,rfl⟩ | rfl
  ·simp (maxSteps:=1000000) only [↓Nb,↓XX,XY,↓reduceIte,Nat.reduceBEq,Nat.reduceAdd,Int.reduceEq,Int.reduceLT,Int.reduceLE,↓Ay h0,↓AG h1,↓Ag hw];first | exact Ao _ _ | exact AU rfl (by simp) _
  ·have hd4:((0:Nat):Int) - 5 < -4:=by omega
   cases is
   ·simp (maxSteps:=1000000) only [↓Nb,↓XX,XY,↓reduceIte,Nat.reduceBEq,Nat.reduceAdd,Int.reduceEq,Int.reduceLT,Int.reduceLE,↓Ay h0,↓AG h1,↓Ag hw,hd4,Int.reduceSub,Int.reduceLT,Int.reduceNeg];first | exact Ao _ _ | exact AU rfl (by simp) _
   ·by_cases h3:w3=0
    ·simp (maxSteps:=1000000) only [↓Nb,↓XX,XY,↓reduceIte,Nat.reduceBEq,Nat.reduceAdd,Int.reduceEq,Int.reduceLT,Int.reduceLE,↓Ay h0,↓AG h1,↓Ag hw,h3,hd4,Int.reduceSub,Int.reduceLT,Int.reduceNeg];first | exact Ao _ _ | exact AU rfl (by simp) _
    ·simp (maxSteps:=1000000) only [↓Nb,↓XX,XY,↓reduceIte,Nat.reduceBEq,Nat.reduceAdd,Int.reduceEq,Int.reduceLT,Int.reduceLE,↓Ay h0,↓AG h1,↓Ag hw,h3,hd4,Int.reduceSub,Int.reduceLT,Int.reduceNeg];first | exact Ao _ _ | exact AU rfl (by simp) _
 have he1:1≤e:=by omega
 have hd4:¬ (e:Int) - 5 < -4:=by omega
 have hv:is=true→¬ r.op % 3=0:=fun h1 h2=>cv (.inl ⟨h1,h2⟩);have hW1:Wg e=4 * Wg (e - 1):=by
  obtain ⟨f,rfl⟩:∃f,e=f+1:=⟨e - 1,by omega⟩;rw [Ln,Nat.add_sub_cancel]
 have hW01:=Lm (e - 1);have hD1:Dg e=Dg (e - 1)+10:=by unfold Dg;omega
 have hD01:200≤Dg (e - 1):=by unfold Dg;omega
 have we:BM ((e:Int) - 5 - 1)=((e - 1:Nat):Int) - 5:=by rw [As (by omega) (by omega)];omega
 have hO:=hO he1;by_cases ca:6≤e∧r.op % 3=1
 ·obtain ⟨t,b,⟨N2,h2⟩,tt⟩:=hA ca.1 g a r hg ha;refine ⟨t,b,⟨N0+N1+N2+100,fun n hn=>?_⟩,AeH tt up⟩;obtain ⟨n,rfl⟩:∃k,n=k+1:=⟨n - 1,by omega⟩;have h0:=h0 n (by omega);have h1:=h1 n (by omega);have h2:=h2 n (by omega);have hw:=Ar (n:=n) (by omega) r.op (m:=3) (by omega) (by omega);rw [ca.2] at hw;have hd0:(0:Int)<(e:Int) - 5:=by omega
  rw [c33];clear up hfn hO hA hg ha0 ha tv tt;obtain ⟨o0,x0,k0⟩:=a0;obtain ⟨o1,x1,k1⟩:=a;obtain ⟨o2,x2,k2⟩:=r;obtain ⟨o3,x3,k3⟩:=v;obtain ⟨o4,x4,k4⟩:=t;simp only [Tm.n,Tm.op] at h1 hw;simp only [BL,Am] at h0 h1 h2 ⊢;cases is<;>(simp (maxSteps:=1000000) only [↓Nb,↓XX,XY,↓reduceIte,Nat.reduceBEq,Nat.reduceAdd,Int.reduceEq,Int.reduceLT,Int.reduceLE,↓Ay h0,↓AG h1,↓Ag hw,hd4,hd0,↓AG h2];first | exact Ao _ _ | exact AU rfl (by simp) _)
 have hna:(0:Int)<(e:Int) - 5→¬ r.op % 3=1:=by omega
 by_cases o15:a.op=15
 ·have hl:=AmH (Gt ha (show ar a.op=some 0 by rw [o15];decide))
  by_cases hs:6≤e∧r.op % 2=1
  ·obtain ⟨x,p,⟨N2,h2⟩,tx⟩:=hO g a (r.pick 0) (AW (by omega) hg) (Bq ha);obtain ⟨y,q,⟨N3,h3⟩,ty⟩:=hO g a (r.pick 1) (AW (by omega) hg) (Bq ha);have hj1:=Int.emod_nonneg r.n (show (5:Int)≠0 by decide)
   have hj2:=Int.emod_lt_of_pos r.n (show (0:Int)<5 by decide)
   refine ⟨.mk 26 (r.n % 5) [x,y],p && q,⟨N0+N1+N2+N3+100,fun n hn=>?_⟩,Cl (by decide) (by decide) (by rw [BW,if_neg (by decide),if_pos rfl];omega) tx.sc ty.sc,by have:=tx.wt;have:=ty.wt;rw [Ml];omega,by have:=tx.dp;have:=ty.dp;rw [OY];omega,fun hb=>up (.oprim e g a x y _ hs.1 o15 (tx.gr (KE hb)) (ty.gr (IT hb)))⟩;obtain ⟨n,rfl⟩:∃k,n=k+1:=⟨n - 1,by omega⟩;have h0:=h0 n (by omega);have h1:=h1 n (by omega);have h2:=h2 n (by omega);have h3:=h3 n (by omega);rw [← we] at h2 h3;have hw:=Ar (n:=n) (by omega) r.op (m:=3) (by omega) (by omega);have hw2:=Ar (n:=n) (by omega) r.op (m:=2) (by omega) (by omega);rw [hs.2] at hw2;have hw5:=Ar (n:=n) (by omega) r.n (m:=5) (by omega) (by omega);have p0:=AI (n:=n) (by omega) r 0;have p1:=AI (n:=n) (by omega) r 1;have hd0:(0:Int)<(e:Int) - 5:=by omega
   replace hna:=hna hd0;rw [c33];clear up hfn hO hA hg ha0 ha tv tx ty hj1 hj2;generalize r.op % 3=w3 at hw hv hna;generalize r.n % 5=w5 at hw5 ⊢;generalize r.pick 0=r0 at p0 h2;generalize r.pick 1=r1 at p1 h3;obtain ⟨o0,x0,k0⟩:=a0;obtain ⟨o1,x1,k1⟩:=a;simp only [Tm.op,Tm.kids] at o15 hl;subst o15 hl;obtain ⟨o2,x2,k2⟩:=r;obtain ⟨o3,x3,k3⟩:=v;obtain ⟨o4,x4,k4⟩:=x;obtain ⟨o5,x5,k5⟩:=y;obtain ⟨o6,x6,k6⟩:=r0;obtain ⟨o7,x7,k7⟩:=r1;simp only [Tm.n,Tm.op] at h1 hw hw2 hw5;simp only [BL,Am,Arl,Ark] at h0 h1 h2 h3 p0 p1 ⊢;cases is<;>cases p<;>(simp (maxSteps:=1000000) only [↓Nb,↓XX,XY,↓reduceIte,Nat.reduceBEq,Nat.reduceAdd,Int.reduceEq,Int.reduceLT,Int.reduceLE,↓Ay h0,↓AG h1,↓Ag hw,hv,hd4,hd0,hna,↓Ag hw2,↓Ag p0,↓Ag p1,↓AG h2,↓AG h3,↓Ag hw5,↓DR];first | exact Ao _ _ | exact AU rfl (by simp) _)
  ·have hj1:=Int.emod_nonneg r.n (show (20:Int)≠0 by decide)
   have hj2:=Int.emod_lt_of_pos r.n (show (0:Int)<20 by decide)
   refine ⟨.mk 25 (r.n % 20 - 5) [],true,⟨N0+N1+100,fun n hn=>?_⟩,EI (by decide) (by decide) (by rw [BW,if_neg (by decide),if_neg (by decide),if_pos rfl];omega),by simp only [Tm.wt,Tm.wtL];omega,by simp only [Tm.dp,Tm.dpL];omega,fun _=>up (.oint e g a _ o15)⟩;obtain ⟨n,rfl⟩:∃k,n=k+1:=⟨n - 1,by omega⟩;have h0:=h0 n (by omega);have h1:=h1 n (by omega);have hw:=Ar (n:=n) (by omega) r.op (m:=3) (by omega) (by omega);have hw2:=Ar (n:=n) (by omega) r.op (m:=2) (by omega) (by omega);have hw20:=Ar (n:=n) (by omega) r.n (m:=20) (by omega) (by omega);have w5:BM (r.n % 20 - 5)=r.n % 20 - 5:=by rw [As]<;>omega
   have hin:=AkG (n:=n) (by omega) (r.n % 20 - 5);rw [← w5] at hin;have h21:(0:Int)<(e:Int) - 5→¬ r.op % 2=1:=by omega
   rw [c33,← w5];clear up hfn hO hA hg ha0 ha tv hj1 hj2 w5 hs;generalize r.op % 3=w3 at hw hv hna;generalize r.op % 2=w2 at hw2 h21;generalize r.n % 20=w20 at hw20 hin ⊢;obtain ⟨o0,x0,k0⟩:=a0;obtain ⟨o1,x1,k1⟩:=a;simp only [Tm.op,Tm.kids] at o15 hl;subst o15 hl;obtain ⟨o2,x2,k2⟩:=r;obtain ⟨o3,x3,k3⟩:=v;simp only [Tm.n,Tm.op] at h1 hw hw2 hw20;simp only [BL,Am,Arl,Ark] at h0 h1 hin ⊢;cases is<;>by_cases hd0:(0:Int)<(e:Int) - 5<;>(simp (maxSteps:=1000000) only [↓Nb,↓XX,XY,↓reduceIte,Nat.reduceBEq,Nat.reduceAdd,Int.reduceEq,Int.reduceLT,Int.reduceLE,↓Ay h0,↓AG h1,↓Ag hw,hv,hd4,hd0,hna,↓Ag hw2,h21,↓Ag hw20,↓Ay hin];first | exact Ao _ _ | exact AU rfl (by simp) _)
 by_cases o16:a.op=16
 ·obtain ⟨d,c,hl⟩:=ZQ (Gt ha (show ar a.op=some 2 by rw [o16];decide))
  have hd:NOk g.length d∧NOk g.length c:=by
   obtain ⟨o1,x1,k1⟩:=a;simp only [Tm.op,Tm.kids] at o16 hl;subst o16 hl;have hsc:=ha.sc;rw [Tm.sc] at hsc;rw [Ml] at aw;rw [OY] at ad;exact ⟨⟨hsc.2.2.1,by omega,by omega⟩,⟨hsc.2.2.2.1,by omega,by omega⟩⟩
  obtain ⟨hd,hc⟩:=hd;have hgd:GOk (e - 1) (g++[(0,d)]):=DE (by rw [show e - 1+1=e by omega];exact hg) hd.sc (by have:=hd.wt;omega) (by have:=hd.dp;omega)
  obtain ⟨x,p,⟨N2,h2⟩,tx⟩:=hO (g++[(0,d)]) (c.shift 1 0) (r.pick 0) hgd (by simpa using Bq (ML hc (by omega) 1 (by omega)));have xs:x.sc (g.length+1):=by simpa using tx.sc
  refine ⟨.mk 20 0 [d,x],p,⟨N0+N1+N2+100000,fun n hn=>?_⟩,Cl (by decide) (by decide) (BV (by decide) (by decide) (by decide)) hd.sc xs,by have:=tx.wt;have:=hd.wt;rw [Ml];omega,by have:=tx.dp;have:=hd.dp;rw [OY];omega,fun hb=>up (by
   obtain ⟨oa,xa,ka⟩:=a;simp only [Tm.op,Tm.kids] at o16 hl;subst o16 hl;exact .olam e g _ d c x (tx.gr hb))⟩
  ·obtain ⟨n,rfl⟩:∃k,n=k+1:=⟨n - 1,by omega⟩;have h0:=h0 n (by omega);have h1:=h1 n (by omega);have h2:=h2 n (by omega);rw [← we] at h2;have hw:=Ar (n:=n) (by omega) r.op (m:=3) (by omega) (by omega);have p0:=AI (n:=n) (by omega) r 0;have hm:=EY (n:=n) g 0 d (by omega) (by omega);have sh:=DC n c 1 0 (by have:=hc.wt;omega) (Gp _ _ hc.sc) (by omega) (by have:=hc.wt;omega);have t20:=CF (n:=n) (by omega) 20 [d,x];rw [c33];clear up hfn hO hA hg ha0 ha tv tx hd hc hgd xs;generalize r.op % 3=w3 at hw hv hna;generalize c.shift 1 0=c1 at sh h2;generalize r.pick 0=r0 at p0 h2;obtain ⟨o0,x0,k0⟩:=a0;obtain ⟨o1,x1,k1⟩:=a;simp only [Tm.op,Tm.kids] at o16 hl;subst o16 hl;obtain ⟨o2,x2,k2⟩:=r;obtain ⟨o3,x3,k3⟩:=v;obtain ⟨o4,x4,k4⟩:=x;obtain ⟨o5,x5,k5⟩:=d;obtain ⟨o6,x6,k6⟩:=c;obtain ⟨o7,x7,k7⟩:=c1;obtain ⟨o8,x8,k8⟩:=r0;simp only [Tm.n,Tm.op] at h1 hw;simp only [BL,Am,Arl,Ark] at h0 h1 h2 p0 hm sh t20 ⊢;cases is<;>by_cases hd0:(0:Int)<(e:Int) - 5<;>(simp (maxSteps:=1000000) only [↓Nb,↓XX,XY,↓reduceIte,Nat.reduceBEq,Nat.reduceAdd,Int.reduceEq,Int.reduceLT,Int.reduceLE,↓Ay h0,↓AG h1,↓Ag hw,hv,hd4,hd0,hna,↓G8,↓Hj,↓Ag p0,↓A5 hm,↓A5 sh,↓AG h2,↓DR,↓Ag t20];first | exact Ao _ _ | exact AU rfl (by simp) _)
 by_cases o17:a.op=17
 ·obtain ⟨d,c,hl⟩:=ZQ (Gt ha (show ar a.op=some 2 by rw [o17];decide))
  have hd:NOk g.length d∧NOk g.length c:=by
   obtain ⟨o1,x1,k1⟩:=a;simp only [Tm.op,Tm.kids] at o17 hl;subst o17 hl;have hsc:=ha.sc;rw [Tm.sc] at hsc;rw [Ml] at aw;rw [OY] at ad;exact ⟨⟨hsc.2.2.1,by omega,by omega⟩,⟨hsc.2.2.2.1,by omega,by omega⟩⟩
  obtain ⟨hd,hc⟩:=hd;obtain ⟨x,p,⟨N2,h2⟩,tx⟩:=hO g d (r.pick 0) (AW (by omega) hg) (Bq hd);obtain ⟨y,q,⟨N3,h3⟩,ty⟩:=hO g c (r.pick 1) (AW (by omega) hg) (Bq hc);refine ⟨.mk 22 0 [x,y],p && q,⟨N0+N1+N2+N3+100,fun n hn=>?_⟩,Cl (by decide) (by decide) (BV (by decide) (by decide) (by decide)) tx.sc ty.sc,by have:=tx.wt;have:=ty.wt;rw [Ml];omega,by have:=tx.dp;have:=ty.dp;rw [OY];omega,fun hb=>up (by
   obtain ⟨oa,xa,ka⟩:=a;simp only [Tm.op,Tm.kids] at o17 hl;subst o17 hl;exact .opair e g _ d c x y (tx.gr (KE hb)) (ty.gr (IT hb)))⟩
  ·obtain ⟨n,rfl⟩:∃k,n=k+1:=⟨n - 1,by omega⟩;have h0:=h0 n (by omega);have h1:=h1 n (by omega);have h2:=h2 n (by omega);have h3:=h3 n (by omega);rw [← we] at h2 h3;have hw:=Ar (n:=n) (by omega) r.op (m:=3) (by omega) (by omega);have p0:=AI (n:=n) (by omega) r 0;have p1:=AI (n:=n) (by omega) r 1;have t22:=CF (n:=n) (by omega) 22 [x,y];rw [c33];clear up hfn hO hA hg ha0 ha tv tx ty hd hc;generalize r.op % 3=w3 at hw hv hna;generalize r.pick 0=r0 at p0 h2;generalize r.pick 1=r1 at p1 h3;obtain ⟨o0,x0,k0⟩:=a0;obtain ⟨o1,x1,k1⟩:=a;simp only [Tm.op,Tm.kids] at o17 hl;subst o17 hl;obtain ⟨o2,x2,k2⟩:=r;obtain ⟨o3,x3,k3⟩:=v;obtain ⟨o4,x4,k4⟩:=x;obtain ⟨o5,x5,k5⟩:=d;obtain ⟨o6,x6,k6⟩:=c;obtain ⟨o7,x7,k7⟩:=y;obtain ⟨o8,x8,k8⟩:=r0;obtain ⟨o9,x9,k9⟩:=r1;simp only [Tm.n,Tm.op] at h1 hw;simp only [BL,Am,Arl,Ark] at h0 h1 h2 h3 p0 p1 t22 ⊢;cases is<;>by_cases hd0:(0:Int)<(e:Int) - 5<;>cases p<;>(simp (maxSteps:=1000000) only [↓Nb,↓XX,XY,↓reduceIte,Nat.reduceBEq,Nat.reduceAdd,Int.reduceEq,Int.reduceLT,Int.reduceLE,↓Ay h0,↓AG h1,↓Ag hw,hv,hd4,hd0,hna,↓G8,↓Hj,↓Ag p0,↓Ag p1,↓AG h2,↓AG h3,↓DR,↓Ag t22];first | exact Ao _ _ | exact AU rfl (by simp) _)
 refine ⟨v,is,⟨N0+N1+100,fun n hn=>?_⟩,tv⟩
 ·obtain ⟨n,rfl⟩:∃k,n=k+1:=⟨n - 1,by omega⟩;have h0:=h0 n (by omega);have h1:=h1 n (by omega);have hw:=Ar (n:=n) (by omega) r.op (m:=3) (by omega) (by omega);rw [c33];clear up hfn hO hA hg ha0 ha tv;generalize r.op % 3=w3 at hw hv hna;obtain ⟨o0,x0,k0⟩:=a0;obtain ⟨o1,x1,k1⟩:=a;obtain ⟨o2,x2,k2⟩:=r;obtain ⟨o3,x3,k3⟩:=v;simp only [Tm.n,Tm.op] at h1 hw o15 o16 o17;simp only [BL,Am] at h0 h1 ⊢;cases is<;>by_cases hd0:(0:Int)<(e:Int) - 5<;>(simp (maxSteps:=1000000) only [↓Nb,↓XX,XY,↓reduceIte,Nat.reduceBEq,Nat.reduceAdd,Int.reduceEq,Int.reduceLT,Int.reduceLE,↓Ay h0,↓AG h1,↓Ag hw,hv,hd4,hd0,hna,o15,o16,o17];first | exact Ao _ _ | exact AU rfl (by simp) _)
set_option maxRecDepth 20000 in
set_option maxHeartbeats 8000000 in
theorem AhF {e:Nat} (he:e≤10) (hG:1≤e→DS 39 1 (e - 1)) (hO:1≤e→DS 33 2 (e - 1)) (hA:6≤e→OU 65 3 e) (hP:1≤e→Ad9 66 3 e):DS 39 1 e:=by
 intro g a0 r hg ha0;have hlen:=hg.len;have hW0:=Lm e;have hD0:200≤Dg e:=by unfold Dg;omega
 have hDm:Dg e≤300:=by unfold Dg;omega
 have hW10:=NH he;obtain ⟨a,er,⟨N0,h0⟩,hcase,fn,hfn⟩:=Hb (k:=g.length) (by omega) ha0.sc (by have:=ha0.dp;omega);rcases hcase with ⟨rfl,ha⟩ | ⟨her,rfl⟩
 case inr =>
  have hne:er≠0:=by omega
  refine ⟨.z,false,⟨N0+100,fun n hn=>?_⟩,AiN _,by simp only [Tm.z,Tm.wt,Tm.wtL];omega,by simp only [Tm.z,Tm.dp,Tm.dpL];omega,fun h=>by cases h⟩;obtain ⟨n,rfl⟩:∃k,n=k+1:=⟨n - 1,by omega⟩;have h0:=h0 n (by omega);rw [c39];clear hG hO hA hP hg ha0;obtain ⟨o1,x1,k1⟩:=a0;obtain ⟨o2,x2,k2⟩:=r;simp only [BL,Tm.z,Ark,Am] at h0 ⊢;simp (maxSteps:=1000000) only [↓Jq,↓XX,XY,↓reduceIte,Nat.reduceBEq,Nat.reduceAdd,Int.reduceEq,Int.reduceLT,Int.reduceLE,↓Ay h0,hne];first | exact Ao _ _ | exact AU rfl (by simp) _
 obtain ⟨v,is,⟨N1,h1⟩,tv0,hhit⟩:=Lf hg 1 ha r.n;have up:∀{t:Tm},Gr 3 e g a t→Gr 1 e g a0 t:=fun h=>.grow e g a0 a _ fn hfn (by omega) ha h;have tv:TG 1 e g a0 v is:=tg (SC (Nat.zero_le _) tv0) (fun hb=>by
  obtain ⟨i,rfl,hi⟩:=hhit hb;exact up (.var1 e g a i hi))
 clear tv0 hhit;have aw:=ha.wt;have ad:=ha.dp;have hw3m:=Int.emod_nonneg r.op (show (3:Int)≠0 by decide)
 by_cases cv:is=true∧r.op % 3=0∨e=0
 ·refine ⟨v,is,⟨N0+N1+100,fun n hn=>?_⟩,tv⟩;obtain ⟨n,rfl⟩:∃k,n=k+1:=⟨n - 1,by omega⟩;have h0:=h0 n (by omega);have h1:=h1 n (by omega);have hw:=Ar (n:=n) (by omega) r.op (m:=3) (by omega) (by omega);rw [c39];clear up hfn hG hO hA hP hg ha0 ha tv;obtain ⟨o0,x0,k0⟩:=a0;obtain ⟨o1,x1,k1⟩:=a;obtain ⟨o2,x2,k2⟩:=r;obtain ⟨o3,x3,k3⟩:=v;simp only [Tm.n,Tm.op] at h1 hw cv;simp only [BL,Am] at h0 h1 ⊢;generalize o2 % 3=w3 at hw cv;rcases cv with ⟨rfl,rfl⟩ | rfl
  ·simp (maxSteps:=1000000) only [↓Jq,↓XX,XY,↓reduceIte,Nat.reduceBEq,Nat.reduceAdd,Int.reduceEq,Int.reduceLT,Int.reduceLE,↓Ay h0,↓AG h1,↓Ag hw];first | exact Ao _ _ | exact AU rfl (by simp) _
  ·have hd4:((0:Nat):Int) - 5 < -4:=by omega
   cases is
   ·simp (maxSteps:=1000000) only [↓Jq,↓XX,XY,↓reduceIte,Nat.reduceBEq,Nat.reduceAdd,Int.reduceEq,Int.reduceLT,Int.reduceLE,↓Ay h0,↓AG h1,↓Ag hw,hd4,Int.reduceSub,Int.reduceLT,Int.reduceNeg];first | exact Ao _ _ | exact AU rfl (by simp) _
   ·by_cases h3:w3=0
    ·simp (maxSteps:=1000000) only [↓Jq,↓XX,XY,↓reduceIte,Nat.reduceBEq,Nat.reduceAdd,Int.reduceEq,Int.reduceLT,Int.reduceLE,↓Ay h0,↓AG h1,↓Ag hw,h3,hd4,Int.reduceSub,Int.reduceLT,Int.reduceNeg];first | exact Ao _ _ | exact AU rfl (by simp) _
    ·simp (maxSteps:=1000000) only [↓Jq,↓XX,XY,↓reduceIte,Nat.reduceBEq,Nat.reduceAdd,Int.reduceEq,Int.reduceLT,Int.reduceLE,↓Ay h0,↓AG h1,↓Ag hw,h3,hd4,Int.reduceSub,Int.reduceLT,Int.reduceNeg];first | exact Ao _ _ | exact AU rfl (by simp) _
 have he1:1≤e:=by omega
 have hd4:¬ (e:Int) - 5 < -4:=by omega
 have hv:is=true→¬ r.op % 3=0:=fun h1 h2=>cv (.inl ⟨h1,h2⟩);have hW1:Wg e=4 * Wg (e - 1):=by
  obtain ⟨f,rfl⟩:∃f,e=f+1:=⟨e - 1,by omega⟩;rw [Ln,Nat.add_sub_cancel]
 have hW01:=Lm (e - 1);have hD1:Dg e=Dg (e - 1)+10:=by unfold Dg;omega
 have hD01:200≤Dg (e - 1):=by unfold Dg;omega
 have we:BM ((e:Int) - 5 - 1)=((e - 1:Nat):Int) - 5:=by rw [As (by omega) (by omega)];omega
 have hO:=hO he1;have hG:=hG he1;have hP:=hP he1;by_cases ca:6≤e∧r.op % 7=6
 ·obtain ⟨t,b,⟨N2,h2⟩,tt⟩:=hA ca.1 g a r hg ha;refine ⟨t,b,⟨N0+N1+N2+100,fun n hn=>?_⟩,AeH tt up⟩;obtain ⟨n,rfl⟩:∃k,n=k+1:=⟨n - 1,by omega⟩;have h0:=h0 n (by omega);have h1:=h1 n (by omega);have h2:=h2 n (by omega);have hw:=Ar (n:=n) (by omega) r.op (m:=3) (by omega) (by omega);have hw7:=Ar (n:=n) (by omega) r.op (m:=7) (by omega) (by omega);rw [ca.2] at hw7;have hd0:(0:Int)<(e:Int) - 5:=by omega
  rw [c39];clear up hfn hG hO hA hP hg ha0 ha tv tt;generalize r.op % 3=w3 at hw hv;obtain ⟨o0,x0,k0⟩:=a0;obtain ⟨o1,x1,k1⟩:=a;obtain ⟨o2,x2,k2⟩:=r;obtain ⟨o3,x3,k3⟩:=v;obtain ⟨o4,x4,k4⟩:=t;simp only [Tm.n,Tm.op] at h1 hw hw7;simp only [BL,Am] at h0 h1 h2 ⊢;cases is<;>(simp (maxSteps:=1000000) only [↓Jq,↓XX,XY,↓reduceIte,Nat.reduceBEq,Nat.reduceAdd,Int.reduceEq,Int.reduceLT,Int.reduceLE,↓Ay h0,↓AG h1,↓Ag hw,↓Ag hw7,hv,hd4,hd0,↓AG h2];first | exact Ao _ _ | exact AU rfl (by simp) _)
 have hna:(0:Int)<(e:Int) - 5→¬ r.op % 7=6:=by omega
 by_cases hpl:a.op=10∨a.op=14∨a.op=2
 ·obtain ⟨t,b,⟨N2,h2⟩,tt⟩:=hP g a r hg ha hpl;refine ⟨t,b,⟨N0+N1+N2+100,fun n hn=>?_⟩,AeH tt up⟩
  ·obtain ⟨n,rfl⟩:∃k,n=k+1:=⟨n - 1,by omega⟩;have h0:=h0 n (by omega);have h1:=h1 n (by omega);have h2:=h2 n (by omega);have hw:=Ar (n:=n) (by omega) r.op (m:=3) (by omega) (by omega);have hw7:=Ar (n:=n) (by omega) r.op (m:=7) (by omega) (by omega);rw [c39];clear up hfn hG hO hA hP hg ha0 ha tv tt;generalize r.op % 3=w3 at hw hv;generalize r.op % 7=w7 at hw7 hna;obtain ⟨o0,x0,k0⟩:=a0;obtain ⟨o1,x1,k1⟩:=a;obtain ⟨o2,x2,k2⟩:=r;obtain ⟨o3,x3,k3⟩:=v;obtain ⟨o4,x4,k4⟩:=t;simp only [Tm.n,Tm.op] at h1 hw hw7 hpl;simp only [BL,Am] at h0 h1 h2 ⊢;rcases hpl with rfl | rfl | rfl
   ·cases is<;>by_cases hd0:(0:Int)<(e:Int) - 5<;>(simp (maxSteps:=1000000) only [↓Jq,↓XX,XY,↓reduceIte,Nat.reduceBEq,Nat.reduceAdd,Int.reduceEq,Int.reduceLT,Int.reduceLE,↓Ay h0,↓AG h1,↓Ag hw,↓Ag hw7,hv,hd4,hd0,hna,↓AG h2];first | exact Ao _ _ | exact AU rfl (by simp) _)
   ·cases is<;>by_cases hd0:(0:Int)<(e:Int) - 5<;>(simp (maxSteps:=1000000) only [↓Jq,↓XX,XY,↓reduceIte,Nat.reduceBEq,Nat.reduceAdd,Int.reduceEq,Int.reduceLT,Int.reduceLE,↓Ay h0,↓AG h1,↓Ag hw,↓Ag hw7,hv,hd4,hd0,hna,↓AG h2];first | exact Ao _ _ | exact AU rfl (by simp) _)
   ·cases is<;>by_cases hd0:(0:Int)<(e:Int) - 5<;>(simp (maxSteps:=1000000) only [↓Jq,↓XX,XY,↓reduceIte,Nat.reduceBEq,Nat.reduceAdd,Int.reduceEq,Int.reduceLT,Int.reduceLE,↓Ay h0,↓AG h1,↓Ag hw,↓Ag hw7,hv,hd4,hd0,hna,↓AG h2];first | exact Ao _ _ | exact AU rfl (by simp) _)
 by_cases o3:a.op=3
 ·obtain ⟨d,c,hl⟩:=ZQ (Gt ha (show ar a.op=some 2 by rw [o3];decide))
  have hd:NOk g.length d∧NOk (g.length+1) c:=by
   obtain ⟨o1,x1,k1⟩:=a;simp only [Tm.op,Tm.kids] at o3 hl;subst o3 hl;have hsc:=ha.sc;rw [Tm.sc] at hsc;rw [Ml] at aw;rw [OY] at ad;exact ⟨⟨hsc.2.2.1,by omega,by omega⟩,⟨hsc.2.2.2.1,by omega,by omega⟩⟩
  obtain ⟨hd,hc⟩:=hd;have hgd:GOk (e - 1) (g++[(1,d)]):=DE (by rw [show e - 1+1=e by omega];exact hg) hd.sc (by have:=hd.wt;omega) (by have:=hd.dp;omega)
  obtain ⟨x,p,⟨N2,h2⟩,tx⟩:=hG (g++[(1,d)]) c (r.pick 0) hgd (by simpa using Bq hc);have xs:x.sc (g.length+1):=by simpa using tx.sc
  refine ⟨.mk 4 0 [d,x],p,⟨N0+N1+N2+100000,fun n hn=>?_⟩,Cl (by decide) (by decide) (BV (by decide) (by decide) (by decide)) hd.sc xs,by have:=tx.wt;have:=hd.wt;rw [Ml];omega,by have:=tx.dp;have:=hd.dp;rw [OY];omega,fun hb=>up (by
   obtain ⟨oa,xa,ka⟩:=a;simp only [Tm.op,Tm.kids] at o3 hl;subst o3 hl;exact .lam e g _ d c x (tx.gr hb))⟩
  ·obtain ⟨n,rfl⟩:∃k,n=k+1:=⟨n - 1,by omega⟩;have h0:=h0 n (by omega);have h1:=h1 n (by omega);have h2:=h2 n (by omega);rw [← we] at h2;have hw:=Ar (n:=n) (by omega) r.op (m:=3) (by omega) (by omega);have hw7:=Ar (n:=n) (by omega) r.op (m:=7) (by omega) (by omega);have p0:=AI (n:=n) (by omega) r 0;have hm:=EY (n:=n) g 1 d (by omega) (by omega);have t4:=CF (n:=n) (by omega) 4 [d,x];rw [c39];clear up hfn hG hO hA hP hg ha0 ha tv tx hd hc hgd xs hpl;generalize r.op % 3=w3 at hw hv;generalize r.op % 7=w7 at hw7 hna;generalize r.pick 0=r0 at p0 h2;obtain ⟨o0,x0,k0⟩:=a0;obtain ⟨o1,x1,k1⟩:=a;simp only [Tm.op,Tm.kids] at o3 hl;subst o3 hl;obtain ⟨o2,x2,k2⟩:=r;obtain ⟨o3,x3,k3⟩:=v;obtain ⟨o4,x4,k4⟩:=x;obtain ⟨o5,x5,k5⟩:=d;obtain ⟨o6,x6,k6⟩:=c;obtain ⟨o8,x8,k8⟩:=r0;simp only [Tm.n,Tm.op] at h1 hw hw7;simp only [BL,Am,Arl,Ark] at h0 h1 h2 p0 hm t4 ⊢;cases is<;>by_cases hd0:(0:Int)<(e:Int) - 5<;>(simp (maxSteps:=1000000) only [↓Jq,↓XX,XY,↓reduceIte,Nat.reduceBEq,Nat.reduceAdd,Int.reduceEq,Int.reduceLT,Int.reduceLE,↓Ay h0,↓AG h1,↓Ag hw,↓Ag hw7,hv,hd4,hd0,hna,↓G8,↓Hj,↓Ag p0,↓A5 hm,↓AG h2,↓DR,↓Ag t4];first | exact Ao _ _ | exact AU rfl (by simp) _)
 by_cases o6:a.op=6
 ·obtain ⟨d,c,hl⟩:=ZQ (Gt ha (show ar a.op=some 2 by rw [o6];decide))
  have hd:NOk g.length d∧NOk (g.length+1) c:=by
   obtain ⟨o1,x1,k1⟩:=a;simp only [Tm.op,Tm.kids] at o6 hl;subst o6 hl;have hsc:=ha.sc;rw [Tm.sc] at hsc;rw [Ml] at aw;rw [OY] at ad;exact ⟨⟨hsc.2.2.1,by omega,by omega⟩,⟨hsc.2.2.2.1,by omega,by omega⟩⟩
  obtain ⟨hd,hc⟩:=hd;obtain ⟨x,p,⟨N2,h2⟩,tx⟩:=hG g d (r.pick 0) (AW (by omega) hg) (Bq hd);cases p
  ·refine ⟨v,is,⟨N0+N1+N2+100,fun n hn=>?_⟩,tv⟩;obtain ⟨n,rfl⟩:∃k,n=k+1:=⟨n - 1,by omega⟩;have h0:=h0 n (by omega);have h1:=h1 n (by omega);have h2:=h2 n (by omega);rw [← we] at h2;have hw:=Ar (n:=n) (by omega) r.op (m:=3) (by omega) (by omega);have hw7:=Ar (n:=n) (by omega) r.op (m:=7) (by omega) (by omega);have p0:=AI (n:=n) (by omega) r 0;rw [c39];clear up hfn hG hO hA hP hg ha0 ha tv tx hd hc hpl;generalize r.op % 3=w3 at hw hv;generalize r.op % 7=w7 at hw7 hna;generalize r.pick 0=r0 at p0 h2;obtain ⟨o0,x0,k0⟩:=a0;obtain ⟨o1,x1,k1⟩:=a;simp only [Tm.op,Tm.kids] at o6 hl;subst o6 hl;obtain ⟨o2,x2,k2⟩:=r;obtain ⟨o3,x3,k3⟩:=v;obtain ⟨o4,x4,k4⟩:=x;obtain ⟨o5,x5,k5⟩:=d;obtain ⟨o6,x6,k6⟩:=c;obtain ⟨o8,x8,k8⟩:=r0;simp only [Tm.n,Tm.op] at h1 hw hw7;simp only [BL,Am,Arl,Ark] at h0 h1 h2 p0 ⊢;cases is<;>by_cases hd0:(0:Int)<(e:Int) - 5<;>(simp (maxSteps:=1000000) only [↓Jq,↓XX,XY,↓reduceIte,Nat.reduceBEq,Nat.reduceAdd,Int.reduceEq,Int.reduceLT,Int.reduceLE,↓Ay h0,↓AG h1,↓Ag hw,↓Ag hw7,hv,hd4,hd0,hna,↓G8,↓Hj,↓Ag p0,↓AG h2];first | exact Ao _ _ | exact AU rfl (by simp) _)
  ·have hss:AOk g.length (c.subst 0 0 x):=by
    have xw:=tx.wt;have xd:=tx.dp;have cw:=hc.wt;have cd:=hc.dp;have h1:=Np c x 0 0;have h2:=TO c x 0 0;have h3:c.wt * x.wt≤3000 * 21000000000:=Nat.mul_le_mul cw (by omega);exact ⟨Nc c x 0 g.length hc.sc tx.sc (by omega),by omega,by omega⟩
   obtain ⟨y,q,⟨N3,h3⟩,ty⟩:=hG g (c.subst 0 0 x) (r.pick 1) (AW (by omega) hg) hss;refine ⟨.mk 7 0 [a,x,y],q,⟨N0+N1+N2+N3+1000000000000,fun n hn=>?_⟩,Vl (by decide) (by decide) (BV (by decide) (by decide) (by decide)) ha.sc tx.sc ty.sc,by have:=tx.wt;have:=ty.wt;rw [wt3];omega,by have:=tx.dp;have:=ty.dp;rw [dp3];omega,fun hb=>up (by
   obtain ⟨oa,xa,ka⟩:=a;simp only [Tm.op,Tm.kids] at o6 hl;subst o6 hl;exact .pair e g _ d c x y (AdO tx (by omega)) (tx.gr rfl) (ty.gr hb))⟩
   obtain ⟨n,rfl⟩:∃k,n=k+1:=⟨n - 1,by omega⟩;have h0:=h0 n (by omega);have h1:=h1 n (by omega);have h2:=h2 n (by omega);have h3:=h3 n (by omega);rw [← we] at h2 h3;have hw:=Ar (n:=n) (by omega) r.op (m:=3) (by omega) (by omega);have hw7:=Ar (n:=n) (by omega) r.op (m:=7) (by omega) (by omega);have p0:=AI (n:=n) (by omega) r 0;have p1:=AI (n:=n) (by omega) r 1;have hsb:=TW (n:=n) c x 0 (Gp _ _ tx.sc) (by have:=tx.wt;omega) (by have:=tx.wt;have:=hc.wt;omega) (Gp _ _ hc.sc) (by have:=hc.wt;omega) (by omega) (by have:=hc.wt;omega);have t7:=CF (n:=n) (by omega) 7 [a,x,y];rw [c39];clear up hfn hG hO hA hP hg ha0 ha tv tx ty hd hc hpl hss;generalize r.op % 3=w3 at hw hv;generalize r.op % 7=w7 at hw7 hna;generalize c.subst 0 0 x=sb at hsb h3;generalize r.pick 0=r0 at p0 h2;generalize r.pick 1=r1 at p1 h3;obtain ⟨o0,x0,k0⟩:=a0;obtain ⟨o1,x1,k1⟩:=a;simp only [Tm.op,Tm.kids] at o6 hl;subst o6 hl;obtain ⟨o2,x2,k2⟩:=r;obtain ⟨o3,x3,k3⟩:=v;obtain ⟨o4,x4,k4⟩:=x;obtain ⟨o5,x5,k5⟩:=d;obtain ⟨o6,x6,k6⟩:=c;obtain ⟨o7,x7,k7⟩:=y;obtain ⟨o8,x8,k8⟩:=r0;obtain ⟨o9,x9,k9⟩:=r1;obtain ⟨oa,xa,ka⟩:=sb;simp only [Tm.n,Tm.op] at h1 hw hw7;simp only [BL,Am,Arl,Ark] at h0 h1 h2 h3 p0 p1 hsb t7 ⊢;cases is<;>by_cases hd0:(0:Int)<(e:Int) - 5<;>(simp (maxSteps:=1000000) only [↓Jq,↓XX,XY,↓reduceIte,Nat.reduceBEq,Nat.reduceAdd,Int.reduceEq,Int.reduceLT,Int.reduceLE,↓Ay h0,↓AG h1,↓Ag hw,↓Ag hw7,hv,hd4,hd0,hna,↓G8,↓Hj,↓Ag p0,↓Ag p1,↓AG h2,↓A5 hsb,↓AG h3,↓Kd,↓Ag t7];first | exact Ao _ _ | exact AU rfl (by simp) _)
 by_cases o18:a.op=18
 ·obtain ⟨d,hl⟩:=Al0 (Gt ha (show ar a.op=some 1 by rw [o18];decide))
  have hd:NOk g.length d:=by
   obtain ⟨o1,x1,k1⟩:=a;simp only [Tm.op,Tm.kids] at o18 hl;subst o18 hl;have hsc:=ha.sc;rw [Tm.sc] at hsc;rw [wt1] at aw;rw [dp1] at ad;exact ⟨hsc.2.2.1,by omega,by omega⟩
  obtain ⟨x,p,⟨N2,h2⟩,tx⟩:=hO g d (r.pick 0) (AW (by omega) hg) (Bq hd);refine ⟨.mk 19 0 [x],p,⟨N0+N1+N2+100,fun n hn=>?_⟩,Gc (by decide) (by decide) (BV (by decide) (by decide) (by decide)) tx.sc,by have:=tx.wt;rw [wt1];omega,by have:=tx.dp;rw [dp1];omega,fun hb=>up (by
   obtain ⟨oa,xa,ka⟩:=a;simp only [Tm.op,Tm.kids] at o18 hl;subst o18 hl;exact .quo e g _ d x (tx.gr hb))⟩
  ·obtain ⟨n,rfl⟩:∃k,n=k+1:=⟨n - 1,by omega⟩;have h0:=h0 n (by omega);have h1:=h1 n (by omega);have h2:=h2 n (by omega);rw [← we] at h2;have hw:=Ar (n:=n) (by omega) r.op (m:=3) (by omega) (by omega);have hw7:=Ar (n:=n) (by omega) r.op (m:=7) (by omega) (by omega);have p0:=AI (n:=n) (by omega) r 0;have t19:=CF (n:=n) (by omega) 19 [x];rw [c39];clear up hfn hG hO hA hP hg ha0 ha tv tx hd hpl;generalize r.op % 3=w3 at hw hv;generalize r.op % 7=w7 at hw7 hna;generalize r.pick 0=r0 at p0 h2;obtain ⟨o0,x0,k0⟩:=a0;obtain ⟨o1,x1,k1⟩:=a;simp only [Tm.op,Tm.kids] at o18 hl;subst o18 hl;obtain ⟨o2,x2,k2⟩:=r;obtain ⟨o3,x3,k3⟩:=v;obtain ⟨o4,x4,k4⟩:=x;obtain ⟨o5,x5,k5⟩:=d;obtain ⟨o8,x8,k8⟩:=r0;simp only [Tm.n,Tm.op] at h1 hw hw7;simp only [BL,Am,Arl,Ark] at h0 h1 h2 p0 t19 ⊢;cases is<;>by_cases hd0:(0:Int)<(e:Int) - 5<;>(simp (maxSteps:=1000000) only [↓Jq,↓XX,XY,↓reduceIte,Nat.reduceBEq,Nat.reduceAdd,Int.reduceEq,Int.reduceLT,Int.reduceLE,↓Ay h0,↓AG h1,↓Ag hw,↓Ag hw7,hv,hd4,hd0,hna,↓G8,↓Ag p0,↓AG h2,↓ED,↓Ag t19];first | exact Ao _ _ | exact AU rfl (by simp) _)
 have q1:a.op≠10:=fun h=>hpl (.inl h);have q2:a.op≠14:=fun h=>hpl (.inr (.inl h));have q3:a.op≠2:=fun h=>hpl (.inr (.inr h));refine ⟨v,is,⟨N0+N1+100,fun n hn=>?_⟩,tv⟩
 ·obtain ⟨n,rfl⟩:∃k,n=k+1:=⟨n - 1,by omega⟩;have h0:=h0 n (by omega);have h1:=h1 n (by omega);have hw:=Ar (n:=n) (by omega) r.op (m:=3) (by omega) (by omega);have hw7:=Ar (n:=n) (by omega) r.op (m:=7) (by omega) (by omega);rw [c39];clear up hfn hG hO hA hP hg ha0 ha tv hpl;generalize r.op % 3=w3 at hw hv;generalize r.op % 7=w7 at hw7 hna;obtain ⟨o0,x0,k0⟩:=a0;obtain ⟨o1,x1,k1⟩:=a;obtain ⟨o2,x2,k2⟩:=r;obtain ⟨o4,x3,k3⟩:=v;simp only [Tm.n,Tm.op] at h1 hw hw7 o3 o6 o18 q1 q2 q3;simp only [BL,Am] at h0 h1 ⊢;cases is<;>by_cases hd0:(0:Int)<(e:Int) - 5<;>(simp (maxSteps:=1000000) only [↓Jq,↓XX,XY,↓reduceIte,Nat.reduceBEq,Nat.reduceAdd,Int.reduceEq,Int.reduceLT,Int.reduceLE,↓Ay h0,↓AG h1,↓Ag hw,↓Ag hw7,hv,hd4,hd0,hna,o3,o6,o18,q1,q2,q3];first | exact Ao _ _ | exact AU rfl (by simp) _)
theorem AdL:∀e,e≤10→K9 e∧DS 39 1 e∧DS 33 2 e:=by
 intro e
 induction e using Nat.strongRecOn with
 | _ e ih =>
  intro he;have hp:1≤e→K9 (e - 1)∧DS 39 1 (e - 1)∧DS 33 2 (e - 1):=fun h=>ih (e - 1) (by omega) (by omega);have hp2:2≤e→K9 (e - 2)∧DS 39 1 (e - 2)∧DS 33 2 (e - 2):=fun h=>ih (e - 2) (by omega) (by omega);have hT:K9 e:=AgW he (fun h=>(hp (by omega)).1) (fun h=>(hp (by omega)).2.1);have hT6:6≤e→K9 6:=fun h=>by
   by_cases h6:e=6
   ·exact h6 ▸ hT
   ·exact (ih 6 (by omega) (by omega)).1
  have hR:6≤e→OU 65 3 e:=fun h=>AcL h he (hT6 h) (hp2 (by omega)).2.1;have hP:1≤e→Ad9 66 3 e:=fun h=>AeN h he (hp h).2.1 (fun h6=>(hp2 (by omega)).2.1);have hA:6≤e→OU 59 4 e:=fun h=>AbE h he (hp2 (by omega)).2.2 (hp (by omega)).2.1;have hO:DS 33 2 e:=Acx he (fun h=>(hp h).2.2) hA;exact ⟨hT,AhF he (fun h=>(hp h).2.1) (fun h=>(hp h).2.2) hR hP,hO⟩
structure CaseOk (g:Cz) (a t:Tm) (is object:Bool):Prop where
 gok:GOk 10 g
 len:g.length≤4
 asc:a.sc g.length
 awt:a.wt≤32768010
 adp:a.dp≤300
 tsc:t.sc g.length
 tdp:t.dp≤300
 chk:is=true→(t.chk 0 1).2=0
 cg:CtxG g
 ga:object=false→Gr 0 7 g .z a
 gt:is=true→Gr (if object then 2 else 1) 10 g a t
def P0 (p:Tm):Prop:=p=.mk 15 0 []∨∃op:Int,(op=16∨op=17)∧p=.mk op 0 [.mk 15 0 [],.mk 15 0 []]
def F0 (t:Tm):Prop:=t=.mk 10 0 []∨t=.mk 14 0 []∨t=.mk 2 0 []∨∃p,P0 p∧t=.mk 18 0 [p]
def F1 (t:Tm):Prop:=F0 t∨(∃(op:Int) (d c:Tm),(op=3∨op=6)∧F0 d∧F0 c∧t=.mk op 0 [d,c])∨∃p:Tm,(p=.mk 15 0 []∨∃i:Nat,p=.mk 1 i [])∧t=.mk 18 0 [p]
theorem AgM {op:Int} {r:Nat} (h:ar op=some r):¬ (0≤GL op∧GL op≠(r:Int)):=by
 unfold GL;by_cases h1:op=8∨op=9∨op=12∨op=19∨op=30
 ·rw [if_pos h1];rcases h1 with rfl | rfl | rfl | rfl | rfl<;>(cases (show r=1 from by have:=h;revert this;simp [ar];omega);decide)
 ·rw [if_neg h1];by_cases h2:op=4∨op=5
  ·rw [if_pos h2];rcases h2 with rfl | rfl<;>(cases (show r=2 from by have:=h;revert this;simp [ar];omega);decide)
  ·rw [if_neg h2];by_cases h7:op=7
   ·subst h7;cases (show r=3 from by have:=h;revert this;simp [ar];omega);decide
   ·rw [if_neg h7];by_cases h13:op=13
    ·subst h13;cases (show r=4 from by have:=h;revert this;simp [ar];omega);decide
    ·rw [if_neg h13];omega
mutual
theorem OV:∀(t:Tm) (k:Nat),t.sc k→t.shaped=true
 | .mk op n ks,k,h=>by
  rw [Tm.sc] at h;rw [Tm.shaped,scL_shaped op 0 ks k h.2.2];have h1:=AgM h.1;have h2:¬ (op=1∧n<0):=by
   rintro ⟨rfl,h3⟩
   have:=h.2.1
   rw [if_pos rfl] at this;omega
  rw [decide_eq_false h1,decide_eq_false h2];rfl
theorem scL_shaped:∀(op:Int) (i:Nat) (l:List Tm) (k:Nat),Tm.scL op i l k→Tm.shapedL l=true
 | _,_,[],_,_=>by rw [Tm.shapedL]
 | op,i,t::l,k,h=>by
  rw [Tm.scL] at h;rw [Tm.shapedL,OV t _ h.1,scL_shaped op (i+1) l k h.2];rfl
end
mutual
def Tm.surf:Tm→Nat
 | .mk op _ ks=>1+Tm.surfL op 0 ks
def Tm.surfL:Int→Nat→List Tm→Nat
 | _,_,[]=>0
 | op,i,t::l=>(if 0<Ah op i then 0 else t.surf)+Tm.surfL op (i+1) l
end
mutual
def Tm.inn:Tm→Nat
 | .mk op _ ks=>Tm.innL op 0 ks
def Tm.innL:Int→Nat→List Tm→Nat
 | _,_,[]=>0
 | op,i,t::l=>(if 0<Ah op i then t.wt else t.inn)+Tm.innL op (i+1) l
end
mutual
theorem Nv:∀t:Tm,t.surf+t.inn=t.wt
 | .mk op n ks=>by
  have:=surfL_innL op 0 ks
  simp only [Tm.surf,Tm.inn,Tm.wt];omega
theorem surfL_innL:∀(op:Int) (i:Nat) (l:List Tm),Tm.surfL op i l+Tm.innL op i l=Tm.wtL l
 | _,_,[]=>rfl
 | op,i,t::l=>by
  have h1:=Nv t;have h2:=surfL_innL op (i+1) l;simp only [Tm.surfL,Tm.innL,Tm.wtL];split<;>omega
end
mutual
def RV.vsz:RV→Nat
 | .mk op _ k _ _=>1+RV.vszL op 0 k
def RV.vszL:Int→Nat→List RV→Nat
 | _,_,[]=>0
 | op,i,v::l=>(if 0<Ah op i then 0 else v.vsz)+RV.vszL op (i+1) l
end
theorem Abh (v:RV):1≤v.vsz:=by obtain ⟨op,n,k,env,b⟩:=v;rw [RV.vsz];omega
inductive Rel (B:Nat):PV→RV→Prop
 | var (n:Int):Rel B (.var n) (.var n)
 | node (op n n':Int) (kp:List PV) (kr:List RV) (ts:List Tm) (e:List PV) (env:List RV) (h1:op≠1) (har:ar op=some ts.length) (hl:kp.length=ts.length) (hl2:kr.length=ts.length)
   (hk:∀i p r,Ah op i=0→kp[i]?=some p→kr[i]?=some r→Rel B p r)
   (hb:∀i b,0<Ah op i→ts[i]?=some b→(b.good∧b.wt≤B)∧kp[i]?=some .nil∧kr[i]?=some (.clo env b))
   (hel:e.length=env.length) (he:∀(i:Nat) p r,e[i]?=some p→env.reverse[i]?=some r→Rel B p r):Rel B (.mk op n kp (.mk op n' ts) e) (.node op n kr)
def Gb (B:Nat) (e:List PV) (env:List RV):Prop:=e.length=env.length∧∀(i:Nat) p r,e[i]?=some p→env.reverse[i]?=some r→Rel B p r
theorem N5 {B:Nat} {p:PV} {r:RV} (h:Rel B p r):∃op n k t e,p=.mk op n k t e∧r.op=op∧r.n=n:=by
 cases h with
 | var n=>exact ⟨_,_,_,_,_,rfl,rfl,rfl⟩
 | node=>exact ⟨_,_,_,_,_,rfl,rfl,rfl⟩
theorem Va (B:Nat):Gb B [] []:=⟨rfl,fun i p r h=>by simp at h⟩
theorem Us {B:Nat} {e l:List PV} {env l':List RV} (h:Gb B e env) (hl:l.length=l'.length) (hr:∀(i:Nat) p r,l[i]?=some p→l'[i]?=some r→Rel B p r):Gb B (l.reverse++e) (env++l'):=by
 refine ⟨by simp [h.1,hl,Nat.add_comm],?_⟩;intro i p r hp hr';rw [List.reverse_append] at hr';by_cases hi:i<l.length
 ·rw [List.getElem?_append_left (by simpa using hi),List.getElem?_reverse hi] at hp;rw [List.getElem?_append_left (by simp;omega),List.getElem?_reverse (by omega)] at hr';exact hr _ _ _ hp (by rw [hl];exact hr')
 ·rw [List.getElem?_append_right (by simp;omega),List.length_reverse] at hp;rw [List.getElem?_append_right (by simp;omega),List.length_reverse,← hl] at hr';exact h.2 _ _ _ hp hr'
theorem AhH {B:Nat} {e:List PV} {env:List RV} (h:Gb B e env) {m:Int} (h0:0≤m) (hm:m<env.length) {r:RV} (hr:env[(env.length - 1 - m).toNat]?=some r):Rel B (FE e m) r:=by
 rw [FE,if_pos (by rw [h.1];exact hm)];have hi:m.toNat<e.length:=by rw [h.1];omega
 rw [List.getD_eq_getElem?_getD,List.getElem?_eq_getElem hi];refine h.2 m.toNat _ _ (List.getElem?_eq_getElem hi) ?_;rw [List.getElem?_reverse (by omega),show env.length - 1 - m.toNat=(env.length - 1 - m).toNat by omega]
 exact hr
structure Cost (t:Tm) (v:RV) (k c u:Nat):Prop where
 le:c≤t.surf+k * t.inn
 p:2 * u≤c+2 * k
 q:2 * u+1≤c+2 * k∨t.op=19∧v.op=19∨t.op=30∧v.op=30
 v:k=0→t.surf≤v.vsz
structure MOk (m:M3) (k T:Nat):Prop where
 e:m.e=0
 w:(T:Int)≤m.w
 w2:m.w≤5000000
 s:(k:Int)≤m.s
 s2:m.s≤100000
def Ge (m:M3) (k T:Nat):M3:=⟨m.s - k,m.w - T,0⟩
theorem E0 (m:M3) (k1 T1 k2 T2:Nat):Ge (Ge m k1 T1) k2 T2=Ge m (k1+k2) (T1+T2):=by
 simp only [Ge,M3.mk.injEq,and_true];omega
theorem MI {m:M3} {k1 T1 k2 T2:Nat} (h:MOk m (k1+k2) (T1+T2)):MOk m k1 T1:=⟨h.e,by have:=h.w;omega,h.w2,by have:=h.s;omega,h.s2⟩
theorem IK {m:M3} {k1 T1 k2 T2:Nat} (h:MOk m (k1+k2) (T1+T2)):MOk (Ge m k1 T1) k2 T2:=⟨rfl,by have:=h.w;simp only [Ge];omega,by have:=h.w2;simp only [Ge];omega,by have:=h.s;simp only [Ge];omega,by have:=h.s2;simp only [Ge];omega⟩
theorem Mf {m:M3} {k T:Nat} (h:MOk m k (1+T)):Hl m=some (Ge m 0 1):=by
 have h1:=h.w;have h2:=h.w2;have h3:=h.e;rw [Hl,if_neg (by omega),if_neg (by omega),h3];simp only [Ge,Arf,M3.mk.injEq,and_true];omega
def AeT (B:Nat) (e:List PV) (t:Tm) (v:RV) (k T:Nat):Prop:=∃v',Rel B v' v∧∃F,∀f,F≤f→∀m,MOk m k T→Px f e t m=some (v',Ge m k T)
def WV (B f:Nat):Prop:=∀(s:Int) (t:Tm) (env:List RV) (v:RV) (s':Int),Av f s 0 t env=some (v,s',0)→t.good→t.wt≤B→∀e,Gb B e env→∃k c u T:Nat,s'=s+k∧Cost t v k c u∧T≤c+u+2 * k∧AeT B e t v k T
def GV (op:Int):Nat→List Tm→List RV→Nat
 | _,[],_=>0
 | _,_::_,[]=>0
 | i,t::l,v::vs=>(if 0<Ah op i then 0 else if t.op=19∧v.op=19∨t.op=30∧v.op=30 then 0 else 1)+GV op (i+1) l vs
theorem Abt (k1 k2 a b:Nat):k1 * a+k2 * b≤(k1+k2) * (a+b):=by
 rw [Nat.add_mul,Nat.mul_add,Nat.mul_add];have h1:0≤k1 * b:=Nat.zero_le _;have h2:0≤k2 * a:=Nat.zero_le _;omega
theorem NC {B f:Nat} (ih:WV B f) (op:Int) (env:List RV) (e:List PV) (he:Gb B e env):∀(l:List Tm) (i:Nat) (s:Int) (vs:List RV) (s':Int),AO (fun s e t=>Av f s e t env) op env i l s 0=some (vs,s',0)→Tm.goodL l→Tm.wtL l≤B →
  ∃k c u T:Nat,s'=s+k∧c≤Tm.surfL op i l+k * Tm.innL op i l∧2 * u+GV op i l vs≤c+2 * k∧(k=0→Tm.surfL op i l≤RV.vszL op i vs)∧T≤c+u+2 * k∧vs.length=l.length ∧
   ∃ps:List PV,ps.length=l.length∧(∀j t,l[j]?=some t→0<Ah op (i+j)→ps[j]?=some .nil∧vs[j]?=some (.clo env t))∧(∀j p r,Ah op (i+j)=0→ps[j]?=some p→vs[j]?=some r→Rel B p r) ∧
    (∀j t r,l[j]?=some t→Ah op (i+j)=0→vs[j]?=some r→∃s1 s2,Av f s1 0 t env=some (r,s2,0))∧∃F,∀g,F≤g→∀m,MOk m k T→QM (fun t m=>Px g e t m) op i l m=some (ps,Ge m k T)
 | [],i,s,vs,s',h,_,_=>by
  simp only [AO,Arf,Arg] at h;obtain ⟨rfl,rfl,_⟩:=h;refine ⟨0,0,0,0,by omega,by omega,by rw [GV];omega,fun _=>by rw [Tm.surfL,RV.vszL];omega,by omega,rfl,[],rfl,fun j t h=>by simp at h,fun j p r _ h=>by simp at h,fun j t r h=>by simp at h,0,fun g _ m hm=>?_⟩
  have:Ge m 0 0=m:=by
   obtain ⟨a,b,c⟩:=m
   have:=hm.e
   simp only at this;subst this;simp [Ge]
  rw [QM,this]
 | t::l,i,s,vs,s',h,hg,hw=>by
  rw [Tm.goodL] at hg;rw [Tm.wtL] at hw;simp only [AO] at h;by_cases hb:0<Ah op i
  ·rw [if_pos hb] at h;cases hk:AO (fun s e t=>Av f s e t env) op env (i+1) l s 0 with
   | none=>rw [hk] at h;cases h
   | some q =>
    obtain ⟨vs1,s1,e1⟩:=q;rw [hk] at h;simp only [Ari,Arf,Arg] at h;obtain ⟨rfl,rfl,rfl⟩:=h;obtain ⟨k,c,u,T,h1,h2,h3,h4,h5,h6,ps,h7,h8,h9,h10,F,h11⟩:=NC ih op env e he l (i+1) s vs1 s1 hk hg.2 (by omega);refine ⟨k,c,u,T,h1,?_,?_,?_,h5,by simp [h6],.nil::ps,by simp [h7],?_,?_,?_,F,?_⟩
    ·rw [Tm.surfL,Tm.innL,if_pos hb,if_pos hb]
     have:=Abt 0 k t.wt (Tm.innL op (i+1) l)
     rw [Nat.zero_mul,Nat.zero_add,Nat.zero_add] at this;omega
    ·rw [GV,if_pos hb];omega
    ·intro hk0;rw [Tm.surfL,RV.vszL,if_pos hb,if_pos hb]
     have:=h4 hk0
     omega
    ·intro j x hj hbj;cases j with
     | zero =>
      simp only [List.getElem?_cons_zero,Arf] at hj;subst hj;exact ⟨rfl,rfl⟩
     | succ j =>
      rw [List.getElem?_cons_succ] at hj;rw [List.getElem?_cons_succ,List.getElem?_cons_succ];exact h8 j x hj (by rwa [show i+1+j=i+(j+1) by omega])
    ·intro j p r hbj hp hr;cases j with
     | zero=>rw [Nat.add_zero] at hbj;omega
     | succ j =>
      rw [List.getElem?_cons_succ] at hp hr;exact h9 j p r (by rwa [show i+1+j=i+(j+1) by omega]) hp hr
    ·intro j x r hj hbj hr;cases j with
     | zero=>rw [Nat.add_zero] at hbj;omega
     | succ j =>
      rw [List.getElem?_cons_succ] at hj hr;exact h10 j x r hj (by rwa [show i+1+j=i+(j+1) by omega]) hr
    ·intro g hgF m hm;rw [QM,if_pos hb,h11 g hgF m hm];rfl
  ·rw [if_neg hb] at h;split at h
   ·cases h
   ·rename_i v s1 e1 hev;cases hk:AO (fun s e t=>Av f s e t env) op env (i+1) l s1 e1 with
    | none=>rw [hk] at h;cases h
    | some q =>
     obtain ⟨vs1,s2,e2⟩:=q;rw [hk] at h;simp only [Ari,Arf,Arg] at h;obtain ⟨rfl,rfl,rfl⟩:=h;have h0:=GD _ (fun s e t v s' h=>B5 h) op env l _ _ _ _ _ hk;subst h0;obtain ⟨k1,c1,u1,T1,a1,a2,a3,p1,a4,F1,a5⟩:=ih s t env v s1 hev hg.1 (by omega) e he;obtain ⟨k,c,u,T,h1,h2,h3,h4,h5,h6,ps,h7,h8,h9,h10,F,h11⟩:=NC ih op env e he l (i+1) s1 vs1 s2 hk hg.2 (by omega);have ac:=a2.le;have ap:=a2.p;have aq:=a2.q;refine ⟨k1+k,c1+c,u1+u,T1+T,by omega,?_,?_,?_,by omega,by simp [h6],p1::ps,by simp [h7],?_,?_,?_,F1+F,?_⟩
     ·rw [Tm.surfL,Tm.innL,if_neg hb,if_neg hb]
      have:=Abt k1 k t.inn (Tm.innL op (i+1) l)
      omega
     ·rw [GV,if_neg hb];split
      ·omega
      ·rename_i hno;rcases aq with aq | aq
       ·omega
       ·exact absurd aq hno
     ·intro hk0;rw [Tm.surfL,RV.vszL,if_neg hb,if_neg hb]
      have:=h4 (by omega)
      have:=a2.v (by omega)
      omega
     ·intro j x hj hbj;cases j with
      | zero=>rw [Nat.add_zero] at hbj;exact absurd hbj hb
      | succ j =>
       rw [List.getElem?_cons_succ] at hj;rw [List.getElem?_cons_succ,List.getElem?_cons_succ];exact h8 j x hj (by rwa [show i+1+j=i+(j+1) by omega])
     ·intro j p r hbj hp hr;cases j with
      | zero =>
       simp only [List.getElem?_cons_zero,Arf] at hp hr;subst hp hr;exact a4
      | succ j =>
       rw [List.getElem?_cons_succ] at hp hr;exact h9 j p r (by rwa [show i+1+j=i+(j+1) by omega]) hp hr
     ·intro j x r hj hbj hr;cases j with
      | zero =>
       simp only [List.getElem?_cons_zero,Arf] at hj hr;subst hj hr;exact ⟨_,_,hev⟩
      | succ j =>
       rw [List.getElem?_cons_succ] at hj hr;exact h10 j x r hj (by rwa [show i+1+j=i+(j+1) by omega]) hr
     ·intro g hgF m hm;rw [QM,if_neg hb,a5 g (by omega) m (MI hm)];simp only;rw [h11 g (by omega) _ (IK hm),E0];rfl
theorem Ic {B:Nat} {p:PV} {r:RV} (h:Rel B p r) (h1:r.op≠1):∃n' kp ts e env,p=.mk r.op r.n kp (.mk r.op n' ts) e∧ar r.op=some ts.length∧kp.length=ts.length∧r.k.length=ts.length ∧
  (∀i p' r',Ah r.op i=0→kp[i]?=some p'→r.k[i]?=some r'→Rel B p' r') ∧
  (∀i b,0<Ah r.op i→ts[i]?=some b→(b.good∧b.wt≤B)∧kp[i]?=some .nil∧r.k[i]?=some (.clo env b))∧Gb B e env:=by
 cases h with
 | var n=>exact absurd rfl h1
 | node op n n' kp kr ts e env h1 har hl hl2 hk hb hel he=>exact ⟨n',kp,ts,e,env,rfl,har,hl,hl2,hk,hb,hel,he⟩
theorem OG {m:M3} (h:m.e=0):Ge m 0 0=m:=by
 obtain ⟨a,b,c⟩:=m;simp only at h;subst h;simp [Ge]
theorem Aen {op:Int} {r:Nat} (h:ar op=some r):r≤4:=by
 unfold ar at h
 repeat' split at h
 all_goals first | (simp only [Arf] at h;omega) | cases h
theorem Aoy (g:Nat) (n:Int) (o0 n0:Int) (k0:List PV) (t0:Tm) (e0:List PV) (x:PV) (t:Tm) (e:List PV) (m:M3):stP (g+1) (.mk 5 n [.mk o0 n0 k0 t0 e0,x] t e) m=if o0=4 then opP g (.mk o0 n0 k0 t0 e0) 1 [x] m else some (.nil,m):=by
 rw [stP.eq_def];simp only [if_true]
theorem Ami (g:Nat) (op n:Int) (h:op=8∨op=9) (n0:Int) (a x y:PV) (t0:Tm) (e0:List PV) (t:Tm) (e:List PV) (m:M3):stP (g+1) (.mk op n [.mk 7 n0 [a,x,y] t0 e0] t e) m=some (if op=8 then x else y,m):=by
 rw [stP.eq_def];simp only;rw [if_neg (by omega),if_pos h,if_true]
theorem AkM (g:Nat) (n:Int) (p0 z p2:PV) (n3:Int) (k3:List PV) (t3:Tm) (e3:List PV) (t:Tm) (e:List PV) (m:M3):stP (g+1) (.mk 13 n [p0,z,p2,.mk 11 n3 k3 t3 e3] t e) m=some (z,m):=by
 rw [stP.eq_def];simp only [Int.reduceEq,if_false,if_true,or_self]
theorem Aji {g:Nat} {n:Int} {p0 z p2:PV} {n3:Int} {x y:PV} {t3:Tm} {e3:List PV} {t:Tm} {e:List PV} {m m':M3} (hc:ctP g (.mk 13 n [.nil,z,.nil,x] t e) m=some (y,m')):stP (g+1) (.mk 13 n [p0,z,p2,.mk 12 n3 [x] t3 e3] t e) m=opP g (.mk 13 n [p0,z,p2,.mk 12 n3 [x] t3 e3] t e) 2 [x,y] m':=by
 rw [stP.eq_def];simp only [Int.reduceEq,if_false,if_true,or_self,hc]
theorem AkN (g:Nat) (n:Int) (p0 z p2:PV) (o3 n3:Int) (k3:List PV) (t3:Tm) (e3:List PV) (t:Tm) (e:List PV) (m:M3) (h11:o3≠11) (h12:o3≠12):stP (g+1) (.mk 13 n [p0,z,p2,.mk o3 n3 k3 t3 e3] t e) m=some (.nil,m):=by
 rw [stP.eq_def];simp only [Int.reduceEq,if_false,if_true,or_self,h11,h12]
theorem Amk (g:Nat) (n:Int) (n0:Int) (x:PV) (t0:Tm) (e0:List PV) (t:Tm) (e:List PV) (m:M3):stP (g+1) (.mk 30 n [.mk 19 n0 [x] t0 e0] t e) m=some (x,m):=by
 rw [stP.eq_def];simp only [Int.reduceEq,if_false,if_true,or_self]
theorem Ak8 (g:Nat) (n:Int) (o0 n0:Int) (k0:List PV) (t0:Tm) (e0:List PV) (t:Tm) (e:List PV) (m:M3) (h:o0≠19):stP (g+1) (.mk 30 n [.mk o0 n0 k0 t0 e0] t e) m=some (.nil,m):=by
 rw [stP.eq_def];simp only [Int.reduceEq,if_false,if_true,or_self,h]
theorem Am6 (g:Nat) (n:Int) (n0:Int) (x:PV) (t0:Tm) (e0:List PV) (t:Tm) (e:List PV) (m:M3):stP (g+1) (.mk 19 n [.mk 30 n0 [x] t0 e0] t e) m=some (x,m):=by
 rw [stP.eq_def];simp only [Int.reduceEq,if_false,if_true,or_self]
theorem Ald (g:Nat) (n:Int) (o0 n0:Int) (k0:List PV) (t0:Tm) (e0:List PV) (t:Tm) (e:List PV) (m:M3) (h:o0≠30):stP (g+1) (.mk 19 n [.mk o0 n0 k0 t0 e0] t e) m=some (.nil,m):=by
 rw [stP.eq_def];simp only [Int.reduceEq,if_false,if_true,or_self,h]
def Ha (op n:Int) (ps:List PV) (t:Tm) (e:List PV) (v':PV) (k T:Nat):Prop:=∃F,∀g,F≤g→∀m,MOk m k T→ctP g (.mk op n ps t e) m=some (v',Ge m k T)
theorem Amq {op n:Int} {ps:List PV} {t:Tm} {e:List PV} (h:CB op=false):Ha op n ps t e (.mk op n ps t e) 0 0:=by
 refine ⟨1,fun g hg m hm=>?_⟩;obtain ⟨g,rfl⟩:∃k,g=k+1:=⟨g - 1,by omega⟩;rw [ctP,h,OG hm.e];rfl
theorem Ny {op n:Int} {ps:List PV} {t:Tm} {e:List PV} (h:CB op=true) (hs:∃F,∀g,F≤g→∀m,stP g (.mk op n ps t e) m=some (.nil,m)):Ha op n ps t e (.mk op n ps t e) 0 1:=by
 obtain ⟨F,hs⟩:=hs;refine ⟨F+2,fun g hg m hm=>?_⟩;obtain ⟨g,rfl⟩:∃k,g=k+1:=⟨g - 1,by omega⟩;rw [ctP,if_pos h,if_neg (fun h=>h hm.e),if_neg (by omega),Mf (k:=0) (T:=0) hm];simp only;rw [if_neg (by simp [Ge]),hs g (by omega)]
theorem Gm {op n:Int} {ps:List PV} {t:Tm} {e:List PV} {v':PV} {k T:Nat} (h:CB op=true) (hv:v'≠.nil) (hs:∃F,∀g,F≤g→∀m,MOk m k T→stP g (.mk op n ps t e) m=some (v',Ge m k T)):Ha op n ps t e v' (k+1) (1+T):=by
 obtain ⟨F,hs⟩:=hs;refine ⟨F+2,fun g hg m hm=>?_⟩;obtain ⟨g,rfl⟩:∃k,g=k+1:=⟨g - 1,by omega⟩;have hm':MOk (Ge m 0 1) k T:=IK (k1:=0) (k2:=k) ⟨hm.e,hm.w,hm.w2,by have:=hm.s;omega,hm.s2⟩;rw [ctP,if_pos h,if_neg (fun h=>h hm.e),if_neg (by omega),Mf hm];simp only;rw [if_neg (by simp [Ge]),hs g (by omega) _ hm',E0];have h1:=hm.s;have h2:=hm.s2;cases v' with
 | nil=>exact absurd rfl hv
 | mk o1 n1 k1 t1 e1 =>
  simp only;rw [if_neg (by simp [Ge]),if_neg (by simp only [Ge];omega),if_neg (by simp only [Ge];omega)];simp only [Ge,Arf,Arg,true_and,M3.mk.injEq,and_true];omega
theorem Ux {B:Nat} {op n n':Int} {ps:List PV} {ts:List Tm} {e:List PV} {i:Nat} {b:Tm} {l:List PV} {v:RV} {k T:Nat} (hb:ts[i]?=some b) (hl:l.length≤2) (h:AeT B (l.reverse++e) b v k T) :
  ∃v',Rel B v' v∧∃F,∀g,F≤g→∀m,MOk m k T→opP g (.mk op n ps (.mk op n' ts) e) i l m=some (v',Ge m k T):=by
 obtain ⟨v',hr,F,h⟩:=h;refine ⟨v',hr,F+10,fun g hg m hm=>?_⟩;obtain ⟨g,rfl⟩:∃k,g=k+1:=⟨g - 1,by omega⟩;rw [opP];rw [if_neg (by omega),hb];exact h g (by omega) m hm
theorem KG {B:Nat} {p:PV} {r:RV} (h:Rel B p r):p≠.nil:=by
 obtain ⟨op,n,k,t,e,rfl,_⟩:=N5 h;exact fun h=>by cases h
theorem NQ {B f:Nat} (ih:WV B f) {e l:List PV} {env l':List RV} (he:Gb B e env) (hl:l.length=l'.length) (hr:∀(i:Nat) p r,l[i]?=some p→l'[i]?=some r→Rel B p r) {b:Tm} (hg:b.good) (hw:b.wt≤B) {s s':Int} {v:RV}
  (h:Av f s 0 b (env++l')=some (v,s',0)):∃k c u T:Nat,s'=s+k∧Cost b v k c u∧T≤c+u+2 * k∧AeT B (l.reverse++e) b v k T :=
 ih s b _ v s' h hg hw _ (Us he hl hr)
theorem QT {b:Tm} {v:RV} {k c u:Nat} (h:Cost b v k c u):c≤(k+1) * b.wt:=by
 have h1:=h.le;have h2:=Nv b;have h3:k * b.inn≤k * b.wt:=Nat.mul_le_mul_left _ (by omega);rw [Nat.add_mul,Nat.one_mul];omega
theorem Ahf {B:Nat}:∀f,(∀g,g<f→WV B g)→∀(s:Int) (n n0:Int) (env:List RV) (b0 b2:Tm) (vz vn w:RV) (s':Int) (e:List PV) (pz pn:PV) (n':Int) (ts:List Tm),headR f s 0 (.node 13 n0 [.clo env b0,vz,.clo env b2,vn])=some (w,s',0) →
  Rel B pz vz→Rel B pn vn→Gb B e env→ts[2]?=some b2→b2.good→b2.wt≤B→(∀pw:PV,Rel B (.mk 13 n [.nil,pz,.nil,pn] (.mk 13 n' ts) e) (.node 13 n0 [.clo env b0,vz,.clo env b2,vn])) →
  (∀(px:PV) (vx:RV),Rel B px vx→Rel B (.mk 13 n [.nil,pz,.nil,px] (.mk 13 n' ts) e) (.node 13 0 [.clo env b0,vz,.clo env b2,vx])) →
  ∃k c u T:Nat,s'=s+k∧c≤k * b2.wt∧2 * u≤c+2 * k∧T≤c+u+2 * k+(if k=0 then 1 else 0)∧(k=0→c=0∧u=0∧w=.node 13 n0 [.clo env b0,vz,.clo env b2,vn]) ∧
   ∃w',Rel B w' w∧Ha 13 n [.nil,pz,.nil,pn] (.mk 13 n' ts) e w' k T:=by
 intro f
 induction f with
 | zero=>intro _ s n n0 env b0 b2 vz vn w s' e pz pn n' ts h;rw [headR] at h;cases h
 | succ f ihf =>
  intro ih s n n0 env b0 b2 vz vn w s' e pz pn n' ts h hz hn he hb2 hg2 hw2 hself hless;obtain ⟨V,hV⟩:∃V,V=RV.node 13 n0 [.clo env b0,vz,.clo env b2,vn]:=⟨_,rfl⟩;have hop:V.op=13:=by rw [hV];rfl
  have hk0:V.k[0]?=some (.clo env b0):=by rw [hV];rfl
  have hk1:V.k[1]?=some vz:=by rw [hV];rfl
  have hk2:V.k[2]?=some (.clo env b2):=by rw [hV];rfl
  have hk3:V.k[3]?=some vn:=by rw [hV];rfl
  rw [← hV] at h hself ⊢;rw [headR] at h;rw [if_neg (by simp)] at h;split at h
  ·cases h
  simp only [hop,if_true] at h;rw [if_neg (by decide),if_neg (by decide),if_neg (by decide),if_neg (by decide),hk0,hk1,hk2,hk3] at h;simp only at h;obtain ⟨on,nn,kn,tn,en,hpn,hon,hnn⟩:=N5 hn;by_cases h11:vn.op=11
  ·rw [if_pos h11] at h;by_cases hs:s+1≤1000
   ·rw [if_pos hs] at h;simp only [Arf,Arg] at h;obtain ⟨rfl,rfl,_⟩:=h;refine ⟨1,0,0,1,rfl,by omega,by omega,by simp,fun h=>by omega,pz,hz,Gm (k:=0) (T:=0) (by decide) (KG hz) ⟨1,fun g hg m hm=>?_⟩⟩;obtain ⟨g,rfl⟩:∃k,g=k+1:=⟨g - 1,by omega⟩;rw [hpn,← hon,h11,AkM,OG hm.e]
   ·rw [if_neg hs] at h;simp at h
  ·rw [if_neg h11] at h;by_cases h12:vn.op=12
   ·rw [if_pos h12] at h;by_cases hs:s+1≤1000
    ·rw [if_pos hs] at h;have hvn1:vn.op≠1:=by omega
     obtain ⟨nn',kp,ts',en',envn,hpn',har,hkl,hrl,hkk,_,_⟩:=Ic hn hvn1;rw [h12,show ar 12=some 1 by decide,Arf] at har
     obtain ⟨vx,hvx⟩:=Gv (l:=vn.k) (by omega);obtain ⟨px,hpx⟩:=Gv (l:=kp) (by omega);have hx:Rel B px vx:=hkk 0 px vx (by rw [h12];decide) (by rw [hpx];rfl) (by rw [hvx];rfl);have hv0:(RV.k vn)[0]?=some vx:=by rw [hvx];rfl
     obtain ⟨on2,nn2,kn2,envn2,bn2⟩:=vn;simp only [RV.k] at hv0 h;rw [hv0] at h;simp only at h;split at h
     ·cases h
     rename_i vh s2 e2 hh;split at h
     ·cases h
     rw [show (RV.clo env b2).env=env from rfl,show (RV.clo env b2).b=b2 from rfl] at h
     have he2:=B5 h;subst he2;obtain ⟨k1,c1,u1,T1,a1,a2,a3,a4,a5,w1,a6,F1,a7⟩:=ihf (fun g hg=>ih g (by omega)) (s+1) n 0 env b0 b2 vz vx vh s2 e pz px n' ts hh hz hx he hb2 hg2 hw2 (fun _=>hless px vx hx) hless;obtain ⟨k2,c2,u2,T2,d1,d2,d3,d4⟩:=NQ (ih f (by omega)) (l:=[px,w1]) (l':=[vx,vh]) he rfl (by
      intro i p r hp hr
      match i with
      | 0=>simp only [List.getElem?_cons_zero,Arf] at hp hr;subst hp hr;exact hx
      | 1=>simp only [List.getElem?_cons_succ,List.getElem?_cons_zero,Arf] at hp hr;subst hp hr;exact a6
      | i+2=>simp at hp) hg2 hw2 h
     obtain ⟨w2,q1,F2,q2⟩:=Ux (op:=13) (n:=n) (n':=n') (ps:=[.nil,pz,.nil,pn]) hb2 (by simp) d4;have hd:=QT d2;have hdp:=d2.p;refine ⟨k1+k2+1,c1+c2,u1+u2,1+(T1+T2),by omega,?_,by omega,?_,fun h=>by omega,w2,q1,Gm (k:=k1+k2) (T:=T1+T2) (by decide) (KG q1) ⟨F1+F2+2,fun g hg m hm=>?_⟩⟩
     ·have e1:(k1+k2+1) * b2.wt=k1 * b2.wt+(k2+1) * b2.wt:=by rw [show k1+k2+1=k1+(k2+1) by omega,Nat.add_mul]
      omega
     ·rw [if_neg (by omega)];split at a4<;>omega
     ·obtain ⟨g,rfl⟩:∃k,g=k+1:=⟨g - 1,by omega⟩;simp only [RV.op] at h12;subst h12;rw [hpn',hpx];simp only [RV.op,RV.n];rw [Aji (a7 g (by omega) m (MI hm))];rw [hpn',hpx] at q2;simp only [RV.op,RV.n] at q2;rw [q2 g (by omega) _ (IK hm),E0]
    ·rw [if_neg hs] at h;simp at h
   ·rw [if_neg h12] at h;simp only [Arf,Arg] at h;obtain ⟨rfl,rfl,_⟩:=h;refine ⟨0,0,0,1,by omega,by omega,by omega,by simp,fun _=>⟨rfl,rfl,rfl⟩,_,hself pz,Ny (by decide) ⟨1,fun g hg m=>?_⟩⟩;obtain ⟨g,rfl⟩:∃k,g=k+1:=⟨g - 1,by omega⟩;rw [hpn,AkN _ _ _ _ _ _ _ _ _ _ _ _ _ (by rw [← hon];exact h11) (by rw [← hon];exact h12)]
theorem Dm {op n:Int} {ks:List Tm} {e ps:List PV} {k1 T1 kh Th:Nat} {v':PV} (h1:op≠1) (hks:ks.length≤4) (hK:∃F,∀g,F≤g→∀m,MOk m k1 T1→QM (fun t m=>Px g e t m) op 0 ks m=some (ps,Ge m k1 T1)) (hH:Ha op n ps (.mk op n ks) e v' kh Th) :
  ∃F,∀g,F≤g→∀m,MOk m (k1+kh) (1+(T1+Th))→Px g e (.mk op n ks) m=some (v',Ge m (k1+kh) (1+(T1+Th))):=by
 obtain ⟨F1,hK⟩:=hK;obtain ⟨F2,hH⟩:=hH;refine ⟨F1+F2+10,fun g hg m hm=>?_⟩;obtain ⟨g,rfl⟩:∃k,g=k+1:=⟨g - 1,by omega⟩;have hm':MOk (Ge m 0 1) (k1+kh) (T1+Th):=IK (k1:=0) ⟨hm.e,hm.w,hm.w2,by have:=hm.s;omega,hm.s2⟩;rw [Px,Mf hm];simp only;rw [if_neg h1,if_neg (by omega),if_neg (by simp [Ge]),hK g (by omega) _ (MI hm')];simp only;rw [if_neg (by simp [Ge]),hH g (by omega) _ (IK hm'),E0,E0];congr 3
 all_goals omega
theorem AgN {op:Int} (h:¬ (op=5∨op=8∨op=9∨op=13∨op=19∨op=30)):CB op=false:=by
 have h1:¬ op=5:=fun e=>h (.inl e);have h2:¬ op=8:=fun e=>h (.inr (.inl e));have h3:¬ op=9:=fun e=>h (.inr (.inr (.inl e)));have h4:¬ op=13:=fun e=>h (.inr (.inr (.inr (.inl e))));have h5:¬ op=19:=fun e=>h (.inr (.inr (.inr (.inr (.inl e)))));have h6:¬ op=30:=fun e=>h (.inr (.inr (.inr (.inr (.inr e)))));simp [CB,h1,h2,h3,h4,h5,h6]
set_option maxHeartbeats 1000000 in
theorem Tw (B:Nat):∀f,WV B f:=by
 intro f
 induction f using Nat.strongRecOn with
 | _ f ih =>
 intro s t env v s' h hg hw e he;cases f with
 | zero=>rw [Av] at h;cases h
 | succ f =>
 obtain ⟨op,n,ks⟩:=t;rw [Av] at h;rw [if_neg (by simp)] at h;split at h
 ·cases h
 rename_i hel;rw [Tm.good] at hg;obtain ⟨hgn,hgl⟩:=hg;have har:=hgn.1;have hk4:=Aen har;rw [Tm.wt] at hw;by_cases h1:op=1
 ·subst h1;rw [if_pos rfl] at h;have hks:ks=[]:=by
   rw [show ar 1=some 0 by decide,Arf] at har
   exact List.eq_nil_of_length_eq_zero har.symm
  subst hks;have hn:=hgn.2.1 rfl;have hrun:∃F,∀g,F≤g→∀m,MOk m 0 1→Px g e (.mk 1 n []) m=some (FE e n,Ge m 0 1):=by
   refine ⟨e.length+10,fun g hg m hm=>?_⟩;obtain ⟨g,rfl⟩:∃k,g=k+1:=⟨g - 1,by omega⟩;rw [Px,Mf (k:=0) (T:=0) hm];simp only;rw [if_pos trivial,if_pos ⟨by omega,by omega,by omega⟩]
  have hcost:∀v:RV,Cost (.mk 1 n []) v 0 1 0:=fun v=>⟨by simp [Tm.surf,Tm.surfL],by omega,.inl (by omega),fun _=>by have:=Abh v;simp only [Tm.surf,Tm.surfL];omega⟩;by_cases hlt:n<env.length
  ·rw [if_pos hlt,if_pos hn.1] at h;cases hr:env[((env.length:Int) - 1 - n).toNat]? with
   | none=>rw [hr] at h;cases h
   | some r =>
    rw [hr] at h;simp only [Ari,Arf,Arg] at h;obtain ⟨rfl,rfl,_⟩:=h;exact ⟨0,1,0,1,by omega,hcost _,by omega,_,AhH he hn.1 hlt hr,hrun⟩
  ·rw [if_neg hlt] at h;split at h
   ·simp only [Arf,Arg] at h;obtain ⟨rfl,rfl,_⟩:=h;refine ⟨0,1,0,1,by omega,hcost _,by omega,_,?_,hrun⟩;rw [FE,if_neg (by rw [he.1];exact hlt),he.1];exact .var _
   ·cases h
 rw [if_neg h1] at h;split at h
 ·cases h
 split at h
 ·cases h
 split at h
 ·cases h
 rename_i vs s1 e1 hk;have he1:=Gx h;subst he1;obtain ⟨k1,c1,u1,T1,q1,q2,q3,q4,q5,q6,ps,q7,q8,q9,q10,q11⟩:=NC (ih f (by omega)) op env e he ks 0 s vs s1 hk hgl (by omega);simp only [Nat.zero_add] at q8 q9 q10;have hnode:Rel B (.mk op n ps (.mk op n ks) e) (.node op n vs):=by
  refine .node op n n ps vs ks e env h1 har q7 q6 (fun i p r=>q9 i p r) ?_ he.1 he.2;intro i b hb hi;obtain ⟨a1,a2⟩:=q8 i b hi hb;have hm:=List.mem_of_getElem? hi
  have:=DD hm
  exact ⟨⟨Ow hgl hm,by omega⟩,a1,a2⟩
 obtain ⟨V,hV⟩:∃V,V=RV.node op n vs:=⟨_,rfl⟩;have hVo:V.op=op:=by rw [hV];rfl
 have hVk:V.k=vs:=by rw [hV];rfl
 have hVz:V.vsz=1+RV.vszL op 0 vs:=by rw [hV,RV.node,RV.vsz]
 rw [← hV] at h hnode;cases f with
 | zero=>rw [headR] at h;cases h
 | succ f =>
 have h00:=h;rw [headR] at h;rw [if_neg (by simp)] at h;split at h
 ·cases h
 by_cases hr:¬ (op=5∨op=8∨op=9∨op=13∨op=19∨op=30)
 ·rw [hVo,if_neg (by omega),if_neg (by omega),if_neg (by omega),if_neg (by omega),if_neg (by omega)] at h;simp only [Arf,Arg] at h;obtain ⟨rfl,rfl,_⟩:=h;refine ⟨k1,1+c1,u1,1+T1,q1,⟨?_,by omega,.inl (by omega),fun h=>?_⟩,by omega,_,hnode,Dm (kh:=0) (Th:=0) h1 (by omega) q11 (Amq (AgN hr))⟩
  ·rw [Tm.surf,Tm.inn];omega
  ·have:=q4 h;rw [Tm.surf,hVz];omega
 have hrule:CB op=true:=by
  have:op=5∨op=8∨op=9∨op=13∨op=19∨op=30:=Decidable.byContradiction hr
  rcases this with rfl | rfl | rfl | rfl | rfl | rfl<;>rfl
 by_cases h5:op=5
 ·subst h5;obtain ⟨m0,a,b,x,rfl⟩:=hgn.2.2.2.1 rfl;obtain ⟨v0,vx,rfl⟩:=Akd q6;obtain ⟨p0,px,rfl⟩:=Akd q7;obtain ⟨t1,t2,hv0⟩:=q10 0 _ v0 rfl (by decide) rfl;obtain ⟨va,rfl⟩:=Aba hv0;have r0:=q9 0 p0 _ (by decide) rfl rfl;have rx:=q9 1 px vx (by decide) rfl rfl;obtain ⟨n',kp,ts,e0,env0,hp0,b1,b2,b3,b4,b5,b6⟩:=Ic r0 (by simp [RV.node,RV.op]);simp only [RV.node,RV.op,RV.n,RV.k] at hp0 b1 b3 b4 b5;rw [show ar 4=some 2 by decide,Arf] at b1
  obtain ⟨a',b',rfl⟩:=Akd b1.symm;obtain ⟨⟨g1,g2⟩,_,g3⟩:=b5 1 b' (by decide) rfl;simp only [List.getElem?_cons_succ,List.getElem?_cons_zero,Arf,RV.clo,RV.mk.injEq,true_and] at g3;obtain ⟨rfl,rfl⟩:=g3;rw [hVo,if_pos rfl,hVk] at h;simp only [List.getElem?_cons_succ,List.getElem?_cons_zero] at h;rw [show (RV.node 4 m0 [va,RV.clo env b]).op=4 from rfl,if_pos rfl] at h
  split at h
  ·rw [show (RV.node 4 m0 [va,RV.clo env b]).k[1]?=some (RV.clo env b) from rfl] at h
   simp only at h;split at h
   ·cases h
   rw [show (RV.clo env b).env=env from rfl,show (RV.clo env b).b=b from rfl] at h
   obtain ⟨k2,c2,u2,T2,d1,d2,d3,d4⟩:=NQ (ih f (by omega)) (l:=[px]) (l':=[vx]) b6 rfl (by
    intro i p r hp hr
    match i with
    | 0=>simp only [List.getElem?_cons_zero,Arf] at hp hr;subst hp hr;exact rx
    | i+1=>simp at hp) g1 g2 h
   obtain ⟨w2,y1,F2,y2⟩:=Ux (op:=4) (n:=m0) (n':=n') (ps:=kp) (ts:=[a',b]) (i:=1) (b:=b) (l:=[px]) rfl (by simp) d4;have hd:=QT d2;have hdp:=d2.p;have hiw:b.wt≤Tm.innL 5 0 [.mk 4 m0 [a,b],x]:=by
    simp only [Tm.innL,Tm.inn];rw [if_neg (show ¬ 0<Ah 5 0 by decide),if_neg (show ¬ 0<Ah 4 0 by decide),if_pos (show 0<Ah 4 (0+1) by decide)]
    omega
   refine ⟨k1+(k2+1),1+(c1+c2),u1+u2,1+(T1+(1+T2)),by omega,⟨?_,by omega,.inl (by omega),fun h=>by omega⟩,by omega,w2,y1,Dm h1 (by simp) q11 (Gm (k:=k2) (T:=T2) hrule (KG y1) ⟨F2+1,fun g hg m hm=>?_⟩)⟩
   ·rw [Tm.surf,Tm.inn];have e1:(k1+(k2+1)) * Tm.innL 5 0 [.mk 4 m0 [a,b],x]=k1 * Tm.innL 5 0 [.mk 4 m0 [a,b],x]+(k2+1) * Tm.innL 5 0 [.mk 4 m0 [a,b],x]:=by rw [Nat.add_mul]
    have e2:(k2+1) * b.wt≤(k2+1) * Tm.innL 5 0 [.mk 4 m0 [a,b],x]:=Nat.mul_le_mul_left _ hiw;omega
   ·obtain ⟨g,rfl⟩:∃k,g=k+1:=⟨g - 1,by omega⟩;rw [hp0,Aoy,if_pos rfl];exact y2 g (by omega) m hm
  ·simp at h
 by_cases h89:op=8∨op=9
 ·obtain ⟨m0,a,x,y,rfl⟩:=hgn.2.2.2.2.1 h89;obtain ⟨v0,rfl⟩:=Gv q6;obtain ⟨p0,rfl⟩:=Gv q7;have hb0:Ah op 0=0:=by rcases h89 with rfl | rfl<;>decide
  obtain ⟨t1,t2,hv0⟩:=q10 0 _ v0 rfl hb0 rfl;obtain ⟨va,vx,vy,rfl⟩:=AeG hv0;have r0:=q9 0 p0 _ hb0 rfl rfl;obtain ⟨n',kp,ts,e0,env0,hp0,b1,b2,b3,b4,b5,b6⟩:=Ic r0 (by simp [RV.node,RV.op]);simp only [RV.node,RV.op,RV.n,RV.k] at hp0 b1 b3 b4 b5;rw [show ar 7=some 3 by decide,Arf] at b1
  obtain ⟨pa,px,py,rfl⟩:=AoI (b2.trans b1.symm);have rx:=b4 1 px vx (by decide) rfl rfl;have ry:=b4 2 py vy (by decide) rfl rfl;rw [hVo,if_neg h5,if_pos h89,hVk] at h;simp only [List.getElem?_cons_zero] at h;rw [show (RV.node 7 m0 [va,vx,vy]).op=7 from rfl,if_pos rfl] at h
  split at h
  ·obtain ⟨w',hw',hvv⟩:∃w',w'=(if op=8 then px else py)∧Rel B w' v∧s'=s1+1:=by
    rcases h89 with rfl | rfl
    ·rw [show (RV.node 7 m0 [va,vx,vy]).k[(1+8 - 8:Int).toNat]?=some vx from rfl] at h
     simp only [Ari,Arf,Arg] at h;obtain ⟨rfl,rfl,_⟩:=h;exact ⟨px,rfl,rx,rfl⟩
    ·rw [show (RV.node 7 m0 [va,vx,vy]).k[(1+9 - 8:Int).toNat]?=some vy from rfl] at h
     simp only [Ari,Arf,Arg] at h;obtain ⟨rfl,rfl,_⟩:=h;exact ⟨py,rfl,ry,rfl⟩
   obtain ⟨hrel,rfl⟩:=hvv;refine ⟨k1+1,1+c1,u1,1+(T1+1),by omega,⟨?_,by omega,.inl (by omega),fun h=>by omega⟩,by omega,w',hrel,Dm h1 (by simp) q11 (Gm (k:=0) (T:=0) hrule (KG hrel) ⟨1,fun g hg m hm=>?_⟩)⟩
   ·rw [Tm.surf,Tm.inn,Nat.add_mul];omega
   ·obtain ⟨g,rfl⟩:∃k,g=k+1:=⟨g - 1,by omega⟩;rw [hp0,Ami _ _ _ h89,OG hm.e,hw']
  ·simp at h
 by_cases h30:op=30
 ·subst h30;rw [show ar 30=some 1 by decide,Arf] at har
  obtain ⟨x,rfl⟩:=Gv har.symm;obtain ⟨v0,rfl⟩:=Gv q6;obtain ⟨p0,rfl⟩:=Gv q7;have r0:=q9 0 p0 v0 (by decide) rfl rfl;have hx:=hgn.2.2.2.2.2.2.1 rfl x (by simp);rw [hVo,if_neg h5,if_neg h89,if_pos rfl,hVk] at h;simp only [List.getElem?_cons_zero] at h;simp only [GV] at q3;rw [if_neg (by decide)] at q3;by_cases h19:v0.op=19
  ·rw [if_pos h19] at h;obtain ⟨n',kp,ts,e0,env0,hp0,b1,b2,b3,b4,b5,b6⟩:=Ic r0 (by rw [h19];decide);rw [h19,show ar 19=some 1 by decide,Arf] at b1
   obtain ⟨y,hy⟩:=Gv (b3.trans b1.symm);obtain ⟨py,rfl⟩:=Gv (b2.trans b1.symm);have ry:=b4 0 py y (by rw [h19];decide) rfl (by rw [hy];rfl);rw [hy] at h;simp only [List.getElem?_cons_zero,Ari] at h;split at h
   ·simp only [Arf,Arg] at h;obtain ⟨rfl,rfl,_⟩:=h;refine ⟨k1+1,1+c1,u1,1+(T1+1),by omega,⟨?_,by omega,.inl (by omega),fun h=>by omega⟩,by omega,py,ry,Dm h1 (by simp) q11 (Gm (k:=0) (T:=0) hrule (KG ry) ⟨1,fun g hg m hm=>?_⟩)⟩
    ·rw [Tm.surf,Tm.inn,Nat.add_mul];omega
    ·obtain ⟨g,rfl⟩:∃k,g=k+1:=⟨g - 1,by omega⟩;rw [hp0,h19,Amk,OG hm.e]
   ·simp at h
  ·rw [if_neg h19] at h;simp only [Arf,Arg] at h;obtain ⟨rfl,rfl,_⟩:=h;obtain ⟨o0,n0,k0,t0,e0,hp0,ho0,_⟩:=N5 r0;have hns:¬ (x.op=19∧v0.op=19∨x.op=30∧v0.op=30):=by
    rintro (⟨_,h⟩ | ⟨h,_⟩)
    ·exact h19 h
    ·exact hx h
   rw [if_neg hns] at q3;refine ⟨k1,1+c1,u1+1,1+(T1+1),q1,⟨?_,by omega,.inr (.inr ⟨rfl,hVo⟩),fun h=>?_⟩,by omega,_,hnode,Dm (kh:=0) h1 (by simp) q11 (Ny hrule ⟨1,fun g hg m=>?_⟩)⟩
   ·rw [Tm.surf,Tm.inn];omega
   ·have:=q4 h;rw [Tm.surf,hVz];omega
   ·obtain ⟨g,rfl⟩:∃k,g=k+1:=⟨g - 1,by omega⟩;rw [hp0,Ak8 _ _ _ _ _ _ _ _ _ _ (by rw [← ho0];exact h19)]
 by_cases h19:op=19
 ·subst h19;rw [show ar 19=some 1 by decide,Arf] at har
  obtain ⟨x,rfl⟩:=Gv har.symm;obtain ⟨v0,rfl⟩:=Gv q6;obtain ⟨p0,rfl⟩:=Gv q7;have r0:=q9 0 p0 v0 (by decide) rfl rfl;have hx:=hgn.2.2.2.2.2.1 rfl x (by simp);rw [hVo,if_neg h5,if_neg h89,if_neg h30,if_pos rfl,hVk] at h;simp only [List.getElem?_cons_zero] at h;simp only [GV] at q3;rw [if_neg (by decide)] at q3;by_cases hv30:v0.op=30
  ·rw [if_pos hv30] at h;obtain ⟨n',kp,ts,e0,env0,hp0,b1,b2,b3,b4,b5,b6⟩:=Ic r0 (by rw [hv30];decide);rw [hv30,show ar 30=some 1 by decide,Arf] at b1
   obtain ⟨y,hy⟩:=Gv (b3.trans b1.symm);obtain ⟨py,rfl⟩:=Gv (b2.trans b1.symm);have ry:=b4 0 py y (by rw [hv30];decide) rfl (by rw [hy];rfl);rw [hy] at h;simp only [List.getElem?_cons_zero,Ari] at h;split at h
   ·simp only [Arf,Arg] at h;obtain ⟨rfl,rfl,_⟩:=h;refine ⟨k1+1,1+c1,u1,1+(T1+1),by omega,⟨?_,by omega,.inl (by omega),fun h=>by omega⟩,by omega,py,ry,Dm h1 (by simp) q11 (Gm (k:=0) (T:=0) hrule (KG ry) ⟨1,fun g hg m hm=>?_⟩)⟩
    ·rw [Tm.surf,Tm.inn,Nat.add_mul];omega
    ·obtain ⟨g,rfl⟩:∃k,g=k+1:=⟨g - 1,by omega⟩;rw [hp0,hv30,Am6,OG hm.e]
   ·simp at h
  ·rw [if_neg hv30] at h;simp only [Arf,Arg] at h;obtain ⟨rfl,rfl,_⟩:=h;obtain ⟨o0,n0,k0,t0,e0,hp0,ho0,_⟩:=N5 r0;have hns:¬ (x.op=19∧v0.op=19∨x.op=30∧v0.op=30):=by
    rintro (⟨h,_⟩ | ⟨_,h⟩)
    ·exact hx h
    ·exact hv30 h
   rw [if_neg hns] at q3;refine ⟨k1,1+c1,u1+1,1+(T1+1),q1,⟨?_,by omega,.inr (.inl ⟨rfl,hVo⟩),fun h=>?_⟩,by omega,_,hnode,Dm (kh:=0) h1 (by simp) q11 (Ny hrule ⟨1,fun g hg m=>?_⟩)⟩
   ·rw [Tm.surf,Tm.inn];omega
   ·have:=q4 h;rw [Tm.surf,hVz];omega
   ·obtain ⟨g,rfl⟩:∃k,g=k+1:=⟨g - 1,by omega⟩;rw [hp0,Ald _ _ _ _ _ _ _ _ _ _ (by rw [← ho0];exact hv30)]
 have h13:op=13:=by omega
 subst h13;rw [show ar 13=some 4 by decide,Arf] at har
 obtain ⟨b0,z,b2,nn,rfl⟩:=AbZ har.symm;obtain ⟨w0,vz,w2,vn,rfl⟩:=AbZ q6;obtain ⟨p0,pz,p2,pn,rfl⟩:=AbZ q7;obtain ⟨x0,y0⟩:=q8 0 b0 rfl (by decide);obtain ⟨x2,y2⟩:=q8 2 b2 rfl (by decide);simp only [List.getElem?_cons_succ,List.getElem?_cons_zero,Arf] at x0 y0 x2 y2;subst x0 y0 x2 y2;have rz:=q9 1 pz vz (by decide) rfl rfl;have rn:=q9 3 pn vn (by decide) rfl rfl;have hgd:=hgn.2.2.2.2.2.2.2 rfl b0 z b2 nn rfl;have hn0:=hgn.2.2.1 rfl;simp only [Tm.goodL,and_true] at hgl;simp only [Tm.wtL] at hw;rw [hV] at h00 hnode;obtain ⟨kr,cr,ur,Tr,a1,a2,a3,a4,a5,w',a6,a7⟩:=Ahf (f+1) (fun g hg=>ih g (by omega)) s1 n n env b0 b2 vz vn v s' e pz pn n [b0,z,b2,nn] h00 rz rn he rfl hgl.2.2.1 (by omega) (fun _=>hnode) (by
  intro px vx hx;rw [hn0];refine .node 13 0 0 [.nil,pz,.nil,px] [.clo env b0,vz,.clo env b2,vx] [b0,z,b2,nn] e env (by decide) (show ar 13=some 4 by decide) rfl rfl ?_ ?_ he.1 he.2
  ·intro i p r hb hp hr
   match i with
   | 0=>exact absurd hb (by decide)
   | 1=>simp only [List.getElem?_cons_succ,List.getElem?_cons_zero,Arf] at hp hr;subst hp hr;exact rz
   | 2=>exact absurd hb (by decide)
   | 3=>simp only [List.getElem?_cons_succ,List.getElem?_cons_zero,Arf] at hp hr;subst hp hr;exact hx
   | i+4=>simp at hp
  ·intro i b hb hi
   match i with
   | 0=>simp only [List.getElem?_cons_zero,Arf] at hi;subst hi;exact ⟨⟨hgl.1,by omega⟩,rfl,rfl⟩
   | 1=>exact absurd hb (by decide)
   | 2=>simp only [List.getElem?_cons_succ,List.getElem?_cons_zero,Arf] at hi;subst hi;exact ⟨⟨hgl.2.2.1,by omega⟩,rfl,rfl⟩
   | 3=>exact absurd hb (by decide)
   | i+4=>simp at hi)
 have hiw:b2.wt≤Tm.innL 13 0 [b0,z,b2,nn]:=by
  simp only [Tm.innL];rw [if_pos (by decide),if_neg (by decide),if_pos (by decide),if_neg (by decide)];omega
 have hsl:GV 13 0 [b0,z,b2,nn] [.clo env b0,vz,.clo env b2,vn]=2:=by
  simp only [GV];rw [if_pos (show 0<Ah 13 0 by decide),if_neg (show ¬ 0<Ah 13 (0+1) by decide),if_pos (show 0<Ah 13 (0+1+1) by decide),if_neg (show ¬ 0<Ah 13 (0+1+1+1) by decide),if_neg (by rintro (⟨h,_⟩ | ⟨h,_⟩);exact hgd.1.1 h;exact hgd.1.2 h),if_neg (by rintro (⟨h,_⟩ | ⟨h,_⟩);exact hgd.2.1 h;exact hgd.2.2 h)]
 rw [hsl] at q3;have hle:1+(c1+cr)≤(Tm.mk 13 n [b0,z,b2,nn]).surf+(k1+kr) * (Tm.mk 13 n [b0,z,b2,nn]).inn:=by
  rw [Tm.surf,Tm.inn,Nat.add_mul];have e2:kr * b2.wt≤kr * Tm.innL 13 0 [b0,z,b2,nn]:=Nat.mul_le_mul_left _ hiw;omega
 by_cases hk0:kr=0
 ·obtain ⟨z1,z2,z3⟩:=a5 hk0;subst hk0 z1 z2;rw [if_pos rfl] at a4;refine ⟨k1+0,1+(c1+0),u1+1,1+(T1+Tr),by omega,⟨hle,by omega,.inl (by omega),fun h=>?_⟩,by omega,w',a6,Dm h1 (by simp) q11 a7⟩
  have:=q4 (by omega)
  rw [z3,← hV,Tm.surf,hVz];omega
 ·rw [if_neg hk0] at a4;exact ⟨k1+kr,1+(c1+cr),u1+ur,1+(T1+Tr),by omega,⟨hle,by omega,.inl (by omega),fun h=>by omega⟩,by omega,w',a6,Dm h1 (by simp) q11 a7⟩
theorem RX {f:Nat} (op:Int) (env:List RV) (ih:∀s t v s',Av f s 0 t env=some (v,s',0)→s≤1000→s'≤1000):∀(l:List Tm) (i:Nat) (s:Int) (vs:List RV) (s':Int),AO (fun s e t=>Av f s e t env) op env i l s 0=some (vs,s',0)→s≤1000→s'≤1000
 | [],i,s,vs,s',h,hs=>by
  simp only [AO,Arf,Arg] at h;omega
 | t::l,i,s,vs,s',h,hs=>by
  simp only [AO] at h;split at h
  ·cases hk:AO (fun s e t=>Av f s e t env) op env (i+1) l s 0 with
   | none=>rw [hk] at h;cases h
   | some q =>
    obtain ⟨vs1,s1,e1⟩:=q;rw [hk] at h;simp only [Ari,Arf,Arg] at h;obtain ⟨_,rfl,rfl⟩:=h;exact RX op env ih l _ _ _ _ hk hs
  ·split at h
   ·cases h
   ·rename_i v s1 e1 he;cases hk:AO (fun s e t=>Av f s e t env) op env (i+1) l s1 e1 with
    | none=>rw [hk] at h;cases h
    | some q =>
     obtain ⟨vs2,s2,e2⟩:=q;rw [hk] at h;simp only [Ari,Arf,Arg] at h;obtain ⟨_,rfl,rfl⟩:=h;have h0:=GD _ (fun s e t v s' h=>B5 h) op env l _ _ _ _ _ hk;subst h0;exact RX op env ih l _ _ _ _ hk (ih _ _ _ _ he hs)
theorem Aif:∀f,(
           ∀s t env v s',Av f s 0 t env=some (v,s',0)→s≤1000→s'≤1000)∧(∀s v w s',headR f s 0 v=some (w,s',0)→s≤1000→s'≤1000):=by
 intro f
 induction f with
 | zero=>exact ⟨(by intro s t env v s' h;rw [Av] at h;cases h),(by intro s v w s' h;rw [headR] at h;cases h)⟩
 | succ f ih =>
  refine ⟨?_,?_⟩
  ·intro s t env v s' h hs;obtain ⟨op,n,ks⟩:=t;rw [Av] at h;rw [if_neg (by simp)] at h;split at h
   ·cases h
   split at h
   ·split at h
    ·split at h
     ·cases hr:env[((env.length:Int) - 1 - n).toNat]? with
      | none=>rw [hr] at h;cases h
      | some r =>
       rw [hr] at h;simp only [Ari,Arf,Arg] at h;omega
     ·cases h
    ·split at h
     ·simp only [Arf,Arg] at h;omega
     ·cases h
   split at h
   ·cases h
   split at h
   ·cases h
   split at h
   ·cases h
   rename_i vs s1 e1 hk;have he:=Gx h;subst he;exact ih.2 _ _ _ _ h (RX op env (fun s t v s'=>ih.1 s t env v s') ks _ _ _ _ hk hs)
  ·intro s v w s' h hs;rw [headR] at h;rw [if_neg (by simp)] at h;split at h
   ·cases h
   split at h
   ·split at h
    ·cases h
    ·split at h
     ·split at h
      ·split at h
       ·split at h
        ·cases h
        ·exact ih.1 _ _ _ _ _ h (by omega)
       ·cases h
      ·simp at h
     ·simp only [Arf,Arg] at h;omega
   split at h
   ·split at h
    ·cases h
    ·rename_i k0 _;split at h
     ·split at h
      ·cases hx:k0.k[(1+v.op - 8).toNat]? with
       | none=>rw [hx] at h;cases h
       | some x=>rw [hx] at h;simp only [Ari,Arf,Arg] at h;omega
      ·simp at h
     ·simp only [Arf,Arg] at h;omega
   split at h
   ·split at h
    ·cases h
    ·rename_i k0 _;split at h
     ·split at h
      ·cases hx:k0.k[0]? with
       | none=>rw [hx] at h;cases h
       | some x=>rw [hx] at h;simp only [Ari,Arf,Arg] at h;omega
      ·simp at h
     ·simp only [Arf,Arg] at h;omega
   split at h
   ·split at h
    ·cases h
    ·rename_i k0 _;split at h
     ·split at h
      ·cases hx:k0.k[0]? with
       | none=>rw [hx] at h;cases h
       | some x=>rw [hx] at h;simp only [Ari,Arf,Arg] at h;omega
      ·simp at h
     ·simp only [Arf,Arg] at h;omega
   split at h
   ·split at h
    ·split at h
     ·split at h
      ·simp only [Arf,Arg] at h;omega
      ·simp at h
     ·split at h
      ·split at h
       ·split at h
        ·cases h
        ·split at h
         ·cases h
         ·rename_i vh s2 e2 hh;split at h
          ·cases h
          ·have he:=B5 h;subst he;exact ih.1 _ _ _ _ _ h (ih.2 _ _ _ _ hh (by omega))
       ·simp at h
      ·simp only [Arf,Arg] at h;omega
    ·cases h
   ·simp only [Arf,Arg] at h;omega
theorem Oy {f:Nat} {op u d:Int}:∀(l:List RV) (i:Nat) (s nd e:Int) (ts:List Tm) (s' nd':Int),A2 (fun s nd e k u=>AP f s nd e k u d) f op u i l s nd e=some (ts,s',nd',0)→e=0
 | [],i,s,nd,e,ts,s',nd',h=>by
  simp only [A2,Arf,Arg] at h;exact h.2.2.2
 | k::l,i,s,nd,e,ts,s',nd',h=>by
  simp only [A2] at h;split at h
  ·cases h
  rename_i k1 s1 e1 hk;split at h
  ·cases h
  rename_i t s2 nd2 e2 hr;cases hrest:A2 (fun s nd e k u=>AP f s nd e k u d) f op u (i+1) l s2 nd2 e2 with
  | none=>rw [hrest] at h;cases h
  | some q =>
   obtain ⟨ts2,s3,nd3,e3⟩:=q;rw [hrest] at h;simp only [Ari,Arf,Arg] at h;obtain ⟨_,_,_,rfl⟩:=h
   have:=Oy l _ _ _ _ _ _ _ hrest
   subst this
   have:=Fm hr
   subst this;split at hk
   ·split at hk
    ·cases hk
    ·exact B5 hk
   ·simp only [Arf,Arg] at hk;exact hk.2.2
def AhR (B f:Nat):Prop:=∀(s nd:Int) (v:RV) (u d:Int) (t:Tm) (s' nd':Int),AP f s nd 0 v u d=some (t,s',nd',0)→0≤nd→∀v',Rel B v' v→∃k c uu T N:Nat,s'=s+k∧nd'=nd+N∧nd'≤3000∧(s≤1000→s'≤1000)∧c+v.vsz≤N+B * k∧2 * uu≤c+2 * k∧T≤N+c+uu+2 * k ∧
 ∃F,∀g,F≤g→∀m,MOk m k T→Tg g v' u d m nd=some (t,Ge m k T,nd')
theorem Aj4 {B:Nat} (u:Int) (b:Nat):∀(i:Nat) p r,(Sk u b)[i]?=some p→(II u b)[i]?=some r→Rel B p r:=by
 intro i p r hp hr;rw [Sk,List.getElem?_map] at hp;rw [II,List.getElem?_map] at hr;cases hx:(List.range b)[i]? with
 | none=>rw [hx] at hp;cases hp
 | some j =>
  rw [hx] at hp hr;simp only [Ari,Arf] at hp hr;subst hp hr;exact .var _
set_option maxHeartbeats 1000000 in
theorem Vq {B f:Nat} (ih:AhR B f) (op u d n n':Int) (kp0:List PV) (ts:List Tm) (e:List PV) (env:List RV) (he:Gb B e env):∀(l:List RV) (lp:List PV) (i:Nat) (s nd:Int) (rs:List Tm) (s' nd':Int),A2 (fun s nd e k u=>AP f s nd e k u (d+1)) f op u i l s nd 0=some (rs,s',nd',0)→0≤nd→nd≤3000→lp.length=l.length →
  (∀j p r,Ah op (i+j)=0→lp[j]?=some p→l[j]?=some r→Rel B p r)→(∀j r,0<Ah op (i+j)→l[j]?=some r→∃b,ts[i+j]?=some b∧b.good∧b.wt≤B∧r=.clo env b) →
  ∃k c uu T N:Nat,s'=s+k∧nd'=nd+N∧nd'≤3000∧(s≤1000→s'≤1000)∧c+RV.vszL op i l≤N+B * k∧2 * uu≤c+2 * k∧T≤N+c+uu+2 * k ∧
   ∃F,∀g,F≤g→∀m,MOk m k T→bkK (fun v below m r=>Tg g v below (d+1) m r) (fun i l m=>opP g (.mk op n kp0 (.mk op n' ts) e) i l m) op u i lp m nd=some (some rs,Ge m k T,nd')
 | [],lp,i,s,nd,rs,s',nd',h,h0,h3,hl,_,_=>by
  simp only [A2,Arf,Arg] at h;obtain ⟨rfl,rfl,rfl,_⟩:=h
  have:lp=[]:=List.eq_nil_of_length_eq_zero hl
  subst this;refine ⟨0,0,0,0,0,by omega,by omega,h3,id,by simp [RV.vszL],by omega,by omega,0,fun g _ m hm=>?_⟩;rw [bkK,OG hm.e]
 | k::l,lp,i,s,nd,rs,s',nd',h,h0,h3,hl,hA,hB=>by
  obtain ⟨p,lp,rfl⟩:∃p lp',lp=p::lp':=by
   cases lp with
   | nil=>cases hl
   | cons p lp=>exact ⟨p,lp,rfl⟩
  simp only [A2] at h;split at h
  ·cases h
  rename_i k1 s1 e1 hk;split at h
  ·cases h
  rename_i t s2 nd2 e2 hr;cases hrest:A2 (fun s nd e k u=>AP f s nd e k u (d+1)) f op u (i+1) l s2 nd2 e2 with
  | none=>rw [hrest] at h;cases h
  | some q =>
  obtain ⟨ts2,s3,nd3,e3⟩:=q;rw [hrest] at h;simp only [Ari,Arf,Arg] at h;obtain ⟨rfl,rfl,rfl,rfl⟩:=h;have h2:=Oy l _ _ _ _ _ _ _ hrest;subst h2;have h1:=Fm hr;subst h1;have hA':∀j p r,Ah op (i+1+j)=0→lp[j]?=some p→l[j]?=some r→Rel B p r:=fun j p r a b c=>hA (j+1) p r (by rwa [show i+(j+1)=i+1+j by omega]) b c
  have hB':∀j r,0<Ah op (i+1+j)→l[j]?=some r→∃b,ts[i+1+j]?=some b∧b.good∧b.wt≤B∧r=.clo env b:=fun j r a b=>by
   obtain ⟨x,y⟩:=hB (j+1) r (by rwa [show i+(j+1)=i+1+j by omega]) b
   exact ⟨x,by rwa [show i+1+j=i+(j+1) by omega]⟩
  by_cases hb:0<Ah op i
  ·rw [if_pos hb] at hk;split at hk
   ·cases hk
   obtain ⟨b,hb1,hb2,hb3,rfl⟩:=hB 0 k (by simpa using hb) rfl;rw [Nat.add_zero] at hb1;rw [show (RV.clo env b).env=env from rfl,show (RV.clo env b).b=b from rfl] at hk
   have hb22:=BA op i;obtain ⟨ke,ce,ue,Te,d1,d2,d3,d4⟩:=NQ (Tw B f) (l:=Sk u (Ah op i)) (l':=II u (Ah op i)) he (by rw [Kb,D8]) (Aj4 u _) hb2 hb3 hk;obtain ⟨w1,y1,F1,y2⟩:=Ux (op:=op) (n:=n) (n':=n') (ps:=kp0) hb1 (by rw [Kb];exact hb22) d4;have hsle:=(Aif f).1 _ _ _ _ _ hk;obtain ⟨kr,cr,ur,Tr,Nr,r1,r2,r3,r4,r5,r6,r7,F2,r8⟩:=ih s1 nd k1 _ _ t s2 nd2 hr h0 w1 y1;obtain ⟨kk,cc,uu,TT,NN,q1,q2,q3,q4,q5,q6,q7,F3,q8⟩:=Vq ih op u d n n' kp0 ts e env he l lp (i+1) s2 nd2 ts2 s3 nd3 hrest (by omega) (by omega) (by simpa using hl) hA' hB';have hde:=d2.le;have hdp:=d2.p;have hsi:=Nv b;refine ⟨ke+(kr+kk),ce+(cr+cc),ue+(ur+uu),Te+(Tr+TT),Nr+NN,by omega,by omega,q3,fun h=>q4 (r4 (hsle h)),?_,by omega,by omega,F1+F2+F3,fun g hg m hm=>?_⟩
   ·rw [RV.vszL,if_pos hb,Nat.mul_add,Nat.mul_add];have hce:ce≤k1.vsz+B * ke:=by
     cases hke:ke with
     | zero =>
      have:=d2.v hke
      rw [hke] at hde;omega
     | succ k' =>
      rw [hke] at hde;have e1:(k'+1) * b.wt≤(k'+1) * B:=Nat.mul_le_mul_left _ hb3;have e2:(k'+1) * b.wt=(k'+1) * b.surf+(k'+1) * b.inn:=by rw [← hsi,Nat.mul_add]
      have e3:b.surf≤(k'+1) * b.surf:=Nat.le_mul_of_pos_left _ (by omega);rw [Nat.mul_comm B];omega
    omega
   ·rw [bkK,if_pos hb,y2 g (by omega) m (MI hm)];have hm2:=IK hm;simp only;rw [if_neg (by simp [Ge]),r8 g (by omega) _ (MI hm2)];simp only;rw [q8 g (by omega) _ (IK hm2),E0,E0];simp only [Ari]
  ·rw [if_neg hb] at hk;simp only [Arf,Arg] at hk;obtain ⟨rfl,rfl,_⟩:=hk;have hb0:Ah op i=0:=by omega
   have hrel:=hA 0 p k (by simpa using hb0) rfl rfl;obtain ⟨kr,cr,ur,Tr,Nr,r1,r2,r3,r4,r5,r6,r7,F2,r8⟩:=ih s nd k _ _ t s2 nd2 hr h0 p hrel;obtain ⟨kk,cc,uu,TT,NN,q1,q2,q3,q4,q5,q6,q7,F3,q8⟩:=Vq ih op u d n n' kp0 ts e env he l lp (i+1) s2 nd2 ts2 s3 nd3 hrest (by omega) (by omega) (by simpa using hl) hA' hB';refine ⟨kr+kk,cr+cc,ur+uu,Tr+TT,Nr+NN,by omega,by omega,q3,fun h=>q4 (r4 h),?_,by omega,by omega,F2+F3,fun g hg m hm=>?_⟩
   ·rw [RV.vszL,if_neg hb,Nat.mul_add];omega
   ·rw [bkK,if_neg hb];simp only;rw [if_neg (fun h=>h hm.e),r8 g (by omega) _ (MI hm)];simp only;rw [q8 g (by omega) _ (IK hm),E0];simp only [Ari]
theorem Afh (B:Nat):∀f,AhR B f:=by
 intro f
 induction f with
 | zero=>intro s nd v u d t s' nd' h;rw [AP] at h;cases h
 | succ f ih =>
  intro s nd v u d t s' nd' h h0 v' hv;rw [AP] at h;split at h
  ·cases h
  rename_i hr;by_cases hbig:3000<nd+1∨120<d
  ·rw [if_pos (show (0:Int)=0∧(3000<nd+1∨120<d) from ⟨rfl,hbig⟩)] at h
   simp at h
  rw [if_neg (show ¬ ((0:Int)=0∧(3000<nd+1∨120<d)) from fun h=>hbig h.2),if_neg (by simp)] at h
  have htick:∀{m:M3} {k T:Nat},MOk m k (1+T)→Hl ⟨m.s,m.w,if m.e=0∧(3000<nd+1∨120<d) then 5 else m.e⟩=some (Ge m 0 1):=by
   intro m k T hm;rw [if_neg (fun h=>hbig h.2)];exact Mf hm
  by_cases h1:v.op=1
  ·rw [if_pos h1] at h;simp only [Arf,Arg] at h;obtain ⟨rfl,rfl,rfl,_⟩:=h;obtain ⟨op,n,k,t0,e0,rfl,ho,hn⟩:=N5 hv;have hvz:v.vsz=1:=by
    cases hv with
    | var n=>simp [RV.var,RV.vsz,RV.vszL]
    | node op n n' kp kr ts e env h1'=>exact absurd h1 h1'
   refine ⟨0,0,0,1,1,by omega,by omega,by omega,id,by omega,by omega,by omega,1,fun g hg m hm=>?_⟩;obtain ⟨g,rfl⟩:∃k,g=k+1:=⟨g - 1,by omega⟩;rw [Tg,if_neg (by omega),htick (k:=0) (T:=0) hm];simp only;rw [if_neg (by simp [Ge]),if_pos (by rw [← ho];exact h1),if_neg (by rw [← hn];omega),hn]
  ·rw [if_neg h1] at h;obtain ⟨n',kp,ts,e,env,rfl,b1,b2,b3,b4,b5,b6⟩:=Ic hv h1;have b14:=Aen b1;cases hk:A2 (fun s nd e k u=>AP f s nd e k u (d+1)) f v.op u 0 v.k s (nd+1) 0 with
   | none=>rw [hk] at h;cases h
   | some q =>
   obtain ⟨rs,s1,nd1,e1⟩:=q;rw [hk] at h;simp only [Ari,Arf,Arg] at h;obtain ⟨rfl,rfl,rfl,rfl⟩:=h;obtain ⟨kk,cc,uu,TT,NN,q1,q2,q3,q4,q5,q6,q7,F3,q8⟩:=Vq ih v.op u d v.n n' kp ts e env b6 v.k kp 0 s (nd+1) rs s1 nd1 hk (by omega) (by omega) (by omega) (fun j p r a b c=>b4 j p r (by simpa using a) b c) (by
    intro j r a b;rw [Nat.zero_add] at a ⊢;have hj:j<ts.length:=by
     have:=(List.getElem?_eq_some_iff.1 b).1
     omega
    obtain ⟨⟨g1,g2⟩,_,g3⟩:=b5 j ts[j] a (List.getElem?_eq_getElem hj);rw [b,Arf] at g3;exact ⟨ts[j],List.getElem?_eq_getElem hj,g1,g2,g3⟩)
   have hvz:v.vsz=1+RV.vszL v.op 0 v.k:=by obtain ⟨a,b,c,d,e⟩:=v;rw [RV.vsz];rfl
   refine ⟨kk,cc,uu,1+TT,1+NN,q1,by omega,q3,q4,by omega,by omega,by omega,F3+20,fun g hg m hm=>?_⟩;obtain ⟨g,rfl⟩:∃k,g=k+1:=⟨g - 1,by omega⟩;have hm':MOk (Ge m 0 1) kk TT:=IK (k1:=0) ⟨hm.e,hm.w,hm.w2,by have:=hm.s;omega,hm.s2⟩;rw [Tg,if_neg (by omega),htick hm];simp only;rw [if_neg (by simp [Ge]),if_neg h1,if_neg (by omega),q8 g (by omega) _ hm',E0];simp only [Nat.zero_add]
theorem AeP {f:Nat} {t u:Tm} (hg:t.good) (hw:t.wt≤3000) (hs:t.shaped=true) (h:AT f t=some (u,0)):∃F,∀g,F≤g→SI g t=some (u,0):=by
 rw [AT] at h;split at h
 ·cases h
 rename_i v s e he;split at h
 ·cases h
 rename_i w s2 nd2 e2 hr;simp only [Arf] at h;by_cases h2:e2=0
 ·subst h2;rw [if_neg (by simp)] at h;simp only [Arg,and_true] at h;subst h;have h1:=Fm hr;subst h1;obtain ⟨k0,c0,u0,T0,a1,a2,a3,v',a4,F0,a5⟩:=Tw 3000 f 0 t [] v s he hg hw [] (Va _);obtain ⟨k1,c1,u1,T1,N,r1,r2,r3,r4,r5,r6,r7,F1,r8⟩:=Afh 3000 f s 0 v 0 1 w s2 nd2 hr (by omega) v' a4;have hs1:=(Aif f).1 _ _ _ _ _ he (by omega);have hs2:=r4 hs1;have hc:=QT a2;have hp:=a2.p;have hk:k0+k1≤1000:=by omega
  have hc2:(k0+1) * t.wt≤(k0+1) * 3000:=Nat.mul_le_mul_left _ hw;have hvp:=Abh v;refine ⟨F0+F1,fun g hg=>?_⟩;have hm:MOk ⟨100000,5000000,0⟩ (k0+k1) (T0+T1):=⟨rfl,by simp only;omega,by simp,by simp only;omega,by simp⟩;rw [SI,if_neg (by rw [hs];simp),a5 g (by omega) _ (MI hm)];simp only;rw [if_neg (by simp [Ge]),r8 g (by omega) _ (IK hm)];simp only;rw [if_neg (by simp [Ge])]
 ·rw [if_pos h2] at h;simp only [Arg] at h;exact absurd h.2 h2
theorem Aja {t:Tm} (h:(t.chk 0 1).2=0):t.wt≤3000∧(t.chk 0 1).1=t.wt:=by
 have:=(T4 t 0 1 (by omega)).2.2 h
 omega
theorem NI:∀{l:List Tm},(∀(i:Nat) t,l[i]?=some t→t.plainP=true)→Tm.plainPL l=true
 | [],_=>rfl
 | x::l,h=>by
  rw [Tm.plainPL,h 0 x rfl,NI fun i t hi=>h (i+1) t (by simpa using hi)];rfl
theorem Al2 {G:List Nat} {t:Tm} {s:Nat} (h:NfT G t s):(∀x∈G,x=6)→(s=6∨s=1→t.plainP=true)∧(s=0→t.op=11∨t.op=12)∧(s=3→t.op=19):=by
 induction h with
 | var G n s h0 h hs =>
  intro hG
  have:=hG s (List.mem_of_getElem? h)
  subst this;exact ⟨fun _=>by simp [Tm.plainP,Tm.plainPL,okP],by omega,by omega⟩
 | node G op n ks s sg hr hl hst hk ih =>
  intro hG;have h6:∀x∈([6]++G),x=6:=by
   intro x hx;rcases List.mem_append.1 hx with hx | hx
   ·simpa using hx
   ·exact hG x hx
  have key:okP op=true→(∀(i:Nat) bs s',sg[i]?=some (bs,s')→(bs=[]∨bs=[6])∧(s'=6∨s'=1))→(Tm.mk op n ks).plainP=true:=by
   intro ho hs;rw [Tm.plainP,ho,NI]
   ·rfl
   ·intro i t hi;have hlt:i<sg.length:=by rw [← hl];exact (List.getElem?_eq_some_iff.1 hi).1
    have hsg:sg[i]?=some (sg[i].1,sg[i].2):=List.getElem?_eq_getElem hlt;obtain ⟨h1,h2⟩:=hs i _ _ hsg;rcases h1 with h1 | h1
    ·rw [h1] at hsg;exact (ih i t [] _ hi hsg (by simpa using hG)).1 h2
    ·rw [h1] at hsg;exact (ih i t [6] _ hi hsg h6).1 h2
  have k1:∀{i:Nat} {a b:List Nat×Nat} {bs:List Nat} {s':Nat},[a,b][i]?=some (bs,s')→(bs,s')=a∨(bs,s')=b:=by
   intro i a b bs s' h
   match i with
   | 0=>simp at h;exact .inl h.symm
   | 1=>simp at h;exact .inr h.symm
   | i+2=>simp at h
  have k0:∀{i:Nat} {a:List Nat×Nat} {bs:List Nat} {s':Nat},[a][i]?=some (bs,s')→(bs,s')=a:=by
   intro i a bs s' h
   match i with
   | 0=>simp at h;exact h.symm
   | i+1=>simp at h
  have k3:∀{i:Nat} {a b c:List Nat×Nat} {bs:List Nat} {s':Nat},[a,b,c][i]?=some (bs,s')→(bs,s')=a∨(bs,s')=b∨(bs,s')=c:=by
   intro i a b c bs s' h
   match i with
   | 0=>simp at h;exact .inl h.symm
   | 1=>simp at h;exact .inr (.inl h.symm)
   | 2=>simp at h;exact .inr (.inr h.symm)
   | i+3=>simp at h
  have two:∀{b1 b2:List Nat} {s1 s2:Nat},(b1=[]∨b1=[6])∧(s1=6∨s1=1)→(b2=[]∨b2=[6])∧(s2=6∨s2=1)→∀(i:Nat) bs s',[(b1,s1),(b2,s2)][i]?=some (bs,s')→(bs=[]∨bs=[6])∧(s'=6∨s'=1):=by
   intro b1 b2 s1 s2 h1 h2 i bs s' h;rcases k1 h with h | h<;>(simp only [Arg] at h;obtain ⟨rfl,rfl⟩:=h)
   ·exact h1
   ·exact h2
  have one:∀{b1:List Nat} {s1:Nat},(b1=[]∨b1=[6])∧(s1=6∨s1=1)→∀(i:Nat) bs s',[(b1,s1)][i]?=some (bs,s')→(bs=[]∨bs=[6])∧(s'=6∨s'=1):=by
   intro b1 s1 h1 i bs s' h;have h:=k0 h;simp only [Arg] at h;obtain ⟨rfl,rfl⟩:=h;exact h1
  have thr:∀{b1 b2 b3:List Nat} {s1 s2 s3:Nat},(b1=[]∨b1=[6])∧(s1=6∨s1=1)→(b2=[]∨b2=[6])∧(s2=6∨s2=1)→(b3=[]∨b3=[6])∧(s3=6∨s3=1)→∀(i:Nat) bs s',[(b1,s1),(b2,s2),(b3,s3)][i]?=some (bs,s')→(bs=[]∨bs=[6])∧(s'=6∨s'=1):=by
   intro b1 b2 b3 s1 s2 s3 h1 h2 h3 i bs s' h;rcases k3 h with h | h | h<;>(simp only [Arg] at h;obtain ⟨rfl,rfl⟩:=h)
   ·exact h1
   ·exact h2
   ·exact h3
  have e6:(([]:List Nat)=[]∨([]:List Nat)=[6])∧(6=6∨6=1):=by simp
  have e1:(([]:List Nat)=[]∨([]:List Nat)=[6])∧(1=6∨1=1):=by simp
  have b6:(([6]:List Nat)=[]∨([6]:List Nat)=[6])∧(6=6∨6=1):=by simp
  have nil:∀(i:Nat) bs s',([]:Lk)[i]?=some (bs,s')→(bs=[]∨bs=[6])∧(s'=6∨s'=1):=fun i bs s' h=>by simp at h
  cases hr with
  | recR _ s0 hs =>
   obtain ⟨a,b,c,d,rfl⟩:=AbZ hl;have h3:=(ih 3 d [] 0 rfl rfl (by simpa using hG)).2.1 rfl
   have:=hst.2.2 rfl d rfl
   omega
  | spl =>
   obtain ⟨a,rfl⟩:=Gv hl;have h3:=(ih 0 a [] 3 rfl rfl (by simpa using hG)).2.2 rfl;exact absurd h3 (hst.1 rfl a rfl)
  | zero=>exact ⟨by omega,fun _=>.inl rfl,by omega⟩
  | suc=>exact ⟨by omega,fun _=>.inr rfl,by omega⟩
  | quo=>exact ⟨by omega,by omega,fun _=>rfl⟩
  | tint=>exact ⟨fun _=>key rfl nil,by omega,by omega⟩
  | tfun=>exact ⟨fun _=>key rfl (two e1 e1),by omega,by omega⟩
  | tpro=>exact ⟨fun _=>key rfl (two e1 e1),by omega,by omega⟩
  | olam=>exact ⟨fun _=>key rfl (two e1 b6),by omega,by omega⟩
  | oapp=>exact ⟨fun _=>key rfl (two e6 e6),by omega,by omega⟩
  | opair=>exact ⟨fun _=>key rfl (two e6 e6),by omega,by omega⟩
  | ofst=>exact ⟨fun _=>key rfl (one e6),by omega,by omega⟩
  | osnd=>exact ⟨fun _=>key rfl (one e6),by omega,by omega⟩
  | oint=>exact ⟨fun _=>key rfl nil,by omega,by omega⟩
  | oprim=>exact ⟨fun _=>key rfl (two e6 e6),by omega,by omega⟩
  | oif=>exact ⟨fun _=>key rfl (thr e6 e6 e6),by omega,by omega⟩
  | olet=>exact ⟨fun _=>key rfl (two e6 b6),by omega,by omega⟩
  | ofix=>exact ⟨fun _=>key rfl (two e1 b6),by omega,by omega⟩
  | _=>exact ⟨by omega,by omega,by omega⟩
theorem Rt {ev:Int→Int→Tm→Option (RV×Int×Int)} (hev:∀s t v s',ev s 0 t=some (v,s',0)→s≤s'∧∀s2,0≤s2→s2≤s→ev s2 0 t=some (v,s2+(s' - s),0)) (herr:∀s e t v s',ev s e t=some (v,s',0)→e=0) (op:Int) (env:List RV) :
  ∀(l:List Tm) (i:Nat) (s:Int) (vs:List RV) (s':Int),AO ev op env i l s 0=some (vs,s',0)→s≤s'∧∀s2,0≤s2→s2≤s→AO ev op env i l s2 0=some (vs,s2+(s' - s),0)
 | [],i,s,vs,s',h=>by
  simp only [AO,Arf,Arg] at h;obtain ⟨rfl,rfl,_⟩:=h;refine ⟨Int.le_refl _,fun s2 _ _=>?_⟩;simp only [AO,Arf,Arg,true_and,and_true];omega
 | t::l,i,s,vs,s',h=>by
  simp only [AO] at h;by_cases hb:0<Ah op i
  ·rw [if_pos hb] at h;cases hk:AO ev op env (i+1) l s 0 with
   | none=>rw [hk] at h;cases h
   | some q =>
    obtain ⟨us,s1,e1⟩:=q;rw [hk] at h;simp only [Ari,Arf,Arg] at h;obtain ⟨rfl,rfl,rfl⟩:=h;obtain ⟨h1,h2⟩:=Rt hev herr op env l (i+1) s us s1 hk;refine ⟨h1,fun s2 a b=>?_⟩;rw [AO,if_pos hb,h2 s2 a b];rfl
  ·rw [if_neg hb] at h;cases he:ev s 0 t with
   | none=>rw [he] at h;cases h
   | some q =>
    obtain ⟨v,s1,e1⟩:=q;rw [he] at h;simp only at h;cases hk:AO ev op env (i+1) l s1 e1 with
    | none=>rw [hk] at h;cases h
    | some q =>
     obtain ⟨us,s3,e3⟩:=q;rw [hk] at h;simp only [Ari,Arf,Arg] at h;obtain ⟨rfl,rfl,rfl⟩:=h;have he1:=GD ev herr op env l _ _ _ _ _ hk;subst he1;obtain ⟨a1,a2⟩:=hev _ _ _ _ he;obtain ⟨b1,b2⟩:=Rt hev herr op env l (i+1) s1 us s3 hk;refine ⟨by omega,fun s2 a b=>?_⟩;rw [AO,if_neg hb,a2 s2 a b];simp only;rw [b2 (s2+(s1 - s)) (by omega) (by omega)];simp only [Ari,Arf,Arg,true_and,and_true];omega
theorem Lq:∀f,(∀s t env v s',Av f s 0 t env=some (v,s',0)→s≤s'∧∀s2,0≤s2→s2≤s→Av f s2 0 t env=some (v,s2+(s' - s),0))∧(∀s v w s',headR f s 0 v=some (w,s',0)→s≤s'∧∀s2,0≤s2→s2≤s→headR f s2 0 v=some (w,s2+(s' - s),0)):=by
 intro f
 induction f with
 | zero=>exact ⟨(by intro s t env v s' h;rw [Av] at h;cases h),(by intro s v w s' h;rw [headR] at h;cases h)⟩
 | succ f ih =>
  refine ⟨?_,?_⟩
  ·intro s t env v s' h;obtain ⟨op,m,ks⟩:=t;rw [Av,if_neg (by simp)] at h;have goal:∀s2:Int,Av (f+1) s2 0 (.mk op m ks) env=_:=fun s2=>by rw [Av,if_neg (by simp)]
   by_cases h9:900000<env.length
   ·rw [if_pos h9] at h;cases h
   rw [if_neg h9] at h;by_cases h1:op=1
   ·rw [if_pos h1] at h;by_cases hm:m<env.length
    ·rw [if_pos hm] at h;by_cases h0:0≤m
     ·rw [if_pos h0] at h;cases hx:env[((env.length:Int) - 1 - m).toNat]? with
      | none=>rw [hx] at h;cases h
      | some x =>
       rw [hx] at h;simp only [Ari,Arf,Arg] at h;obtain ⟨rfl,rfl,_⟩:=h;refine ⟨Int.le_refl _,fun s2 _ _=>?_⟩;rw [goal s2,if_neg h9,if_pos h1,if_pos hm,if_pos h0,hx];simp only [Ari,Arf,Arg,true_and,and_true];omega
     ·rw [if_neg h0] at h;cases h
    ·rw [if_neg hm] at h;by_cases h4:m≤4611686018427387904
     ·rw [if_pos h4] at h;simp only [Arf,Arg] at h;obtain ⟨rfl,rfl,_⟩:=h;refine ⟨Int.le_refl _,fun s2 _ _=>?_⟩;rw [goal s2,if_neg h9,if_pos h1,if_neg hm,if_pos h4];simp only [Arf,Arg,true_and,and_true];omega
     ·rw [if_neg h4] at h;cases h
   ·rw [if_neg h1] at h;by_cases h2:f≤ks.length
    ·rw [if_pos h2] at h;cases h
    rw [if_neg h2] at h;by_cases h3:900000<ks.length
    ·rw [if_pos h3] at h;cases h
    rw [if_neg h3] at h;cases hk:AO (fun s e t=>Av f s e t env) op env 0 ks s 0 with
    | none=>rw [hk] at h;cases h
    | some q =>
     obtain ⟨vs,s1,e1⟩:=q;rw [hk] at h;simp only at h;have he:=Gx h;subst he;obtain ⟨a1,a2⟩:=Rt (ev:=fun s e t=>Av f s e t env) (fun s t v s' a=>ih.1 s t env v s' a) (fun s e t v s' a=>B5 a) op env ks 0 s vs s1 hk;obtain ⟨b1,b2⟩:=ih.2 _ _ _ _ h;refine ⟨by omega,fun s2 a b=>?_⟩;rw [goal s2,if_neg h9,if_neg h1,if_neg h2,if_neg h3,a2 s2 a b];simp only;rw [b2 (s2+(s1 - s)) (by omega) (by omega)];simp only [Arf,Arg,true_and,and_true];omega
  ·intro s v w s' h;rw [headR,if_neg (by simp)] at h;have goal:∀s2:Int,headR (f+1) s2 0 v=_:=fun s2=>by rw [headR,if_neg (by simp)]
   by_cases hs:s<0∨1000000<s
   ·rw [if_pos hs] at h;cases h
   rw [if_neg hs] at h;have one:∀{β:Type} {x y:β} {p q:Int},(x,p,(0:Int))=(y,q,0) ↔ x=y∧p=q:=by intro β x y p q;simp
   by_cases h5:v.op=5
   ·rw [if_pos h5] at h;cases hk:v.k[0]? with
    | none=>rw [hk] at h;cases h
    | some k0 =>
     rw [hk] at h;simp only at h;by_cases h4:k0.op=4
     ·rw [if_pos h4] at h;by_cases hq:s+1≤1000
      ·rw [if_pos hq] at h;cases hc:k0.k[1]? with
       | none=>rw [hc] at h;cases h
       | some c =>
       cases hx:v.k[1]? with
       | none=>rw [hc,hx] at h;cases h
       | some x =>
        rw [hc,hx] at h;simp only at h;by_cases hl:900000<c.env.length
        ·rw [if_pos hl] at h;cases h
        rw [if_neg hl] at h;obtain ⟨a1,a2⟩:=ih.1 _ _ _ _ _ h;refine ⟨by omega,fun s2 a b=>?_⟩;rw [goal s2,if_neg (by omega),if_pos h5,hk];simp only;rw [if_pos h4,if_pos (by omega),hc,hx];simp only;rw [if_neg hl,a2 (s2+1) (by omega) (by omega)];simp only [Arf,one,true_and];omega
      ·rw [if_neg hq] at h;simp at h
     ·rw [if_neg h4] at h;simp only [Arf,one] at h;obtain ⟨rfl,rfl⟩:=h;refine ⟨Int.le_refl _,fun s2 a b=>?_⟩;rw [goal s2,if_neg (by omega),if_pos h5,hk];simp only;rw [if_neg h4];simp only [Arf,one,true_and];omega
   rw [if_neg h5] at h;have proj:∀(o:Int) (i:Nat),(match v.k[0]? with
     | none=>none
     | some k0=>if k0.op=o then (if s+1≤1000 then (k0.k[i]?).map fun x=>(x,s+1,(0:Int)) else some (v,s+1,17)) else some (v,s,0))=some (w,s',0) →
     s≤s'∧∀s2,0≤s2→s2≤s→(match v.k[0]? with
     | none=>none
     | some k0=>if k0.op=o then (if s2+1≤1000 then (k0.k[i]?).map fun x=>(x,s2+1,(0:Int)) else some (v,s2+1,17)) else some (v,s2,0))=some (w,s2+(s' - s),0):=by
    intro o i h;cases hk:v.k[0]? with
    | none=>rw [hk] at h;cases h
    | some k0 =>
     rw [hk] at h;simp only at h ⊢;by_cases h4:k0.op=o
     ·rw [if_pos h4] at h;by_cases hq:s+1≤1000
      ·rw [if_pos hq] at h;cases hx:k0.k[i]? with
       | none=>rw [hx] at h;cases h
       | some x =>
        rw [hx] at h;simp only [Ari,Arf,one] at h;obtain ⟨rfl,rfl⟩:=h;refine ⟨by omega,fun s2 a b=>?_⟩;rw [if_pos h4,if_pos (by omega)];simp only [Ari,Arf,one,true_and];omega
      ·rw [if_neg hq] at h;simp at h
     ·rw [if_neg h4] at h;simp only [Arf,one] at h;obtain ⟨rfl,rfl⟩:=h;refine ⟨Int.le_refl _,fun s2 a b=>?_⟩;rw [if_neg h4];simp only [Arf,one,true_and];omega
   by_cases h89:v.op=8∨v.op=9
   ·rw [if_pos h89] at h;obtain ⟨a1,a2⟩:=proj 7 _ h;refine ⟨a1,fun s2 a b=>?_⟩;rw [goal s2,if_neg (by omega),if_neg h5,if_pos h89];exact a2 s2 a b
   rw [if_neg h89] at h;by_cases h30:v.op=30
   ·rw [if_pos h30] at h;obtain ⟨a1,a2⟩:=proj 19 0 h;refine ⟨a1,fun s2 a b=>?_⟩;rw [goal s2,if_neg (by omega),if_neg h5,if_neg h89,if_pos h30];exact a2 s2 a b
   rw [if_neg h30] at h;by_cases h19:v.op=19
   ·rw [if_pos h19] at h;obtain ⟨a1,a2⟩:=proj 30 0 h;refine ⟨a1,fun s2 a b=>?_⟩;rw [goal s2,if_neg (by omega),if_neg h5,if_neg h89,if_neg h30,if_pos h19];exact a2 s2 a b
   rw [if_neg h19] at h;by_cases h13:v.op=13
   ·rw [if_pos h13] at h;cases hk0:v.k[0]? with
    | none=>rw [hk0] at h;cases h
    | some k0 =>
    cases hk1:v.k[1]? with
    | none=>rw [hk0,hk1] at h;cases h
    | some k1 =>
    cases hk2:v.k[2]? with
    | none=>rw [hk0,hk1,hk2] at h;cases h
    | some k2 =>
    cases hk3:v.k[3]? with
    | none=>rw [hk0,hk1,hk2,hk3] at h;cases h
    | some k3 =>
     rw [hk0,hk1,hk2,hk3] at h;simp only at h;have g2:∀s2:Int,0≤s2→s2≤s→headR (f+1) s2 0 v=_:=fun s2 a b=>by
      rw [goal s2,if_neg (by omega),if_neg h5,if_neg h89,if_neg h30,if_neg h19,if_pos h13,hk0,hk1,hk2,hk3]
     by_cases h11:k3.op=11
     ·rw [if_pos h11] at h;by_cases hq:s+1≤1000
      ·rw [if_pos hq] at h;simp only [Arf,one] at h;obtain ⟨rfl,rfl⟩:=h;refine ⟨by omega,fun s2 a b=>?_⟩;rw [g2 s2 a b];simp only;rw [if_pos h11,if_pos (by omega)];simp only [Arf,one,true_and];omega
      ·rw [if_neg hq] at h;simp at h
     rw [if_neg h11] at h;by_cases h12:k3.op=12
     ·rw [if_pos h12] at h;by_cases hq:s+1≤1000
      ·rw [if_pos hq] at h;cases hx:k3.k[0]? with
       | none=>rw [hx] at h;cases h
       | some x =>
        rw [hx] at h;simp only at h;cases hd:headR f (s+1) 0 (.node 13 0 [k0,k1,k2,x]) with
        | none=>rw [hd] at h;cases h
        | some q =>
         obtain ⟨y,s1,e1⟩:=q;rw [hd] at h;simp only at h;by_cases hl:900000<k2.env.length
         ·rw [if_pos hl] at h;cases h
         rw [if_neg hl] at h;have he:=B5 h;subst he;obtain ⟨a1,a2⟩:=ih.2 _ _ _ _ hd;obtain ⟨b1,b2⟩:=ih.1 _ _ _ _ _ h;refine ⟨by omega,fun s2 a b=>?_⟩;rw [g2 s2 a b];simp only;rw [if_neg h11,if_pos h12,if_pos (by omega),hx];simp only;rw [a2 (s2+1) (by omega) (by omega)];simp only;rw [if_neg hl,b2 (s2+1+(s1 - (s+1))) (by omega) (by omega)];simp only [Arf,one,true_and];omega
      ·rw [if_neg hq] at h;simp at h
     ·rw [if_neg h12] at h;simp only [Arf,one] at h;obtain ⟨rfl,rfl⟩:=h;refine ⟨Int.le_refl _,fun s2 a b=>?_⟩;rw [g2 s2 a b];simp only;rw [if_neg h11,if_neg h12];simp only [Arf,one,true_and];omega
   rw [if_neg h13] at h;simp only [Arf,one] at h;obtain ⟨rfl,rfl⟩:=h;refine ⟨Int.le_refl _,fun s2 a b=>?_⟩;rw [goal s2,if_neg (by omega),if_neg h5,if_neg h89,if_neg h30,if_neg h19,if_neg h13];simp only [Arf,one,true_and];omega
theorem SA {rd:Int→Int→Int→RV→Int→Option (Tm×Int×Int×Int)} {f:Nat} (hrd:∀s nd v u t s' nd',rd s nd 0 v u=some (t,s',nd',0)→s≤s'∧∀s2,0≤s2→s2≤s→rd s2 nd 0 v u=some (t,s2+(s' - s),nd',0)) (herr:∀s nd e v u t s' nd',rd s nd e v u=some (t,s',nd',0)→e=0) (op u:Int) :
  ∀(l:List RV) (i:Nat) (s nd:Int) (ts:List Tm) (s' nd':Int),A2 rd f op u i l s nd 0=some (ts,s',nd',0)→s≤s'∧∀s2,0≤s2→s2≤s→A2 rd f op u i l s2 nd 0=some (ts,s2+(s' - s),nd',0)
 | [],i,s,nd,ts,s',nd',h=>by
  simp only [A2,Arf,Arg] at h;obtain ⟨rfl,rfl,rfl,_⟩:=h;refine ⟨Int.le_refl _,fun s2 _ _=>?_⟩;simp only [A2,Arf,Arg,true_and,and_true];omega
 | k::l,i,s,nd,ts,s',nd',h=>by
  rw [A2] at h;cases hk:(if 0<Ah op i then (if 900000<k.env.length then none else Av f s 0 k.b (k.env++II u (Ah op i))) else some (k,s,0)) with
  | none=>rw [hk] at h;cases h
  | some q =>
   obtain ⟨y,s1,e1⟩:=q;rw [hk] at h;simp only at h;cases ht:rd s1 nd e1 y (u+Ah op i) with
   | none=>rw [ht] at h;cases h
   | some q =>
    obtain ⟨t,s3,nd3,e3⟩:=q;rw [ht] at h;simp only at h;cases hr:A2 rd f op u (i+1) l s3 nd3 e3 with
    | none=>rw [hr] at h;cases h
    | some q =>
     obtain ⟨us,s4,nd4,e4⟩:=q;rw [hr] at h;simp only [Ari,Arf,Arg] at h;obtain ⟨rfl,rfl,rfl,rfl⟩:=h;have he3:e3=0:=KD.readK_err herr op u l _ _ _ _ _ _ _ hr;subst he3;have he1:=herr _ _ _ _ _ _ _ _ ht;subst he1;have hkk:s≤s1∧∀s2,0≤s2→s2≤s→(if 0<Ah op i then (if 900000<k.env.length then none else Av f s2 0 k.b (k.env++II u (Ah op i))) else some (k,s2,0))=some (y,s2+(s1 - s),0):=by
      by_cases hb:0<Ah op i
      ·rw [if_pos hb] at hk;by_cases hl:900000<k.env.length
       ·rw [if_pos hl] at hk;cases hk
       rw [if_neg hl] at hk;obtain ⟨a1,a2⟩:=(Lq f).1 _ _ _ _ _ hk;refine ⟨a1,fun s2 a b=>?_⟩;rw [if_pos hb,if_neg hl];exact a2 s2 a b
      ·rw [if_neg hb] at hk;simp only [Arf,Arg] at hk;obtain ⟨rfl,rfl,_⟩:=hk;refine ⟨Int.le_refl _,fun s2 a b=>?_⟩;rw [if_neg hb];simp only [Arf,Arg,true_and,and_true];omega
     obtain ⟨a1,a2⟩:=hkk;obtain ⟨b1,b2⟩:=hrd _ _ _ _ _ _ _ ht;obtain ⟨c1,c2⟩:=SA hrd herr op u l (i+1) s3 nd3 us s4 nd4 hr;refine ⟨by omega,fun s2 a b=>?_⟩;rw [A2,a2 s2 a b];simp only;rw [b2 (s2+(s1 - s)) (by omega) (by omega)];simp only;rw [c2 (s2+(s1 - s)+(s3 - s1)) (by omega) (by omega)];simp only [Ari,Arf,Arg,true_and,and_true];omega
theorem AgI:∀f s nd v u d t s' nd',AP f s nd 0 v u d=some (t,s',nd',0)→s≤s'∧∀s2,0≤s2→s2≤s→AP f s2 nd 0 v u d=some (t,s2+(s' - s),nd',0):=by
 intro f
 induction f with
 | zero=>intro s nd v u d t s' nd' h;rw [AP] at h;cases h
 | succ f ih =>
  intro s nd v u d t s' nd' h;rw [AP] at h;by_cases hb:nd<0∨1000000<nd∨u<0∨1000000<u∨d<0∨1000000<d∨v.n < -2305843009213693952∨2305843009213693952<v.n∨f≤v.k.length∨900000<v.k.length∨f≤3
  ·rw [if_pos hb] at h;cases h
  rw [if_neg hb] at h;by_cases h3:(0:Int)=0∧(3000<nd+1∨120<d)
  ·rw [if_pos h3,if_pos (by decide)] at h;simp at h
  rw [if_neg h3,if_neg (by simp)] at h;have goal:∀s2:Int,AP (f+1) s2 nd 0 v u d=_:=fun s2=>by rw [AP,if_neg hb,if_neg h3,if_neg (by simp)]
  by_cases h1:v.op=1
  ·rw [if_pos h1] at h;simp only [Arf,Arg] at h;obtain ⟨rfl,rfl,rfl,_⟩:=h;refine ⟨Int.le_refl _,fun s2 a b=>?_⟩;rw [goal s2,if_pos h1];simp only [Arf,Arg,true_and,and_true];omega
  ·rw [if_neg h1] at h;cases hr:A2 (fun s nd e k u=>AP f s nd e k u (d+1)) f v.op u 0 v.k s (nd+1) 0 with
   | none=>rw [hr] at h;cases h
   | some q =>
    obtain ⟨us,s3,nd3,e3⟩:=q;rw [hr] at h;simp only [Ari,Arf,Arg] at h;obtain ⟨rfl,rfl,rfl,rfl⟩:=h;obtain ⟨a1,a2⟩:=SA (fun s nd v u t s' nd' a=>ih s nd v u (d+1) t s' nd' a) (fun s nd e v u t s' nd' a=>Fm a) v.op u v.k 0 s (nd+1) us s3 nd3 hr;refine ⟨a1,fun s2 a b=>?_⟩;rw [goal s2,if_neg h1,a2 s2 a b];rfl
theorem Ab1 {v:RV} (h:VT [] [] v 6):v.op≠30:=by
 intro h30;obtain ⟨hst,sg,D,hn⟩:=R2 h (by omega);rw [h30] at hn hst;have hr:=hn.hr;cases hr;obtain ⟨k0,hk⟩:=Gv hn.hl;have h3:=hn.hk 0 k0 3 (by rw [hk];rfl) rfl;have hne:=hst.1 rfl k0 (by rw [hk];rfl);cases h3 with
 | var n _ env b hv hs=>rcases hv with ⟨_,hv⟩ | ⟨_,hv⟩<;>simp at hv
 | node op n k env b _ sg D hr hl hst hk hc he =>
  cases hr with
  | quo=>exact hne rfl
  | recR _ _ hs=>omega
theorem SG {f:Nat} {t x:Tm} (ht:HasT [] t 6) (h:AT f (.mk 30 0 [.mk 19 0 [t]])=some (x,0)):∃f',AT f' t=some (x,0):=by
 rw [AT] at h;cases he:Av f 0 0 (.mk 30 0 [.mk 19 0 [t]]) [] with
 | none=>rw [he] at h;cases h
 | some q =>
  obtain ⟨v,s,e⟩:=q;rw [he] at h;simp only at h;cases hr:AP f s 0 e v 0 1 with
  | none=>rw [hr] at h;cases h
  | some q =>
   obtain ⟨w,s2,nd2,e2⟩:=q;rw [hr] at h;simp only [Arf] at h;by_cases h2:e2≠0
   ·rw [if_pos h2] at h;simp only [Arg] at h;exact absurd h.2 h2
   rw [if_neg h2] at h;simp only [Arg,and_true] at h;subst h;have he2:e2=0:=by omega
   subst he2;have he0:=Fm hr;subst he0;cases f with
   | zero=>rw [Av] at he;cases he
   | succ f =>
    obtain ⟨vs,s1,q1,q2⟩:=GC he (by decide);simp only [AO] at q1;rw [if_neg (by decide)] at q1;cases hq:Av f 0 0 (.mk 19 0 [t]) [] with
    | none=>rw [hq] at q1;cases q1
    | some p =>
     obtain ⟨v0,s3,e3⟩:=p;rw [hq] at q1;simp only [Ari,Arf,Arg] at q1;obtain ⟨rfl,rfl,rfl⟩:=q1;cases f with
     | zero=>rw [Av] at hq;cases hq
     | succ f =>
      obtain ⟨ws,s4,r1,r2⟩:=GC hq (by decide);simp only [AO] at r1;rw [if_neg (by decide)] at r1;cases hv:Av f 0 0 t [] with
      | none=>rw [hv] at r1;cases r1
      | some p =>
       obtain ⟨v1,s5,e5⟩:=p;rw [hv] at r1;simp only [Ari,Arf,Arg] at r1;obtain ⟨rfl,rfl,rfl⟩:=r1;have hvt:=(Rc [] [] f).1 _ _ _ _ _ [] 6 hv ht ⟨rfl,fun j x y a=>by simp at a⟩;have hne:=Ab1 hvt;cases f with
       | zero=>rw [Av] at hv;cases hv
       | succ f =>
        have m1:=((Lq _).2 _ _ _ _ r2).1;have m2:=((Lq _).2 _ _ _ _ q2).1;have m0:=((Lq _).1 _ _ _ _ _ hv).1;rcases TB r2 with ⟨h30,_⟩ | ⟨_,rfl⟩
        ·exact absurd h30 hne
        rcases SJ q2 with ⟨_,hx⟩ | ⟨h19,_⟩
        ·simp only [RV.node,RV.k,List.getElem?_cons_zero,Arf] at hx;subst hx;have hrd:=(AgI _ _ _ _ _ _ _ _ _ hr).2 s5 (by omega) (by omega);refine ⟨f+1+1+1,?_⟩;rw [AT,Ee (show f+1≤f+1+1+1 by omega) hv]
         simp only;rw [hrd];simp
        ·exact absurd rfl h19
def CS (t:Tm):Nat→Tm
 | 0=>t
 | n+1=>.mk 30 0 [.mk 19 0 [CS t n]]
theorem Pv {t:Tm} (h:HasT [] t 6):∀n,HasT [] (CS t n) 6
 | 0=>h
 | n+1=>ht1 .spl (ht1 .quo (Pv h n))
theorem R4 {t:Tm} {k:Nat} (h:t.sc k):∀n,(CS t n).sc k
 | 0=>h
 | n+1=>by
  have:=R4 h n
  rw [CS];have hq:(Tm.mk 19 0 [CS t n]).sc k:=by
   rw [Tm.sc];refine ⟨rfl,by rw [if_neg (by decide)];exact BV (by decide) (by decide) (by decide),?_⟩;rw [Tm.scL,Tm.scL];exact ⟨by simpa [Ah] using this,trivial⟩
  rw [Tm.sc];refine ⟨rfl,by rw [if_neg (by decide)];exact BV (by decide) (by decide) (by decide),?_⟩;rw [Tm.scL,Tm.scL];exact ⟨by simpa [Ah] using hq,trivial⟩
theorem Zj (t:Tm):∀n,(CS t n).dp=t.dp+2 * n
 | 0=>rfl
 | n+1=>by
  rw [CS];simp only [Tm.dp,Tm.dpL,Zj t n];omega
theorem Aad (t:Tm):∀n,(CS t n).wt=t.wt+2 * n
 | 0=>rfl
 | n+1=>by
  rw [CS];simp only [Tm.wt,Tm.wtL,Aad t n];omega
theorem Y3 {t c x:Tm} {f:Nat} (ht:HasT [] t 6) (h:AT f t=some (c,0)):∀n f',AT f' (CS t n)=some (x,0)→x=c
 | 0,f',h'=>by
  have:=K5 h' h
  simpa using this
 | n+1,f',h'=>by
  obtain ⟨f2,h2⟩:=SG (Pv ht n) h';exact Y3 ht h n f2 h2
theorem AdU {t u:Tm} {k f:Nat} (ht:HasT [] t 6) (hsc:t.sc k) (hk:k≤100) (hc:(t.chk 0 1).2=0) (hf:AT f t=some (u,0)) (hu:NOk k u):Ev 16 [.fv t.enc] (.tuple [u.enc,.int .i64 0]):=by
 have hw:=(Aja hc).1;obtain ⟨F,hF⟩:=AeP (Ab6 ht k hsc (by omega)) hw (OV t k hsc) hf;have hp:=(Al2 (Gz hf ht) (fun x h=>by simp at h)).1 (.inl rfl);have huw:=hu.wt;exact ⟨F+100000,fun n hn'=>Ad0 (f:=F) hc (hF F (Nat.le_refl _)) hp (by omega) (by omega) (by omega) (by omega)⟩
theorem Rv {n:Nat} (hn:0<n) (x:Int) {m:Int} (h1:0<m) (h2:m≤4611686018427387904):BZ (SS dt n 23 [iv x,iv m] ⟨[],[]⟩) (.int .i64 (x % m)):=by
 obtain ⟨n,rfl⟩:=Nat.exists_eq_add_of_lt hn;rw [Nat.zero_add,c23];simp only [S23,↓XX,XY,↓reduceIte,Nat.reduceBEq,Nat.reduceAdd,Int.reduceEq,Int.reduceLT,Int.reduceLE,↓MB (show m≠0 by omega)]
 rw [← AfH h1 h2];by_cases hc:x.tmod m<0<;>simp only [hc,if_true,if_false]<;>exact Ao _ _
theorem All (o1 n1:Int) (es:List FV) (s:Nat) (h:Hp) (k:IV→Hp→List Ref→List Ref→Option (IV×Hp)):Aw (Af EE 28 1 [(0,.agg [.fv (.int .i64 o1),.fv (.int .i64 n1),.clip es])]) s h k=k (.clip [.agg [.int .i64 o1,.int .i64 n1,.sl es]]) h [] []:=by
 have:Af EE 28 1 [(0,.agg [.fv (.int .i64 o1),.fv (.int .i64 n1),.clip es])]=.ret { eff:={ val:=.clip [.agg [.int .i64 o1,.int .i64 n1,.sl es]],upd:=[] } }:=by
  simp only [Af,Od,tTm];rw [if_neg (by decide)];rfl
 rw [this];exact GH _ s h k
theorem AlF (o1 n1:Int) (k1:FV) (s:Nat) (h:Hp) (k:IV→Hp→List Ref→List Ref→Option (IV×Hp)):Aw (Af EE 28 1 [(0,.agg [.fv (.int .i64 o1),.fv (.int .i64 n1),.fv k1])]) s h k=k (.clip [.agg [.int .i64 o1,.int .i64 n1,k1]]) h [] []:=by
 have:Af EE 28 1 [(0,.agg [.fv (.int .i64 o1),.fv (.int .i64 n1),.fv k1])]=.ret { eff:={ val:=.clip [.agg [.int .i64 o1,.int .i64 n1,k1]],upd:=[] } }:=by
  simp only [Af,Od,tTm];rw [if_neg (by decide)];rfl
 rw [this];exact GH _ s h k
set_option maxRecDepth 20000 in
set_option maxHeartbeats 16000000 in
theorem Ph (r q:Tm) (x:Int):∃N,Ahn (SS dt N 9 [.fv r.enc,.fv q.enc,.fv (.int .i64 x)] ⟨[],[]⟩) (.bool true):=by
 obtain ⟨j,hj⟩:∃j:Nat,x % 8=j:=⟨(x % 8).toNat,by omega⟩;have hj8:j<8:=by omega
 have aw:(q.plainT 2).wt≤20:=by have:=Gi 2 q;simpa using Nat.le_trans this (by decide)
 obtain ⟨t,is,⟨N1,h1⟩,tt⟩:=(AdL 9 (by omega)).2.2 [] (q.plainT 2) r ⟨by decide,fun i p h=>by simp at h⟩ ⟨Gn _ 2 q,by omega,Nat.le_trans (SO _) (by omega)⟩;have tsc:t.sc 0:=tt.sc;have tdp:t.dp≤300:=by have:=tt.dp;unfold Dg at this;omega
 have tw:t.wt≤8388608000:=Nat.le_trans tt.wt (by decide);obtain ⟨c,e,⟨N2,h2⟩,hcase,f,hf⟩:=Hb (k:=0) (by omega) tsc (by omega);obtain ⟨c2,e2,⟨N4,h4⟩,hcase2,f2,hf2⟩:=Hb (k:=0) (by omega) (R4 tsc j) (by rw [Zj];omega);have he2:e2=0∨e2=5∨e2=17:=by
  rcases hcase2 with ⟨h,_⟩ | ⟨h,_⟩
  ·exact .inl h
  ·exact .inr h
 have he1:e=0∨e=5∨e=17:=by
  rcases hcase with ⟨h,_⟩ | ⟨h,_⟩
  ·exact .inl h
  ·exact .inr h
 obtain ⟨N3,h3⟩:∃N3,is=true→e=0→((CS t j).chk 0 1).2=0→e2=0→∀n,N3≤n→BZ (SS dt n 16 [.fv (CS t j).enc] ⟨[],[]⟩) (.tuple [c.enc,.int .i64 0]):=by
  by_cases hh:is=true∧e=0∧((CS t j).chk 0 1).2=0∧e2=0
  ·obtain ⟨rfl,rfl,hck,rfl⟩:=hh;have ht:=(AlS (tt.gr rfl) [] Ady).2.2.1 rfl (Cq [] 2 q);rcases hcase2 with ⟨_,hu⟩ | ⟨h,_⟩
   case inr=>omega
   have hcc:=Y3 ht hf j f2 hf2;subst hcc;obtain ⟨N3,h3⟩:=AdU (Pv ht j) (R4 tsc j) (by omega) hck hf2 hu;exact ⟨N3,fun _ _ _ _=>h3⟩
  ·exact ⟨0,fun a b c d=>absurd ⟨a,b,c,d⟩ hh⟩
 have cw:c.wt≤3000:=by
  rcases hcase with ⟨_,h⟩ | ⟨_,rfl⟩
  ·exact h.wt
  ·simp [Tm.z,Tm.wt,Tm.wtL]
 obtain ⟨n,hn⟩:∃n,n=N1+N2+N3+N4+r.wt+q.wt+100000000000:=⟨_,rfl⟩;refine ⟨n+1,?_⟩;have h1:=h1 n (by omega);have h2:=h2 n (by omega);have h4:=h4 n (by omega);have h3:=fun a b c d=>h3 a b c d n (by omega);have hk:=Su (n:=n) (by omega);obtain ⟨m,hmn⟩:∃m,n=m+1:=⟨n - 1,by omega⟩;have fr:=Afi (n:=m) r (by omega);have fq:=Afi (n:=m) q (by omega);rw [← hmn] at fr fq;have hp:=KQ 2 n q (by omega) (by omega);have s1:=LO n c c (by omega) (by omega);rw [(Rg c c).2 rfl] at s1;have hck:=Afs (n:=n) (CS t j) (by rw [Aad];omega);have hv1:=S4 (n:=n) (by omega) e;have hv2:=S4 (n:=n) (by omega) e2;have hw:=Rv (n:=n) (by omega) x (m:=8) (by decide) (by decide);rw [hj] at hw;rw [c9];rw [show ((9:Nat):Int) - 5=4 from rfl,BL,Ark] at h1
 generalize decide (r.count 300<300)=br at fr;generalize decide (q.count 300<300)=bq at fq;generalize ((CS t j).chk 0 1).2=ck at hck h3;generalize q.plainT 2=a at hp h1;have hn1:1000<n:=by omega
 clear hcase hcase2 hf hf2 tt tw aw hn hmn cw;cases br
 ·obtain ⟨o1,p1,k1⟩:=r;obtain ⟨o2,p2,k2⟩:=q;simp only [Am] at fr ⊢;simp (maxSteps:=1000000) only [M0,M8,M1,Mv,NA,MP,NY,Mh,My,MY,Nf,Mz,NR,MH,MW,S9,↓XX,XY,↓reduceIte,Nat.reduceBEq,Nat.reduceAdd,Int.reduceEq,Int.reduceLT,Int.reduceLE,↓G3 hk,↓Ay fr];exact QJ
 cases bq
 ·obtain ⟨o1,p1,k1⟩:=r;obtain ⟨o2,p2,k2⟩:=q;simp only [Am] at fr fq ⊢;simp (maxSteps:=1000000) only [M0,M8,M1,Mv,NA,MP,NY,Mh,My,MY,Nf,Mz,NR,MH,MW,S9,↓XX,XY,↓reduceIte,Nat.reduceBEq,Nat.reduceAdd,Int.reduceEq,Int.reduceLT,Int.reduceLE,↓G3 hk,↓Ay fr,↓Ay fq];exact QJ
 have ht:=fun i=>CF (n:=n) (by omega) 19 [CS t i];have ht2:=fun i=>CF (n:=n) (by omega) 30 [.mk 19 0 [CS t i]];obtain ⟨o1,x1,k1⟩:=r;obtain ⟨o2,x2,k2⟩:=q;obtain ⟨o3,x3,k3⟩:=a;obtain ⟨o4,x4,k4⟩:=c;obtain ⟨o6,x6,k6⟩:=c2;have loop:∀o5 x5 k5,t=.mk o5 x5 k5→Ahn (BD n (fun q l h=>Ub l h (SS dt n) q) [iv j,.fv (.bool is),.ptr (.own 9444357) 0,.fv (.int .i64 e),.ptr (.own 9446401) 0,iv 0]
   ⟨[(9437184,.row [iv o1,iv x1,.fv (.sl (k1.map Tm.enc))] false),(9437185,.row [iv o2,iv x2,.fv (.sl (k2.map Tm.enc))] false),
    (9442306,.row [iv o3,iv x3,.fv (.sl (k3.map Tm.enc))] false),(9443334,.row [iv o5,iv x5,.fv (.sl (k5.map Tm.enc))] false),
    (9444357,.row [iv o4,iv x4,.fv (.sl (k4.map Tm.enc))] false),(9446401,.row [iv o5,iv x5,.fv (.sl (k5.map Tm.enc))] false)],[]⟩) (.bool true):=by
  intro o5 x5 k5 hT;refine A7 (Q:=fun r=>Ahn r _) (fun k V H=>∃i o7 x7 k7,i+k=j∧CS t i=.mk o7 x7 k7∧V=[iv j,.fv (.bool is),.ptr (.own 9444357) 0,.fv (.int .i64 e),.ptr (.own 9446401) 0,iv i]∧H =
   ⟨[(9437184,.row [iv o1,iv x1,.fv (.sl (k1.map Tm.enc))] false),(9437185,.row [iv o2,iv x2,.fv (.sl (k2.map Tm.enc))] false),
    (9442306,.row [iv o3,iv x3,.fv (.sl (k3.map Tm.enc))] false),(9443334,.row [iv o5,iv x5,.fv (.sl (k5.map Tm.enc))] false),
    (9444357,.row [iv o4,iv x4,.fv (.sl (k4.map Tm.enc))] false),(9446401,.row [iv o7,iv x7,.fv (.sl (k7.map Tm.enc))] false)],[]⟩)
   ?_ n j _ _ (by omega) ⟨0,o5,x5,k5,by omega,by rw [CS,hT],rfl,rfl⟩
  rintro k V H rec ⟨i,o7,x7,k7,hik,hW,rfl,rfl⟩ hrec;rcases Nat.lt_or_ge i j with hij | hij
  ·have hi:(i:Int)<j:=by omega
   have t1:=ht i;have t2:=ht2 i;have hwi:BM ((i:Int)+1)=((i+1:Nat):Int):=(As (by omega) (by omega)).trans (by simp);have h9:=hrec (k - 1) [iv j,.fv (.bool is),.ptr (.own 9444357) 0,.fv (.int .i64 e),.ptr (.own 9446401) 0,iv (i+1:Nat)] _ (by omega) ⟨i+1,30,0,[.mk 19 0 [CS t i]],by omega,rfl,rfl,rfl⟩;rw [hW] at t1 t2 h9;simp only [Arl,Ark,Am] at t1 t2 h9;simp (maxSteps:=1000000) only [↓UU1,↓XX,XY,↓reduceIte,Nat.reduceBEq,Nat.reduceAdd,Int.reduceEq,Int.reduceLT,Int.reduceLE,hi,↓AlF,↓ED,↓All,↓Ag t1,↓Ag t2,hwi];exact h9
  ·have hij:i=j:=by omega
   subst hij;have hi:¬ (i:Int)<i:=by omega
   rw [hW] at hck h3 h4;clear hrec ht ht2;simp only [Am] at hck h3 h4 s1;cases is
   ·simp (maxSteps:=1000000) only [↓UU1,↓XX,XY,↓reduceIte,Nat.reduceBEq,Nat.reduceAdd,Int.reduceEq,Int.reduceLT,Int.reduceLE,hi];exact QJ
   rcases he1 with rfl | rfl | rfl
   case inr.inl=>simp (maxSteps:=1000000) only [↓UU1,↓XX,XY,↓reduceIte,Nat.reduceBEq,Nat.reduceAdd,Int.reduceEq,Int.reduceLT,Int.reduceLE,hi,Bool.or_self,Bool.or_true,Bool.true_or,↓Ay hv1];exact QJ
   case inr.inr=>simp (maxSteps:=1000000) only [↓UU1,↓XX,XY,↓reduceIte,Nat.reduceBEq,Nat.reduceAdd,Int.reduceEq,Int.reduceLT,Int.reduceLE,hi,Bool.or_self,Bool.or_true,Bool.true_or,↓Ay hv1];exact QJ
   by_cases hc0:ck=0
   ·subst hc0;rcases he2 with rfl | rfl | rfl
    case inr.inl=>simp (maxSteps:=1000000) only [↓UU1,↓XX,XY,↓reduceIte,Nat.reduceBEq,Nat.reduceAdd,Int.reduceEq,Int.reduceLT,Int.reduceLE,hi,Bool.or_self,Bool.or_true,Bool.true_or,↓Ay hv1,↓Ay hck,↓Ay h4,↓Ay hv2];exact QJ
    case inr.inr=>simp (maxSteps:=1000000) only [↓UU1,↓XX,XY,↓reduceIte,Nat.reduceBEq,Nat.reduceAdd,Int.reduceEq,Int.reduceLT,Int.reduceLE,hi,Bool.or_self,Bool.or_true,Bool.true_or,↓Ay hv1,↓Ay hck,↓Ay h4,↓Ay hv2];exact QJ
    have h5:=h3 rfl rfl rfl rfl;clear h3;simp (maxSteps:=1000000) only [↓UU1,↓XX,XY,↓reduceIte,Nat.reduceBEq,Nat.reduceAdd,Int.reduceEq,Int.reduceLT,Int.reduceLE,hi,Bool.or_self,Bool.or_true,Bool.true_or,↓Ay hv1,↓Ay hck,↓Ay h4,Bool.or_false,↓Ay hv2,↓Ay h5,↓Ag s1];exact QJ
   ·simp (maxSteps:=1000000) only [↓UU1,↓XX,XY,↓reduceIte,Nat.reduceBEq,Nat.reduceAdd,Int.reduceEq,Int.reduceLT,Int.reduceLE,hi,Bool.or_self,Bool.or_true,Bool.true_or,↓Ay hv1,↓Ay hck,hc0];exact QJ
 obtain ⟨o5,x5,k5⟩:=t;have loop:=loop _ _ _ rfl;clear ht ht2 h3 h4 hck;simp only [Am] at fr fq hp h1 h2 ⊢;have hq:=fun (h:Hp) (kk:IV→Hp→List Ref→List Ref→Option (IV×Hp))=>AG (a:=.nils) (b:=.fv (.agg [.int .i64 o3,.int .i64 x3,.sl (k3.map Tm.enc)])) (c:=.fv (.agg [.int .i64 o1,.int .i64 x1,.sl (k1.map Tm.enc)])) (d:=.fv (.int .i64 4)) h1 rfl rfl rfl rfl h kk;simp (maxSteps:=1000000) only [M0,M8,M1,Mv,NA,MP,NY,Mh,My,MY,Nf,Mz,NR,MH,MW,S9,↓XX,XY,↓reduceIte,Nat.reduceBEq,Nat.reduceAdd,Int.reduceEq,Int.reduceLT,Int.reduceLE,↓G3 hk,↓Ay fr,↓Ay fq,↓Ag hp,↓hq,↓Ay h2,↓Ag hw];exact loop
end Idl
end Go.Proofs.Ytkfecngimlcfoaa

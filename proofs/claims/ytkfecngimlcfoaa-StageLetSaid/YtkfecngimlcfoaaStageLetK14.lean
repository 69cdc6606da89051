/-
  Texts of a proof, part 14: an ideal semantics of the program, its functions in shallow form, contracts of them. No statement of the seat is proved here.
-/
import Derived.Test.YtkfecngimlcfoaaStageLetK13
set_option linter.all false
set_option maxRecDepth 20000
set_option maxHeartbeats 16000000
noncomputable section
namespace Go.Proofs.Ytkfecngimlcfoaa
namespace Idl
def AqS (s:Nat) (a b:Int) (h:Hp) (k:KT (IV×Hp)):Ay (AT EE s false .max [3,3] [iv a,iv b]) s h k=k (iv (if a<b then b else a)) h [] [] :=
 gen_val' _ _ _ _
def Ao1 {G:FV} {a b:Tm} {m:Int} {i e:Int}  (s0:e≠0) (h0:JL G a i e):JM G (.mk 3 m [a,b]) .z e:=by
 obtain ⟨N0,h0⟩:=h0;refine ⟨N0+200,fun n hn=>?_⟩;obtain ⟨n,rfl⟩:=psc n (by omega);have h0:=h0 n (by omega);have hnone:=BB (n:=n) (by omega) e;rw [Xb];obtain ⟨oa,pa,ka⟩:=a;obtain ⟨ob,pb,kb⟩:=b;simp only [Ag,ACb,ACa,Bh,tyT,natT,Tm.z,Tm.op,Tm.n] at h0 hnone ⊢;simp (maxSteps:=1000000) only [↓JA,↓XX,XY,↓reduceIte,seval,↓Ap hnone,↓Ad h0,s0];exact Bi rfl
def Aoj {G:FV} {a b:Tm} {m:Int} {i j e:Int} {G1:FV}  (s0:e≠0) (h0:JL G a i 0) (h1:JB G 1 a G1) (h2:JL G1 b j e):JM G (.mk 3 m [a,b]) .z e:=by
 obtain ⟨N0,h0⟩:=h0;obtain ⟨N1,h1⟩:=h1;obtain ⟨N2,h2⟩:=h2;refine ⟨N0+N1+N2+200,fun n hn=>?_⟩;obtain ⟨n,rfl⟩:=psc n (by omega);have h0:=h0 n (by omega);have h1:=h1 n (by omega);have h2:=h2 n (by omega);have hnone:=BB (n:=n) (by omega) e;rw [Xb];obtain ⟨oa,pa,ka⟩:=a;obtain ⟨ob,pb,kb⟩:=b;simp only [Ag,ACb,ACa,Bh,tyT,natT,Tm.z,Tm.op,Tm.n] at h0 h1 h2 hnone ⊢;simp (maxSteps:=1000000) only [↓JA,↓XX,XY,↓reduceIte,seval,↓Ap hnone,↓Ad h0,↓AA h1,↓Ad h2,s0];exact Bi rfl
def Awj {G:FV} {a b:Tm} {m:Int} {i j:Int} {G1:FV}  (h0:JL G a i 0) (h1:JB G 1 a G1) (h2:JL G1 b j 0):JM G (.mk 3 m [a,b]) (.mk 2 (if i<j then j else i) []) 0:=by
 obtain ⟨N0,h0⟩:=h0;obtain ⟨N1,h1⟩:=h1;obtain ⟨N2,h2⟩:=h2;refine ⟨N0+N1+N2+200,fun n hn=>?_⟩;obtain ⟨n,rfl⟩:=psc n (by omega);have h0:=h0 n (by omega);have h1:=h1 n (by omega);have h2:=h2 n (by omega);have tu:=HX (n:=n) (by omega) (if i<j then j else i);rw [Xb];obtain ⟨oa,pa,ka⟩:=a;obtain ⟨ob,pb,kb⟩:=b;simp only [Ag,ACb,ACa,Bh,tyT,natT,Tm.z,Tm.op,Tm.n] at h0 h1 h2 tu ⊢;simp (maxSteps:=1000000) only [↓JA,↓XX,XY,↓reduceIte,seval,↓Ap tu,↓Ad h0,↓AA h1,↓Ad h2,AqS];exact Bi rfl
def AkF {G:FV} {a b:Tm} {m:Int} {i e:Int}  (s0:e≠0) (h0:JL G a i e):JM G (.mk 6 m [a,b]) .z e:=by
 obtain ⟨N0,h0⟩:=h0;refine ⟨N0+200,fun n hn=>?_⟩;obtain ⟨n,rfl⟩:=psc n (by omega);have h0:=h0 n (by omega);have hnone:=BB (n:=n) (by omega) e;rw [Xb];obtain ⟨oa,pa,ka⟩:=a;obtain ⟨ob,pb,kb⟩:=b;simp only [Ag,ACb,ACa,Bh,tyT,natT,Tm.z,Tm.op,Tm.n] at h0 hnone ⊢;simp (maxSteps:=1000000) only [↓JA,↓XX,XY,↓reduceIte,seval,↓Ap hnone,↓Ad h0,s0];exact Bi rfl
def Ak9 {G:FV} {a b:Tm} {m:Int} {i j e:Int} {G1:FV}  (s0:e≠0) (h0:JL G a i 0) (h1:JB G 1 a G1) (h2:JL G1 b j e):JM G (.mk 6 m [a,b]) .z e:=by
 obtain ⟨N0,h0⟩:=h0;obtain ⟨N1,h1⟩:=h1;obtain ⟨N2,h2⟩:=h2;refine ⟨N0+N1+N2+200,fun n hn=>?_⟩;obtain ⟨n,rfl⟩:=psc n (by omega);have h0:=h0 n (by omega);have h1:=h1 n (by omega);have h2:=h2 n (by omega);have hnone:=BB (n:=n) (by omega) e;rw [Xb];obtain ⟨oa,pa,ka⟩:=a;obtain ⟨ob,pb,kb⟩:=b;simp only [Ag,ACb,ACa,Bh,tyT,natT,Tm.z,Tm.op,Tm.n] at h0 h1 h2 hnone ⊢;simp (maxSteps:=1000000) only [↓JA,↓XX,XY,↓reduceIte,seval,↓Ap hnone,↓Ad h0,↓AA h1,↓Ad h2,s0];exact Bi rfl
def Aut {G:FV} {a b:Tm} {m:Int} {i j:Int} {G1:FV}  (h0:JL G a i 0) (h1:JB G 1 a G1) (h2:JL G1 b j 0):JM G (.mk 6 m [a,b]) (.mk 2 (if i<j then j else i) []) 0:=by
 obtain ⟨N0,h0⟩:=h0;obtain ⟨N1,h1⟩:=h1;obtain ⟨N2,h2⟩:=h2;refine ⟨N0+N1+N2+200,fun n hn=>?_⟩;obtain ⟨n,rfl⟩:=psc n (by omega);have h0:=h0 n (by omega);have h1:=h1 n (by omega);have h2:=h2 n (by omega);have tu:=HX (n:=n) (by omega) (if i<j then j else i);rw [Xb];obtain ⟨oa,pa,ka⟩:=a;obtain ⟨ob,pb,kb⟩:=b;simp only [Ag,ACb,ACa,Bh,tyT,natT,Tm.z,Tm.op,Tm.n] at h0 h1 h2 tu ⊢;simp (maxSteps:=1000000) only [↓JA,↓XX,XY,↓reduceIte,seval,↓Ap tu,↓Ad h0,↓AA h1,↓Ad h2,AqS];exact Bi rfl
def Ak0 {G:FV} {a b:Tm} {m:Int} {i e:Int}  (s0:e≠0) (h0:JL G a i e):JM G (.mk 4 m [a,b]) .z e:=by
 obtain ⟨N0,h0⟩:=h0;refine ⟨N0+200,fun n hn=>?_⟩;obtain ⟨n,rfl⟩:=psc n (by omega);have h0:=h0 n (by omega);have hnone:=BB (n:=n) (by omega) e;rw [Xb];obtain ⟨oa,pa,ka⟩:=a;obtain ⟨ob,pb,kb⟩:=b;simp only [Ag,ACb,ACa,Bh,tyT,natT,Tm.z,Tm.op,Tm.n] at h0 hnone ⊢;simp (maxSteps:=1000000) only [↓JA,↓XX,XY,↓reduceIte,seval,↓Ap hnone,↓Ad h0,s0];exact Bi rfl
def Ami {G:FV} {a b c:Tm} {m:Int} {i e:Int} {G1:FV}  (s0:e≠0) (h0:JL G a i 0) (h1:JB G 1 a G1) (h2:JI G1 1 b c e):JM G (.mk 4 m [a,b]) .z e:=by
 obtain ⟨N0,h0⟩:=h0;obtain ⟨N1,h1⟩:=h1;obtain ⟨N2,h2⟩:=h2;refine ⟨N0+N1+N2+200,fun n hn=>?_⟩;obtain ⟨n,rfl⟩:=psc n (by omega);have h0:=h0 n (by omega);have h1:=h1 n (by omega);have h2:=h2 n (by omega);have hnone:=BB (n:=n) (by omega) e;rw [Xb];obtain ⟨oa,pa,ka⟩:=a;obtain ⟨ob,pb,kb⟩:=b;obtain ⟨oc,pc,kc⟩:=c;simp only [Ag,ACb,ACa,Bh,tyT,natT,Tm.z,Tm.op,Tm.n] at h0 h1 h2 hnone ⊢;simp (maxSteps:=1000000) only [↓JA,↓XX,XY,↓reduceIte,seval,↓Ap hnone,↓Ad h0,↓AA h1,↓AA h2,s0];exact Bi rfl
def AuA {G:FV} {a b c r:Tm} {m:Int} {i e:Int} {G1:FV}  (h0:JL G a i 0) (h1:JB G 1 a G1) (h2:JI G1 1 b c 0) (h3:JN (.mk 3 0 [a,c]) r e):JM G (.mk 4 m [a,b]) r e:=by
 obtain ⟨N0,h0⟩:=h0;obtain ⟨N1,h1⟩:=h1;obtain ⟨N2,h2⟩:=h2;obtain ⟨N3,h3⟩:=h3;refine ⟨N0+N1+N2+N3+200,fun n hn=>?_⟩;obtain ⟨n,rfl⟩:=psc n (by omega);have h0:=h0 n (by omega);have h1:=h1 n (by omega);have h2:=h2 n (by omega);have h3:=h3 n (by omega);have u3:=Cx (n:=n) (by omega) 3 [a,c];rw [Xb];obtain ⟨oa,pa,ka⟩:=a;obtain ⟨ob,pb,kb⟩:=b;obtain ⟨oc,pc,kc⟩:=c;obtain ⟨or,pr,kr⟩:=r;simp only [Ag,ACb,ACa,Bh,tyT,natT,Tm.z,Tm.op,Tm.n] at h0 h1 h2 h3 u3 ⊢;simp (maxSteps:=1000000) only [↓JA,↓XX,XY,↓reduceIte,seval,↓Ad u3,↓Ad h0,↓AA h1,↓AA h2,↓Ap h3,↓Cc];exact Bi rfl
def AlM {G:FV} {f x b:Tm} {m:Int} {e:Int}  (s0:e≠0) (h0:JS G 1 f 3 b e):JM G (.mk 5 m [f,x]) .z e:=by
 obtain ⟨N0,h0⟩:=h0;refine ⟨N0+200,fun n hn=>?_⟩;obtain ⟨n,rfl⟩:=psc n (by omega);have h0:=h0 n (by omega);have hnone:=BB (n:=n) (by omega) e;rw [Xb];obtain ⟨of,pf,kf⟩:=f;obtain ⟨ox,px,kx⟩:=x;obtain ⟨ob,pb,kb⟩:=b;simp only [Ag,ACb,ACa,Bh,tyT,natT,Tm.z,Tm.op,Tm.n] at h0 hnone ⊢;simp (maxSteps:=1000000) only [↓JA,↓XX,XY,↓reduceIte,seval,↓Ap hnone,↓Au h0,s0];exact Bi rfl
def Akq {G:FV} {f x a c:Tm} {m:Int} {q e:Int}  (s0:e≠0) (h0:JS G 1 f 3 (.mk 3 q [a,c]) 0) (h1:JC G 1 x a e):JM G (.mk 5 m [f,x]) .z e:=by
 obtain ⟨N0,h0⟩:=h0;obtain ⟨N1,h1⟩:=h1;refine ⟨N0+N1+200,fun n hn=>?_⟩;obtain ⟨n,rfl⟩:=psc n (by omega);have h0:=h0 n (by omega);have h1:=h1 n (by omega);have hnone:=BB (n:=n) (by omega) e;rw [Xb];obtain ⟨of,pf,kf⟩:=f;obtain ⟨ox,px,kx⟩:=x;obtain ⟨oa,pa,ka⟩:=a;obtain ⟨oc,pc,kc⟩:=c;simp only [Ag,ACb,ACa,Bh,tyT,natT,Tm.z,Tm.op,Tm.n] at h0 h1 hnone ⊢;simp (maxSteps:=1000000) only [↓JA,↓XX,XY,↓reduceIte,seval,↓Ap hnone,↓Au h0,↓Au h1,s0];exact Bi rfl
def Aq7 {G:FV} {f x a c d r:Tm} {m:Int} {q e:Int}  (h0:JS G 1 f 3 (.mk 3 q [a,c]) 0) (h1:JC G 1 x a 0) (h2:JSu c x d) (h3:JN d r e):JM G (.mk 5 m [f,x]) r e:=by
 obtain ⟨N0,h0⟩:=h0;obtain ⟨N1,h1⟩:=h1;obtain ⟨N2,h2⟩:=h2;obtain ⟨N3,h3⟩:=h3;refine ⟨N0+N1+N2+N3+200,fun n hn=>?_⟩;obtain ⟨n,rfl⟩:=psc n (by omega);have h0:=h0 n (by omega);have h1:=h1 n (by omega);have h2:=h2 n (by omega);have h3:=h3 n (by omega);rw [Xb];obtain ⟨of,pf,kf⟩:=f;obtain ⟨ox,px,kx⟩:=x;obtain ⟨oa,pa,ka⟩:=a;obtain ⟨oc,pc,kc⟩:=c;obtain ⟨od,pd,kd⟩:=d;obtain ⟨or,pr,kr⟩:=r;simp only [Ag,ACb,ACa,Bh,tyT,natT,Tm.z,Tm.op,Tm.n] at h0 h1 h2 h3 ⊢;simp (maxSteps:=1000000) only [↓JA,↓XX,XY,↓reduceIte,seval,↓Au h0,↓Au h1,↓AA h2,↓Ap h3];exact Bi rfl
def Akc {G:FV} {x c:Tm} {m:Int} {e:Int}  (s0:e≠0) (h0:JS G 1 x 6 c e):JM G (.mk 8 m [x]) .z e:=by
 obtain ⟨N0,h0⟩:=h0;refine ⟨N0+200,fun n hn=>?_⟩;obtain ⟨n,rfl⟩:=psc n (by omega);have h0:=h0 n (by omega);have hnone:=BB (n:=n) (by omega) e;rw [Xb];obtain ⟨ox,px,kx⟩:=x;obtain ⟨oc,pc,kc⟩:=c;simp only [Ag,ACb,ACa,Bh,tyT,natT,Tm.z,Tm.op,Tm.n] at h0 hnone ⊢;simp (maxSteps:=1000000) only [↓JA,↓XX,XY,↓reduceIte,seval,↓Ap hnone,↓Au h0,s0];exact Bi rfl
def Arp {G:FV} {x a b:Tm} {m:Int} {q:Int}  (h0:JS G 1 x 6 (.mk 6 q [a,b]) 0):JM G (.mk 8 m [x]) a 0:=by
 obtain ⟨N0,h0⟩:=h0;refine ⟨N0+200,fun n hn=>?_⟩;obtain ⟨n,rfl⟩:=psc n (by omega);have h0:=h0 n (by omega);rw [Xb];obtain ⟨ox,px,kx⟩:=x;obtain ⟨oa,pa,ka⟩:=a;obtain ⟨ob,pb,kb⟩:=b;simp only [Ag,ACb,ACa,Bh,tyT,natT,Tm.z,Tm.op,Tm.n] at h0 ⊢;simp (maxSteps:=1000000) only [↓JA,↓XX,XY,↓reduceIte,seval,↓Au h0];exact Bi rfl
def ApG {G:FV} {s x y r:Tm} {m:Int} {e:Int}  (h0:JPr G (.mk 7 m [s,x,y]) r e):JM G (.mk 7 m [s,x,y]) r e:=by
 obtain ⟨N0,h0⟩:=h0;refine ⟨N0+200,fun n hn=>?_⟩;obtain ⟨n,rfl⟩:=psc n (by omega);have h0:=h0 n (by omega);rw [Xb];obtain ⟨os,ps,ks⟩:=s;obtain ⟨ox,px,kx⟩:=x;obtain ⟨oy,py,ky⟩:=y;obtain ⟨or,pr,kr⟩:=r;simp only [Ag,ACb,ACa,Bh,tyT,natT,Tm.z,Tm.op,Tm.n] at h0 ⊢;simp (maxSteps:=1000000) only [↓JA,↓XX,XY,↓reduceIte,seval,↓Ad h0];exact Bi rfl
def AsJ {G:FV} {p z s k r:Tm} {m:Int} {e:Int}  (h0:JR G (.mk 13 m [p,z,s,k]) r e):JM G (.mk 13 m [p,z,s,k]) r e:=by
 obtain ⟨N0,h0⟩:=h0;refine ⟨N0+200,fun n hn=>?_⟩;obtain ⟨n,rfl⟩:=psc n (by omega);have h0:=h0 n (by omega);rw [Xb];obtain ⟨op,pp,kp⟩:=p;obtain ⟨oz,pz,kz⟩:=z;obtain ⟨os,ps,ks⟩:=s;obtain ⟨ok,pk,kk⟩:=k;obtain ⟨or,pr,kr⟩:=r;simp only [Ag,ACb,ACa,Bh,tyT,natT,Tm.z,Tm.op,Tm.n] at h0 ⊢;simp (maxSteps:=1000000) only [↓JA,↓XX,XY,↓reduceIte,seval,↓Ad h0];exact Bi rfl
def AyI {G:FV} {s x y:Tm} {m:Int} {i e:Int}  (s0:e≠0) (h0:JL G s i e):JPr G (.mk 7 m [s,x,y]) .z e:=by
 obtain ⟨N0,h0⟩:=h0;refine ⟨N0+200,fun n hn=>?_⟩;obtain ⟨n,rfl⟩:=psc n (by omega);have h0:=h0 n (by omega);have hnone:=BB (n:=n) (by omega) e;rw [c84];obtain ⟨os,ps,ks⟩:=s;obtain ⟨ox,px,kx⟩:=x;obtain ⟨oy,py,ky⟩:=y;simp only [Ag,ACb,ACa,Bh,tyT,natT,Tm.z,Tm.op,Tm.n] at h0 hnone ⊢;simp (maxSteps:=1000000) only [↓Al4,↓XX,XY,↓reduceIte,seval,↓Ap hnone,↓Ad h0,s0];exact Bi rfl
def Azl {G:FV} {s x y r:Tm} {m:Int} {i e:Int}  (s0:e≠0) (h0:JL G s i 0) (h1:JN s r e):JPr G (.mk 7 m [s,x,y]) .z e:=by
 obtain ⟨N0,h0⟩:=h0;obtain ⟨N1,h1⟩:=h1;refine ⟨N0+N1+200,fun n hn=>?_⟩;obtain ⟨n,rfl⟩:=psc n (by omega);have h0:=h0 n (by omega);have h1:=h1 n (by omega);have hnone:=BB (n:=n) (by omega) e;rw [c84];obtain ⟨os,ps,ks⟩:=s;obtain ⟨ox,px,kx⟩:=x;obtain ⟨oy,py,ky⟩:=y;obtain ⟨or,pr,kr⟩:=r;simp only [Ag,ACb,ACa,Bh,tyT,natT,Tm.z,Tm.op,Tm.n] at h0 h1 hnone ⊢;simp (maxSteps:=1000000) only [↓Al4,↓XX,XY,↓reduceIte,seval,↓Ap hnone,↓Ad h0,↓Ap h1,s0];exact Bi rfl
def Ay9 {G:FV} {s x y a b:Tm} {m:Int} {i q e:Int}  (s0:e≠0) (h0:JL G s i 0) (h1:JN s (.mk 6 q [a,b]) 0) (h2:JC G 1 x a e):JPr G (.mk 7 m [s,x,y]) .z e:=by
 obtain ⟨N0,h0⟩:=h0;obtain ⟨N1,h1⟩:=h1;obtain ⟨N2,h2⟩:=h2;refine ⟨N0+N1+N2+200,fun n hn=>?_⟩;obtain ⟨n,rfl⟩:=psc n (by omega);have h0:=h0 n (by omega);have h1:=h1 n (by omega);have h2:=h2 n (by omega);have hnone:=BB (n:=n) (by omega) e;rw [c84];obtain ⟨os,ps,ks⟩:=s;obtain ⟨ox,px,kx⟩:=x;obtain ⟨oy,py,ky⟩:=y;obtain ⟨oa,pa,ka⟩:=a;obtain ⟨ob,pb,kb⟩:=b;simp only [Ag,ACb,ACa,Bh,tyT,natT,Tm.z,Tm.op,Tm.n] at h0 h1 h2 hnone ⊢;simp (maxSteps:=1000000) only [↓Al4,↓XX,XY,↓reduceIte,seval,↓Ap hnone,↓Ad h0,↓Ap h1,↓Au h2,s0];exact Bi rfl
def Awh {G:FV} {s x y a b d:Tm} {m:Int} {i q e:Int}  (s0:e≠0) (h0:JL G s i 0) (h1:JN s (.mk 6 q [a,b]) 0) (h2:JC G 1 x a 0) (h3:JSu b x d) (h4:JC G 1 y d e):JPr G (.mk 7 m [s,x,y]) .z e:=by
 obtain ⟨N0,h0⟩:=h0;obtain ⟨N1,h1⟩:=h1;obtain ⟨N2,h2⟩:=h2;obtain ⟨N3,h3⟩:=h3;obtain ⟨N4,h4⟩:=h4;refine ⟨N0+N1+N2+N3+N4+200,fun n hn=>?_⟩;obtain ⟨n,rfl⟩:=psc n (by omega);have h0:=h0 n (by omega);have h1:=h1 n (by omega);have h2:=h2 n (by omega);have h3:=h3 n (by omega);have h4:=h4 n (by omega);have hnone:=BB (n:=n) (by omega) e;rw [c84];obtain ⟨os,ps,ks⟩:=s;obtain ⟨ox,px,kx⟩:=x;obtain ⟨oy,py,ky⟩:=y;obtain ⟨oa,pa,ka⟩:=a;obtain ⟨ob,pb,kb⟩:=b;obtain ⟨od,pd,kd⟩:=d;simp only [Ag,ACb,ACa,Bh,tyT,natT,Tm.z,Tm.op,Tm.n] at h0 h1 h2 h3 h4 hnone ⊢;simp (maxSteps:=1000000) only [↓Al4,↓XX,XY,↓reduceIte,seval,↓Ap hnone,↓Ad h0,↓Ap h1,↓Au h2,↓AA h3,↓Au h4,s0];exact Bi rfl
def kq {G:FV} {s x y a b d:Tm} {m:Int} {i q:Int}  (h0:JL G s i 0) (h1:JN s (.mk 6 q [a,b]) 0) (h2:JC G 1 x a 0) (h3:JSu b x d) (h4:JC G 1 y d 0):JPr G (.mk 7 m [s,x,y]) (.mk 6 q [a,b]) 0:=by
 obtain ⟨N0,h0⟩:=h0;obtain ⟨N1,h1⟩:=h1;obtain ⟨N2,h2⟩:=h2;obtain ⟨N3,h3⟩:=h3;obtain ⟨N4,h4⟩:=h4;refine ⟨N0+N1+N2+N3+N4+200,fun n hn=>?_⟩;obtain ⟨n,rfl⟩:=psc n (by omega);have h0:=h0 n (by omega);have h1:=h1 n (by omega);have h2:=h2 n (by omega);have h3:=h3 n (by omega);have h4:=h4 n (by omega);rw [c84];obtain ⟨os,ps,ks⟩:=s;obtain ⟨ox,px,kx⟩:=x;obtain ⟨oy,py,ky⟩:=y;obtain ⟨oa,pa,ka⟩:=a;obtain ⟨ob,pb,kb⟩:=b;obtain ⟨od,pd,kd⟩:=d;simp only [Ag,ACb,ACa,Bh,tyT,natT,Tm.z,Tm.op,Tm.n] at h0 h1 h2 h3 h4 ⊢;simp (maxSteps:=1000000) only [↓Al4,↓XX,XY,↓reduceIte,seval,↓Ad h0,↓Ap h1,↓Au h2,↓AA h3,↓Au h4];exact Bi rfl
def AzJ {G:FV} {p z s k:Tm} {m:Int} {i e:Int} {G1:FV}  (s0:e≠0) (h0:JB G 1 (.mk 10 0 []) G1) (h1:JL G1 p i e):JR G (.mk 13 m [p,z,s,k]) .z e:=by
 obtain ⟨N0,h0⟩:=h0;obtain ⟨N1,h1⟩:=h1;refine ⟨N0+N1+200,fun n hn=>?_⟩;obtain ⟨n,rfl⟩:=psc n (by omega);have h0:=h0 n (by omega);have h1:=h1 n (by omega);have t10:=AO (n:=n) (by omega) 10;have hnone:=BB (n:=n) (by omega) e;rw [c85];obtain ⟨op,pp,kp⟩:=p;obtain ⟨oz,pz,kz⟩:=z;obtain ⟨os,ps,ks⟩:=s;obtain ⟨ok,pk,kk⟩:=k;simp only [Ag,ACb,ACa,Bh,tyT,natT,Tm.z,Tm.op,Tm.n] at h0 h1 t10 hnone ⊢;simp (maxSteps:=1000000) only [↓AmN,↓XX,XY,↓reduceIte,seval,↓Ad t10,↓Ap hnone,↓AA h0,↓Ad h1,s0];exact Bi rfl
def Azd {G:FV} {p z s k z0:Tm} {m:Int} {i e:Int} {G1:FV}  (s0:e≠0) (h0:JB G 1 (.mk 10 0 []) G1) (h1:JL G1 p i 0) (h2:JSu p (.mk 11 0 []) z0) (h3:JC G 1 z z0 e):JR G (.mk 13 m [p,z,s,k]) .z e:=by
 obtain ⟨N0,h0⟩:=h0;obtain ⟨N1,h1⟩:=h1;obtain ⟨N2,h2⟩:=h2;obtain ⟨N3,h3⟩:=h3;refine ⟨N0+N1+N2+N3+200,fun n hn=>?_⟩;obtain ⟨n,rfl⟩:=psc n (by omega);have h0:=h0 n (by omega);have h1:=h1 n (by omega);have h2:=h2 n (by omega);have h3:=h3 n (by omega);have t10:=AO (n:=n) (by omega) 10;have t11:=AO (n:=n) (by omega) 11;have hnone:=BB (n:=n) (by omega) e;rw [c85];obtain ⟨op,pp,kp⟩:=p;obtain ⟨oz,pz,kz⟩:=z;obtain ⟨os,ps,ks⟩:=s;obtain ⟨ok,pk,kk⟩:=k;obtain ⟨oz0,pz0,kz0⟩:=z0;simp only [Ag,ACb,ACa,Bh,tyT,natT,Tm.z,Tm.op,Tm.n] at h0 h1 h2 h3 t10 t11 hnone ⊢;simp (maxSteps:=1000000) only [↓AmN,↓XX,XY,↓reduceIte,seval,↓Ad t10,↓Ad t11,↓Ap hnone,↓AA h0,↓Ad h1,↓AA h2,↓Au h3,s0];exact Bi rfl
def Ayu {G:FV} {p z s k z0 w0:Tm} {m:Int} {i e:Int} {G1 G2:FV}  (s0:e≠0) (h0:JB G 1 (.mk 10 0 []) G1) (h1:JL G1 p i 0) (h2:JSu p (.mk 11 0 []) z0) (h3:JC G 1 z z0 0) (h4:JB G1 1 p G2) (h5:JNx p w0) (h6:JC G2 1 s w0 e):JR G (.mk 13 m [p,z,s,k]) .z e:=by
 obtain ⟨N0,h0⟩:=h0;obtain ⟨N1,h1⟩:=h1;obtain ⟨N2,h2⟩:=h2;obtain ⟨N3,h3⟩:=h3;obtain ⟨N4,h4⟩:=h4;obtain ⟨N5,h5⟩:=h5;obtain ⟨N6,h6⟩:=h6;refine ⟨N0+N1+N2+N3+N4+N5+N6+200,fun n hn=>?_⟩;obtain ⟨n,rfl⟩:=psc n (by omega);have h0:=h0 n (by omega);have h1:=h1 n (by omega);have h2:=h2 n (by omega);have h3:=h3 n (by omega);have h4:=h4 n (by omega);have h5:=h5 n (by omega);have h6:=h6 n (by omega);have t10:=AO (n:=n) (by omega) 10;have t11:=AO (n:=n) (by omega) 11;have hnone:=BB (n:=n) (by omega) e;rw [c85];obtain ⟨op,pp,kp⟩:=p;obtain ⟨oz,pz,kz⟩:=z;obtain ⟨os,ps,ks⟩:=s;obtain ⟨ok,pk,kk⟩:=k;obtain ⟨oz0,pz0,kz0⟩:=z0;obtain ⟨ow0,pw0,kw0⟩:=w0;simp only [Ag,ACb,ACa,Bh,tyT,natT,Tm.z,Tm.op,Tm.n] at h0 h1 h2 h3 h4 h5 h6 t10 t11 hnone ⊢;simp (maxSteps:=1000000) only [↓AmN,↓XX,XY,↓reduceIte,seval,↓Ad t10,↓Ad t11,↓Ap hnone,↓AA h0,↓Ad h1,↓AA h2,↓Au h3,↓AA h4,↓Ap h5,↓Au h6,s0];exact Bi rfl
def AyM {G:FV} {p z s k z0 w0:Tm} {m:Int} {i e:Int} {G1 G2:FV}  (s0:e≠0) (h0:JB G 1 (.mk 10 0 []) G1) (h1:JL G1 p i 0) (h2:JSu p (.mk 11 0 []) z0) (h3:JC G 1 z z0 0) (h4:JB G1 1 p G2) (h5:JNx p w0) (h6:JC G2 1 s w0 0) (h7:JC G 1 k (.mk 10 0 []) e):JR G (.mk 13 m [p,z,s,k]) .z e:=by
 obtain ⟨N0,h0⟩:=h0;obtain ⟨N1,h1⟩:=h1;obtain ⟨N2,h2⟩:=h2;obtain ⟨N3,h3⟩:=h3;obtain ⟨N4,h4⟩:=h4;obtain ⟨N5,h5⟩:=h5;obtain ⟨N6,h6⟩:=h6;obtain ⟨N7,h7⟩:=h7;refine ⟨N0+N1+N2+N3+N4+N5+N6+N7+200,fun n hn=>?_⟩;obtain ⟨n,rfl⟩:=psc n (by omega);have h0:=h0 n (by omega);have h1:=h1 n (by omega);have h2:=h2 n (by omega);have h3:=h3 n (by omega);have h4:=h4 n (by omega);have h5:=h5 n (by omega);have h6:=h6 n (by omega);have h7:=h7 n (by omega);have t10:=AO (n:=n) (by omega) 10;have t11:=AO (n:=n) (by omega) 11;have hnone:=BB (n:=n) (by omega) e;rw [c85];obtain ⟨op,pp,kp⟩:=p;obtain ⟨oz,pz,kz⟩:=z;obtain ⟨os,ps,ks⟩:=s;obtain ⟨ok,pk,kk⟩:=k;obtain ⟨oz0,pz0,kz0⟩:=z0;obtain ⟨ow0,pw0,kw0⟩:=w0;simp only [Ag,ACb,ACa,Bh,tyT,natT,Tm.z,Tm.op,Tm.n] at h0 h1 h2 h3 h4 h5 h6 h7 t10 t11 hnone ⊢;simp (maxSteps:=1000000) only [↓AmN,↓XX,XY,↓reduceIte,seval,↓Ad t10,↓Ad t11,↓Ap hnone,↓AA h0,↓Ad h1,↓AA h2,↓Au h3,↓AA h4,↓Ap h5,↓Au h6,↓Au h7,s0];exact Bi rfl
theorem kr {G:FV} {p z s k z0 w0 d r:Tm} {m:Int} {i e:Int} {G1 G2:FV}  (h0:JB G 1 (.mk 10 0 []) G1) (h1:JL G1 p i 0) (h2:JSu p (.mk 11 0 []) z0) (h3:JC G 1 z z0 0) (h4:JB G1 1 p G2) (h5:JNx p w0) (h6:JC G2 1 s w0 0) (h7:JC G 1 k (.mk 10 0 []) 0) (h8:JSu p k d) (h9:JN d r e):JR G (.mk 13 m [p,z,s,k]) r e:=by
 obtain ⟨N0,h0⟩:=h0;obtain ⟨N1,h1⟩:=h1;obtain ⟨N2,h2⟩:=h2;obtain ⟨N3,h3⟩:=h3;obtain ⟨N4,h4⟩:=h4;obtain ⟨N5,h5⟩:=h5;obtain ⟨N6,h6⟩:=h6;obtain ⟨N7,h7⟩:=h7;obtain ⟨N8,h8⟩:=h8;obtain ⟨N9,h9⟩:=h9;refine ⟨N0+N1+N2+N3+N4+N5+N6+N7+N8+N9+200,fun n hn=>?_⟩;obtain ⟨n,rfl⟩:=psc n (by omega);have h0:=h0 n (by omega);have h1:=h1 n (by omega);have h2:=h2 n (by omega);have h3:=h3 n (by omega);have h4:=h4 n (by omega);have h5:=h5 n (by omega);have h6:=h6 n (by omega);have h7:=h7 n (by omega);have h8:=h8 n (by omega);have h9:=h9 n (by omega);have t10:=AO (n:=n) (by omega) 10;have t11:=AO (n:=n) (by omega) 11;rw [c85];obtain ⟨op,pp,kp⟩:=p;obtain ⟨oz,pz,kz⟩:=z;obtain ⟨os,ps,ks⟩:=s;obtain ⟨ok,pk,kk⟩:=k;obtain ⟨oz0,pz0,kz0⟩:=z0;obtain ⟨ow0,pw0,kw0⟩:=w0;obtain ⟨od,pd,kd⟩:=d;obtain ⟨or,pr,kr⟩:=r;simp only [Ag,ACb,ACa,Bh,tyT,natT,Tm.z,Tm.op,Tm.n] at h0 h1 h2 h3 h4 h5 h6 h7 h8 h9 t10 t11 ⊢;simp (maxSteps:=1000000) only [↓AmN,↓XX,XY,↓reduceIte,seval,↓Ad t10,↓Ad t11,↓AA h0,↓Ad h1,↓AA h2,↓Au h3,↓AA h4,↓Ap h5,↓Au h6,↓Au h7,↓AA h8,↓Ap h9];exact Bi rfl
def Azm {G:FV} {m:Int}  (s0:m≠2) (s1:-1000<=m) (s2:m<=1000):JI G 1 (.mk 2 m []) (.mk 2 (m+1) []) 0:=by
 refine ⟨200,fun n hn=>?_⟩;obtain ⟨n,rfl⟩:=psc n (by omega);have tu:=HX (n:=n) (by omega) (m+1);rw [Vn];simp only [Ag,ACb,ACa,Bh,tyT,natT,Tm.z,Tm.op,Tm.n] at tu ⊢;simp (maxSteps:=1000000) only [↓HS,↓XX,XY,↓reduceIte,seval,↓Ap tu,s0,s1,s2,(show BM (m+1)=m+1 from Av (by omega) (by omega))];exact Bi rfl
def AtO {G:FV} {m:Int}  : JI G 1 (.mk 10 m []) (.mk 2 0 []) 0:=by
 refine ⟨200,fun n hn=>?_⟩;obtain ⟨n,rfl⟩:=psc n (by omega);have tu:=HX (n:=n) (by omega) 0;rw [Vn];simp only [Ag,ACb,ACa,Bh,tyT,natT,Tm.z,Tm.op,Tm.n] at tu ⊢;simp (maxSteps:=1000000) only [↓HS,↓XX,XY,↓reduceIte,seval,↓Ap tu];exact Bi rfl
def AvY {G:FV} {m:Int}  : JI G 1 (.mk 14 m []) (.mk 2 0 []) 0:=by
 refine ⟨200,fun n hn=>?_⟩;obtain ⟨n,rfl⟩:=psc n (by omega);have tu:=HX (n:=n) (by omega) 0;rw [Vn];simp only [Ag,ACb,ACa,Bh,tyT,natT,Tm.z,Tm.op,Tm.n] at tu ⊢;simp (maxSteps:=1000000) only [↓HS,↓XX,XY,↓reduceIte,seval,↓Ap tu];exact Bi rfl
def Apz {G:FV} {m:Int}  : JI G 1 (.mk 11 m []) natT 0:=by
 refine ⟨200,fun n hn=>?_⟩;obtain ⟨n,rfl⟩:=psc n (by omega);have t10:=AO (n:=n) (by omega) 10;rw [Vn];simp only [Ag,ACb,ACa,Bh,tyT,natT,Tm.z,Tm.op,Tm.n] at t10 ⊢;simp (maxSteps:=1000000) only [↓HS,↓XX,XY,↓reduceIte,seval,↓Ad t10];exact Bi rfl
def AjQ {G:FV} {a:Tm} {m:Int} {e:Int}  (s0:e≠0) (h0:JC G 1 a natT e):JI G 1 (.mk 12 m [a]) .z e:=by
 obtain ⟨N0,h0⟩:=h0;refine ⟨N0+200,fun n hn=>?_⟩;obtain ⟨n,rfl⟩:=psc n (by omega);have h0:=h0 n (by omega);have t10:=AO (n:=n) (by omega) 10;have hnone:=BB (n:=n) (by omega) e;rw [Vn];obtain ⟨oa,pa,ka⟩:=a;simp only [Ag,ACb,ACa,Bh,tyT,natT,Tm.z,Tm.op,Tm.n] at h0 t10 hnone ⊢;simp (maxSteps:=1000000) only [↓HS,↓XX,XY,↓reduceIte,seval,↓Ad t10,↓Ap hnone,↓Au h0,s0];exact Bi rfl
def AtZ {G:FV} {a:Tm} {m:Int}  (h0:JC G 1 a natT 0):JI G 1 (.mk 12 m [a]) natT 0:=by
 obtain ⟨N0,h0⟩:=h0;refine ⟨N0+200,fun n hn=>?_⟩;obtain ⟨n,rfl⟩:=psc n (by omega);have h0:=h0 n (by omega);have t10:=AO (n:=n) (by omega) 10;rw [Vn];obtain ⟨oa,pa,ka⟩:=a;simp only [Ag,ACb,ACa,Bh,tyT,natT,Tm.z,Tm.op,Tm.n] at h0 t10 ⊢;simp (maxSteps:=1000000) only [↓HS,↓XX,XY,↓reduceIte,seval,↓Ad t10,↓Au h0];exact Bi rfl
def AiT {G:FV} {a:Tm} {m:Int} {e:Int}  (s0:e≠0) (h0:JC G 1 a tyT e):JI G 1 (.mk 18 m [a]) .z e:=by
 obtain ⟨N0,h0⟩:=h0;refine ⟨N0+200,fun n hn=>?_⟩;obtain ⟨n,rfl⟩:=psc n (by omega);have h0:=h0 n (by omega);have t14:=AO (n:=n) (by omega) 14;have hnone:=BB (n:=n) (by omega) e;rw [Vn];obtain ⟨oa,pa,ka⟩:=a;simp only [Ag,ACb,ACa,Bh,tyT,natT,Tm.z,Tm.op,Tm.n] at h0 t14 hnone ⊢;simp (maxSteps:=1000000) only [↓HS,↓XX,XY,↓reduceIte,seval,↓Ad t14,↓Ap hnone,↓Au h0,s0];exact Bi rfl
def Apb {G:FV} {a:Tm} {m:Int}  (h0:JC G 1 a tyT 0):JI G 1 (.mk 18 m [a]) (.mk 2 0 []) 0:=by
 obtain ⟨N0,h0⟩:=h0;refine ⟨N0+200,fun n hn=>?_⟩;obtain ⟨n,rfl⟩:=psc n (by omega);have h0:=h0 n (by omega);have t14:=AO (n:=n) (by omega) 14;have tu:=HX (n:=n) (by omega) 0;rw [Vn];obtain ⟨oa,pa,ka⟩:=a;simp only [Ag,ACb,ACa,Bh,tyT,natT,Tm.z,Tm.op,Tm.n] at h0 t14 tu ⊢;simp (maxSteps:=1000000) only [↓HS,↓XX,XY,↓reduceIte,seval,↓Ad t14,↓Ap tu,↓Au h0];exact Bi rfl
def AlJ {G:FV} {a b:Tm} {m:Int} {e:Int}  (s0:e≠0) (h0:JI G 0 a b e):JI G 1 (.mk 19 m [a]) .z e:=by
 obtain ⟨N0,h0⟩:=h0;refine ⟨N0+200,fun n hn=>?_⟩;obtain ⟨n,rfl⟩:=psc n (by omega);have h0:=h0 n (by omega);have hnone:=BB (n:=n) (by omega) e;rw [Vn];obtain ⟨oa,pa,ka⟩:=a;obtain ⟨ob,pb,kb⟩:=b;simp only [Ag,ACb,ACa,Bh,tyT,natT,Tm.z,Tm.op,Tm.n] at h0 hnone ⊢;simp (maxSteps:=1000000) only [↓HS,↓XX,XY,↓reduceIte,seval,↓Ap hnone,↓AA h0,s0];exact Bi rfl
def Arh {G:FV} {a b:Tm} {m:Int}  (h0:JI G 0 a b 0):JI G 1 (.mk 19 m [a]) (.mk 18 0 [b]) 0:=by
 obtain ⟨N0,h0⟩:=h0;refine ⟨N0+200,fun n hn=>?_⟩;obtain ⟨n,rfl⟩:=psc n (by omega);have h0:=h0 n (by omega);have u18:=Cx (n:=n) (by omega) 18 [b];rw [Vn];obtain ⟨oa,pa,ka⟩:=a;obtain ⟨ob,pb,kb⟩:=b;simp only [Ag,ACb,ACa,Bh,tyT,natT,Tm.z,Tm.op,Tm.n] at h0 u18 ⊢;simp (maxSteps:=1000000) only [↓HS,↓XX,XY,↓reduceIte,seval,↓Ad u18,↓AA h0,↓De];exact Bi rfl
def AoX {G:FV} {m:Int}  (h0:JCs G 1 [] tyT 0):JI G 1 (.mk 15 m []) tyT 0:=by
 obtain ⟨N0,h0⟩:=h0;refine ⟨N0+200,fun n hn=>?_⟩;obtain ⟨n,rfl⟩:=psc n (by omega);have h0:=h0 n (by omega);have t14:=AO (n:=n) (by omega) 14;rw [Vn];simp only [Ag,ACb,ACa,Bh,tyT,natT,Tm.z,Tm.op,Tm.n] at h0 t14 ⊢;simp (maxSteps:=1000000) only [↓HS,↓XX,XY,↓reduceIte,seval,↓Ad t14,↓Au h0];exact Bi rfl
def Ajl {G:FV} {a b:Tm} {m:Int} {e:Int}  (s0:e≠0) (h0:JCs G 1 [a,b] tyT e):JI G 1 (.mk 16 m [a,b]) .z e:=by
 obtain ⟨N0,h0⟩:=h0;refine ⟨N0+200,fun n hn=>?_⟩;obtain ⟨n,rfl⟩:=psc n (by omega);have h0:=h0 n (by omega);have t14:=AO (n:=n) (by omega) 14;have hnone:=BB (n:=n) (by omega) e;rw [Vn];obtain ⟨oa,pa,ka⟩:=a;obtain ⟨ob,pb,kb⟩:=b;simp only [Ag,ACb,ACa,Bh,tyT,natT,Tm.z,Tm.op,Tm.n] at h0 t14 hnone ⊢;simp (maxSteps:=1000000) only [↓HS,↓XX,XY,↓reduceIte,seval,↓Ad t14,↓Ap hnone,↓Au h0,s0];exact Bi rfl
def ApK {G:FV} {a b:Tm} {m:Int}  (h0:JCs G 1 [a,b] tyT 0):JI G 1 (.mk 16 m [a,b]) tyT 0:=by
 obtain ⟨N0,h0⟩:=h0;refine ⟨N0+200,fun n hn=>?_⟩;obtain ⟨n,rfl⟩:=psc n (by omega);have h0:=h0 n (by omega);have t14:=AO (n:=n) (by omega) 14;rw [Vn];obtain ⟨oa,pa,ka⟩:=a;obtain ⟨ob,pb,kb⟩:=b;simp only [Ag,ACb,ACa,Bh,tyT,natT,Tm.z,Tm.op,Tm.n] at h0 t14 ⊢;simp (maxSteps:=1000000) only [↓HS,↓XX,XY,↓reduceIte,seval,↓Ad t14,↓Au h0];exact Bi rfl
def Ai7 {G:FV} {a b:Tm} {m:Int} {e:Int}  (s0:e≠0) (h0:JCs G 1 [a,b] tyT e):JI G 1 (.mk 17 m [a,b]) .z e:=by
 obtain ⟨N0,h0⟩:=h0;refine ⟨N0+200,fun n hn=>?_⟩;obtain ⟨n,rfl⟩:=psc n (by omega);have h0:=h0 n (by omega);have t14:=AO (n:=n) (by omega) 14;have hnone:=BB (n:=n) (by omega) e;rw [Vn];obtain ⟨oa,pa,ka⟩:=a;obtain ⟨ob,pb,kb⟩:=b;simp only [Ag,ACb,ACa,Bh,tyT,natT,Tm.z,Tm.op,Tm.n] at h0 t14 hnone ⊢;simp (maxSteps:=1000000) only [↓HS,↓XX,XY,↓reduceIte,seval,↓Ad t14,↓Ap hnone,↓Au h0,s0];exact Bi rfl
def Aqf {G:FV} {a b:Tm} {m:Int}  (h0:JCs G 1 [a,b] tyT 0):JI G 1 (.mk 17 m [a,b]) tyT 0:=by
 obtain ⟨N0,h0⟩:=h0;refine ⟨N0+200,fun n hn=>?_⟩;obtain ⟨n,rfl⟩:=psc n (by omega);have h0:=h0 n (by omega);have t14:=AO (n:=n) (by omega) 14;rw [Vn];obtain ⟨oa,pa,ka⟩:=a;obtain ⟨ob,pb,kb⟩:=b;simp only [Ag,ACb,ACa,Bh,tyT,natT,Tm.z,Tm.op,Tm.n] at h0 t14 ⊢;simp (maxSteps:=1000000) only [↓HS,↓XX,XY,↓reduceIte,seval,↓Ad t14,↓Au h0];exact Bi rfl
def G3 {G:FV} {op m e:Int} {ks:List Tm} {r:Tm} (ho:20<=op) (h:JO G (.mk op m ks) r e):JI G 0 (.mk op m ks) r e:=by
 obtain ⟨N,h⟩:=h;refine ⟨N+200,fun n hn=>?_⟩;obtain ⟨n,rfl⟩:=psc n (by omega);have h:=h n (by omega);rw [Vn];obtain ⟨oP,nP,kP⟩:=r;have h1:op≠1:=by omega
 have h20:(20:Int)<=op:=ho;simp only [Ag] at h ⊢;simp (maxSteps:=1000000) only [↓HS,↓XX,XY,↓reduceIte,seval,h1,h20,↓Ad h];exact Bi rfl
def Cm {G:FV} {op m e:Int} {ks:List Tm} {r:Tm} (ho:op=3\/op=6\/op=4\/op=5\/op=8\/op=9\/op=7\/op=13) (h:JM G (.mk op m ks) r e):JI G 1 (.mk op m ks) r e:=by
 obtain ⟨N,h⟩:=h;refine ⟨N+200,fun n hn=>?_⟩;obtain ⟨n,rfl⟩:=psc n (by omega);have h:=h n (by omega);rw [Vn];obtain ⟨oP,nP,kP⟩:=r;rcases ho with rfl | rfl | rfl | rfl | rfl | rfl | rfl | rfl
 all_goals
  simp only [Ag] at h ⊢;simp (maxSteps:=1000000) only [↓HS,↓XX,XY,↓reduceIte,seval,↓Ad h];exact Bi rfl
def AtQ {g:Bb} {st e:Int} {i:Nat} {T s r:Tm} (hi:i<g.length) (hl:g.length<=100000) (hg:g[g.length - 1 - i]?=some (st,T)) (h0:JSh T ((i:Int)+1) 0 s) (h1:JN s r e):JI (A6 g) st (.mk 1 (i:Int) []) r e:=by
 obtain ⟨N0,h0⟩:=h0;obtain ⟨N1,h1⟩:=h1;refine ⟨N0+N1+200,fun n hn=>?_⟩;obtain ⟨n,rfl⟩:=psc n (by omega);have hs:=h0 n (by omega);have hN:=h1 n (by omega);rw [Vn];have hget:(g.map v1)[g.length - 1 - i]?=some (v1 (st,T)):=by rw [List.getElem?_map,hg];rfl
 have hix:=fun {β:Type}=>BS (β:=β) (size:=4) hget rfl;have hlen:(g.map v1).length=g.length:=List.length_map _;have w1:BM ((g.length:Int) - 1)=(g.length:Int) - 1:=by rw [Av]<;>omega
 have w2:BM ((g.length:Int) - 1 - i)=((g.length - 1 - i:Nat):Int):=by rw [Av (by omega) (by omega)];omega
 have wi:BM ((i:Int)+1)=(i:Int)+1:=by rw [Av]<;>omega
 have hno:¬ ((g.length:Int)<=i):=by omega
 obtain ⟨oT,nT,kT⟩:=T;obtain ⟨os,ns,ks⟩:=s;obtain ⟨oR,nR,kR⟩:=r;simp only [A6,Ag,ACa,v1,Tm.op,Tm.n,Tm.kids] at hix hs hN ⊢;simp (maxSteps:=1000000) only [↓HS,↓XX,XY,↓reduceIte,seval,hlen,hno,w1,w2,wi,↓hix,FV.cells,↓AA hs,↓Ap hN];exact Bi rfl
def AqL {G:FV} {st:Int} {a:Tm} {ks:List Tm} (hl:ks.length<=1000) (h:∀t∈ks,JC G st t a 0):JCs G st ks a 0:=by
 have hN:∃N,∀n,N<=n->∀t∈ks,BW (SS dt n 48 [.fv G,iv st,.fv t.enc,.fv a.enc] ⟨[],[]⟩) (.int .i64 0):=by
  clear hl
  induction ks with
  | nil=>exact ⟨0,fun n hn t ht=>by simp at ht⟩
  | cons t ks ih =>
   obtain ⟨N1,h1⟩:=ih (fun t ht=>h t (by simp [ht]));obtain ⟨N2,h2⟩:=h t (by simp);refine ⟨N1+N2,fun n hn x hx=>?_⟩;rcases List.mem_cons.1 hx with rfl | hx
   ·exact h2 n (by omega)
   ·exact h1 n (by omega) x hx
 obtain ⟨N,hN⟩:=hN;refine ⟨N+2000,fun n hn=>?_⟩;obtain ⟨n,rfl⟩:=psc n (by omega);exact Axx ks hl (by omega) (hN n (by omega))
theorem Alt {n:Nat} {G:FV} {st e:Int} {a:Tm} (ks p0:List Tm) (t0:Tm) (q0:List Tm) (hks:ks=p0++t0::q0) (hl:ks.length<=1000) (hn:ks.length<n) (he:e≠0) (h:∀t∈p0,BW (SS dt n 48 [.fv G,iv st,.fv t.enc,.fv a.enc] ⟨[],[]⟩) (.int .i64 0)) (h0:BW (SS dt n 48 [.fv G,iv st,.fv t0.enc,.fv a.enc] ⟨[],[]⟩) (.int .i64 e)) :
  BW (SS dt (n+1) 49 [.fv G,iv st,.fv (.sl (ks.map Tm.enc)),.fv a.enc] ⟨[],[]⟩) (.int .i64 e):=by
 rw [c49];obtain ⟨oa,na,ka⟩:=a;simp only [Ag] at h h0 ⊢;simp only [J6,Km,Kl,S49,↓XX,XY,↓reduceIte,seval];refine Bd (Q:=fun r=>BW r _) (fun k V H=>∃pre rest,p0=pre++rest/\rest.length=k/\V=[.fv G,iv st,.fv (.sl (ks.map Tm.enc)),.ptr (.own 51380224) 0,iv pre.length] /\
  H=⟨[(51380224,.row [iv oa,iv na,.fv (.sl (ka.map Tm.enc))] false)],[]⟩) ?_ n p0.length _ _ (by rw [hks] at hn;simp at hn;omega) ⟨[],p0,rfl,rfl,rfl,rfl⟩
 rintro k V H rec ⟨pre,rest,hk,hkl,rfl,rfl⟩ hrec;have hkk:ks.length=pre.length+rest.length+1+q0.length:=by rw [hks,hk];simp;omega
 have hi:(pre.length:Int)<ks.length:=by rw [hkk];omega
 cases rest with
 | nil =>
  have hg:=Cr (l:=ks) (pre:=pre) (a:=t0) (rest:=q0) (by rw [hks,hk];simp);obtain ⟨o,p,l⟩:=t0;rw [Ag] at h0;simp only [J6,Km,Kl,PD,S49,↓XX,XY,↓reduceIte,seval,hi,↓BS (AY hg) (BA _ _ _),↓CB,↓Au h0,he];exact Aw _ _
 | cons t rest =>
  have hg:=Cr (l:=ks) (pre:=pre) (a:=t) (rest:=rest++t0::q0) (by rw [hks,hk];simp);have hc:=h t (by rw [hk];simp);have hwi:BM ((pre.length:Int)+1)=((pre++[t]).length:Int):=(Av (by omega) (by omega)).trans (by simp);simp only [AB9] at hkl;have h9:=hrec rest.length [.fv G,iv st,.fv (.sl (ks.map Tm.enc)),.ptr (.own 51380224) 0,iv (pre++[t]).length] _ (by omega) ⟨pre++[t],rest,by rw [hk];simp,rfl,rfl,rfl⟩;obtain ⟨o,p,l⟩:=t;rw [Ag] at hc;simp only [J6,Km,Kl,PD,S49,↓XX,XY,↓reduceIte,seval,hi,↓BS (AY hg) (BA _ _ _),↓CB,↓Au hc,hwi];exact h9
def ArY {G:FV} {st e:Int} {a x y:Tm} (he:e≠0) (h0:JC G st x a e):JCs G st [x,y] a e:=by
 obtain ⟨N,h0⟩:=h0;refine ⟨N+2000,fun n hn=>?_⟩;obtain ⟨n,rfl⟩:=psc n (by omega);exact Alt [x,y] [] x [y] rfl (by simp) (by simp;omega) he (by simp) (h0 n (by omega))
def Asn {G:FV} {st e:Int} {a x y:Tm} (he:e≠0) (h:JC G st x a 0) (h0:JC G st y a e):JCs G st [x,y] a e:=by
 obtain ⟨N,h0⟩:=h0;obtain ⟨M,h⟩:=h;refine ⟨N+M+2000,fun n hn=>?_⟩;obtain ⟨n,rfl⟩:=psc n (by omega);exact Alt [x,y] [x] y [] rfl (by simp) (by simp;omega) he (by simpa using h n (by omega)) (h0 n (by omega))
def Avp {G:FV} {st:Int} {a x y:Tm} (h:JC G st x a 0) (h0:JC G st y a 0):JCs G st [x,y] a 0 :=
 AqL (by simp) (fun t ht=>by
  simp only [List.mem_cons,List.not_mem_nil,or_false] at ht;rcases ht with rfl | rfl
  ·exact h
  ·exact h0)
def jb (g:Bb) (st:Int) (a:Tm) (hg:g.length<=100000):JB (A6 g) st a (A6 (g++[(st,a)])) :=
 ⟨1,fun n hn=>Ath g st a hg (by omega)⟩
def jsh {k:Nat} {t:Tm} (d c:Int) (h:t.sc k) (hw:t.wt<=1000000000000000) (hc:0<=c) (hc2:c<=1000000):JSh t d c (t.shift d c) :=
 ⟨t.wt+2,fun n hn=>C0 n t d c (by omega) (Fp t k h) hc (by omega)⟩
def jsu {k k':Nat} {t u:Tm} (h:t.sc k) (hw:t.wt<=1000000000000000) (hu:u.sc k') (huw:u.wt<=1000000000000000):JSu t u (t.subst 0 0 u) :=
 ⟨t.wt+u.wt+5,fun n hn=>PJ t u 0 (Fp u k' hu) (by omega) (by omega) (Fp t k h) (by omega) (by omega) (by omega)⟩
def jf (t:Tm) (hw:t.wt<=10000000000000):JF t (t.free 0) :=
 ⟨t.wt+2,fun n hn=>Aa6 n t 0 (by omega) (by omega) (by omega) (by omega)⟩
def jn {k:Nat} {t:Tm} (hk:k<=1000) (h:t.sc k) (hd:t.dp<=20000):∃u e,JN t u e/\((e=0/\NOk k u\/(e=5\/e=17)/\u=.z)/\∃f,AF f t=some (u,e)):=Fa hk h hd
def je {k:Nat} (hk:k<=1000) {a b:Tm} (ha:a.sc k) (hb:b.sc k) (hda:a.dp<=20000) (hdb:b.dp<=20000):∃w e,JE a b w e /\
  ((e=5\/e=17)\/e=0/\∃f x f' y,AF f a=some (x,0)/\AF f' b=some (y,0)/\NOk k x/\NOk k y/\w=x.eta.same y.eta):=AiK hk ha hb hda hdb
theorem Rm {f:Nat} {op d:Int} {u k0:Nat} (hu:k0+u<=700000) (ih:∀(t:Tm) (u:Nat) (s nd:Int) (r:Tm) (s' nd':Int),AL f s nd 0 (t.val u) u d=some (r,s',nd',0)->t.stl->t.sc (k0+u)->k0+u+2 * t.wt<=700000->0<=s->s<=1000000->r=t/\s'=s) :
  ∀(l:List Tm) (i:Nat) (s nd:Int) (ts:List Tm) (s' nd':Int),Ba (fun s nd e k u=>AL f s nd e k u d) f op u i (Tm.valL op i l u) s nd 0=some (ts,s',nd',0)->Tm.stlL l->Tm.scL op i l (k0+u)->k0+u+2+2 * Tm.wtL l<=700000->0<=s->s<=1000000->ts=l/\s'=s
 | [],i,s,nd,ts,s',nd',h,_,_,_,_,_=>by
  simp only [Tm.valL,Ba,AB5,AB6] at h;exact ⟨h.1.symm,h.2.1.symm⟩
 | t::l,i,s,nd,ts,s',nd',h,hst,hsc,hw,h0,h1=>by
  have hbn:=Bo op i;rw [Tm.stlL] at hst;rw [Tm.scL] at hsc;simp only [Tm.wtL] at hw;rw [Tm.valL,Ba] at h;have key:∀(v:RV) (s1 e1:Int) (r:Tm) (s2 nd2 e2:Int),v=t.val (u+Ae op i)->s1=s->AL f s1 nd e1 v ((u:Int)+Ae op i) d=some (r,s2,nd2,e2) ->
    ((Ba (fun s nd e k u=>AL f s nd e k u d) f op u (i+1) (Tm.valL op (i+1) l u) s2 nd2 e2).map fun (ts,s,nd,e)=>(r::ts,s,nd,e))=some (ts,s',nd',0)->ts=t::l/\s'=s:=by
   rintro v s1 e1 r s2 nd2 e2 rfl rfl hr hk;cases hk2:Ba (fun s nd e k u=>AL f s nd e k u d) f op u (i+1) (Tm.valL op (i+1) l u) s2 nd2 e2 with
   | none=>rw [hk2] at hk;cases hk
   | some q =>
    obtain ⟨ts2,s3,nd3,e3⟩:=q;rw [hk2] at hk;simp only [AB8,AB5,AB6] at hk;obtain ⟨rfl,rfl,rfl,rfl⟩:=hk
    have:=Me _ _ _ _ _ _ _ _ hk2
    subst this
    have:=Dx hr
    subst this;rw [show (u:Int)+(Ae op i:Int)=((u+Ae op i:Nat):Int) by omega] at hr
    obtain ⟨rfl,rfl⟩:=ih t _ _ _ _ _ _ hr hst.1 (by rw [<- Nat.add_assoc];exact hsc.1) (by omega) h0 h1;obtain ⟨rfl,rfl⟩:=Rm hu ih l (i+1) _ _ _ _ _ hk2 hst.2 hsc.2 (by omega) h0 h1;exact ⟨rfl,rfl⟩
  by_cases hb:0<Ae op i
  ·rw [if_pos hb,if_pos hb] at h;rw [show (RV.clo (Fo 0 u) t).env=Fo 0 u from rfl,show (RV.clo (Fo 0 u) t).b=t from rfl,if_neg (by rw [B1];omega),Afv] at h
   split at h
   ·cases h
   rename_i v1 s1 e1 hev;split at h
   ·cases h
   rename_i r s2 nd2 e2 hr;obtain ⟨g,hg⟩:=IK h0 h1 k0 (t.wt+1) t (u+Ae op i) (by omega) hst.1 (by rw [<- Nat.add_assoc];exact hsc.1) (by omega);have a1:=BZ (show f<=f+g by omega) hev
   have a2:=BZ (show g<=f+g by omega) hg
   rw [a1] at a2;simp only [AB5,AB6] at a2;exact key _ _ _ _ _ _ _ a2.1 a2.2.1 hr h
  ·have hb0:Ae op i=0:=by omega
   rw [if_neg hb,if_neg hb] at h;simp only at h;split at h
   ·cases h
   rename_i r s2 nd2 e2 hr;exact key _ _ _ _ _ _ _ (by rw [hb0,Nat.add_zero]) rfl hr h
theorem AkC (k0:Nat):∀(f:Nat) (t:Tm) (u:Nat) (s nd d:Int) (r:Tm) (s' nd':Int),AL f s nd 0 (t.val u) u d=some (r,s',nd',0)->t.stl->t.sc (k0+u)->k0+u+2 * t.wt<=700000->0<=s->s<=1000000->r=t/\s'=s:=by
 intro f
 induction f with
 | zero=>intro t u s nd d r s' nd' h;rw [AL] at h;cases h
 | succ f ih =>
  intro t u s nd d r s' nd' h hst hsc hw h0 h1;obtain ⟨op,n,ks⟩:=t;rw [Tm.stl] at hst;rw [Tm.sc] at hsc;simp only [Tm.wt] at hw;rw [AL] at h;split at h
  ·cases h
  by_cases hc:(if (0:Int)=0/\(3000<nd+1\/120<d) then (5:Int) else 0)≠0
  ·rw [if_pos hc] at h;simp only [AB5,AB6] at h;exact absurd (by simpa using h.2.2.2) hc
  rw [if_neg hc] at h;by_cases h1o:op=1
  ·subst h1o;rw [if_pos rfl] at hsc;have hks:ks=[]:=List.eq_nil_of_length_eq_zero (Option.some.inj hsc.1.symm);subst hks;rw [Tm.val,if_pos rfl,if_pos (show (RV.var ((u:Int) - 1 - n)).op=1 from rfl),show (RV.var ((u:Int) - 1 - n)).n=(u:Int) - 1 - n from rfl] at h
   simp only [AB5,AB6] at h;obtain ⟨rfl,rfl,_⟩:=h;exact ⟨by rw [show (u:Int) - 1 - ((u:Int) - 1 - n)=n by omega],rfl⟩
  ·rw [if_neg h1o] at hsc;have e:(Tm.mk op n ks).val u=.node op n (Tm.valL op 0 ks u):=by rw [Tm.val,if_neg h1o]
   rw [e,show (RV.node op n (Tm.valL op 0 ks u)).op=op from rfl,show (RV.node op n (Tm.valL op 0 ks u)).n=n from rfl,show (RV.node op n (Tm.valL op 0 ks u)).k=Tm.valL op 0 ks u from rfl,if_neg h1o] at h
   cases hk:Ba (fun s nd e k u=>AL f s nd e k u (d+1)) f op u 0 (Tm.valL op 0 ks u) s (nd+1) 0 with
   | none=>rw [hk] at h;cases h
   | some q =>
    obtain ⟨ts,s2,nd2,e2⟩:=q;rw [hk] at h;simp only [AB8,AB5,AB6] at h;obtain ⟨rfl,rfl,rfl,rfl⟩:=h;obtain ⟨rfl,rfl⟩:=Rm (k0:=k0) (by omega) (fun t u s nd r s' nd' a b c w x y=>ih t u s nd (d+1) r s' nd' a b c w x y) ks 0 s (nd+1) ts s2 nd2 hk hst.2 hsc.2.2 (by omega) h0 h1;exact ⟨rfl,rfl⟩
def AI {t u:Tm} {k f:Nat} (hst:t.stl) (hsc:t.sc k) (hw:k+2 * t.wt<=600000) (h:AF f t=some (u,0)):u=t:=by
 rw [AF] at h;split at h
 ·cases h
 rename_i v s e he;split at h
 ·cases h
 rename_i w s2 nd2 e2 hr;simp only [AB5] at h;by_cases h2:e2=0
 ·subst h2;rw [if_neg (by simp)] at h;simp only [AB6,and_true] at h;subst h
  have:=Dx hr
  subst this;obtain ⟨g,hg⟩:=IK (s:=0) (by omega) (by omega) k (t.wt+1) t 0 (by omega) hst (by simpa using hsc) (by omega);have a1:=BZ (show f<=f+g by omega) he
  have a2:=BZ (show g<=f+g by omega) hg
  rw [show Fo 0 0=[] from rfl,a1] at a2
  simp only [AB5,AB6] at a2;obtain ⟨rfl,rfl,_⟩:=a2;exact (AkC k f t 0 0 0 1 w s2 nd2 hr hst (by simpa using hsc) (by omega) (by omega) (by omega)).1
 ·rw [if_pos h2] at h;simp only [AB6] at h;exact absurd h.2 h2
def PN (_X _Y:Tm):Prop:=True
def PE (_A:Tm):Prop:=True
def KI (_g:Bb) (_st:Int) (_t _A:Tm):Prop:=True
def KC (_g:Bb) (_st:Int) (_t _a:Tm):Prop:=True
def KL (_g:Bb) (_t:Tm) (_m:Int):Prop:=True
def KU (_g:Bb) (_a _b _B:Tm):Prop:=True
def Avq {g:Bb} {st:Int} {t a A:Tm} (_:KI g st t A) (_:PN a A) (_:PN A A) (_:PE A):KC g st t a:=trivial
def AzC {g:Bb} {t:Tm} {m:Int} (_:KI g 1 t (.mk 2 m [])):KL g t m:=trivial
def Aq9 {g:Bb} {st:Int} {i:Nat} {T A:Tm} (_:i<g.length) (_:g.length<=1000) (_:g[g.length - 1 - i]?=some (st,T)) (_:JSh T ((i:Int)+1) 0 (T.shift ((i+1:Nat):Int) 0)) (_:PN (T.shift ((i+1:Nat):Int) 0) A):KI g st (.mk 1 i []) A:=trivial
def AsZ {g:Bb} {m:Int} (_:0<=m/\m<=1):KI g 1 (.mk 2 m []) (.mk 2 (m+1) []):=trivial
def Arv {g:Bb} {m:Int}:KI g 1 (.mk 10 m []) (.mk 2 0 []):=trivial
def AwD {g:Bb} {m:Int}:KI g 1 (.mk 14 m []) (.mk 2 0 []):=trivial
def Apw {g:Bb} {m:Int}:KI g 1 (.mk 11 m []) natT:=trivial
def ArV {g:Bb} {a:Tm} {m:Int} (_:KC g 1 a natT):KI g 1 (.mk 12 m [a]) natT:=trivial
def AnV {g:Bb} {m:Int}:KI g 1 (.mk 15 m []) tyT:=trivial
def Aoq {g:Bb} {a b:Tm} {op m:Int} (_:op=16\/op=17) (_:KC g 1 a tyT) (_:KC g 1 b tyT):KI g 1 (.mk op m [a,b]) tyT:=trivial
def AoG {g:Bb} {a:Tm} {m:Int} (_:KC g 1 a tyT):KI g 1 (.mk 18 m [a]) (.mk 2 0 []):=trivial
def At2 {g:Bb} {a A:Tm} {m:Int} (_:KI g 0 a A):KI g 1 (.mk 19 m [a]) (.mk 18 0 [A]):=trivial
def Aw1 {g:Bb} {a b:Tm} {op m i j:Int} (_:op=3\/op=6) (_:KL g a i) (_:KL (g++[(1,a)]) b j):KI g 1 (.mk op m [a,b]) (.mk 2 (if i<j then j else i) []):=trivial
def Ary {g:Bb} {a b B C:Tm} {m i:Int} (_:KL g a i) (_:KI (g++[(1,a)]) 1 b B) (_:PN (.mk 3 0 [a,B]) C):KI g 1 (.mk 4 m [a,b]) C:=trivial
def AtK {g:Bb} {f x A B Y:Tm} {m q:Int} (_:KI g 1 f (.mk 3 q [A,B])) (_:KC g 1 x A) (_:JSu B x (B.subst 0 0 x)) (_:PN (B.subst 0 0 x) Y):KI g 1 (.mk 5 m [f,x]) Y:=trivial
def AtN {g:Bb} {x A B:Tm} {m q:Int} (_:KI g 1 x (.mk 6 q [A,B])):KI g 1 (.mk 8 m [x]) A:=trivial
def Aoz {g:Bb} {S x y A B Y:Tm} {m q i:Int} (_:KL g S i) (_:PN S (.mk 6 q [A,B])) (_:KC g 1 x A) (_:PN (B.subst 0 0 x) Y) (_:KC g 1 y Y):KI g 1 (.mk 7 m [S,x,y]) (.mk 6 q [A,B]):=trivial
def Asu {g:Bb} {X z s k:Tm} {m i:Int} (_:X=natT\/X=tyT) (_:KL (g++[(1,natT)]) X i) (_:PN X X) (_:KC g 1 z X) (_:KC (g++[(1,natT)]++[(1,X)]) 1 s X) (_:KC g 1 k natT):KI g 1 (.mk 13 m [X,z,s,k]) X:=trivial
def Aou {g:Bb} {m:Int}:KI g 0 (.mk 25 m []) Bh:=trivial
def Amh {g:Bb} {a b:Tm} {m:Int} (_:KC g 0 a Bh) (_:KC g 0 b Bh):KI g 0 (.mk 26 m [a,b]) Bh:=trivial
def Avv {g:Bb} {a b B:Tm} {k:Nat} (_:B.sc k) (_:k+2 * B.wt<=100000000) (_:KI (g++[(0,a)]) 0 b (B.shift 1 0)):KU g a b B:=trivial
def AoL {g:Bb} {a b B C:Tm} {m:Int} (_:KC g 1 a tyT) (_:KU g a b B) (_:PN (.mk 16 0 [a,B]) C):KI g 0 (.mk 20 m [a,b]) C:=trivial
def Ape {g:Bb} {a b A:Tm} {m:Int} (_:KC g 1 a tyT) (_:KC (g++[(0,a)]) 0 b (a.shift 1 0)) (_:PN a A):KI g 0 (.mk 29 m [a,b]) A:=trivial
def Ao4 {g:Bb} {x y A B:Tm} {m:Int} (_:KI g 0 x A) (_:KU g A y B):KI g 0 (.mk 28 m [x,y]) B:=trivial
def AsH {g:Bb} {x A:Tm} {m q:Int} (_:KI g 1 x (.mk 18 q [A])):KI g 0 (.mk 30 m [x]) A:=trivial
def AoQ {g:Bb} {f x A B:Tm} {m q:Int} (_:KI g 0 f (.mk 16 q [A,B])) (_:KC g 0 x A):KI g 0 (.mk 21 m [f,x]) B:=trivial
def Anf {g:Bb} {x y A B C:Tm} {m:Int} (_:KI g 0 x A) (_:KI g 0 y B) (_:PN (.mk 17 0 [A,B]) C):KI g 0 (.mk 22 m [x,y]) C:=trivial
def AoU {g:Bb} {x A B:Tm} {m q:Int} (_:KI g 0 x (.mk 17 q [A,B])):KI g 0 (.mk 23 m [x]) A:=trivial
def AuQ {g:Bb} {c x y A:Tm} {m:Int} (_:KC g 0 c Bh) (_:KI g 0 x A) (_:KC g 0 y A):KI g 0 (.mk 27 m [c,x,y]) A:=trivial
mutual
theorem SZ:∀(t u:Tm) (c d:Int) (k:Nat),t.sc k->0<=c->c+k+4 * t.wt<=1000000000->(t.shift 1 c).subst c d u=t
 | .mk op n ks,u,c,d,k,h,hc,hw=>by
  rw [Tm.sc] at h;simp only [Tm.wt] at hw;rw [Tm.shift,Tm.subst];by_cases h1:op=1
  ·have h2:=h.2.1;rw [if_pos h1] at h2;have hk:ks=[]:=by
    have:=h.1
    subst h1;exact List.eq_nil_of_length_eq_zero (Option.some.inj (this.symm.trans (show ar 1=some 0 from rfl)))
   subst hk;rw [if_pos h1];by_cases hn:c<=n
   ·have e:(if op=1/\c<=n then BM (n+1) else n)=n+1:=by rw [if_pos ⟨h1,hn⟩,Av (by omega) (by omega)]
    rw [e,if_neg (by omega),if_pos (by omega),Av (by omega) (by omega),h1,Int.add_sub_cancel]
   ·have e:(if op=1/\c<=n then BM (n+1) else n)=n:=if_neg (fun h=>hn h.2);rw [e,if_neg (by omega),if_neg (by omega),Tm.shiftL]
  ·rw [if_neg h1,if_neg (fun h=>h1 h.1),sub_shL ks u op 0 c d k h.2.2 hc (by omega)]
theorem sub_shL:∀(l:List Tm) (u:Tm) (op:Int) (i:Nat) (c d:Int) (k:Nat),Tm.scL op i l k->0<=c->c+k+4+4 * Tm.wtL l<=1000000000->Tm.substL op i (Tm.shiftL op i l 1 c) c d u=l
 | [],_,_,_,_,_,_,_,_,_=>rfl
 | t::l,u,op,i,c,d,k,h,hc,hw=>by
  rw [Tm.scL] at h;simp only [Tm.wtL] at hw;have hb:=Bo op i;rw [Tm.shiftL,Tm.substL,SZ t u _ _ _ h.1 (by omega) (by have:=Ez t;omega),sub_shL l u op (i+1) c d k h.2 hc (by omega)]
end
mutual
theorem Aga:∀(t:Tm) (c:Int) (k:Nat),t.sc k->0<=c->c+k+4 * t.wt<=1000000000->(t.shift 1 c).free c=false
 | .mk op n ks,c,k,h,hc,hw=>by
  rw [Tm.sc] at h;simp only [Tm.wt] at hw;rw [Tm.shift,Tm.free];by_cases h1:op=1
  ·have h2:=h.2.1;rw [if_pos h1] at h2 ⊢;rw [decide_eq_false_iff_not];by_cases hn:c<=n
   ·rw [if_pos ⟨h1,hn⟩,Av (by omega) (by omega)];omega
   ·rw [if_neg (fun h=>hn h.2)];omega
  ·rw [if_neg h1];exact free_shL ks op 0 c k h.2.2 hc (by omega)
theorem free_shL:∀(l:List Tm) (op:Int) (i:Nat) (c:Int) (k:Nat),Tm.scL op i l k->0<=c->c+k+4+4 * Tm.wtL l<=1000000000->Tm.freeL op i (Tm.shiftL op i l 1 c) c=false
 | [],_,_,_,_,_,_,_=>rfl
 | t::l,op,i,c,k,h,hc,hw=>by
  rw [Tm.scL] at h;simp only [Tm.wtL] at hw;have hb:=Bo op i;rw [Tm.shiftL,Tm.freeL,Aga t _ _ h.1 (by omega) (by have:=Ez t;omega),free_shL l op (i+1) c k h.2 hc (by have:=Ez t;omega)];rfl
end
theorem Anu {op op':Int} {ks:List Tm} {d c:Int} (h:An2 op ks):An2 op (Tm.shiftL op' 0 ks d c):=by
 have hg:∀(i:Nat) x,(Tm.shiftL op' 0 ks d c)[i]?=some x->∃y,ks[i]?=some y/\x.op=y.op:=by
  intro i x hx;rw [Kr] at hx;cases hy:ks[i]? with
  | none=>rw [hy] at hx;cases hx
  | some y =>
   rw [hy] at hx;simp only [AB8,AB5] at hx;exact ⟨y,rfl,by rw [<- hx,Pc]⟩
 obtain ⟨⟨h1,h2,h3⟩,h4,h5⟩:=h;refine ⟨⟨fun ho x hx=>?_,fun ho x hx=>?_,fun ho x hx=>?_⟩,fun ho x hx=>?_,fun ho x hx=>?_⟩<;>obtain ⟨y,hy,e⟩:=hg _ _ hx<;>rw [e]
 ·exact h1 ho y hy
 ·exact h2 ho y hy
 ·exact h3 ho y hy
 ·exact h4 ho y hy
 ·exact h5 ho y hy
mutual
theorem YP:∀(t:Tm) (d c:Int),t.stl->(t.shift d c).stl
 | .mk op n ks,d,c,h=>by
  rw [Tm.stl] at h;rw [Tm.shift,Tm.stl];exact ⟨Anu h.1,stlL_sh ks op 0 d c h.2⟩
theorem stlL_sh:∀(l:List Tm) (op:Int) (i:Nat) (d c:Int),Tm.stlL l->Tm.stlL (Tm.shiftL op i l d c)
 | [],_,_,_,_,_=>by rw [Tm.shiftL,Tm.stlL];trivial
 | t::l,op,i,d,c,h=>by
  rw [Tm.stlL] at h;rw [Tm.shiftL,Tm.stlL];exact ⟨YP t _ _ h.1,stlL_sh l op (i+1) d c h.2⟩
end
theorem Fk {G:List Nat} {t:Tm} {s:Nat} (h:HasT G t s):t.stl->NfT G t s:=by
 induction h with
 | var G n s h0 h hs=>exact fun _=>.var _ _ _ h0 h hs
 | node G op n ks s sg hr hl hk ih =>
  intro hs;rw [Tm.stl] at hs;exact .node _ _ _ _ _ sg hr hl hs.1.1 fun i t bs s' ht hg=>ih i t bs s' ht hg (H0 hs.2 (List.mem_of_getElem? ht))
 | app G n m a b x y s s0=>intro h;rw [Tm.stl] at h;exact absurd rfl (h.1.2.1 rfl _ rfl)
 | fst G n m a x y s s1 s0=>intro h;rw [Tm.stl] at h;exact absurd rfl (h.1.2.2 (.inl rfl) _ rfl)
 | snd G n m a x y s s1 s0=>intro h;rw [Tm.stl] at h;exact absurd rfl (h.1.2.2 (.inr rfl) _ rfl)
def Es (s:Nat):Prop:=s=0\/s=1\/s=2\/10<=s
theorem AoE {op:Int} {s:Nat} {sg:Mv} (hr:Rule op s sg) (hs:Es s):(op≠4/\op≠7)/\∀(i:Nat) bs s',sg[i]?=some (bs,s')->Es s':=by
 have hi4:∀i:Nat,i=0\/i=1\/i=2\/i=3\/4<=i:=by omega
 unfold Es at hs ⊢;cases hr<;>refine ⟨by omega,fun i bs s' h=>?_⟩<;>rcases hi4 i with rfl | rfl | rfl | rfl | h4 <;>
  (try simp only [List.getElem?_cons_zero,List.getElem?_cons_succ,List.getElem?_nil,AB5,AB6,reduceCtorEq] at h) <;>
  first | (obtain ⟨_,rfl⟩:=h;omega) | (rw [List.getElem?_eq_none (by simp only [AB9,List.length_nil];omega)] at h;cases h) | cases h
theorem WB:∀{l:List Tm},(∀t∈l,t.eta=t)->Tm.etaL l=l
 | [],_=>rfl
 | x::l,h=>by rw [Tm.etaL,h x (List.mem_cons_self ..),WB fun t ht=>h t (List.mem_cons_of_mem _ ht)]
theorem Rt {op n:Int} {l:List Tm} (h:op≠4/\op≠7) (hl:∀t∈l,t.eta=t):(Tm.mk op n l).eta=.mk op n l:=by rw [Tm.eta,if_neg h.1,if_neg h.2,WB hl]
theorem Sc {G:List Nat} {t:Tm} {s:Nat} (h:NfT G t s):Es s->t.eta=t:=by
 induction h with
 | var G n s h0 h hs=>intro _;exact Rt (by decide) (by simp)
 | node G op n ks s sg hr hl hst hk ih =>
  intro hs;obtain ⟨ho,hkid⟩:=AoE hr hs;refine Rt ho fun t ht=>?_;obtain ⟨i,hi⟩:=Sq ht;have hi2:i<sg.length:=by rw [<- hl];exact (List.getElem?_eq_some_iff.1 hi).1
  exact ih i t _ _ hi (List.getElem?_eq_getElem hi2) (hkid i _ _ (List.getElem?_eq_getElem hi2))
def FT (a:Tm):Prop:=F1 a\/(∃(op:Int) (x y:Tm),(op=3\/op=6)/\F1 x/\F1 y/\a=.mk op 0 [x,y])\/a.op=18
theorem Vi {op n:Int} {d c:Tm} (ho:op=3\/op=6) (h:FT (.mk op n [d,c])):F1 d/\F1 c:=by
 rcases h with (h | ⟨op',d',c',_,hd,hc,h⟩ | ⟨p,_,h⟩) | ⟨op',d',c',_,hd,hc,h⟩ | h
 ·rcases h with h | h | h | ⟨p,_,h⟩<;>simp only [Tm.mk.injEq] at h<;>omega
 ·simp only [Tm.mk.injEq,List.cons.injEq,and_true] at h;obtain ⟨_,_,rfl,rfl⟩:=h;exact ⟨.inl hd,.inl hc⟩
 ·simp only [Tm.mk.injEq] at h;omega
 ·simp only [Tm.mk.injEq,List.cons.injEq,and_true] at h;obtain ⟨_,_,rfl,rfl⟩:=h;exact ⟨hd,hc⟩
 ·simp only [Tm.op] at h;omega
theorem QT {a:Tm} (h:F1 a):FT a:=.inl h
theorem Aqv {n:Int} {a:Tm}:FT (.mk 18 n [a]):=.inr (.inr rfl)
theorem AkW:FT natT:=.inl (.inl (.inl rfl))
theorem Amg:FT tyT:=.inl (.inl (.inr (.inl rfl)))
theorem FL {p:Tm} (h:F0 p) (d c:Int):p.shift d c=p:=by
 rcases h with rfl | rfl | rfl | ⟨q,h | ⟨op,ho,h⟩,rfl⟩
 ·simp [Tm.shift,Tm.shiftL]
 ·simp [Tm.shift,Tm.shiftL]
 ·simp [Tm.shift,Tm.shiftL]
 ·subst h;simp [Tm.shift,Tm.shiftL]
 ·subst h;rcases ho with rfl | rfl<;>simp [Tm.shift,Tm.shiftL]
theorem MJ {p:Tm} (h:F0 p) (c d:Int) (u:Tm):p.subst c d u=p:=by
 rcases h with rfl | rfl | rfl | ⟨q,h | ⟨op,ho,h⟩,rfl⟩
 ·simp [Tm.subst,Tm.substL]
 ·simp [Tm.subst,Tm.substL]
 ·simp [Tm.subst,Tm.substL]
 ·subst h;simp [Tm.subst,Tm.substL]
 ·subst h;rcases ho with rfl | rfl<;>simp [Tm.subst,Tm.substL]
theorem Ma {p:Tm} {k:Nat} (h:F1 p) (hs:p.sc k) (hk:k<=1000) {d c:Nat} (hd:d<=1000) (hc:c<=1000):F1 (p.shift d c):=by
 rcases h with h | ⟨op,x,y,ho,hx,hy,rfl⟩ | ⟨p,hp,rfl⟩
 ·rw [FL h];exact .inl h
 ·refine .inr (.inl ⟨op,x,y,ho,hx,hy,?_⟩);rw [Tm.shift,if_neg (by omega)];simp only [Tm.shiftL,FL hx,FL hy]
 ·refine .inr (.inr ⟨p.shift d c,?_,?_⟩)
  ·rcases hp with rfl | ⟨i,rfl⟩
   ·left;simp [Tm.shift,Tm.shiftL]
   ·right;rw [Tm.sc,if_neg (by decide)] at hs;have h2:=hs.2.2.1;rw [Tm.sc,if_pos rfl] at h2;have h3:=h2.2.1;rw [Tm.shift,Tm.shiftL];by_cases hc:(c:Int)<=(i:Int)
    ·refine ⟨i+d,?_⟩;rw [if_pos ⟨rfl,hc⟩,Av (by omega) (by simp only [show Ae 18 0=0 from rfl] at h3;omega)]
     rfl
    ·exact ⟨i,by rw [if_neg (fun h=>hc h.2)]⟩
  ·simp [Tm.shift,Tm.shiftL,Ae]
theorem AuS {c:Tm} (h:F1 c) (u:Tm):FT (c.subst 0 0 u)/\(c.subst 0 0 u).wt<=max 9 (1+u.wt)/\(c.subst 0 0 u).dp<=9+u.dp:=by
 rcases h with h | ⟨op,x,y,ho,hx,hy,rfl⟩ | ⟨p,hp,rfl⟩
 ·rw [MJ h]
  have:=Aht h
  have:=GG c
  exact ⟨.inl (.inl h),by omega,by omega⟩
 ·have e:(Tm.mk op 0 [x,y]).subst 0 0 u=.mk op 0 [x,y]:=by
   rw [Tm.subst,if_neg (by omega)];simp only [Tm.substL,MJ hx,MJ hy]
  have:=JX (t:=.mk op 0 [x,y]) (.inr (.inl ⟨op,x,y,ho,hx,hy,rfl⟩))
  have:=GG (.mk op 0 [x,y])
  rw [e];exact ⟨.inl (.inr (.inl ⟨op,x,y,ho,hx,hy,rfl⟩)),by omega,by omega⟩
 ·have e:(Tm.mk 18 0 [p]).subst 0 0 u=.mk 18 0 [p.subst 0 0 u]:=by
   rw [Tm.subst,if_neg (by decide)];rfl
  rw [e];refine ⟨Aqv,?_,?_⟩
  ·rw [QM];have q:=LB p u 0 0;have q2:p.wt=1:=by rcases hp with rfl | ⟨i,rfl⟩<;>simp [Tm.wt,Tm.wtL]
   rw [q2,Nat.one_mul] at q;omega
  ·rw [dp1]
   have:=OR p u 0 0
   have:p.dp<=1:=by rcases hp with rfl | ⟨i,rfl⟩<;>simp [Tm.dp,Tm.dpL]
   omega
def Hvy (e:Int):Prop:=e=5\/e=17
def AQ {e:Int} (h:Hvy e):e≠0:=by unfold Hvy at h;omega
structure NX (k:Nat) (X Y:Tm):Prop where
 sc:X.sc k
 dp:X.dp<=20000
 nf:∀f u,AF f X=some (u,0)->u=Y/\PN X Y
structure TX (k:Nat) (A:Tm):Prop where
 n:NX k A A
 e:PE A
 w:A.wt<=3001
def QI (g:Bb) (st:Int) (t A:Tm):Prop:=∃r e,JI (A6 g) st t r e/\(Hvy e\/e=0/\r=A/\KI g st t A)
def QC (g:Bb) (st:Int) (t a:Tm):Prop:=∃e,JC (A6 g) st t a e/\(Hvy e\/e=0/\KC g st t a)
def QL (g:Bb) (t:Tm) (m:Int):Prop:=∃m' e,JL (A6 g) t m' e/\(Hvy e\/e=0/\m'=m/\KL g t m)
def Wn {k:Nat} {X Y:Tm} (hk:k<=1000) (h:NX k X Y):∃u e,JN X u e/\(Hvy e\/e=0/\u=Y/\PN X Y/\NOk k Y):=by
 obtain ⟨u,e,h1,h2,f,h3⟩:=jn hk h.sc h.dp;refine ⟨u,e,h1,?_⟩;rcases h2 with ⟨rfl,h4⟩ | ⟨h4,_⟩
 ·obtain ⟨rfl,h5⟩:=h.nf f u h3;exact .inr ⟨rfl,rfl,h5,h4⟩
 ·exact .inl h4
def AvM {k:Nat} {a A:Tm} (hk:k<=1000) (ha:NX k a A) (hA:NX k A A):∃w e,JE A a w e/\(Hvy e\/e=0/\w=true/\PN a A/\PN A A):=by
 obtain ⟨w,e,h3,h4⟩:=je hk hA.sc ha.sc hA.dp ha.dp;refine ⟨w,e,h3,?_⟩;rcases h4 with h4 | ⟨h4,f,x,f',y,hx,hy,_,_,hw⟩
 ·exact .inl h4
 ·obtain ⟨rfl,p1⟩:=hA.nf f x hx;obtain ⟨rfl,p2⟩:=ha.nf f' y hy;exact .inr ⟨h4,by rw [hw];exact (Kt _ _).2 rfl,p2,p1⟩
def q_c {g:Bb} {st:Int} {t A a:Tm} (hk:g.length<=1000) (h:QI g st t A) (ha:NX g.length a A) (hA:TX g.length A):QC g st t a:=by
 obtain ⟨r,e,h3,h4⟩:=h;rcases h4 with h4 | ⟨rfl,rfl,h4⟩
 ·exact ⟨e,AwB (AQ h4) h3,.inl h4⟩
 ·obtain ⟨w,e,h6,h7⟩:=AvM hk ha hA.n;rcases h7 with h7 | ⟨rfl,rfl,p1,p2⟩
  ·exact ⟨e,Avd (AQ h7) h3 h6,.inl h7⟩
  ·exact ⟨0,Axh h3 h6,.inr ⟨rfl,Avq h4 p1 p2 hA.e⟩⟩
def CS {g:Bb} {st:Int} {t A:Tm} (hk:g.length<=1000) (h:QI g st t A) (hA:TX g.length A):QC g st t A:=q_c hk h hA.n hA
def W9 {g:Bb} {t:Tm} {m:Int} (h:QI g 1 t (.mk 2 m [])):QL g t m:=by
 obtain ⟨r,e,h1,h2⟩:=h;rcases h2 with h2 | ⟨rfl,rfl,h2⟩
 ·exact ⟨0,e,Azk (AQ h2) h1,.inl h2⟩
 ·exact ⟨m,0,Ayx rfl h1,.inr ⟨rfl,rfl,AzC h2⟩⟩
def q_2 {g:Bb} {st:Int} {a x y:Tm} (h1:QC g st x a) (h2:QC g st y a):∃e,JCs (A6 g) st [x,y] a e/\(Hvy e\/e=0/\KC g st x a/\KC g st y a):=by
 obtain ⟨e,h1,c1⟩:=h1;obtain ⟨e',h2,c2⟩:=h2;rcases c1 with c1 | ⟨rfl,c1⟩
 ·exact ⟨e,ArY (AQ c1) h1,.inl c1⟩
 ·rcases c2 with c2 | ⟨rfl,c2⟩
  ·exact ⟨e',Asn (AQ c2) h1 h2,.inl c2⟩
  ·exact ⟨0,Avp h1 h2,.inr ⟨rfl,c1,c2⟩⟩
def AqE (g:Bb) {m:Int} (h:0<=m/\m<=1):QI g 1 (.mk 2 m []) (.mk 2 (m+1) []):=⟨_,0,Azm (by omega) (by omega) (by omega),.inr ⟨rfl,rfl,AsZ h⟩⟩
def AhH (g:Bb) (m:Int):QI g 1 (.mk 10 m []) (.mk 2 0 []):=⟨_,0,AtO,.inr ⟨rfl,rfl,Arv⟩⟩
def AoA (g:Bb) (m:Int):QI g 1 (.mk 14 m []) (.mk 2 0 []):=⟨_,0,AvY,.inr ⟨rfl,rfl,AwD⟩⟩
def AjZ (g:Bb) (m:Int):QI g 1 (.mk 11 m []) natT:=⟨_,0,Apz,.inr ⟨rfl,rfl,Apw⟩⟩
def ArR (g:Bb) (m:Int):QI g 0 (.mk 25 m []) Bh:=⟨_,0,G3 (by omega) Arc,.inr ⟨rfl,rfl,Aou⟩⟩
def Xe (g:Bb) (m:Int):QI g 1 (.mk 15 m []) tyT:=⟨_,0,AoX (AqL (by simp) (by simp)),.inr ⟨rfl,rfl,AnV⟩⟩
def Am8 {g:Bb} {a:Tm} (m:Int) (h:QC g 1 a natT):QI g 1 (.mk 12 m [a]) natT:=by
 obtain ⟨e,h1,h2⟩:=h;rcases h2 with h2 | ⟨rfl,h2⟩
 ·exact ⟨_,e,AjQ (AQ h2) h1,.inl h2⟩
 ·exact ⟨_,0,AtZ h1,.inr ⟨rfl,rfl,ArV h2⟩⟩
def TN {g:Bb} {a:Tm} (m:Int) (h:QC g 1 a tyT):QI g 1 (.mk 18 m [a]) (.mk 2 0 []):=by
 obtain ⟨e,h1,h2⟩:=h;rcases h2 with h2 | ⟨rfl,h2⟩
 ·exact ⟨_,e,AiT (AQ h2) h1,.inl h2⟩
 ·exact ⟨_,0,Apb h1,.inr ⟨rfl,rfl,AoG h2⟩⟩
def Yb {g:Bb} {a b:Tm} {op:Int} (m:Int) (ho:op=16\/op=17) (h:QC g 1 a tyT) (h':QC g 1 b tyT):QI g 1 (.mk op m [a,b]) tyT:=by
 obtain ⟨e,h1,h2⟩:=q_2 h h';rcases h2 with h2 | ⟨rfl,h2,h3⟩
 ·refine ⟨.z,e,?_,.inl h2⟩;rcases ho with rfl | rfl
  ·exact Ajl (AQ h2) h1
  ·exact Ai7 (AQ h2) h1
 ·refine ⟨_,0,?_,.inr ⟨rfl,rfl,Aoq ho h2 h3⟩⟩;rcases ho with rfl | rfl
  ·exact ApK h1
  ·exact Aqf h1
def AqP {g:Bb} {a A:Tm} (m:Int) (h:QI g 0 a A):QI g 1 (.mk 19 m [a]) (.mk 18 0 [A]):=by
 obtain ⟨r,e,h1,h2⟩:=h;rcases h2 with h2 | ⟨rfl,rfl,h2⟩
 ·exact ⟨_,e,AlJ (AQ h2) h1,.inl h2⟩
 ·exact ⟨_,0,Arh h1,.inr ⟨rfl,rfl,At2 h2⟩⟩
def Ana {g:Bb} {a b:Tm} {op i j:Int} (m:Int) (ho:op=3\/op=6) (hk:g.length<=1000) (h1:QL g a i) (h2:QL (g++[(1,a)]) b j):QI g 1 (.mk op m [a,b]) (.mk 2 (if i<j then j else i) []):=by
 obtain ⟨i',e,h1,c1⟩:=h1;obtain ⟨j',e',h2,c2⟩:=h2;have hb:=jb g 1 a (by omega);rcases c1 with c1 | ⟨rfl,rfl,c1⟩
 ·refine ⟨.z,e,?_,.inl c1⟩;rcases ho with rfl | rfl
  ·exact Cm (by omega) (Ao1 (AQ c1) h1)
  ·exact Cm (by omega) (AkF (AQ c1) h1)
 ·rcases c2 with c2 | ⟨rfl,rfl,c2⟩
  ·refine ⟨.z,e',?_,.inl c2⟩;rcases ho with rfl | rfl
   ·exact Cm (by omega) (Aoj (AQ c2) h1 hb h2)
   ·exact Cm (by omega) (Ak9 (AQ c2) h1 hb h2)
  ·refine ⟨_,0,?_,.inr ⟨rfl,rfl,Aw1 ho c1 c2⟩⟩;rcases ho with rfl | rfl
   ·exact Cm (by omega) (Awj h1 hb h2)
   ·exact Cm (by omega) (Aut h1 hb h2)
def AqK {g:Bb} {a b B C:Tm} {i:Int} (m:Int) (hk:g.length<=1000) (h1:QL g a i) (h2:QI (g++[(1,a)]) 1 b B) (h3:NX g.length (.mk 3 0 [a,B]) C):QI g 1 (.mk 4 m [a,b]) C:=by
 obtain ⟨i',e,h1,c1⟩:=h1;obtain ⟨c,e',h2,c2⟩:=h2;have hb:=jb g 1 a (by omega);rcases c1 with c1 | ⟨rfl,rfl,c1⟩
 ·exact ⟨_,e,Cm (by omega) (Ak0 (AQ c1) h1),.inl c1⟩
 ·rcases c2 with c2 | ⟨rfl,rfl,c2⟩
  ·exact ⟨_,e',Cm (by omega) (Ami (AQ c2) h1 hb h2),.inl c2⟩
  ·obtain ⟨u,e,h3,h4⟩:=Wn hk h3;refine ⟨u,e,Cm (by omega) (AuA h1 hb h2 h3),?_⟩;rcases h4 with h4 | ⟨rfl,rfl,h4,_⟩
   ·exact .inl h4
   ·exact .inr ⟨rfl,rfl,Ary c1 c2 h4⟩
def AwE {g:Bb} {f x A B Y:Tm} {q:Int} (m:Int) (hk:g.length<=1000) (xsc:x.sc g.length) (xwt:x.wt<=1000000000000000) (Bsc:B.sc (g.length+1)) (Bwt:B.wt<=1000000000000000) (h1:QI g 1 f (.mk 3 q [A,B])) (h2:QC g 1 x A) (h3:NX g.length (B.subst 0 0 x) Y):QI g 1 (.mk 5 m [f,x]) Y:=by
 obtain ⟨r,e,h1,c1⟩:=h1;rcases c1 with c1 | ⟨rfl,rfl,c1⟩
 ·exact ⟨_,e,Cm (by omega) (AlM (AQ c1) (Amv (AQ c1) h1)),.inl c1⟩
 ·have hs:=Aj7 (op:=3) rfl h1;obtain ⟨e,h4,c4⟩:=h2;rcases c4 with c4 | ⟨rfl,c4⟩
  ·exact ⟨_,e,Cm (by omega) (Akq (AQ c4) hs h4),.inl c4⟩
  ·have h5:=jsu Bsc Bwt xsc xwt;obtain ⟨u,e,h6,c6⟩:=Wn hk h3;refine ⟨u,e,Cm (by omega) (Aq7 hs h4 h5 h6),?_⟩;rcases c6 with c6 | ⟨rfl,rfl,c6,_⟩
   ·exact .inl c6
   ·exact .inr ⟨rfl,rfl,AtK c1 c4 h5 c6⟩
def AvO {g:Bb} {x A B:Tm} {q:Int} (m:Int) (h1:QI g 1 x (.mk 6 q [A,B])):QI g 1 (.mk 8 m [x]) A:=by
 obtain ⟨r,e,h1,c1⟩:=h1;rcases c1 with c1 | ⟨rfl,rfl,c1⟩
 ·exact ⟨_,e,Cm (by omega) (Akc (AQ c1) (Amv (AQ c1) h1)),.inl c1⟩
 ·exact ⟨_,0,Cm (by omega) (Arp (Aj7 (op:=6) rfl h1)),.inr ⟨rfl,rfl,AtN c1⟩⟩
def Aj0 {g:Bb} {A B x y Y:Tm} {q i:Int} (m:Int) (hk:g.length<=1000) (hS:NX g.length (.mk 6 q [A,B]) (.mk 6 q [A,B])) (Bsc:B.sc (g.length+1)) (Bwt:B.wt<=1000000000000000) (xsc:x.sc g.length) (xwt:x.wt<=1000000000000000)
  (h0:QL g (.mk 6 q [A,B]) i) (h1:QC g 1 x A) (h2:QI g 1 y Y) (hY:TX g.length Y) (h3:NX g.length (B.subst 0 0 x) Y):QI g 1 (.mk 7 m [.mk 6 q [A,B],x,y]) (.mk 6 q [A,B]):=by
 have M:∀{r e},JPr (A6 g) (.mk 7 m [.mk 6 q [A,B],x,y]) r e->JI (A6 g) 1 (.mk 7 m [.mk 6 q [A,B],x,y]) r e:=fun h=>Cm (by omega) (ApG h);obtain ⟨i',e,h0,c0⟩:=h0;rcases c0 with c0 | ⟨rfl,rfl,c0⟩
 ·exact ⟨_,e,M (AyI (AQ c0) h0),.inl c0⟩
 ·obtain ⟨s,e,hs,c3⟩:=Wn hk hS;rcases c3 with c3 | ⟨rfl,rfl,c3,_⟩
  ·exact ⟨_,e,M (Azl (AQ c3) h0 hs),.inl c3⟩
  ·obtain ⟨e,h5,c5⟩:=h1;rcases c5 with c5 | ⟨rfl,c5⟩
   ·exact ⟨_,e,M (Ay9 (AQ c5) h0 hs h5),.inl c5⟩
   ·have h6:=jsu Bsc Bwt xsc xwt;obtain ⟨r,e,h8,c8⟩:=h2;rcases c8 with c8 | ⟨rfl,rfl,c8⟩
    ·exact ⟨_,e,M (Awh (AQ c8) h0 hs h5 h6 (AwB (AQ c8) h8)),.inl c8⟩
    obtain ⟨w,e,h9,c9⟩:=AvM hk h3 hY.n;rcases c9 with c9 | ⟨rfl,rfl,p1,p2⟩
    ·exact ⟨_,e,M (Awh (AQ c9) h0 hs h5 h6 (Avd (AQ c9) h8 h9)),.inl c9⟩
    ·exact ⟨_,0,M (kq h0 hs h5 h6 (Axh h8 h9)),.inr ⟨rfl,rfl,Aoz c0 c3 c5 p1 (Avq c8 p2 p2 hY.e)⟩⟩
def AmG {g:Bb} {X z s k:Tm} (m:Int) (hX:X=natT\/X=tyT) (hk:g.length<=900) (hN:NX g.length X X) (ksc:k.sc g.length) (kwt:k.wt<=1000000000000000) (h1:QC g 1 z X) (h2:QC (g++[(1,natT)]++[(1,X)]) 1 s X) (h3:QC g 1 k natT):QI g 1 (.mk 13 m [X,z,s,k]) X:=by
 have M:∀{r e},JR (A6 g) (.mk 13 m [X,z,s,k]) r e->JI (A6 g) 1 (.mk 13 m [X,z,s,k]) r e:=fun h=>Cm (by omega) (AsJ h);have xsc:∀k,X.sc k:=by
  intro k;rcases hX with rfl | rfl<;>exact Fe
 have xsu:∀u:Tm,X.subst 0 0 u=X:=by intro u;rcases hX with rfl | rfl<;>rfl
 have xsh:∀c:Int,X.shift 2 c=X:=by intro c;rcases hX with rfl | rfl<;>rfl
 have xw:X.wt<=10:=by rcases hX with rfl | rfl<;>simp [natT,tyT,Tm.wt,Tm.wtL]
 have zsc:zeT.sc 0:=Fe;have v1sc:(Tm.mk 12 0 [.mk 1 1 []]).sc 2:=FK (by rw [Tm.sc,if_pos rfl];exact ⟨rfl,by decide,trivial⟩);have b1:=jb g 1 natT (by omega);have b2:=jb (g++[(1,natT)]) 1 X (by simp;omega);have su0:JSu X zeT X:=by have:=jsu (u:=zeT) (xsc 0) (by omega) zsc (by decide);rwa [xsu] at this
 have nx:JNx X X:=by
  have a1:=jsh 2 1 (xsc 0) (by omega) (by omega) (by omega);rw [xsh] at a1;have a2:=jsu (xsc 0) (by omega) v1sc (by decide);rw [xsu] at a2;exact kx a1 a2
 have suk:JSu X k X:=by have:=jsu (xsc 0) (by omega) ksc kwt;rwa [xsu] at this
 obtain ⟨i,e,l1,c1⟩:QL (g++[(1,natT)]) X 0:=by
  rcases hX with rfl | rfl
  ·exact W9 (AhH _ _)
  ·exact W9 (AoA _ _)
 rcases c1 with c1 | ⟨rfl,rfl,c1⟩
 ·exact ⟨_,e,M (AzJ (AQ c1) b1 l1),.inl c1⟩
 obtain ⟨e,d1,c2⟩:=h1;rcases c2 with c2 | ⟨rfl,c2⟩
 ·exact ⟨_,e,M (Azd (AQ c2) b1 l1 su0 d1),.inl c2⟩
 obtain ⟨e,d2,c3⟩:=h2;rcases c3 with c3 | ⟨rfl,c3⟩
 ·exact ⟨_,e,M (Ayu (AQ c3) b1 l1 su0 d1 b2 nx d2),.inl c3⟩
 obtain ⟨e,d3,c4⟩:=h3;rcases c4 with c4 | ⟨rfl,c4⟩
 ·exact ⟨_,e,M (AyM (AQ c4) b1 l1 su0 d1 b2 nx d2 d3),.inl c4⟩
 obtain ⟨u,e,h6,c6⟩:=Wn (k:=g.length) (by omega) hN;refine ⟨u,e,M (kr b1 l1 su0 d1 b2 nx d2 d3 suk h6),?_⟩;rcases c6 with c6 | ⟨rfl,rfl,c6,_⟩
 ·exact .inl c6
 ·exact .inr ⟨rfl,rfl,Asu hX c1 c6 c2 c3 c4⟩
def Aqo {g:Bb} {st:Int} {i:Nat} {T A:Tm} (hi:i<g.length) (hk:g.length<=1000) (hg:g[g.length - 1 - i]?=some (st,T)) (Tsc:T.sc (g.length - 1 - i)) (Twt:T.wt<=1000000000000000) (h:NX g.length (T.shift ((i+1:Nat):Int) 0) A):QI g st (.mk 1 i []) A:=by
 have hs:=jsh ((i:Int)+1) 0 Tsc Twt (by omega) (by omega);rw [show (i:Int)+1=((i+1:Nat):Int) by omega] at hs
 obtain ⟨u,e,h6,c6⟩:=Wn hk h;refine ⟨u,e,AtQ hi (by omega) hg (by rw [show (i:Int)+1=((i+1:Nat):Int) by omega];exact hs) h6,?_⟩
 rcases c6 with c6 | ⟨rfl,rfl,c7,_⟩
 ·exact .inl c6
 ·exact .inr ⟨rfl,rfl,Aq9 hi hk hg (by rw [show (i:Int)+1=((i+1:Nat):Int) by omega];exact hs) c7⟩
def Avm {g:Bb} {a b B:Tm} (hk:g.length<=1000) (Bsc:B.sc g.length) (Bwt:B.wt<=10000) (h:QI (g++[(0,a)]) 0 b (B.shift 1 0)):∃r e,JU (A6 g) a b r e/\(Hvy e\/e=0/\r=B/\KU g a b B):=by
 obtain ⟨c,e,h1,c1⟩:=h;have hb:=jb g 0 a (by omega);rcases c1 with c1 | ⟨rfl,rfl,c1⟩
 ·exact ⟨_,e,Ayq (AQ c1) hb h1,.inl c1⟩
 ·have f1:=Aga B 0 _ Bsc (by omega) (by omega);have f2:=SZ B zeT 0 0 _ Bsc (by omega) (by omega);have hf:=jf (B.shift 1 0) (by rw [Bk];omega);rw [f1] at hf;have zsc:zeT.sc 0:=Fe;have hs:=jsu (u:=zeT) (C3 B 1 0 _ Bsc (by omega)) (by rw [Bk];omega) zsc (by decide);rw [show ((1:Nat):Int)=1 from rfl,show ((0:Nat):Int)=0 from rfl,show (B.shift 1 0).subst 0 0 zeT=B from f2] at hs
  exact ⟨B,0,Azs hb h1 (AzR hf hs),.inr ⟨rfl,rfl,Avv Bsc (by omega) c1⟩⟩
def AlA {g:Bb} {a b B C:Tm} (m:Int) (hk:g.length<=1000) (Bsc:B.sc g.length) (Bwt:B.wt<=10000) (h1:QC g 1 a tyT) (h2:QI (g++[(0,a)]) 0 b (B.shift 1 0)) (h3:NX g.length (.mk 16 0 [a,B]) C):QI g 0 (.mk 20 m [a,b]) C:=by
 have M:∀{r e},JO (A6 g) (.mk 20 m [a,b]) r e->JI (A6 g) 0 (.mk 20 m [a,b]) r e:=fun h=>G3 (by omega) h;obtain ⟨e,d1,c1⟩:=h1;rcases c1 with c1 | ⟨rfl,c1⟩
 ·exact ⟨_,e,M (AmO (AQ c1) d1),.inl c1⟩
 obtain ⟨r,e,d2,c2⟩:=Avm hk Bsc Bwt h2;rcases c2 with c2 | ⟨rfl,rfl,c2⟩
 ·exact ⟨_,e,M (Alz (AQ c2) d1 d2),.inl c2⟩
 obtain ⟨u,e,h6,c6⟩:=Wn hk h3;refine ⟨u,e,M (Aub d1 d2 h6),?_⟩;rcases c6 with c6 | ⟨rfl,rfl,c6,_⟩
 ·exact .inl c6
 ·exact .inr ⟨rfl,rfl,AoL c1 c2 c6⟩
def Ati {g:Bb} {a b A:Tm} (m:Int) (hk:g.length<=900) (asc:a.sc g.length) (awt:a.wt<=1000000000000000) (h1:QC g 1 a tyT) (h2:QC (g++[(0,a)]) 0 b (a.shift 1 0)) (h3:NX g.length a A):QI g 0 (.mk 29 m [a,b]) A:=by
 have M:∀{r e},JO (A6 g) (.mk 29 m [a,b]) r e->JI (A6 g) 0 (.mk 29 m [a,b]) r e:=fun h=>G3 (by omega) h;have hb:=jb g 0 a (by omega);obtain ⟨e,d1,c1⟩:=h1;rcases c1 with c1 | ⟨rfl,c1⟩
 ·exact ⟨_,e,M (Alo (AQ c1) d1),.inl c1⟩
 have hs:=jsh 1 0 asc awt (by omega) (by omega);obtain ⟨e,d2,c2⟩:=h2;rcases c2 with c2 | ⟨rfl,c2⟩
 ·exact ⟨_,e,M (AkH (AQ c2) d1 hb hs d2),.inl c2⟩
 obtain ⟨u,e,h6,c6⟩:=Wn (k:=g.length) (by omega) h3;refine ⟨u,e,M (Asc d1 hb hs d2 h6),?_⟩;rcases c6 with c6 | ⟨rfl,rfl,c6,_⟩
 ·exact .inl c6
 ·exact .inr ⟨rfl,rfl,Ape c1 c2 c6⟩
def Alr {g:Bb} {x y A B:Tm} (m:Int) (hk:g.length<=1000) (Bsc:B.sc g.length) (Bwt:B.wt<=10000) (h1:QI g 0 x A) (h2:QI (g++[(0,A)]) 0 y (B.shift 1 0)):QI g 0 (.mk 28 m [x,y]) B:=by
 have M:∀{r e},JO (A6 g) (.mk 28 m [x,y]) r e->JI (A6 g) 0 (.mk 28 m [x,y]) r e:=fun h=>G3 (by omega) h;obtain ⟨r,e,h1,c1⟩:=h1;rcases c1 with c1 | ⟨rfl,rfl,c1⟩
 ·exact ⟨_,e,M (AlX (AQ c1) h1),.inl c1⟩
 obtain ⟨r,e,d2,c2⟩:=Avm hk Bsc Bwt h2;refine ⟨r,e,M (Ars h1 d2),?_⟩;rcases c2 with c2 | ⟨rfl,rfl,nB⟩
 ·exact .inl c2
 ·exact .inr ⟨rfl,rfl,Ao4 c1 nB⟩
def AqB {g:Bb} {x A:Tm} {q:Int} (m:Int) (h1:QI g 1 x (.mk 18 q [A])):QI g 0 (.mk 30 m [x]) A:=by
 have M:∀{r e},JO (A6 g) (.mk 30 m [x]) r e->JI (A6 g) 0 (.mk 30 m [x]) r e:=fun h=>G3 (by omega) h;obtain ⟨r,e,h1,c1⟩:=h1;rcases c1 with c1 | ⟨rfl,rfl,c1⟩
 ·exact ⟨_,e,M (Am9 (AQ c1) (Amv (AQ c1) h1)),.inl c1⟩
 exact ⟨_,0,M (Ark (Aj7 (op:=18) rfl h1)),.inr ⟨rfl,rfl,AsH c1⟩⟩
def AeR {g:Bb} {a b:Tm} (m:Int) (h1:QC g 0 a Bh) (h2:QC g 0 b Bh):QI g 0 (.mk 26 m [a,b]) Bh:=by
 have M:∀{r e},JO (A6 g) (.mk 26 m [a,b]) r e->JI (A6 g) 0 (.mk 26 m [a,b]) r e:=fun h=>G3 (by omega) h;obtain ⟨e,d1,c1⟩:=q_2 h1 h2;rcases c1 with c1 | ⟨rfl,c1,c2⟩
 ·exact ⟨_,e,M (AiO (AQ c1) d1),.inl c1⟩
 ·exact ⟨_,0,M (ApZ d1),.inr ⟨rfl,rfl,Amh c1 c2⟩⟩
def Att {g:Bb} {f x A B:Tm} {q:Int} (m:Int) (h1:QI g 0 f (.mk 16 q [A,B])) (h2:QC g 0 x A):QI g 0 (.mk 21 m [f,x]) B:=by
 have M:∀{r e},JP (A6 g) (.mk 21 m [f,x]) r e->JI (A6 g) 0 (.mk 21 m [f,x]) r e:=fun h=>G3 (by omega) (LO (by omega) h);obtain ⟨r,e,h1,c1⟩:=h1;rcases c1 with c1 | ⟨rfl,rfl,c1⟩
 ·exact ⟨_,e,M (Anv (AQ c1) (Amv (AQ c1) h1)),.inl c1⟩
 have hs:=Aj7 (op:=16) rfl h1;obtain ⟨e,d1,c3⟩:=h2;rcases c3 with c3 | ⟨rfl,c3⟩
 ·exact ⟨_,e,M (Ak7 (AQ c3) hs d1),.inl c3⟩
 ·exact ⟨_,0,M (Aux hs d1),.inr ⟨rfl,rfl,AoQ c1 c3⟩⟩
def Aiq {g:Bb} {x y A B C:Tm} (m:Int) (hk:g.length<=1000) (h1:QI g 0 x A) (h2:QI g 0 y B) (h3:NX g.length (.mk 17 0 [A,B]) C):QI g 0 (.mk 22 m [x,y]) C:=by
 have M:∀{r e},JP (A6 g) (.mk 22 m [x,y]) r e->JI (A6 g) 0 (.mk 22 m [x,y]) r e:=fun h=>G3 (by omega) (LO (by omega) h);obtain ⟨r,e,h1,c1⟩:=h1;rcases c1 with c1 | ⟨rfl,rfl,c1⟩
 ·exact ⟨_,e,M (Ajf (AQ c1) h1),.inl c1⟩
 obtain ⟨r',e,h2,c3⟩:=h2;rcases c3 with c3 | ⟨rfl,rfl,c3⟩
 ·exact ⟨_,e,M (Aiv (AQ c3) h1 h2),.inl c3⟩
 obtain ⟨u,e,h6,c6⟩:=Wn hk h3;refine ⟨u,e,M (Ao6 h1 h2 h6),?_⟩;rcases c6 with c6 | ⟨rfl,rfl,c6,_⟩
 ·exact .inl c6
 ·exact .inr ⟨rfl,rfl,Anf c1 c3 c6⟩
def Aq3 {g:Bb} {x A B:Tm} {q:Int} (m:Int) (h1:QI g 0 x (.mk 17 q [A,B])):QI g 0 (.mk 23 m [x]) A:=by
 have M:∀{r e},JP (A6 g) (.mk 23 m [x]) r e->JI (A6 g) 0 (.mk 23 m [x]) r e:=fun h=>G3 (by omega) (LO (by omega) h);obtain ⟨r,e,h1,c1⟩:=h1;rcases c1 with c1 | ⟨rfl,rfl,c1⟩
 ·exact ⟨_,e,M (Aka (AQ c1) (Amv (AQ c1) h1)),.inl c1⟩
 exact ⟨_,0,M (Arw (Aj7 (op:=17) rfl h1)),.inr ⟨rfl,rfl,AoU c1⟩⟩
def Axe {g:Bb} {c x y A:Tm} (m:Int) (h0:QC g 0 c Bh) (h1:QI g 0 x A) (h2:QC g 0 y A):QI g 0 (.mk 27 m [c,x,y]) A:=by
 have M:∀{r e},JP (A6 g) (.mk 27 m [c,x,y]) r e->JI (A6 g) 0 (.mk 27 m [c,x,y]) r e:=fun h=>G3 (by omega) (LO (by omega) h);obtain ⟨e,d1,c1⟩:=h0;rcases c1 with c1 | ⟨rfl,c1⟩
 ·exact ⟨_,e,M (Aok (AQ c1) d1),.inl c1⟩
 obtain ⟨r,e,h1,c2⟩:=h1;rcases c2 with c2 | ⟨rfl,rfl,c2⟩
 ·exact ⟨_,e,M (ApF (AQ c2) d1 h1),.inl c2⟩
 obtain ⟨e,d2,c3⟩:=h2;rcases c3 with c3 | ⟨rfl,c3⟩
 ·exact ⟨_,e,M (AnS (AQ c3) d1 h1 d2),.inl c3⟩
 ·exact ⟨_,0,M (Avc d1 h1 d2),.inr ⟨rfl,rfl,AuQ c1 c2 c3⟩⟩
def AmM {G:List Nat} {t u:Tm} {s k f:Nat} (_:HasT G t s) (_:t.sc k) (_:k<=100000) (_:t.wt<=3000) (_:AF f t=some (u,0)):PN t u:=trivial
def Avs {G:List Nat} {t:Tm} {s k:Nat} (_:NfT G t s) (_:Es s) (_:t.sc k) (_:k<=1000) (_:t.wt<=3001):PE t:=trivial
def AqF {G:List Nat} {X Y:Tm} {s k f:Nat} (h:HasT G X s) (hs:X.sc k) (hk:k<=1000) (hw:X.wt<=3000) (hn:AF f X=some (Y,0)):NX k X Y:=by
 refine ⟨hs,by have:=GG X;omega,fun f' u hu=>?_⟩
 have:=CJ hu hn
 simp only [AB6,and_true] at this;exact ⟨this,AmM h hs (by omega) hw hn⟩
def PP {G:List Nat} {X:Tm} {s k:Nat} (h:HasT G X s) (hst:X.stl) (hs:X.sc k) (hk:k<=1000) (hw:X.wt<=10000):NX k X X:=by
 have hd:X.dp<=20000:=by have:=GG X;omega
 refine ⟨hs,hd,fun f u hu=>?_⟩;have e:=AI hst hs (by omega) hu;subst e;obtain ⟨f',v,e,q1,q2⟩:=Kp (k:=k) (by omega) hs (by have:=Abv u;omega);have q3:=CJ hu q1;simp only [AB6] at q3;obtain ⟨rfl,rfl⟩:=q3;have hw2:u.wt<=3000:=by rcases q2 with q2 | q2<;>omega
 exact ⟨rfl,AmM h hs (by omega) hw2 hu⟩
def DC {G:List Nat} {A:Tm} {s k:Nat} (h:NfT G A s) (he:Es s) (hs:A.sc k) (hk:k<=1000) (hw:A.wt<=3001):TX k A:=⟨PP (AN h) (BC h) hs hk (by omega),Avs h he hs hk hw,hw⟩
def AsF (G:List Nat):NfT G natT 10:=Fk (ht0 .natT) (DO _ _)
def Axi (G:List Nat):NfT G tyT 11:=Fk (ht0 .tyT) (DO _ _)
def AtR (G:List Nat):NfT G Bh 1:=Fk (ht0 .tint) (DO _ _)
def Ga (k:Nat):natT.sc k:=Fe
def J0 (k:Nat):tyT.sc k:=Fe
def CV (k:Nat):Bh.sc k:=Fe
def HG {k:Nat} (hk:k<=1000):TX k natT:=DC (AsF []) (.inr (.inr (.inr (by omega)))) (Ga k) hk (by simp [natT,Tm.wt,Tm.wtL])
def Ha {k:Nat} (hk:k<=1000):TX k tyT:=DC (Axi []) (.inr (.inr (.inr (by omega)))) (J0 k) hk (by simp [tyT,Tm.wt,Tm.wtL])
def Pn {k:Nat} (hk:k<=1000):TX k Bh:=DC (AtR []) (.inr (.inl rfl)) (CV k) hk (by simp [Bh,Tm.wt,Tm.wtL])
def O7 {x:Tm} {k:Nat} (ho:Mb x.op=some 0) (hs:x.sc k):x=natT:=by
 have ho:x.op=10:=by
  unfold Mb at ho
  repeat' (split at ho)
  all_goals first | assumption | (simp at ho;done) | omega
 obtain ⟨op,n,ks⟩:=x;simp only [Tm.op] at ho;subst ho;rw [Tm.sc,if_neg (by decide)] at hs;have hk:ks=[]:=List.eq_nil_of_length_eq_zero (Option.some.inj (hs.1.symm.trans (show ar 10=some 0 from rfl)))
 have hn:n=0:=by have:=hs.2.1;rw [BJ,if_neg (by decide),if_neg (by decide),if_neg (by decide)] at this;exact this
 subst hk;subst hn;rfl
def WF {x:Tm} {k:Nat} (ho:Mb x.op=some 1) (hs:x.sc k):x=tyT:=by
 have ho:x.op=14:=by
  unfold Mb at ho
  repeat' (split at ho)
  all_goals first | assumption | (simp at ho;done) | omega
 obtain ⟨op,n,ks⟩:=x;simp only [Tm.op] at ho;subst ho;rw [Tm.sc,if_neg (by decide)] at hs;have hk:ks=[]:=List.eq_nil_of_length_eq_zero (Option.some.inj (hs.1.symm.trans (show ar 14=some 0 from rfl)))
 have hn:n=0:=by have:=hs.2.1;rw [BJ,if_neg (by decide),if_neg (by decide),if_neg (by decide)] at this;exact this
 subst hk;subst hn;rfl
def Akj {G:List Nat} {x:Tm} {k:Nat} (h:HasT G x 10) (hs:x.sc k):x=natT:=O7 (BF (s:=0) h).1 hs
def Aqn {G:List Nat} {x:Tm} {k:Nat} (h:HasT G x 11) (hs:x.sc k):x=tyT:=WF (BF (s:=1) h).1 hs
structure CtxX (g:Bb) (G:List Nat):Prop where
 ok:∀i st T,i<g.length->g[g.length - 1 - i]?=some (st,T)->T.sc (g.length - 1 - i)/\T.wt<=3000/\(∃D σ,Es σ/\HasT D T σ/\D.length<=1000)/\∀s,G[i]?=some s->(s=0->st=1/\∃f,AF f T=some (natT,0))/\(s=1->st=1/\∃f,AF f T=some (tyT,0))
def W6:CtxX [] []:=⟨fun i st T h=>by simp at h⟩
theorem Jf {g:Bb} {G:List Nat} (h:CtxX g G) {st:Int} {T:Tm} {s:Nat} (h1:T.sc g.length) (h2:T.wt<=3000) (h4:∃D σ,Es σ/\HasT D T σ/\D.length<=1000) (h5:(s=0->st=1/\∃f,AF f T=some (natT,0))/\(s=1->st=1/\∃f,AF f T=some (tyT,0))):CtxX (g++[(st,T)]) (s::G):=by
 have hl:(g++[(st,T)]).length=g.length+1:=by simp
 refine ⟨fun i st' U hi hg=>?_⟩;rw [hl] at hi hg ⊢;cases i with
 | zero =>
  rw [List.getElem?_append_right (by omega),show g.length+1 - 1 - 0 - g.length=0 by omega] at hg
  simp only [List.getElem?_cons_zero,AB5,AB6] at hg;obtain ⟨rfl,rfl⟩:=hg;refine ⟨by rw [show g.length+1 - 1 - 0=g.length by omega];exact h1,h2,h4,fun s' hs'=>?_⟩
  simp only [List.getElem?_cons_zero,AB5] at hs';subst hs';exact h5
 | succ i =>
  rw [List.getElem?_append_left (by omega),show g.length+1 - 1 - (i+1)=g.length - 1 - i by omega] at hg
  obtain ⟨q1,q2,q3,q4⟩:=h.ok i st' U (by omega) hg;refine ⟨by rw [show g.length+1 - 1 - (i+1)=g.length - 1 - i by omega];exact q1,q2,q3,fun s' hs'=>?_⟩
  rw [List.getElem?_cons_succ] at hs';exact q4 s' hs'
def DB {g:Bb} {G:List Nat} (h:CtxX g G) (hl:G.length<=1000) {T:Tm} {s:Nat} (hT:HasT G T (10+s)) (h1:T.sc g.length) (h2:T.wt<=3000):CtxX (g++[(1,T)]) (s::G):=by
 refine Jf h h1 h2 ⟨G,10+s,.inr (.inr (.inr (by omega))),hT,hl⟩ ⟨fun h0=>?_,fun h0=>?_⟩
 ·subst h0;rw [Akj hT h1];exact ⟨rfl,GA (DO _ _) (Ga 0) (by omega) (by simp [natT,Tm.wt,Tm.wtL]) (by simp [natT,Tm.dp,Tm.dpL])⟩
 ·subst h0;rw [Aqn hT h1];exact ⟨rfl,GA (DO _ _) (J0 0) (by omega) (by simp [tyT,Tm.wt,Tm.wtL]) (by simp [tyT,Tm.dp,Tm.dpL])⟩
def LD {g:Bb} {G:List Nat} (h:CtxX g G) (hl:G.length<=1000) {T:Tm} (hT:HasT G T 1) (h1:T.sc g.length) (h2:T.wt<=3000):CtxX (g++[(0,T)]) (6::G) :=
 Jf h h1 h2 ⟨G,1,.inr (.inl rfl),hT,hl⟩ ⟨fun h0=>by omega,fun h0=>by omega⟩
def Agk {T w:Tm} {k f:Nat} (hk:k<=1000) (h1:T.sc k) (h2:T.dp<=20000) (h:AF f T=some (w,0)):NOk k w:=by
 obtain ⟨f',u,e,hf',c⟩:=Kp (k:=k) (by omega) h1 (by have:=Abv T;omega)
 have:=CJ h hf'
 simp only [AB6] at this;obtain ⟨rfl,rfl⟩:=this;rcases c with c | c
 ·exact ⟨c.2.1,c.2.2.1,c.2.2.2⟩
 ·omega
def ApT {g:Bb} {G:List Nat} (h:CtxT g G) (hK:CtxX g G) (hl:G.length<=1000) (hgl:g.length<=1000) {T:Tm} (hT:HasT G T 2) (hv:T.vb) (h1:T.sc g.length) (h2:T.wt<=3000):∃s,s<10/\CtxT (g++[(1,T)]) (s::G)/\CtxX (g++[(1,T)]) (s::G):=by
 have hne:∀f w,AF f T=some (w,0)->w.op≠4/\w.op≠7:=by
  intro f w hw
  have:=BU hw hT
  cases this with
  | var=>simp only [Tm.op];omega
  | node _ op n ks _ sg hr =>
   simp only [Tm.op];cases hr<;>decide
 have hD:∃D σ,Es σ/\HasT D T σ/\D.length<=1000:=⟨G,2,.inr (.inr (.inl rfl)),hT,hl⟩;by_cases hex:∃f w s,AF f T=some (w,0)/\Mb w.op=some s
 ·obtain ⟨f,w,s,hw,hs⟩:=hex;have hlt:=Ak4 hs;have wsc:=(Agk hgl h1 (by have:=GG T;omega) hw).sc;refine ⟨s,by omega,FH h 1 T s (by omega) (by omega) (fun _=>⟨hv,fun f' w' hw'=>⟨(hne f' w' hw').1,(hne f' w' hw').2,fun τ hτ=>?_⟩⟩),Jf hK h1 h2 hD ⟨fun h0=>⟨rfl,f,?_⟩,fun h0=>⟨rfl,f,?_⟩⟩⟩
  ·have:=CJ hw hw'
   simp only [AB6,and_true] at this;subst this;rw [hs] at hτ;exact Option.some.inj hτ
  ·subst h0;rw [<- O7 hs wsc];exact hw
  ·subst h0;rw [<- WF hs wsc];exact hw
 ·exact ⟨7,by omega,FH h 1 T 7 (by omega) (by omega) (fun _=>⟨hv,fun f' w' hw'=>⟨(hne f' w' hw').1,(hne f' w' hw').2,fun τ hτ=>absurd ⟨f',w',τ,hw',hτ⟩ hex⟩⟩),Jf hK h1 h2 hD ⟨fun h0=>by omega,fun h0=>by omega⟩⟩
def q_v {g:Bb} {G:List Nat} (hX:CtxX g G) (hk:g.length<=1000) {st:Int} {i:Nat} {T A:Tm} {f:Nat} (hi:i<g.length) (hg:g[g.length - 1 - i]?=some (st,T)) (hn:AF f (T.shift ((i+1:Nat):Int) 0)=some (A,0)):QI g st (.mk 1 i []) A:=by
 obtain ⟨q1,q2,⟨D,σ,_,hD,hl⟩,_⟩:=hX.ok i st T hi hg;have hs:=Gt hD (List.replicate (i+1) 0) (by rw [List.length_replicate];omega);rw [List.length_replicate] at hs;have hsc:=C3 T (i+1) 0 _ q1 (by omega);rw [show g.length - 1 - i+(i+1)=g.length by omega,show ((0:Nat):Int)=0 from rfl] at hsc
 exact Aqo hi hk hg q1 (by omega) (AqF hs hsc hk (by rw [Bk];exact q2) hn)
def AwJ {g:Bb} {G:List Nat} (hX:CtxX g G) (hk:g.length<=1000) {i:Nat} {T A:Tm} {f:Nat} (hi:i<g.length) (hg:g[g.length - 1 - i]?=some (1,T)) (hn:AF f T=some (A,0)) (hA:∀d:Int,A.shift d 0=A):QI g 1 (.mk 1 i []) A:=by
 obtain ⟨q1,q2,⟨D,σ,_,hD,hl⟩,_⟩:=hX.ok i 1 T hi hg;have hsc:=C3 T (i+1) 0 _ q1 (by omega);rw [show g.length - 1 - i+(i+1)=g.length by omega,show ((0:Nat):Int)=0 from rfl] at hsc
 have hs:=Gt hD (List.replicate (i+1) 0) (by rw [List.length_replicate];omega);rw [List.length_replicate] at hs;refine Aqo hi hk hg q1 (by omega) ⟨hsc,by rw [DZ];have:=GG T;omega,fun f' u hu=>?_⟩;obtain ⟨u0,h1,h2⟩:=Rs (by omega) hu (Le T _ q1 (by omega))
 have:=CJ h1 hn
 simp only [AB6,and_true] at this;subst this;rw [hA] at h2;subst h2;exact ⟨rfl,AmM hs hsc (by omega) (by rw [Bk];exact q2) hu⟩
def Dd (g:Bb) (x:Int×Tm):(g++[x]).length=g.length+1:=by simp
def YE {a b:Int} (h1:0<=a/\a<=1) (h2:0<=b/\b<=1):0<=(if a<b then b else a)/\(if a<b then b else a)<=1:=by split<;>omega
def AmT {u:Tm} {k:Nat} {n:Int} (h:FT (.mk 2 n [])):n=0:=by
 rcases h with (h | ⟨op',d',c',_,hd,hc,h⟩ | ⟨p,_,h⟩) | ⟨op',d',c',_,hd,hc,h⟩ | h
 ·rcases h with h | h | h | ⟨p,_,h⟩<;>simp only [Tm.mk.injEq] at h<;>omega
 ·simp only [Tm.mk.injEq] at h;omega
 ·simp only [Tm.mk.injEq] at h;omega
 ·simp only [Tm.mk.injEq] at h;omega
 ·simp only [Tm.op] at h;omega
theorem AxF {G:List Nat} {u:Tm} {s:Nat} (h:NfT G u s):∀g,CtxX g G->G.length=g.length->u.sc g.length->g.length+2 * u.dp<=800->u.wt<=3000->(s=0->QI g 1 u natT)/\(s=1->QI g 1 u tyT)/\(10<=s->FT u->∃m,(0<=m/\m<=1)/\QI g 1 u (.mk 2 m [])):=by
 induction h with
 | var G n s h0 h hs =>
  intro g hX hG hsc hd hw3;rw [Tm.sc,if_pos rfl] at hsc;simp only [Tm.dp,Tm.dpL] at hd;have hi:n.toNat<g.length:=by omega
  obtain ⟨T,hT⟩:∃p,g[g.length - 1 - n.toNat]?=some p:=⟨_,List.getElem?_eq_getElem (by omega)⟩;obtain ⟨st,T⟩:=T;obtain ⟨_,_,_,q4⟩:=hX.ok _ _ _ hi hT;obtain ⟨q5,q6⟩:=q4 s h;rw [show n=((n.toNat:Nat):Int) by omega]
  refine ⟨fun h0=>?_,fun h0=>?_,fun h0=>by omega⟩
  ·obtain ⟨rfl,f,hf⟩:=q5 h0;exact AwJ hX (by omega) hi hT hf fun d=>FL (.inl rfl) d 0
  ·obtain ⟨rfl,f,hf⟩:=q6 h0;exact AwJ hX (by omega) hi hT hf fun d=>FL (.inr (.inl rfl)) d 0
 | node G op n ks s sg hr hl hst hk ih =>
  intro g hX hG hsc hd hw3;have o1:=(Fs hr).1;rw [Tm.sc,if_neg o1] at hsc;simp only [Tm.wt] at hw3;simp only [Tm.dp] at hd;have hgl:g.length<=800:=by omega
  cases hr with
  | natT =>
   obtain rfl:=List.eq_nil_of_length_eq_zero hl;exact ⟨by omega,by omega,fun _ _=>⟨0,by omega,AhH _ _⟩⟩
  | tyT =>
   obtain rfl:=List.eq_nil_of_length_eq_zero hl;exact ⟨by omega,by omega,fun _ _=>⟨0,by omega,AoA _ _⟩⟩
  | uT =>
   obtain rfl:=List.eq_nil_of_length_eq_zero hl;refine ⟨by omega,by omega,fun _ hf=>⟨1,by omega,?_⟩⟩
   have:=AmT (u:=natT) (k:=0) hf
   subst this;exact AqE g (m:=0) (by omega)
  | liftT =>
   obtain ⟨x,rfl⟩:=Cs hl;simp only [Tm.wtL,Tm.dpL] at hd hw3;have q:=(ih 0 x [] 1 rfl rfl g hX hG hsc.2.2.1 (by omega) (by omega)).2.1 rfl;exact ⟨by omega,by omega,fun _ _=>⟨0,by omega,TN _ (CS (by omega) q (Ha (by omega)))⟩⟩
  | piT a b ha hb =>
   obtain ⟨x,y,rfl⟩:=Ml hl;simp only [Tm.wtL,Tm.dpL] at hd hw3;refine ⟨by omega,by omega,fun _ hf=>?_⟩;obtain ⟨f1,f2⟩:=Vi (.inl rfl) hf;have xsc:x.sc g.length:=hsc.2.2.1;obtain ⟨m1,b1,q1⟩:=(ih 0 x [] (10+a) rfl rfl g hX hG xsc (by omega) (by omega)).2.2 (by omega) (QT f1);have hX2:=DB hX (by omega) (AN (hk 0 x [] (10+a) rfl rfl)) xsc (by omega);obtain ⟨m2,b2,q2⟩:=(ih 1 y [a] (10+b) rfl rfl _ hX2 (by rw [Dd];simp [hG]) (by rw [Dd];exact hsc.2.2.2.1) (by rw [Dd];omega) (by omega)).2.2 (by omega) (QT f2);exact ⟨_,YE b1 b2,Ana _ (.inl rfl) (by omega) (W9 q1) (W9 q2)⟩
  | sigT a b ha hb =>
   obtain ⟨x,y,rfl⟩:=Ml hl;simp only [Tm.wtL,Tm.dpL] at hd hw3;refine ⟨by omega,by omega,fun _ hf=>?_⟩;obtain ⟨f1,f2⟩:=Vi (.inr rfl) hf;have xsc:x.sc g.length:=hsc.2.2.1;obtain ⟨m1,b1,q1⟩:=(ih 0 x [] (10+a) rfl rfl g hX hG xsc (by omega) (by omega)).2.2 (by omega) (QT f1);have hX2:=DB hX (by omega) (AN (hk 0 x [] (10+a) rfl rfl)) xsc (by omega);obtain ⟨m2,b2,q2⟩:=(ih 1 y [a] (10+b) rfl rfl _ hX2 (by rw [Dd];simp [hG]) (by rw [Dd];exact hsc.2.2.2.1) (by rw [Dd];omega) (by omega)).2.2 (by omega) (QT f2);exact ⟨_,YE b1 b2,Ana _ (.inr rfl) (by omega) (W9 q1) (W9 q2)⟩
  | zero =>
   obtain rfl:=List.eq_nil_of_length_eq_zero hl;exact ⟨fun _=>AjZ _ _,by omega,by omega⟩
  | suc =>
   obtain ⟨x,rfl⟩:=Cs hl;simp only [Tm.wtL,Tm.dpL] at hd hw3;have q:=(ih 0 x [] 0 rfl rfl g hX hG hsc.2.2.1 (by omega) (by omega)).1 rfl;exact ⟨fun _=>Am8 _ (CS (by omega) q (HG (by omega))),by omega,by omega⟩
  | recR s hs =>
   obtain ⟨p,z,w,k,rfl⟩:=Nd hl;simp only [Tm.wtL,Tm.dpL] at hd hw3;obtain ⟨_,_,psc,zsc,wsc,ksc,_⟩:=hsc;have hk0:=AN (hk 0 p [0] (10+s) rfl rfl);have ihz:=ih 1 z [] s rfl rfl g hX hG zsc (by omega) (by omega);have ihk:=(ih 3 k [] 0 rfl rfl g hX hG ksc (by omega) (by omega)).1 rfl;have hX1:=DB (T:=natT) (s:=0) hX (by omega) (ht0 (.natT)) (Ga _) (by simp [natT,Tm.wt,Tm.wtL]);have l1:=Dd g (1,natT);refine ⟨fun h0=>?_,fun h0=>?_,by omega⟩
   ·subst h0;have e:=Akj hk0 psc;subst e;have hX2:=DB (T:=natT) (s:=0) hX1 (by simp;omega) (ht0 (.natT)) (Ga _) (by simp [natT,Tm.wt,Tm.wtL]);have l2:=Dd (g++[(1,natT)]) (1,natT);have ihw:=(ih 2 w [0,0] 0 rfl rfl _ hX2 (by rw [l2,l1];simp [hG]) (by rw [l2,l1];exact wsc) (by rw [l2,l1];omega) (by omega)).1 rfl;exact AmG _ (.inl rfl) (by omega) (HG (by omega)).n ksc (by omega) (CS (by omega) (ihz.1 rfl) (HG (by omega))) (CS (by rw [l2,l1];omega) ihw (HG (by rw [l2,l1];omega))) (CS (by omega) ihk (HG (by omega)))
   ·subst h0;have e:=Aqn hk0 psc;subst e;have hX2:=DB (T:=tyT) (s:=1) hX1 (by simp;omega) (ht0 (.tyT)) (J0 _) (by simp [tyT,Tm.wt,Tm.wtL]);have l2:=Dd (g++[(1,natT)]) (1,tyT);have ihw:=(ih 2 w [1,0] 1 rfl rfl _ hX2 (by rw [l2,l1];simp [hG]) (by rw [l2,l1];exact wsc) (by rw [l2,l1];omega) (by omega)).2.1 rfl;exact AmG _ (.inr rfl) (by omega) (Ha (by omega)).n ksc (by omega) (CS (by omega) (ihz.2.1 rfl) (Ha (by omega))) (CS (by rw [l2,l1];omega) ihw (Ha (by rw [l2,l1];omega))) (CS (by omega) ihk (HG (by omega)))
  | tint =>
   obtain rfl:=List.eq_nil_of_length_eq_zero hl;exact ⟨by omega,fun _=>Xe _ _,by omega⟩
  | tfun =>
   obtain ⟨x,y,rfl⟩:=Ml hl;simp only [Tm.wtL,Tm.dpL] at hd hw3;have q1:=(ih 0 x [] 1 rfl rfl g hX hG hsc.2.2.1 (by omega) (by omega)).2.1 rfl;have q2:=(ih 1 y [] 1 rfl rfl g hX hG hsc.2.2.2.1 (by omega) (by omega)).2.1 rfl;exact ⟨by omega,fun _=>Yb _ (.inl rfl) (CS (by omega) q1 (Ha (by omega))) (CS (by omega) q2 (Ha (by omega))),by omega⟩
  | tpro =>
   obtain ⟨x,y,rfl⟩:=Ml hl;simp only [Tm.wtL,Tm.dpL] at hd hw3;have q1:=(ih 0 x [] 1 rfl rfl g hX hG hsc.2.2.1 (by omega) (by omega)).2.1 rfl;have q2:=(ih 1 y [] 1 rfl rfl g hX hG hsc.2.2.2.1 (by omega) (by omega)).2.1 rfl;exact ⟨by omega,fun _=>Yb _ (.inr rfl) (CS (by omega) q1 (Ha (by omega))) (CS (by omega) q2 (Ha (by omega))),by omega⟩
  | natU=>exact ⟨by omega,by omega,by omega⟩
  | tyU=>exact ⟨by omega,by omega,by omega⟩
  | uU=>exact ⟨by omega,by omega,by omega⟩
  | liftU=>exact ⟨by omega,by omega,by omega⟩
  | piU=>exact ⟨by omega,by omega,by omega⟩
  | sigU=>exact ⟨by omega,by omega,by omega⟩
  | lam=>exact ⟨by omega,by omega,by omega⟩
  | pair=>exact ⟨by omega,by omega,by omega⟩
  | quo=>exact ⟨by omega,by omega,by omega⟩
  | spl=>exact ⟨by omega,by omega,by omega⟩
  | olam=>exact ⟨by omega,by omega,by omega⟩
  | oapp=>exact ⟨by omega,by omega,by omega⟩
  | opair=>exact ⟨by omega,by omega,by omega⟩
  | ofst=>exact ⟨by omega,by omega,by omega⟩
  | osnd=>exact ⟨by omega,by omega,by omega⟩
  | oint=>exact ⟨by omega,by omega,by omega⟩
  | oprim=>exact ⟨by omega,by omega,by omega⟩
  | oif=>exact ⟨by omega,by omega,by omega⟩
  | olet=>exact ⟨by omega,by omega,by omega⟩
  | ofix=>exact ⟨by omega,by omega,by omega⟩
def QX {G:List Nat} {a:Tm} {s:Nat} (h:NfT G a s) (x:Nat) (hb:G.length+2 * a.wt<=100000000):NfT (x::G) (a.shift 1 0) s:=by
 have:=Gt (AN h) [x] (by simp only [AB9,List.length_nil];omega)
 exact Fk (by simpa using this) (YP _ _ _ (BC h))
def MH {k:Nat} {a:Tm} (h:NOk k a) (hk:k<=1000):NOk (k+1) (a.shift 1 0):=⟨C3 _ 1 0 _ h.sc (by have:=h.wt;omega),by rw [Bk];exact h.wt,by rw [DZ];exact h.dp⟩
def qt {G:List Nat} {a:Tm} {s:Nat} {g:Bb} (h:NfT G a (10+s)) (hX:CtxX g G) (hG:G.length=g.length) (hok:NOk g.length a) (hl:g.length<=500) (hf:FT a):∃m,(0<=m/\m<=1)/\QL g a m:=by
 have:=hok.dp
 obtain ⟨m,h1,h2⟩:=(AxF h g hX hG hok.sc (by omega) hok.wt).2.2 (by omega) hf;exact ⟨m,h1,W9 h2⟩
def qo {G:List Nat} {a:Tm} {g:Bb} (h:NfT G a 1) (hX:CtxX g G) (hG:G.length=g.length) (hok:NOk g.length a) (hl:g.length<=500):QC g 1 a tyT:=by
 have:=hok.dp
 exact CS (by omega) ((AxF h g hX hG hok.sc (by omega) hok.wt).2.1 rfl) (Ha (by omega))
def Vy {k:Nat} {a:Tm} (h:a.sc k) (hw:a.wt<=100):NOk k a:=⟨h,by omega,by have:=GG a;omega⟩
def Pd {s:Nat}:Es (10+s):=.inr (.inr (.inr (by omega)))
def Avn {G:List Nat} {a0 a:Tm} {s k f:Nat} (h:FT a0) (hT:HasT G a0 (10+s)) (hs:a0.sc k) (hk:k<=1000) (hn:AF f a0=some (a,0)):FT a:=by
 rcases h with h | ⟨op,x,y,ho,hx,hy,rfl⟩ | h
 ·have:=AI (EB h) hs (by have:=JX h;omega) hn
  subst this;exact .inl h
 ·have:=AI (AiM (by omega) (EB hx) (EB hy)) hs (by have:=JX hx;have:=JX hy;rw [Fi];omega) hn
  subst this;exact .inr (.inl ⟨op,x,y,ho,hx,hy,rfl⟩)
 ·have h1:=(BF hT).1;rw [h] at h1;have h2:=(BF (AN (BU hn hT))).1;rw [<- h1] at h2;refine .inr (.inr ?_);unfold Mb at h2
  repeat' (split at h2)
  all_goals first | assumption | (simp at h2;done) | omega
theorem AqC {g:Bb} (hg:g.length<=1000):∀j,QI g 1 (HH j) natT
 | 0=>AjZ _ _
 | j+1=>Am8 _ (CS hg (AqC hg j) (HG hg))
def Oy {op n:Int} {x y:Tm} (ho:op=3\/op=6\/op=16\/op=17\/op=18) (hx:x.stl) (hy:y.stl):(Tm.mk op n [x,y]).stl:=AiM (by omega) hx hy
def RD {op n:Int} {ks:List Tm} {k:Nat} (h:(Tm.mk op n ks).sc k) (h1:op≠1) (h2:op≠2) (h26:op≠26) (h25:op≠25):n=0:=by
 rw [Tm.sc,if_neg h1] at h
 have:=h.2.1
 rw [BJ,if_neg h2,if_neg h26,if_neg h25] at this;exact this
def Aat {a:Tm} {k:Nat} (ha:a.op=2) (hs:a.sc k) (hf:FT a):a=.mk 2 0 []:=by
 obtain ⟨op,m,ks⟩:=a;simp only [Tm.op] at ha;subst ha;have hk:ks=[]:=by
  rw [Tm.sc] at hs;exact List.eq_nil_of_length_eq_zero (Option.some.inj (hs.1.symm.trans (show ar 2=some 0 from rfl)))
 subst hk;rw [AmT (u:=natT) (k:=0) hf]
def WW {a:Tm} {o:Int} {k:Nat} (h:a.sc k) (ho:a.op=o) (har:ar o=some 0) (h1:o≠1) (h2:o≠2) (h26:o≠26) (h25:o≠25):a=.mk o 0 []:=by
 obtain ⟨op,m,ks⟩:=a;simp only [Tm.op] at ho;subst ho
 have:=RD h h1 h2 h26 h25
 subst this;rw [Tm.sc,if_neg h1] at h;have hk:ks=[]:=List.eq_nil_of_length_eq_zero (Option.some.inj (h.1.symm.trans har));rw [hk]
theorem Ay0 {κ e:Nat} {g:Bb} {a t:Tm} (h:Gr κ e g a t):∀G,CtxT g G->CtxX g G->t.sc g.length->t.wt<=3000 ->
  (κ=0->g.length<=100->∃m,(0<=m/\m<=1)/\QL g t m) /\
  (κ=1->∀s,HasT G a (10+s)->a.sc g.length->FT a->∃f A,AF f a=some (A,0)/\QI g 1 t A) /\
  (κ=2->HasT G a 1->a.sc g.length->∃f A,AF f a=some (A,0)/\QI g 0 t A) /\
  (κ=3->∀s,NfT G a (10+s)->NOk g.length a->g.length<=60->FT a->QI g 1 t a) /\
  (κ=4->NfT G a 1->NOk g.length a->g.length<=60->QI g 0 t a):=by
 have hv:∀{g:Bb} {a b:Tm} {f:Nat},b.stl->NOk g.length b->g.length<=61->AF f b=some (a,0)->a=b:=fun hs hok hl hn=>AI hs hok.sc (by have:=hok.wt;omega) hn;have xnat:∀{g:Bb} {G:List Nat},CtxX g G->G.length<=1000->CtxX (g++[(1,natT)]) (0::G):=fun h hl=>DB (s:=0) h hl (ht0 .natT) (Ga _) (by simp [natT,Tm.wt,Tm.wtL]);have vnat:natT.vb:=Le natT 0 (Ga 0) (by simp [natT,Tm.wt,Tm.wtL])
 induction h with
 | tnat e g a=>intro G hG hX hsc hw;exact ⟨fun _ _=>⟨0,by omega,W9 (AhH _ _)⟩,by omega,by omega,by omega,by omega⟩
 | tty e g a=>intro G hG hX hsc hw;exact ⟨fun _ _=>⟨0,by omega,W9 (AoA _ _)⟩,by omega,by omega,by omega,by omega⟩
 | tu e g a=>intro G hG hX hsc hw;exact ⟨fun _ _=>⟨1,by omega,W9 (AqE g (m:=0) (by omega))⟩,by omega,by omega,by omega,by omega⟩
 | tlp e g a r =>
  intro G hG hX hsc hw;refine ⟨fun _ hl=>⟨0,by omega,W9 (TN _ ?_)⟩,by omega,by omega,by omega,by omega⟩;have hp:=H4 r;exact qo (Fk (BH G 1 r) (ME hp)) hX hG.len (Vy (Is hp _) (by have:=AhC hp;omega)) (by omega)
 | tpi e g a x y op ho h6 hgl hx h1 h2 ih1 ih2 =>
  intro G hG hX hsc hw;refine ⟨fun _ hl=>?_,by omega,by omega,by omega,by omega⟩;rw [Fi] at hw;rw [Tm.sc,if_neg (by omega)] at hsc;obtain ⟨s,_,hs⟩:=(Rh h1 G hG).1 rfl;have b0:Ae op 0=0:=by rcases ho with rfl | rfl<;>rfl
  have b1:Ae op 1=1:=by rcases ho with rfl | rfl<;>rfl
  have ysc:=hsc.2.2.2.1;rw [b1] at ysc;obtain ⟨m1,c1,q1⟩:=(ih1 G hG hX hx.sc (by omega)).1 rfl hl;have l1:=Dd g (1,x);have hX2:=DB hX (by rw [hG.len];omega) hs hx.sc (by omega);obtain ⟨m2,c2,q2⟩:=(ih2 _ (EO hG hs (PI hx (by omega))) hX2 (by rw [l1];exact ysc) (by omega)).1 rfl (by omega);exact ⟨_,YE c1 c2,W9 (Ana _ ho (by omega) q1 q2)⟩
 | tlift e g a t h6 h1 ih =>
  intro G hG hX hsc hw;refine ⟨fun _ hl=>⟨0,by omega,W9 (TN _ ?_)⟩,by omega,by omega,by omega,by omega⟩;rw [QM] at hw;rw [Tm.sc,if_neg (by decide)] at hsc;obtain ⟨f,A,hn,q⟩:=(ih G hG hX hsc.2.2.1 (by omega)).2.1 rfl 1 (ht0 .tyT) (J0 _) Amg
  have:=AI (t:=tyT) (DO _ _) (J0 0) (by simp [tyT,Tm.wt,Tm.wtL]) hn
  subst this;exact CS (by omega) q (Ha (by omega))
 | grow e g a0 a t f hn hg ha h1 ih =>
  intro G hG hX hsc hw;refine ⟨by omega,fun _ s hT has hf=>⟨f,a,hn,?_⟩,by omega,by omega,by omega⟩;exact (ih G hG hX hsc hw).2.2.2.1 rfl s (BU hn hT) ha hg (Avn hf hT has (by omega) hn)
 | objc e g a0 a t f hn hg ha h1 ih =>
  intro G hG hX hsc hw;refine ⟨by omega,by omega,fun _ hT has=>⟨f,a,hn,?_⟩,by omega,by omega⟩;exact (ih G hG hX hsc hw).2.2.2.2 rfl (BU hn hT) ha hg
 | var1 e g a i h =>
  intro G hG hX hsc hw;refine ⟨by omega,by omega,by omega,fun _ s hT hok hl hf=>?_,by omega⟩;obtain ⟨hi,T,f,w,hg,hn,he⟩:=h;obtain ⟨q1,q2,⟨D,σ,hσ,hD,hl2⟩,_⟩:=hX.ok i 1 T hi hg;have hs:=Gt hD (List.replicate (i+1) 0) (by rw [List.length_replicate];omega);rw [List.length_replicate] at hs;have e1:=Sc (BU hn hs) hσ;rw [e1,Sc hT Pd] at he;subst he;exact q_v hX (by omega) hi hg hn
 | var0 e g a i h =>
  intro G hG hX hsc hw;refine ⟨by omega,by omega,by omega,by omega,fun _ hT hok hl=>?_⟩;obtain ⟨hi,T,f,w,hg,hn,he⟩:=h;obtain ⟨q1,q2,⟨D,σ,hσ,hD,hl2⟩,_⟩:=hX.ok i 0 T hi hg;have hs:=Gt hD (List.replicate (i+1) 0) (by rw [List.length_replicate];omega);rw [List.length_replicate] at hs;have e1:=Sc (BU hn hs) hσ;rw [e1,Sc hT (.inr (.inl rfl))] at he;subst he;exact q_v hX (by omega) hi hg hn
 | fst e g a b c x h6 hb h1 h2 h3 ih1 ih2 ih3 =>
  intro G hG hX hsc hw;refine ⟨by omega,by omega,by omega,fun _ s hT hok hl hf=>?_,by omega⟩;have hGl:=hG.len;simp only [QM,wt3,Fi] at hw;simp only [Tm.sc,Tm.scL] at hsc;obtain ⟨_,_,⟨_,_,⟨_,_,asc,bsc,_⟩,csc,xsc,_⟩,_⟩:=hsc;simp only [show Ae 8 0=0 from rfl,show Ae 7 0=0 from rfl,show Ae 7 (0+1)=0 from rfl,show Ae 7 (0+1+1)=0 from rfl,show Ae 6 0=0 from rfl,show Ae 6 (0+1)=1 from rfl,Nat.add_zero] at asc bsc csc xsc
  obtain ⟨sb,hsb,hTb⟩:=(Rh h1 G hG).1 rfl;have fb:=t_6 h1;have wb:=JX fb;have bok:=Vy hb.sc (by omega);have nb:=Fk hTb (EB fb);have hs6:=(BF (AN hT)).2;have haw:=hok.wt;obtain ⟨m1,c1,q1⟩:=qt hT hX hGl hok (by omega) hf;have l1:=Dd g (1,a);have hXa:=DB hX (by omega) (AN hT) hok.sc haw;have nb2:=QX nb s (by omega);obtain ⟨m2,c2,q2⟩:=qt nb2 hXa (by rw [l1];simp [hGl]) (by rw [l1];exact MH bok (by omega)) (by omega) (.inl (by have:=Ma fb hb.sc (by omega) (d:=1) (c:=0) (by omega) (by omega);simpa using this));have hS:=W9 (Ana 0 (.inr rfl) (by omega) q1 q2);have Ssc:(Tm.mk 6 0 [a,b.shift 1 0]).sc g.length:=CQ asc bsc;have hN:NX g.length (.mk 6 0 [a,b.shift 1 0]) (.mk 6 0 [a,b.shift 1 0]):=PP (ht2 (.sigT s sb hs6 hsb) (AN hT) (AN nb2)) (Oy (by omega) (BC hT) (YP _ _ _ (EB fb))) Ssc (by omega) (by rw [Fi,Bk];omega);obtain ⟨f1,A,n1,r1⟩:=(ih3 G hG hX csc (by omega)).2.1 rfl s (AN hT) hok.sc hf
  have:=AI (BC hT) hok.sc (by omega) n1
  subst this;obtain ⟨f2,B,n2,r2⟩:=(ih2 G hG hX xsc (by omega)).2.1 rfl sb hTb hb.sc (QT fb)
  have:=AI (EB fb) hb.sc (by omega) n2
  subst this;have tA:=DC hT Pd hok.sc (by omega) (by omega);have tB:=DC nb Pd hb.sc (by omega) (by omega);have eb:=SZ B c 0 0 g.length hb.sc (by omega) (by omega);exact AvO 0 (Aj0 0 (by omega) hN (by rw [<- l1];exact (by rw [l1];exact bsc)) (by rw [Bk];omega) csc (by omega) hS (CS (by omega) r1 tA) r2 tB (by rw [eb];exact tB.n))
 | app e g a b c x h6 hb h1 h2 h3 ih1 ih2 ih3 =>
  intro G hG hX hsc hw;refine ⟨by omega,by omega,by omega,fun _ s hT hok hl hf=>?_,by omega⟩;have hGl:=hG.len;simp only [Fi] at hw;simp only [Tm.sc,Tm.scL] at hsc;obtain ⟨_,_,⟨_,_,bsc,csc,_⟩,xsc,_⟩:=hsc;simp only [show Ae 5 0=0 from rfl,show Ae 5 (0+1)=0 from rfl,show Ae 4 0=0 from rfl,show Ae 4 (0+1)=1 from rfl,Nat.add_zero] at bsc csc xsc
  obtain ⟨sb,hsb,hTb⟩:=(Rh h1 G hG).1 rfl;have fb:=t_6 h1;have wb:=JX fb;have bok:=Vy hb.sc (by omega);have nb:=Fk hTb (EB fb);have hs6:=(BF (AN hT)).2;have haw:=hok.wt;have l1:=Dd g (1,b);obtain ⟨m1,c1,q1⟩:=qt nb hX hGl bok (by omega) (QT fb);have hXb:=DB hX (by omega) hTb hb.sc (by omega);have na2:=QX hT sb (by omega);have aok2:=MH hok (by omega);have fa2:FT (a.shift 1 0):=by
   rcases hf with h | ⟨op,x,y,ho,hx,hy,rfl⟩ | h
   ·have:=Ma h hok.sc (by omega) (d:=1) (c:=0) (by omega) (by omega)
    exact .inl (by simpa using this)
   ·have q:=hok.sc;rw [Tm.sc,if_neg (by omega)] at q;have b0:Ae op 0=0:=by rcases ho with rfl | rfl<;>rfl
    have b1:Ae op 1=1:=by rcases ho with rfl | rfl<;>rfl
    have q0:=q.2.2.1;have q1:=q.2.2.2.1;rw [b0] at q0;rw [b1] at q1;refine .inr (.inl ⟨op,x.shift 1 0,y.shift 1 1,ho,?_,?_,?_⟩)
    ·have:=Ma hx q0 (by omega) (d:=1) (c:=0) (by omega) (by omega);simpa using this
    ·have:=Ma hy q1 (by omega) (d:=1) (c:=1) (by omega) (by omega);simpa using this
    ·rw [Tm.shift,if_neg (by omega)];simp only [Tm.shiftL,b0,Nat.zero_add,b1];simp
   ·exact .inr (.inr (by rw [Pc];exact h))
  obtain ⟨f1,A,n1,r1⟩:=(ih3 _ (EO hG hTb (PI hb (by omega))) hXb (by rw [l1];exact csc) (by omega)).2.1 rfl s (AN na2) (by rw [l1];exact aok2.sc) fa2
  have:=AI (BC na2) aok2.sc (by rw [Bk];omega) n1
  subst this;have Psc:(Tm.mk 3 0 [b,a.shift 1 0]).sc g.length:=CQ bsc aok2.sc;have hN:NX g.length (.mk 3 0 [b,a.shift 1 0]) (.mk 3 0 [b,a.shift 1 0]):=PP (ht2 (.piT sb s hsb hs6) hTb (AN na2)) (Oy (by omega) (EB fb) (BC na2)) Psc (by omega) (by rw [Fi,Bk];omega);have q2:=AqK 0 (by omega) q1 r1 hN;obtain ⟨f2,B,n2,r2⟩:=(ih2 G hG hX xsc (by omega)).2.1 rfl sb hTb hb.sc (QT fb)
  have:=AI (EB fb) hb.sc (by omega) n2
  subst this;have tA:=DC hT Pd hok.sc (by omega) (by omega);have tB:=DC nb Pd hb.sc (by omega) (by omega);have eb:=SZ a x 0 0 g.length hok.sc (by omega) (by omega);exact AwE 0 (by omega) xsc (by omega) aok2.sc (by rw [Bk];omega) q2 (CS (by omega) r2 tB) (by rw [eb];exact tA.n)
 | recc e g a n z s h6 ha h1 h2 h3 ih1 ih2 ih3 =>
  intro G hG hX hsc hw;refine ⟨by omega,by omega,by omega,fun _ σ hT hok hl hf=>?_,by omega⟩;have hGl:=hG.len;have hX':a=natT\/a=tyT:=by
   rcases ha with ha | ha
   ·exact .inl (O7 (by rw [ha];rfl) hok.sc)
   ·exact .inr (WF (by rw [ha];rfl) hok.sc)
  have hsh:∀d c:Int,a.shift d c=a:=by
   intro d c;rcases hX' with rfl | rfl
   ·exact FL (.inl rfl) d c
   ·exact FL (.inr (.inl rfl)) d c
  rw [hsh 1 0] at hw hsc ih3 ⊢;rw [hsh 2 0] at ih3;clear h1 h2 h3;simp only [wt4] at hw;simp only [Tm.sc,Tm.scL] at hsc;obtain ⟨_,_,asc,zsc,ssc,nsc,_⟩:=hsc;simp only [show Ae 13 0=1 from rfl,show Ae 13 (0+1)=0 from rfl,show Ae 13 (0+1+1)=2 from rfl,show Ae 13 (0+1+1+1)=0 from rfl,Nat.add_zero] at asc zsc ssc nsc
  have aw:a.wt<=10:=by rcases hX' with rfl | rfl<;>simp [natT,tyT,Tm.wt,Tm.wtL]
  have tA:=DC hT Pd hok.sc (by omega) (by omega);have l1:=Dd g (1,.mk 10 0 []);have l2:=Dd (g++[(1,.mk 10 0 [])]) (1,a);have hX1:CtxX (g++[(1,.mk 10 0 [])]) (0::G):=xnat hX (by omega);have hG1:=EO (s:=0) hG (ht0 .natT) vnat;have aT:∀D,HasT D a (10+σ):=by
   intro D;have hσ:=(BF (AN hT)).1;rcases hX' with rfl | rfl
   ·have:σ=0:=by simpa [Mb,natT,Tm.op] using hσ.symm
    subst this;exact ht0 .natT
   ·have:σ=1:=by simpa [Mb,tyT,Tm.op] using hσ.symm
    subst this;exact ht0 .tyT
  have asc':∀k,a.sc k:=by intro k;rcases hX' with rfl | rfl;exact Ga k;exact J0 k
  have avb:a.vb:=Le a 0 (asc' 0) (by omega);have hX2:=DB (T:=a) hX1 (by simp;omega) (aT _) (asc' _) (by omega);have hG2:=EO hG1 (aT (0::G)) avb;obtain ⟨f1,A1,n1,r1⟩:=(ih1 G hG hX nsc (by omega)).2.1 rfl 0 (ht0 .natT) (Ga _) AkW
  have:=AI (t:=natT) (DO _ _) (Ga 0) (by simp [natT,Tm.wt,Tm.wtL]) n1
  subst this;obtain ⟨f2,A2,n2,r2⟩:=(ih2 G hG hX zsc (by omega)).2.1 rfl σ (aT _) hok.sc hf
  have:=AI (BC hT) hok.sc (by omega) n2
  subst this;obtain ⟨f3,A3,n3,r3⟩:=(ih3 _ hG2 hX2 (by rw [l2,l1];exact ssc) (by omega)).2.1 rfl σ (aT _) (asc' _) hf
  have:=AI (BC hT) hok.sc (by omega) n3
  subst this;have tA2:=DC hT Pd (asc' (g++[((1:Int),Tm.mk 10 0 [])]++[((1:Int),A3)]).length) (by rw [l2,l1];omega) (by omega);exact AmG 0 hX' (by omega) tA.n nsc (by omega) (CS (by omega) r2 tA) (CS (by simp;omega) r3 tA2) (CS (by omega) r1 (HG (by omega)))
 | suc e g a n h6 ha h1 ih =>
  intro G hG hX hsc hw;refine ⟨by omega,by omega,by omega,fun _ s hT hok hl hf=>?_,by omega⟩
  have:=O7 (x:=a) (by rw [ha];rfl) hok.sc
  subst this;rw [QM] at hw;rw [Tm.sc,if_neg (by decide)] at hsc;obtain ⟨f1,A1,n1,r1⟩:=(ih G hG hX hsc.2.2.1 (by omega)).2.1 rfl 0 (ht0 .natT) (Ga _) AkW
  have:=AI (t:=natT) (DO _ _) (Ga 0) (by simp [natT,Tm.wt,Tm.wtL]) n1
  subst this;exact Am8 0 (CS (by omega) r1 (HG (by omega)))
 | num e g a j ha hj =>
  intro G hG hX hsc hw;refine ⟨by omega,by omega,by omega,fun _ s hT hok hl hf=>?_,by omega⟩
  have:=O7 (x:=a) (by rw [ha];rfl) hok.sc
  subst this;exact AqC (by omega) j
 | tint e g a ha =>
  intro G hG hX hsc hw;refine ⟨by omega,by omega,by omega,fun _ s hT hok hl hf=>?_,by omega⟩
  have:=WF (x:=a) (by rw [ha];rfl) hok.sc
  subst this;exact Xe g 0
 | tfun e g a x y op ho h6 ha h1 h2 ih1 ih2 =>
  intro G hG hX hsc hw;refine ⟨by omega,by omega,by omega,fun _ s hT hok hl hf=>?_,by omega⟩
  have:=WF (x:=a) (by rw [ha];rfl) hok.sc
  subst this;rw [Fi] at hw;rw [Tm.sc,if_neg (by omega)] at hsc;have b0:Ae op 0=0:=by rcases ho with rfl | rfl<;>rfl
  have b1:Ae op 1=0:=by rcases ho with rfl | rfl<;>rfl
  obtain ⟨_,_,xsc,ysc,_⟩:=hsc;rw [b0] at xsc;rw [show 0+1=1 from rfl,b1] at ysc
  obtain ⟨f1,A1,n1,r1⟩:=(ih1 G hG hX xsc (by omega)).2.1 rfl 1 (ht0 .tyT) (J0 _) Amg
  have:=AI (t:=tyT) (DO _ _) (J0 0) (by simp [tyT,Tm.wt,Tm.wtL]) n1
  subst this;obtain ⟨f2,A2,n2,r2⟩:=(ih2 G hG hX ysc (by omega)).2.1 rfl 1 (ht0 .tyT) (J0 _) Amg
  have:=AI (t:=tyT) (DO _ _) (J0 0) (by simp [tyT,Tm.wt,Tm.wtL]) n2
  subst this;exact Yb 0 ho (CS (by omega) r1 (Ha (by omega))) (CS (by omega) r2 (Ha (by omega)))
 | uni e g a n ha hp =>
  intro G hG hX hsc hw;refine ⟨by omega,by omega,by omega,fun _ s hT hok hl hf=>?_,by omega⟩;obtain ⟨op,m,ks⟩:=a;simp only [Tm.op,Tm.n] at ha hp;subst ha;have hk:ks=[]:=by
   have:=hok.sc
   rw [Tm.sc] at this;exact List.eq_nil_of_length_eq_zero (Option.some.inj (this.1.symm.trans (show ar 2=some 0 from rfl)))
  subst hk
  have:=AmT (u:=natT) (k:=0) hf
  omega
 | unat e g a ha =>
  intro G hG hX hsc hw;refine ⟨by omega,by omega,by omega,fun _ s hT hok hl hf=>?_,by omega⟩;rw [Aat ha hok.sc hf];exact AhH g 0
 | uty e g a ha =>
  intro G hG hX hsc hw;refine ⟨by omega,by omega,by omega,fun _ s hT hok hl hf=>?_,by omega⟩;rw [Aat ha hok.sc hf];exact AoA g 0
 | ult e g a ha =>
  intro G hG hX hsc hw;refine ⟨by omega,by omega,by omega,fun _ s hT hok hl hf=>?_,by omega⟩;rw [Aat ha hok.sc hf];exact TN 0 (CS (by omega) (Xe g 0) (Ha (by omega)))
 | upi e g a x y op ho h6 ha hx h1 h2 ih1 ih2 =>
  intro G hG hX hsc hw;refine ⟨by omega,by omega,by omega,fun _ s hT hok hl hf=>?_,by omega⟩;have ea:=Aat ha hok.sc hf;subst ea;have u2:∀D,HasT D (.mk 2 0 []) (10+2):=fun D=>ht0 .uT;have usc:∀k,(Tm.mk 2 0 []).sc k:=fun k=>Aqm (.inr (.inr (.inl rfl))) k;rw [Fi] at hw;rw [Tm.sc,if_neg (by omega)] at hsc;have b1:Ae op 1=1:=by rcases ho with rfl | rfl<;>rfl
  have ysc:=hsc.2.2.2.1;rw [show 0+1=1 from rfl,b1] at ysc
  have hxT:=(Rh h1 G hG).2.1 rfl 2 (u2 G);obtain ⟨f1,A1,n1,r1⟩:=(ih1 G hG hX hx.sc (by omega)).2.1 rfl 2 (u2 _) (usc _) hf
  have:=AI (DO _ _) (usc 0) (by simp [Tm.wt,Tm.wtL]) n1
  subst this;obtain ⟨σ,_,hG2,hX2⟩:=ApT hG hX (by rw [hG.len];omega) (by omega) hxT (PI hx (by omega)) hx.sc (by omega);have l1:=Dd g (1,x);obtain ⟨f2,A2,n2,r2⟩:=(ih2 _ hG2 hX2 (by rw [l1];exact ysc) (by omega)).2.1 rfl 2 (u2 _) (usc _) hf
  have:=AI (DO _ _) (usc 0) (by simp [Tm.wt,Tm.wtL]) n2
  subst this;exact Ana (i:=0) (j:=0) 0 ho (by omega) (W9 r1) (W9 r2)
 | lam e g n d c x h1 ih =>
  intro G hG hX hsc hw;refine ⟨by omega,by omega,by omega,fun _ s hT hok hl hf=>?_,by omega⟩;have hGl:=hG.len;rw [Fi] at hw;rw [Tm.sc,if_neg (by decide)] at hsc;obtain ⟨_,_,dsc,xsc,_⟩:=hsc;obtain ⟨f1,f2⟩:=Vi (.inl rfl) hf;have hn:=RD hok.sc (by decide) (by decide) (by decide) (by decide);subst hn;obtain ⟨_,a1,b1,ha1,hb1,hd,hc⟩:=Ads (.inl rfl) (AN hT);have asc:=hok.sc;rw [Tm.sc,if_neg (by decide)] at asc;have csc:c.sc (g.length+1):=asc.2.2.2.1;have w1:=JX f1;have w2:=JX f2;have dsc':d.sc g.length:=dsc;obtain ⟨m1,c1,q1⟩:=qt (Fk hd (EB f1)) hX hGl (Vy dsc' (by omega)) (by omega) (QT f1);have l1:=Dd g (1,d);obtain ⟨f3,A,n1,r1⟩:=(ih _ (EO hG hd (Le d _ dsc' (by omega))) (DB hX (by omega) hd dsc' (by omega)) (by rw [l1];exact xsc) (by omega)).2.1 rfl b1 hc (by rw [l1];exact csc) (QT f2)
  have:=AI (EB f2) csc (by omega) n1
  subst this;exact AqK 0 (by omega) q1 r1 (DC hT Pd hok.sc (by omega) (by have:=hok.wt;omega)).n
 | pair e g n d c x y hx h1 h2 ih1 ih2 =>
  intro G hG hX hsc hw;refine ⟨by omega,by omega,by omega,fun _ s hT hok hl hf=>?_,by omega⟩;have hGl:=hG.len;rw [wt3] at hw;rw [Tm.sc,if_neg (by decide)] at hsc;obtain ⟨_,_,_,xsc,ysc,_⟩:=hsc;obtain ⟨f1,f2⟩:=Vi (.inr rfl) hf;have w1:=JX f1;have w2:=JX f2;have hn:=RD hok.sc (by decide) (by decide) (by decide) (by decide);subst hn;obtain ⟨_,a1,b1,ha1,hb1,hd,hc⟩:=Ads (.inr rfl) (AN hT);have asc:=hok.sc;rw [Tm.sc,if_neg (by decide)] at asc;have dsc:d.sc g.length:=asc.2.2.1;have csc:c.sc (g.length+1):=asc.2.2.2.1;obtain ⟨m1,c1,q1⟩:=qt hT hX hGl hok (by omega) hf;obtain ⟨f3,A,n1,r1⟩:=(ih1 G hG hX xsc (by omega)).2.1 rfl a1 hd dsc (QT f1)
  have:=AI (EB f1) dsc (by omega) n1
  subst this;have qx:=(Rh h1 G hG).2.1 rfl a1 hd;have hsub:=Qi hc [] G a1 x rfl qx (by rw [hGl];simp only [List.length_nil];omega);have hsub:HasT G (c.subst 0 0 x) (10+b1):=by simpa using hsub
  obtain ⟨p1,p2,p3⟩:=AuS f2 x;have ssc:=Lu c x 0 g.length csc hx.sc (by omega);rw [show ((0:Nat):Int)=0 from rfl,Nat.add_zero] at ssc
  obtain ⟨f4,Y,n2,r2⟩:=(ih2 G hG hX ysc (by omega)).2.1 rfl b1 hsub ssc p1;have yok:=Agk (by omega) ssc (by have:=GG x;omega) n2;have hs3:1<=A.wt/\1<=c.wt:=⟨Ez _,Ez _⟩;rw [Fi] at hw;exact Aj0 0 (by omega) (DC hT Pd hok.sc (by omega) (by have:=hok.wt;omega)).n csc (by omega) xsc (by omega) q1 (CS (by omega) r1 (DC (Fk hd (EB f1)) Pd dsc (by omega) (by omega))) r2 (DC (BU n2 hsub) Pd yok.sc (by omega) (by have:=yok.wt;omega)) (AqF hsub ssc (by omega) (by have:=Ez y;omega) n2)
 | quo e g n d x h1 ih =>
  intro G hG hX hsc hw;refine ⟨by omega,by omega,by omega,fun _ s hT hok hl hf=>?_,by omega⟩;rw [QM] at hw;rw [Tm.sc,if_neg (by decide)] at hsc;have hn:=RD hok.sc (by decide) (by decide) (by decide) (by decide);subst hn;obtain ⟨_,hd⟩:=AeI (AN hT);have asc:=hok.sc;rw [Tm.sc,if_neg (by decide)] at asc;have dsc:d.sc g.length:=asc.2.2.1;have hw2:=hok.wt;rw [QM] at hw2;have hst:=BC hT;rw [Tm.stl,Tm.stlL] at hst;obtain ⟨f1,A,n1,r1⟩:=(ih G hG hX hsc.2.2.1 (by omega)).2.2.1 rfl hd dsc
  have:=AI hst.2.1 dsc (by omega) n1
  subst this;exact AqP 0 r1
 | oif e g a c x y h6 h1 h2 h3 ih1 ih2 ih3 =>
  intro G hG hX hsc hw;refine ⟨by omega,by omega,by omega,by omega,fun _ hT hok hl=>?_⟩;rw [wt3] at hw;rw [Tm.sc,if_neg (by decide)] at hsc;obtain ⟨_,_,csc,xsc,ysc,_⟩:=hsc;have hw2:=hok.wt;obtain ⟨f1,A1,n1,r1⟩:=(ih1 G hG hX csc (by omega)).2.2.1 rfl (ht0 .tint) (CV _)
  have:=AI (t:=Bh) (DO _ _) (CV 0) (by simp [Bh,Tm.wt,Tm.wtL]) n1
  subst this;obtain ⟨f2,A2,n2,r2⟩:=(ih2 G hG hX xsc (by omega)).2.2.1 rfl (AN hT) hok.sc
  have:=AI (BC hT) hok.sc (by omega) n2
  subst this;obtain ⟨f3,A3,n3,r3⟩:=(ih3 G hG hX ysc (by omega)).2.2.1 rfl (AN hT) hok.sc
  have:=AI (BC hT) hok.sc (by omega) n3
  subst this;exact Axe 0 (CS (by omega) r1 (Pn (by omega))) r2 (CS (by omega) r3 (DC hT (.inr (.inl rfl)) hok.sc (by omega) (by omega)))
 | olet e g a r x y h6 h1 h2 ih1 ih2 =>
  intro G hG hX hsc hw;refine ⟨by omega,by omega,by omega,by omega,fun _ hT hok hl=>?_⟩;rw [Fi] at hw;rw [Tm.sc,if_neg (by decide)] at hsc;obtain ⟨_,_,xsc,ysc,_⟩:=hsc;have hGl:=hG.len;have hw2:=hok.wt;have hp:=H4 r;have hpw:=AhC hp;obtain ⟨f1,A1,n1,r1⟩:=(ih1 G hG hX xsc (by omega)).2.2.1 rfl (BH G 1 r) (Is hp _)
  have:=AI (ME hp) (Is hp 0) (by omega) n1
  subst this;have l1:=Dd g (0,r.plainT 1);have na2:=QX hT 6 (by omega);have aok2:=MH hok (by omega);obtain ⟨f2,A2,n2,r2⟩:=(ih2 _ (Gy hG _) (LD hX (by omega) (BH G 1 r) (Is hp _) (by omega)) (by rw [l1];exact ysc) (by omega)).2.2.1 rfl (AN na2) (by rw [l1];exact aok2.sc)
  have:=AI (BC na2) aok2.sc (by rw [Bk];omega) n2
  subst this;exact Alr 0 (by omega) hok.sc (by omega) r1 r2
 | oapp e g a r x y h6 h1 h2 ih1 ih2 =>
  intro G hG hX hsc hw;refine ⟨by omega,by omega,by omega,by omega,fun _ hT hok hl=>?_⟩;simp only [Fi] at hw;simp only [Tm.sc,Tm.scL] at hsc;obtain ⟨_,_,⟨_,_,psc,ysc,_⟩,xsc,_⟩:=hsc;simp only [show Ae 21 0=0 from rfl,show Ae 21 (0+1)=0 from rfl,show Ae 20 0=0 from rfl,show Ae 20 (0+1)=1 from rfl,Nat.add_zero] at psc ysc xsc
  have hGl:=hG.len;have hw2:=hok.wt;have hp:=H4 r;have hpw:=AhC hp;have pT:=Fk (BH G 1 r) (ME hp);obtain ⟨f1,A1,n1,r1⟩:=(ih1 G hG hX xsc (by omega)).2.2.1 rfl (BH G 1 r) (Is hp _)
  have:=AI (ME hp) (Is hp 0) (by omega) n1
  subst this;have l1:=Dd g (0,r.plainT 1);have na2:=QX hT 6 (by omega);have aok2:=MH hok (by omega);obtain ⟨f2,A2,n2,r2⟩:=(ih2 _ (Gy hG _) (LD hX (by omega) (BH G 1 r) (Is hp _) (by omega)) (by rw [l1];exact ysc) (by omega)).2.2.1 rfl (AN na2) (by rw [l1];exact aok2.sc)
  have:=AI (BC na2) aok2.sc (by rw [Bk];omega) n2
  subst this;have hN:NX g.length (.mk 16 0 [r.plainT 1,a]) (.mk 16 0 [r.plainT 1,a]):=PP (ht2 .tfun (BH G 1 r) (AN hT)) (Oy (by omega) (ME hp) (BC hT)) (CQ (Is hp _) hok.sc) (by omega) (by rw [Fi];omega);exact Att 0 (AlA 0 (by omega) hok.sc (by omega) (qo pT hX hGl (Vy (Is hp _) (by omega)) (by omega)) r2 hN) (CS (by omega) r1 (DC pT (.inr (.inl rfl)) (Is hp _) (by omega) (by omega)))
 | ofst e g a x y h6 h1 h2 ih1 ih2 =>
  intro G hG hX hsc hw;refine ⟨by omega,by omega,by omega,by omega,fun _ hT hok hl=>?_⟩;simp only [QM,Fi] at hw;simp only [Tm.sc,Tm.scL] at hsc;obtain ⟨_,_,⟨_,_,xsc,ysc,_⟩,_⟩:=hsc;simp only [show Ae 23 0=0 from rfl,show Ae 22 0=0 from rfl,show Ae 22 (0+1)=0 from rfl,Nat.add_zero] at xsc ysc
  have hw2:=hok.wt;obtain ⟨f2,A2,n2,r2⟩:=(ih1 G hG hX xsc (by omega)).2.2.1 rfl (AN hT) hok.sc
  have:=AI (BC hT) hok.sc (by omega) n2
  subst this;obtain ⟨f1,A1,n1,r1⟩:=(ih2 G hG hX ysc (by omega)).2.2.1 rfl (ht0 .tint) (CV _)
  have:=AI (t:=Bh) (DO _ _) (CV 0) (by simp [Bh,Tm.wt,Tm.wtL]) n1
  subst this;have hN:NX g.length (.mk 17 0 [A2,Bh]) (.mk 17 0 [A2,Bh]):=PP (ht2 .tpro (AN hT) (ht0 .tint)) (Oy (by omega) (BC hT) (DO _ _)) (CQ hok.sc (CV _)) (by omega) (by rw [Fi];simp [Bh,Tm.wt,Tm.wtL];omega);exact Aq3 0 (Aiq 0 (by omega) r2 r1 hN)
 | ofix e g a x h6 h1 ih =>
  intro G hG hX hsc hw;refine ⟨by omega,by omega,by omega,by omega,fun _ hT hok hl=>?_⟩;rw [Fi] at hw;rw [Tm.sc,if_neg (by decide)] at hsc;obtain ⟨_,_,asc,xsc,_⟩:=hsc;have hGl:=hG.len;have hw2:=hok.wt;have l1:=Dd g (0,a);have na2:=QX hT 6 (by omega);have aok2:=MH hok (by omega);obtain ⟨f2,A2,n2,r2⟩:=(ih _ (Gy hG _) (LD hX (by omega) (AN hT) hok.sc (by omega)) (by rw [l1];exact xsc) (by omega)).2.2.1 rfl (AN na2) (by rw [l1];exact aok2.sc)
  have:=AI (BC na2) aok2.sc (by rw [Bk];omega) n2
  subst this;exact Ati 0 (by omega) hok.sc (by omega) (qo hT hX hGl hok (by omega)) (CS (by omega) r2 (DC na2 (.inr (.inl rfl)) (by rw [l1];exact aok2.sc) (by omega) (by rw [Bk];omega))) (DC hT (.inr (.inl rfl)) hok.sc (by omega) (by omega)).n
 | spl e g a x h6 h1 ih =>
  intro G hG hX hsc hw;refine ⟨by omega,by omega,by omega,by omega,fun _ hT hok hl=>?_⟩;rw [QM] at hw;rw [Tm.sc,if_neg (by decide)] at hsc;have hw2:=hok.wt;have lsc:(Tm.mk 18 0 [a]).sc g.length:=FK hok.sc;obtain ⟨f2,A2,n2,r2⟩:=(ih G hG hX hsc.2.2.1 (by omega)).2.1 rfl 3 (ht1 .liftT (AN hT)) lsc Aqv
  have:=AI (AtY (by decide) (BC hT)) lsc (by rw [QM];omega) n2
  subst this;exact AqB 0 r2
 | oint e g a n ha =>
  intro G hG hX hsc hw;refine ⟨by omega,by omega,by omega,by omega,fun _ hT hok hl=>?_⟩;rw [WW hok.sc ha (by decide) (by decide) (by decide) (by decide) (by decide)];exact ArR g n
 | oprim e g a p q n h6 ha h1 h2 ih1 ih2 =>
  intro G hG hX hsc hw;refine ⟨by omega,by omega,by omega,by omega,fun _ hT hok hl=>?_⟩;have ea:a=Bh:=WW hok.sc ha (by decide) (by decide) (by decide) (by decide) (by decide);subst ea;rw [Fi] at hw;rw [Tm.sc,if_neg (by decide)] at hsc;obtain ⟨_,_,xsc,ysc,_⟩:=hsc;obtain ⟨f1,A1,n1,r1⟩:=(ih1 G hG hX xsc (by omega)).2.2.1 rfl (ht0 .tint) (CV _)
  have:=AI (t:=Bh) (DO _ _) (CV 0) (by simp [Bh,Tm.wt,Tm.wtL]) n1
  subst this;obtain ⟨f2,A2,n2,r2⟩:=(ih2 G hG hX ysc (by omega)).2.2.1 rfl (ht0 .tint) (CV _)
  have:=AI (t:=Bh) (DO _ _) (CV 0) (by simp [Bh,Tm.wt,Tm.wtL]) n2
  subst this;exact AeR n (CS (by omega) r1 (Pn (by omega))) (CS (by omega) r2 (Pn (by omega)))
 | olam e g n d c b h1 ih =>
  intro G hG hX hsc hw;refine ⟨by omega,by omega,by omega,by omega,fun _ hT hok hl=>?_⟩;rw [Fi] at hw;rw [Tm.sc,if_neg (by decide)] at hsc;obtain ⟨_,_,dsc0,xsc,_⟩:=hsc;have hGl:=hG.len;have hw2:=hok.wt;have hd2:=hok.dp;rw [Fi] at hw2;rw [Qx] at hd2;have hn:=RD hok.sc (by decide) (by decide) (by decide) (by decide);subst hn;obtain ⟨hd,hc⟩:=Np (.inl rfl) (AN hT);have asc:=hok.sc;rw [Tm.sc,if_neg (by decide)] at asc;have dok:NOk g.length d:=⟨asc.2.2.1,by omega,by omega⟩;have cok:NOk g.length c:=⟨asc.2.2.2.1,by omega,by omega⟩;have hst:=BC hT;rw [Tm.stl,Tm.stlL,Tm.stlL] at hst;have l1:=Dd g (0,d);have nc2:=QX (Fk hc hst.2.2.1) 6 (by omega);have cok2:=MH cok (by omega);obtain ⟨f2,A2,n2,r2⟩:=(ih _ (Gy hG _) (LD hX (by omega) hd dok.sc (by omega)) (by rw [l1];exact xsc) (by omega)).2.2.1 rfl (AN nc2) (by rw [l1];exact cok2.sc)
  have:=AI (BC nc2) cok2.sc (by rw [Bk];omega) n2
  subst this;exact AlA 0 (by omega) cok.sc (by omega) (qo (Fk hd hst.2.1) hX hGl dok (by omega)) r2 (DC hT (.inr (.inl rfl)) hok.sc (by omega) (by rw [Fi];omega)).n
 | opair e g n d c p q h1 h2 ih1 ih2 =>
  intro G hG hX hsc hw;refine ⟨by omega,by omega,by omega,by omega,fun _ hT hok hl=>?_⟩;rw [Fi] at hw;rw [Tm.sc,if_neg (by decide)] at hsc;obtain ⟨_,_,psc,qsc,_⟩:=hsc;have hw2:=hok.wt;rw [Fi] at hw2;have hn:=RD hok.sc (by decide) (by decide) (by decide) (by decide);subst hn;obtain ⟨hd,hc⟩:=Np (.inr rfl) (AN hT);have asc:=hok.sc;rw [Tm.sc,if_neg (by decide)] at asc;have dsc:d.sc g.length:=asc.2.2.1;have csc:c.sc g.length:=asc.2.2.2.1;have hst:=BC hT;rw [Tm.stl,Tm.stlL,Tm.stlL] at hst;obtain ⟨f1,A1,n1,r1⟩:=(ih1 G hG hX psc (by omega)).2.2.1 rfl hd dsc
  have:=AI hst.2.1 dsc (by omega) n1
  subst this;obtain ⟨f2,A2,n2,r2⟩:=(ih2 G hG hX qsc (by omega)).2.2.1 rfl hc csc
  have:=AI hst.2.2.1 csc (by omega) n2
  subst this;exact Aiq 0 (by omega) r1 r2 (DC hT (.inr (.inl rfl)) hok.sc (by omega) (by rw [Fi];omega)).n
def GY (o1 n1 o2 n2:Int) (k1 es:List FV) (s:Nat) (h:Hp) (k:KT (IV×Hp)):Ay (Aj EE 28 2 [(0,.fv (.agg [.int .i64 o1,.int .i64 n1,.sl k1])),(1,.agg [.fv (.int .i64 o2),.fv (.int .i64 n2),.clip es])]) s h k =
  k (.clip [.agg [.int .i64 o1,.int .i64 n1,.sl k1],.agg [.int .i64 o2,.int .i64 n2,.sl es]]) h [] []:=by
 have:Aj EE 28 2 [(0,.fv (.agg [.int .i64 o1,.int .i64 n1,.sl k1])),(1,.agg [.fv (.int .i64 o2),.fv (.int .i64 n2),.clip es])]=.ret { eff:={ val:=.clip [.agg [.int .i64 o1,.int .i64 n1,.sl k1],.agg [.int .i64 o2,.int .i64 n2,.sl es]],upd:=[] } }:=by
  simp only [Aj,QS,tTm];rw [if_neg (by decide)];rfl
 rw [this];exact HF _ s h k
def spq:Tm:=.mk 30 0 [.mk 19 0 [.mk 1 0 []]]
def Fg:Nat->Tm
 | 0=>.mk 1 0 []
 | n+1=>.mk 26 0 [spq,Fg n]
def QK:Nat->Tm
 | 0=>.mk 1 0 []
 | n+1=>.mk 26 0 [.mk 1 0 [],QK n]
theorem Ac6:∀n,HasT [6] (Fg n) 6
 | 0=>.var _ _ _ (by omega) rfl (by omega)
 | n+1=>ht2 .oprim (ht1 .spl (ht1 .quo (.var _ _ _ (by omega) rfl (by omega)))) (Ac6 n)
theorem Ach:∀n,(Fg n).sc 1
 | 0=>XF (by omega) (by omega)
 | n+1=>Yy (by decide) (by decide) (by rw [BJ];decide) (FK (FK (XF (by omega) (by decide)))) (Ach n)
theorem T4:∀n,(Fg n).wt=4 * n+1
 | 0=>rfl
 | n+1=>by rw [Fg,Fi,T4 n,spq,QM,QM];simp only [Tm.wt,Tm.wtL];omega
theorem AbD:∀n,(QK n).wt=2 * n+1
 | 0=>rfl
 | n+1=>by rw [QK,Fi,AbD n];simp only [Tm.wt,Tm.wtL];omega
theorem WV:∀n,Pars (Fg n) (QK n)
 | 0=>.refl _
 | n+1=>by
  rw [Fg,QK];refine IR (op:=26) (n:=0) (by decide) rfl fun i x y hx hy=>?_
  match i with
  | 0=>simp at hx hy;subst hx;subst hy;exact Hd (.splq _ _ (W0 _ _ (Nat.lt_succ_self _)))
  | 1=>simp at hx hy;subst hx;subst hy;exact WV n
  | i+2=>simp at hx
theorem VA:∀n,(QK n).stl
 | 0=>DO _ _
 | n+1=>AiM (by decide) (DO _ _) (VA n)
theorem XW:∀n,QI [(0,Bh)] 0 (Fg n) Bh
 | 0=>q_v (G:=[6]) (g:=[(0,Bh)]) (LD W6 (by simp) (ht0 .tint) (CV _) (by simp [Bh,Tm.wt,Tm.wtL])) (by simp) (i:=0) (by simp) rfl (GA (DO _ _) (CV 0) (by omega) (by simp [Bh,Tm.wt,Tm.wtL,Tm.shift,Tm.shiftL]) (by simp [Bh,Tm.dp,Tm.dpL,Tm.shift,Tm.shiftL])).choose_spec
 | n+1=>AeR 0 (CS (by simp) (AqB 0 (AqP 0 (XW 0))) (Pn (by simp))) (CS (by simp) (XW n) (Pn (by simp)))
def FY (t:Tm) (j:Nat):Tm:=.mk 28 0 [t,Fg j]
def bK:Nat->IV
 | 0=>.fv (.sl [])
 | i+1=>.clip [spq.enc,(Fg i).enc]
structure LetA (n:Nat) (t want lc:Tm) (j:Nat) (a:Tm) (gg:Int):Prop where
 st:BW (SS dt n 16 [.fv (FY t j).enc] ⟨[],[]⟩) (.tuple [(Tm.mk 28 0 [want,lc]).enc,.int .i64 0])
 ki:BW (SS dt n 20 [.fv (.sl []),iv 0,.fv (FY t j).enc] ⟨[],[]⟩) (.tuple [a.enc,.int .i64 gg])
 hv:BW (SS dt n 15 [iv gg] ⟨[],[]⟩) (.bool (decide (gg=17) || decide (gg=5)))
 hg:Hvy gg\/gg=0/\a=Bh
def WM (r:Tm) (x:Int):∃N,An1 (SS dt N 10 [.fv r.enc,.fv (.int .i64 x)] ⟨[],[]⟩) (.bool true):=by
 obtain ⟨j,hj⟩:∃j:Nat,x % 20=j:=⟨(x % 20).toNat,by omega⟩;have hj20:j<20:=by omega
 obtain ⟨t,is,⟨N1,h1⟩,tt⟩:=(Am4 8 (by omega)).2.2 [] Bh r ⟨by decide,fun i p h=>by simp at h⟩ ⟨CV _,by simp [Bh,Tm.wt,Tm.wtL],by simp [Bh,Tm.dp,Tm.dpL]⟩;have tsc:t.sc 0:=tt.sc;have tdp:t.dp<=300:=by have:=tt.dp;unfold Dg at this;omega
 have tw:t.wt<=8388608000:=Nat.le_trans tt.wt (by decide);have ud:(FY t j).dp<=20000:=by
  have:=GG (Fg j)
  have:=T4 j
  rw [FY,Qx];omega
 have usc:(FY t j).sc 0:=CQ tsc (Ach j);obtain ⟨c,e,⟨N2,h2⟩,hcase,f,hf⟩:=Fa (k:=0) (by omega) tsc (by omega);obtain ⟨c2,e2,⟨N4,h4⟩,hcase2,f2,hf2⟩:=Fa (k:=0) (by omega) usc ud;have he2:e2=0\/e2=5\/e2=17:=by
  rcases hcase2 with ⟨h,_⟩ | ⟨h,_⟩
  ·exact .inl h
  ·exact .inr h
 have he1:e=0\/e=5\/e=17:=by
  rcases hcase with ⟨h,_⟩ | ⟨h,_⟩
  ·exact .inl h
  ·exact .inr h
 obtain ⟨a,gg,N3,h3⟩:∃a gg,∃N3,is=true->e=0->((FY t j).chk 0 1).2=0->e2=0->∀n,N3<=n->LetA n t c (QK j) j a gg:=by
  by_cases hh:is=true/\e=0/\((FY t j).chk 0 1).2=0/\e2=0
  ·obtain ⟨rfl,rfl,hck,rfl⟩:=hh;have hw:=(AlG hck).1;have hwt:t.wt<=3000:=by rw [FY,Fi] at hw;omega
   have hgt:=tt.gr rfl;have ht:=(Rh hgt [] Wl).2.2.1 rfl (ht0 .tint);have hu:HasT [] (FY t j) 6:=ht2 .olet ht (Ac6 j);have hu2:=(hcase2.resolve_right (by omega)).2;have hcc:c2=.mk 28 0 [c,QK j]:=ArQ (Qa hf2 usc) (.refl _) (by
    rw [FY];refine IR (op:=28) (n:=0) (by decide) rfl fun i x y hx hy=>?_
    match i with
    | 0=>simp at hx hy;subst hx;subst hy;exact Qa hf tsc
    | 1=>simp at hx hy;subst hx;subst hy;exact WV j
    | i+2=>simp at hx) (.refl _) (BC (BU hf2 hu)) (AiM (by decide) (BC (BU hf ht)) (VA j))
   subst hcc;obtain ⟨N3,hst⟩:=Al6 hu usc (by omega) hck hf2 hu2;obtain ⟨f3,A,n3,r3⟩:=(Ay0 hgt [] Wl W6 tsc hwt).2.2.1 rfl (ht0 .tint) (CV _)
   have:=AI (t:=Bh) (DO _ _) (CV 0) (by simp [Bh,Tm.wt,Tm.wtL]) n3
   subst this;obtain ⟨a,gg,⟨N5,hI⟩,hg⟩:QI [] 0 (FY t j) Bh:=Alr 0 (by simp) (CV _) (by simp [Bh,Tm.wt,Tm.wtL]) r3 (XW j);refine ⟨a,gg,N3+N5+10,fun _ _ _ _ n hn=>⟨hst n (by omega),hI n (by omega),Pv (by omega) gg,?_⟩⟩;rcases hg with hg | ⟨h1,h2,_⟩
   ·exact .inl hg
   ·exact .inr ⟨h1,h2⟩
  ·exact ⟨.z,0,0,fun a b c d=>absurd ⟨a,b,c,d⟩ hh⟩
 have cw:c.wt<=3000:=by
  rcases hcase with ⟨_,h⟩ | ⟨_,rfl⟩
  ·exact h.wt
  ·simp [Tm.z,Tm.wt,Tm.wtL]
 have bw:=T4 j;have kw:=AbD j;obtain ⟨n,hn⟩:∃n,n=N1+N2+N3+N4+r.wt+100000000000:=⟨_,rfl⟩;refine ⟨n+1,?_⟩;have h1:=h1 n (by omega);have h2:=h2 n (by omega);have h4:=h4 n (by omega);have h3:=fun a b c d=>h3 a b c d n (by omega);have hk:=V3 (n:=n) (by omega);obtain ⟨m,hmn⟩:∃m,n=m+1:=⟨n - 1,by omega⟩;have fr:=AtJ (n:=m) r (by omega);rw [<- hmn] at fr;have t15:=AO (n:=n) (by omega) 15;have s1:=I8 n c c (by omega) (by omega);rw [(Kt c c).2 rfl] at s1;have s2:=I8 n Bh Bh (by simp only [Bh,Tm.wt,Tm.wtL];omega) (by simp only [Bh,Tm.wt,Tm.wtL];omega);rw [(Kt Bh Bh).2 rfl] at s2;have sz1:=Wt n c (by omega) (by omega);have sz2:=Wt n (QK j) (by omega) (by omega);rw [kw,show ((2 * j+1:Nat):Int)=2 * (j:Int)+1 by omega] at sz2
 have hck:=AkI (n:=n) (FY t j) (by rw [FY,Fi];omega);have hv1:=Pv (n:=n) (by omega) e;have hv2:=Pv (n:=n) (by omega) e2;have hw:=RY (n:=n) (by omega) x (m:=20) (by decide) (by decide);rw [hj] at hw;have v0:=Al8 (n:=n) (by omega) 0;have t19:=Cx (n:=n) (by omega) 19 [.mk 1 0 []];have t30:=Cx (n:=n) (by omega) 30 [.mk 19 0 [.mk 1 0 []]];have t28:=Cx (n:=n) (by omega) 28 [t,Fg j];have w1:BM (2 * (j:Int))=2 * j:=Av (by omega) (by omega);have w2:BM (2 * (j:Int)+1)=2 * j+1:=Av (by omega) (by omega);rw [c10];rw [show ((8:Nat):Int) - 5=3 from rfl,A6,ACa] at h1
 generalize decide (r.count 300<300)=br at fr;generalize ((FY t j).chk 0 1).2=ck at hck h3;generalize QK j=lc at h3 sz2;have hn1:1000<n:=by omega
 clear hcase hcase2 hf hf2 tt tw hn hmn usc ud kw bw;cases br
 ·obtain ⟨o1,p1,k1⟩:=r;simp only [Ag] at fr ⊢;simp (maxSteps:=1000000) only [NF,ND,OA,On,NM,NW,NY,NA,Nx,NO,NB,Og,Oi,Nv,NV,Ox,Ny,Nf,Ol,NJ,NP,Oo,NK,Oc,Oh,OB,Oz,S10,↓XX,XY,↓reduceIte,seval,↓Ir hk,↓Ap fr];exact QJ
 obtain ⟨o1,x1,k1⟩:=r;obtain ⟨o4,x4,k4⟩:=c;obtain ⟨o6,x6,k6⟩:=c2;obtain ⟨o8,x8,k8⟩:=lc;have loop:∀o5 x5 k5,t=.mk o5 x5 k5->An1 (BQ n (fun q l h=>Sw l (SS dt n) h q) [iv j,.ptr (.own 10490881) 0,.ptr (.own 10491910) 0,.fv (.bool is),.ptr (.own 10492933) 0,.fv (.int .i64 e),.ptr (.own 10494977) 0,iv 0]
   ⟨[(10485760,.row [iv o1,iv x1,.fv (.sl (k1.map Tm.enc))] false),(10490881,.row [iv 15,iv 0,.fv (.sl [])] false),
    (10491910,.row [iv o5,iv x5,.fv (.sl (k5.map Tm.enc))] false),
    (10492933,.row [iv o4,iv x4,.fv (.sl (k4.map Tm.enc))] false),(10494977,.row [iv 1,iv 0,.fv (.sl [])] false)],[]⟩) (.bool true):=by
  intro o5 x5 k5 hT;refine Bd (Q:=fun r=>An1 r _) (fun k V H=>∃i:Nat,i+k=j/\V=[iv j,.ptr (.own 10490881) 0,.ptr (.own 10491910) 0,.fv (.bool is),.ptr (.own 10492933) 0,.fv (.int .i64 e),.ptr (.own 10494977) 0,iv i]/\H =
   ⟨[(10485760,.row [iv o1,iv x1,.fv (.sl (k1.map Tm.enc))] false),(10490881,.row [iv 15,iv 0,.fv (.sl [])] false),
    (10491910,.row [iv o5,iv x5,.fv (.sl (k5.map Tm.enc))] false),
    (10492933,.row [iv o4,iv x4,.fv (.sl (k4.map Tm.enc))] false),(10494977,.row [iv (Fg i).op,iv (Fg i).n,bK i] false)],[]⟩)
   ?_ n j _ _ (by omega) ⟨0,by omega,rfl,rfl⟩
  rintro k V H rec ⟨i,hik,rfl,rfl⟩ hrec;rcases Nat.lt_or_ge i j with hij | hij
  ·have hi:(i:Int)<j:=by omega
   have hwi:BM ((i:Int)+1)=((i+1:Nat):Int):=(Av (by omega) (by omega)).trans (by simp);have h9:=hrec (k - 1) [iv j,.ptr (.own 10490881) 0,.ptr (.own 10491910) 0,.fv (.bool is),.ptr (.own 10492933) 0,.fv (.int .i64 e),.ptr (.own 10494977) 0,iv (i+1:Nat)] _ (by omega) ⟨i+1,by omega,rfl,rfl⟩;clear hck h3 h4 s1 s2 sz1 sz2 hv1 hv2 t28 fr h1 h2;cases i with
   | zero =>
    have w01:BM (0+1)=((0+1:Nat):Int):=by rw [Av]<;>omega
    have hi:(0:Int)<j:=by omega
    simp only [Fg,bK,spq,Tm.op,Tm.n,Ag,ACa,ACb] at v0 t19 t30 h9 ⊢;simp (maxSteps:=1000000) only [↓UU1,↓XX,XY,↓reduceIte,seval,hi,↓AqV,↓De,↓Ap v0,↓Ad t19,↓Ad t30,↓Cc,w01];exact h9
   | succ i =>
    simp only [Fg,bK,spq,Tm.op,Tm.n,Ag,ACa,ACb] at v0 t19 t30 h9 ⊢;simp (maxSteps:=1000000) only [↓UU1,↓XX,XY,↓reduceIte,seval,hi,↓AqV,↓De,↓Ap v0,↓Ad t19,↓Ad t30,↓GY,hwi];exact h9
  ·have hij:i=j:=by omega
   subst hij;have hi:¬ (i:Int)<i:=by omega
   clear hrec;rw [hT] at hck h3 h4 t28;clear hw h1 fr hj tsc tdp hj20 hik hij hT;generalize hJ:(i:Int)=J at *;have hi:¬ J<J:=by omega
   clear hJ;cases is
   ·clear h3 hck h4 s1 s2 sz1 sz2;cases i<;>(simp only [FY,Fg,bK,spq,Tm.op,Tm.n,Ag,ACa,ACb] at t28 ⊢;simp (maxSteps:=1000000) only [↓UU1,↓XX,XY,↓reduceIte,seval,hi,Bool.or_self,Bool.or_true,Bool.true_or,↓Cc,↓GY,↓Ad t28];exact QJ)
   rcases he1 with rfl | rfl | rfl
   case inr.inl =>
    clear h3 hck h4 s1 s2 sz1 sz2;cases i<;>(simp only [FY,Fg,bK,spq,Tm.op,Tm.n,Ag,ACa,ACb] at t28 ⊢;simp (maxSteps:=1000000) only [↓UU1,↓XX,XY,↓reduceIte,seval,hi,Bool.or_self,Bool.or_true,Bool.true_or,↓Cc,↓GY,↓Ad t28,↓Ap hv1];exact QJ)
   case inr.inr =>
    clear h3 hck h4 s1 s2 sz1 sz2;cases i<;>(simp only [FY,Fg,bK,spq,Tm.op,Tm.n,Ag,ACa,ACb] at t28 ⊢;simp (maxSteps:=1000000) only [↓UU1,↓XX,XY,↓reduceIte,seval,hi,Bool.or_self,Bool.or_true,Bool.true_or,↓Cc,↓GY,↓Ad t28,↓Ap hv1];exact QJ)
   generalize (((Tm.mk o4 x4 k4).wt:Nat):Int)=W at sz1;by_cases hbig:1000<W
   ·clear h3 hck h4 s1 s2 sz2;cases i<;>(simp only [FY,Fg,bK,spq,Tm.op,Tm.n,Ag,ACa,ACb] at t28 sz1 ⊢;simp (maxSteps:=1000000) only [↓UU1,↓XX,XY,↓reduceIte,seval,hi,Bool.or_self,Bool.or_true,Bool.true_or,↓Cc,↓GY,↓Ad t28,↓Ap hv1,Bool.or_false,↓Ap sz1,hbig];exact QJ)
   by_cases hc0:ck=0
   case neg =>
    clear h3 h4 s1 s2 sz2;cases i<;>(simp only [FY,Fg,bK,spq,Tm.op,Tm.n,Ag,ACa,ACb] at t28 sz1 hck ⊢;simp (maxSteps:=1000000) only [↓UU1,↓XX,XY,↓reduceIte,seval,hi,Bool.or_self,Bool.or_true,Bool.true_or,↓Cc,↓GY,↓Ad t28,↓Ap hv1,Bool.or_false,↓Ap sz1,hbig,↓Ap hck,hc0];exact QJ)
   subst hc0;rcases he2 with rfl | rfl | rfl
   case inr.inl =>
    clear h3 s1 s2 sz2;cases i<;>(simp only [FY,Fg,bK,spq,Tm.op,Tm.n,Ag,ACa,ACb] at t28 sz1 hck h4 ⊢;simp (maxSteps:=1000000) only [↓UU1,↓XX,XY,↓reduceIte,seval,hi,Bool.or_self,Bool.or_true,Bool.true_or,↓Cc,↓GY,↓Ad t28,↓Ap hv1,Bool.or_false,↓Ap sz1,hbig,↓Ap hck,↓Ap h4,↓Ap hv2];exact QJ)
   case inr.inr =>
    clear h3 s1 s2 sz2;cases i<;>(simp only [FY,Fg,bK,spq,Tm.op,Tm.n,Ag,ACa,ACb] at t28 sz1 hck h4 ⊢;simp (maxSteps:=1000000) only [↓UU1,↓XX,XY,↓reduceIte,seval,hi,Bool.or_self,Bool.or_true,Bool.true_or,↓Cc,↓GY,↓Ad t28,↓Ap hv1,Bool.or_false,↓Ap sz1,hbig,↓Ap hck,↓Ap h4,↓Ap hv2];exact QJ)
   obtain ⟨st,ki,hv,hg⟩:=h3 rfl rfl rfl rfl;clear h3;rcases hg with hg | ⟨rfl,rfl⟩
   ·have hvt:(decide (gg=17) || decide (gg=5))=true:=by rcases hg with rfl | rfl<;>rfl
    rw [hvt] at hv;clear s2 hg hvt;obtain ⟨o9,x9,k9⟩:=a;cases i<;>(simp only [FY,Fg,bK,spq,Tm.op,Tm.n,Ag,ACa,ACb] at t28 sz1 hck h4 st ki s1 sz2 ⊢;simp (maxSteps:=1000000) only [↓UU1,↓XX,XY,↓reduceIte,seval,hi,Bool.or_self,Bool.or_true,Bool.true_or,↓Cc,↓GY,↓Ad t28,↓Ap hv1,Bool.or_false,↓Ap sz1,hbig,↓Ap hck,↓Ap h4,↓Ap hv2,↓Ap st,↓AA ki,↓Ap hv,↓Ad s1,↓Ap sz2,w1,w2];exact QJ)
   ·simp only [Bh] at ki s2;cases i<;>(simp only [FY,Fg,bK,spq,Tm.op,Tm.n,Ag,ACa,ACb] at t28 sz1 hck h4 st ki s1 s2 sz2 ⊢;simp (maxSteps:=1000000) only [↓UU1,↓XX,XY,↓reduceIte,seval,hi,Bool.or_self,Bool.or_true,Bool.true_or,↓Cc,↓GY,↓Ad t28,↓Ap hv1,Bool.or_false,↓Ap sz1,hbig,↓Ap hck,↓Ap h4,↓Ap hv2,↓Ap st,↓AA ki,↓Ap hv,↓Ad s1,↓Ap sz2,↓Ad s2,w1,w2];exact QJ)
 obtain ⟨o5,x5,k5⟩:=t;have loop:=loop _ _ _ rfl;clear h3 h4 hck t28;simp only [Ag,ACa,Bh] at fr h1 h2 t15 v0 ⊢;have hq:=fun (h:Hp) (kk:KT (IV×Hp))=>Au (a:=.nils) (b:=.fv (.agg [.int .i64 15,.int .i64 0,.sl []])) (c:=.fv (.agg [.int .i64 o1,.int .i64 x1,.sl (k1.map Tm.enc)])) (d:=.fv (.int .i64 3)) h1 rfl rfl rfl rfl h kk;simp (maxSteps:=1000000) only [NF,ND,OA,On,NM,NW,NY,NA,Nx,NO,NB,Og,Oi,Nv,NV,Ox,Ny,Nf,Ol,NJ,NP,Oo,NK,Oc,Oh,OB,Oz,S10,↓XX,XY,↓reduceIte,seval,↓Ir hk,↓Ap fr,↓Ad t15,↓hq,↓Ap h2,↓Ad hw,↓Ap v0];exact loop
end Idl
end Go.Proofs.Ytkfecngimlcfoaa

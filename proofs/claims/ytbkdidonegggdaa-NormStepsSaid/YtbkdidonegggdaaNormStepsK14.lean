/-
  Texts of a proof, part 14: an ideal semantics of the program, its functions in shallow form, contracts of them. No statement of the seat is proved here.
-/
import Derived.Test.YtbkdidonegggdaaNormStepsK13
set_option linter.all false
noncomputable section
namespace Go.Proofs.Ytbkdidonegggdaa
namespace Idl
theorem AcZ {t u:Tm} {k:Nat} (ok:Bool) (tsc:t.sc k) (usc:u.sc k) (hk:k≤1000) (h:ok=true→∃G s,HasT G t s∧HasT G u s∧Pars t u) :
  ∃X Y eX eY N,(eX=0∨eX=5∨eX=17)∧(eY=0∨eY=5∨eY=17)∧X.wt≤3000∧Y.wt≤3000∧((t.chk 0 1).2=0→(u.chk 0 1).2=0→∀n,N≤n→Bk (SS dt n 18 [.fv t.enc] ⟨[],[]⟩) (.tuple [Tm.enc X,.int .i64 eX])∧Bk (SS dt n 18 [.fv u.enc] ⟨[],[]⟩) (.tuple [Tm.enc Y,.int .i64 eY]) ∧
   (ok=true→eX=0→eY=0→Bk (SS dt n 20 [.fv t.enc] ⟨[],[]⟩) (.tuple [Tm.enc X,.int .i64 0])∧Bk (SS dt n 20 [.fv u.enc] ⟨[],[]⟩) (.tuple [Tm.enc X,.int .i64 0]))):=by
 have zw:Tm.z.wt≤3000:=by simp [Tm.z,Tm.wt,Tm.wtL]
 by_cases hc:(t.chk 0 1).2=0∧(u.chk 0 1).2=0
 ·obtain ⟨hc1,hc2⟩:=hc;have tw:=(AfS hc1).1;have uw:=(AfS hc2).1;obtain ⟨X,eX,⟨N1,k1⟩,cX,fX,hfX⟩:=HO hk tsc (by have:=MV t;omega);obtain ⟨Y,eY,⟨N2,k2⟩,cY,fY,hfY⟩:=HO hk usc (by have:=MV u;omega);have hX:X.wt≤3000:=by
   rcases cX with ⟨_,h⟩ | ⟨_,rfl⟩
   ·exact h.wt
   ·exact zw
  have hY:Y.wt≤3000:=by
   rcases cY with ⟨_,h⟩ | ⟨_,rfl⟩
   ·exact h.wt
   ·exact zw
  have jX:eX=0∨eX=5∨eX=17:=by
   rcases cX with ⟨h,_⟩ | ⟨h,_⟩
   ·exact .inl h
   ·exact .inr h
  have jY:eY=0∨eY=5∨eY=17:=by
   rcases cY with ⟨h,_⟩ | ⟨h,_⟩
   ·exact .inl h
   ·exact .inr h
  by_cases hh:ok=true∧eX=0∧eY=0
  ·obtain ⟨hok,rfl,rfl⟩:=hh;obtain ⟨G,s,ht,hu,hp⟩:=h hok;have hXY:=Ajk hfX hfY tsc usc ht hu hp;subst hXY;obtain ⟨N3,k3⟩:=AjD ht tsc (by omega) tw hfX;obtain ⟨N4,k4⟩:=AjD hu usc (by omega) uw hfY;exact ⟨X,X,0,0,N1+N2+N3+N4,jX,jY,hX,hY,fun _ _ n hn=>⟨k1 n (by omega),k2 n (by omega),fun _ _ _=>⟨k3 n (by omega),k4 n (by omega)⟩⟩⟩
  ·exact ⟨X,Y,eX,eY,N1+N2,jX,jY,hX,hY,fun _ _ n hn=>⟨k1 n (by omega),k2 n (by omega),fun a b c=>absurd ⟨a,b,c⟩ hh⟩⟩
 ·exact ⟨.z,.z,0,0,0,.inl rfl,.inl rfl,zw,zw,fun a b=>absurd ⟨a,b⟩ hc⟩
theorem L0 {e:Int} (h:e=5∨e=17):(decide (e=17) || decide (e=5))=true:=by rcases h with rfl | rfl<;>rfl
theorem L4 {e:Int} (h:e=0):(decide (e=17) || decide (e=5))=false:=by rw [h];rfl
structure StepsC (n:Nat) (le ge:FV) (r q s a x nn:Tm) (p f:Bool) (which:Int) (w:Int):Prop where
 hk:Bk (SS dt n 14 [] ⟨[],[]⟩) (.bool true)
 hm:Bk (SS dt n 15 [.fv le] ⟨[],[]⟩) (.bool true)
 fr:Bk (SS dt n 16 [.fv r.enc] ⟨[],[]⟩) (.bool true)
 fq:Bk (SS dt n 16 [.fv q.enc] ⟨[],[]⟩) (.bool true)
 fs:Bk (SS dt n 16 [.fv s.enc] ⟨[],[]⟩) (.bool true)
 hctx:Bk (SS dt n 24 [.fv le] ⟨[],[]⟩) ge
 h1:Bk (SS dt n 25 [.fv ge,.fv q.enc,iv 1] ⟨[],[]⟩) a.enc
 h2:Bk (SS dt n 26 [.fv ge,.fv a.enc,.fv r.enc,iv 4] ⟨[],[]⟩) (.tuple [x.enc,.bool p])
 hnat:Bk (SS dt n 27 [iv 10,.fv (.sl [])] ⟨[],[]⟩) (Tm.mk 10 0 []).enc
 h3:Bk (SS dt n 26 [.fv ge,.fv (Tm.mk 10 0 []).enc,.fv s.enc,iv 3] ⟨[],[]⟩) (.tuple [nn.enc,.bool f])
 hw:Bk (SS dt n 28 [iv which,iv 6] ⟨[],[]⟩) (.int .i64 w)
structure StepsT (n:Nat) (t u:Tm) (ok:Bool) (X Y:Tm) (eX eY ck1 ck2:Int):Prop where
 c1:Bk (SS dt n 22 [.fv t.enc] ⟨[],[]⟩) (.int .i64 ck1)
 c2:Bk (SS dt n 22 [.fv u.enc] ⟨[],[]⟩) (.int .i64 ck2)
 j:ck1=0→ck2=0→Bk (SS dt n 18 [.fv t.enc] ⟨[],[]⟩) (.tuple [Tm.enc X,.int .i64 eX])∧Bk (SS dt n 18 [.fv u.enc] ⟨[],[]⟩) (.tuple [Tm.enc Y,.int .i64 eY]) ∧
   (ok=true→eX=0→eY=0→Bk (SS dt n 20 [.fv t.enc] ⟨[],[]⟩) (.tuple [Tm.enc X,.int .i64 0])∧Bk (SS dt n 20 [.fv u.enc] ⟨[],[]⟩) (.tuple [Tm.enc X,.int .i64 0]))
 jX:eX=0∨eX=5∨eX=17
 jY:eY=0∨eY=5∨eY=17
 w1:Bk (SS dt n 19 [iv eX] ⟨[],[]⟩) (.bool (decide (eX=17) || decide (eX=5)))
 w2:Bk (SS dt n 19 [iv eY] ⟨[],[]⟩) (.bool (decide (eY=17) || decide (eY=5)))
 sm:Bk (SS dt n 21 [.fv X.enc,.fv X.enc] ⟨[],[]⟩) (.bool true)
theorem K8 {t u:Tm} {k:Nat} (ok:Bool) (tsc:t.sc k) (usc:u.sc k) (hk:k≤1000) (h:ok=true→∃G s,HasT G t s∧HasT G u s∧Pars t u):∃X Y eX eY ck1 ck2 N,∀n,N≤n→StepsT n t u ok X Y eX eY ck1 ck2:=by
 obtain ⟨X,Y,eX,eY,N,jX,jY,hX,hY,hN⟩:=AcZ ok tsc usc hk h;refine ⟨X,Y,eX,eY,_,_,N+2 * t.wt+2 * u.wt+10000,fun n hn=>⟨Uf (n:=n) t (by omega),Uf (n:=n) u (by omega),fun a b=>hN a b n (by omega),jX,jY,Uh (by omega) eX,Uh (by omega) eY,?_⟩⟩;have s1:=Mj n X X (by omega) (by omega);rwa [(PY X X).2 rfl] at s1
theorem AmJ {n:Nat} (hn:0<n):Bk (SS dt n 27 [iv 10,.fv (.sl [])] ⟨[],[]⟩) (Tm.mk 10 0 []).enc:=Dw (n:=n) hn 10
def Lx (t:Tm):Blk:=.row [iv t.op,iv t.n,.fv (.sl (t.kids.map Tm.enc))] false
set_option maxRecDepth 20000 in
set_option maxHeartbeats 16000000 in
theorem Ef {n:Nat} {le ge:FV} {r q s a x nn:Tm} {p f:Bool} {which w:Int} (C:StepsC n le ge r q s a x nn p f which w):SS dt (n+1) 5 [.fv le,.fv r.enc,.fv q.enc,.fv s.enc,iv which] ⟨[],[]⟩=Rz (SS dt n) ⟨[(5242880,Lx r),(5242881,Lx q),(5242882,Lx s),(5249027,Lx a),(5250055,Lx x),(5251073,Lx (.mk 10 0 [])),(5252103,Lx nn),(5253120,.row [iv 0,iv 0,.nils] false),(5253121,.row [iv 0,iv 0,.nils] false)],[]⟩ (iv which) (.ptr (.own 5249027) 0) (.fv ge) (.ptr (.own 5251073) 0) (.ptr (.own 5242882) 0) (.fv (.bool p)) (.ptr (.own 5250055) 0) (.ptr (.own 5253120) 0) (.ptr (.own 5253121) 0) (fun x156 h157=>VG x156 h157 (.fv (.bool f)) (.ptr (.own 5253120) 0) (SS dt n) (.ptr (.own 5253121) 0)) (.ptr (.own 5252103) 0) (.ptr (.own 5242881) 0):=by
 obtain ⟨hk,hm,fr,fq,fs,hctx,h1,h2,hnat,h3,hw⟩:=C;rw [c5];obtain ⟨or,nr,kr⟩:=r;obtain ⟨oq,nq,kq⟩:=q;obtain ⟨os,ns,ks⟩:=s;obtain ⟨oa,na,ka⟩:=a;obtain ⟨ox,nx,kx⟩:=x;obtain ⟨on,nn,kn⟩:=nn;simp only [An,Atg] at fr fq fs h1 h2 hnat h3 ⊢;simp (maxSteps:=2000000) only [QM,SY,Sw,SJ,R2,Qi,Rc,SA,RH,QA,Qw,Ps,RO,QE,ST,SK,Ql,SX,PB,Qr,Pv,Sk,RW,Tk,SN,P9,Rr,Qa,To,Qc,SR,Q2,Rf,Q3,Q0,Tf,Se,RB,P2,Pw,RA,Q6,Rm,S6,RG,Q4,PN,PQ,Qg,Sg,QT,Re,Qn,QL,Rw,Ti,QS,Sy,SL,Qz,SQ,P4,Q9,Pu,Qo,P8,Tc,S5,↓XX,XY,↓reduceIte,Nat.reduceBEq,Nat.reduceAdd,Int.reduceEq,Int.reduceLT,Int.reduceLE,↓Gm hk,↓Am hm,↓Am fr,↓Am fq,↓Am fs,↓Am hctx,↓Au h1,↓Az h2,↓Ad hnat,↓Az h3];rfl
set_option maxRecDepth 20000 in
set_option maxHeartbeats 16000000 in
theorem Afe {n:Nat} (hn:0<n) {le ge:FV} {r q s a x nn:Tm} {p f:Bool} {which:Int} (C:StepsC n le ge r q s a x nn p f which 0) {ge':FV} {b U:Tm} {is:Bool} (hmore:Bk (SS dt n 29 [.fv ge,iv 1,.fv a.enc] ⟨[],[]⟩) ge') (hg:Bk (SS dt n 26 [.fv ge',.fv (Tm.mk 10 0 []).enc,.fv s.enc,iv 3] ⟨[],[]⟩) (.tuple [b.enc,.bool is])) (hs:Bk (SS dt n 30 [.fv b.enc,iv 0,.fv x.enc] ⟨[],[]⟩) U.enc)
  {X Y:Tm} {eX eY ck1 ck2:Int} (T:StepsT n (.mk 5 0 [.mk 4 0 [a,b],x]) U (p && is && f) X Y eX eY ck1 ck2):Rk (SS dt (n+1) 5 [.fv le,.fv r.enc,.fv q.enc,.fv s.enc,iv which] ⟨[],[]⟩) (.bool true):=by
 rw [Ef C];obtain ⟨hk,hm,fr,fq,fs,hctx,h1,h2,hnat,h3,hw⟩:=C;obtain ⟨c1,c2,j,jX,jY,w1,w2,sm⟩:=T;clear hk hm fr fq fs hctx h1 h2 hnat h3;have t4:=B3 (n:=n) hn 4 [a,b];have t5:=B3 (n:=n) hn 5 [.mk 4 0 [a,b],x];obtain ⟨or,nr,kr⟩:=r;obtain ⟨oq,nq,kq⟩:=q;obtain ⟨os,ns,ks⟩:=s;obtain ⟨oa,na,ka⟩:=a;obtain ⟨ox,nx,kx⟩:=x;obtain ⟨onn,nnn,knn⟩:=nn;obtain ⟨ob,nb,kb⟩:=b;obtain ⟨oU,nU,kU⟩:=U;obtain ⟨oX,nX,kX⟩:=X;obtain ⟨oY,nY,kY⟩:=Y;simp only [An,Ath,Atg,Lx,Tm.op,Tm.n,Tm.kids] at c1 c2 j sm hg hmore hs t4 t5 ⊢;by_cases hok:p=true∧is=true∧f=true
 ·obtain ⟨
      rfl,rfl,rfl⟩:=hok
  simp (maxSteps:=2000000) only [↓I5,↓XX,XY,↓reduceIte,Nat.reduceBEq,Nat.reduceAdd,Int.reduceEq,Int.reduceLT,Int.reduceLE,↓Av,XD,heldB,AB,XE,Fh,↓Ad hw,↓Au hmore,↓Az hg,↓Au hs,↓BD,↓Ad t4,↓Ad t5];by_cases z1:ck1=0
  ·by_cases z2:ck2=0
   ·obtain ⟨j1,j2,j3⟩:=j z1 z2;rcases jX with jX | jX
    ·rw [L4 jX] at w1;rcases jY with jY | jY
     ·rw [L4 jY] at w2;obtain ⟨i1,i2⟩:=j3 rfl jX jY;clear j j3;simp (maxSteps:=2000000) only [↓C9,↓XX,XY,↓reduceIte,Nat.reduceBEq,Nat.reduceAdd,Int.reduceEq,Int.reduceLT,Int.reduceLE,↓Am c1,z1,↓Am c2,z2,↓Am j1,↓Am j2,↓Am w1,↓Am w2,↓Am i1,↓Am i2,↓Ad sm];exact Bl
     ·rw [L0 jY] at w2;clear j j3;simp (maxSteps:=2000000) only [↓C9,↓XX,XY,↓reduceIte,Nat.reduceBEq,Nat.reduceAdd,Int.reduceEq,Int.reduceLT,Int.reduceLE,↓Am c1,z1,↓Am c2,z2,↓Am j1,↓Am j2,↓Am w1,↓Am w2];exact Bl
    ·rw [L0 jX] at w1;clear j j3;simp (maxSteps:=2000000) only [↓C9,↓XX,XY,↓reduceIte,Nat.reduceBEq,Nat.reduceAdd,Int.reduceEq,Int.reduceLT,Int.reduceLE,↓Am c1,z1,↓Am c2,z2,↓Am j1,↓Am j2,↓Am w1];exact Bl
   ·clear j;simp (maxSteps:=2000000) only [↓C9,↓XX,XY,↓reduceIte,Nat.reduceBEq,Nat.reduceAdd,Int.reduceEq,Int.reduceLT,Int.reduceLE,↓Am c1,z1,↓Am c2,z2];exact Bl
  ·clear j;simp (maxSteps:=2000000) only [↓C9,↓XX,XY,↓reduceIte,Nat.reduceBEq,Nat.reduceAdd,Int.reduceEq,Int.reduceLT,Int.reduceLE,↓Am c1,z1];exact Bl
 ·clear j;cases p
  ·cases is
   ·cases f
    ·simp (maxSteps:=2000000) only [↓I5,↓XX,XY,↓reduceIte,Nat.reduceBEq,Nat.reduceAdd,Int.reduceEq,Int.reduceLT,Int.reduceLE,↓Av,XD,heldB,AB,XE,Fh,↓Ad hw,↓Au hmore,↓Az hg,↓Au hs,↓BD,↓Ad t4,↓Ad t5];simp (maxSteps:=2000000) only [↓C9,↓XX,XY,↓reduceIte,Nat.reduceBEq,Nat.reduceAdd,Int.reduceEq,Int.reduceLT,Int.reduceLE];exact Bl
    ·simp (maxSteps:=2000000) only [↓I5,↓XX,XY,↓reduceIte,Nat.reduceBEq,Nat.reduceAdd,Int.reduceEq,Int.reduceLT,Int.reduceLE,↓Av,XD,heldB,AB,XE,Fh,↓Ad hw,↓Au hmore,↓Az hg,↓Au hs,↓BD,↓Ad t4,↓Ad t5];simp (maxSteps:=2000000) only [↓C9,↓XX,XY,↓reduceIte,Nat.reduceBEq,Nat.reduceAdd,Int.reduceEq,Int.reduceLT,Int.reduceLE];exact Bl
   ·cases f
    ·simp (maxSteps:=2000000) only [↓I5,↓XX,XY,↓reduceIte,Nat.reduceBEq,Nat.reduceAdd,Int.reduceEq,Int.reduceLT,Int.reduceLE,↓Av,XD,heldB,AB,XE,Fh,↓Ad hw,↓Au hmore,↓Az hg,↓Au hs,↓BD,↓Ad t4,↓Ad t5];simp (maxSteps:=2000000) only [↓C9,↓XX,XY,↓reduceIte,Nat.reduceBEq,Nat.reduceAdd,Int.reduceEq,Int.reduceLT,Int.reduceLE];exact Bl
    ·simp (maxSteps:=2000000) only [↓I5,↓XX,XY,↓reduceIte,Nat.reduceBEq,Nat.reduceAdd,Int.reduceEq,Int.reduceLT,Int.reduceLE,↓Av,XD,heldB,AB,XE,Fh,↓Ad hw,↓Au hmore,↓Az hg,↓Au hs,↓BD,↓Ad t4,↓Ad t5];simp (maxSteps:=2000000) only [↓C9,↓XX,XY,↓reduceIte,Nat.reduceBEq,Nat.reduceAdd,Int.reduceEq,Int.reduceLT,Int.reduceLE];exact Bl
  ·cases is
   ·cases f
    ·simp (maxSteps:=2000000) only [↓I5,↓XX,XY,↓reduceIte,Nat.reduceBEq,Nat.reduceAdd,Int.reduceEq,Int.reduceLT,Int.reduceLE,↓Av,XD,heldB,AB,XE,Fh,↓Ad hw,↓Au hmore,↓Az hg,↓Au hs,↓BD,↓Ad t4,↓Ad t5];simp (maxSteps:=2000000) only [↓C9,↓XX,XY,↓reduceIte,Nat.reduceBEq,Nat.reduceAdd,Int.reduceEq,Int.reduceLT,Int.reduceLE];exact Bl
    ·simp (maxSteps:=2000000) only [↓I5,↓XX,XY,↓reduceIte,Nat.reduceBEq,Nat.reduceAdd,Int.reduceEq,Int.reduceLT,Int.reduceLE,↓Av,XD,heldB,AB,XE,Fh,↓Ad hw,↓Au hmore,↓Az hg,↓Au hs,↓BD,↓Ad t4,↓Ad t5];simp (maxSteps:=2000000) only [↓C9,↓XX,XY,↓reduceIte,Nat.reduceBEq,Nat.reduceAdd,Int.reduceEq,Int.reduceLT,Int.reduceLE];exact Bl
   ·cases f
    ·simp (maxSteps:=2000000) only [↓I5,↓XX,XY,↓reduceIte,Nat.reduceBEq,Nat.reduceAdd,Int.reduceEq,Int.reduceLT,Int.reduceLE,↓Av,XD,heldB,AB,XE,Fh,↓Ad hw,↓Au hmore,↓Az hg,↓Au hs,↓BD,↓Ad t4,↓Ad t5];simp (maxSteps:=2000000) only [↓C9,↓XX,XY,↓reduceIte,Nat.reduceBEq,Nat.reduceAdd,Int.reduceEq,Int.reduceLT,Int.reduceLE];exact Bl
    ·exact absurd (by simp) hok
set_option maxRecDepth 20000 in
set_option maxHeartbeats 16000000 in
theorem Agm {n:Nat} (hn:0<n) {le ge:FV} {r q s a x nn:Tm} {p f:Bool} {which:Int} (C:StepsC n le ge r q s a x nn p f which 1)
  {X Y:Tm} {eX eY ck1 ck2:Int} (T:StepsT n (.mk 8 0 [.mk 7 0 [.mk 6 0 [a,.mk 10 0 []],x,nn]]) x (p && f) X Y eX eY ck1 ck2):Rk (SS dt (n+1) 5 [.fv le,.fv r.enc,.fv q.enc,.fv s.enc,iv which] ⟨[],[]⟩) (.bool true):=by
 rw [Ef C];obtain ⟨hk,hm,fr,fq,fs,hctx,h1,h2,hnat,h3,hw⟩:=C;obtain ⟨c1,c2,j,jX,jY,w1,w2,sm⟩:=T;clear hk hm fr fq fs hctx h1 h2 hnat h3;have t6:=B3 (n:=n) hn 6 [a,.mk 10 0 []];have t7:=B3 (n:=n) hn 7 [.mk 6 0 [a,.mk 10 0 []],x,nn];have t8:=B3 (n:=n) hn 8 [.mk 7 0 [.mk 6 0 [a,.mk 10 0 []],x,nn]];obtain ⟨or,nr,kr⟩:=r;obtain ⟨oq,nq,kq⟩:=q;obtain ⟨os,ns,ks⟩:=s;obtain ⟨oa,na,ka⟩:=a;obtain ⟨ox,nx,kx⟩:=x;obtain ⟨onn,nnn,knn⟩:=nn;obtain ⟨oX,nX,kX⟩:=X;obtain ⟨oY,nY,kY⟩:=Y;simp only [An,Ath,Atg,Lx,Tm.op,Tm.n,Tm.kids] at c1 c2 j sm t6 t7 t8 ⊢;by_cases hok:p=true∧f=true
 ·obtain ⟨
      rfl,rfl⟩:=hok
  simp (maxSteps:=2000000) only [↓I5,↓XX,XY,↓reduceIte,Nat.reduceBEq,Nat.reduceAdd,Int.reduceEq,Int.reduceLT,Int.reduceLE,↓Av,XD,heldB,AB,XE,Fh,↓Ad hw,↓Bw,↓BD,↓EQ,↓Ad t6,↓Ad t7,↓Ad t8];by_cases z1:ck1=0
  ·by_cases z2:ck2=0
   ·obtain ⟨j1,j2,j3⟩:=j z1 z2;rcases jX with jX | jX
    ·rw [L4 jX] at w1;rcases jY with jY | jY
     ·rw [L4 jY] at w2;obtain ⟨i1,i2⟩:=j3 rfl jX jY;clear j j3;simp (maxSteps:=2000000) only [↓C9,↓XX,XY,↓reduceIte,Nat.reduceBEq,Nat.reduceAdd,Int.reduceEq,Int.reduceLT,Int.reduceLE,↓Am c1,z1,↓Am c2,z2,↓Am j1,↓Am j2,↓Am w1,↓Am w2,↓Am i1,↓Am i2,↓Ad sm];exact Bl
     ·rw [L0 jY] at w2;clear j j3;simp (maxSteps:=2000000) only [↓C9,↓XX,XY,↓reduceIte,Nat.reduceBEq,Nat.reduceAdd,Int.reduceEq,Int.reduceLT,Int.reduceLE,↓Am c1,z1,↓Am c2,z2,↓Am j1,↓Am j2,↓Am w1,↓Am w2];exact Bl
    ·rw [L0 jX] at w1;clear j j3;simp (maxSteps:=2000000) only [↓C9,↓XX,XY,↓reduceIte,Nat.reduceBEq,Nat.reduceAdd,Int.reduceEq,Int.reduceLT,Int.reduceLE,↓Am c1,z1,↓Am c2,z2,↓Am j1,↓Am j2,↓Am w1];exact Bl
   ·clear j;simp (maxSteps:=2000000) only [↓C9,↓XX,XY,↓reduceIte,Nat.reduceBEq,Nat.reduceAdd,Int.reduceEq,Int.reduceLT,Int.reduceLE,↓Am c1,z1,↓Am c2,z2];exact Bl
  ·clear j;simp (maxSteps:=2000000) only [↓C9,↓XX,XY,↓reduceIte,Nat.reduceBEq,Nat.reduceAdd,Int.reduceEq,Int.reduceLT,Int.reduceLE,↓Am c1,z1];exact Bl
 ·clear j;cases p
  ·cases f
   ·simp (maxSteps:=2000000) only [↓I5,↓XX,XY,↓reduceIte,Nat.reduceBEq,Nat.reduceAdd,Int.reduceEq,Int.reduceLT,Int.reduceLE,↓Av,XD,heldB,AB,XE,Fh,↓Ad hw,↓Bw,↓BD,↓EQ,↓Ad t6,↓Ad t7,↓Ad t8];simp (maxSteps:=2000000) only [↓C9,↓XX,XY,↓reduceIte,Nat.reduceBEq,Nat.reduceAdd,Int.reduceEq,Int.reduceLT,Int.reduceLE];exact Bl
   ·simp (maxSteps:=2000000) only [↓I5,↓XX,XY,↓reduceIte,Nat.reduceBEq,Nat.reduceAdd,Int.reduceEq,Int.reduceLT,Int.reduceLE,↓Av,XD,heldB,AB,XE,Fh,↓Ad hw,↓Bw,↓BD,↓EQ,↓Ad t6,↓Ad t7,↓Ad t8];simp (maxSteps:=2000000) only [↓C9,↓XX,XY,↓reduceIte,Nat.reduceBEq,Nat.reduceAdd,Int.reduceEq,Int.reduceLT,Int.reduceLE];exact Bl
  ·cases f
   ·simp (maxSteps:=2000000) only [↓I5,↓XX,XY,↓reduceIte,Nat.reduceBEq,Nat.reduceAdd,Int.reduceEq,Int.reduceLT,Int.reduceLE,↓Av,XD,heldB,AB,XE,Fh,↓Ad hw,↓Bw,↓BD,↓EQ,↓Ad t6,↓Ad t7,↓Ad t8];simp (maxSteps:=2000000) only [↓C9,↓XX,XY,↓reduceIte,Nat.reduceBEq,Nat.reduceAdd,Int.reduceEq,Int.reduceLT,Int.reduceLE];exact Bl
   ·exact absurd (by simp) hok
set_option maxRecDepth 20000 in
set_option maxHeartbeats 16000000 in
theorem Afc {n:Nat} (hn:0<n) {le ge:FV} {r q s a x nn:Tm} {p f:Bool} {which:Int} (C:StepsC n le ge r q s a x nn p f which 2)
  {X Y:Tm} {eX eY ck1 ck2:Int} (T:StepsT n (.mk 9 0 [.mk 7 0 [.mk 6 0 [a,.mk 10 0 []],x,nn]]) nn (p && f) X Y eX eY ck1 ck2):Rk (SS dt (n+1) 5 [.fv le,.fv r.enc,.fv q.enc,.fv s.enc,iv which] ⟨[],[]⟩) (.bool true):=by
 rw [Ef C];obtain ⟨hk,hm,fr,fq,fs,hctx,h1,h2,hnat,h3,hw⟩:=C;obtain ⟨c1,c2,j,jX,jY,w1,w2,sm⟩:=T;clear hk hm fr fq fs hctx h1 h2 hnat h3;have t6:=B3 (n:=n) hn 6 [a,.mk 10 0 []];have t7:=B3 (n:=n) hn 7 [.mk 6 0 [a,.mk 10 0 []],x,nn];have t8:=B3 (n:=n) hn 9 [.mk 7 0 [.mk 6 0 [a,.mk 10 0 []],x,nn]];obtain ⟨or,nr,kr⟩:=r;obtain ⟨oq,nq,kq⟩:=q;obtain ⟨os,ns,ks⟩:=s;obtain ⟨oa,na,ka⟩:=a;obtain ⟨ox,nx,kx⟩:=x;obtain ⟨onn,nnn,knn⟩:=nn;obtain ⟨oX,nX,kX⟩:=X;obtain ⟨oY,nY,kY⟩:=Y;simp only [An,Ath,Atg,Lx,Tm.op,Tm.n,Tm.kids] at c1 c2 j sm t6 t7 t8 ⊢;by_cases hok:p=true∧f=true
 ·obtain ⟨
      rfl,rfl⟩:=hok
  simp (maxSteps:=2000000) only [↓I5,↓XX,XY,↓reduceIte,Nat.reduceBEq,Nat.reduceAdd,Int.reduceEq,Int.reduceLT,Int.reduceLE,↓Av,XD,heldB,AB,XE,Fh,↓Ad hw,↓Bw,↓BD,↓EQ,↓Ad t6,↓Ad t7,↓Ad t8];by_cases z1:ck1=0
  ·by_cases z2:ck2=0
   ·obtain ⟨j1,j2,j3⟩:=j z1 z2;rcases jX with jX | jX
    ·rw [L4 jX] at w1;rcases jY with jY | jY
     ·rw [L4 jY] at w2;obtain ⟨i1,i2⟩:=j3 rfl jX jY;clear j j3;simp (maxSteps:=2000000) only [↓C9,↓XX,XY,↓reduceIte,Nat.reduceBEq,Nat.reduceAdd,Int.reduceEq,Int.reduceLT,Int.reduceLE,↓Am c1,z1,↓Am c2,z2,↓Am j1,↓Am j2,↓Am w1,↓Am w2,↓Am i1,↓Am i2,↓Ad sm];exact Bl
     ·rw [L0 jY] at w2;clear j j3;simp (maxSteps:=2000000) only [↓C9,↓XX,XY,↓reduceIte,Nat.reduceBEq,Nat.reduceAdd,Int.reduceEq,Int.reduceLT,Int.reduceLE,↓Am c1,z1,↓Am c2,z2,↓Am j1,↓Am j2,↓Am w1,↓Am w2];exact Bl
    ·rw [L0 jX] at w1;clear j j3;simp (maxSteps:=2000000) only [↓C9,↓XX,XY,↓reduceIte,Nat.reduceBEq,Nat.reduceAdd,Int.reduceEq,Int.reduceLT,Int.reduceLE,↓Am c1,z1,↓Am c2,z2,↓Am j1,↓Am j2,↓Am w1];exact Bl
   ·clear j;simp (maxSteps:=2000000) only [↓C9,↓XX,XY,↓reduceIte,Nat.reduceBEq,Nat.reduceAdd,Int.reduceEq,Int.reduceLT,Int.reduceLE,↓Am c1,z1,↓Am c2,z2];exact Bl
  ·clear j;simp (maxSteps:=2000000) only [↓C9,↓XX,XY,↓reduceIte,Nat.reduceBEq,Nat.reduceAdd,Int.reduceEq,Int.reduceLT,Int.reduceLE,↓Am c1,z1];exact Bl
 ·clear j;cases p
  ·cases f
   ·simp (maxSteps:=2000000) only [↓I5,↓XX,XY,↓reduceIte,Nat.reduceBEq,Nat.reduceAdd,Int.reduceEq,Int.reduceLT,Int.reduceLE,↓Av,XD,heldB,AB,XE,Fh,↓Ad hw,↓Bw,↓BD,↓EQ,↓Ad t6,↓Ad t7,↓Ad t8];simp (maxSteps:=2000000) only [↓C9,↓XX,XY,↓reduceIte,Nat.reduceBEq,Nat.reduceAdd,Int.reduceEq,Int.reduceLT,Int.reduceLE];exact Bl
   ·simp (maxSteps:=2000000) only [↓I5,↓XX,XY,↓reduceIte,Nat.reduceBEq,Nat.reduceAdd,Int.reduceEq,Int.reduceLT,Int.reduceLE,↓Av,XD,heldB,AB,XE,Fh,↓Ad hw,↓Bw,↓BD,↓EQ,↓Ad t6,↓Ad t7,↓Ad t8];simp (maxSteps:=2000000) only [↓C9,↓XX,XY,↓reduceIte,Nat.reduceBEq,Nat.reduceAdd,Int.reduceEq,Int.reduceLT,Int.reduceLE];exact Bl
  ·cases f
   ·simp (maxSteps:=2000000) only [↓I5,↓XX,XY,↓reduceIte,Nat.reduceBEq,Nat.reduceAdd,Int.reduceEq,Int.reduceLT,Int.reduceLE,↓Av,XD,heldB,AB,XE,Fh,↓Ad hw,↓Bw,↓BD,↓EQ,↓Ad t6,↓Ad t7,↓Ad t8];simp (maxSteps:=2000000) only [↓C9,↓XX,XY,↓reduceIte,Nat.reduceBEq,Nat.reduceAdd,Int.reduceEq,Int.reduceLT,Int.reduceLE];exact Bl
   ·exact absurd (by simp) hok
set_option maxRecDepth 20000 in
set_option maxHeartbeats 16000000 in
theorem AgQ {n:Nat} (hn:0<n) {le ge:FV} {r q s a x nn:Tm} {p f:Bool} {which:Int} (C:StepsC n le ge r q s a x nn p f which 3) {a1 x2:Tm} (ha1:Bk (SS dt n 31 [.fv a.enc,iv 1,iv 0] ⟨[],[]⟩) a1.enc) (hx2:Bk (SS dt n 31 [.fv x.enc,iv 2,iv 0] ⟨[],[]⟩) x2.enc)
  {X Y:Tm} {eX eY ck1 ck2:Int} (T:StepsT n (.mk 13 0 [a1,x,x2,.mk 11 0 []]) x (p && f) X Y eX eY ck1 ck2):Rk (SS dt (n+1) 5 [.fv le,.fv r.enc,.fv q.enc,.fv s.enc,iv which] ⟨[],[]⟩) (.bool true):=by
 rw [Ef C];obtain ⟨hk,hm,fr,fq,fs,hctx,h1,h2,hnat,h3,hw⟩:=C;obtain ⟨c1,c2,j,jX,jY,w1,w2,sm⟩:=T;clear hk hm fr fq fs hctx h1 h2 hnat h3;have t11:=Dw (n:=n) hn 11;have t13:=B3 (n:=n) hn 13 [a1,x,x2,.mk 11 0 []];obtain ⟨or,nr,kr⟩:=r;obtain ⟨oq,nq,kq⟩:=q;obtain ⟨os,ns,ks⟩:=s;obtain ⟨oa,na,ka⟩:=a;obtain ⟨ox,nx,kx⟩:=x;obtain ⟨onn,nnn,knn⟩:=nn;obtain ⟨oa1,na1,ka1⟩:=a1;obtain ⟨ox2,nx2,kx2⟩:=x2;obtain ⟨oX,nX,kX⟩:=X;obtain ⟨oY,nY,kY⟩:=Y;simp only [An,Ath,Atg,Lx,Tm.op,Tm.n,Tm.kids] at c1 c2 j sm ha1 hx2 t11 t13 ⊢;by_cases hok:p=true∧f=true
 ·obtain ⟨
      rfl,rfl⟩:=hok
  simp (maxSteps:=2000000) only [↓I5,↓XX,XY,↓reduceIte,Nat.reduceBEq,Nat.reduceAdd,Int.reduceEq,Int.reduceLT,Int.reduceLE,↓Av,XD,heldB,AB,XE,Fh,↓Ad hw,↓Au ha1,↓Au hx2,↓GT,↓Ad t11,↓Ad t13];by_cases z1:ck1=0
  ·by_cases z2:ck2=0
   ·obtain ⟨j1,j2,j3⟩:=j z1 z2;rcases jX with jX | jX
    ·rw [L4 jX] at w1;rcases jY with jY | jY
     ·rw [L4 jY] at w2;obtain ⟨i1,i2⟩:=j3 rfl jX jY;clear j j3;simp (maxSteps:=2000000) only [↓C9,↓XX,XY,↓reduceIte,Nat.reduceBEq,Nat.reduceAdd,Int.reduceEq,Int.reduceLT,Int.reduceLE,↓Am c1,z1,↓Am c2,z2,↓Am j1,↓Am j2,↓Am w1,↓Am w2,↓Am i1,↓Am i2,↓Ad sm];exact Bl
     ·rw [L0 jY] at w2;clear j j3;simp (maxSteps:=2000000) only [↓C9,↓XX,XY,↓reduceIte,Nat.reduceBEq,Nat.reduceAdd,Int.reduceEq,Int.reduceLT,Int.reduceLE,↓Am c1,z1,↓Am c2,z2,↓Am j1,↓Am j2,↓Am w1,↓Am w2];exact Bl
    ·rw [L0 jX] at w1;clear j j3;simp (maxSteps:=2000000) only [↓C9,↓XX,XY,↓reduceIte,Nat.reduceBEq,Nat.reduceAdd,Int.reduceEq,Int.reduceLT,Int.reduceLE,↓Am c1,z1,↓Am c2,z2,↓Am j1,↓Am j2,↓Am w1];exact Bl
   ·clear j;simp (maxSteps:=2000000) only [↓C9,↓XX,XY,↓reduceIte,Nat.reduceBEq,Nat.reduceAdd,Int.reduceEq,Int.reduceLT,Int.reduceLE,↓Am c1,z1,↓Am c2,z2];exact Bl
  ·clear j;simp (maxSteps:=2000000) only [↓C9,↓XX,XY,↓reduceIte,Nat.reduceBEq,Nat.reduceAdd,Int.reduceEq,Int.reduceLT,Int.reduceLE,↓Am c1,z1];exact Bl
 ·clear j;cases p
  ·cases f
   ·simp (maxSteps:=2000000) only [↓I5,↓XX,XY,↓reduceIte,Nat.reduceBEq,Nat.reduceAdd,Int.reduceEq,Int.reduceLT,Int.reduceLE,↓Av,XD,heldB,AB,XE,Fh,↓Ad hw,↓Au ha1,↓Au hx2,↓GT,↓Ad t11,↓Ad t13];simp (maxSteps:=2000000) only [↓C9,↓XX,XY,↓reduceIte,Nat.reduceBEq,Nat.reduceAdd,Int.reduceEq,Int.reduceLT,Int.reduceLE];exact Bl
   ·simp (maxSteps:=2000000) only [↓I5,↓XX,XY,↓reduceIte,Nat.reduceBEq,Nat.reduceAdd,Int.reduceEq,Int.reduceLT,Int.reduceLE,↓Av,XD,heldB,AB,XE,Fh,↓Ad hw,↓Au ha1,↓Au hx2,↓GT,↓Ad t11,↓Ad t13];simp (maxSteps:=2000000) only [↓C9,↓XX,XY,↓reduceIte,Nat.reduceBEq,Nat.reduceAdd,Int.reduceEq,Int.reduceLT,Int.reduceLE];exact Bl
  ·cases f
   ·simp (maxSteps:=2000000) only [↓I5,↓XX,XY,↓reduceIte,Nat.reduceBEq,Nat.reduceAdd,Int.reduceEq,Int.reduceLT,Int.reduceLE,↓Av,XD,heldB,AB,XE,Fh,↓Ad hw,↓Au ha1,↓Au hx2,↓GT,↓Ad t11,↓Ad t13];simp (maxSteps:=2000000) only [↓C9,↓XX,XY,↓reduceIte,Nat.reduceBEq,Nat.reduceAdd,Int.reduceEq,Int.reduceLT,Int.reduceLE];exact Bl
   ·exact absurd (by simp) hok
set_option maxRecDepth 20000 in
set_option maxHeartbeats 16000000 in
theorem Ae6 {n:Nat} (hn:0<n) {le ge:FV} {r q s a x nn:Tm} {p f:Bool} {which:Int} (C:StepsC n le ge r q s a x nn p f which 4) {g1 g2:FV} {a1 a2 h R1 U1 U:Tm} {is:Bool} (hm1:Bk (SS dt n 29 [.fv ge,iv 1,.fv (Tm.mk 10 0 []).enc] ⟨[],[]⟩) g1) (ha1:Bk (SS dt n 31 [.fv a.enc,iv 1,iv 0] ⟨[],[]⟩) a1.enc) (hm2:Bk (SS dt n 29 [.fv g1,iv 1,.fv a1.enc] ⟨[],[]⟩) g2) (ha2:Bk (SS dt n 31 [.fv a.enc,iv 2,iv 0] ⟨[],[]⟩) a2.enc) (hg:Bk (SS dt n 26 [.fv g2,.fv a2.enc,.fv s.enc,iv 3] ⟨[],[]⟩) (.tuple [h.enc,.bool is])) (hR:Bk (SS dt n 31 [.fv (Tm.mk 13 0 [a1,x,h,nn]).enc,iv 1,iv 0] ⟨[],[]⟩) R1.enc) (hs1:Bk (SS dt n 30 [.fv h.enc,iv 0,.fv R1.enc] ⟨[],[]⟩) U1.enc) (hs2:Bk (SS dt n 30 [.fv U1.enc,iv 0,.fv nn.enc] ⟨[],[]⟩) U.enc)
  {X Y:Tm} {eX eY ck1 ck2:Int} (T:StepsT n (.mk 13 0 [a1,x,h,.mk 12 0 [nn]]) U (p && is && f) X Y eX eY ck1 ck2):Rk (SS dt (n+1) 5 [.fv le,.fv r.enc,.fv q.enc,.fv s.enc,iv which] ⟨[],[]⟩) (.bool true):=by
 rw [Ef C];obtain ⟨hk,hm,fr,fq,fs,hctx,h1,h2,hnat,h3,hw⟩:=C;obtain ⟨c1,c2,j,jX,jY,w1,w2,sm⟩:=T;clear hk hm fr fq fs hctx h1 h2 hnat h3;have t12:=B3 (n:=n) hn 12 [nn];have t13:=B3 (n:=n) hn 13 [a1,x,h,nn];have t13s:=B3 (n:=n) hn 13 [a1,x,h,.mk 12 0 [nn]];obtain ⟨or,nr,kr⟩:=r;obtain ⟨oq,nq,kq⟩:=q;obtain ⟨os,ns,ks⟩:=s;obtain ⟨oa,na,ka⟩:=a;obtain ⟨ox,nx,kx⟩:=x;obtain ⟨onn,nnn,knn⟩:=nn;obtain ⟨oa1,na1,ka1⟩:=a1;obtain ⟨oa2,na2,ka2⟩:=a2;obtain ⟨oh,nh,kh⟩:=h;obtain ⟨oR1,nR1,kR1⟩:=R1;obtain ⟨oU1,nU1,kU1⟩:=U1;obtain ⟨oU,nU,kU⟩:=U;obtain ⟨oX,nX,kX⟩:=X;obtain ⟨oY,nY,kY⟩:=Y;simp only [An,Ath,Atg,Lx,Tm.op,Tm.n,Tm.kids] at c1 c2 j sm hm1 ha1 hm2 ha2 hg hR hs1 hs2 t12 t13 t13s ⊢;by_cases hok:p=true∧is=true∧f=true
 ·obtain ⟨
      rfl,rfl,rfl⟩:=hok
  simp (maxSteps:=2000000) only [↓I5,↓XX,XY,↓reduceIte,Nat.reduceBEq,Nat.reduceAdd,Int.reduceEq,Int.reduceLT,Int.reduceLE,↓Av,XD,heldB,AB,XE,Fh,↓Ad hw,↓Au hm1,↓Au ha1,↓Au hm2,↓Au ha2,↓Az hg,↓Bw,↓GT,↓Ad t12,↓Ad t13,↓Ad t13s,↓Au hR,↓Au hs1,↓Au hs2];by_cases z1:ck1=0
  ·by_cases z2:ck2=0
   ·obtain ⟨j1,j2,j3⟩:=j z1 z2;rcases jX with jX | jX
    ·rw [L4 jX] at w1;rcases jY with jY | jY
     ·rw [L4 jY] at w2;obtain ⟨i1,i2⟩:=j3 rfl jX jY;clear j j3;simp (maxSteps:=2000000) only [↓C9,↓XX,XY,↓reduceIte,Nat.reduceBEq,Nat.reduceAdd,Int.reduceEq,Int.reduceLT,Int.reduceLE,↓Am c1,z1,↓Am c2,z2,↓Am j1,↓Am j2,↓Am w1,↓Am w2,↓Am i1,↓Am i2,↓Ad sm];exact Bl
     ·rw [L0 jY] at w2;clear j j3;simp (maxSteps:=2000000) only [↓C9,↓XX,XY,↓reduceIte,Nat.reduceBEq,Nat.reduceAdd,Int.reduceEq,Int.reduceLT,Int.reduceLE,↓Am c1,z1,↓Am c2,z2,↓Am j1,↓Am j2,↓Am w1,↓Am w2];exact Bl
    ·rw [L0 jX] at w1;clear j j3;simp (maxSteps:=2000000) only [↓C9,↓XX,XY,↓reduceIte,Nat.reduceBEq,Nat.reduceAdd,Int.reduceEq,Int.reduceLT,Int.reduceLE,↓Am c1,z1,↓Am c2,z2,↓Am j1,↓Am j2,↓Am w1];exact Bl
   ·clear j;simp (maxSteps:=2000000) only [↓C9,↓XX,XY,↓reduceIte,Nat.reduceBEq,Nat.reduceAdd,Int.reduceEq,Int.reduceLT,Int.reduceLE,↓Am c1,z1,↓Am c2,z2];exact Bl
  ·clear j;simp (maxSteps:=2000000) only [↓C9,↓XX,XY,↓reduceIte,Nat.reduceBEq,Nat.reduceAdd,Int.reduceEq,Int.reduceLT,Int.reduceLE,↓Am c1,z1];exact Bl
 ·clear j;cases p
  ·cases is
   ·cases f
    ·simp (maxSteps:=2000000) only [↓I5,↓XX,XY,↓reduceIte,Nat.reduceBEq,Nat.reduceAdd,Int.reduceEq,Int.reduceLT,Int.reduceLE,↓Av,XD,heldB,AB,XE,Fh,↓Ad hw,↓Au hm1,↓Au ha1,↓Au hm2,↓Au ha2,↓Az hg,↓Bw,↓GT,↓Ad t12,↓Ad t13,↓Ad t13s,↓Au hR,↓Au hs1,↓Au hs2];simp (maxSteps:=2000000) only [↓C9,↓XX,XY,↓reduceIte,Nat.reduceBEq,Nat.reduceAdd,Int.reduceEq,Int.reduceLT,Int.reduceLE];exact Bl
    ·simp (maxSteps:=2000000) only [↓I5,↓XX,XY,↓reduceIte,Nat.reduceBEq,Nat.reduceAdd,Int.reduceEq,Int.reduceLT,Int.reduceLE,↓Av,XD,heldB,AB,XE,Fh,↓Ad hw,↓Au hm1,↓Au ha1,↓Au hm2,↓Au ha2,↓Az hg,↓Bw,↓GT,↓Ad t12,↓Ad t13,↓Ad t13s,↓Au hR,↓Au hs1,↓Au hs2];simp (maxSteps:=2000000) only [↓C9,↓XX,XY,↓reduceIte,Nat.reduceBEq,Nat.reduceAdd,Int.reduceEq,Int.reduceLT,Int.reduceLE];exact Bl
   ·cases f
    ·simp (maxSteps:=2000000) only [↓I5,↓XX,XY,↓reduceIte,Nat.reduceBEq,Nat.reduceAdd,Int.reduceEq,Int.reduceLT,Int.reduceLE,↓Av,XD,heldB,AB,XE,Fh,↓Ad hw,↓Au hm1,↓Au ha1,↓Au hm2,↓Au ha2,↓Az hg,↓Bw,↓GT,↓Ad t12,↓Ad t13,↓Ad t13s,↓Au hR,↓Au hs1,↓Au hs2];simp (maxSteps:=2000000) only [↓C9,↓XX,XY,↓reduceIte,Nat.reduceBEq,Nat.reduceAdd,Int.reduceEq,Int.reduceLT,Int.reduceLE];exact Bl
    ·simp (maxSteps:=2000000) only [↓I5,↓XX,XY,↓reduceIte,Nat.reduceBEq,Nat.reduceAdd,Int.reduceEq,Int.reduceLT,Int.reduceLE,↓Av,XD,heldB,AB,XE,Fh,↓Ad hw,↓Au hm1,↓Au ha1,↓Au hm2,↓Au ha2,↓Az hg,↓Bw,↓GT,↓Ad t12,↓Ad t13,↓Ad t13s,↓Au hR,↓Au hs1,↓Au hs2];simp (maxSteps:=2000000) only [↓C9,↓XX,XY,↓reduceIte,Nat.reduceBEq,Nat.reduceAdd,Int.reduceEq,Int.reduceLT,Int.reduceLE];exact Bl
  ·cases is
   ·cases f
    ·simp (maxSteps:=2000000) only [↓I5,↓XX,XY,↓reduceIte,Nat.reduceBEq,Nat.reduceAdd,Int.reduceEq,Int.reduceLT,Int.reduceLE,↓Av,XD,heldB,AB,XE,Fh,↓Ad hw,↓Au hm1,↓Au ha1,↓Au hm2,↓Au ha2,↓Az hg,↓Bw,↓GT,↓Ad t12,↓Ad t13,↓Ad t13s,↓Au hR,↓Au hs1,↓Au hs2];simp (maxSteps:=2000000) only [↓C9,↓XX,XY,↓reduceIte,Nat.reduceBEq,Nat.reduceAdd,Int.reduceEq,Int.reduceLT,Int.reduceLE];exact Bl
    ·simp (maxSteps:=2000000) only [↓I5,↓XX,XY,↓reduceIte,Nat.reduceBEq,Nat.reduceAdd,Int.reduceEq,Int.reduceLT,Int.reduceLE,↓Av,XD,heldB,AB,XE,Fh,↓Ad hw,↓Au hm1,↓Au ha1,↓Au hm2,↓Au ha2,↓Az hg,↓Bw,↓GT,↓Ad t12,↓Ad t13,↓Ad t13s,↓Au hR,↓Au hs1,↓Au hs2];simp (maxSteps:=2000000) only [↓C9,↓XX,XY,↓reduceIte,Nat.reduceBEq,Nat.reduceAdd,Int.reduceEq,Int.reduceLT,Int.reduceLE];exact Bl
   ·cases f
    ·simp (maxSteps:=2000000) only [↓I5,↓XX,XY,↓reduceIte,Nat.reduceBEq,Nat.reduceAdd,Int.reduceEq,Int.reduceLT,Int.reduceLE,↓Av,XD,heldB,AB,XE,Fh,↓Ad hw,↓Au hm1,↓Au ha1,↓Au hm2,↓Au ha2,↓Az hg,↓Bw,↓GT,↓Ad t12,↓Ad t13,↓Ad t13s,↓Au hR,↓Au hs1,↓Au hs2];simp (maxSteps:=2000000) only [↓C9,↓XX,XY,↓reduceIte,Nat.reduceBEq,Nat.reduceAdd,Int.reduceEq,Int.reduceLT,Int.reduceLE];exact Bl
    ·exact absurd (by simp) hok
set_option maxRecDepth 20000 in
set_option maxHeartbeats 16000000 in
theorem Aea {n:Nat} (hn:0<n) {le ge:FV} {r q s a x nn:Tm} {p f:Bool} {which:Int} (C:StepsC n le ge r q s a x nn p f which 5) {pq c:Tm} {is:Bool} (hp:Bk (SS dt n 33 [.fv q.enc,iv 1] ⟨[],[]⟩) pq.enc) (hg:Bk (SS dt n 32 [.fv ge,.fv pq.enc,.fv s.enc,iv 4] ⟨[],[]⟩) (.tuple [c.enc,.bool is]))
  {X Y:Tm} {eX eY ck1 ck2:Int} (T:StepsT n (.mk 30 0 [.mk 19 0 [c]]) c (is && f) X Y eX eY ck1 ck2):Rk (SS dt (n+1) 5 [.fv le,.fv r.enc,.fv q.enc,.fv s.enc,iv which] ⟨[],[]⟩) (.bool true):=by
 rw [Ef C];obtain ⟨hk,hm,fr,fq,fs,hctx,h1,h2,hnat,h3,hw⟩:=C;obtain ⟨c1,c2,j,jX,jY,w1,w2,sm⟩:=T;clear hk hm fr fq fs hctx h1 h2 hnat h3;have t19:=B3 (n:=n) hn 19 [c];have t30:=B3 (n:=n) hn 30 [.mk 19 0 [c]];obtain ⟨or,nr,kr⟩:=r;obtain ⟨oq,nq,kq⟩:=q;obtain ⟨os,ns,ks⟩:=s;obtain ⟨oa,na,ka⟩:=a;obtain ⟨ox,nx,kx⟩:=x;obtain ⟨onn,nnn,knn⟩:=nn;obtain ⟨opq,npq,kpq⟩:=pq;obtain ⟨oc,nc,kc⟩:=c;obtain ⟨oX,nX,kX⟩:=X;obtain ⟨oY,nY,kY⟩:=Y;simp only [An,Ath,Atg,Lx,Tm.op,Tm.n,Tm.kids] at c1 c2 j sm hp hg t19 t30 ⊢;by_cases hok:is=true∧f=true
 ·obtain ⟨
      rfl,rfl⟩:=hok
  simp (maxSteps:=2000000) only [↓I5,↓XX,XY,↓reduceIte,Nat.reduceBEq,Nat.reduceAdd,Int.reduceEq,Int.reduceLT,Int.reduceLE,↓Av,XD,heldB,AB,XE,Fh,↓Ad hw,↓Ad hp,↓Az hg,↓Bw,↓Ad t19,↓Ad t30];by_cases z1:ck1=0
  ·by_cases z2:ck2=0
   ·obtain ⟨j1,j2,j3⟩:=j z1 z2;rcases jX with jX | jX
    ·rw [L4 jX] at w1;rcases jY with jY | jY
     ·rw [L4 jY] at w2;obtain ⟨i1,i2⟩:=j3 rfl jX jY;clear j j3;simp (maxSteps:=2000000) only [↓C9,↓XX,XY,↓reduceIte,Nat.reduceBEq,Nat.reduceAdd,Int.reduceEq,Int.reduceLT,Int.reduceLE,↓Am c1,z1,↓Am c2,z2,↓Am j1,↓Am j2,↓Am w1,↓Am w2,↓Am i1,↓Am i2,↓Ad sm];exact Bl
     ·rw [L0 jY] at w2;clear j j3;simp (maxSteps:=2000000) only [↓C9,↓XX,XY,↓reduceIte,Nat.reduceBEq,Nat.reduceAdd,Int.reduceEq,Int.reduceLT,Int.reduceLE,↓Am c1,z1,↓Am c2,z2,↓Am j1,↓Am j2,↓Am w1,↓Am w2];exact Bl
    ·rw [L0 jX] at w1;clear j j3;simp (maxSteps:=2000000) only [↓C9,↓XX,XY,↓reduceIte,Nat.reduceBEq,Nat.reduceAdd,Int.reduceEq,Int.reduceLT,Int.reduceLE,↓Am c1,z1,↓Am c2,z2,↓Am j1,↓Am j2,↓Am w1];exact Bl
   ·clear j;simp (maxSteps:=2000000) only [↓C9,↓XX,XY,↓reduceIte,Nat.reduceBEq,Nat.reduceAdd,Int.reduceEq,Int.reduceLT,Int.reduceLE,↓Am c1,z1,↓Am c2,z2];exact Bl
  ·clear j;simp (maxSteps:=2000000) only [↓C9,↓XX,XY,↓reduceIte,Nat.reduceBEq,Nat.reduceAdd,Int.reduceEq,Int.reduceLT,Int.reduceLE,↓Am c1,z1];exact Bl
 ·clear j;cases is
  ·cases f
   ·simp (maxSteps:=2000000) only [↓I5,↓XX,XY,↓reduceIte,Nat.reduceBEq,Nat.reduceAdd,Int.reduceEq,Int.reduceLT,Int.reduceLE,↓Av,XD,heldB,AB,XE,Fh,↓Ad hw,↓Ad hp,↓Az hg,↓Bw,↓Ad t19,↓Ad t30];simp (maxSteps:=2000000) only [↓C9,↓XX,XY,↓reduceIte,Nat.reduceBEq,Nat.reduceAdd,Int.reduceEq,Int.reduceLT,Int.reduceLE];exact Bl
   ·simp (maxSteps:=2000000) only [↓I5,↓XX,XY,↓reduceIte,Nat.reduceBEq,Nat.reduceAdd,Int.reduceEq,Int.reduceLT,Int.reduceLE,↓Av,XD,heldB,AB,XE,Fh,↓Ad hw,↓Ad hp,↓Az hg,↓Bw,↓Ad t19,↓Ad t30];simp (maxSteps:=2000000) only [↓C9,↓XX,XY,↓reduceIte,Nat.reduceBEq,Nat.reduceAdd,Int.reduceEq,Int.reduceLT,Int.reduceLE];exact Bl
  ·cases f
   ·simp (maxSteps:=2000000) only [↓I5,↓XX,XY,↓reduceIte,Nat.reduceBEq,Nat.reduceAdd,Int.reduceEq,Int.reduceLT,Int.reduceLE,↓Av,XD,heldB,AB,XE,Fh,↓Ad hw,↓Ad hp,↓Az hg,↓Bw,↓Ad t19,↓Ad t30];simp (maxSteps:=2000000) only [↓C9,↓XX,XY,↓reduceIte,Nat.reduceBEq,Nat.reduceAdd,Int.reduceEq,Int.reduceLT,Int.reduceLE];exact Bl
   ·exact absurd (by simp) hok
set_option maxRecDepth 20000 in
set_option maxHeartbeats 8000000 in
theorem Agk {n:Nat} {le:FV} {r q s:Tm} {which:Int} {ml br bq bs:Bool} (hno:¬ (ml=true∧br=true∧bq=true∧bs=true)) (hk:Bk (SS dt n 14 [] ⟨[],[]⟩) (.bool true)) (hm:Bk (SS dt n 15 [.fv le] ⟨[],[]⟩) (.bool ml))
  (fr:Bk (SS dt n 16 [.fv r.enc] ⟨[],[]⟩) (.bool br)) (fq:Bk (SS dt n 16 [.fv q.enc] ⟨[],[]⟩) (.bool bq)) (fs:Bk (SS dt n 16 [.fv s.enc] ⟨[],[]⟩) (.bool bs)) :
  Rk (SS dt (n+1) 5 [.fv le,.fv r.enc,.fv q.enc,.fv s.enc,iv which] ⟨[],[]⟩) (.bool true):=by
 rw [c5];obtain ⟨o1,p1,k1⟩:=r;obtain ⟨o2,p2,k2⟩:=q;obtain ⟨o3,p3,k3⟩:=s;simp only [An] at fr fq fs ⊢;cases ml
 ·simp (maxSteps:=1000000) only [↓C9,↓XX,XY,↓reduceIte,Nat.reduceBEq,Nat.reduceAdd,Int.reduceEq,Int.reduceLT,Int.reduceLE,↓Gm hk,↓Am hm];exact Bl
 cases br
 ·simp (maxSteps:=1000000) only [↓C9,↓XX,XY,↓reduceIte,Nat.reduceBEq,Nat.reduceAdd,Int.reduceEq,Int.reduceLT,Int.reduceLE,↓Gm hk,↓Am hm,↓Am fr];exact Bl
 cases bq
 ·simp (maxSteps:=1000000) only [↓C9,↓XX,XY,↓reduceIte,Nat.reduceBEq,Nat.reduceAdd,Int.reduceEq,Int.reduceLT,Int.reduceLE,↓Gm hk,↓Am hm,↓Am fr,↓Am fq];exact Bl
 cases bs
 ·simp (maxSteps:=1000000) only [↓C9,↓XX,XY,↓reduceIte,Nat.reduceBEq,Nat.reduceAdd,Int.reduceEq,Int.reduceLT,Int.reduceLE,↓Gm hk,↓Am hm,↓Am fr,↓Am fq,↓Am fs];exact Bl
 exact absurd ⟨rfl,rfl,rfl,rfl⟩ hno
theorem F8 {op:Int} {ks:List Tm} {k:Nat} (h1:op≠1) (har:ar op=some ks.length) (hn:BC op 0) (h:Tm.scL op 0 ks k):(Tm.mk op 0 ks).sc k:=by
 rw [Tm.sc,if_neg h1];exact ⟨har,hn,h⟩
theorem Aoc {a b c:Bool} (h:(a && b && c)=true):a=true∧b=true∧c=true:=by cases a<;>cases b<;>cases c<;>simp_all
theorem AcJ {a b:Bool} (h:(a && b)=true):a=true∧b=true:=by cases a<;>cases b<;>simp_all
set_option maxRecDepth 20000 in
set_option maxHeartbeats 8000000 in
theorem SC (l:List Tm) (hll:l.length≤9223372036854775807) (r q s:Tm) (which:Int):∃N,Rk (SS dt N 5 [.fv (.sl (l.map Tm.enc)),.fv r.enc,.fv q.enc,.fv s.enc,.fv (.int .i64 which)] ⟨[],[]⟩) (.bool true):=by
 by_cases hgo:Afm l=true∧decide (r.count 300<300)=true∧decide (q.count 300<300)=true∧decide (s.count 300<300)=true
 case neg =>
  obtain ⟨m,hm⟩:∃m,m=Tm.wtL l+r.wt+q.wt+s.wt+10000:=⟨_,rfl⟩;exact ⟨m+1+1,Agk hgo (OC (by omega)) (Aaw l hll (by omega)) (Jg r (by omega)) (Jg q (by omega)) (Jg s (by omega))⟩
 obtain ⟨e1,e2,e3,e4⟩:=hgo;obtain ⟨g,⟨N0,hctx⟩,hg,hg4,hcg,_⟩:=Wm l hll;obtain ⟨G,hG⟩:=AiK hcg;have hGl:=hG.len;have nsc:∀k,(Tm.mk 10 0 []).sc k:=fun k=>C0 (by decide) (by decide) (Bd (by decide) (by decide) (by decide));have naok:∀k,AOk k (.mk 10 0 []):=fun k=>⟨nsc k,by simp [Tm.wt,Tm.wtL],by simp [Tm.dp,Tm.dpL]⟩;obtain ⟨hT6,_,_⟩:=JL 6 (by omega);obtain ⟨_,hG9,hO9⟩:=JL 9 (by omega);obtain ⟨_,hG8,_⟩:=JL 8 (by omega);obtain ⟨a,⟨N1,h1⟩,ta⟩:=hT6 g q (AO (by omega) hg);have aw:=ta.wt;have ad:=ta.dp;have asc:=ta.sc;have W5:Wg (6 - 1)=8192000:=rfl;have D5:Dg (6 - 1)=250:=rfl;obtain ⟨x,p,⟨N2,h2⟩,tx⟩:=hG9 g a r (AO (by omega) hg) ⟨ta.sc,by omega,by omega⟩;obtain ⟨nn,f,⟨N3,h3⟩,tn⟩:=hG8 g (.mk 10 0 []) s (AO (by omega) hg) (naok _);have W9:Wg 9=2097152000:=rfl;have W8:Wg 8=524288000:=rfl;have xw:=tx.wt;have nw:=tn.wt;have xsc:=tx.sc;have nnsc:=tn.sc;obtain ⟨σ,hσ,haT⟩:=(MK ta.gr G hG).1 rfl;have hxT:=fun hp:p=true=>(MK (tx.gr hp) G hG).2.1 rfl σ haT;have hnT:=fun hf:f=true=>(MK (tn.gr hf) G hG).2.1 rfl 0 (ht0 .natT);have a1sc:(a.shift 1 0).sc (g.length+1):=by have:=Ck a 1 0 g.length asc (by omega);simpa using this
 have a2sc:(a.shift 2 0).sc (g.length+2):=by have:=Ck a 2 0 g.length asc (by omega);simpa using this
 have a1w:(a.shift 1 0).wt≤9000000:=by rw [Cl];omega
 have a2w:(a.shift 2 0).wt≤9000000:=by rw [Cl];omega
 have a1d:(a.shift 1 0).dp≤300:=by rw [Dv];omega
 have a2d:(a.shift 2 0).dp≤300:=by rw [Dv];omega
 have awk:=CV _ _ asc;have xwk:=CV _ _ xsc;have com:∀n w,which % 6=w→N0+N1+N2+N3+Tm.wtL l+r.wt+q.wt+s.wt+10000000000≤n→StepsC n (.sl (l.map Tm.enc)) (Bg g) r q s a x nn p f which w:=by
  intro n w hw hn;obtain ⟨m,rfl⟩:∃m,n=m+1:=⟨n - 1,by omega⟩;have z1:=h1 (m+1) (by omega);have z2:=h2 (m+1) (by omega);have z3:=h3 (m+1) (by omega);have z4:=Aaw l hll (n:=m+1) (by omega);have z5:=Jg (n:=m) r (by omega);have z6:=Jg (n:=m) q (by omega);have z7:=Jg (n:=m) s (by omega);rw [e1] at z4;rw [e2] at z5;rw [e3] at z6;rw [e4] at z7;have z8:=Vi (n:=m+1) (by omega) which (m:=6) (by decide) (by decide);rw [hw] at z8;exact ⟨OC (by omega),z4,z5,z6,z7,hctx (m+1) (by omega),z1,z2,AmJ (by omega),z3,z8⟩
 have hw6:which % 6=0∨which % 6=1∨which % 6=2∨which % 6=3∨which % 6=4∨which % 6=5:=by omega
 rcases hw6 with hw | hw | hw | hw | hw | hw
 ·-- App (Lam a b) x
  have hg':GOk 9 (g++[(1,a)]):=Cd hg asc (by omega) (by omega);obtain ⟨b,is,⟨N4,h4⟩,tb⟩:=hG8 (g++[(1,a)]) (.mk 10 0 []) s (AO (by omega) hg') (naok _);have bw:=tb.wt;have bsc:b.sc (g.length+1):=by simpa using tb.sc
  have usc:(b.subst 0 0 x).sc g.length:=by
   have:=ES b x 0 g.length (by simpa using bsc) xsc (by omega)
   rw [show ((0:Nat):Int)=0 from rfl] at this
   simpa using this
  obtain ⟨X,Y,eX,eY,ck1,ck2,N5,h5⟩:=K8 (t:=.mk 5 0 [.mk 4 0 [a,b],x]) (u:=b.subst 0 0 x) (k:=g.length) (p && is && f) (F8 (by decide) rfl (Bd (by decide) (by decide) (by decide)) (by
    simp only [Tm.scL,show Af 5 0=0 from rfl,show Af 5 (0+1)=0 from rfl,Nat.add_zero,and_true]
    exact ⟨F8 (by decide) rfl (Bd (by decide) (by decide) (by decide)) (by
     simp only [Tm.scL,show Af 4 0=0 from rfl,show Af 4 (0+1)=1 from rfl,Nat.add_zero,and_true]
     exact ⟨asc,bsc⟩),xsc⟩)) usc (by omega) (fun h=>by
    obtain ⟨hp,hi,hf⟩:=Aoc h;have g1:=Fd hG haT (Ny _ g.length asc (by omega));have hb:=(MK (tb.gr hi) _ g1).2.1 rfl 0 (ht0 .natT);obtain ⟨q1,q2,q3⟩:=Ac5 (by omega) (by omega) haT hb (hxT hp) bsc xsc hGl (by omega) (by omega) (by omega);exact ⟨G,0,q1,q2,q3⟩)
  obtain ⟨n,hn⟩:∃n,n=N0+N1+N2+N3+N4+N5+Tm.wtL l+r.wt+q.wt+s.wt+10000000000:=⟨_,rfl⟩;exact ⟨n+1,Afe (by omega) (com n 0 hw (by omega)) (Ct (n:=n) g 1 a (by omega) (by omega)) (h4 n (by omega)) (HI (n:=n) b x 0 xwk (by omega) (by omega) (CV _ _ bsc) (by omega) (by omega) (by omega)) (h5 n (by omega))⟩
 ·-- Fst (Pair ..)
  have psc:∀op:Int,op≠1→ar op=some 1→BC op 0→Af op 0=0→(Tm.mk op 0 [.mk 7 0 [.mk 6 0 [a,.mk 10 0 []],x,nn]]).sc g.length:=fun op o1 o2 o3 o4=>F8 o1 o2 o3 (by
   simp only [Tm.scL,o4,Nat.add_zero,and_true];exact F8 (by decide) rfl (Bd (by decide) (by decide) (by decide)) (by
    simp only [Tm.scL,show Af 7 0=0 from rfl,show Af 7 (0+1)=0 from rfl,show Af 7 (0+1+1)=0 from rfl,Nat.add_zero,and_true]
    exact ⟨F8 (by decide) rfl (Bd (by decide) (by decide) (by decide)) (by
     simp only [Tm.scL,show Af 6 0=0 from rfl,show Af 6 (0+1)=1 from rfl,Nat.add_zero,and_true]
     exact ⟨asc,nsc _⟩),xsc,nnsc⟩))
  obtain ⟨X,Y,eX,eY,ck1,ck2,N5,h5⟩:=K8 (t:=.mk 8 0 [.mk 7 0 [.mk 6 0 [a,.mk 10 0 []],x,nn]]) (u:=x) (k:=g.length) (p && f) (psc 8 (by decide) rfl (Bd (by decide) (by decide) (by decide)) rfl) xsc (by omega) (fun h=>by
    obtain ⟨hp,hf⟩:=AcJ h;exact ⟨G,σ,.fst G 0 0 _ x nn σ 0 15 (by omega) (ht2 (.sigT σ 0 hσ (by omega)) haT (ht0 .natT)) (hxT hp) (hnT hf),hxT hp,Cw (.fst 0 0 _ x x nn (A3 x))⟩)
  obtain ⟨n,hn⟩:∃n,n=N0+N1+N2+N3+N5+Tm.wtL l+r.wt+q.wt+s.wt+10000000000:=⟨_,rfl⟩;exact ⟨n+1,Agm (by omega) (com n 1 hw (by omega)) (h5 n (by omega))⟩
 ·have psc:∀op:Int,op≠1→ar op=some 1→BC op 0→Af op 0=0→(Tm.mk op 0 [.mk 7 0 [.mk 6 0 [a,.mk 10 0 []],x,nn]]).sc g.length:=fun op o1 o2 o3 o4=>F8 o1 o2 o3 (by
   simp only [Tm.scL,o4,Nat.add_zero,and_true];exact F8 (by decide) rfl (Bd (by decide) (by decide) (by decide)) (by
    simp only [Tm.scL,show Af 7 0=0 from rfl,show Af 7 (0+1)=0 from rfl,show Af 7 (0+1+1)=0 from rfl,Nat.add_zero,and_true]
    exact ⟨F8 (by decide) rfl (Bd (by decide) (by decide) (by decide)) (by
     simp only [Tm.scL,show Af 6 0=0 from rfl,show Af 6 (0+1)=1 from rfl,Nat.add_zero,and_true]
     exact ⟨asc,nsc _⟩),xsc,nnsc⟩))
  obtain ⟨X,Y,eX,eY,ck1,ck2,N5,h5⟩:=K8 (t:=.mk 9 0 [.mk 7 0 [.mk 6 0 [a,.mk 10 0 []],x,nn]]) (u:=nn) (k:=g.length) (p && f) (psc 9 (by decide) rfl (Bd (by decide) (by decide) (by decide)) rfl) nnsc (by omega) (fun h=>by
    obtain ⟨hp,hf⟩:=AcJ h;exact ⟨G,0,.snd G 0 0 _ x nn 0 σ 15 (by omega) (ht2 (.sigT σ 0 hσ (by omega)) haT (ht0 .natT)) (hxT hp) (hnT hf),hnT hf,Cw (.snd 0 0 _ x nn nn (A3 nn))⟩)
  obtain ⟨n,hn⟩:∃n,n=N0+N1+N2+N3+N5+Tm.wtL l+r.wt+q.wt+s.wt+10000000000:=⟨_,rfl⟩;exact ⟨n+1,Afc (by omega) (com n 2 hw (by omega)) (h5 n (by omega))⟩
 ·-- Rec of Zero
  have x2sc:(x.shift 2 0).sc (g.length+2):=by have:=Ck x 2 0 g.length xsc (by omega);simpa using this
  obtain ⟨X,Y,eX,eY,ck1,ck2,N5,h5⟩:=K8 (t:=.mk 13 0 [a.shift 1 0,x,x.shift 2 0,.mk 11 0 []]) (u:=x) (k:=g.length) (p && f) (F8 (by decide) rfl (Bd (by decide) (by decide) (by decide)) (by
    simp only [Tm.scL,show Af 13 0=1 from rfl,show Af 13 (0+1)=0 from rfl,show Af 13 (0+1+1)=2 from rfl,show Af 13 (0+1+1+1)=0 from rfl,Nat.add_zero,and_true]
    exact ⟨a1sc,xsc,x2sc,C0 (by decide) (by decide) (Bd (by decide) (by decide) (by decide))⟩)) xsc (by omega) (fun h=>by
    obtain ⟨hp,hf⟩:=AcJ h;obtain ⟨q1,q2⟩:=Adx hσ haT (hxT hp) hGl (by omega) (by omega) (by omega);exact ⟨G,σ,q1,hxT hp,q2⟩)
  obtain ⟨n,hn⟩:∃n,n=N0+N1+N2+N3+N5+Tm.wtL l+r.wt+q.wt+s.wt+10000000000:=⟨_,rfl⟩;exact ⟨n+1,AgQ (by omega) (com n 3 hw (by omega)) (B5 n a 1 0 (by omega) awk (by omega) (by omega)) (B5 n x 2 0 (by omega) xwk (by omega) (by omega)) (h5 n (by omega))⟩
 ·-- Rec of Suc
  have hg1:GOk 9 (g++[(1,.mk 10 0 [])]):=Cd hg (nsc _) (by simp [Tm.wt,Tm.wtL]) (by simp [Tm.dp,Tm.dpL]);have hg2:GOk 8 ((g++[(1,.mk 10 0 [])])++[(1,a.shift 1 0)]):=Cd hg1 (by simpa using a1sc) (by omega) (by omega);obtain ⟨h,is,⟨N4,h4⟩,th⟩:=hG8 ((g++[(1,.mk 10 0 [])])++[(1,a.shift 1 0)]) (a.shift 2 0) s hg2 ⟨by simpa using a2sc,by omega,by omega⟩;have hw':=th.wt;have hsc:h.sc (g.length+2):=by simpa using th.sc
  obtain ⟨R,hR⟩:∃R,R=Tm.mk 13 0 [a.shift 1 0,x,h,nn]:=⟨_,rfl⟩;have hRw:R.wt≤3200000000:=by rw [hR];simp only [Tm.wt,Tm.wtL];omega
  have hRsc:R.sc g.length:=by
   rw [hR];exact F8 (by decide) rfl (Bd (by decide) (by decide) (by decide)) (by
    simp only [Tm.scL,show Af 13 0=1 from rfl,show Af 13 (0+1)=0 from rfl,show Af 13 (0+1+1)=2 from rfl,show Af 13 (0+1+1+1)=0 from rfl,Nat.add_zero,and_true]
    exact ⟨a1sc,xsc,hsc,nnsc⟩)
  have r1sc:(R.shift 1 0).sc (g.length+1):=by have:=Ck R 1 0 g.length hRsc (by omega);simpa using this
  have r1w:(R.shift 1 0).wt≤3200000000:=by rw [Cl];exact hRw
  have u1sc:(h.subst 0 0 (R.shift 1 0)).sc (g.length+1):=by
   have:=ES h (R.shift 1 0) 0 (g.length+1) (by simpa using hsc) r1sc (by omega)
   rw [show ((0:Nat):Int)=0 from rfl] at this
   simpa using this
  have u1w:(h.subst 0 0 (R.shift 1 0)).wt≤1680000000000000000:=Nat.le_trans (HM h (R.shift 1 0) 0 0) (Nat.le_trans (Nat.mul_le_mul (show h.wt≤524288000 by omega) r1w) (by decide))
  have u2sc:((h.subst 0 0 (R.shift 1 0)).subst 0 0 nn).sc g.length:=by
   have:=ES (h.subst 0 0 (R.shift 1 0)) nn 0 g.length (by simpa using u1sc) nnsc (by omega)
   rw [show ((0:Nat):Int)=0 from rfl] at this
   simpa using this
  obtain ⟨X,Y,eX,eY,ck1,ck2,N5,h5⟩:=K8 (t:=.mk 13 0 [a.shift 1 0,x,h,.mk 12 0 [nn]]) (u:=(h.subst 0 0 (R.shift 1 0)).subst 0 0 nn) (k:=g.length) (p && is && f) (F8 (by decide) rfl (Bd (by decide) (by decide) (by decide)) (by
    simp only [Tm.scL,show Af 13 0=1 from rfl,show Af 13 (0+1)=0 from rfl,show Af 13 (0+1+1)=2 from rfl,show Af 13 (0+1+1+1)=0 from rfl,Nat.add_zero,and_true]
    exact ⟨a1sc,xsc,hsc,F8 (by decide) rfl (Bd (by decide) (by decide) (by decide)) (by
     simp only [Tm.scL,show Af 12 0=0 from rfl,Nat.add_zero,and_true]
     exact nnsc)⟩)) u2sc (by omega) (fun hh=>by
    obtain ⟨hp,hi,hf⟩:=Aoc hh;have hs1:=up1 hG (by omega) haT (by omega) 0;have g1:=Fd hG (T:=.mk 10 0 []) (s:=0) (ht0 .natT) (by simp [Tm.vb,Tm.vbL]);have g2:=Fd g1 hs1 (Ny _ (g.length+1) a1sc (by omega));have hhT:=(MK (th.gr hi) _ g2).2.1 rfl σ (up2 hG (by omega) haT (by omega) σ 0);obtain ⟨q1,q2,q3,_⟩:=Ac4 hσ haT (hxT hp) hhT (hnT hf) asc xsc hsc nnsc hGl (by omega) (by omega) (by omega) (by omega) (by omega);rw [← hR] at q2 q3;exact ⟨G,σ,q1,q2,q3⟩)
  obtain ⟨n,hn⟩:∃n,n=N0+N1+N2+N3+N4+N5+Tm.wtL l+r.wt+q.wt+s.wt+10000000000000000000:=⟨_,rfl⟩;have hm2:=Ct (n:=n) (g++[(1,.mk 10 0 [])]) 1 (a.shift 1 0) (by simp;omega) (by omega);have hRs:=B5 n R 1 0 (by omega) (CV _ _ hRsc) (by omega) (by omega);rw [hR] at hRs;refine ⟨n+1,Ae6 (R1:=(Tm.mk 13 0 [a.shift 1 0,x,h,nn]).shift 1 0) (U1:=h.subst 0 0 (R.shift 1 0)) (by omega) (com n 4 hw (by omega)) (Ct (n:=n) g 1 (.mk 10 0 []) (by omega) (by omega)) (B5 n a 1 0 (by omega) awk (by omega) (by omega)) hm2 (B5 n a 2 0 (by omega) awk (by omega) (by omega)) (h4 n (by omega)) hRs ?_ ?_ (h5 n (by omega))⟩
  ·rw [← hR];exact HI (n:=n) h (R.shift 1 0) 0 (CV _ _ r1sc) (by omega) (by omega) (CV _ _ hsc) (by omega) (by omega) (by omega)
  ·exact HI (n:=n) (h.subst 0 0 (R.shift 1 0)) nn 0 (CV _ _ nnsc) (by omega) (by omega) (CV _ _ u1sc) (by omega) (by omega) (by omega)
 ·-- Spl (Quo c)
  have pw:(q.plainT 1).wt≤20:=by have:=GN 1 q;simpa using Nat.le_trans this (by decide)
  obtain ⟨c,is,⟨N4,h4⟩,tc⟩:=hO9 g (q.plainT 1) s (AO (by omega) hg) ⟨GL _ 1 q,by omega,Nat.le_trans (MV _) (by omega)⟩;have csc:=tc.sc;obtain ⟨X,Y,eX,eY,ck1,ck2,N5,h5⟩:=K8 (t:=.mk 30 0 [.mk 19 0 [c]]) (u:=c) (k:=g.length) (is && f) (F8 (by decide) rfl (Bd (by decide) (by decide) (by decide)) (by
    simp only [Tm.scL,show Af 30 0=0 from rfl,Nat.add_zero,and_true]
    exact F8 (by decide) rfl (Bd (by decide) (by decide) (by decide)) (by
     simp only [Tm.scL,show Af 19 0=0 from rfl,Nat.add_zero,and_true]
     exact csc))) csc (by omega) (fun hh=>by
    obtain ⟨hi,hf⟩:=AcJ hh;have hc:=(MK (tc.gr hi) G hG).2.2.1 rfl (CG G 1 q);exact ⟨G,6,ht1 .spl (ht1 .quo hc),hc,Cw (.splq c c (A3 c))⟩)
  obtain ⟨n,hn⟩:∃n,n=N0+N1+N2+N3+N4+N5+Tm.wtL l+r.wt+q.wt+s.wt+10000000000:=⟨_,rfl⟩;exact ⟨n+1,Aea (by omega) (com n 5 hw (by omega)) (Lv 1 n q (by omega) (by omega)) (h4 n (by omega)) (h5 n (by omega))⟩
end Idl
end Go.Proofs.Ytbkdidonegggdaa

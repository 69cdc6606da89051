/- Part 13 of a proof. No statement is proved here. -/
import Derived.Test.YtnenpcghegcnhaaGreatKernelChecksK12
set_option linter.all false
set_option maxRecDepth 20000
set_option maxHeartbeats 16000000
noncomputable section
namespace Go.Proofs.YtnenpcghegcnhaaGreat
namespace Idl
def DS {op n:Int} {ks:List Tm} {e ps:List PV} {k1 T1 kh Th:Nat} {v':PV} (h1:op≠1) (hks:ks.length<=4) (hK:∃F,∀g,F<=g->∀m,MOk m k1 T1->Qb (fun t m=>O0 g e t m) op 0 ks m=some (ps,Gf m k1 T1)) (hH:Hx op n ps (.mk op n ks) e v' kh Th) :
  ∃F,∀g,F<=g->∀m,MOk m (k1+kh) (1+(T1+Th))->O0 g e (.mk op n ks) m=some (v',Gf m (k1+kh) (1+(T1+Th))):=by
 obtain ⟨F1,hK⟩:=hK;obtain ⟨F2,hH⟩:=hH;refine ⟨F1+F2+10,fun g hg m hm=>?_⟩;obtain ⟨g,rfl⟩:=psc g (by omega);have hm':MOk (Gf m 0 1) (k1+kh) (T1+Th):=Ip (k1:=0) ⟨hm.e,hm.w,hm.w2,by have:=hm.s;omega,hm.s2⟩;rw [O0,LN hm];simp only;rw [if_neg h1,if_neg (by omega),if_neg (by simp [Gf]),hK g (by omega) _ (MN hm')];simp only;rw [if_neg (by simp [Gf]),hH g (by omega) _ (Ip hm'),Fa,Fa];congr 3
 all_goals omega
def jC {op:Int} (h:¬ (op=5\/op=8\/op=9\/op=13\/op=19\/op=30)):C9 op=false:=by have h1:¬ op=5:=fun e=>h (.inl e);have h2:¬ op=8:=fun e=>h (.inr (.inl e));have h3:¬ op=9:=fun e=>h (.inr (.inr (.inl e)));have h4:¬ op=13:=fun e=>h (.inr (.inr (.inr (.inl e))));have h5:¬ op=19:=fun e=>h (.inr (.inr (.inr (.inr (.inl e)))));have h6:¬ op=30:=fun e=>h (.inr (.inr (.inr (.inr (.inr e)))));simp [C9,h1,h2,h3,h4,h5,h6]
theorem QO (B:Nat):∀f,Vc B f:=by
 intro f
 induction f using Nat.strongRecOn with
 | _ f ih =>
 intro s t env v s' h hg hw e he;cases f with
 | zero=>rw [AC] at h;cases h
 | succ f =>
 obtain ⟨op,n,ks⟩:=t;rw [AC] at h;rw [if_neg (by simp)] at h;split at h
 ·cases h
 rename_i hel;rw [Tm.good] at hg;obtain ⟨hgn,hgl⟩:=hg;have har:=hgn.1;have hk4:=Zr har;rw [Tm.wt] at hw;by_cases h1:op=1
 ·subst h1;rw [if_pos rfl] at h;have hks:ks=[]:=by
   rw [show ar 1=some 0 by decide,AhZ] at har
   exact Aia har.symm
  subst hks;have hn:=hgn.2.1 rfl;have hrun:∃F,∀g,F<=g->∀m,MOk m 0 1->O0 g e (.mk 1 n []) m=some (FN e n,Gf m 0 1):=by refine ⟨e.length+10,fun g hg m hm=>?_⟩;obtain ⟨g,rfl⟩:=psc g (by omega);rw [O0,LN (k:=0) (T:=0) hm];simp only;rw [if_pos trivial,if_pos ⟨by omega,by omega,by omega⟩]
  have hcost:∀v:RV,Cost (.mk 1 n []) v 0 1 0:=fun v=>⟨by simp [Tm.surf,Tm.surfL],by omega,Nat.le_trans (Nat.add_le_add_left (TQ _ _) _) (by omega),fun _=>by have:=Vl v;simp only [Tm.surf,Tm.surfL];omega⟩;by_cases hlt:n<env.length
  ·rw [if_pos hlt,if_pos hn.1] at h;cases hr:env[((env.length:Int) - 1 - n).toNat]? with
   | none=>rw [hr] at h;cases h
   | some r =>rw [hr] at h;simp only [Ah2,AhZ,Ah0] at h;obtain ⟨rfl,rfl,_⟩:=h;exact ⟨0,1,0,1,by omega,hcost _,by omega,_,kN he hn.1 hlt hr,hrun⟩
  ·rw [if_neg hlt] at h;split at h
   ·simp only [AhZ,Ah0] at h;obtain ⟨rfl,rfl,_⟩:=h;refine ⟨0,1,0,1,by omega,hcost _,by omega,_,?_,hrun⟩;rw [FN,if_neg (by rw [he.1];exact hlt),he.1];exact .var _
   ·cases h
 rw [if_neg h1] at h;split at h
 ·cases h
 split at h
 ·cases h
 split at h
 ·cases h
 rename_i vs s1 e1 hk;have he1:=Gg h;subst he1;obtain ⟨k1,c1,u1,T1,q1,q2,q3,q4,q5,q6,ps,q7,q8,q9,q10,q11⟩:=Ms (ih f (by omega)) op env e he ks 0 s vs s1 hk hgl (by omega);simp only [Nat.zero_add] at q8 q9 q10;have hnode:Rel B (.mk op n ps (.mk op n ks) e) (.node op n vs):=by
  refine .node op n n ps vs ks e env h1 har q7 q6 (fun i p r=>q9 i p r) ?_ he.1 he.2;intro i b hb hi;obtain ⟨a1,a2⟩:=q8 i b hi hb;have hm:=List.mem_of_getElem? hi
  have:=Cb hm
  exact ⟨⟨OA hgl hm,by omega⟩,a1,a2⟩
 obtain ⟨V,hV⟩:∃V,V=RV.node op n vs:=⟨_,rfl⟩;have hVo:V.op=op:=by rw [hV];rfl
 have hVk:V.k=vs:=by rw [hV];rfl
 have hVz:V.vsz=1+RV.vszL op 0 vs:=by rw [hV,RV.node,RV.vsz]
 rw [<- hV] at h hnode;cases f with
 | zero=>rw [headR] at h;cases h
 | succ f =>
 have h00:=h;rw [headR] at h;rw [if_neg (by simp)] at h;split at h
 ·cases h
 by_cases hr:¬ (op=5\/op=8\/op=9\/op=13\/op=19\/op=30)
 ·rw [hVo,if_neg (by omega),if_neg (by omega),if_neg (by omega),if_neg (by omega),if_neg (by omega)] at h;simp only [AhZ,Ah0] at h;obtain ⟨rfl,rfl,_⟩:=h;refine ⟨k1,1+c1,u1,1+T1,q1,⟨?_,by omega,Nat.le_trans (Nat.add_le_add_left (TQ _ _) _) (by omega),fun h=>?_⟩,by omega,_,hnode,DS (kh:=0) (Th:=0) h1 (by omega) q11 (Aba (jC hr))⟩
  ·rw [Tm.surf,Tm.inn];omega
  ·have:=q4 h;rw [Tm.surf,hVz];omega
 have hrule:C9 op=true:=by
  have:op=5\/op=8\/op=9\/op=13\/op=19\/op=30:=Decidable.byContradiction hr
  rcases this with rfl | rfl | rfl | rfl | rfl | rfl<;>rfl
 by_cases h5:op=5
 ·subst h5;obtain ⟨m0,a,b,x,rfl⟩:=hgn.2.2.2.1 rfl;obtain ⟨v0,vx,rfl⟩:=QN q6;obtain ⟨p0,px,rfl⟩:=QN q7;obtain ⟨t1,t2,hv0⟩:=q10 0 _ v0 rfl (by decide) rfl;obtain ⟨va,rfl⟩:=OL hv0;have r0:=q9 0 p0 _ (by decide) rfl rfl;have rx:=q9 1 px vx (by decide) rfl rfl;obtain ⟨n',kp,ts,e0,env0,hp0,b1,b2,b3,b4,b5,b6⟩:=H0 r0 (by simp [RV.node,RV.op]);simp only [RV.node,RV.op,RV.n,RV.k] at hp0 b1 b3 b4 b5;rw [show ar 4=some 2 by decide,AhZ] at b1
  obtain ⟨a',b',rfl⟩:=QN b1.symm;obtain ⟨⟨g1,g2⟩,_,g3⟩:=b5 1 b' (by decide) rfl;simp only [Aic,Aib,AhZ,RV.clo,RV.mk.injEq,true_and] at g3;obtain ⟨rfl,rfl⟩:=g3;rw [hVo,if_pos rfl,hVk] at h;simp only [Aic,Aib] at h;rw [show (RV.node 4 m0 [va,RV.clo env b]).op=4 from rfl,if_pos rfl] at h
  split at h
  ·rw [show (RV.node 4 m0 [va,RV.clo env b]).k[1]?=some (RV.clo env b) from rfl] at h
   simp only at h;split at h
   ·cases h
   rw [show (RV.clo env b).env=env from rfl,show (RV.clo env b).b=b from rfl] at h
   obtain ⟨k2,c2,u2,T2,d1,d2,d3,d4⟩:=MR (ih f (by omega)) (l:=[px]) (l':=[vx]) b6 rfl (by
    intro i p r hp hr
    match i with
    | 0=>simp only [Aib,AhZ] at hp hr;subst hp hr;exact rx
    | i+1=>simp at hp) g1 g2 h
   obtain ⟨w2,y1,F2,y2⟩:=T8 (op:=4) (n:=m0) (n':=n') (ps:=kp) (ts:=[a',b]) (i:=1) (b:=b) (l:=[px]) rfl (by simp) d4;have hd:=Pw d2;have hdp:=d2.p;have hiw:b.wt<=Tm.innL 5 0 [.mk 4 m0 [a,b],x]:=by
    simp only [Tm.innL,Tm.inn];rw [if_neg (show ¬ 0<Al 5 0 by decide),if_neg (show ¬ 0<Al 4 0 by decide),if_pos (show 0<Al 4 (0+1) by decide)]
    omega
   refine ⟨k1+(k2+1),1+(c1+c2),u1+u2,1+(T1+(1+T2)),by omega,⟨?_,by omega,Nat.le_trans (Nat.add_le_add_left (TQ _ _) _) (by omega),fun h=>by omega⟩,by omega,w2,y1,DS h1 (by simp) q11 (Gw (k:=k2) (T:=T2) hrule (Kf y1) ⟨F2+1,fun g hg m hm=>?_⟩)⟩
   ·rw [Tm.surf,Tm.inn];have e1:(k1+(k2+1)) * Tm.innL 5 0 [.mk 4 m0 [a,b],x]=k1 * Tm.innL 5 0 [.mk 4 m0 [a,b],x]+(k2+1) * Tm.innL 5 0 [.mk 4 m0 [a,b],x]:=by rw [Nat.add_mul]
    have e2:(k2+1) * b.wt<=(k2+1) * Tm.innL 5 0 [.mk 4 m0 [a,b],x]:=Nat.mul_le_mul_left _ hiw;omega
   ·obtain ⟨g,rfl⟩:=psc g (by omega);rw [hp0,AeR,if_pos rfl];exact y2 g (by omega) m hm
  ·simp at h
 by_cases h89:op=8\/op=9
 ·obtain ⟨m0,a,x,y,rfl⟩:=hgn.2.2.2.2.1 h89;obtain ⟨v0,rfl⟩:=FD q6;obtain ⟨p0,rfl⟩:=FD q7;have hb0:Al op 0=0:=by rcases h89 with rfl | rfl<;>decide
  obtain ⟨t1,t2,hv0⟩:=q10 0 _ v0 rfl hb0 rfl;obtain ⟨va,vx,vy,rfl⟩:=Zw hv0;have r0:=q9 0 p0 _ hb0 rfl rfl;obtain ⟨n',kp,ts,e0,env0,hp0,b1,b2,b3,b4,b5,b6⟩:=H0 r0 (by simp [RV.node,RV.op]);simp only [RV.node,RV.op,RV.n,RV.k] at hp0 b1 b3 b4 b5;rw [show ar 7=some 3 by decide,AhZ] at b1
  obtain ⟨pa,px,py,rfl⟩:=AeW (b2.trans b1.symm);have rx:=b4 1 px vx (by decide) rfl rfl;have ry:=b4 2 py vy (by decide) rfl rfl;rw [hVo,if_neg h5,if_pos h89,hVk] at h;simp only [Aib] at h;rw [show (RV.node 7 m0 [va,vx,vy]).op=7 from rfl,if_pos rfl] at h
  split at h
  ·obtain ⟨w',hw',hvv⟩:∃w',w'=(if op=8 then px else py)/\Rel B w' v/\s'=s1+1:=by
    rcases h89 with rfl | rfl
    ·rw [show (RV.node 7 m0 [va,vx,vy]).k[(1+8 - 8:Int).toNat]?=some vx from rfl] at h
     simp only [Ah2,AhZ,Ah0] at h;obtain ⟨rfl,rfl,_⟩:=h;exact ⟨px,rfl,rx,rfl⟩
    ·rw [show (RV.node 7 m0 [va,vx,vy]).k[(1+9 - 8:Int).toNat]?=some vy from rfl] at h
     simp only [Ah2,AhZ,Ah0] at h;obtain ⟨rfl,rfl,_⟩:=h;exact ⟨py,rfl,ry,rfl⟩
   obtain ⟨hrel,rfl⟩:=hvv;refine ⟨k1+1,1+c1,u1,1+(T1+1),by omega,⟨?_,by omega,Nat.le_trans (Nat.add_le_add_left (TQ _ _) _) (by omega),fun h=>by omega⟩,by omega,w',hrel,DS h1 (by simp) q11 (Gw (k:=0) (T:=0) hrule (Kf hrel) ⟨1,fun g hg m hm=>?_⟩)⟩
   ·rw [Tm.surf,Tm.inn,Nat.add_mul];omega
   ·obtain ⟨g,rfl⟩:=psc g (by omega);rw [hp0,Abo _ _ _ h89,Oj hm.e,hw']
  ·simp at h
 by_cases h30:op=30
 ·subst h30;rw [show ar 30=some 1 by decide,AhZ] at har
  obtain ⟨x,rfl⟩:=FD har.symm;obtain ⟨v0,rfl⟩:=FD q6;obtain ⟨p0,rfl⟩:=FD q7;have r0:=q9 0 p0 v0 (by decide) rfl rfl;have hx:=hgn.2.2.2.2.2.2.1 rfl x (by simp);rw [hVo,if_neg h5,if_neg h89,if_pos rfl,hVk] at h;simp only [Aib] at h;simp only [GU] at q3;rw [if_neg (by decide)] at q3;by_cases h19:v0.op=19
  ·rw [if_pos h19] at h;obtain ⟨n',kp,ts,e0,env0,hp0,b1,b2,b3,b4,b5,b6⟩:=H0 r0 (by rw [h19];decide);rw [h19,show ar 19=some 1 by decide,AhZ] at b1
   obtain ⟨y,hy⟩:=FD (b3.trans b1.symm);obtain ⟨py,rfl⟩:=FD (b2.trans b1.symm);have ry:=b4 0 py y (by rw [h19];decide) rfl (by rw [hy];rfl);rw [hy] at h;simp only [Aib,Ah2] at h;split at h
   ·simp only [AhZ,Ah0] at h;obtain ⟨rfl,rfl,_⟩:=h;refine ⟨k1+1,1+c1,u1,1+(T1+1),by omega,⟨?_,by omega,Nat.le_trans (Nat.add_le_add_left (TQ _ _) _) (by omega),fun h=>by omega⟩,by omega,py,ry,DS h1 (by simp) q11 (Gw (k:=0) (T:=0) hrule (Kf ry) ⟨1,fun g hg m hm=>?_⟩)⟩
    ·rw [Tm.surf,Tm.inn,Nat.add_mul];omega
    ·obtain ⟨g,rfl⟩:=psc g (by omega);rw [hp0,h19,Aa1,Oj hm.e]
   ·simp at h
  ·rw [if_neg h19] at h;simp only [AhZ,Ah0] at h;obtain ⟨rfl,rfl,_⟩:=h;obtain ⟨o0,n0,k0,t0,e0,hp0,ho0,_⟩:=L7 r0;have hns:2<=sl x v0:=by
    unfold sl;rw [if_neg (fun h=>h19 h.2),if_neg (fun h=>hx h.1)];split<;>omega
   have hn0:sl (.mk 30 n [x]) V=0:=by unfold sl;rw [if_neg (by simp [Tm.op]),if_pos ⟨rfl,hVo⟩]
   refine ⟨k1,1+c1,u1+1,1+(T1+1),q1,⟨?_,by omega,by rw [hn0];omega,fun h=>?_⟩,by omega,_,hnode,DS (kh:=0) h1 (by simp) q11 (L9 hrule ⟨1,fun g hg m=>?_⟩)⟩
   ·rw [Tm.surf,Tm.inn];omega
   ·have:=q4 h;rw [Tm.surf,hVz];omega
   ·obtain ⟨g,rfl⟩:=psc g (by omega);rw [hp0,wN _ _ _ _ _ _ _ _ _ _ (by rw [<- ho0];exact h19)]
 by_cases h19:op=19
 ·subst h19;rw [show ar 19=some 1 by decide,AhZ] at har
  obtain ⟨x,rfl⟩:=FD har.symm;obtain ⟨v0,rfl⟩:=FD q6;obtain ⟨p0,rfl⟩:=FD q7;have r0:=q9 0 p0 v0 (by decide) rfl rfl;have hx:=hgn.2.2.2.2.2.1 rfl x (by simp);rw [hVo,if_neg h5,if_neg h89,if_neg h30,if_pos rfl,hVk] at h;simp only [Aib] at h;simp only [GU] at q3;rw [if_neg (by decide)] at q3;by_cases hv30:v0.op=30
  ·rw [if_pos hv30] at h;obtain ⟨n',kp,ts,e0,env0,hp0,b1,b2,b3,b4,b5,b6⟩:=H0 r0 (by rw [hv30];decide);rw [hv30,show ar 30=some 1 by decide,AhZ] at b1
   obtain ⟨y,hy⟩:=FD (b3.trans b1.symm);obtain ⟨py,rfl⟩:=FD (b2.trans b1.symm);have ry:=b4 0 py y (by rw [hv30];decide) rfl (by rw [hy];rfl);rw [hy] at h;simp only [Aib,Ah2] at h;split at h
   ·simp only [AhZ,Ah0] at h;obtain ⟨rfl,rfl,_⟩:=h;refine ⟨k1+1,1+c1,u1,1+(T1+1),by omega,⟨?_,by omega,Nat.le_trans (Nat.add_le_add_left (TQ _ _) _) (by omega),fun h=>by omega⟩,by omega,py,ry,DS h1 (by simp) q11 (Gw (k:=0) (T:=0) hrule (Kf ry) ⟨1,fun g hg m hm=>?_⟩)⟩
    ·rw [Tm.surf,Tm.inn,Nat.add_mul];omega
    ·obtain ⟨g,rfl⟩:=psc g (by omega);rw [hp0,hv30,yB,Oj hm.e]
   ·simp at h
  ·rw [if_neg hv30] at h;simp only [AhZ,Ah0] at h;obtain ⟨rfl,rfl,_⟩:=h;obtain ⟨o0,n0,k0,t0,e0,hp0,ho0,_⟩:=L7 r0;have hns:sl x v0=3:=by
    unfold sl;rw [if_neg (fun h=>hx.1 h.1),if_neg (fun h=>hv30 h.2),if_neg (fun h=>hx.2 (lU h))]
   have hn0:sl (.mk 19 n [x]) V=1:=by unfold sl;rw [if_pos ⟨rfl,hVo⟩]
   refine ⟨k1,1+c1,u1+1,1+(T1+1),q1,⟨?_,by omega,by rw [hn0];omega,fun h=>?_⟩,by omega,_,hnode,DS (kh:=0) h1 (by simp) q11 (L9 hrule ⟨1,fun g hg m=>?_⟩)⟩
   ·rw [Tm.surf,Tm.inn];omega
   ·have:=q4 h;rw [Tm.surf,hVz];omega
   ·obtain ⟨g,rfl⟩:=psc g (by omega);rw [hp0,wK _ _ _ _ _ _ _ _ _ _ (by rw [<- ho0];exact hv30)]
 have h13:op=13:=by omega
 subst h13;rw [show ar 13=some 4 by decide,AhZ] at har
 obtain ⟨b0,z,b2,nn,rfl⟩:=TE har.symm;obtain ⟨w0,vz,w2,vn,rfl⟩:=TE q6;obtain ⟨p0,pz,p2,pn,rfl⟩:=TE q7;obtain ⟨x0,y0⟩:=q8 0 b0 rfl (by decide);obtain ⟨x2,y2⟩:=q8 2 b2 rfl (by decide);simp only [Aic,Aib,AhZ] at x0 y0 x2 y2;subst x0 y0 x2 y2;have rz:=q9 1 pz vz (by decide) rfl rfl;have rn:=q9 3 pn vn (by decide) rfl rfl;have hgd:=hgn.2.2.2.2.2.2.2 rfl b0 z b2 nn rfl;have hn0:=hgn.2.2.1 rfl;simp only [Tm.goodL,and_true] at hgl;simp only [Tm.wtL] at hw;rw [hV] at h00 hnode;obtain ⟨kr,cr,ur,Tr,a1,a2,a3,a4,a5,w',a6,a7⟩:=jY (f+1) (fun g hg=>ih g (by omega)) s1 n n env b0 b2 vz vn v s' e pz pn n [b0,z,b2,nn] h00 rz rn he rfl hgl.2.2.1 (by omega) (fun _=>hnode) (by
  intro px vx hx;rw [hn0];refine .node 13 0 0 [.nil,pz,.nil,px] [.clo env b0,vz,.clo env b2,vx] [b0,z,b2,nn] e env (by decide) (show ar 13=some 4 by decide) rfl rfl ?_ ?_ he.1 he.2
  ·intro i p r hb hp hr
   match i with
   | 0=>exact absurd hb (by decide)
   | 1=>simp only [Aic,Aib,AhZ] at hp hr;subst hp hr;exact rz
   | 2=>exact absurd hb (by decide)
   | 3=>simp only [Aic,Aib,AhZ] at hp hr;subst hp hr;exact hx
   | i+4=>simp at hp
  ·intro i b hb hi
   match i with
   | 0=>simp only [Aib,AhZ] at hi;subst hi;exact ⟨⟨hgl.1,by omega⟩,rfl,rfl⟩
   | 1=>exact absurd hb (by decide)
   | 2=>simp only [Aic,Aib,AhZ] at hi;subst hi;exact ⟨⟨hgl.2.2.1,by omega⟩,rfl,rfl⟩
   | 3=>exact absurd hb (by decide)
   | i+4=>simp at hi)
 have hiw:b2.wt<=Tm.innL 13 0 [b0,z,b2,nn]:=by simp only [Tm.innL];rw [if_pos (by decide),if_neg (by decide),if_pos (by decide),if_neg (by decide)];omega
 have hsl:GU 13 0 [b0,z,b2,nn] [.clo env b0,vz,.clo env b2,vn]=sl z vz+sl nn vn:=by
  simp only [GU];rw [if_pos (show 0<Al 13 0 by decide),if_neg (show ¬ 0<Al 13 (0+1) by decide),if_pos (show 0<Al 13 (0+1+1) by decide),if_neg (show ¬ 0<Al 13 (0+1+1+1) by decide)]
  omega
 have hsn:sl nn vn=3:=by unfold sl;rw [if_neg (fun h=>hgd.2.1.1 h.1),if_neg (fun h=>hgd.2.1.2 h.1),if_neg (by rw [hgd.2.2];decide)]
 have hsz:1<=sl z vz:=by
  unfold sl;split
  ·omega
  ·rw [if_neg (fun h=>hgd.1 h.1)];split<;>omega
 have hst:sl (.mk 13 n [b0,z,b2,nn]) V+2<=sl z vz+sl nn vn:=by
  have e1:sl (.mk 13 n [b0,z,b2,nn]) V=if (Tm.mk 13 n [b0,z,b2,nn]).badR=true then 2 else 3:=by unfold sl;rw [if_neg (by simp [Tm.op]),if_neg (by simp [Tm.op])]
  rw [e1];split
  ·omega
  ·rename_i hnb;have hb:¬ (z.op=19\/z.badR=true):=by
    intro h;apply hnb;rw [Tm.badR];simpa using h
   have:sl z vz=3:=by unfold sl;rw [if_neg (fun h=>hb (.inl h.1)),if_neg (fun h=>hgd.1 h.1),if_neg (fun h=>hb (.inr h))]
   omega
 have hle:1+(c1+cr)<=(Tm.mk 13 n [b0,z,b2,nn]).surf+(k1+kr) * (Tm.mk 13 n [b0,z,b2,nn]).inn:=by rw [Tm.surf,Tm.inn,Nat.add_mul];have e2:kr * b2.wt<=kr * Tm.innL 13 0 [b0,z,b2,nn]:=Nat.mul_le_mul_left _ hiw;omega
 by_cases hk0:kr=0
 ·obtain ⟨z1,z2,z3⟩:=a5 hk0;subst hk0 z1 z2;rw [if_pos rfl] at a4;refine ⟨k1+0,1+(c1+0),u1+1,1+(T1+Tr),by omega,⟨hle,by omega,by rw [z3,<- hV];omega,fun h=>?_⟩,by omega,w',a6,DS h1 (by simp) q11 a7⟩
  have:=q4 (by omega)
  rw [z3,<- hV,Tm.surf,hVz];omega
 ·rw [if_neg hk0] at a4;exact ⟨k1+kr,1+(c1+cr),u1+ur,1+(T1+Tr),by omega,⟨hle,by omega,Nat.le_trans (Nat.add_le_add_left (TQ _ _) _) (by omega),fun h=>by omega⟩,by omega,w',a6,DS h1 (by simp) q11 a7⟩
theorem PQ {f:Nat} (op:Int) (env:List RV) (ih:∀s t v s',AC f s 0 t env=some (v,s',0)->s<=1000->s'<=1000):∀(l:List Tm) (i:Nat) (s:Int) (vs:List RV) (s':Int),A7 (fun s e t=>AC f s e t env) op env i l s 0=some (vs,s',0)->s<=1000->s'<=1000
 | [],i,s,vs,s',h,hs=>by
  simp only [A7,AhZ,Ah0] at h;omega
 | t::l,i,s,vs,s',h,hs=>by
  simp only [A7] at h;split at h
  ·cases hk:A7 (fun s e t=>AC f s e t env) op env (i+1) l s 0 with
   | none=>rw [hk] at h;cases h
   | some q =>obtain ⟨vs1,s1,e1⟩:=q;rw [hk] at h;simp only [Ah2,AhZ,Ah0] at h;obtain ⟨_,rfl,rfl⟩:=h;exact PQ op env ih l _ _ _ _ hk hs
  ·split at h
   ·cases h
   ·rename_i v s1 e1 he;cases hk:A7 (fun s e t=>AC f s e t env) op env (i+1) l s1 e1 with
    | none=>rw [hk] at h;cases h
    | some q =>obtain ⟨vs2,s2,e2⟩:=q;rw [hk] at h;simp only [Ah2,AhZ,Ah0] at h;obtain ⟨_,rfl,rfl⟩:=h;have h0:=Gk _ (fun s e t v s' h=>Cq h) op env l _ _ _ _ _ hk;subst h0;exact PQ op env ih l _ _ _ _ hk (ih _ _ _ _ he hs)
theorem oY:∀f,(
           ∀s t env v s',AC f s 0 t env=some (v,s',0)->s<=1000->s'<=1000)/\(∀s v w s',headR f s 0 v=some (w,s',0)->s<=1000->s'<=1000):=by
 intro f
 induction f with
 | zero=>exact ⟨(by intro s t env v s' h;rw [AC] at h;cases h),(by intro s v w s' h;rw [headR] at h;cases h)⟩
 | succ f ih =>
  refine ⟨?_,?_⟩
  ·intro s t env v s' h hs;obtain ⟨op,n,ks⟩:=t;rw [AC] at h;rw [if_neg (by simp)] at h;split at h
   ·cases h
   split at h
   ·split at h
    ·split at h
     ·cases hr:env[((env.length:Int) - 1 - n).toNat]? with
      | none=>rw [hr] at h;cases h
      | some r =>rw [hr] at h;simp only [Ah2,AhZ,Ah0] at h;omega
     ·cases h
    ·split at h
     ·simp only [AhZ,Ah0] at h;omega
     ·cases h
   split at h
   ·cases h
   split at h
   ·cases h
   split at h
   ·cases h
   rename_i vs s1 e1 hk;have he:=Gg h;subst he;exact ih.2 _ _ _ _ h (PQ op env (fun s t v s'=>ih.1 s t env v s') ks _ _ _ _ hk hs)
  ·intro s v w s' h hs;rw [headR] at h;rw [if_neg (by simp)] at h;split at h
   ·cases h
   split at h
   ·split at h
    ·cases h
    ·split at h
     ·split at h
      ·split at h
       ·split at h
        ·cases h
        ·exact ih.1 _ _ _ _ _ h (by omega)
       ·cases h
      ·simp at h
     ·simp only [AhZ,Ah0] at h;omega
   split at h
   ·split at h
    ·cases h
    ·rename_i k0 _;split at h
     ·split at h
      ·cases hx:k0.k[(1+v.op - 8).toNat]? with
       | none=>rw [hx] at h;cases h
       | some x=>rw [hx] at h;simp only [Ah2,AhZ,Ah0] at h;omega
      ·simp at h
     ·simp only [AhZ,Ah0] at h;omega
   split at h
   ·split at h
    ·cases h
    ·rename_i k0 _;split at h
     ·split at h
      ·cases hx:k0.k[0]? with
       | none=>rw [hx] at h;cases h
       | some x=>rw [hx] at h;simp only [Ah2,AhZ,Ah0] at h;omega
      ·simp at h
     ·simp only [AhZ,Ah0] at h;omega
   split at h
   ·split at h
    ·cases h
    ·rename_i k0 _;split at h
     ·split at h
      ·cases hx:k0.k[0]? with
       | none=>rw [hx] at h;cases h
       | some x=>rw [hx] at h;simp only [Ah2,AhZ,Ah0] at h;omega
      ·simp at h
     ·simp only [AhZ,Ah0] at h;omega
   split at h
   ·split at h
    ·split at h
     ·split at h
      ·simp only [AhZ,Ah0] at h;omega
      ·simp at h
     ·split at h
      ·split at h
       ·split at h
        ·cases h
        ·split at h
         ·cases h
         ·rename_i vh s2 e2 hh;split at h
          ·cases h
          ·have he:=Cq h;subst he;exact ih.1 _ _ _ _ _ h (ih.2 _ _ _ _ hh (by omega))
       ·simp at h
      ·simp only [AhZ,Ah0] at h;omega
    ·cases h
   ·simp only [AhZ,Ah0] at h;omega
theorem Kl {f:Nat} {op u d:Int}:∀(l:List RV) (i:Nat) (s nd e:Int) (ts:List Tm) (s' nd':Int),Bd (fun s nd e k u=>AT f s nd e k u d) f op u i l s nd e=some (ts,s',nd',0)->e=0
 | [],i,s,nd,e,ts,s',nd',h=>by
  simp only [Bd,AhZ,Ah0] at h;exact h.2.2.2
 | k::l,i,s,nd,e,ts,s',nd',h=>by
  simp only [Bd] at h;split at h
  ·cases h
  rename_i k1 s1 e1 hk;split at h
  ·cases h
  rename_i t s2 nd2 e2 hr;cases hrest:Bd (fun s nd e k u=>AT f s nd e k u d) f op u (i+1) l s2 nd2 e2 with
  | none=>rw [hrest] at h;cases h
  | some q =>
   obtain ⟨ts2,s3,nd3,e3⟩:=q;rw [hrest] at h;simp only [Ah2,AhZ,Ah0] at h;obtain ⟨_,_,_,rfl⟩:=h
   have:=Kl l _ _ _ _ _ _ _ hrest
   subst this
   have:=DL hr
   subst this;split at hk
   ·split at hk
    ·cases hk
    ·exact Cq hk
   ·simp only [AhZ,Ah0] at hk;exact hk.2.2
def n8 (B f:Nat):Prop:=∀(s nd:Int) (v:RV) (u d:Int) (t:Tm) (s' nd':Int),AT f s nd 0 v u d=some (t,s',nd',0)->0<=nd->∀v',Rel B v' v->∃k c uu T N:Nat,s'=s+k/\nd'=nd+N/\nd'<=3000/\(s<=1000->s'<=1000)/\c+v.vsz<=N+B * k/\5 * uu<=3 * c+10 * k/\T<=N+c+uu+2 * k /\
 ∃F,∀g,F<=g->∀m,MOk m k T->RJ g v' u d m nd=some (t,Gf m k T,nd')
theorem wX {B:Nat} (u:Int) (b:Nat):∀(i:Nat) p r,(QH u b)[i]?=some p->(ER u b)[i]?=some r->Rel B p r:=by
 intro i p r hp hr;rw [QH,List.getElem?_map] at hp;rw [ER,List.getElem?_map] at hr;cases hx:(List.range b)[i]? with
 | none=>rw [hx] at hp;cases hp
 | some j =>rw [hx] at hp hr;simp only [Ah2,AhZ] at hp hr;subst hp hr;exact .var _
theorem Ts {B f:Nat} (ih:n8 B f) (op u d n n':Int) (kp0:List PV) (ts:List Tm) (e:List PV) (env:List RV) (he:Gb B e env):∀(l:List RV) (lp:List PV) (i:Nat) (s nd:Int) (rs:List Tm) (s' nd':Int),Bd (fun s nd e k u=>AT f s nd e k u (d+1)) f op u i l s nd 0=some (rs,s',nd',0)->0<=nd->nd<=3000->lp.length=l.length ->
  (∀j p r,Al op (i+j)=0->lp[j]?=some p->l[j]?=some r->Rel B p r)->(∀j r,0<Al op (i+j)->l[j]?=some r->∃b,ts[i+j]?=some b/\b.good/\b.wt<=B/\r=.clo env b) ->
  ∃k c uu T N:Nat,s'=s+k/\nd'=nd+N/\nd'<=3000/\(s<=1000->s'<=1000)/\c+RV.vszL op i l<=N+B * k/\5 * uu<=3 * c+10 * k/\T<=N+c+uu+2 * k /\
   ∃F,∀g,F<=g->∀m,MOk m k T->YS (fun v below m r=>RJ g v below (d+1) m r) (fun i l m=>opP g (.mk op n kp0 (.mk op n' ts) e) i l m) op u i lp m nd=some (some rs,Gf m k T,nd')
 | [],lp,i,s,nd,rs,s',nd',h,h0,h3,hl,_,_=>by
  simp only [Bd,AhZ,Ah0] at h;obtain ⟨rfl,rfl,rfl,_⟩:=h
  have:lp=[]:=Aia hl
  subst this;refine ⟨0,0,0,0,0,by omega,by omega,h3,id,by simp [RV.vszL],by omega,by omega,0,fun g _ m hm=>?_⟩;rw [YS,Oj hm.e]
 | k::l,lp,i,s,nd,rs,s',nd',h,h0,h3,hl,hA,hB=>by
  obtain ⟨p,lp,rfl⟩:∃p lp',lp=p::lp':=by
   cases lp with
   | nil=>cases hl
   | cons p lp=>exact ⟨p,lp,rfl⟩
  simp only [Bd] at h;split at h
  ·cases h
  rename_i k1 s1 e1 hk;split at h
  ·cases h
  rename_i t s2 nd2 e2 hr;cases hrest:Bd (fun s nd e k u=>AT f s nd e k u (d+1)) f op u (i+1) l s2 nd2 e2 with
  | none=>rw [hrest] at h;cases h
  | some q =>
  obtain ⟨ts2,s3,nd3,e3⟩:=q;rw [hrest] at h;simp only [Ah2,AhZ,Ah0] at h;obtain ⟨rfl,rfl,rfl,rfl⟩:=h;have h2:=Kl l _ _ _ _ _ _ _ hrest;subst h2;have h1:=DL hr;subst h1;have hA':∀j p r,Al op (i+1+j)=0->lp[j]?=some p->l[j]?=some r->Rel B p r:=fun j p r a b c=>hA (j+1) p r (by rwa [show i+(j+1)=i+1+j by omega]) b c
  have hB':∀j r,0<Al op (i+1+j)->l[j]?=some r->∃b,ts[i+1+j]?=some b/\b.good/\b.wt<=B/\r=.clo env b:=fun j r a b=>by
   obtain ⟨x,y⟩:=hB (j+1) r (by rwa [show i+(j+1)=i+1+j by omega]) b
   exact ⟨x,by rwa [show i+1+j=i+(j+1) by omega]⟩
  by_cases hb:0<Al op i
  ·rw [if_pos hb] at hk;split at hk
   ·cases hk
   obtain ⟨b,hb1,hb2,hb3,rfl⟩:=hB 0 k (by simpa using hb) rfl;rw [Nat.add_zero] at hb1;rw [show (RV.clo env b).env=env from rfl,show (RV.clo env b).b=b from rfl] at hk
   have hb22:=A0 op i;obtain ⟨ke,ce,ue,Te,d1,d2,d3,d4⟩:=MR (QO B f) (l:=QH u (Al op i)) (l':=ER u (Al op i)) he (by rw [JG,CC]) (wX u _) hb2 hb3 hk;obtain ⟨w1,y1,F1,y2⟩:=T8 (op:=op) (n:=n) (n':=n') (ps:=kp0) hb1 (by rw [JG];exact hb22) d4;have hsle:=(oY f).1 _ _ _ _ _ hk;obtain ⟨kr,cr,ur,Tr,Nr,r1,r2,r3,r4,r5,r6,r7,F2,r8⟩:=ih s1 nd k1 _ _ t s2 nd2 hr h0 w1 y1;obtain ⟨kk,cc,uu,TT,NN,q1,q2,q3,q4,q5,q6,q7,F3,q8⟩:=Ts ih op u d n n' kp0 ts e env he l lp (i+1) s2 nd2 ts2 s3 nd3 hrest (by omega) (by omega) (by simpa using hl) hA' hB';have hde:=d2.le;have hdp:=d2.p;have hsi:=MU b;refine ⟨ke+(kr+kk),ce+(cr+cc),ue+(ur+uu),Te+(Tr+TT),Nr+NN,by omega,by omega,q3,fun h=>q4 (r4 (hsle h)),?_,by omega,by omega,F1+F2+F3,fun g hg m hm=>?_⟩
   ·rw [RV.vszL,if_pos hb,Nat.mul_add,Nat.mul_add];have hce:ce<=k1.vsz+B * ke:=by
     cases hke:ke with
     | zero =>
      have:=d2.v hke
      rw [hke] at hde;omega
     | succ k' =>
      rw [hke] at hde;have e1:(k'+1) * b.wt<=(k'+1) * B:=Nat.mul_le_mul_left _ hb3;have e2:(k'+1) * b.wt=(k'+1) * b.surf+(k'+1) * b.inn:=by rw [<- hsi,Nat.mul_add]
      have e3:b.surf<=(k'+1) * b.surf:=Nat.le_mul_of_pos_left _ (by omega);rw [Nat.mul_comm B];omega
    omega
   ·rw [YS,if_pos hb,y2 g (by omega) m (MN hm)];have hm2:=Ip hm;simp only;rw [if_neg (by simp [Gf]),r8 g (by omega) _ (MN hm2)];simp only;rw [q8 g (by omega) _ (Ip hm2),Fa,Fa];simp only [Ah2]
  ·rw [if_neg hb] at hk;simp only [AhZ,Ah0] at hk;obtain ⟨rfl,rfl,_⟩:=hk;have hb0:Al op i=0:=by omega
   have hrel:=hA 0 p k (by simpa using hb0) rfl rfl;obtain ⟨kr,cr,ur,Tr,Nr,r1,r2,r3,r4,r5,r6,r7,F2,r8⟩:=ih s nd k _ _ t s2 nd2 hr h0 p hrel;obtain ⟨kk,cc,uu,TT,NN,q1,q2,q3,q4,q5,q6,q7,F3,q8⟩:=Ts ih op u d n n' kp0 ts e env he l lp (i+1) s2 nd2 ts2 s3 nd3 hrest (by omega) (by omega) (by simpa using hl) hA' hB';refine ⟨kr+kk,cr+cc,ur+uu,Tr+TT,Nr+NN,by omega,by omega,q3,fun h=>q4 (r4 h),?_,by omega,by omega,F2+F3,fun g hg m hm=>?_⟩
   ·rw [RV.vszL,if_neg hb,Nat.mul_add];omega
   ·rw [YS,if_neg hb];simp only;rw [if_neg (fun h=>h hm.e),r8 g (by omega) _ (MN hm)];simp only;rw [q8 g (by omega) _ (Ip hm),Fa];simp only [Ah2]
theorem ZN (B:Nat):∀f,n8 B f:=by
 intro f
 induction f with
 | zero=>intro s nd v u d t s' nd' h;rw [AT] at h;cases h
 | succ f ih =>
  intro s nd v u d t s' nd' h h0 v' hv;rw [AT] at h;split at h
  ·cases h
  rename_i hr;by_cases hbig:3000<nd+1\/120<d
  ·rw [if_pos (show (0:Int)=0/\(3000<nd+1\/120<d) from ⟨rfl,hbig⟩)] at h
   simp at h
  rw [if_neg (show ¬ ((0:Int)=0/\(3000<nd+1\/120<d)) from fun h=>hbig h.2),if_neg (by simp)] at h
  have htick:∀{m:M3} {k T:Nat},MOk m k (1+T)->Hs ⟨m.s,m.w,if m.e=0/\(3000<nd+1\/120<d) then 5 else m.e⟩=some (Gf m 0 1):=by intro m k T hm;rw [if_neg (fun h=>hbig h.2)];exact LN hm
  by_cases h1:v.op=1
  ·rw [if_pos h1] at h;simp only [AhZ,Ah0] at h;obtain ⟨rfl,rfl,rfl,_⟩:=h;obtain ⟨op,n,k,t0,e0,rfl,ho,hn⟩:=L7 hv;have hvz:v.vsz=1:=by
    cases hv with
    | var n=>simp [RV.var,RV.vsz,RV.vszL]
    | node op n n' kp kr ts e env h1'=>exact absurd h1 h1'
   refine ⟨0,0,0,1,1,by omega,by omega,by omega,id,by omega,by omega,by omega,1,fun g hg m hm=>?_⟩;obtain ⟨g,rfl⟩:=psc g (by omega);rw [RJ,if_neg (by omega),htick (k:=0) (T:=0) hm];simp only;rw [if_neg (by simp [Gf]),if_pos (by rw [<- ho];exact h1),if_neg (by rw [<- hn];omega),hn]
  ·rw [if_neg h1] at h;obtain ⟨n',kp,ts,e,env,rfl,b1,b2,b3,b4,b5,b6⟩:=H0 hv h1;have b14:=Zr b1;cases hk:Bd (fun s nd e k u=>AT f s nd e k u (d+1)) f v.op u 0 v.k s (nd+1) 0 with
   | none=>rw [hk] at h;cases h
   | some q =>
   obtain ⟨rs,s1,nd1,e1⟩:=q;rw [hk] at h;simp only [Ah2,AhZ,Ah0] at h;obtain ⟨rfl,rfl,rfl,rfl⟩:=h;obtain ⟨kk,cc,uu,TT,NN,q1,q2,q3,q4,q5,q6,q7,F3,q8⟩:=Ts ih v.op u d v.n n' kp ts e env b6 v.k kp 0 s (nd+1) rs s1 nd1 hk (by omega) (by omega) (by omega) (fun j p r a b c=>b4 j p r (by simpa using a) b c) (by
    intro j r a b;rw [Nat.zero_add] at a ⊢;have hj:j<ts.length:=by
     have:=(Ah7.1 b).1
     omega
    obtain ⟨⟨g1,g2⟩,_,g3⟩:=b5 j ts[j] a (Ah6 hj);rw [b,AhZ] at g3;exact ⟨ts[j],Ah6 hj,g1,g2,g3⟩)
   have hvz:v.vsz=1+RV.vszL v.op 0 v.k:=by obtain ⟨a,b,c,d,e⟩:=v;rw [RV.vsz];rfl
   refine ⟨kk,cc,uu,1+TT,1+NN,q1,by omega,q3,q4,by omega,by omega,by omega,F3+20,fun g hg m hm=>?_⟩;obtain ⟨g,rfl⟩:=psc g (by omega);have hm':MOk (Gf m 0 1) kk TT:=Ip (k1:=0) ⟨hm.e,hm.w,hm.w2,by have:=hm.s;omega,hm.s2⟩;rw [RJ,if_neg (by omega),htick hm];simp only;rw [if_neg (by simp [Gf]),if_neg h1,if_neg (by omega),q8 g (by omega) _ hm',Fa];simp only [Nat.zero_add]
def cL {f:Nat} {t u:Tm} (hg:t.good) (hw:t.wt<=3000) (hs:t.shaped=true) (h:AE f t=some (u,0)):∃F,∀g,F<=g->WC g t=some (u,0):=by
 rw [AE] at h;split at h
 ·cases h
 rename_i v s e he;split at h
 ·cases h
 rename_i w s2 nd2 e2 hr;simp only [AhZ] at h;by_cases h2:e2=0
 ·subst h2;rw [if_neg (by simp)] at h;simp only [Ah0,and_true] at h;subst h;have h1:=DL hr;subst h1;obtain ⟨k0,c0,u0,T0,a1,a2,a3,v',a4,F0,a5⟩:=QO 3000 f 0 t [] v s he hg hw [] (SA _);obtain ⟨k1,c1,u1,T1,N,r1,r2,r3,r4,r5,r6,r7,F1,r8⟩:=ZN 3000 f s 0 v 0 1 w s2 nd2 hr (by omega) v' a4;have hs1:=(oY f).1 _ _ _ _ _ he (by omega);have hs2:=r4 hs1;have hc:=Pw a2;have hp:=a2.p;have hk:k0+k1<=1000:=by omega
  have hc2:(k0+1) * t.wt<=(k0+1) * 3000:=Nat.mul_le_mul_left _ hw;have hvp:=Vl v;refine ⟨F0+F1,fun g hg=>?_⟩;have hm:MOk ⟨100000,5000000,0⟩ (k0+k1) (T0+T1):=⟨rfl,by simp only;omega,by simp,by simp only;omega,by simp⟩;rw [WC,if_neg (by rw [hs];simp),a5 g (by omega) _ (MN hm)];simp only;rw [if_neg (by simp [Gf]),r8 g (by omega) _ (Ip hm)];simp only;rw [if_neg (by simp [Gf])]
 ·rw [if_pos h2] at h;simp only [Ah0] at h;exact absurd h.2 h2
theorem ND {f:Nat} {op d:Int} {u k0:Nat} (hu:k0+u<=700000) (ih:∀(t:Tm) (u:Nat) (s nd:Int) (r:Tm) (s' nd':Int),AT f s nd 0 (t.val u) u d=some (r,s',nd',0)->t.stl->t.sc (k0+u)->k0+u+2 * t.wt<=700000->0<=s->s<=1000000->r=t/\s'=s) :
  ∀(l:List Tm) (i:Nat) (s nd:Int) (ts:List Tm) (s' nd':Int),Bd (fun s nd e k u=>AT f s nd e k u d) f op u i (Tm.valL op i l u) s nd 0=some (ts,s',nd',0)->Tm.stlL l->Tm.scL op i l (k0+u)->k0+u+2+2 * Tm.wtL l<=700000->0<=s->s<=1000000->ts=l/\s'=s
 | [],i,s,nd,ts,s',nd',h,_,_,_,_,_=>by
  simp only [Tm.valL,Bd,AhZ,Ah0] at h;exact ⟨h.1.symm,h.2.1.symm⟩
 | t::l,i,s,nd,ts,s',nd',h,hst,hsc,hw,h0,h1=>by
  have hbn:=A0 op i;rw [Tm.stlL] at hst;rw [Tm.scL] at hsc;simp only [Tm.wtL] at hw;rw [Tm.valL,Bd] at h;have key:∀(v:RV) (s1 e1:Int) (r:Tm) (s2 nd2 e2:Int),v=t.val (u+Al op i)->s1=s->AT f s1 nd e1 v ((u:Int)+Al op i) d=some (r,s2,nd2,e2) ->
    ((Bd (fun s nd e k u=>AT f s nd e k u d) f op u (i+1) (Tm.valL op (i+1) l u) s2 nd2 e2).map fun (ts,s,nd,e)=>(r::ts,s,nd,e))=some (ts,s',nd',0)->ts=t::l/\s'=s:=by
   rintro v s1 e1 r s2 nd2 e2 rfl rfl hr hk;cases hk2:Bd (fun s nd e k u=>AT f s nd e k u d) f op u (i+1) (Tm.valL op (i+1) l u) s2 nd2 e2 with
   | none=>rw [hk2] at hk;cases hk
   | some q =>
    obtain ⟨ts2,s3,nd3,e3⟩:=q;rw [hk2] at hk;simp only [Ah2,AhZ,Ah0] at hk;obtain ⟨rfl,rfl,rfl,rfl⟩:=hk
    have:=Kl _ _ _ _ _ _ _ _ hk2
    subst this
    have:=DL hr
    subst this;rw [show (u:Int)+(Al op i:Int)=((u+Al op i:Nat):Int) by omega] at hr
    obtain ⟨rfl,rfl⟩:=ih t _ _ _ _ _ _ hr hst.1 (by rw [<- Nat.add_assoc];exact hsc.1) (by omega) h0 h1;obtain ⟨rfl,rfl⟩:=ND hu ih l (i+1) _ _ _ _ _ hk2 hst.2 hsc.2 (by omega) h0 h1;exact ⟨rfl,rfl⟩
  by_cases hb:0<Al op i
  ·rw [if_pos hb,if_pos hb] at h;rw [show (RV.clo (ER 0 u) t).env=ER 0 u from rfl,show (RV.clo (ER 0 u) t).b=t from rfl,if_neg (by rw [CC];omega),Vw] at h
   split at h
   ·cases h
   rename_i v1 s1 e1 hev;split at h
   ·cases h
   rename_i r s2 nd2 e2 hr;obtain ⟨g,hg⟩:=HM h0 h1 k0 (t.wt+1) t (u+Al op i) (by omega) hst.1 (by rw [<- Nat.add_assoc];exact hsc.1) (by omega);have a1:=B4 (show f<=f+g by omega) hev
   have a2:=B4 (show g<=f+g by omega) hg
   rw [a1] at a2;simp only [AhZ,Ah0] at a2;exact key _ _ _ _ _ _ _ a2.1 a2.2.1 hr h
  ·have hb0:Al op i=0:=by omega
   rw [if_neg hb,if_neg hb] at h;simp only at h;split at h
   ·cases h
   rename_i r s2 nd2 e2 hr;exact key _ _ _ _ _ _ _ (by rw [hb0,Nat.add_zero]) rfl hr h
theorem fF (k0:Nat):∀(f:Nat) (t:Tm) (u:Nat) (s nd d:Int) (r:Tm) (s' nd':Int),AT f s nd 0 (t.val u) u d=some (r,s',nd',0)->t.stl->t.sc (k0+u)->k0+u+2 * t.wt<=700000->0<=s->s<=1000000->r=t/\s'=s:=by
 intro f
 induction f with
 | zero=>intro t u s nd d r s' nd' h;rw [AT] at h;cases h
 | succ f ih =>
  intro t u s nd d r s' nd' h hst hsc hw h0 h1;obtain ⟨op,n,ks⟩:=t;rw [Tm.stl] at hst;rw [Tm.sc] at hsc;simp only [Tm.wt] at hw;rw [AT] at h;split at h
  ·cases h
  by_cases hc:(if (0:Int)=0/\(3000<nd+1\/120<d) then (5:Int) else 0)≠0
  ·rw [if_pos hc] at h;simp only [AhZ,Ah0] at h;exact absurd (by simpa using h.2.2.2) hc
  rw [if_neg hc] at h;by_cases h1o:op=1
  ·subst h1o;rw [if_pos rfl] at hsc;have hks:ks=[]:=Aia (Option.some.inj hsc.1.symm);subst hks;rw [Tm.val,if_pos rfl,if_pos (show (RV.var ((u:Int) - 1 - n)).op=1 from rfl),show (RV.var ((u:Int) - 1 - n)).n=(u:Int) - 1 - n from rfl] at h
   simp only [AhZ,Ah0] at h;obtain ⟨rfl,rfl,_⟩:=h;exact ⟨by rw [show (u:Int) - 1 - ((u:Int) - 1 - n)=n by omega],rfl⟩
  ·rw [if_neg h1o] at hsc;have e:(Tm.mk op n ks).val u=.node op n (Tm.valL op 0 ks u):=by rw [Tm.val,if_neg h1o]
   rw [e,show (RV.node op n (Tm.valL op 0 ks u)).op=op from rfl,show (RV.node op n (Tm.valL op 0 ks u)).n=n from rfl,show (RV.node op n (Tm.valL op 0 ks u)).k=Tm.valL op 0 ks u from rfl,if_neg h1o] at h
   cases hk:Bd (fun s nd e k u=>AT f s nd e k u (d+1)) f op u 0 (Tm.valL op 0 ks u) s (nd+1) 0 with
   | none=>rw [hk] at h;cases h
   | some q =>obtain ⟨ts,s2,nd2,e2⟩:=q;rw [hk] at h;simp only [Ah2,AhZ,Ah0] at h;obtain ⟨rfl,rfl,rfl,rfl⟩:=h;obtain ⟨rfl,rfl⟩:=ND (k0:=k0) (by omega) (fun t u s nd r s' nd' a b c w x y=>ih t u s nd (d+1) r s' nd' a b c w x y) ks 0 s (nd+1) ts s2 nd2 hk hst.2 hsc.2.2 (by omega) h0 h1;exact ⟨rfl,rfl⟩
def AN {t u:Tm} {k f:Nat} (hst:t.stl) (hsc:t.sc k) (hw:k+2 * t.wt<=600000) (h:AE f t=some (u,0)):u=t:=by
 rw [AE] at h;split at h
 ·cases h
 rename_i v s e he;split at h
 ·cases h
 rename_i w s2 nd2 e2 hr;simp only [AhZ] at h;by_cases h2:e2=0
 ·subst h2;rw [if_neg (by simp)] at h;simp only [Ah0,and_true] at h;subst h
  have:=DL hr
  subst this;obtain ⟨g,hg⟩:=HM (s:=0) (by omega) (by omega) k (t.wt+1) t 0 (by omega) hst (by simpa using hsc) (by omega);have a1:=B4 (show f<=f+g by omega) he
  have a2:=B4 (show g<=f+g by omega) hg
  rw [show ER 0 0=[] from rfl,a1] at a2
  simp only [AhZ,Ah0] at a2;obtain ⟨rfl,rfl,_⟩:=a2;exact (fF k f t 0 0 0 1 w s2 nd2 hr hst (by simpa using hsc) (by omega) (by omega) (by omega)).1
 ·rw [if_pos h2] at h;simp only [Ah0] at h;exact absurd h.2 h2
def U3 (ih:Ai) (xs:List IV) (h0:Hp) (k:KT (IV×Hp)):CN EE ih (.fv (.func (.func 139) [] [])) xs h0 k=A5 [] false false ih 139 xs h0 k :=NV (by kernel_rfl) (by kernel_rfl) (by kernel_rfl) (by kernel_rfl) ..
def vJ {n:Nat} (ka kb:List Tm) (hn:ka.length<n) (hl:ka.length<=1000000000) (ih:∀a∈ka,∀b∈kb,BC (SS dt n 139 [.fv a.enc,.fv b.enc] ⟨[],[]⟩) (.bool (a.same b))) :
  BC (SS dt (n+1) 150 [.fv (.sl (ka.map Tm.enc)),.fv (.sl (kb.map Tm.enc)),.fv (.func (.func 139) [] [])] ⟨[],[]⟩) (.bool (decide (ka.length=kb.length) && Tm.sameL ka kb)):=by
 rw [Acg];by_cases h:ka.length=kb.length
 ·have h':(ka.length:Int)=kb.length:=by omega
  rw [decide_eq_true h,Bool.true_and];simp only [HO,Tk,↓XX,XY,↓reduceIte,seval,h',↓AJ,XD,heldB,AS,XE];refine Be (Q:=fun r=>BC r _) (fun k V H=>∃pa ra pb rb,ka=pa++ra/\kb=pb++rb/\pa.length=pb.length/\ra.length=k/\V=[.fv (.sl (kb.map Tm.enc)),.fv (.func (.func 139) [] []),.fv (.sl (ka.map Tm.enc)),iv ka.length,iv pa.length]/\H=⟨[],[]⟩/\Tm.sameL ra rb=Tm.sameL ka kb)
   ?_ n ka.length _ _ hn ⟨[],ka,[],kb,rfl,rfl,rfl,rfl,by rw [h];rfl,rfl,rfl⟩
  rintro k V H rec ⟨pa,ra,pb,rb,hka,hkb,hpl,hk,rfl,rfl,hs⟩ hrec;have hal:ka.length=pa.length+ra.length:=by rw [hka];simp
  have hbl:kb.length=pb.length+rb.length:=by rw [hkb];simp
  cases ra with
  | nil =>
   have hno:¬ ((pa.length:Int)<ka.length):=by rw [hal];simp
   rw [<- hs];simp only [HO,J2,Tk,↓XX,XY,↓reduceIte,seval,hno,Tm.sameL];exact Ay _ _
  | cons a ra =>
   simp only [Ah3] at hal hk;cases rb with
   | nil=>simp only [List.length_nil] at hbl;omega
   | cons b rb =>
    have hi:(pa.length:Int)<ka.length:=by omega
    have hga:=B2 hka;have hgb:=B2 hkb;rw [<- hpl] at hgb;have hc:=ih a (by rw [hka];simp) b (by rw [hkb];simp);have hwi:BF ((pa.length:Int)+1)=((pa++[a]).length:Int):=(Az (by omega) (by omega)).trans (by simp);simp only [Tm.sameL] at hs;generalize a.same b=v at hc hs;obtain ⟨o,p,l⟩:=a;obtain ⟨o2,p2,l2⟩:=b;simp only [An] at hc;cases v
    ·rw [<- hs];simp only [HO,J2,Tk,↓XX,XY,↓reduceIte,seval,hi,↓Br (AO hga) (Bm _ _ _),↓Br (AO hgb) (Bm _ _ _),↓Cd,↓U3,↓Ag hc];exact Ay _ _
    ·simp only [HO,J2,Tk,↓XX,XY,↓reduceIte,seval,hi,↓Br (AO hga) (Bm _ _ _),↓Br (AO hgb) (Bm _ _ _),↓Cd,↓U3,↓Ag hc,hwi,↓AJ,XD,heldB,AS,XE];exact hrec ra.length _ _ (by omega) ⟨pa++[.mk o p l],ra,pb++[.mk o2 p2 l2],rb,by rw [hka];simp,by rw [hkb];simp,by simp [hpl],rfl,rfl,rfl,by simpa using hs⟩
 ·have h':¬ (ka.length:Int)=kb.length:=by omega
  rw [decide_eq_false h,Bool.false_and];simp only [HO,J2,Tk,↓XX,XY,↓reduceIte,seval,h'];exact Ay _ _
theorem QY:∀(n:Nat) (a b:Tm),2 * a.wt+2<n->a.wt<=100000000->BC (SS dt n 139 [.fv a.enc,.fv b.enc] ⟨[],[]⟩) (.bool (a.same b)):=by
 intro n
 induction n using Nat.strongRecOn with
 | ind n ih =>
  intro a b hn hw;obtain ⟨o,m,ka⟩:=a;obtain ⟨o',m',kb⟩:=b;simp only [Tm.wt] at hn hw;obtain ⟨n,rfl⟩:∃k,n=k+1+1:=⟨n - 2,by omega⟩;have hlen:=Dq ka;have hq:=vJ (n:=n) ka kb (by omega) (by omega) (fun a ha b _=>ih n (by omega) a b (by have:=Cb ha;omega) (by have:=Cb ha;omega));rw [Aek,An,An,Tm.same];generalize (decide (ka.length=kb.length) && Tm.sameL ka kb)=v at hq;by_cases h1:o=o'
  ·by_cases h2:m=m'
   ·subst h1 h2;simp only [cC,↓XX,XY,↓reduceIte,seval,↓Av hq];exact Ay _ _
   ·have h2':=decide_eq_false h2;subst h1;simp only [cC,↓XX,XY,↓reduceIte,seval,h2];exact Ay _ _
  ·simp only [cC,↓XX,XY,↓reduceIte,seval,h1];exact Ay _ _
def JW {n:Nat} (hn:0<n) (o m:Int) (ks:List Tm) (d:Int) (h1:-4611686018427387904<=m+d) (h2:m+d<=4611686018427387904):BC (SS dt n 132 [.fv (Tm.mk o m ks).enc,iv d] ⟨[],[]⟩) (Tm.mk 1 (m+d) []).enc:=by
 obtain ⟨n,rfl⟩:=psc n (by omega);rw [AcQ,An,An];have hw:BF (m+d)=m+d:=by rw [Az]<;>omega
 simp only [uF,↓XX,XY,↓reduceIte,seval,hw];exact Bp rfl _
def SJ {ks:List Bool} {ih:Ai} {f:FuncId} {args:List IV} {vs:List FV} {w:FV} {u:List (Ref×Blk)} {lg:List Ref} {own own':List (Nat×Blk)}
  (hz:∀(e:Option (IV×Hp)) (k:List IV->List Ref->List (Ref×Blk)->List Ref->Option (IV×Hp)),So args ks ⟨own,[]⟩ [] e k=k (vs.map .fv) [] u lg)
  (hr:Iy (ih f (vs.map .fv) ⟨[],[]⟩) w) (hlay:∀k:Hp->Option (IV×Hp),Kq u ⟨own,[]⟩ k=k ⟨own',[]⟩) (k:KT (IV×Hp)) :
  A5 ks false false ih f args ⟨own,[]⟩ k=k (.fv w) ⟨own',[]⟩ lg (Bz u):=by
 rw [JJ,hz,y4 hr,hlay]
def b9 {g:FuncId} (h:EE.pol.inl g=false) (h1:EE.pol.keep g=[]) (h2:EE.pol.split g=false) (h3:EE.pol.raw g=false) (caps:List FV) (ih:Ai) (xs:List IV) (h0:Hp) (k:KT (IV×Hp)) :
  CN EE ih (.fv (.func (.func g) [] caps)) xs h0 k=A5 [] false false ih g (xs++caps.map .fv) h0 k:=by
 unfold CN;simp only [callee,h,cond_false,ZF,h1,h2,h3,Ah4,List.nil_append]
def Qv (s:Nat) (b c:Blk) (l:List (Nat×Blk)):AQ s b ((s,c)::l)=(s,b)::l:=by simp only [AQ,if_true]
def Lx {s j:Nat} (h:(s == j)=false) (b c:Blk) (l:List (Nat×Blk)):AQ s b ((j,c)::l)=(j,c)::AQ s b l:=by
 have:¬ s=j:=by simpa using h
 simp only [AQ,if_neg this]
def nW (fn:Fn) (r r':Ref) (o o':Nat):CJ fn [] [.ptr r o,.ptr r' o']=.func fn [] [.ptr r o,.ptr r' o']:=rfl
def wV (fn:Fn) (r:Ref) (o:Nat):CJ fn [] [.ptr r o]=.func fn [] [.ptr r o]:=rfl
def cW {d s:Nat} {cs:List FV} {ro:Bool} {own:List (Nat×Blk)} {ext:List Blk} (hl:Aq s own=some (.row (cs.map .fv) ro)) (hn:cs.length<=300) (lg:List Ref) (e:Option (IV×Hp)) (k:FV->List (Ref×Blk)->List Ref->Option (IV×Hp)) :
  DB (d+2) (.ptr (.own s) 0) ⟨own,ext⟩ lg e k=k (.fp cs 0) [(.own s,.row (cs.map .fv) true)] (.own s::lg):=by
 show (Dr (.own s) ⟨own,ext⟩ fun b=>D4 b fun cells=>cond (Nat.ble cells.length 300) (CP (DB (d+1)) cells ⟨own,ext⟩ (.own s::lg) e fun cs u lg=>k (.fp cs 0) ((.own s,.row cells true)::u) lg) e)=_
 rw [J7,BB,hl];simp only [Option.bind_some,Hn,List.length_map];rw [Bq,decide_eq_true hn,fX,L2]
def qD {s1 s2:Nat} {c1 c2:List FV} {r1 r2:Bool} {fn:Fn} {own:List (Nat×Blk)} {ext:List Blk} (h1:Aq s1 own=some (.row (c1.map .fv) r1)) (h2:Aq s2 own=some (.row (c2.map .fv) r2)) (n1:c1.length<=300) (n2:c2.length<=300)
  (lg:List Ref) (e:Option (IV×Hp)) (k:FV->List (Ref×Blk)->List Ref->Option (IV×Hp)) :
  DB 12 (.func fn [] [.ptr (.own s1) 0,.ptr (.own s2) 0]) ⟨own,ext⟩ lg e k=k (.func fn [] [.fp c1 0,.fp c2 0]) [(.own s1,.row (c1.map .fv) true),(.own s2,.row (c2.map .fv) true)] (.own s2 :: .own s1::lg):=by
 show (CP (DB 11) [] ⟨own,ext⟩ lg e fun x u lg=>CP (DB 11) [.ptr (.own s1) 0,.ptr (.own s2) 0] ⟨own,ext⟩ lg e fun y v lg=>K8 u v fun w=>k (.func fn x y) w lg)=_
 rw [v8,Su,cW (d:=9) h1 n1,Su,cW (d:=9) h2 n2,v8];rfl
def s9 {s1:Nat} {c1:List FV} {r1:Bool} {fn:Fn} {own:List (Nat×Blk)} {ext:List Blk} (h1:Aq s1 own=some (.row (c1.map .fv) r1)) (n1:c1.length<=300)
  (lg:List Ref) (e:Option (IV×Hp)) (k:FV->List (Ref×Blk)->List Ref->Option (IV×Hp)) :
  DB 12 (.func fn [] [.ptr (.own s1) 0]) ⟨own,ext⟩ lg e k=k (.func fn [] [.fp c1 0]) [(.own s1,.row (c1.map .fv) true)] (.own s1::lg):=by
 show (CP (DB 11) [] ⟨own,ext⟩ lg e fun x u lg=>CP (DB 11) [.ptr (.own s1) 0] ⟨own,ext⟩ lg e fun y v lg=>K8 u v fun w=>k (.func fn x y) w lg)=_
 rw [v8,Su,cW (d:=9) h1 n1,v8];rfl
def UL {ih:Ai} {f:FuncId} {x y w:FV} {a b:IV} {fn:Fn} {s1 s2:Nat} {c1 c2:List FV} {r1 r2:Bool} {own own':List (Nat×Blk)} (hr:Iy (ih f [.fv x,.fv y,.fv (.func fn [] [.fp c1 0,.fp c2 0])] ⟨[],[]⟩) w) (ha:Bg a=some x) (hb:Bg b=some y)
  (h1:Aq s1 own=some (.row (c1.map .fv) r1)) (h2:Aq s2 own=some (.row (c2.map .fv) r2)) (h2':Aq s2 (AQ s1 (.row (c1.map .fv) true) own)=some (.row (c2.map .fv) r2)) (n1:c1.length<=300) (n2:c2.length<=300)
  (ho:AQ s2 (.row (c2.map .fv) true) (AQ s1 (.row (c1.map .fv) true) own)=own') (k:KT (IV×Hp)) :
  A5 [] false false ih f [a,b,.func fn [] [.ptr (.own s1) 0,.ptr (.own s2) 0]] ⟨own,[]⟩ k=k (.fv w) ⟨own',[]⟩ [.own s2,.own s1] [.own s1,.own s2]:=by
 subst ho;refine SJ (vs:=[x,y,.func fn [] [.fp c1 0,.fp c2 0]]) (u:=[(.own s1,.row (c1.map .fv) true),(.own s2,.row (c2.map .fv) true)]) (lg:=[.own s2,.own s1]) ?_ hr ?_ k
 ·intro e k;rw [rX,G6 _ _ e _ ha,rX,G6 _ _ e _ hb,rX,qD h1 h2 n1 n2,rJ];rfl
 ·intro k
  show (EW own s1 fun _=>Bf own s1 (.row (c1.map .fv) true) fun own=>EW own s2 fun _=>Bf own s2 (.row (c2.map .fv) true) fun own=>k ⟨own,_⟩)=_
  rw [BB,h1,Option.bind_some,BO,BB,h2',Option.bind_some,BO]
def nM {ih:Ai} {f:FuncId} {x y w:FV} {a b:IV} {fn:Fn} {s1:Nat} {c1:List FV} {r1:Bool} {own own':List (Nat×Blk)} (hr:Iy (ih f [.fv x,.fv y,.fv (.func fn [] [.fp c1 0])] ⟨[],[]⟩) w) (ha:Bg a=some x) (hb:Bg b=some y)
  (h1:Aq s1 own=some (.row (c1.map .fv) r1)) (n1:c1.length<=300) (ho:AQ s1 (.row (c1.map .fv) true) own=own') (k:KT (IV×Hp)) :
  A5 [] false false ih f [a,b,.func fn [] [.ptr (.own s1) 0]] ⟨own,[]⟩ k=k (.fv w) ⟨own',[]⟩ [.own s1] [.own s1]:=by
 subst ho;refine SJ (vs:=[x,y,.func fn [] [.fp c1 0]]) (u:=[(.own s1,.row (c1.map .fv) true)]) (lg:=[.own s1]) ?_ hr ?_ k
 ·intro e k;rw [rX,G6 _ _ e _ ha,rX,G6 _ _ e _ hb,rX,s9 h1 n1,rJ];rfl
 ·intro k
  show (EW own s1 fun _=>Bf own s1 (.row (c1.map .fv) true) fun own=>k ⟨own,_⟩)=_
  rw [BB,h1,Option.bind_some,BO]
mutual
def Tm.each (g:Tm->Int->Tm):Tm->Int->Tm
 | .mk op m ks,a=>if op=1 then g (.mk op m ks) a else .mk op m (Tm.eachL g op 0 ks a)
def Tm.eachL (g:Tm->Int->Tm):Int->Nat->List Tm->Int->List Tm
 | _,_,[],_=>[]
 | op,i,t::l,a=>t.each g (a+Al op i)::Tm.eachL g op (i+1) l a
end
abbrev Abx (op m:Int) (ks done:List Tm) (r:Nat):Hp :=⟨[(136314880,.row [iv op,iv m,.fv (.sl (ks.map Tm.enc))] false),(136314881,.row [iv 0,iv 0,.nils] false),(136317955,.row (BZ done r) false)],[]⟩
theorem Wf {F:FuncId} {caps:List FV} {g:Tm->Int->Tm} {c:Nat} (hd:∀(ih:Ai) (xs:List IV) (h0:Hp) (k:KT (IV×Hp)),CN EE ih (.fv (.func (.func F) [] caps)) xs h0 k=A5 [] false false ih F (xs++caps.map .fv) h0 k)
  (P:Tm->Int->Prop) (hP:∀op m ks a i t,P (.mk op m ks) a->ks[i]?=some t->op≠1->P t (a+Al op i))
  (hg:∀n,c<n->∀m ks a,P (.mk 1 m ks) a->BC (SS dt n F (.fv (Tm.mk 1 m ks).enc::iv a::caps.map .fv) ⟨[],[]⟩) (g (.mk 1 m ks) a).enc) :
  ∀(n:Nat) (t:Tm) (a:Int),t.wt+c+3<n->t.wk->0<=a->a+2 * t.wt<=1000000000->P t a->Iy (SS dt n 130 [.fv t.enc,iv a,.fv (.func (.func F) [] caps)] ⟨[],[]⟩) (t.each g a).enc:=by
 intro n
 induction n with
 | zero=>intro t a h;omega
 | succ n ih =>
  intro t a hn hk ha ha2 hPt;obtain ⟨op,m,ks⟩:=t;simp only [Tm.wt] at hn ha2;rw [Acf];have hlen:=Dq ks;rw [Tm.wk] at hk;by_cases h1:op=1
  ·subst h1;rw [Tm.each,if_pos rfl];have hc:=hg n (by omega) m ks a hPt;generalize g (.mk 1 m ks) a=u at hc;obtain ⟨o,p,l⟩:=u;rw [An] at hc ⊢;rw [An] at hc ⊢;have hi:∀(own:List (Nat×Blk)) (k:KT (IV×Hp)),A5 [] false false (SS dt n) F ([.fv (.agg [.int .i64 1,.int .i64 m,.sl (ks.map Tm.enc)]),iv a]++caps.map .fv) ⟨own,[]⟩ k=k (.fv (.agg [.int .i64 o,.int .i64 p,.sl (l.map Tm.enc)])) ⟨own,[]⟩ [] []:=by
    intro own k;refine K2 (vs:=.agg [.int .i64 1,.int .i64 m,.sl (ks.map Tm.enc)] :: .int .i64 a::caps) ?_ hc ⟨own,[]⟩ k;have hcaps:∀l:List FV,Bx (l.map .fv)=some l:=by
     intro l
     induction l with
     | nil=>rfl
     | cons x l ih=>simp [Bx,ih,Bg,FI]
    simp [Bx,hcaps,Bg,FI,iv]
   simp only [HD,Ys,↓XX,XY,↓reduceIte,seval,↓hd,↓hi];exact CE _ _
  ·rw [Tm.each,if_neg h1,An,An];simp only [HD,Ys,↓XX,XY,↓reduceIte,seval,h1,↓vE (show ks.length<=1000 by omega),↓AJ,XD,heldB,AS,XE,GG,E4]
   refine Be (Q:=fun r=>Iy r _) (fun k V H=>∃(pre rest done:List Tm),ks=pre++rest/\rest.length=k/\done.length=pre.length /\
     V=[iv a,.fv (.func (.func F) [] caps),.ptr (.own 136314880) 0,.ptr (.own 136314881) 0,.slc (.own 136317955) 3 ks.length,.fv (.sl (ks.map Tm.enc)),iv ks.length,iv pre.length] /\
     H=Abx op m ks done rest.length/\done++Tm.eachL g op pre.length rest a=Tm.eachL g op 0 ks a)
    ?_ n ks.length _ _ (by omega) ⟨[],ks,[],rfl,rfl,rfl,rfl,rfl,rfl⟩
   rintro k V H rec ⟨pre,rest,done,hks,hl,hdl,rfl,rfl,hts⟩ hrec;have hkl:ks.length=pre.length+rest.length:=by rw [hks];simp
   cases rest with
   | nil =>
    have hno:¬ ((pre.length:Int)<ks.length):=by rw [hkl];simp
    rw [Tm.eachL,List.append_nil] at hts;rw [<- hts];simp only [HD,LQ,Ys,↓XX,XY,↓reduceIte,seval,hno];rw [show ks.length=done.length by rw [hdl,hkl];simp]
    exact ⟨_,_,rfl,_,_,fun e0 K=>dV (by rfl) (by simp only [List.length_nil] at hkl;omega) [] e0 K⟩
   | cons x rest =>
    have hi:(pre.length:Int)<ks.length:=by rw [hkl];simp;omega
    have hg2:=B2 hks;have hxw:=Cb (t:=x) (l:=ks) (by rw [hks];simp);have hb:=I0 (n:=n) (by omega) op pre.length;have hble:=A0 op pre.length;have hs:=ih x (a+Al op pre.length) (by omega) (Kc hk.2 (by rw [hks];simp)) (by omega) (by omega) (hP _ _ _ _ _ _ hPt hg2 h1);have hwa:BF (a+Al op pre.length)=a+Al op pre.length:=by rw [Az]<;>omega
    have hwi:BF ((pre.length:Int)+1)=((pre++[x]).length:Int):=(Az (by omega) (by omega)).trans (by simp);have hin:pre.length<ks.length:=by omega
    rw [Tm.eachL] at hts;generalize x.each g (a+Al op pre.length)=y at hs hts;have hst:=fun {β:Type}=>Uw (β:=β) done rest.length y.op y.n y.kids;rw [hdl] at hst;obtain ⟨o,p,l⟩:=x;obtain ⟨o2,p2,l2⟩:=y;simp only [Tm.op,Tm.n,Tm.kids] at hst;rw [An,An] at hs;simp only [Ah3] at hl;simp only [HD,LQ,Ys,↓XX,XY,↓reduceIte,seval,hi,↓Br (AO hg2) (Bm _ _ _),↓Cd,↓Ag hb,hwa,hwi,↓Av (eH hs),↓M0 hin,↓hst,↓AJ,XD,heldB,AS,XE,GG,E4];exact hrec rest.length _ _ (by omega) ⟨pre++[.mk o p l],rest,done++[.mk o2 p2 l2],by rw [hks];simp,rfl,by simp [hdl],rfl,rfl,by rw [<- hts];simp⟩
def Gc (d c:Int):Tm->Int->Tm
 | .mk _ m _,a=>.mk 1 (if c<=m - a then m+d else m) []
def xM (K:Nat) (t:Tm) (a:Int):Prop:=0<=a/\∃k:Nat,t.sc k/\(k:Int)<=K+a
theorem PM {K:Nat} (op m:Int) (ks:List Tm) (a:Int) (i:Nat) (t:Tm) (h:xM K (.mk op m ks) a) (hg:ks[i]?=some t) (_:op≠1):xM K t (a+Al op i):=by
 obtain ⟨h0,k,hk,hl⟩:=h;rw [Tm.sc] at hk
 have:=Hu hk.2.2 hg
 rw [Nat.zero_add] at this;exact ⟨by omega,_,this,by omega⟩
theorem OI {K:Nat} {m a:Int} {ks:List Tm} (h:xM K (.mk 1 m ks) a):ks=[]/\0<=m/\m<K+a/\0<=a:=by
 obtain ⟨h0,k,hk,hl⟩:=h;rw [Tm.sc,if_pos rfl] at hk;have h1:ar 1=some 0:=by decide
 rw [h1] at hk;have h2:ks.length=0:=by have:=hk.1;simp only [AhZ] at this;omega
 exact ⟨List.length_eq_zero_iff.1 h2,hk.2.1.1,by omega,h0⟩
theorem fU (caps:List FV) (ih:Ai) (xs:List IV) (h0:Hp) (k:KT (IV×Hp)):CN EE ih (.fv (.func (.func 131) [] caps)) xs h0 k=A5 [] false false ih 131 (xs++caps.map .fv) h0 k :=b9 (by kernel_rfl) (by kernel_rfl) (by kernel_rfl) (by kernel_rfl) caps ..
theorem YJ {n:Nat} (hn:1<n) (d c m a:Int) (ks:List Tm) (hm1:0<=m) (hm2:m<=100000000000) (ha:0<=a) (ha2:a<=100000000000) (hd1:-100000000000<=d) (hd2:d<=100000000000) :
  BC (SS dt n 131 [.fv (Tm.mk 1 m ks).enc,iv a,.fv (.fp [.int .i64 c] 0),.fv (.fp [.int .i64 d] 0)] ⟨[],[]⟩) (Gc d c (.mk 1 m ks) a).enc:=by
 obtain ⟨n,rfl⟩:=psc n (by omega);rw [Acq];have hw:BF (m - a)=m - a:=by rw [Az]<;>omega
 have h1:=JW (n:=n) (by omega) 1 m ks d (by omega) (by omega);have h0:=JW (n:=n) (by omega) 1 m ks 0 (by omega) (by omega);rw [An] at h1 h0 ⊢;rw [Gc];by_cases h:c<=m - a
 ·rw [if_pos h];rw [An] at h1 ⊢;simp only [jS,↓XX,XY,↓reduceIte,seval,hw,h,↓Ag h1];exact Ay _ _
 ·rw [if_neg h];rw [Int.add_zero,An] at h0;rw [An];simp only [jS,↓XX,XY,↓reduceIte,seval,hw,h,↓Ag h0];exact Ay _ _
theorem RX {n:Nat} {t:Tm} {d c:Int} {K:Nat} (hn:t.wt+6<n) (hw:t.wk) (h2:2 * t.wt<=1000000000) (hs:t.sc K) (hK:K<=1000000000) (hd1:-1000000000<=d) (hd2:d<=1000000000) :
  BC (SS dt n 99 [.fv t.enc,iv d,iv c] ⟨[],[]⟩) (t.each (Gc d c) 0).enc:=by
 obtain ⟨n,rfl⟩:=psc n (by omega);rw [c99];have hc:=Wf (F:=131) (caps:=[.fp [.int .i64 c] 0,.fp [.int .i64 d] 0]) (g:=Gc d c) (c:=1) (fU _) (fun t a=>xM K t a/\a<=1000000000/\a+2 * t.wt<=1000000000)
  (fun op m ks a i t h hg ho=>⟨PM op m ks a i t h.1 hg ho,by
   have hb:=A0 op i;have hwm:=Cb (List.mem_of_getElem? hg)
   have:=h.2.2
   simp only [Tm.wt] at this;omega,by
   have hb:=A0 op i;have hwm:=Cb (List.mem_of_getElem? hg)
   have:=h.2.2
   simp only [Tm.wt] at this;omega⟩)
  (fun n hn m ks a h=>by
   obtain ⟨rfl,h1,h2,h3⟩:=OI h.1;exact YJ hn d c m a [] h1 (by omega) h3 (by omega) (by omega) (by omega))
  n t 0 (by omega) hw (by omega) (by omega) ⟨⟨by omega,K,hs,by omega⟩,by omega,by omega⟩
 generalize t.each (Gc d c) 0=y at hc;obtain ⟨o2,p2,l2⟩:=y;obtain ⟨o,p,l⟩:=t;rw [An,An] at hc;rw [An,An];simp only [S99,↓XX,XY,↓reduceIte,seval,↓gen_val',↓nW]
 (try unfold is0);rw [UL hc rfl rfl (by rfl) (by rfl) (by rfl) (by simp) (by simp) rfl]
 simp only [↓XX,XY,↓reduceIte,seval,↓Qv,↓Lx];exact Ay _ _
mutual
theorem IQ (d c:Int):∀(t:Tm) (k:Nat) (a:Int),t.sc k->k+2 * t.wt<=2000000000->-1000000000<=d->d<=1000000000->t.each (Gc d c) a=t.shift d (c+a)
 | .mk op m ks,k,a,h,hk,h1,h2=>by
  rw [Tm.sc] at h;rw [Tm.wt] at hk;by_cases ho:op=1
  ·subst ho;have h3:ar 1=some 0:=by decide
   rw [h3,if_pos rfl] at h;have h4:ks=[]:=List.length_eq_zero_iff.1 (by have:=h.1;simp only [AhZ] at this;omega);subst h4;rw [Tm.each,if_pos rfl,Gc,Tm.shift,Tm.shiftL];have hw:BF (m+d)=m+d:=by
    have:=h.2.1
    rw [Az]<;>omega
   rw [hw];by_cases hc:c<=m - a
   ·rw [if_pos hc,if_pos ⟨rfl,by omega⟩]
   ·rw [if_neg hc,if_neg (fun h=>hc (by omega))]
  ·rw [Tm.each,if_neg ho,Tm.shift,if_neg (fun h=>ho h.1)];congr 1
   have:=eachL_shift d c op 0 ks k a h.2.2 (by omega) h1 h2
   exact this
theorem eachL_shift (d c:Int):∀(op:Int) (i:Nat) (l:List Tm) (k:Nat) (a:Int),Tm.scL op i l k->k+2+2 * Tm.wtL l<=2000000000->-1000000000<=d->d<=1000000000->Tm.eachL (Gc d c) op i l a=Tm.shiftL op i l d (c+a)
 | _,_,[],_,_,_,_,_,_=>by rw [Tm.eachL,Tm.shiftL]
 | op,i,t::l,k,a,h,hk,h1,h2=>by
  rw [Tm.scL] at h;rw [Tm.eachL,Tm.shiftL];have hb:=A0 op i;rw [Tm.wtL] at hk;rw [IQ d c t (k+Al op i) (a+Al op i) h.1 (by omega) h1 h2,eachL_shift d c op (i+1) l k a h.2 (by omega) h1 h2,Int.add_assoc]
end
def Hh (n:Int) (u:Tm):Tm->Int->Tm
 | .mk _ m _,a=>if n<m - a then .mk 1 (m+-1) [] else if m - a=n then u.each (Gc a 0) 0 else .mk 1 (m+0) []
theorem wY (caps:List FV) (ih:Ai) (xs:List IV) (h0:Hp) (k:KT (IV×Hp)):CN EE ih (.fv (.func (.func 147) [] caps)) xs h0 k=A5 [] false false ih 147 (xs++caps.map .fv) h0 k :=b9 (by kernel_rfl) (by kernel_rfl) (by kernel_rfl) (by kernel_rfl) caps ..
theorem iV {n:Nat} {v:Int} {u:Tm} {K:Nat} (m a:Int) (ks:List Tm) (hn:u.wt+8<n) (hw:u.wk) (h2:2 * u.wt<=1000000000) (hs:u.sc K) (hK:K<=1000000000) (hm1:0<=m) (hm2:m<=100000000000) (ha:0<=a) (ha2:a<=1000000000) :
  BC (SS dt n 147 [.fv (Tm.mk 1 m ks).enc,iv a,.fv (.fp [.int .i64 v] 0),.fv (.fp [.int .i64 u.op,.int .i64 u.n,.sl (u.kids.map Tm.enc)] 0)] ⟨[],[]⟩) (Hh v u (.mk 1 m ks) a).enc:=by
 obtain ⟨n,rfl⟩:=psc n (by omega);rw [AcX];have hw1:BF (m - a)=m - a:=by rw [Az]<;>omega
 have h1:=JW (n:=n) (by omega) 1 m ks (-1) (by omega) (by omega);have h0:=JW (n:=n) (by omega) 1 m ks 0 (by omega) (by omega);have hsh:=RX (n:=n) (d:=a) (c:=0) (by omega) hw h2 hs hK (by omega) (by omega);rw [An] at h1 h0 ⊢;rw [Hh];by_cases h:v<m - a
 ·rw [if_pos h];rw [An] at h1 ⊢;simp only [aY,↓XX,XY,↓reduceIte,seval,hw1,h,↓Ag h1];exact Ay _ _
 ·rw [if_neg h];by_cases he:m - a=v
  ·have hwv:BF v=v:=by rw [<- he];exact hw1
   rw [if_pos he];generalize u.each (Gc a 0) 0=y at hsh;obtain ⟨o2,p2,l2⟩:=y;obtain ⟨o,p,l⟩:=u;rw [An,An] at hsh;rw [An];simp only [aY,↓XX,XY,↓reduceIte,seval,hw1,hwv,h,he,Tm.op,Tm.n,Tm.kids,↓Av hsh,Int.lt_irrefl];exact Ay _ _
  ·rw [if_neg he];rw [An] at h0 ⊢;simp only [aY,↓XX,XY,↓reduceIte,seval,hw1,h,he,↓Ag h0];exact Ay _ _
theorem dR {n:Nat} {t u:Tm} {v:Int} {K:Nat} (hn:t.wt+u.wt+14<n) (hw:t.wk) (h2:2 * t.wt<=1000000000) (hs:t.sc K) (hwu:u.wk) (hu2:2 * u.wt<=1000000000) (hsu:u.sc K) (hK:K<=1000000000) :
  BC (SS dt n 135 [.fv t.enc,iv v,.fv u.enc] ⟨[],[]⟩) (t.each (Hh v u) 0).enc:=by
 obtain ⟨n,rfl⟩:=psc n (by omega);rw [Ac0];have hc:=Wf (F:=147) (caps:=[.fp [.int .i64 v] 0,.fp [.int .i64 u.op,.int .i64 u.n,.sl (u.kids.map Tm.enc)] 0]) (g:=Hh v u) (c:=u.wt+8) (wY _) (fun t a=>xM K t a/\a<=1000000000/\a+2 * t.wt<=1000000000)
  (fun op m ks a i t h hg ho=>⟨PM op m ks a i t h.1 hg ho,by
   have hb:=A0 op i;have hwm:=Cb (List.mem_of_getElem? hg)
   have:=h.2.2
   simp only [Tm.wt] at this;omega,by
   have hb:=A0 op i;have hwm:=Cb (List.mem_of_getElem? hg)
   have:=h.2.2
   simp only [Tm.wt] at this;omega⟩)
  (fun n hn m ks a h=>by
   obtain ⟨rfl,h1,h2,h3⟩:=OI h.1;exact iV m a [] hn hwu hu2 hsu hK h1 (by omega) h3 (by omega))
  n t 0 (by omega) hw (by omega) (by omega) ⟨⟨by omega,K,hs,by omega⟩,by omega,by omega⟩
 generalize t.each (Hh v u) 0=y at hc;obtain ⟨o2,p2,l2⟩:=y;obtain ⟨o,p,l⟩:=t;obtain ⟨o3,p3,l3⟩:=u;rw [An,An] at hc;rw [An,An,An];simp only [Tm.op,Tm.n,Tm.kids] at hc;simp only [qW,↓XX,XY,↓reduceIte,seval,↓gen_val',↓nW]
 (try unfold is0);rw [UL hc rfl rfl (by rfl) (by rfl) (by rfl) (by simp) (by simp) rfl]
 simp only [↓XX,XY,↓reduceIte,seval,↓Qv,↓Lx];exact Ay _ _
mutual
def Tm.some1 (g:Int->Int->Bool):Tm->Int->Bool
 | .mk op m ks,a=>if op=1 then g m a else Tm.someL g op 0 ks a
def Tm.someL (g:Int->Int->Bool):Int->Nat->List Tm->Int->Bool
 | _,_,[],_=>false
 | op,i,t::l,a=>t.some1 g (a+Al op i) || Tm.someL g op (i+1) l a
end
def M8 (v:Int) (m a:Int):Bool:=decide (m - a=v) && decide (a<=m)
theorem kW (caps:List FV) (ih:Ai) (xs:List IV) (h0:Hp) (k:KT (IV×Hp)):CN EE ih (.fv (.func (.func 146) [] caps)) xs h0 k=A5 [] false false ih 146 (xs++caps.map .fv) h0 k :=b9 (by kernel_rfl) (by kernel_rfl) (by kernel_rfl) (by kernel_rfl) caps ..
theorem Y1 {n:Nat} (hn:0<n) (v m a:Int) (hm1:0<=m) (hm2:m<=100000000000) (ha:0<=a) (ha2:a<=1000000000):BC (SS dt n 146 [iv m,iv a,.fv (.fp [.int .i64 v] 0)] ⟨[],[]⟩) (.bool (M8 v m a)):=by
 obtain ⟨n,rfl⟩:=psc n (by omega);rw [Afn];have hw1:BF (m - a)=m - a:=by rw [Az]<;>omega
 unfold M8;by_cases h:m - a=v
 ·have hwv:BF v=v:=by rw [<- h];exact hw1
  rw [decide_eq_true h];by_cases h':a<=m
  ·rw [decide_eq_true h'];simp only [Zd,↓XX,XY,↓reduceIte,seval,hw1,hwv,h,h'];exact Ay _ _
  ·rw [decide_eq_false h'];simp only [Zd,↓XX,XY,↓reduceIte,seval,hw1,hwv,h,h'];exact Ay _ _
 ·rw [decide_eq_false h];simp only [Zd,↓XX,XY,↓reduceIte,seval,hw1,h];exact Ay _ _
theorem nS {F:FuncId} {caps:List FV} {g:Int->Int->Bool} {c:Nat} (hd:∀(ih:Ai) (xs:List IV) (h0:Hp) (k:KT (IV×Hp)),CN EE ih (.fv (.func (.func F) [] caps)) xs h0 k=A5 [] false false ih F (xs++caps.map .fv) h0 k)
  (P:Tm->Int->Prop) (hP:∀op m ks a i t,P (.mk op m ks) a->ks[i]?=some t->op≠1->P t (a+Al op i))
  (hg:∀n,c<n->∀m ks a,P (.mk 1 m ks) a->BC (SS dt n F (iv m::iv a::caps.map .fv) ⟨[],[]⟩) (.bool (g m a))) :
  ∀(n:Nat) (t:Tm) (a:Int),t.wt+c+3<n->0<=a->a+2 * t.wt<=1000000000->P t a->Iy (SS dt n 145 [.fv t.enc,iv a,.fv (.func (.func F) [] caps)] ⟨[],[]⟩) (.bool (t.some1 g a)):=by
 intro n
 induction n with
 | zero=>intro t a h;omega
 | succ n ih =>
  intro t a hn ha ha2 hPt;obtain ⟨op,m,ks⟩:=t;simp only [Tm.wt] at hn ha2;rw [Adz,An];have hlen:=Dq ks;by_cases h1:op=1
  ·subst h1;rw [Tm.some1,if_pos rfl];have hc:=hg n (by omega) m ks a hPt;have hi:∀(own:List (Nat×Blk)) (k:KT (IV×Hp)),A5 [] false false (SS dt n) F ([iv m,iv a]++caps.map .fv) ⟨own,[]⟩ k=k (.fv (.bool (g m a))) ⟨own,[]⟩ [] []:=by
    intro own k;refine K2 (vs:=.int .i64 m :: .int .i64 a::caps) ?_ hc ⟨own,[]⟩ k;have hcaps:∀l:List FV,Bx (l.map .fv)=some l:=by
     intro l
     induction l with
     | nil=>rfl
     | cons x l ih=>simp [Bx,ih,Bg,FI]
    simp [Bx,hcaps,Bg,FI,iv]
   simp only [H4,T5,↓XX,XY,↓reduceIte,seval,↓hd,↓hi];exact CE _ _
  ·rw [Tm.some1,if_neg h1];simp only [H4,T5,↓XX,XY,↓reduceIte,seval,h1,↓AJ,XD,heldB,AS,XE];refine Be (Q:=fun r=>Iy r _) (fun k V H=>∃(pre rest:List Tm),ks=pre++rest/\rest.length=k /\
     V=[iv a,.fv (.func (.func F) [] caps),.ptr (.own 152043520) 0,.fv (.sl (ks.map Tm.enc)),iv ks.length,iv pre.length] /\
     H=⟨[(152043520,.row [iv op,iv m,.fv (.sl (ks.map Tm.enc))] false)],[]⟩/\Tm.someL g op pre.length rest a=Tm.someL g op 0 ks a)
    ?_ n ks.length _ _ (by omega) ⟨[],ks,rfl,rfl,rfl,rfl,rfl⟩
   rintro k V H rec ⟨pre,rest,hks,hl,rfl,rfl,hts⟩ hrec;have hkl:ks.length=pre.length+rest.length:=by rw [hks];simp
   cases rest with
   | nil =>
    have hno:¬ ((pre.length:Int)<ks.length):=by rw [hkl];simp
    rw [Tm.someL] at hts;rw [<- hts];simp only [H4,Lh,T5,↓XX,XY,↓reduceIte,seval,hno];exact CE _ _
   | cons x rest =>
    have hi:(pre.length:Int)<ks.length:=by rw [hkl];simp;omega
    have hg2:=B2 hks;have hxw:=Cb (t:=x) (l:=ks) (by rw [hks];simp);have hb:=I0 (n:=n) (by omega) op pre.length;have hble:=A0 op pre.length;have hs:=ih x (a+Al op pre.length) (by omega) (by omega) (by omega) (hP _ _ _ _ _ _ hPt hg2 h1);have hwa:BF (a+Al op pre.length)=a+Al op pre.length:=by rw [Az]<;>omega
    have hwi:BF ((pre.length:Int)+1)=((pre++[x]).length:Int):=(Az (by omega) (by omega)).trans (by simp);rw [Tm.someL] at hts;generalize x.some1 g (a+Al op pre.length)=y at hs hts;obtain ⟨o,p,l⟩:=x;rw [An] at hs;simp only [Ah3] at hl;cases y
    ·simp only [H4,Lh,T5,↓XX,XY,↓reduceIte,seval,hi,↓Br (AO hg2) (Bm _ _ _),↓Cd,↓Ag hb,hwa,hwi,↓Av (eH hs),↓AJ,XD,heldB,AS,XE];exact hrec rest.length _ _ (by omega) ⟨pre++[.mk o p l],rest,by rw [hks];simp,rfl,rfl,rfl,by simpa using hts⟩
    ·rw [<- hts];simp only [H4,Lh,T5,↓XX,XY,↓reduceIte,seval,hi,↓Br (AO hg2) (Bm _ _ _),↓Cd,↓Ag hb,hwa,hwi,↓Av (eH hs),Bool.true_or];exact CE _ _
theorem WI {n:Nat} {t:Tm} {v:Int} {K:Nat} (hn:t.wt+6<n) (h2:2 * t.wt<=1000000000) (hs:t.sc K) (hK:K<=1000000000):BC (SS dt n 134 [.fv t.enc,iv v] ⟨[],[]⟩) (.bool (t.some1 (M8 v) 0)):=by
 obtain ⟨n,rfl⟩:=psc n (by omega);rw [Ac5];have hc:=nS (F:=146) (caps:=[.fp [.int .i64 v] 0]) (g:=M8 v) (c:=0) (kW _) (fun t a=>xM K t a/\a<=1000000000/\a+2 * t.wt<=1000000000)
  (fun op m ks a i t h hg ho=>⟨PM op m ks a i t h.1 hg ho,by
   have hb:=A0 op i;have hwm:=Cb (List.mem_of_getElem? hg)
   have:=h.2.2
   simp only [Tm.wt] at this;omega,by
   have hb:=A0 op i;have hwm:=Cb (List.mem_of_getElem? hg)
   have:=h.2.2
   simp only [Tm.wt] at this;omega⟩)
  (fun n hn m ks a h=>by
   obtain ⟨rfl,h1,h2,h3⟩:=OI h.1;exact Y1 hn v m a h1 (by omega) h3 (by omega))
  n t 0 (by omega) (by omega) (by omega) ⟨⟨by omega,K,hs,by omega⟩,by omega,by omega⟩
 obtain ⟨o,p,l⟩:=t;rw [An] at hc ⊢;simp only [uC,↓XX,XY,↓reduceIte,seval,↓gen_val',↓wV]
 (try unfold is0);rw [nM hc rfl rfl (by rfl) (by simp) rfl]
 exact Ay _ _
mutual
theorem IT (v:Int) (u:Tm) {K:Nat} (hu:u.sc K) (huw:K+2 * u.wt<=1000000000):∀(t:Tm) (k:Nat) (a:Int),t.sc k->k+2 * t.wt<=1000000000->0<=a->a+2 * t.wt<=1000000000->t.each (Hh v u) a=t.subst (v+a) a u
 | .mk op m ks,k,a,h,hk,h1,h2=>by
  rw [Tm.sc] at h;rw [Tm.wt] at hk h2;by_cases ho:op=1
  ·subst ho;have h3:ar 1=some 0:=by decide
   rw [h3,if_pos rfl] at h;have h4:ks=[]:=List.length_eq_zero_iff.1 (by have:=h.1;simp only [AhZ] at this;omega);subst h4;rw [Tm.each,if_pos rfl,Hh,Tm.subst,if_pos rfl];have hm:=h.2.1;by_cases hc:v<m - a
   ·rw [if_pos hc,if_neg (by omega),if_pos (by omega),Az (by omega) (by omega)];rfl
   ·rw [if_neg hc];by_cases he:m - a=v
    ·rw [if_pos he,if_pos (by omega),IQ a 0 u K 0 hu (by omega) (by omega) (by omega)];rfl
    ·rw [if_neg he,if_neg (by omega),if_neg (by omega),Int.add_zero]
  ·rw [Tm.each,if_neg ho,Tm.subst,if_neg ho];rw [eachL_subst v u hu huw op 0 ks k a h.2.2 (by omega) h1 (by omega)]
theorem eachL_subst (v:Int) (u:Tm) {K:Nat} (hu:u.sc K) (huw:K+2 * u.wt<=1000000000):∀(op:Int) (i:Nat) (l:List Tm) (k:Nat) (a:Int),Tm.scL op i l k->k+2+2 * Tm.wtL l<=1000000000->0<=a->a+2+2 * Tm.wtL l<=1000000000->Tm.eachL (Hh v u) op i l a=Tm.substL op i l (v+a) a u
 | _,_,[],_,_,_,_,_,_=>by rw [Tm.eachL,Tm.substL]
 | op,i,t::l,k,a,h,hk,h1,h2=>by
  rw [Tm.scL] at h;rw [Tm.eachL,Tm.substL];have hb:=A0 op i;rw [Tm.wtL] at hk h2;rw [IT v u hu huw t (k+Al op i) (a+Al op i) h.1 (by omega) (by omega) (by omega),eachL_subst v u hu huw op (i+1) l k a h.2 (by omega) h1 (by omega),Int.add_assoc]
end
mutual
theorem Ke (v:Int) (hv:0<=v):∀(t:Tm) (a:Int),0<=a->t.some1 (M8 v) a=t.free (v+a)
 | .mk op m ks,a,h1=>by
  by_cases ho:op=1
  ·subst ho;rw [Tm.some1,if_pos rfl,Tm.free,if_pos rfl,M8];by_cases h:m=v+a
   ·rw [decide_eq_true h,decide_eq_true (by omega:m - a=v),decide_eq_true (by omega:a<=m)];rfl
   ·rw [decide_eq_false h,decide_eq_false (by omega:¬ m - a=v)];rfl
  ·rw [Tm.some1,if_neg ho,Tm.free,if_neg ho,someL_free v hv op 0 ks a h1]
theorem someL_free (v:Int) (hv:0<=v):∀(op:Int) (i:Nat) (l:List Tm) (a:Int),0<=a->Tm.someL (M8 v) op i l a=Tm.freeL op i l (v+a)
 | _,_,[],_,_=>by rw [Tm.someL,Tm.freeL]
 | op,i,t::l,a,h1=>by
  rw [Tm.someL,Tm.freeL,Ke v hv t (a+Al op i) (by omega),someL_free v hv op (i+1) l a h1,Int.add_assoc]
end
def Se {n:Nat} {K:Nat} {op m:Int} {z b:Tm} (hn:b.wt+20<n) (hk:b.op=5->∃f x,b.kids=[f,x]) (hw:b.wk) (h2:2 * b.wt<=100000000) (hs:b.sc K) (hK:K<=100000000) :
  Iy (SS dt n 151 [.fv (Tm.mk op m [z,b]).enc] ⟨[],[]⟩) (YU (.mk op m [z,b])).enc:=by
 obtain ⟨n,rfl⟩:=psc n (by omega);rw [Afw];obtain ⟨o1,n1,k1⟩:=b;by_cases h5:o1=5
 ·subst h5;obtain ⟨f,x,hkk⟩:=hk rfl;simp only [Tm.kids] at hkk;subst hkk;obtain ⟨o2,n2,k2⟩:=x;rw [Tm.sc] at hs;have hf:f.sc K:=by
   have:=hs.2.2
   rw [Tm.scL] at this;exact this.1
  have hwf:f.wk:=by rw [Tm.wk] at hw;exact Kc hw.2 (by simp)
  simp only [Tm.wt,Tm.wtL] at hn h2;have hfree:=WI (n:=n) (t:=f) (v:=0) (K:=K) (by omega) (by omega) hf (by omega);rw [Ke 0 (by omega) f 0 (by omega)] at hfree;have hsub:=dR (n:=n) (t:=f) (u:=AX) (v:=0) (K:=K) (by simp only [AX,Tm.wt,Tm.wtL];omega) hwf (by omega) hf (by simp [AX,Tm.wk,Tm.wkL]) (by simp [AX,Tm.wt,Tm.wtL]) (GF K) (by omega);rw [IT 0 AX (K:=K) (GF K) (by simp only [AX,Tm.wt,Tm.wtL];omega) f K 0 hf (by omega) (by omega) (by omega)] at hsub;simp only [Int.add_zero] at hfree hsub;rw [YU];generalize hr:f.subst 0 0 AX=u at hsub;generalize f.free 0=fr at hfree;obtain ⟨o4,n4,k4⟩:=u;obtain ⟨o3,n3,k3⟩:=f;obtain ⟨oz,nz,kz⟩:=z;rw [AX] at hsub;simp only [An,Ah4] at hfree hsub;by_cases h1:o2=1
  ·by_cases h0:n2=0
   ·cases fr
    ·rw [if_pos ⟨rfl,h1,h0,rfl⟩];have hs3:=fun (own:List (Nat×Blk)) (k:KT (IV×Hp))=>Av (a:=.fv (.agg [.int .i64 o3,.int .i64 n3,.sl (k3.map Tm.enc)])) (b:=iv 0) (c:=.agg [iv 11,iv 0,.nils]) hsub rfl rfl rfl ⟨own,[]⟩ k;simp only [An,Ah5,Ah4];simp only [↓YZ,↓XX,XY,↓reduceIte,seval,↓El,↓EH,↓Gd,h1,h0,↓Ag hfree,↓hs3];exact CE _ _
    ·rw [if_neg (by simp)];simp only [An,Ah5,Ah4];simp only [↓YZ,↓XX,XY,↓reduceIte,seval,↓El,↓EH,↓Gd,h1,h0,↓Ag hfree];exact CE _ _
   ·rw [if_neg (by simp [h0])];simp only [An,Ah5,Ah4];simp only [↓YZ,↓XX,XY,↓reduceIte,seval,↓El,↓EH,↓Gd,h1,h0];exact CE _ _
  ·rw [if_neg (by simp [h1])];simp only [An,Ah5,Ah4];simp only [↓YZ,↓XX,XY,↓reduceIte,seval,↓El,↓EH,↓Gd,h1];exact CE _ _
 ·rw [ZA (by simpa [Tm.op] using h5)];obtain ⟨oz,nz,kz⟩:=z;simp only [An,Ah5,Ah4];simp only [↓YZ,↓XX,XY,↓reduceIte,seval,↓El,↓EH,↓Gd,h5];exact CE _ _
def g9 {n:Nat} {op m:Int} {z a b:Tm} (hn:2 * a.wt+10<n) (hka:a.op=8->∃x,a.kids=[x]) (hkb:b.op=9->∃y,b.kids=[y]) (h2:a.wt<=100000000) :
  Iy (SS dt n 152 [.fv (Tm.mk op m [z,a,b]).enc] ⟨[],[]⟩) (YR (.mk op m [z,a,b])).enc:=by
 obtain ⟨n,rfl⟩:=psc n (by omega);rw [AeU];obtain ⟨o1,n1,k1⟩:=a;obtain ⟨o2,n2,k2⟩:=b;obtain ⟨oz,nz,kz⟩:=z;by_cases h8:o1=8
 ·by_cases h9:o2=9
  ·subst h8 h9;obtain ⟨x,hx⟩:=hka rfl;obtain ⟨y,hy⟩:=hkb rfl;simp only [Tm.kids] at hx hy;subst hx hy;simp only [Tm.wt,Tm.wtL] at hn h2;have hs:=QY n x y (by omega) (by omega);rw [YR];generalize x.same y=v at hs;obtain ⟨o3,n3,k3⟩:=x;obtain ⟨o4,n4,k4⟩:=y;simp only [An] at hs;cases v
   ·rw [if_neg (by simp)];simp only [An,Ah5,Ah4];simp only [HE,HF,Yq,↓XX,XY,↓reduceIte,seval,↓El,↓EH,↓Gd,↓Ag hs];exact CE _ _
   ·rw [if_pos ⟨rfl,rfl,rfl⟩];simp only [An,Ah5,Ah4];simp only [HE,HF,Yq,↓XX,XY,↓reduceIte,seval,↓El,↓EH,↓Gd,↓Ag hs];exact CE _ _
  ·rw [PZ (by simp [Tm.op,h9])];simp only [An,Ah5,Ah4];simp only [HE,HF,Yq,↓XX,XY,↓reduceIte,seval,↓El,↓EH,↓Gd,h8,h9];exact CE _ _
 ·rw [PZ (by simp [Tm.op,h8])];simp only [An,Ah5,Ah4];simp only [HE,HF,Yq,↓XX,XY,↓reduceIte,seval,↓El,↓EH,↓Gd,h8];exact CE _ _
def AaA {d:Nat} {l:List FV} (h:Hp) (lg:List Ref) (e:Option (IV×Hp)) (k:List FV->List (Ref×Blk)->List Ref->Option (IV×Hp)) :
  CP (DB (d+1)) (iv 11::iv 0 :: .nils::l.map .fv) h lg e k=k (.int .i64 11 :: .int .i64 0 :: .sl []::l) [] lg:=by
 show (CP (DB (d+1)) (l.map .fv) h lg e fun ys us lg=>K8 [] us fun w=>K8 [] w fun w=>K8 [] w fun w=>k (.int .i64 11 :: .int .i64 0 :: .sl []::ys) w lg)=_
 rw [L2];rfl
def rF {s:Nat} {l:List Tm} {ro:Bool} {a b:FV} {own:List (Nat×Blk)} {ext:List Blk} (hl:Aq s own=some (.row (iv 11::iv 0 :: .nils::(BI l).map .fv) ro)) (hn:l.length<=90) (lg:List Ref) (e:Option (IV×Hp))
  (k:FV->List (Ref×Blk)->List Ref->Option (IV×Hp)):DB 12 (.agg [.fv a,.fv b,.slc (.own s) 3 (l.length+1)]) ⟨own,ext⟩ lg e k =
   k (.agg [a,b,.sl ((AX::l).map Tm.enc)]) [(.own s,.row (iv 11::iv 0 :: .nils::(BI l).map .fv) true)] (.own s::lg):=by
 have hz:∀(lg:List Ref) (k:FV->List (Ref×Blk)->List Ref->Option (IV×Hp)),DB 11 (.slc (.own s) 3 (l.length+1)) ⟨own,ext⟩ lg e k=k (.sl ((AX::l).map Tm.enc)) [(.own s,.row (iv 11::iv 0 :: .nils::(BI l).map .fv) true)] (.own s::lg):=by
  intro lg k;have hlen:(iv 11::iv 0 :: .nils::(BI l).map IV.fv).length=3 * l.length+3:=by simp [GL]
  show (Dr (.own s) ⟨own,ext⟩ fun b=>D4 b fun cells=>cond (Nat.ble cells.length 300) (cond (or (Nat.beq 3 0) (not (Nat.ble ((l.length+1) * 3) cells.length))) none
   (CP (DB 10) cells ⟨own,ext⟩ (.own s::lg) e fun cs u lg=>SN 3 (l.length+1) cs fun els=>k (.sl els) ((.own s,.row cells true)::u) lg)) e)=_
  rw [J7,BB,hl];simp only [Option.bind_some,Hn];rw [hlen,Bq,decide_eq_true (by omega),fX,Bq,decide_eq_true (by omega)];simp only [Bool.not_true]
  show (CP (DB (9+1)) (iv 11::iv 0 :: .nils::(BI l).map IV.fv) ⟨own,ext⟩ (.own s::lg) e fun cs u lg=>SN 3 (l.length+1) cs fun els=>k (.sl els) ((.own s,.row (iv 11::iv 0 :: .nils::(BI l).map IV.fv) true)::u) lg)=_
  rw [AaA];exact uG (AX::l) _
 rw [ZT,show Nat.ble [IV.fv a,.fv b,.slc (.own s) 3 (l.length+1)].length 300=true from rfl,fX,Su,Ir,Su,Ir,Su,hz,v8]
 rfl
def bA {ih:Ai} {f:FuncId} {w a b:FV} {s:Nat} {l:List Tm} {ro:Bool} {own own':List (Nat×Blk)} (hr:Iy (ih f [.fv (.agg [a,b,.sl ((AX::l).map Tm.enc)])] ⟨[],[]⟩) w) (hl:Aq s own=some (.row (iv 11::iv 0 :: .nils::(BI l).map .fv) ro)) (hn:l.length<=90)
  (ho:AQ s (.row (iv 11::iv 0 :: .nils::(BI l).map .fv) true) own=own') (k:KT (IV×Hp)) :
  A5 [] false false ih f [.agg [.fv a,.fv b,.slc (.own s) 3 (l.length+1)]] ⟨own,[]⟩ k=k (.fv w) ⟨own',[]⟩ [.own s] [.own s]:=by
 subst ho;refine SJ (vs:=[.agg [a,b,.sl ((AX::l).map Tm.enc)]]) (u:=[(.own s,.row (iv 11::iv 0 :: .nils::(BI l).map .fv) true)]) (lg:=[.own s]) ?_ hr ?_ k
 ·intro e k;rw [rX,rF hl hn,rJ];rfl
 ·intro k
  show (EW own s fun _=>Bf own s (.row (iv 11::iv 0 :: .nils::(BI l).map .fv) true) fun own=>k ⟨own,_⟩)=_
  rw [BB,hl,Option.bind_some,BO]
def WR {β:Type} {n:Nat} (h:0<n) (r:Ref) (k:IV->Option β):AR 3 (.slc r 3 n) (iv 0) k=k (.ptr r 0):=M0 (i:=0) h r k
def scz (x:Tm) (l:List Tm):Bk (BZ (x::l) 0) 0 [iv 11,iv 0,.nils]=iv 11::iv 0 :: .nils::(BI l).map .fv:=by obtain ⟨o,p,k⟩:=x;simp [BZ,BI,Jl,Bk]
def blz (x:Tm) (l:List Tm):Nat.ble 3 (BZ (x::l) 0).length=true:=by rw [Bq];apply decide_eq_true;simp [BZ,Jl,GL];omega
abbrev Ac8 (op m:Int) (ks done:List Tm) (r:Nat):Hp :=⟨[(156237824,.row [iv op,iv m,.fv (.sl (ks.map Tm.enc))] false),(156237825,.row [iv 0,iv 0,.nils] false),(156238855,.row (BZ done r) false),(156238857,.row [iv op,iv m,.slc (.own 156238855) 3 ks.length] false)],[]⟩
theorem uO:∀(n:Nat) (t:Tm) (k:Nat),t.sc k->2 * t.wt+25<n->k+2 * t.wt<=90000000->Iy (SS dt n 149 [.fv t.enc] ⟨[],[]⟩) t.eta.enc:=by
 intro n
 induction n with
 | zero=>intro t k _ h;omega
 | succ n ih =>
  intro t k hs hn hw;have hes:=LO t k hs (by omega);have hwk:=C5 t k hs;obtain ⟨op,m,ks⟩:=t;rw [Tm.sc] at hs;rw [Tm.wk] at hwk;simp only [Tm.wt] at hn hw;rw [AeT,An];have hlen:=Dq ks;have hkd:=etaL_sc op 0 ks k hs.2.2 (by omega);simp only [Gt,Gs,SX,↓XX,XY,↓reduceIte,seval,↓vE (show ks.length<=1000 by omega),↓AJ,XD,heldB,AS,XE,GG,E4]
  have hR:(Tm.mk op m ks).eta=if op=4 then YU (.mk 4 m (NA (Tm.etaL ks))) else if op=7 then YR (.mk 7 m (NA (Tm.etaL ks))) else .mk op m (Tm.etaL ks):=by rw [Tm.eta]
  rw [hR];refine Be (Q:=fun r=>Iy r _) (fun j V H=>∃(pre rest done:List Tm),ks=pre++rest/\rest.length=j/\done.length=pre.length /\
    V=[.ptr (.own 156237824) 0,.ptr (.own 156237825) 0,.ptr (.own 156238857) 0,.fv (.sl (ks.map Tm.enc)),iv ks.length,iv pre.length] /\
    H=Ac8 op m ks done rest.length/\done++Tm.etaL rest=Tm.etaL ks)
   ?_ n ks.length _ _ (by omega) ⟨[],ks,[],rfl,rfl,rfl,rfl,rfl,rfl⟩
  rintro j V H rec ⟨pre,rest,done,hks,hl,hdl,rfl,rfl,hts⟩ hrec;have hkl:ks.length=pre.length+rest.length:=by rw [hks];simp
  cases rest with
  | nil =>
   have hno:¬ ((pre.length:Int)<ks.length):=by rw [hkl];simp
   rw [Tm.etaL,List.append_nil] at hts;have hdk:ks.length=done.length:=by rw [hdl,hkl];simp
   rw [<- hts] at hkd ⊢;rw [List.length_nil];by_cases h4:op=4
   ·subst h4;rw [if_pos rfl];have h2:ks.length=2:=by have:=hs.1;rw [show ar 4=some 2 by decide] at this;simp only [AhZ] at this;omega
    have hd2:done.length=2:=by omega
    match done,hd2,hdk,hkd with
    | [a,b],_,hdk,hkd =>
     simp only [Tm.scL,Tm.wtL] at hkd;have hb1:Al 4 1=1:=by decide
     have hbs:=hkd.1.2.1;rw [hb1] at hbs;have hfn:=Se (n:=n) (K:=k+1) (op:=4) (m:=m) (z:=AX) (b:=b) (by omega) (fun h5=>by
      have:=FY hbs h5 (show ar 5=some 2 by decide)
      match hbk:b.kids,this with
      | [f,x],_=>exact ⟨f,x,rfl⟩) (C5 b _ hbs) (by omega) hbs (by omega)
     rw [NA];rw [An] at hfn;generalize YU (.mk 4 m [AX,b])=y at hfn;obtain ⟨o5,p5,k5⟩:=y;rw [An] at hfn;rw [An];have h02:0<ks.length:=by omega
     have hi:=fun (own own':List (Nat×Blk)) (hlk:Aq 156238855 own=some (.row (iv 11::iv 0 :: .nils::(BI [b]).map .fv) false)) (ho:AQ 156238855 (.row (iv 11::iv 0 :: .nils::(BI [b]).map .fv) true) own=own')=>bA hfn hlk (by simp) ho;simp only [Gt,Gs,Hr,SX,↓XX,XY,↓reduceIte,seval,hno,↓WR h02,↓blz,↓scz];rw [show ks.length=[b].length+1 by rw [h2];rfl]
     (try unfold is0);rw [hi _ _ (by rfl) (by rfl)]
     simp only [↓XX,XY,↓reduceIte,seval,↓Qv,↓Lx];exact CE _ _
   ·rw [if_neg h4];by_cases h7:op=7
    ·subst h7;rw [if_pos rfl];have h2:ks.length=3:=by have:=hs.1;rw [show ar 7=some 3 by decide] at this;simp only [AhZ] at this;omega
     have hd2:done.length=3:=by omega
     match done,hd2,hdk,hkd with
     | [a,b,c],_,hdk,hkd =>
      simp only [Tm.scL,Tm.wtL] at hkd;have hb1:Al 7 1=0:=by decide
      have hb2:Al 7 2=0:=by decide
      have hbs:=hkd.1.2.1;have hcs:=hkd.1.2.2.1;rw [hb1] at hbs;rw [hb2] at hcs;have hfn:=g9 (n:=n) (op:=7) (m:=m) (z:=AX) (a:=b) (b:=c) (by omega) (fun h5=>by
       have:=FY hbs h5 (show ar 8=some 1 by decide)
       match hbk:b.kids,this with
       | [f],_=>exact ⟨f,rfl⟩) (fun h5=>by
       have:=FY hcs h5 (show ar 9=some 1 by decide)
       match hbk:c.kids,this with
       | [f],_=>exact ⟨f,rfl⟩) (by omega)
      rw [NA];rw [An] at hfn;generalize YR (.mk 7 m [AX,b,c])=y at hfn;obtain ⟨o5,p5,k5⟩:=y;rw [An] at hfn;rw [An];have h02:0<ks.length:=by omega
      have hi:=fun (own own':List (Nat×Blk)) (hlk:Aq 156238855 own=some (.row (iv 11::iv 0 :: .nils::(BI [b,c]).map .fv) false)) (ho:AQ 156238855 (.row (iv 11::iv 0 :: .nils::(BI [b,c]).map .fv) true) own=own')=>bA hfn hlk (by simp) ho;simp only [Gt,Gs,Hr,SX,↓XX,XY,↓reduceIte,seval,hno,↓WR h02,↓blz,↓scz];rw [show ks.length=[b,c].length+1 by rw [h2];rfl]
      (try unfold is0);rw [hi _ _ (by rfl) (by rfl)]
      simp only [↓XX,XY,↓reduceIte,seval,↓Qv,↓Lx];exact CE _ _
    ·rw [if_neg h7,An];simp only [Gt,Gs,Hr,SX,↓XX,XY,↓reduceIte,seval,hno,h4,h7];rw [hdk];exact ⟨_,_,rfl,_,_,fun e0 K=>dV (by rfl) (by omega) [] e0 K⟩
  | cons x rest =>
   have hi:(pre.length:Int)<ks.length:=by rw [hkl];simp;omega
   have hg2:=B2 hks;have hxw:=Cb (t:=x) (l:=ks) (by rw [hks];simp);have hxs:=Hu hs.2.2 hg2;rw [Nat.zero_add] at hxs;have hble:=A0 op pre.length;have hs5:=ih x _ hxs (by omega) (by omega);have hwi:BF ((pre.length:Int)+1)=((pre++[x]).length:Int):=(Az (by omega) (by omega)).trans (by simp);have hin:pre.length<ks.length:=by omega
   rw [Tm.etaL] at hts;generalize x.eta=y at hs5 hts;have hst:=fun {β:Type}=>Uw (β:=β) done rest.length y.op y.n y.kids;rw [hdl] at hst;obtain ⟨o,p,l⟩:=x;obtain ⟨o2,p2,l2⟩:=y;simp only [Tm.op,Tm.n,Tm.kids] at hst;rw [An,An] at hs5;simp only [Ah3] at hl;simp only [Gt,Gs,Hr,SX,↓XX,XY,↓reduceIte,seval,hi,↓Br (AO hg2) (Bm _ _ _),↓Cd,hwi,↓Ar (eH hs5),↓M0 hin,↓hst,↓AJ,XD,heldB,AS,XE,GG,E4];exact hrec rest.length _ _ (by omega) ⟨pre++[.mk o p l],rest,done++[.mk o2 p2 l2],by rw [hks];simp,rfl,by simp [hdl],rfl,rfl,by rw [<- hts];simp⟩
theorem iO {op:Int} {r:Nat} (h:ar op=some r):¬ (0<=GI op/\GI op≠(r:Int)):=by
 unfold GI;by_cases h1:op=8\/op=9\/op=12\/op=19\/op=30
 ·rw [if_pos h1];rcases h1 with rfl | rfl | rfl | rfl | rfl<;>(cases (show r=1 from by have:=h;revert this;simp [ar];omega);decide)
 ·rw [if_neg h1];by_cases h2:op=4\/op=5
  ·rw [if_pos h2];rcases h2 with rfl | rfl<;>(cases (show r=2 from by have:=h;revert this;simp [ar];omega);decide)
  ·rw [if_neg h2];by_cases h7:op=7
   ·subst h7;cases (show r=3 from by have:=h;revert this;simp [ar];omega);decide
   ·rw [if_neg h7];by_cases h13:op=13
    ·subst h13;cases (show r=4 from by have:=h;revert this;simp [ar];omega);decide
    ·rw [if_neg h13];omega
mutual
theorem Ks:∀(t:Tm) (k:Nat),t.sc k->t.shaped=true
 | .mk op n ks,k,h=>by
  rw [Tm.sc] at h;rw [Tm.shaped,scL_shaped op 0 ks k h.2.2];have h1:=iO h.1;have h2:¬ (op=1/\n<0):=by
   rintro ⟨rfl,h3⟩
   have:=h.2.1
   rw [if_pos rfl] at this;omega
  rw [decide_eq_false h1,decide_eq_false h2];rfl
theorem scL_shaped:∀(op:Int) (i:Nat) (l:List Tm) (k:Nat),Tm.scL op i l k->Tm.shapedL l=true
 | _,_,[],_,_=>by rw [Tm.shapedL]
 | op,i,t::l,k,h=>by
  rw [Tm.scL] at h;rw [Tm.shapedL,Ks t _ h.1,scL_shaped op (i+1) l k h.2];rfl
end
def mZ {n:Nat} {t:Tm} {k:Nat} (hs:t.sc k) (hn:2 * t.wt+26<n) (hw:k+2 * t.wt<=90000000):BC (SS dt n 138 [.fv t.enc] ⟨[],[]⟩) t.eta.enc:=by obtain ⟨n,rfl⟩:=psc n (by omega);rw [Afk];have h1:=N9 n t (by omega) (by omega);rw [Ks t k hs] at h1;have h2:=eH (uO n t k hs (by omega) hw);generalize t.eta=y at h2;obtain ⟨o,p,l⟩:=t;obtain ⟨o2,p2,l2⟩:=y;rw [An] at h1;rw [An,An] at h2 ⊢;simp only [tQ,↓XX,XY,↓reduceIte,seval,↓Ar h1,↓Ar h2];exact Ay _ _
section
variable {β:Type} {E:Env}
theorem AaX {t:TypeId} {size:Nat} (T:SliceT E t size) {x:IV} {es es2:List FV} (hx:Plain2 x es2) (h1:BG size es2=true) (h2:BG size es=true) (hne:es2.isEmpty=false) (hb:es.length+es2.length<=1000000) (s:Nat) (own:List (Nat×Blk)) (ext:List Blk)
  (k:KT β):AA (AU E s false .append [t,t] [.clip es,x]) s ⟨own,ext⟩ k=CV own s (Bf own s (.tok (es.length+es2.length) size) fun own=>k (.app (.own s) (es++es2)) ⟨own,ext⟩ [] [.own s]):=by
 obtain ⟨a,b,e,z,ei,hT,he,rfl,h0,hby⟩:=T.h;have hlen:¬ (BG ei.size es=false\/(es.length+es2.length) * ei.bytes > 140737488355328\/es.length+es2.length > 1073741824):=by
  have:(es.length+es2.length) * ei.bytes<=1000000 * 100000:=Nat.mul_le_mul hb hby
  rw [h2];rintro (h | h | h)
  ·cases h
  ·omega
  ·omega
 have key:AU E s false .append [t,t] [.clip es,x]=.ret { eff:={ val:=.app (.own s) (es++es2),upd:=[] },new:=some (.tok (es++es2).length ei.size) }:=by
  show DE E s t (some t) false (.clip es) x=_
  simp only [DE,hT,Option.bind_some,he,O7 hx,Rd.bind,h0,h1,false_or,Bool.true_eq_false,if_false];simp only [Co,if_neg hlen,hne,Bool.false_eq_true,if_false]
 rw [key,List.length_append];unfold AA;simp only [Rd.runLog]
 show (Hy (some (.tok (es.length+es2.length) ei.size)) s ⟨own,ext⟩ fun h=>fV 3 (.app (.own s) (es++es2)) fun v=>k v h [] ([]++[.own s]))=_
 simp only [Hy,CB,Cm];rfl
theorem yR {t a b e:TypeId} {z:List IV} (hT:E.T t=some ⟨a,b,.slice e,z⟩) (x:FV) (l:List FV) (k:IV->Option β):AP E t (.fv (.sl (x::l))) .nils k=k (.fv (.bool false)):=by
 show CZ E t .eql _ _ k=_
 rw [CZ,CM]
 have:EQ E .eql t (.fv (.sl (x::l))) .nils=some (.fv (.bool false)):=by simp only [EQ,hT,SO,OB,Option.bind_some]
 rw [this];rfl
theorem mC {t:TypeId} {size:Nat} (T:SliceT E t size) {es:List FV} (h1:BG size es=true) (s:Nat) (h:Hp) (k:KT β) :
  AA (IA E t (.fv (.sl es)) none (some (iv es.length)) (some (iv es.length))) s h k=k (.clip es) h [] []:=by
 obtain ⟨a,b,e,z,ei,hT,he,rfl,h0,hby⟩:=T.h;have key:IA E t (.fv (.sl es)) none (some (iv es.length)) (some (iv es.length))=.ret { eff:={ val:=.clip es,upd:=[] } }:=by
  have hn:Ih (iv es.length) es.length=some es.length:=by simp [Ih,iv]
  simp only [IA,hT,he];rw [show Db 4096 (.fv (.sl es))=.ret (.sl es,[]) from rfl]
  simp [Rd.bind,h1,hn,FM]
 rw [key];exact FZ _ s h k
end
theorem rM {ih:Ai} {f:FuncId} {a:IV} {x w:FV} (hr:BC (Ep true ih f [.fv x] []) w) (ha:Bg a=some x) (h:Hp) (k:KT (IV×Hp)):A5 [] true false ih f [a] h k=k (.fv w) h [] []:=by
 obtain ⟨v,own,e,hv⟩:=hr;have hu:∃u,(Db 4096 v).run ⟨own,[]⟩=some (w,u):=by
  rcases hv with ⟨u',lg',hf⟩ | ⟨hf,hu⟩
  ·exact I9 ⟨u',lg',hf⟩
  ·exact hu
 obtain ⟨u,hu⟩:=hu
 show Ec [] true false ih f [a] h k=_
 unfold Ec;have hz:=Hm [a] (Tn ha);simp only [hz,Rd.runLog,B6,DJ,Ah4,Bi,CX (Cm 3),CX CB,Ah5,e,hu,Ah2,IV.ren,IV.ren.renL,Bool.false_eq_true,if_false,Option.bind_some]
 show (match laid h ([]++(Bz []).zip []) with | none=>none | some h'=>fH h' fun h'=>fV 3 (.fv w) fun res=>k res h' [] _)=_
 simp only [Bz,Ah4,List.zip_nil_left,List.append_nil,laid,Il,Cm]
theorem uE {ih:Ai} {f:FuncId} {a:IV} {x:FV} {es:List FV} {own:List (Nat×Blk)} (hr:ih f [.fv x] ⟨[],[]⟩=some (.clip es,⟨own,[]⟩)) (ha:Bg a=some x) (h:Hp) (k:KT (IV×Hp)):A5 [] false true ih f [a] h k=k (.clip es) h [] []:=by
 show Ec [] false true ih f [a] h k=_
 unfold Ec;have hz:=Hm [a] (Tn ha);simp only [hz,Rd.runLog,B6,DJ,Ah4,Bi,CX (Cm 3),CX CB,Ah5,Ep,hr,Ah2,IV.ren,IV.ren.renL,Bool.false_eq_true,if_false,if_true,Option.bind_some]
 show (match laid h ([]++(Bz []).zip []) with | none=>none | some h'=>fH h' fun h'=>fV 3 (.clip es) fun res=>k res h' [] _)=_
 simp only [Bz,Ah4,List.zip_nil_left,List.append_nil,laid,Il,Cm]
end Idl
end Go.Proofs.YtnenpcghegcnhaaGreat
set_option maxRecDepth 20000
set_option maxHeartbeats 16000000
namespace Go.Proofs.YtnenpcghegcnhaaGreat
namespace Idl
def PN (X Y:Tm):Prop:=Ev 82 [.fv X.enc] (.tuple [Y.enc,.int .i64 0])
def PE (A:Tm):Prop:=Ev 138 [.fv A.enc] A.enc
def gI (G:FV) (st:Int) (t A:Tm):Prop:=Ev 58 [.fv G,iv st,.fv t.enc] (.tuple [A.enc,.int .i64 0])
def gC (G:FV) (st:Int) (t a:Tm):Prop:=Ev 102 [.fv G,iv st,.fv t.enc,.fv a.enc] (.int .i64 0)
def gL (G:FV) (t:Tm) (m:Int):Prop:=Ev 136 [.fv G,.fv t.enc] (.tuple [.int .i64 m,.int .i64 0])
def gU (G:FV) (a b B:Tm):Prop:=Ev 107 [.fv G,.fv a.enc,.fv b.enc] (.tuple [B.enc,.int .i64 0])
def gS (G:FV) (st:Int) (t:Tm) (op:Int) (A:Tm):Prop:=Ev 101 [.fv G,iv st,.fv t.enc,iv op] (.tuple [A.enc,.int .i64 0])
def gM (G:FV) (t A:Tm):Prop:=Ev 85 [.fv G,.fv t.enc] (.tuple [A.enc,.int .i64 0])
def gP (G:FV) (t A:Tm):Prop:=Ev 115 [.fv G,.fv t.enc] (.tuple [A.enc,.int .i64 0])
def gO (G:FV) (t A:Tm):Prop:=Ev 84 [.fv G,.fv t.enc] (.tuple [A.enc,.int .i64 0])
def gW (G:FV) (st:Int) (a:Tm) (G1:FV):Prop:=Ev 133 [.fv G,iv st,.fv a.enc] G1
def gA (G:FV) (st:Int) (a:Tm) (ks:List Tm):Prop:=Ev 105 [.fv G,iv st,.fv a.enc,.fv (.sl (ks.map Tm.enc))] (.int .i64 0)
def gE (a b:Tm):Prop:=Ev 62 [.fv a.enc,.fv b.enc] (.int .i64 0)
def Ue (t u Y:Tm):Prop:=Ev 137 [.fv t.enc,.fv u.enc] (.tuple [Y.enc,.int .i64 0])
def pSu (t u r:Tm):Prop:=Ev 135 [.fv t.enc,iv 0,.fv u.enc] r.enc
def pSh (t:Tm) (d c:Int) (r:Tm):Prop:=Ev 99 [.fv t.enc,iv d,iv c] r.enc
def pF (t:Tm) (w:Bool):Prop:=Ev 134 [.fv t.enc,iv 0] (.bool w)
def KI (g:A8) (st:Int) (t A:Tm):Prop:=gI (AM g) st t A
def KC (g:A8) (st:Int) (t a:Tm):Prop:=gC (AM g) st t a
def KL (g:A8) (t:Tm) (m:Int):Prop:=gL (AM g) t m
def KU (g:A8) (a b B:Tm):Prop:=gU (AM g) a b B
def Fg {n:Nat} (hn:0<n) (op:Int) (ks:List Tm):BC (SS dt n 71 [iv op,.fv (.sl (ks.map Tm.enc))] ⟨[],[]⟩) (Tm.mk op 0 ks).enc:=by obtain ⟨n,rfl⟩:=psc n (by omega);rw [c71,An];simp only [S71,↓XX,XY,↓reduceIte,seval];exact A6 rfl
def yA {ih:Ai} {f:FuncId} {a b c d e:IV} {x y z u v w:FV} (hr:BC (ih f [.fv x,.fv y,.fv z,.fv u,.fv v] ⟨[],[]⟩) w) (ha:Bg a=some x) (hb:Bg b=some y) (hc:Bg c=some z) (hd:Bg d=some u) (he:Bg e=some v) (h:Hp)
  (k:KT (IV×Hp)):A5 [] false false ih f [a,b,c,d,e] h k=k (.fv w) h [] []:=K2 (by simp only [Bx,ha,hb,hc,hd,he];rfl) hr h k
def zC (o1 n1:Int) (s:Nat) (h:Hp) (k:KT (IV×Hp)):AA (Am EE 29 1 [(0,.agg [.fv (.int .i64 o1),.fv (.int .i64 n1),.nils])]) s h k=k (.clip [.agg [.int .i64 o1,.int .i64 n1,.sl []]]) h [] []:=by
 have:Am EE 29 1 [(0,.agg [.fv (.int .i64 o1),.fv (.int .i64 n1),.nils])]=.ret { eff:={ val:=.clip [.agg [.int .i64 o1,.int .i64 n1,.sl []]],upd:=[] } }:=by simp only [Am,Pl,gK];rw [if_neg (by decide)];rfl
 rw [this];exact FZ _ s h k
def lQ (ih:Ai) (xs:List IV) (h0:Hp) (k:KT (IV×Hp)):CN EE ih (.fv (.func (.func 85) [] [])) xs h0 k=A5 [] false false ih 85 xs h0 k :=NV (by kernel_rfl) (by kernel_rfl) (by kernel_rfl) (by kernel_rfl) ..
def vU (ih:Ai) (xs:List IV) (h0:Hp) (k:KT (IV×Hp)):CN EE ih (.fv (.func (.func 84) [] [])) xs h0 k=A5 [] false false ih 84 xs h0 k :=NV (by kernel_rfl) (by kernel_rfl) (by kernel_rfl) (by kernel_rfl) ..
def k_e {a A:Tm} (h0:Ev 89 [.fv A.enc,.fv a.enc] (.tuple [.bool true,.int .i64 0])):gE A a:=by refine C8 200 h0 fun n hn h0=>?_;rw [c62];simp only [EM] at h0 ⊢;simp only [S62,↓XX,XY,↓reduceIte,seval,↓Ag h0];exact A6 rfl
def k_c {G:FV} {st:Int} {t a A:Tm} (h0:gI G st t A) (h1:gE A a):gC G st t a:=by refine Ni 200 h0 h1 fun n hn h0 h1=>?_;rw [Ae1];simp only [EM] at h0 h1 ⊢;simp only [vW,↓XX,XY,↓reduceIte,seval,↓Av h0,↓Ag h1];exact A6 rfl
def k_l {G:FV} {t:Tm} {m:Int} (h0:gI G 1 t (.mk 2 m [])):gL G t m:=by refine C8 200 h0 fun n hn h0=>?_;rw [AcO];simp only [EM] at h0 ⊢;simp only [pV,↓XX,XY,↓reduceIte,seval,↓Av h0];exact A6 rfl
def yQ {G:FV} {st op:Int} {t A:Tm} (h0:gI G st t A) (ho:A.op=op):gS G st t op A:=by refine C8 200 h0 fun n hn h0=>?_;rw [Adj];simp only [EM] at h0 ho ⊢;simp only [wC,↓XX,XY,↓reduceIte,seval,↓Av h0,ho];exact A6 rfl
def Aa3 {t u r Y:Tm} (h0:pSu t u r) (h1:PN r Y):Ue t u Y:=by refine Ni 200 h0 h1 fun n hn h0 h1=>?_;rw [Aex];simp only [EM] at h0 h1 ⊢;simp only [sG,↓XX,XY,↓reduceIte,seval,↓Av h0,↓Ar h1];exact A6 rfl
def G7 {G:FV} {op m:Int} {ks:List Tm} {A:Tm} (ho:op≠1/\op<=19) (h0:gM G (.mk op m ks) A):gI G 1 (.mk op m ks) A:=by refine C8 200 h0 fun n hn h0=>?_;rw [c58];simp only [EM] at h0 ⊢;simp only [S58,↓XX,XY,↓reduceIte,seval,↓Ag h0,ho.1,ho.2,↓lQ];exact A6 rfl
def Nn {G:FV} {op m:Int} {ks:List Tm} {A:Tm} (ho:20<=op) (h0:gO G (.mk op m ks) A):gI G 0 (.mk op m ks) A:=by
 refine C8 200 h0 fun n hn h0=>?_;have ho1:op≠1:=by omega
 have ho2:¬ op<=19:=by omega
 rw [c58];simp only [EM] at h0 ⊢;simp only [S58,↓XX,XY,↓reduceIte,seval,↓Ag h0,ho1,ho2,↓vU];exact A6 rfl
def zM:EE.T 85=some ⟨1,24,.slice 67,[.nils]⟩:=by kernel_rfl
def sSk:SliceT EE 85 4:=⟨_,_,_,_,_,zM,sF,rfl,by decide,by decide⟩
def tH (s:Nat) (h:Hp) (k:KT (IV×Hp)):AA (Am EE 85 0 []) s h k=k (.clip []) h [] []:=Cx zM sF (by decide) (cells:=[]) rfl k
def pR (s0 o n:Int) (ks:List FV) (s:Nat) (h:Hp) (k:KT (IV×Hp)):AA (Am EE 85 1 [(0,.agg [.fv (.int .i64 s0),.fv (.int .i64 o),.fv (.int .i64 n),.fv (.sl ks)])]) s h k=k (.clip [.agg [.int .i64 s0,.int .i64 o,.int .i64 n,.sl ks]]) h [] [] :=Cx zM sF (by decide) (cells:=[.int .i64 s0,.int .i64 o,.int .i64 n,.sl ks]) rfl k
def j6 (s0 o n:Int) (ks:List FV) (s:Nat) (h:Hp) (k:KT (IV×Hp)):AA (Am EE 85 1 [(0,.fv (.agg [.int .i64 s0,.int .i64 o,.int .i64 n,.sl ks]))]) s h k=k (.clip [.agg [.int .i64 s0,.int .i64 o,.int .i64 n,.sl ks]]) h [] [] :=Cx zM sF (by decide) (cells:=[.int .i64 s0,.int .i64 o,.int .i64 n,.sl ks]) rfl k
theorem lM {n:Nat} (g:A8) (hg:g.length<=900000):BC (Ep true (SS dt (n+1)) 144 [.fv (AM g)] []) (AM g):=by
 rw [AM];cases g with
 | nil =>
  have h1:Cz (SS dt (n+1) 144 [.nils] ⟨[],[]⟩)=true:=by kernel_rfl
  have h2:Cz (SS dt (n+1) 144 [.emp] ⟨[],[]⟩)=true:=by kernel_rfl
  simp only [Ep,Ah4,h1,h2,Bool.and_self,if_true];exact Ay _ _
 | cons t g =>
  have e:Ep true (SS dt (n+1)) 144 [.fv (.sl ((t::g).map v1))] []=SS dt (n+1) 144 [.fv (.sl ((t::g).map v1))] ⟨[],[]⟩:=by simp [Ep]
  rw [e,Ad4];have happ:=fun {β:Type}=>HA (β:=β) sSk (.sl ((t::g).map v1)) (Dn (t::g)) rfl (by simp at hg ⊢;omega) (s0:=.clip []) (.inr rfl);simp only [Ah5] at happ ⊢;simp only [tS,↓XX,XY,↓reduceIte,seval,↓yR zM,↓tH,↓happ];exact Bp rfl _
def wW {n:Nat} (g:A8):∃own,SS dt (n+1) 143 [.fv (AM g)] ⟨[],[]⟩=some (.clip (g.map v1),⟨own,[]⟩):=by rw [Afm,AM];have hs:=fun {β:Type}=>mC (β:=β) (E:=EE) sSk (es:=g.map v1) (Dn g);simp only [List.length_map] at hs;simp only [rQ,↓XX,XY,↓reduceIte,seval,↓hs];exact ⟨_,rfl⟩
def vS (g:A8) (st:Int) (a:Tm) (hg:g.length<=900000):gW (AM g) st a (AM (g++[(st,a)])):=by refine ⟨2,fun n hn=>?_⟩;obtain ⟨n,rfl⟩:∃k,n=k+1+1:=⟨n - 2,by omega⟩;rw [Adl];have h1:=lM (n:=n) g hg;obtain ⟨o2,h2⟩:=wW (n:=n) g;have happ:=fun {β:Type}=>AaX (β:=β) sSk (.clip [v1 (st,a)]) (Dn [(st,a)]) (Dn g) rfl (by simp;omega);rw [AM] at h1 h2;rw [AM,AM,List.map_append,Ah5,Ah4];obtain ⟨o,p,k⟩:=a;simp only [v1,Tm.op,Tm.n,Tm.kids] at happ ⊢;rw [An];simp only [rZ,↓XX,XY,↓reduceIte,seval,↓rM h1,↓uE h2,↓pR,↓j6,↓happ];exact Bp rfl _
def wP (G:FV) (ih:Ai) (xs:List IV) (h0:Hp) (k:KT (IV×Hp)):CN EE ih (.fv (.func (.func 102) [G] [])) xs h0 k=A5 [] false false ih 102 (.fv G::xs) h0 k:=by
 have h:EE.pol.inl 102=false:=by kernel_rfl
 have h1:EE.pol.keep 102=[]:=by kernel_rfl
 have h2:EE.pol.split 102=false:=by kernel_rfl
 have h3:EE.pol.raw 102=false:=by kernel_rfl
 unfold CN;simp only [callee,h,cond_false,ZF,h1,h2,h3,Ah4,List.nil_append,List.append_nil,Ah5,List.cons_append]
def nQ (fn:Fn) (G:FV) (s:Nat) (h:Hp) (k:KT (IV×Hp)):AA (val (CJ fn [.fv G] [])) s h k=k (.fv (.func fn [G] [])) h [] []:=FZ (β:=IV×Hp) (.fv (.func fn [G] [])) s h k
theorem AbF {n:Nat} {G:FV} {st:Int} {a:Tm} (ks:List Tm) (hl:ks.length<=1000) (hn:ks.length<n) (h:∀t∈ks,BC (SS dt n 102 [.fv G,iv st,.fv t.enc,.fv a.enc] ⟨[],[]⟩) (.int .i64 0)) :
  BC (SS dt (n+1) 105 [.fv G,iv st,.fv a.enc,.fv (.sl (ks.map Tm.enc))] ⟨[],[]⟩) (.int .i64 0):=by
 rw [AeC];obtain ⟨oa,na,ka⟩:=a;simp only [An] at h ⊢;simp only [LH,ZS,↓XX,XY,↓reduceIte,seval,↓AJ,XD,heldB,AS,XE,↓nQ];refine Be (Q:=fun r=>BC r _) (fun k V H=>∃pre rest,ks=pre++rest/\rest.length=k/\V=[iv st,.ptr (.own 110100480) 0,.fv (.func (.func 102) [G] []),.fv (.sl (ks.map Tm.enc)),iv ks.length,iv pre.length] /\
  H=⟨[(110100480,.row [iv oa,iv na,.fv (.sl (ka.map Tm.enc))] false)],[]⟩) ?_ n ks.length _ _ hn ⟨[],ks,rfl,rfl,rfl,rfl⟩
 rintro k V H rec ⟨pre,rest,hk,hkl,rfl,rfl⟩ hrec;cases rest with
 | nil =>
  have hi:¬ (pre.length:Int)<ks.length:=by rw [hk];simp
  simp only [LH,Qz,ZS,↓XX,XY,↓reduceIte,seval,↓AJ,XD,heldB,AS,XE,hi];exact Ay _ _
 | cons t rest =>
  have hi:(pre.length:Int)<ks.length:=by rw [hk];simp;omega
  have hg:=B2 (l:=ks) (pre:=pre) (a:=t) (rest:=rest) hk;have hc:=h t (by rw [hk];simp);have hwi:BF ((pre.length:Int)+1)=((pre++[t]).length:Int):=(Az (by omega) (by omega)).trans (by simp);simp only [Ah3] at hkl;have h9:=hrec rest.length [iv st,.ptr (.own 110100480) 0,.fv (.func (.func 102) [G] []),.fv (.sl (ks.map Tm.enc)),iv ks.length,iv (pre++[t]).length] _ (by omega) ⟨pre++[t],rest,by rw [hk];simp,rfl,rfl,rfl⟩;obtain ⟨o,p,l⟩:=t;rw [An] at hc;simp only [LH,Qz,ZS,↓XX,XY,↓reduceIte,seval,↓AJ,XD,heldB,AS,XE,hi,↓Br (AO hg) (Bm _ _ _),↓Cd,↓wP,↓Au hc,hwi];exact h9
def k_a {G:FV} {st:Int} {a:Tm} {ks:List Tm} (hl:ks.length<=1000) (h:∀t∈ks,gC G st t a):gA G st a ks:=by
 have hN:∃N,∀n,N<=n->∀t∈ks,BC (SS dt n 102 [.fv G,iv st,.fv t.enc,.fv a.enc] ⟨[],[]⟩) (.int .i64 0):=by
  clear hl
  induction ks with
  | nil=>exact ⟨0,fun n hn t ht=>by simp at ht⟩
  | cons t ks ih =>
   obtain ⟨N1,h1⟩:=ih (fun t ht=>h t (by simp [ht]));obtain ⟨N2,h2⟩:=h t (by simp);refine ⟨N1+N2,fun n hn x hx=>?_⟩;rcases List.mem_cons.1 hx with rfl | hx
   ·exact h2 n (by omega)
   ·exact h1 n (by omega) x hx
 obtain ⟨N,hN⟩:=hN;refine ⟨N+2000,fun n hn=>?_⟩;obtain ⟨n,rfl⟩:=psc n (by omega);exact AbF ks hl (by omega) (hN n (by omega))
def sB {G:FV} {st:Int} {a x y:Tm} (h1:gC G st x a) (h2:gC G st y a):gA G st a [x,y]:=k_a (by simp) (by simp [h1,h2])
def yZ {G:FV} {st:Int} {a x:Tm} (h1:gC G st x a):gA G st a [x]:=k_a (by simp) (by simp [h1])
def Adh {G:FV} {st:Int} {a:Tm}:gA G st a []:=k_a (by simp) (by simp)
def AdB {G:FV} {m:Int}  : gP G (.mk 10 m []) (.mk 2 0 []):=by refine ⟨200,fun n hn=>?_⟩;obtain ⟨n,rfl⟩:=psc n (by omega);have o10:=Fg (n:=n) (by omega) 10 [];have o14:=Fg (n:=n) (by omega) 14 [];have o2:=Fg (n:=n) (by omega) 2 [];rw [Po];simp only [EM] at o10 o14 o2 ⊢;simp only [↓iN,↓XX,XY,↓reduceIte,seval,↓Ag o10,↓Ag o14,↓Ag o2];exact A6 rfl
def Aew {G:FV} {m:Int}  : gP G (.mk 14 m []) (.mk 2 0 []):=by refine ⟨200,fun n hn=>?_⟩;obtain ⟨n,rfl⟩:=psc n (by omega);have o10:=Fg (n:=n) (by omega) 10 [];have o14:=Fg (n:=n) (by omega) 14 [];have o2:=Fg (n:=n) (by omega) 2 [];rw [Po];simp only [EM] at o10 o14 o2 ⊢;simp only [↓iN,↓XX,XY,↓reduceIte,seval,↓Ag o10,↓Ag o14,↓Ag o2];exact A6 rfl
def Ac3 {G:FV} {m:Int}  : gP G (.mk 11 m []) natT:=by refine ⟨200,fun n hn=>?_⟩;obtain ⟨n,rfl⟩:=psc n (by omega);have o10:=Fg (n:=n) (by omega) 10 [];have o14:=Fg (n:=n) (by omega) 14 [];have o2:=Fg (n:=n) (by omega) 2 [];rw [Po];simp only [EM] at o10 o14 o2 ⊢;simp only [↓iN,↓XX,XY,↓reduceIte,seval,↓Ag o10,↓Ag o14,↓Ag o2];exact A6 rfl
def Acz {G:FV} {a:Tm} {m:Int} (h0:gA G 1 natT [a]):gP G (.mk 12 m [a]) natT:=by refine C8 200 h0 fun n hn h0=>?_;have o10:=Fg (n:=n) (by omega) 10 [];have o14:=Fg (n:=n) (by omega) 14 [];have o2:=Fg (n:=n) (by omega) 2 [];rw [Po];simp only [EM] at h0 o10 o14 o2 ⊢;simp only [↓iN,↓XX,XY,↓reduceIte,seval,↓Au h0,↓Ag o10,↓Ag o14,↓Ag o2];exact A6 rfl
def AcE {G:FV} {m:Int} (h0:gA G 1 tyT []):gP G (.mk 15 m []) tyT:=by refine C8 200 h0 fun n hn h0=>?_;have o10:=Fg (n:=n) (by omega) 10 [];have o14:=Fg (n:=n) (by omega) 14 [];have o2:=Fg (n:=n) (by omega) 2 [];rw [Po];simp only [EM] at h0 o10 o14 o2 ⊢;simp only [↓iN,↓XX,XY,↓reduceIte,seval,↓Au h0,↓Ag o10,↓Ag o14,↓Ag o2];exact A6 rfl
def Aea {G:FV} {a b:Tm} {m:Int} (h0:gA G 1 tyT [a,b]):gP G (.mk 16 m [a,b]) tyT:=by refine C8 200 h0 fun n hn h0=>?_;have o10:=Fg (n:=n) (by omega) 10 [];have o14:=Fg (n:=n) (by omega) 14 [];have o2:=Fg (n:=n) (by omega) 2 [];rw [Po];simp only [EM] at h0 o10 o14 o2 ⊢;simp only [↓iN,↓XX,XY,↓reduceIte,seval,↓Au h0,↓Ag o10,↓Ag o14,↓Ag o2];exact A6 rfl
def Adk {G:FV} {a b:Tm} {m:Int} (h0:gA G 1 tyT [a,b]):gP G (.mk 17 m [a,b]) tyT:=by refine C8 200 h0 fun n hn h0=>?_;have o10:=Fg (n:=n) (by omega) 10 [];have o14:=Fg (n:=n) (by omega) 14 [];have o2:=Fg (n:=n) (by omega) 2 [];rw [Po];simp only [EM] at h0 o10 o14 o2 ⊢;simp only [↓iN,↓XX,XY,↓reduceIte,seval,↓Au h0,↓Ag o10,↓Ag o14,↓Ag o2];exact A6 rfl
def AcZ {G:FV} {a:Tm} {m:Int} (h0:gA G 1 tyT [a]):gP G (.mk 18 m [a]) (.mk 2 0 []):=by refine C8 200 h0 fun n hn h0=>?_;have o10:=Fg (n:=n) (by omega) 10 [];have o14:=Fg (n:=n) (by omega) 14 [];have o2:=Fg (n:=n) (by omega) 2 [];rw [Po];simp only [EM] at h0 o10 o14 o2 ⊢;simp only [↓iN,↓XX,XY,↓reduceIte,seval,↓Au h0,↓Ag o10,↓Ag o14,↓Ag o2];exact A6 rfl
def Adq {G:FV} {a A:Tm} {m:Int} (h0:gI G 0 a A):gP G (.mk 19 m [a]) (.mk 18 0 [A]):=by refine C8 200 h0 fun n hn h0=>?_;have o10:=Fg (n:=n) (by omega) 10 [];have o14:=Fg (n:=n) (by omega) 14 [];have o2:=Fg (n:=n) (by omega) 2 [];have o18:=Fg (n:=n) (by omega) 18 [A];rw [Po];simp only [EM] at h0 o10 o14 o2 o18 ⊢;simp only [↓iN,↓XX,XY,↓reduceIte,seval,↓Av h0,↓Ag o10,↓Ag o14,↓Ag o2,↓Ag o18,↓Dx];exact A6 rfl
def OY {G:FV} {op m:Int} {ks:List Tm} {A:Tm} (ho:(op≠2/\op≠3/\op≠6)/\(op≠4/\op≠5/\op≠7)/\op≠8/\op≠9/\op≠13) (h0:gP G (.mk op m ks) A):gM G (.mk op m ks) A:=by refine C8 200 h0 fun n hn h0=>?_;rw [i5];simp only [EM] at h0 ⊢;simp only [↓mQ,↓XX,XY,↓reduceIte,seval,↓Ag h0,ho.1.1,ho.1.2.1,ho.1.2.2,ho.2.1.1,ho.2.1.2.1,ho.2.1.2.2,ho.2.2.1,ho.2.2.2.1,ho.2.2.2.2];exact A6 rfl
def Aft {G:FV} {m:Int} (h:0<=m/\m<=1):gM G (.mk 2 m []) (.mk 2 (m+1) []):=by
 refine ⟨200,fun n hn=>?_⟩;obtain ⟨n,rfl⟩:=psc n (by omega);have hm:¬ 2<=m:=by omega
 have hw:BF (m+1)=m+1:=Az (by omega) (by omega);rw [i5];simp only [An,Ah5,Ah4,Ek,tyT,natT,Tm.z,Tm.op,Tm.n];simp only [↓mQ,↓XX,XY,↓reduceIte,seval,hm,hw];exact A6 rfl
def AdM {G:FV} {a b A:Tm} {m:Int} (h0:Ev 109 [.fv G,.fv a.enc,.fv b.enc] (.tuple [Tm.enc A,.int .i64 0])):gM G (.mk 3 m [a,b]) A:=by refine C8 200 h0 fun n hn h0=>?_;rw [i5];simp only [EM] at h0 ⊢;simp only [↓mQ,↓XX,XY,↓reduceIte,seval,↓Av h0];exact A6 rfl
def AdL {G:FV} {a b A:Tm} {m:Int} (h0:Ev 109 [.fv G,.fv a.enc,.fv b.enc] (.tuple [Tm.enc A,.int .i64 0])):gM G (.mk 6 m [a,b]) A:=by refine C8 200 h0 fun n hn h0=>?_;rw [i5];simp only [EM] at h0 ⊢;simp only [↓mQ,↓XX,XY,↓reduceIte,seval,↓Av h0];exact A6 rfl
def AcA {G:FV} {a b A:Tm} {m:Int} (h0:Ev 110 [.fv G,.fv a.enc,.fv b.enc] (.tuple [Tm.enc A,.int .i64 0])):gM G (.mk 4 m [a,b]) A:=by refine C8 200 h0 fun n hn h0=>?_;rw [i5];simp only [EM] at h0 ⊢;simp only [↓mQ,↓XX,XY,↓reduceIte,seval,↓Av h0];exact A6 rfl
def Aet {G:FV} {a b A:Tm} {m:Int} (h0:Ev 111 [.fv G,.fv a.enc,.fv b.enc] (.tuple [Tm.enc A,.int .i64 0])):gM G (.mk 5 m [a,b]) A:=by refine C8 200 h0 fun n hn h0=>?_;rw [i5];simp only [EM] at h0 ⊢;simp only [↓mQ,↓XX,XY,↓reduceIte,seval,↓Av h0];exact A6 rfl
def Acl {G:FV} {a b c A:Tm} {m:Int} (h0:Ev 112 [.fv G,.fv a.enc,.fv b.enc,.fv c.enc] (.tuple [Tm.enc A,.int .i64 0])):gM G (.mk 7 m [a,b,c]) A:=by refine C8 200 h0 fun n hn h0=>?_;rw [i5];simp only [EM] at h0 ⊢;simp only [↓mQ,↓XX,XY,↓reduceIte,seval,↓Au h0];exact A6 rfl
def Abt {G:FV} {a b c d A:Tm} {m:Int} (h0:Ev 114 [.fv G,.fv a.enc,.fv b.enc,.fv c.enc,.fv d.enc] (.tuple [Tm.enc A,.int .i64 0])):gM G (.mk 13 m [a,b,c,d]) A:=by refine C8 200 h0 fun n hn h0=>?_;rw [i5];simp only [EM] at h0 ⊢;simp only [↓mQ,↓XX,XY,↓reduceIte,seval,↓yA h0];exact A6 rfl
def Adi {G:FV} {a A:Tm} {m:Int} (h0:Ev 113 [.fv G,.fv (Tm.mk 8 m [a]).enc] (.tuple [A.enc,.int .i64 0])):gM G (.mk 8 m [a]) A:=by refine C8 200 h0 fun n hn h0=>?_;rw [i5];simp only [EM] at h0 ⊢;simp only [↓mQ,↓XX,XY,↓reduceIte,seval,↓Ag h0];exact A6 rfl
def Aa8 {G:FV} {a b:Tm} {i j:Int} {G1:FV} (h0:gL G a i) (h1:gW G 1 a G1) (h2:gL G1 b j):Ev 109 [.fv G,.fv a.enc,.fv b.enc] (.tuple [(Tm.mk 2 (if i<j then j else i) []).enc,.int .i64 0]):=by refine Ss 200 h0 h1 h2 fun n hn h0 h1 h2=>?_;rw [Ack];simp only [EM] at h0 h1 h2 ⊢;simp only [Wy,vQ,↓XX,XY,↓reduceIte,seval,↓Ag h0,↓Av h1,↓Ag h2,↓aD];exact A6 rfl
def Ad2 {G:FV} {a b B C:Tm} {i:Int} {G1:FV} (h0:gL G a i) (h1:gW G 1 a G1) (h2:gI G1 1 b B) (h3:PN (.mk 3 0 [a,B]) C):Ev 110 [.fv G,.fv a.enc,.fv b.enc] (.tuple [C.enc,.int .i64 0]):=by refine iY 200 h0 h1 h2 h3 fun n hn h0 h1 h2 h3=>?_;have o3:=Fg (n:=n) (by omega) 3 [a,B];rw [Acn];simp only [EM] at h0 h1 h2 h3 o3 ⊢;simp only [Ve,sQ,↓XX,XY,↓reduceIte,seval,↓Ag h0,↓Av h1,↓Av h2,↓Ar h3,↓Ag o3,↓Ct];exact A6 rfl
def TR {op m:Int} {a b:Tm}  : Ev 103 [.fv (Tm.mk op m [a,b]).enc,iv 0] a.enc:=by refine ⟨200,fun n hn=>?_⟩;obtain ⟨n,rfl⟩:=psc n (by omega);rw [v9];obtain ⟨oa,pa,ka⟩:=a;obtain ⟨ob,pb,kb⟩:=b;simp only [An,Ah5,Ah4,Ek,tyT,natT,Tm.z,Tm.op,Tm.n];simp only [Zj,↓XX,XY,↓reduceIte,seval];exact A6 rfl
def wT {op m:Int} {a b:Tm}  : Ev 103 [.fv (Tm.mk op m [a,b]).enc,iv 1] b.enc:=by refine ⟨200,fun n hn=>?_⟩;obtain ⟨n,rfl⟩:=psc n (by omega);rw [v9];obtain ⟨oa,pa,ka⟩:=a;obtain ⟨ob,pb,kb⟩:=b;simp only [An,Ah5,Ah4,Ek,tyT,natT,Tm.z,Tm.op,Tm.n];simp only [Zj,↓XX,XY,↓reduceIte,seval];exact A6 rfl
def AaN {op m:Int} {a:Tm}  : Ev 103 [.fv (Tm.mk op m [a]).enc,iv 0] a.enc:=by refine ⟨200,fun n hn=>?_⟩;obtain ⟨n,rfl⟩:=psc n (by omega);rw [v9];obtain ⟨oa,pa,ka⟩:=a;simp only [An,Ah5,Ah4,Ek,tyT,natT,Tm.z,Tm.op,Tm.n];simp only [Zj,↓XX,XY,↓reduceIte,seval];exact A6 rfl
def AdE {G:FV} {f x A B Y:Tm} {q:Int} (h0:gS G 1 f 3 (.mk 3 q [A,B])) (h1:gC G 1 x A) (h2:Ue B x Y) (h3:Ev 103 [.fv (Tm.mk 3 q [A,B]).enc,iv 0] A.enc):Ev 111 [.fv G,.fv f.enc,.fv x.enc] (.tuple [Y.enc,.int .i64 0]):=by refine iY 200 h0 h1 h2 h3 fun n hn h0 h1 h2 h3=>?_;rw [Aes];simp only [EM] at h0 h1 h2 h3 ⊢;simp only [UD,uA,↓XX,XY,↓reduceIte,seval,↓Au h0,↓Au h1,↓Ag h2,↓Ag h3];exact A6 rfl
def AeG {G:FV} {x A B:Tm} {q m:Int} (h0:gS G 1 x 6 (.mk 6 q [A,B])):Ev 113 [.fv G,.fv (Tm.mk 8 m [x]).enc] (.tuple [A.enc,.int .i64 0]):=by refine C8 200 h0 fun n hn h0=>?_;rw [AdY];simp only [EM] at h0 ⊢;simp only [Wp,vH,↓XX,XY,↓reduceIte,seval,↓Au h0];exact A6 rfl
def Afh {G:FV} {S x y A B Y:Tm} {q i:Int} (h0:gL G S i) (h1:PN S (.mk 6 q [A,B])) (h2:gC G 1 x A) (h3:Ue B x Y) (h4:gC G 1 y Y):Ev 112 [.fv G,.fv S.enc,.fv x.enc,.fv y.enc] (.tuple [(Tm.mk 6 q [A,B]).enc,.int .i64 0]):=by refine xW 200 h0 h1 h2 h3 h4 fun n hn h0 h1 h2 h3 h4=>?_;rw [AeE];simp only [EM] at h0 h1 h2 h3 h4 ⊢;simp only [QR,Q5,vL,↓XX,XY,↓reduceIte,seval,↓Ag h0,↓Ar h1,↓Au h2,↓Ag h3,↓Au h4];exact A6 rfl
def Ad1 {G:FV} {p z s k w p1 p2 Y:Tm} {i:Int} {G1 G2:FV} (h0:gW G 1 natT G1) (h1:gL G1 p i) (h2:Ue p (.mk 11 0 []) p1) (h3:gC G 1 z p1) (h4:pSh p 2 1 w) (h5:Ue w (.mk 12 0 [.mk 1 1 []]) p2) (h6:gW G1 1 p G2) (h7:gC G2 1 s p2) (h8:gC G 1 k natT) (h9:Ue p k Y):Ev 114 [.fv G,.fv p.enc,.fv z.enc,.fv s.enc,.fv k.enc] (.tuple [Y.enc,.int .i64 0]):=by refine zI 200 h0 h1 h2 h3 h4 h5 h6 h7 h8 h9 fun n hn h0 h1 h2 h3 h4 h5 h6 h7 h8 h9=>?_;have o10:=Fg (n:=n) (by omega) 10 [];have o11:=Fg (n:=n) (by omega) 11 [];have o12:=Fg (n:=n) (by omega) 12 [.mk 1 1 []];rw [AeM];simp only [EM] at h0 h1 h2 h3 h4 h5 h6 h7 h8 h9 o10 o11 o12 ⊢;simp only [Q9,Q6,Q4,tN,↓XX,XY,↓reduceIte,seval,↓Av h0,↓Ag h1,↓Ag h2,↓Au h3,↓Av h4,↓Ag h5,↓Av h6,↓Au h7,↓Au h8,↓Ag h9,↓Ag o10,↓Ag o11,↓Ag o12,↓Dx,↓zC];exact A6 rfl
def y7 {G:FV} {m:Int}  : gO G (.mk 25 m []) Ek:=by refine ⟨200,fun n hn=>?_⟩;obtain ⟨n,rfl⟩:=psc n (by omega);have o15:=Fg (n:=n) (by omega) 15 [];rw [fY];simp only [EM] at o15 ⊢;simp only [↓fW,↓XX,XY,↓reduceIte,seval,↓Ag o15];exact A6 rfl
def Abg {G:FV} {a b:Tm} {m:Int} (h0:gA G 0 Ek [a,b]):gO G (.mk 26 m [a,b]) Ek:=by refine C8 200 h0 fun n hn h0=>?_;have o15:=Fg (n:=n) (by omega) 15 [];rw [fY];simp only [EM] at h0 o15 ⊢;simp only [↓fW,↓XX,XY,↓reduceIte,seval,↓Au h0,↓Ag o15];exact A6 rfl
def z9 {G:FV} {a b A:Tm} {m:Int} (h0:Ev 100 [.fv G,.fv a.enc,.fv b.enc] (.tuple [Tm.enc A,.int .i64 0])):gO G (.mk 20 m [a,b]) A:=by refine C8 200 h0 fun n hn h0=>?_;have o15:=Fg (n:=n) (by omega) 15 [];rw [fY];simp only [EM] at h0 o15 ⊢;simp only [↓fW,↓XX,XY,↓reduceIte,seval,↓Av h0,↓Ag o15];exact A6 rfl
def Aah {G:FV} {a b A:Tm} {m:Int} (h0:Ev 104 [.fv G,.fv a.enc,.fv b.enc] (.tuple [Tm.enc A,.int .i64 0])):gO G (.mk 22 m [a,b]) A:=by refine C8 200 h0 fun n hn h0=>?_;have o15:=Fg (n:=n) (by omega) 15 [];rw [fY];simp only [EM] at h0 o15 ⊢;simp only [↓fW,↓XX,XY,↓reduceIte,seval,↓Av h0,↓Ag o15];exact A6 rfl
def Aa0 {G:FV} {a b c A:Tm} {m:Int} (h0:Ev 106 [.fv G,.fv a.enc,.fv b.enc,.fv c.enc] (.tuple [Tm.enc A,.int .i64 0])):gO G (.mk 27 m [a,b,c]) A:=by refine C8 200 h0 fun n hn h0=>?_;have o15:=Fg (n:=n) (by omega) 15 [];rw [fY];simp only [EM] at h0 o15 ⊢;simp only [↓fW,↓XX,XY,↓reduceIte,seval,↓Au h0,↓Ag o15];exact A6 rfl
def Aay {G:FV} {a b A:Tm} {m:Int} (h0:Ev 108 [.fv G,.fv a.enc,.fv b.enc] (.tuple [Tm.enc A,.int .i64 0])):gO G (.mk 29 m [a,b]) A:=by refine C8 200 h0 fun n hn h0=>?_;have o15:=Fg (n:=n) (by omega) 15 [];rw [fY];simp only [EM] at h0 o15 ⊢;simp only [↓fW,↓XX,XY,↓reduceIte,seval,↓Av h0,↓Ag o15];exact A6 rfl
def AaK {G:FV} {x y A B:Tm} {m:Int} (h0:gI G 0 x A) (h1:gU G A y B):gO G (.mk 28 m [x,y]) B:=by refine Ni 200 h0 h1 fun n hn h0 h1=>?_;have o15:=Fg (n:=n) (by omega) 15 [];rw [fY];simp only [EM] at h0 h1 o15 ⊢;simp only [↓fW,↓XX,XY,↓reduceIte,seval,↓Av h0,↓Av h1,↓Ag o15];exact A6 rfl
def zX {G:FV} {x A:Tm} {m q:Int} (h0:gS G 1 x 18 (.mk 18 q [A])) (h1:Ev 103 [.fv (Tm.mk 18 q [A]).enc,iv 0] A.enc):gO G (.mk 30 m [x]) A:=by refine Ni 200 h0 h1 fun n hn h0 h1=>?_;have o15:=Fg (n:=n) (by omega) 15 [];rw [fY];simp only [EM] at h0 h1 o15 ⊢;simp only [↓fW,↓XX,XY,↓reduceIte,seval,↓Au h0,↓Ag h1,↓Ag o15];exact A6 rfl
def Aaq {G:FV} {f x A B:Tm} {m q:Int} (h0:gS G 0 f 16 (.mk 16 q [A,B])) (h1:Ev 103 [.fv (Tm.mk 16 q [A,B]).enc,iv 0] A.enc) (h2:gC G 0 x A) (h3:Ev 103 [.fv (Tm.mk 16 q [A,B]).enc,iv 1] B.enc):gO G (.mk 21 m [f,x]) B:=by refine iY 200 h0 h1 h2 h3 fun n hn h0 h1 h2 h3=>?_;have o15:=Fg (n:=n) (by omega) 15 [];rw [fY];simp only [EM] at h0 h1 h2 h3 o15 ⊢;simp only [↓fW,↓XX,XY,↓reduceIte,seval,↓Au h0,↓Ag h1,↓Au h2,↓Ag h3,↓Ag o15];exact A6 rfl
def zL {G:FV} {x A B:Tm} {m q:Int} (h0:gS G 0 x 17 (.mk 17 q [A,B])) (h1:Ev 103 [.fv (Tm.mk 17 q [A,B]).enc,iv 0] A.enc):gO G (.mk 23 m [x]) A:=by refine Ni 200 h0 h1 fun n hn h0 h1=>?_;have o15:=Fg (n:=n) (by omega) 15 [];have w0:BF (23 - 23)=0/\BF 0=0:=⟨rfl,rfl⟩;rw [fY];simp only [EM] at h0 h1 o15 ⊢;simp only [↓fW,↓XX,XY,↓reduceIte,seval,↓Au h0,↓Ag h1,↓Ag o15,w0];exact A6 rfl
def AdZ {G:FV} {a b c r:Tm} {G1:FV} (h0:gW G 0 a G1) (h1:gI G1 0 b c) (h2:pF c false) (h3:pSu c (.mk 11 0 []) r):gU G a b r:=by refine iY 200 h0 h1 h2 h3 fun n hn h0 h1 h2 h3=>?_;have o11:=Fg (n:=n) (by omega) 11 [];rw [AcI];simp only [EM] at h0 h1 h2 h3 o11 ⊢;simp only [Xy,t9,↓XX,XY,↓reduceIte,seval,↓Av h0,↓Av h1,↓Ag h2,↓Av h3,↓Ag o11];exact A6 rfl
def Aeh {G:FV} {a b B C:Tm} (h0:gC G 1 a tyT) (h1:gU G a b B) (h2:PN (.mk 16 0 [a,B]) C):Ev 100 [.fv G,.fv a.enc,.fv b.enc] (.tuple [C.enc,.int .i64 0]):=by refine Ss 200 h0 h1 h2 fun n hn h0 h1 h2=>?_;have o14:=Fg (n:=n) (by omega) 14 [];have o16:=Fg (n:=n) (by omega) 16 [a,B];rw [AdN];simp only [EM] at h0 h1 h2 o14 o16 ⊢;simp only [W1,pZ,↓XX,XY,↓reduceIte,seval,↓Au h0,↓Av h1,↓Ar h2,↓Ag o14,↓Ag o16,↓Ct];exact A6 rfl
def Afb {G:FV} {x y A B C:Tm} (h0:gI G 0 x A) (h1:gI G 0 y B) (h2:PN (.mk 17 0 [A,B]) C):Ev 104 [.fv G,.fv x.enc,.fv y.enc] (.tuple [C.enc,.int .i64 0]):=by refine Ss 200 h0 h1 h2 fun n hn h0 h1 h2=>?_;have o17:=Fg (n:=n) (by omega) 17 [A,B];rw [Adu];simp only [EM] at h0 h1 h2 o17 ⊢;simp only [Vv,tP,↓XX,XY,↓reduceIte,seval,↓Av h0,↓Av h1,↓Ar h2,↓Ag o17,↓Ct];exact A6 rfl
def AdT {G:FV} {c x y A:Tm} (h0:gC G 0 c Ek) (h1:gI G 0 x A) (h2:gC G 0 y A):Ev 106 [.fv G,.fv c.enc,.fv x.enc,.fv y.enc] (.tuple [A.enc,.int .i64 0]):=by refine Ss 200 h0 h1 h2 fun n hn h0 h1 h2=>?_;have o15:=Fg (n:=n) (by omega) 15 [];rw [Ady];simp only [EM] at h0 h1 h2 o15 ⊢;simp only [WM,qT,↓XX,XY,↓reduceIte,seval,↓Au h0,↓Av h1,↓Au h2,↓Ag o15];exact A6 rfl
def Adm {G:FV} {a b s A:Tm} {G1:FV} (h0:gC G 1 a tyT) (h1:gW G 0 a G1) (h2:pSh a 1 0 s) (h3:gC G1 0 b s) (h4:PN a A):Ev 108 [.fv G,.fv a.enc,.fv b.enc] (.tuple [A.enc,.int .i64 0]):=by refine xW 200 h0 h1 h2 h3 h4 fun n hn h0 h1 h2 h3 h4=>?_;have o14:=Fg (n:=n) (by omega) 14 [];rw [Aez];simp only [EM] at h0 h1 h2 h3 h4 o14 ⊢;simp only [Xi,rC,↓XX,XY,↓reduceIte,seval,↓Au h0,↓Av h1,↓Av h2,↓Au h3,↓Ar h4,↓Ag o14];exact A6 rfl
def QU (ih:Ai) (xs:List IV) (h0:Hp) (k:KT (IV×Hp)):CN EE ih (.fv (.func (.func 118) [] [])) xs h0 k=A5 [] false false ih 118 xs h0 k :=NV (by kernel_rfl) (by kernel_rfl) (by kernel_rfl) (by kernel_rfl) ..
def TU (u:Tm) (e:Int):FV:=.agg [.int .i64 u.op,.int .i64 u.n,.sl (u.kids.map Tm.enc),.int .i64 e]
def R8 {n:Nat} (u v:Tm) (e1 e2:Int) (hn:2 * u.wt+4<n) (hw:u.wt<=100000000):BC (SS dt n 118 [.fv (TU u e1),.fv (TU v e2)] ⟨[],[]⟩) (.bool (u.same v)):=by obtain ⟨n,rfl⟩:=psc n (by omega);rw [Adg];have h:=QY n u v (by omega) hw;generalize u.same v=b at h ⊢;obtain ⟨o1,n1,k1⟩:=u;obtain ⟨o2,n2,k2⟩:=v;simp only [An,TU,Tm.op,Tm.n,Tm.kids] at h ⊢;simp only [vB,↓XX,XY,↓reduceIte,seval,↓Ag h];exact Ay _ _
mutual
theorem MV:∀(t u:Tm) (c d:Int) (k:Nat),t.sc k->0<=c->c+k+4 * t.wt<=1000000000->(t.shift 1 c).subst c d u=t
 | .mk op n ks,u,c,d,k,h,hc,hw=>by
  rw [Tm.sc] at h;simp only [Tm.wt] at hw;rw [Tm.shift,Tm.subst];by_cases h1:op=1
  ·have h2:=h.2.1;rw [if_pos h1] at h2;have hk:ks=[]:=by
    have:=h.1
    subst h1;exact Aia (Option.some.inj (this.symm.trans (show ar 1=some 0 from rfl)))
   subst hk;rw [if_pos h1];by_cases hn:c<=n
   ·have e:(if op=1/\c<=n then BF (n+1) else n)=n+1:=by rw [if_pos ⟨h1,hn⟩,Az (by omega) (by omega)]
    rw [e,if_neg (by omega),if_pos (by omega),Az (by omega) (by omega),h1,Int.add_sub_cancel]
   ·have e:(if op=1/\c<=n then BF (n+1) else n)=n:=if_neg (fun h=>hn h.2);rw [e,if_neg (by omega),if_neg (by omega),Tm.shiftL]
  ·rw [if_neg h1,if_neg (fun h=>h1 h.1),sub_shL ks u op 0 c d k h.2.2 hc (by omega)]
theorem sub_shL:∀(l:List Tm) (u:Tm) (op:Int) (i:Nat) (c d:Int) (k:Nat),Tm.scL op i l k->0<=c->c+k+4+4 * Tm.wtL l<=1000000000->Tm.substL op i (Tm.shiftL op i l 1 c) c d u=l
 | [],_,_,_,_,_,_,_,_,_=>rfl
 | t::l,u,op,i,c,d,k,h,hc,hw=>by
  rw [Tm.scL] at h;simp only [Tm.wtL] at hw;have hb:=A0 op i;rw [Tm.shiftL,Tm.substL,MV t u _ _ _ h.1 (by omega) (by have:=Et t;omega),sub_shL l u op (i+1) c d k h.2 hc (by omega)]
end
mutual
theorem O1:∀(t:Tm) (c:Int) (k:Nat),t.sc k->0<=c->c+k+4 * t.wt<=1000000000->(t.shift 1 c).free c=false
 | .mk op n ks,c,k,h,hc,hw=>by
  rw [Tm.sc] at h;simp only [Tm.wt] at hw;rw [Tm.shift,Tm.free];by_cases h1:op=1
  ·have h2:=h.2.1;rw [if_pos h1] at h2 ⊢;rw [decide_eq_false_iff_not];by_cases hn:c<=n
   ·rw [if_pos ⟨h1,hn⟩,Az (by omega) (by omega)];omega
   ·rw [if_neg (fun h=>hn h.2)];omega
  ·rw [if_neg h1];exact free_shL ks op 0 c k h.2.2 hc (by omega)
theorem free_shL:∀(l:List Tm) (op:Int) (i:Nat) (c:Int) (k:Nat),Tm.scL op i l k->0<=c->c+k+4+4 * Tm.wtL l<=1000000000->Tm.freeL op i (Tm.shiftL op i l 1 c) c=false
 | [],_,_,_,_,_,_,_=>rfl
 | t::l,op,i,c,k,h,hc,hw=>by
  rw [Tm.scL] at h;simp only [Tm.wtL] at hw;have hb:=A0 op i;rw [Tm.shiftL,Tm.freeL,O1 t _ _ h.1 (by omega) (by have:=Et t;omega),free_shL l op (i+1) c k h.2 hc (by have:=Et t;omega)];rfl
end
theorem eE {op op':Int} {ks:List Tm} {d c:Int} (h:jD op ks):jD op (Tm.shiftL op' 0 ks d c):=by
 have hg:∀(i:Nat) x,(Tm.shiftL op' 0 ks d c)[i]?=some x->∃y,ks[i]?=some y/\x.op=y.op:=by
  intro i x hx;rw [IS] at hx;cases hy:ks[i]? with
  | none=>rw [hy] at hx;cases hx
  | some y =>rw [hy] at hx;simp only [Ah2,AhZ] at hx;exact ⟨y,rfl,by rw [<- hx,LX]⟩
 obtain ⟨⟨h1,h2,h3⟩,h4,h5⟩:=h;refine ⟨⟨fun ho x hx=>?_,fun ho x hx=>?_,fun ho x hx=>?_⟩,fun ho x hx=>?_,fun ho x hx=>?_⟩<;>obtain ⟨y,hy,e⟩:=hg _ _ hx<;>rw [e]
 ·exact h1 ho y hy
 ·exact h2 ho y hy
 ·exact h3 ho y hy
 ·exact h4 ho y hy
 ·exact h5 ho y hy
mutual
theorem TS:∀(t:Tm) (d c:Int),t.stl->(t.shift d c).stl
 | .mk op n ks,d,c,h=>by
  rw [Tm.stl] at h;rw [Tm.shift,Tm.stl];exact ⟨eE h.1,stlL_sh ks op 0 d c h.2⟩
theorem stlL_sh:∀(l:List Tm) (op:Int) (i:Nat) (d c:Int),Tm.stlL l->Tm.stlL (Tm.shiftL op i l d c)
 | [],_,_,_,_,_=>by rw [Tm.shiftL,Tm.stlL];trivial
 | t::l,op,i,d,c,h=>by
  rw [Tm.stlL] at h;rw [Tm.shiftL,Tm.stlL];exact ⟨TS t _ _ h.1,stlL_sh l op (i+1) d c h.2⟩
end
theorem EP {G:List Nat} {t:Tm} {s:Nat} (h:HasT G t s):t.stl->NfT G t s:=by
 induction h with
 | var G n s h0 h hs=>exact fun _=>.var _ _ _ h0 h hs
 | node G op n ks s sg hr hl hk ih =>intro hs;rw [Tm.stl] at hs;exact .node _ _ _ _ _ sg hr hl hs.1.1 fun i t bs s' ht hg=>ih i t bs s' ht hg (Jk hs.2 (List.mem_of_getElem? ht))
 | app G n m a b x y s s0=>intro h;rw [Tm.stl] at h;exact absurd rfl (h.1.2.1 rfl _ rfl)
 | fst G n m a x y s s1 s0=>intro h;rw [Tm.stl] at h;exact absurd rfl (h.1.2.2 (.inl rfl) _ rfl)
 | snd G n m a x y s s1 s0=>intro h;rw [Tm.stl] at h;exact absurd rfl (h.1.2.2 (.inr rfl) _ rfl)
def Es (s:Nat):Prop:=s=0\/s=1\/s=2\/10<=s
theorem nE {op:Int} {s:Nat} {sg:Kt} (hr:Rule op s sg) (hs:Es s):(op≠4/\op≠7)/\∀(i:Nat) bs s',sg[i]?=some (bs,s')->Es s':=by
 have hi4:∀i:Nat,i=0\/i=1\/i=2\/i=3\/4<=i:=by omega
 unfold Es at hs ⊢;cases hr<;>refine ⟨by omega,fun i bs s' h=>?_⟩<;>rcases hi4 i with rfl | rfl | rfl | rfl | h4 <;>
  (try simp only [Aib,Aic,List.getElem?_nil,AhZ,Ah0,reduceCtorEq] at h) <;>
  first | (obtain ⟨_,rfl⟩:=h;omega) | (rw [List.getElem?_eq_none (by simp only [Ah3,List.length_nil];omega)] at h;cases h) | cases h
theorem RT:∀{l:List Tm},(∀t∈l,t.eta=t)->Tm.etaL l=l
 | [],_=>rfl
 | x::l,h=>by rw [Tm.etaL,h x (List.mem_cons_self ..),RT fun t ht=>h t (List.mem_cons_of_mem _ ht)]
theorem Oc {op n:Int} {l:List Tm} (h:op≠4/\op≠7) (hl:∀t∈l,t.eta=t):(Tm.mk op n l).eta=.mk op n l:=by rw [Tm.eta,if_neg h.1,if_neg h.2,RT hl]
theorem IC {G:List Nat} {t:Tm} {s:Nat} (h:NfT G t s):Es s->t.eta=t:=by
 induction h with
 | var G n s h0 h hs=>intro _;exact Oc (by decide) (by simp)
 | node G op n ks s sg hr hl hst hk ih =>
  intro hs;obtain ⟨ho,hkid⟩:=nE hr hs;refine Oc ho fun t ht=>?_;obtain ⟨i,hi⟩:=Qg ht;have hi2:i<sg.length:=by rw [<- hl];exact (Ah7.1 hi).1
  exact ih i t _ _ hi (Ah6 hi2) (hkid i _ _ (Ah6 hi2))
def FT (a:Tm):Prop:=F1 a\/(∃(op:Int) (x y:Tm),(op=3\/op=6)/\F1 x/\F1 y/\a=.mk op 0 [x,y])\/a.op=18
theorem ON {op n:Int} {d c:Tm} (ho:op=3\/op=6) (h:FT (.mk op n [d,c])):F1 d/\F1 c:=by
 rcases h with (h | ⟨op',d',c',_,hd,hc,h⟩ | ⟨p,_,h⟩) | ⟨op',d',c',_,hd,hc,h⟩ | h
 ·rcases h with h | h | h | ⟨p,_,h⟩<;>simp only [Tm.mk.injEq] at h<;>omega
 ·simp only [Tm.mk.injEq,List.cons.injEq,and_true] at h;obtain ⟨_,_,rfl,rfl⟩:=h;exact ⟨.inl hd,.inl hc⟩
 ·simp only [Tm.mk.injEq] at h;omega
 ·simp only [Tm.mk.injEq,List.cons.injEq,and_true] at h;obtain ⟨_,_,rfl,rfl⟩:=h;exact ⟨hd,hc⟩
 ·simp only [Tm.op] at h;omega
theorem Ns {a:Tm} (h:F1 a):FT a:=.inl h
theorem UH {n:Int} {a:Tm}:FT (.mk 18 n [a]):=.inr (.inr rfl)
theorem Sw:FT natT:=.inl (.inl (.inl rfl))
theorem Rf:FT tyT:=.inl (.inl (.inr (.inl rfl)))
theorem Ft {p:Tm} (h:F0 p) (d c:Int):p.shift d c=p:=by
 rcases h with rfl | rfl | rfl | ⟨q,h | ⟨op,ho,h⟩,rfl⟩
 ·simp [Tm.shift,Tm.shiftL]
 ·simp [Tm.shift,Tm.shiftL]
 ·simp [Tm.shift,Tm.shiftL]
 ·subst h;simp [Tm.shift,Tm.shiftL]
 ·subst h;rcases ho with rfl | rfl<;>simp [Tm.shift,Tm.shiftL]
theorem Kz {p:Tm} (h:F0 p) (c d:Int) (u:Tm):p.subst c d u=p:=by
 rcases h with rfl | rfl | rfl | ⟨q,h | ⟨op,ho,h⟩,rfl⟩
 ·simp [Tm.subst,Tm.substL]
 ·simp [Tm.subst,Tm.substL]
 ·simp [Tm.subst,Tm.substL]
 ·subst h;simp [Tm.subst,Tm.substL]
 ·subst h;rcases ho with rfl | rfl<;>simp [Tm.subst,Tm.substL]
theorem Jp {p:Tm} {k:Nat} (h:F1 p) (hs:p.sc k) (hk:k<=1000) {d c:Nat} (hd:d<=1000) (hc:c<=1000):F1 (p.shift d c):=by
 rcases h with h | ⟨op,x,y,ho,hx,hy,rfl⟩ | ⟨p,hp,rfl⟩
 ·rw [Ft h];exact .inl h
 ·refine .inr (.inl ⟨op,x,y,ho,hx,hy,?_⟩);rw [Tm.shift,if_neg (by omega)];simp only [Tm.shiftL,Ft hx,Ft hy]
 ·refine .inr (.inr ⟨p.shift d c,?_,?_⟩)
  ·rcases hp with rfl | ⟨i,rfl⟩
   ·left;simp [Tm.shift,Tm.shiftL]
   ·right;rw [Tm.sc,if_neg (by decide)] at hs;have h2:=hs.2.2.1;rw [Tm.sc,if_pos rfl] at h2;have h3:=h2.2.1;rw [Tm.shift,Tm.shiftL];by_cases hc:(c:Int)<=(i:Int)
    ·refine ⟨i+d,?_⟩;rw [if_pos ⟨rfl,hc⟩,Az (by omega) (by simp only [show Al 18 0=0 from rfl] at h3;omega)]
     rfl
    ·exact ⟨i,by rw [if_neg (fun h=>hc h.2)]⟩
  ·simp [Tm.shift,Tm.shiftL,Al]
theorem sY {c:Tm} (h:F1 c) (u:Tm):FT (c.subst 0 0 u)/\(c.subst 0 0 u).wt<=max 9 (1+u.wt)/\(c.subst 0 0 u).dp<=9+u.dp:=by
 rcases h with h | ⟨op,x,y,ho,hx,hy,rfl⟩ | ⟨p,hp,rfl⟩
 ·rw [Kz h]
  have:=Mx h
  have:=Dz c
  exact ⟨.inl (.inl h),by omega,by omega⟩
 ·have e:(Tm.mk op 0 [x,y]).subst 0 0 u=.mk op 0 [x,y]:=by
   rw [Tm.subst,if_neg (by omega)];simp only [Tm.substL,Kz hx,Kz hy]
  have:=Fm (t:=.mk op 0 [x,y]) (.inr (.inl ⟨op,x,y,ho,hx,hy,rfl⟩))
  have:=Dz (.mk op 0 [x,y])
  rw [e];exact ⟨.inl (.inr (.inl ⟨op,x,y,ho,hx,hy,rfl⟩)),by omega,by omega⟩
 ·have e:(Tm.mk 18 0 [p]).subst 0 0 u=.mk 18 0 [p.subst 0 0 u]:=by
   rw [Tm.subst,if_neg (by decide)];rfl
  rw [e];refine ⟨UH,?_,?_⟩
  ·rw [Ll];have q:=Jn p u 0 0;have q2:p.wt=1:=by rcases hp with rfl | ⟨i,rfl⟩<;>simp [Tm.wt,Tm.wtL]
   rw [q2,Nat.one_mul] at q;omega
  ·rw [gB]
   have:=Ng p u 0 0
   have:p.dp<=1:=by rcases hp with rfl | ⟨i,rfl⟩<;>simp [Tm.dp,Tm.dpL]
   omega
theorem oL {e:Nat} {g:A8} {a t:Tm} (h:Gr 0 e g a t) (he:e<=7):FT t:=by
 by_cases h6:e<6
 ·exact .inl (.inl (t_5 h6 h))
 cases h with
 | tnat=>exact Sw
 | tty=>exact Rf
 | tu=>exact .inl (.inl (.inr (.inr (.inl rfl))))
 | tlp _ _ _ r=>exact UH
 | tpi _ _ _ x y op ho h6 hgl hx h1 h2 =>
  have f1:∀{g:A8} {a t:Tm},Gr 0 (e - 1) g a t->F1 t:=by
   intro g a t h;by_cases h5:e - 1<6
   ·exact .inl (t_5 h5 h)
   ·exact sK (by rwa [show e - 1=6 by omega] at h)
  exact .inr (.inl ⟨op,x,y,ho,f1 h1,f1 h2,rfl⟩)
 | tlift _ _ _ t h6 h1=>exact UH
def psu {k:Nat} {t u:Tm} (h:t.sc (k+1)) (hw:t.wt<=400000000) (hu:u.sc k) (huw:u.wt<=400000000) (hk:k<=150000000):pSu t u (t.subst 0 0 u):=by
 refine ⟨t.wt+u.wt+20,fun n hn=>?_⟩
 have:=dR (n:=n) (t:=t) (u:=u) (v:=0) (K:=k+1) (by omega) (C5 t _ h) (by omega) h (C5 u _ hu) (by omega) (UA u (by omega) hu) (by omega)
 rwa [IT 0 u hu (by omega) t (k+1) 0 h (by omega) (by omega) (by omega)] at this
def psh {k:Nat} {t:Tm} {d c:Int} (h:t.sc k) (hw:t.wt<=400000000) (hk:k<=100000) (hd:0<=d) (hd2:d<=100000) (hc:0<=c) (hc2:c<=100000):pSh t d c (t.shift d c):=by
 refine ⟨t.wt+20,fun n hn=>?_⟩
 have:=RX (n:=n) (t:=t) (d:=d) (c:=c) (K:=k) (by omega) (C5 t _ h) (by omega) h (by omega) (by omega) (by omega)
 rwa [IQ d c t k 0 h (by omega) (by omega) (by omega),show c+0=c by omega] at this
def pfr {k:Nat} {t:Tm} (h:t.sc k) (hw:t.wt<=400000000) (hk:k<=150000000):pF t (t.free 0):=by
 refine ⟨t.wt+20,fun n hn=>?_⟩
 have:=WI (n:=n) (t:=t) (v:=0) (K:=k) (by omega) (by omega) h (by omega)
 rwa [Ke 0 (by omega) t 0 (by omega)] at this
def Ml {k:Nat} {t u Y:Tm} (h:t.sc (k+1)) (hw:t.wt<=400000000) (hu:u.sc k) (huw:u.wt<=400000000) (hk:k<=1000) (hN:PN (t.subst 0 0 u) Y):Ue t u Y:=Aa3 (psu h hw hu huw (by omega)) hN
def kJ {a A:Tm} (h0:PN a A) (h1:PE A):Ev 117 [.fv a.enc] (TU A 0):=by obtain ⟨N0,h0⟩:=h0;obtain ⟨N1,h1⟩:=h1;refine ⟨N0+N1+200,fun n hn=>?_⟩;obtain ⟨n,rfl⟩:=psc n (by omega);have h0:=h0 n (by omega);have h1:=h1 n (by omega);rw [Acr];obtain ⟨o1,n1,k1⟩:=a;obtain ⟨o2,n2,k2⟩:=A;simp only [An,TU,Tm.op,Tm.n,Tm.kids] at h0 h1 ⊢;simp only [uM,↓XX,XY,↓reduceIte,seval,↓Ar h0,↓Ar h1];exact Ay _ _
def Acm {a A:Tm} (h0:PN a A) (h1:PN A A) (h2:PE A) (hw:A.wt<=3001):gE A a:=by refine k_e ?_;obtain ⟨N0,q0⟩:=kJ h0 h2;obtain ⟨N1,q1⟩:=kJ h1 h2;refine ⟨N0+N1+20000,fun n hn=>?_⟩;obtain ⟨n,rfl⟩:=psc n (by omega);have q0:=q0 n (by omega);have q1:=q1 n (by omega);have c:=R8 (n:=n) A A 0 0 (by omega) (by omega);rw [(J3 A A).2 rfl] at c;rw [c89];obtain ⟨o1,n1,k1⟩:=a;obtain ⟨o2,n2,k2⟩:=A;simp only [An,TU,Tm.op,Tm.n,Tm.kids] at q0 q1 c ⊢;simp only [TD,S89,↓XX,XY,↓reduceIte,seval,↓Ar q0,↓Ar q1,↓QU,↓Ag c];exact A6 rfl
def k_v {g:A8} {st:Int} {i:Nat} {T s A:Tm} (hi:i<g.length) (hl:g.length<=100000) (hg:g[g.length - 1 - i]?=some (st,T)) (h0:pSh T ((i:Int)+1) 0 s) (h1:PN s A):KI g st (.mk 1 (i:Int) []) A:=by
 have hv:Ev 83 [.fv (AM g),iv st,iv i] (.tuple [A.enc,.int .i64 0]):=by
  obtain ⟨N0,h0⟩:=h0;obtain ⟨N1,h1⟩:=h1;refine ⟨N0+N1+200,fun n hn=>?_⟩;obtain ⟨n,rfl⟩:=psc n (by omega);have hs:=h0 n (by omega);have hN:=h1 n (by omega);rw [c83];have hget:(g.map v1)[g.length - 1 - i]?=some (v1 (st,T)):=by rw [List.getElem?_map,hg];rfl
  have hix:=fun {β:Type}=>Br (β:=β) (size:=4) hget rfl;have hlen:(g.map v1).length=g.length:=List.length_map _;have w1:BF ((g.length:Int) - 1)=(g.length:Int) - 1:=by rw [Az]<;>omega
  have w2:BF ((g.length:Int) - 1 - i)=((g.length - 1 - i:Nat):Int):=by rw [Az (by omega) (by omega)];omega
  have wi:BF ((i:Int)+1)=(i:Int)+1:=by rw [Az]<;>omega
  have hno:¬ ((g.length:Int)<=i):=by omega
  obtain ⟨oT,nT,kT⟩:=T;obtain ⟨os,ns,ks⟩:=s;obtain ⟨oR,nR,kR⟩:=A;simp only [AM,An,Ah4,v1,Tm.op,Tm.n,Tm.kids] at hix hs hN ⊢;simp only [S83,↓XX,XY,↓reduceIte,seval,hlen,hno,w1,w2,wi,↓hix,FV.cells,↓Av hs,↓Ar hN];exact A6 rfl
 obtain ⟨N0,h0⟩:=hv;refine ⟨N0+200,fun n hn=>?_⟩;obtain ⟨n,rfl⟩:=psc n (by omega);have h0:=h0 n (by omega);rw [c58];obtain ⟨oA,pA,kA⟩:=A;simp only [An,Ah4] at h0 ⊢;simp only [S58,↓XX,XY,↓reduceIte,seval,↓Av h0];exact A6 rfl
def yT {g:A8} {st:Int} {t a A:Tm} (a1:KI g st t A) (a2:PN a A) (a3:PN A A) (a4:PE A) (a5:A.wt<=3001):KC g st t a:=k_c a1 (Acm a2 a3 a4 a5)
def AdD {g:A8} {t:Tm} {m:Int} (a1:KI g 1 t (.mk 2 m [])):KL g t m:=k_l a1
def wJ {g:A8} {st:Int} {i:Nat} {T A:Tm} (a1:T.sc (g.length - 1 - i)) (a2:T.wt<=400000000) (a3:i<g.length) (a4:g.length<=1000) (a5:g[g.length - 1 - i]?=some (st,T)) (a6:PN (T.shift ((i+1:Nat):Int) 0) A):KI g st (.mk 1 i []) A:=k_v a3 (by omega) a5 (by rw [show (i:Int)+1=((i+1:Nat):Int) by omega];exact psh a1 a2 (by omega) (by omega) (by omega) (by omega) (by omega)) a6
def rK {g:A8} {m:Int} (a1:0<=m/\m<=1):KI g 1 (.mk 2 m []) (.mk 2 (m+1) []):=G7 (by decide) (Aft a1)
def u9 {g:A8} {m:Int}:KI g 1 (.mk 10 m []) (.mk 2 0 []):=G7 (by decide) (OY (by decide) AdB)
def Aat {g:A8} {m:Int}:KI g 1 (.mk 14 m []) (.mk 2 0 []):=G7 (by decide) (OY (by decide) Aew)
def lG {g:A8} {m:Int}:KI g 1 (.mk 11 m []) natT:=G7 (by decide) (OY (by decide) Ac3)
def sI {g:A8} {a:Tm} {m:Int} (a1:KC g 1 a natT):KI g 1 (.mk 12 m [a]) natT:=G7 (by decide) (OY (by decide) (Acz (yZ a1)))
def j9 {g:A8} {m:Int}:KI g 1 (.mk 15 m []) tyT:=G7 (by decide) (OY (by decide) (AcE Adh))
def jB {g:A8} {a b:Tm} {op m:Int} (a1:op=16\/op=17) (a2:KC g 1 a tyT) (a3:KC g 1 b tyT):KI g 1 (.mk op m [a,b]) tyT:=by
 rcases a1 with rfl | rfl
 ·exact G7 (by decide) (OY (by decide) (Aea (sB a2 a3)))
 ·exact G7 (by decide) (OY (by decide) (Adk (sB a2 a3)))
def lX {g:A8} {a:Tm} {m:Int} (a1:KC g 1 a tyT):KI g 1 (.mk 18 m [a]) (.mk 2 0 []):=G7 (by decide) (OY (by decide) (AcZ (yZ a1)))
def qF {g:A8} {a A:Tm} {m:Int} (a1:KI g 0 a A):KI g 1 (.mk 19 m [a]) (.mk 18 0 [A]):=G7 (by decide) (OY (by decide) (Adq a1))
def Aae {g:A8} {a b:Tm} {op m i j:Int} (a0:g.length<=1000) (a1:op=3\/op=6) (a2:KL g a i) (a3:KL (g++[(1,a)]) b j):KI g 1 (.mk op m [a,b]) (.mk 2 (if i<j then j else i) []):=by
 rcases a1 with rfl | rfl
 ·exact G7 (by decide) (AdM (Aa8 a2 (vS g 1 a (by omega)) a3))
 ·exact G7 (by decide) (AdL (Aa8 a2 (vS g 1 a (by omega)) a3))
def rA {g:A8} {a b B C:Tm} {m i:Int} (a0:g.length<=1000) (a1:KL g a i) (a2:KI (g++[(1,a)]) 1 b B) (a3:PN (.mk 3 0 [a,B]) C):KI g 1 (.mk 4 m [a,b]) C:=G7 (by decide) (AcA (Ad2 a1 (vS g 1 a (by omega)) a2 a3))
def wM {g:A8} {f x A B Y:Tm} {m q:Int} {k:Nat} (a1:x.sc k) (a2:x.wt<=400000000) (a3:B.sc (k+1)) (a4:B.wt<=400000000) (a5:k<=1000) (a6:KI g 1 f (.mk 3 q [A,B])) (a7:KC g 1 x A) (a8:PN (B.subst 0 0 x) Y):KI g 1 (.mk 5 m [f,x]) Y:=G7 (by decide) (Aet (AdE (yQ a6 rfl) a7 (Ml a3 a4 a1 a2 a5 a8) TR))
def tU {g:A8} {x A B:Tm} {m q:Int} (a1:KI g 1 x (.mk 6 q [A,B])):KI g 1 (.mk 8 m [x]) A:=G7 (by decide) (Adi (AeG (yQ a1 rfl)))
def lD {g:A8} {S x y A B Y:Tm} {m q i:Int} {k:Nat} (a1:x.sc k) (a2:x.wt<=400000000) (a3:B.sc (k+1)) (a4:B.wt<=400000000) (a5:k<=1000) (b1:KL g S i) (b2:PN S (.mk 6 q [A,B])) (b3:KC g 1 x A) (b4:PN (B.subst 0 0 x) Y) (b5:KC g 1 y Y):KI g 1 (.mk 7 m [S,x,y]) (.mk 6 q [A,B]):=G7 (by decide) (Acl (Afh b1 b2 b3 (Ml a3 a4 a1 a2 a5 b4) b5))
def vF {g:A8} {X z s k:Tm} {m i:Int} {l:Nat} (a1:g.length<=900) (a2:k.sc l) (a3:l<=1000) (a4:k.wt<=400000000) (b1:X=natT\/X=tyT) (b2:KL (g++[(1,natT)]) X i) (b3:PN X X) (b4:KC g 1 z X) (b5:KC (g++[(1,natT)]++[(1,X)]) 1 s X) (b6:KC g 1 k natT):KI g 1 (.mk 13 m [X,z,s,k]) X:=by
 have xsc:∀k,X.sc k:=by intro k;rcases b1 with rfl | rfl<;>exact C3
 have xsu:∀u:Tm,X.subst 0 0 u=X:=by intro u;rcases b1 with rfl | rfl<;>rfl
 have xsh:∀c:Int,X.shift 2 c=X:=by intro c;rcases b1 with rfl | rfl<;>rfl
 have xw:X.wt<=10:=by rcases b1 with rfl | rfl<;>simp [natT,tyT,Tm.wt,Tm.wtL]
 have zsc:(Tm.mk 11 0 []).sc 0:=C3;have v1sc:(Tm.mk 12 0 [.mk 1 1 []]).sc 2:=FO (by rw [Tm.sc,if_pos rfl];exact ⟨rfl,by decide,trivial⟩);have p1:=Ml (t:=X) (u:=.mk 11 0 []) (xsc 1) (by omega) zsc (by decide) (by omega) (by rw [xsu];exact b3);have p2:=Ml (t:=X) (u:=.mk 12 0 [.mk 1 1 []]) (xsc 3) (by omega) v1sc (by decide) (by omega) (by rw [xsu];exact b3);have p3:=Ml (t:=X) (xsc (l+1)) (by omega) a2 a4 a3 (by rw [xsu];exact b3);have sh:=psh (d:=2) (c:=1) (xsc 0) (by omega) (by omega) (by omega) (by omega) (by omega) (by omega);rw [xsh] at sh;exact G7 (by decide) (Abt (Ad1 (vS g 1 natT (by omega)) b2 p1 b4 sh p2 (vS _ 1 X (by simp;omega)) b5 b6 p3))
def gG {g:A8} {m:Int}:KI g 0 (.mk 25 m []) Ek:=Nn (by decide) y7
def bN {g:A8} {a b:Tm} {m:Int} (a1:KC g 0 a Ek) (a2:KC g 0 b Ek):KI g 0 (.mk 26 m [a,b]) Ek:=Nn (by decide) (Abg (sB a1 a2))
def zJ {g:A8} {a b B:Tm} {k:Nat} (a0:g.length<=1000) (a1:B.sc k) (a2:k+2 * B.wt<=100000000) (a3:KI (g++[(0,a)]) 0 b (B.shift 1 0)):KU g a b B:=by have zsc:(Tm.mk 11 0 []).sc k:=C3;have hsc:(B.shift 1 0).sc (k+1):=CG B 1 0 _ a1 (by omega);have hs:=psu hsc (by rw [Bl];omega) zsc (by decide) (by omega);rw [MV B (.mk 11 0 []) 0 0 _ a1 (by omega) (by omega)] at hs;have hf:=pfr hsc (by rw [Bl];omega) (by omega);rw [O1 B 0 _ a1 (by omega) (by omega)] at hf;exact AdZ (vS g 0 a (by omega)) a3 hf hs
def gX {g:A8} {a b B C:Tm} {m:Int} (a1:KC g 1 a tyT) (a2:KU g a b B) (a3:PN (.mk 16 0 [a,B]) C):KI g 0 (.mk 20 m [a,b]) C:=Nn (by decide) (z9 (Aeh a1 a2 a3))
def i7 {g:A8} {a b A:Tm} {m:Int} {k:Nat} (a0:g.length<=1000) (a1:a.sc k) (a2:k<=1000) (a3:a.wt<=400000000) (a4:KC g 1 a tyT) (a5:KC (g++[(0,a)]) 0 b (a.shift 1 0)) (a6:PN a A):KI g 0 (.mk 29 m [a,b]) A:=Nn (by decide) (Aay (Adm a4 (vS g 0 a (by omega)) (psh a1 a3 (by omega) (by omega) (by omega) (by omega) (by omega)) a5 a6))
def jN {g:A8} {x y A B:Tm} {m:Int} (a1:KI g 0 x A) (a2:KU g A y B):KI g 0 (.mk 28 m [x,y]) B:=Nn (by decide) (AaK a1 a2)
def qR {g:A8} {x A:Tm} {m q:Int} (a1:KI g 1 x (.mk 18 q [A])):KI g 0 (.mk 30 m [x]) A:=Nn (by decide) (zX (yQ a1 rfl) AaN)
def jO {g:A8} {f x A B:Tm} {m q:Int} (a1:KI g 0 f (.mk 16 q [A,B])) (a2:KC g 0 x A):KI g 0 (.mk 21 m [f,x]) B:=Nn (by decide) (Aaq (yQ a1 rfl) TR a2 wT)
def aP {g:A8} {x y A B C:Tm} {m:Int} (a1:KI g 0 x A) (a2:KI g 0 y B) (a3:PN (.mk 17 0 [A,B]) C):KI g 0 (.mk 22 m [x,y]) C:=Nn (by decide) (Aah (Afb a1 a2 a3))
def iG {g:A8} {x A B:Tm} {m q:Int} (a1:KI g 0 x (.mk 17 q [A,B])):KI g 0 (.mk 23 m [x]) A:=Nn (by decide) (zL (yQ a1 rfl) TR)
def rS {g:A8} {c x y A:Tm} {m:Int} (a1:KC g 0 c Ek) (a2:KI g 0 x A) (a3:KC g 0 y A):KI g 0 (.mk 27 m [c,x,y]) A:=Nn (by decide) (Aa0 (AdT a1 a2 a3))
def Nk (e:Int):Prop:=e=5\/e=17
def AW {e:Int} (h:Nk e):e≠0:=by unfold Nk at h;omega
structure NX (k:Nat) (X Y:Tm):Prop where
 sc:X.sc k
 dp:X.dp<=20000
 nf:∀f u,AE f X=some (u,0)->u=Y/\PN X Y
structure TX (k:Nat) (A:Tm):Prop where
 n:NX k A A
 e:PE A
 w:A.wt<=3001
def QI (g:A8) (st:Int) (t A:Tm):Prop:=∃r e,JI (AM g) st t r e/\(Nk e\/e=0/\r=A/\KI g st t A)
def QC (g:A8) (st:Int) (t a:Tm):Prop:=∃e,JC (AM g) st t a e/\(Nk e\/e=0/\KC g st t a)
def QL (g:A8) (t:Tm) (m:Int):Prop:=∃m' e,JL (AM g) t m' e/\(Nk e\/e=0/\m'=m/\KL g t m)
def Sj {k:Nat} {X Y:Tm} (hk:k<=1000) (h:NX k X Y):∃u e,JN X u e/\(Nk e\/e=0/\u=Y/\PN X Y/\NOk k Y):=by
 obtain ⟨u,e,h1,h2,f,h3⟩:=jn hk h.sc h.dp;refine ⟨u,e,h1,?_⟩;rcases h2 with ⟨rfl,h4⟩ | ⟨h4,_⟩
 ·obtain ⟨rfl,h5⟩:=h.nf f u h3;exact .inr ⟨rfl,rfl,h5,h4⟩
 ·exact .inl h4
def zV {k:Nat} {a A:Tm} (hk:k<=1000) (ha:NX k a A) (hA:NX k A A):∃w e,JE A a w e/\(Nk e\/e=0/\w=true/\PN a A/\PN A A):=by
 obtain ⟨w,e,h3,h4⟩:=je hk hA.sc ha.sc hA.dp ha.dp;refine ⟨w,e,h3,?_⟩;rcases h4 with h4 | ⟨h4,f,x,f',y,hx,hy,_,_,hw⟩
 ·exact .inl h4
 ·obtain ⟨rfl,p1⟩:=hA.nf f x hx;obtain ⟨rfl,p2⟩:=ha.nf f' y hy;exact .inr ⟨h4,by rw [hw];exact (J3 _ _).2 rfl,p2,p1⟩
def q_c {g:A8} {st:Int} {t A a:Tm} (hk:g.length<=1000) (h:QI g st t A) (ha:NX g.length a A) (hA:TX g.length A):QC g st t a:=by
 obtain ⟨r,e,h3,h4⟩:=h;rcases h4 with h4 | ⟨rfl,rfl,h4⟩
 ·exact ⟨e,TF (AW h4) h3,.inl h4⟩
 ·obtain ⟨w,e,h6,h7⟩:=zV hk ha hA.n;rcases h7 with h7 | ⟨rfl,rfl,p1,p2⟩
  ·exact ⟨e,nC (AW h7) h3 h6,.inl h7⟩
  ·exact ⟨0,j4 h3 h6,.inr ⟨rfl,yT h4 p1 p2 hA.e hA.w⟩⟩
def Dp {g:A8} {st:Int} {t A:Tm} (hk:g.length<=1000) (h:QI g st t A) (hA:TX g.length A):QC g st t A:=q_c hk h hA.n hA
def YT {g:A8} {t:Tm} {m:Int} (h:QI g 1 t (.mk 2 m [])):QL g t m:=by
 obtain ⟨r,e,h1,h2⟩:=h;rcases h2 with h2 | ⟨rfl,rfl,h2⟩
 ·exact ⟨0,e,AeI (AW h2) h1,.inl h2⟩
 ·exact ⟨m,0,Adx rfl h1,.inr ⟨rfl,rfl,AdD h2⟩⟩
def q_2 {g:A8} {st:Int} {a x y:Tm} (h1:QC g st x a) (h2:QC g st y a):∃e,YQ (AM g) st [x,y] a e/\(Nk e\/e=0/\KC g st x a/\KC g st y a):=by
 obtain ⟨e,h1,c1⟩:=h1;obtain ⟨e',h2,c2⟩:=h2;rcases c1 with c1 | ⟨rfl,c1⟩
 ·exact ⟨e,wZ (AW c1) h1,.inl c1⟩
 ·rcases c2 with c2 | ⟨rfl,c2⟩
  ·exact ⟨e',qA (AW c2) h1 h2,.inl c2⟩
  ·exact ⟨0,Abm h1 h2,.inr ⟨rfl,c1,c2⟩⟩
def nZ (g:A8) {m:Int} (h:0<=m/\m<=1):QI g 1 (.mk 2 m []) (.mk 2 (m+1) []):=⟨_,0,Ad5 (by omega) (by omega) (by omega),.inr ⟨rfl,rfl,rK h⟩⟩
def XC (g:A8) (m:Int):QI g 1 (.mk 10 m []) (.mk 2 0 []):=⟨_,0,uB,.inr ⟨rfl,rfl,u9⟩⟩
def jU (g:A8) (m:Int):QI g 1 (.mk 14 m []) (.mk 2 0 []):=⟨_,0,Abd,.inr ⟨rfl,rfl,Aat⟩⟩
def SG (g:A8) (m:Int):QI g 1 (.mk 11 m []) natT:=⟨_,0,kK,.inr ⟨rfl,rfl,lG⟩⟩
def ZY (g:A8) (m:Int):QI g 0 (.mk 25 m []) Ek:=⟨_,0,Ga (by omega) tV,.inr ⟨rfl,rfl,gG⟩⟩
def Ug (g:A8) (m:Int):QI g 1 (.mk 15 m []) tyT:=⟨_,0,lC (oE (by simp) (by simp)),.inr ⟨rfl,rfl,j9⟩⟩
def Z6 {g:A8} {a:Tm} (m:Int) (h:QC g 1 a natT):QI g 1 (.mk 12 m [a]) natT:=by
 obtain ⟨e,h1,h2⟩:=h;rcases h2 with h2 | ⟨rfl,h2⟩
 ·exact ⟨_,e,aN (AW h2) h1,.inl h2⟩
 ·exact ⟨_,0,rN h1,.inr ⟨rfl,rfl,sI h2⟩⟩
def O5 {g:A8} {a:Tm} (m:Int) (h:QC g 1 a tyT):QI g 1 (.mk 18 m [a]) (.mk 2 0 []):=by
 obtain ⟨e,h1,h2⟩:=h;rcases h2 with h2 | ⟨rfl,h2⟩
 ·exact ⟨_,e,XQ (AW h2) h1,.inl h2⟩
 ·exact ⟨_,0,mR h1,.inr ⟨rfl,rfl,lX h2⟩⟩
def SP {g:A8} {a b:Tm} {op:Int} (m:Int) (ho:op=16\/op=17) (h:QC g 1 a tyT) (h':QC g 1 b tyT):QI g 1 (.mk op m [a,b]) tyT:=by
 obtain ⟨e,h1,h2⟩:=q_2 h h';rcases h2 with h2 | ⟨rfl,h2,h3⟩
 ·refine ⟨.z,e,?_,.inl h2⟩;rcases ho with rfl | rfl
  ·exact X6 (AW h2) h1
  ·exact YI (AW h2) h1
 ·refine ⟨_,0,?_,.inr ⟨rfl,rfl,jB ho h2 h3⟩⟩;rcases ho with rfl | rfl
  ·exact l8 h1
  ·exact j8 h1
def Abb {g:A8} {a A:Tm} (m:Int) (h:QI g 0 a A):QI g 1 (.mk 19 m [a]) (.mk 18 0 [A]):=by
 obtain ⟨r,e,h1,h2⟩:=h;rcases h2 with h2 | ⟨rfl,rfl,h2⟩
 ·exact ⟨_,e,cG (AW h2) h1,.inl h2⟩
 ·exact ⟨_,0,vI h1,.inr ⟨rfl,rfl,qF h2⟩⟩
def Y7 {g:A8} {a b:Tm} {op i j:Int} (m:Int) (ho:op=3\/op=6) (hk:g.length<=1000) (h1:QL g a i) (h2:QL (g++[(1,a)]) b j):QI g 1 (.mk op m [a,b]) (.mk 2 (if i<j then j else i) []):=by
 obtain ⟨i',e,h1,c1⟩:=h1;obtain ⟨j',e',h2,c2⟩:=h2;have hb:=jb g 1 a (by omega);rcases c1 with c1 | ⟨rfl,rfl,c1⟩
 ·refine ⟨.z,e,?_,.inl c1⟩;rcases ho with rfl | rfl
  ·exact Cw (by omega) (jM (AW c1) h1)
  ·exact Cw (by omega) (dJ (AW c1) h1)
 ·rcases c2 with c2 | ⟨rfl,rfl,c2⟩
  ·refine ⟨.z,e',?_,.inl c2⟩;rcases ho with rfl | rfl
   ·exact Cw (by omega) (mB (AW c2) h1 hb h2)
   ·exact Cw (by omega) (Z3 (AW c2) h1 hb h2)
  ·refine ⟨_,0,?_,.inr ⟨rfl,rfl,Aae hk ho c1 c2⟩⟩;rcases ho with rfl | rfl
   ·exact Cw (by omega) (zG h1 hb h2)
   ·exact Cw (by omega) (pS h1 hb h2)
def pB {g:A8} {a b B C:Tm} {i:Int} (m:Int) (hk:g.length<=1000) (h1:QL g a i) (h2:QI (g++[(1,a)]) 1 b B) (h3:NX g.length (.mk 3 0 [a,B]) C):QI g 1 (.mk 4 m [a,b]) C:=by
 obtain ⟨i',e,h1,c1⟩:=h1;obtain ⟨c,e',h2,c2⟩:=h2;have hb:=jb g 1 a (by omega);rcases c1 with c1 | ⟨rfl,rfl,c1⟩
 ·exact ⟨_,e,Cw (by omega) (eU (AW c1) h1),.inl c1⟩
 ·rcases c2 with c2 | ⟨rfl,rfl,c2⟩
  ·exact ⟨_,e',Cw (by omega) (dL (AW c2) h1 hb h2),.inl c2⟩
  ·obtain ⟨u,e,h3,h4⟩:=Sj hk h3;refine ⟨u,e,Cw (by omega) (pU h1 hb h2 h3),?_⟩;rcases h4 with h4 | ⟨rfl,rfl,h4,_⟩
   ·exact .inl h4
   ·exact .inr ⟨rfl,rfl,rA hk c1 c2 h4⟩
def Aaw {g:A8} {f x A B Y:Tm} {q:Int} (m:Int) (hk:g.length<=1000) (xsc:x.sc g.length) (xwt:x.wt<=400000000) (Bsc:B.sc (g.length+1)) (Bwt:B.wt<=400000000) (h1:QI g 1 f (.mk 3 q [A,B])) (h2:QC g 1 x A) (h3:NX g.length (B.subst 0 0 x) Y):QI g 1 (.mk 5 m [f,x]) Y:=by
 obtain ⟨r,e,h1,c1⟩:=h1;rcases c1 with c1 | ⟨rfl,rfl,c1⟩
 ·exact ⟨_,e,Cw (by omega) (cH (AW c1) (bR (AW c1) h1)),.inl c1⟩
 ·have hs:=ZQ (op:=3) rfl h1;obtain ⟨e,h4,c4⟩:=h2;rcases c4 with c4 | ⟨rfl,c4⟩
  ·exact ⟨_,e,Cw (by omega) (ZP (AW c4) hs h4),.inl c4⟩
  ·have h5:=xK Bsc (by omega) xsc (by omega);obtain ⟨u,e,h6,c6⟩:=Sj hk h3;refine ⟨u,e,Cw (by omega) (tF hs h4 h5 h6),?_⟩;rcases c6 with c6 | ⟨rfl,rfl,c6,_⟩
   ·exact .inl c6
   ·exact .inr ⟨rfl,rfl,wM xsc xwt Bsc Bwt hk c1 c4 c6⟩
def yV {g:A8} {x A B:Tm} {q:Int} (m:Int) (h1:QI g 1 x (.mk 6 q [A,B])):QI g 1 (.mk 8 m [x]) A:=by
 obtain ⟨r,e,h1,c1⟩:=h1;rcases c1 with c1 | ⟨rfl,rfl,c1⟩
 ·exact ⟨_,e,Cw (by omega) (bL (AW c1) (bR (AW c1) h1)),.inl c1⟩
 ·exact ⟨_,0,Cw (by omega) (xG (ZQ (op:=6) rfl h1)),.inr ⟨rfl,rfl,tU c1⟩⟩
def bP {g:A8} {A B x y Y:Tm} {q i:Int} (m:Int) (hk:g.length<=1000) (hS:NX g.length (.mk 6 q [A,B]) (.mk 6 q [A,B])) (Bsc:B.sc (g.length+1)) (Bwt:B.wt<=400000000) (xsc:x.sc g.length) (xwt:x.wt<=400000000)
  (h0:QL g (.mk 6 q [A,B]) i) (h1:QC g 1 x A) (h2:QI g 1 y Y) (hY:TX g.length Y) (h3:NX g.length (B.subst 0 0 x) Y):QI g 1 (.mk 7 m [.mk 6 q [A,B],x,y]) (.mk 6 q [A,B]):=by
 have M:∀{r e},qZ (AM g) (.mk 7 m [.mk 6 q [A,B],x,y]) r e->JI (AM g) 1 (.mk 7 m [.mk 6 q [A,B],x,y]) r e:=fun h=>Cw (by omega) (mM h);obtain ⟨i',e,h0,c0⟩:=h0;rcases c0 with c0 | ⟨rfl,rfl,c0⟩
 ·exact ⟨_,e,M (AeP (AW c0) h0),.inl c0⟩
 ·obtain ⟨s,e,hs,c3⟩:=Sj hk hS;rcases c3 with c3 | ⟨rfl,rfl,c3,_⟩
  ·exact ⟨_,e,M (Acp (AW c3) h0 hs),.inl c3⟩
  ·obtain ⟨e,h5,c5⟩:=h1;rcases c5 with c5 | ⟨rfl,c5⟩
   ·exact ⟨_,e,M (Adp (AW c5) h0 hs h5),.inl c5⟩
   ·have h6:=xK Bsc (by omega) xsc (by omega);obtain ⟨r,e,h8,c8⟩:=h2;rcases c8 with c8 | ⟨rfl,rfl,c8⟩
    ·exact ⟨_,e,M (y3 (AW c8) h0 hs h5 h6 (TF (AW c8) h8)),.inl c8⟩
    obtain ⟨w,e,h9,c9⟩:=zV hk h3 hY.n;rcases c9 with c9 | ⟨rfl,rfl,p1,p2⟩
    ·exact ⟨_,e,M (y3 (AW c9) h0 hs h5 h6 (nC (AW c9) h8 h9)),.inl c9⟩
    ·exact ⟨_,0,M (kq h0 hs h5 h6 (j4 h8 h9)),.inr ⟨rfl,rfl,lD xsc xwt Bsc Bwt hk c0 c3 c5 p1 (yT c8 p2 p2 hY.e hY.w)⟩⟩
def eD {g:A8} {X z s k:Tm} (m:Int) (hX:X=natT\/X=tyT) (hk:g.length<=900) (hN:NX g.length X X) (ksc:k.sc g.length) (kwt:k.wt<=400000000) (h1:QC g 1 z X) (h2:QC (g++[(1,natT)]++[(1,X)]) 1 s X) (h3:QC g 1 k natT):QI g 1 (.mk 13 m [X,z,s,k]) X:=by
 have M:∀{r e},JR (AM g) (.mk 13 m [X,z,s,k]) r e->JI (AM g) 1 (.mk 13 m [X,z,s,k]) r e:=fun h=>Cw (by omega) (rI h);have xsc:∀k,X.sc k:=by intro k;rcases hX with rfl | rfl<;>exact C3
 have xsu:∀u:Tm,X.subst 0 0 u=X:=by intro u;rcases hX with rfl | rfl<;>rfl
 have xsh:∀c:Int,X.shift 2 c=X:=by intro c;rcases hX with rfl | rfl<;>rfl
 have xw:X.wt<=10:=by rcases hX with rfl | rfl<;>simp [natT,tyT,Tm.wt,Tm.wtL]
 have zsc:SK.sc 0:=C3;have v1sc:(Tm.mk 12 0 [.mk 1 1 []]).sc 2:=FO (by rw [Tm.sc,if_pos rfl];exact ⟨rfl,by decide,trivial⟩);have b1:=jb g 1 natT (by omega);have b2:=jb (g++[(1,natT)]) 1 X (by simp;omega);have su0:Ym X SK X:=by have:=xK (u:=SK) (xsc 0) (by omega) zsc (by decide);rwa [xsu] at this
 have nx:z4 X X:=by have a1:=jsh 2 1 (xsc 0) (by omega) (by omega) (by omega);rw [xsh] at a1;have a2:=xK (xsc 0) (by omega) v1sc (by decide);rw [xsu] at a2;exact kx a1 a2
 have suk:Ym X k X:=by have:=xK (xsc 0) (by omega) ksc (by omega);rwa [xsu] at this
 obtain ⟨i,e,l1,c1⟩:QL (g++[(1,natT)]) X 0:=by
  rcases hX with rfl | rfl
  ·exact YT (XC _ _)
  ·exact YT (jU _ _)
 rcases c1 with c1 | ⟨rfl,rfl,c1⟩
 ·exact ⟨_,e,M (AeH (AW c1) b1 l1),.inl c1⟩
 obtain ⟨e,d1,c2⟩:=h1;rcases c2 with c2 | ⟨rfl,c2⟩
 ·exact ⟨_,e,M (Ac2 (AW c2) b1 l1 su0 d1),.inl c2⟩
 obtain ⟨e,d2,c3⟩:=h2;rcases c3 with c3 | ⟨rfl,c3⟩
 ·exact ⟨_,e,M (Adw (AW c3) b1 l1 su0 d1 b2 nx d2),.inl c3⟩
 obtain ⟨e,d3,c4⟩:=h3;rcases c4 with c4 | ⟨rfl,c4⟩
 ·exact ⟨_,e,M (Adf (AW c4) b1 l1 su0 d1 b2 nx d2 d3),.inl c4⟩
 obtain ⟨u,e,h6,c6⟩:=Sj (k:=g.length) (by omega) hN;refine ⟨u,e,M (kr b1 l1 su0 d1 b2 nx d2 d3 suk h6),?_⟩;rcases c6 with c6 | ⟨rfl,rfl,c6,_⟩
 ·exact .inl c6
 ·exact .inr ⟨rfl,rfl,vF hk ksc (by omega) kwt hX c1 c6 c2 c3 c4⟩
def pN {g:A8} {st:Int} {i:Nat} {T A:Tm} (hi:i<g.length) (hk:g.length<=1000) (hg:g[g.length - 1 - i]?=some (st,T)) (Tsc:T.sc (g.length - 1 - i)) (Twt:T.wt<=400000000) (h:NX g.length (T.shift ((i+1:Nat):Int) 0) A):QI g st (.mk 1 i []) A:=by
 have hs:=jsh ((i:Int)+1) 0 Tsc (by omega) (by omega) (by omega);rw [show (i:Int)+1=((i+1:Nat):Int) by omega] at hs
 obtain ⟨u,e,h6,c6⟩:=Sj hk h;refine ⟨u,e,s8 hi (by omega) hg (by rw [show (i:Int)+1=((i+1:Nat):Int) by omega];exact hs) h6,?_⟩
 rcases c6 with c6 | ⟨rfl,rfl,c7,_⟩
 ·exact .inl c6
 ·exact .inr ⟨rfl,rfl,wJ Tsc Twt hi hk hg c7⟩
def yO {g:A8} {a b B:Tm} (hk:g.length<=1000) (Bsc:B.sc g.length) (Bwt:B.wt<=10000) (h:QI (g++[(0,a)]) 0 b (B.shift 1 0)):∃r e,JU (AM g) a b r e/\(Nk e\/e=0/\r=B/\KU g a b B):=by
 obtain ⟨c,e,h1,c1⟩:=h;have hb:=jb g 0 a (by omega);rcases c1 with c1 | ⟨rfl,rfl,c1⟩
 ·exact ⟨_,e,AdG (AW c1) hb h1,.inl c1⟩
 ·have f1:=O1 B 0 _ Bsc (by omega) (by omega);have f2:=MV B SK 0 0 _ Bsc (by omega) (by omega);have hf:=jf (B.shift 1 0) (by rw [Bl];omega);rw [f1] at hf;have zsc:SK.sc 0:=C3;have hs:=xK (u:=SK) (CG B 1 0 _ Bsc (by omega)) (by rw [Bl];omega) zsc (by decide);rw [show ((1:Nat):Int)=1 from rfl,show ((0:Nat):Int)=0 from rfl,show (B.shift 1 0).subst 0 0 SK=B from f2] at hs
  exact ⟨B,0,AeZ hb h1 (AeO hf hs),.inr ⟨rfl,rfl,zJ hk Bsc (by omega) c1⟩⟩
def ZB {g:A8} {a b B C:Tm} (m:Int) (hk:g.length<=1000) (Bsc:B.sc g.length) (Bwt:B.wt<=10000) (h1:QC g 1 a tyT) (h2:QI (g++[(0,a)]) 0 b (B.shift 1 0)) (h3:NX g.length (.mk 16 0 [a,B]) C):QI g 0 (.mk 20 m [a,b]) C:=by
 have M:∀{r e},JO (AM g) (.mk 20 m [a,b]) r e->JI (AM g) 0 (.mk 20 m [a,b]) r e:=fun h=>Ga (by omega) h;obtain ⟨e,d1,c1⟩:=h1;rcases c1 with c1 | ⟨rfl,c1⟩
 ·exact ⟨_,e,M (bM (AW c1) d1),.inl c1⟩
 obtain ⟨r,e,d2,c2⟩:=yO hk Bsc Bwt h2;rcases c2 with c2 | ⟨rfl,rfl,c2⟩
 ·exact ⟨_,e,M (aX (AW c2) d1 d2),.inl c2⟩
 obtain ⟨u,e,h6,c6⟩:=Sj hk h3;refine ⟨u,e,M (uS d1 d2 h6),?_⟩;rcases c6 with c6 | ⟨rfl,rfl,c6,_⟩
 ·exact .inl c6
 ·exact .inr ⟨rfl,rfl,gX c1 c2 c6⟩
def uZ {g:A8} {a b A:Tm} (m:Int) (hk:g.length<=900) (asc:a.sc g.length) (awt:a.wt<=400000000) (h1:QC g 1 a tyT) (h2:QC (g++[(0,a)]) 0 b (a.shift 1 0)) (h3:NX g.length a A):QI g 0 (.mk 29 m [a,b]) A:=by
 have M:∀{r e},JO (AM g) (.mk 29 m [a,b]) r e->JI (AM g) 0 (.mk 29 m [a,b]) r e:=fun h=>Ga (by omega) h;have hb:=jb g 0 a (by omega);obtain ⟨e,d1,c1⟩:=h1;rcases c1 with c1 | ⟨rfl,c1⟩
 ·exact ⟨_,e,M (cJ (AW c1) d1),.inl c1⟩
 have hs:=jsh 1 0 asc (by omega) (by omega) (by omega);obtain ⟨e,d2,c2⟩:=h2;rcases c2 with c2 | ⟨rfl,c2⟩
 ·exact ⟨_,e,M (eL (AW c2) d1 hb hs d2),.inl c2⟩
 obtain ⟨u,e,h6,c6⟩:=Sj (k:=g.length) (by omega) h3;refine ⟨u,e,M (sR d1 hb hs d2 h6),?_⟩;rcases c6 with c6 | ⟨rfl,rfl,c6,_⟩
 ·exact .inl c6
 ·exact .inr ⟨rfl,rfl,i7 (by omega) asc (by omega) awt c1 c2 c6⟩
def rO {g:A8} {x y A B:Tm} (m:Int) (hk:g.length<=1000) (Bsc:B.sc g.length) (Bwt:B.wt<=10000) (h1:QI g 0 x A) (h2:QI (g++[(0,A)]) 0 y (B.shift 1 0)):QI g 0 (.mk 28 m [x,y]) B:=by
 have M:∀{r e},JO (AM g) (.mk 28 m [x,y]) r e->JI (AM g) 0 (.mk 28 m [x,y]) r e:=fun h=>Ga (by omega) h;obtain ⟨r,e,h1,c1⟩:=h1;rcases c1 with c1 | ⟨rfl,rfl,c1⟩
 ·exact ⟨_,e,M (cI (AW c1) h1),.inl c1⟩
 obtain ⟨r,e,d2,c2⟩:=yO hk Bsc Bwt h2;refine ⟨r,e,M (sX h1 d2),?_⟩;rcases c2 with c2 | ⟨rfl,rfl,nB⟩
 ·exact .inl c2
 ·exact .inr ⟨rfl,rfl,jN c1 nB⟩
def yW {g:A8} {x A:Tm} {q:Int} (m:Int) (h1:QI g 1 x (.mk 18 q [A])):QI g 0 (.mk 30 m [x]) A:=by
 have M:∀{r e},JO (AM g) (.mk 30 m [x]) r e->JI (AM g) 0 (.mk 30 m [x]) r e:=fun h=>Ga (by omega) h;obtain ⟨r,e,h1,c1⟩:=h1;rcases c1 with c1 | ⟨rfl,rfl,c1⟩
 ·exact ⟨_,e,M (aV (AW c1) (bR (AW c1) h1)),.inl c1⟩
 exact ⟨_,0,M (pO (ZQ (op:=18) rfl h1)),.inr ⟨rfl,rfl,qR c1⟩⟩
def j7 {g:A8} {a b:Tm} (m:Int) (h1:QC g 0 a Ek) (h2:QC g 0 b Ek):QI g 0 (.mk 26 m [a,b]) Ek:=by
 have M:∀{r e},JO (AM g) (.mk 26 m [a,b]) r e->JI (AM g) 0 (.mk 26 m [a,b]) r e:=fun h=>Ga (by omega) h;obtain ⟨e,d1,c1⟩:=q_2 h1 h2;rcases c1 with c1 | ⟨rfl,c1,c2⟩
 ·exact ⟨_,e,M (Yp (AW c1) d1),.inl c1⟩
 ·exact ⟨_,0,M (kY d1),.inr ⟨rfl,rfl,bN c1 c2⟩⟩
def qC {g:A8} {f x A B:Tm} {q:Int} (m:Int) (h1:QI g 0 f (.mk 16 q [A,B])) (h2:QC g 0 x A):QI g 0 (.mk 21 m [f,x]) B:=by
 have M:∀{r e},JP (AM g) (.mk 21 m [f,x]) r e->JI (AM g) 0 (.mk 21 m [f,x]) r e:=fun h=>Ga (by omega) (Jw (by omega) h);obtain ⟨r,e,h1,c1⟩:=h1;rcases c1 with c1 | ⟨rfl,rfl,c1⟩
 ·exact ⟨_,e,M (bE (AW c1) (bR (AW c1) h1)),.inl c1⟩
 have hs:=ZQ (op:=16) rfl h1;obtain ⟨e,d1,c3⟩:=h2;rcases c3 with c3 | ⟨rfl,c3⟩
 ·exact ⟨_,e,M (aF (AW c3) hs d1),.inl c3⟩
 ·exact ⟨_,0,M (qG hs d1),.inr ⟨rfl,rfl,jO c1 c3⟩⟩
def V8 {g:A8} {x y A B C:Tm} (m:Int) (hk:g.length<=1000) (h1:QI g 0 x A) (h2:QI g 0 y B) (h3:NX g.length (.mk 17 0 [A,B]) C):QI g 0 (.mk 22 m [x,y]) C:=by
 have M:∀{r e},JP (AM g) (.mk 22 m [x,y]) r e->JI (AM g) 0 (.mk 22 m [x,y]) r e:=fun h=>Ga (by omega) (Jw (by omega) h);obtain ⟨r,e,h1,c1⟩:=h1;rcases c1 with c1 | ⟨rfl,rfl,c1⟩
 ·exact ⟨_,e,M (X9 (AW c1) h1),.inl c1⟩
 obtain ⟨r',e,h2,c3⟩:=h2;rcases c3 with c3 | ⟨rfl,rfl,c3⟩
 ·exact ⟨_,e,M (YD (AW c3) h1 h2),.inl c3⟩
 obtain ⟨u,e,h6,c6⟩:=Sj hk h3;refine ⟨u,e,M (kX h1 h2 h6),?_⟩;rcases c6 with c6 | ⟨rfl,rfl,c6,_⟩
 ·exact .inl c6
 ·exact .inr ⟨rfl,rfl,aP c1 c3 c6⟩
def sH {g:A8} {x A B:Tm} {q:Int} (m:Int) (h1:QI g 0 x (.mk 17 q [A,B])):QI g 0 (.mk 23 m [x]) A:=by
 have M:∀{r e},JP (AM g) (.mk 23 m [x]) r e->JI (AM g) 0 (.mk 23 m [x]) r e:=fun h=>Ga (by omega) (Jw (by omega) h);obtain ⟨r,e,h1,c1⟩:=h1;rcases c1 with c1 | ⟨rfl,rfl,c1⟩
 ·exact ⟨_,e,M (dC (AW c1) (bR (AW c1) h1)),.inl c1⟩
 exact ⟨_,0,M (vX (ZQ (op:=17) rfl h1)),.inr ⟨rfl,rfl,iG c1⟩⟩
def yG {g:A8} {c x y A:Tm} (m:Int) (h0:QC g 0 c Ek) (h1:QI g 0 x A) (h2:QC g 0 y A):QI g 0 (.mk 27 m [c,x,y]) A:=by
 have M:∀{r e},JP (AM g) (.mk 27 m [c,x,y]) r e->JI (AM g) 0 (.mk 27 m [c,x,y]) r e:=fun h=>Ga (by omega) (Jw (by omega) h);obtain ⟨e,d1,c1⟩:=h0;rcases c1 with c1 | ⟨rfl,c1⟩
 ·exact ⟨_,e,M (mY (AW c1) d1),.inl c1⟩
 obtain ⟨r,e,h1,c2⟩:=h1;rcases c2 with c2 | ⟨rfl,rfl,c2⟩
 ·exact ⟨_,e,M (iI (AW c2) d1 h1),.inl c2⟩
 obtain ⟨e,d2,c3⟩:=h2;rcases c3 with c3 | ⟨rfl,c3⟩
 ·exact ⟨_,e,M (iD (AW c3) d1 h1 d2),.inl c3⟩
 ·exact ⟨_,0,M (zD d1 h1 d2),.inr ⟨rfl,rfl,rS c1 c2 c3⟩⟩
theorem fT {P:Nat->Nat->Prop}:∀m,(∀i,i<m->∃N,∀n,N<=n->P i n)->∃N,∀i,i<m->∀n,N<=n->P i n:=by
 intro m
 induction m with
 | zero=>intro _;exact ⟨0,fun i hi=>by omega⟩
 | succ m ih =>
  intro h;obtain ⟨N1,h1⟩:=ih fun i hi=>h i (by omega);obtain ⟨N2,h2⟩:=h m (by omega);refine ⟨N1+N2,fun i hi n hn=>?_⟩;by_cases him:i=m
  ·subst him;exact h2 n (by omega)
  ·exact h1 i (by omega) n (by omega)
def fE:EE.T 65=some ⟨1,24,.slice 3,[.nils]⟩:=by kernel_rfl
def wF:EE.T 3=some ⟨1,8,.int .i64,[.fv (.int .i64 0)]⟩:=by kernel_rfl
def xZ:SliceT EE 65 1:=⟨_,_,_,_,_,fE,wF,rfl,by decide,by decide⟩
def nX (a:Int) (s:Nat) (h:Hp) (k:KT (IV×Hp)):AA (Am EE 65 1 [(0,iv a)]) s h k=k (.clip [.int .i64 a]) h [] []:=Cx fE wF (by decide) (cells:=[.int .i64 a]) rfl k
def iE (l:List Nat):List FV:=l.map fun (i:Nat)=>FV.int .i64 (i:Int)
theorem ST (l:List Nat):BG 1 (iE l)=true:=by
 cases l with
 | nil=>rfl
 | cons a l=>rfl
def z8 (l:List Nat):((iE l).all fun e=>e.cells.all FV.one)=true:=by rw [iE,List.all_map,List.all_eq_true];intro p _;rfl
def lV:List Nat->IV
 | []=>.nils
 | i::l=>.app (.own 69214211) (iE (i::l))
def lH:List Nat->List (Nat×Blk)
 | []=>[]
 | i::l=>[(69214211,.tok (i::l).length 1)]
abbrev Md (o m:Int) (ks:List Tm) (l:List Nat):Hp :=⟨[(69206016,.row [iv o,iv m,.fv (.sl (ks.map Tm.enc))] false),(69206017,.row [iv 0,iv 0,.nils] false)]++lH l,[]⟩
def YE (p:Nat->Bool) (i:Nat):(List.range (i+1)).filter p=(List.range i).filter p++(if p i then [i] else []):=by rw [List.range_succ,List.filter_append];cases h:p i<;>simp [h]
def KY {e0:Nat} {g:A8} (hg:GOk e0 g) (st:Int) {a:Tm} (ha:NOk g.length a) (x:Int):∃t b,Ev 66 [.fv (AM g),iv st,.fv a.enc,iv x] (.tuple [Tm.enc t,.bool b])/\TOk g.length 0 t/\(b=true->∃i:Nat,t=.mk 1 i []/\Hit g st a i):=by
 have hlen:=hg.len;have hc:∀i:Nat,∃(p:Int×Tm) (u:Tm) (e:Int),i<g.length->g[g.length - 1 - i]?=some p/\p.2.wk/\p.2.wt<=100000000000/\Ev 24 [.fv (p.2.shift ((i:Int)+1) 0).enc] (.tuple [u.enc,.int .i64 e])/\(e=0/\NOk g.length u\/(e=5\/e=17)/\u=.z)/\∃f,AE f (p.2.shift ((i:Int)+1) 0)=some (u,e):=by
  intro i;by_cases hi:i<g.length
  ·obtain ⟨p,hp⟩:∃p,g[g.length - 1 - i]?=some p:=⟨_,Ah6 (by omega)⟩;obtain ⟨h1,h2,h3⟩:=hg.ok _ _ hp;have h4:=CG p.2 (i+1) 0 _ h1 (by omega);rw [show g.length - 1 - i+(i+1)=g.length by omega] at h4
   obtain ⟨u,e,h5,h6,h7⟩:=Gu (k:=g.length) (by omega) h4 (by rw [Di];omega);exact ⟨p,u,e,fun _=>⟨hp,C5 _ _ h1,h2,h5,h6,h7⟩⟩
  ·exact ⟨(0,.z),.z,0,fun h=>absurd h hi⟩
 obtain ⟨P,hP⟩:=Classical.axiomOfChoice hc;obtain ⟨U,hP⟩:=Classical.axiomOfChoice hP;obtain ⟨E,hU⟩:=Classical.axiomOfChoice hP;clear hP hc;obtain ⟨N,hN⟩:=fT (P:=fun i n=>BC (SS dt n 24 [.fv ((P i).2.shift ((i:Int)+1) 0).enc] ⟨[],[]⟩) (.tuple [(U i).enc,.int .i64 (E i)])) g.length (fun i hi=>(hU i hi).2.2.2.1);obtain ⟨hit,hhit⟩:∃h:Nat->Bool,∀i,h i=(decide ((P i).1=st) && (decide (E i=0) && (U i).eta.same a.eta)):=⟨_,fun _=>rfl⟩;obtain ⟨L,hL⟩:∃L,L=(List.range g.length).filter hit:=⟨_,rfl⟩;obtain ⟨tt,htt⟩:∃tt:Tm,tt=if L=[] then .z else .mk 1 ((L.getD (x % (L.length:Int)).toNat 0:Nat):Int) []:=⟨_,rfl⟩;have hLlt:∀i∈L,i<g.length:=fun i hi=>by
  rw [hL] at hi;exact List.mem_range.1 (List.mem_filter.1 hi).1
 refine ⟨tt,!decide (L=[]),⟨N+200000000000+1,?_⟩,?_,?_⟩
 ·intro n hn;obtain ⟨n,rfl⟩:=psc n (by omega);have hka:=Lm n a g.length ha.sc (by have:=ha.wt;omega) (by have:=ha.wt;omega);rw [c66];generalize hae:a.eta=ae at hka hhit;obtain ⟨oa,ma,ka⟩:=a;obtain ⟨oe,me,ke⟩:=ae;simp only [An] at hka ⊢;simp only [Qs,Qa,S66,↓XX,XY,↓reduceIte,seval,AM,↓AJ,XD,heldB,AS,XE];refine Be (Q:=fun r=>BC r _) (fun k V H=>∃i:Nat,i+k=g.length/\∃l:List Nat,l=(List.range i).filter hit/\V=[.fv (.sl (g.map v1)),iv st,iv x,.ptr (.own 69206016) 0,.ptr (.own 69206017) 0,lV l,iv i]/\H=Md oa ma ka l)
   ?_ n g.length _ _ (by omega) ⟨0,by omega,[],rfl,rfl,rfl⟩
  rintro k V H rec ⟨i,hik,l,hl,rfl,rfl⟩ hrec;cases k with
  | zero =>
   have hig:i=g.length:=by omega
   rw [hig] at hl;rw [<- hL] at hl;subst hl;have hno:¬ ((i:Int)<g.length):=by omega
   cases l with
   | nil =>rw [htt,if_pos rfl];simp only [lV,Tm.z,An];simp only [↓Nv,↓XX,XY,↓reduceIte,seval,hno];exact A6 rfl
   | cons i0 l0 =>
    rw [htt,if_neg (by simp)];generalize hl1:i0::l0=l at *;have hlp:0<l.length:=by rw [<- hl1];simp
    have hll:l.length<=100:=by have h1:=List.length_filter_le hit (List.range g.length);rw [<- hL,List.length_range] at h1;omega
    have hw:=Ax (n:=n) (by omega) x (m:=(l.length:Int)) (by omega) (by omega);have h1:=Int.emod_nonneg x (show (l.length:Int)≠0 by omega)
    have h2:=Int.emod_lt_of_pos x (show (0:Int)<l.length by omega)
    obtain ⟨j,hj⟩:∃j:Nat,x % (l.length:Int)=j:=⟨(x % (l.length:Int)).toNat,by omega⟩;rw [hj] at hw h2 ⊢;have hjl:j<l.length:=by omega
    have hget:(iE l)[j]?=some (.int .i64 ((l.getD j 0:Nat):Int)):=by rw [iE,List.getElem?_map,List.getD_eq_getElem?_getD,Ah6 hjl];rfl
    rw [Int.toNat_natCast];have hix:=fun {β:Type}=>Br (β:=β) (size:=1) hget rfl;have hv:=jG (n:=n) (by omega) ((l.getD j 0:Nat):Int);generalize ((l.getD j 0:Nat):Int)=q at hix hv ⊢;have hln:¬ ((l.length:Int)=0):=by omega
    have hiel:(iE l).length=l.length:=by rw [iE,List.length_map]
    have hap:∀(β:Type) (x:IV) (k:IV->Option β),AR 1 (.app (.own 69214211) (iE l)) x k=AR 1 (.fv (.sl (iE l))) x k:=fun _ _ _=>rfl;have hlV:lV l=.app (.own 69214211) (iE l):=by rw [<- hl1];rfl
    have hlH:lH l=[(69214211,.tok l.length 1)]:=by rw [<- hl1];rfl
    have hne:decide (l=[])=false:=by rw [<- hl1];simp
    rw [hlV,Md,hlH,hne];simp only [List.cons_append,List.nil_append];simp only [An,Ah4] at hv ⊢;simp only [↓Nv,↓XX,XY,↓reduceIte,seval,hno,hiel,hln,↓Ag hw,↓hap,↓hix,FV.cells,↓Ar hv];exact A6 rfl
  | succ k =>
   have hig:i<g.length:=by omega
   have hlt:(i:Int)<g.length:=by omega
   obtain ⟨hp,hwk,hwt,_,hN',_⟩:=hU i hig;have hget:(g.map v1)[g.length - 1 - i]?=some (v1 (P i)):=by rw [List.getElem?_map,hp];rfl
   have hix:=fun {β:Type}=>Br (β:=β) (size:=4) hget rfl;have w1:BF ((g.length:Int) - 1)=(g.length:Int) - 1:=by rw [Az]<;>omega
   have w2:BF ((g.length:Int) - 1 - i)=((g.length - 1 - i:Nat):Int):=by rw [Az (by omega) (by omega)];omega
   have wi:BF ((i:Int)+1)=(i:Int)+1:=by rw [Az]<;>omega
   have hsh:=CS n (P i).2 ((i:Int)+1) 0 (by omega) hwk (by omega) (by omega);have hNi:=hN i hig n (by omega);have h9:=fun (l':List Nat) (e:l'=l++if hit i then [i] else [])=>hrec k [.fv (.sl (g.map v1)),iv st,iv x,.ptr (.own 69206016) 0,.ptr (.own 69206017) 0,lV l',iv (i+1:Nat)] (Md oa ma ka l') (by omega)
    ⟨i+1,by omega,l',by rw [YE,<- hl,e],rfl,rfl⟩
   have hi1:((i+1:Nat):Int)=(i:Int)+1:=by omega
   rw [hi1] at h9;have hhi:=hhit i;generalize (P i).2.shift ((i:Int)+1) 0=ts at hsh hNi;generalize P i=p at hp hget hix hsh hhi;obtain ⟨sp,tp⟩:=p;by_cases c1:sp=st
   ·by_cases c2:E i=0
    ·have hUi:NOk g.length (U i):=by
      rcases hN' with ⟨_,h⟩ | ⟨h,_⟩
      ·exact h
      ·omega
     have hke:=Lm n (U i) g.length hUi.sc (by have:=hUi.wt;omega) (by have:=hUi.wt;omega);have hew:=(LO (U i) g.length hUi.sc (by have:=hUi.wt;omega)).2;have hsm:=Lz n (U i).eta (.mk oe me ke) (by have:=hUi.wt;omega) (by have:=hUi.wt;omega);rw [c2] at hNi;simp only [c1,c2,decide_true,Bool.true_and] at hhi;rw [<- hhi] at hsm;generalize (U i).eta=ue at hke hsm;generalize U i=ui at hNi hke;obtain ⟨o1,n1,k1⟩:=tp;obtain ⟨o2,n2,k2⟩:=ts;obtain ⟨o3,n3,k3⟩:=ui;obtain ⟨o4,n4,k4⟩:=ue;subst c1;simp only [An,v1,Tm.op,Tm.n,Tm.kids] at hsh hNi hke hsm hix;cases hb:hit i
     ·rw [hb] at hsm h9;have h9:=h9 l (by simp);cases l with
      | nil =>simp only [lV,lH,Md,List.append_nil] at h9 ⊢;simp only [↓Nv,↓XX,XY,↓reduceIte,seval,hlt,w1,w2,wi,↓hix,FV.cells,↓Av hsh,↓Ar hNi,↓Ar hke,↓Ar hka,↓Ag hsm,↓AJ,XD,heldB,AS,XE];exact h9
      | cons i0 l0 =>simp only [lV,lH,Md,List.cons_append,List.nil_append] at h9 ⊢;simp only [↓Nv,↓XX,XY,↓reduceIte,seval,hlt,w1,w2,wi,↓hix,FV.cells,↓Av hsh,↓Ar hNi,↓Ar hke,↓Ar hka,↓Ag hsm,↓AJ,XD,heldB,AS,XE];exact h9
     ·rw [hb] at hsm h9;have h9:=h9 (l++[i]) (by simp);cases l with
      | nil =>have happ:=fun {β:Type}=>HA (β:=β) xZ (.clip [.int .i64 (i:Int)]) (ST [i]) rfl (by simp) (s0:=.nils) (.inl rfl);simp only [lV,lH,Md,List.cons_append,List.nil_append] at h9 ⊢;simp only [↓Nv,↓XX,XY,↓reduceIte,seval,hlt,w1,w2,wi,↓hix,FV.cells,↓Av hsh,↓Ar hNi,↓Ar hke,↓Ar hka,↓Ag hsm,↓nX,↓happ,↓AJ,XD,heldB,AS,XE];exact h9
      | cons i0 l0 =>
       have hll:(i0::l0).length<=100:=by have h1:=List.length_filter_le hit (List.range i);rw [<- hl,List.length_range] at h1;omega
       have happ:=fun {β:Type}=>NQ (β:=β) xZ (es:=iE (i0::l0)) (es2:=[.int .i64 (i:Int)]) (.clip _) (ST [i]) (ST _) (z8 [i]) (by rw [iE,List.length_map];simp only [Ah3,List.length_nil] at hll ⊢;omega);have hil:(iE (i0::l0)).length=(i0::l0).length:=by rw [iE,List.length_map]
       have hia:iE (i0::l0)++[.int .i64 (i:Int)]=iE (i0::(l0++[i])):=by simp [iE]
       have hil2:(i0::(l0++[i])).length=(i0::l0).length+1:=by simp
       simp only [hil,hia,Ah3,List.length_nil,Nat.zero_add] at happ;simp only [lV,lH,Md,List.cons_append,List.nil_append,hil2] at h9 ⊢;simp only [Ah3] at h9 ⊢;simp only [↓Nv,↓XX,XY,↓reduceIte,seval,hlt,w1,w2,wi,↓hix,FV.cells,↓Av hsh,↓Ar hNi,↓Ar hke,↓Ar hka,↓Ag hsm,↓nX,↓happ,GZ,↓AJ,XD,heldB,AS,XE];exact h9
    ·simp only [c2,decide_false,Bool.false_and,Bool.and_false] at hhi;rw [hhi] at h9;have h9:=h9 l (by simp);generalize E i=ei at hNi c2;generalize U i=ui at hNi;obtain ⟨o1,n1,k1⟩:=tp;obtain ⟨o2,n2,k2⟩:=ts;obtain ⟨o3,n3,k3⟩:=ui;subst c1;simp only [An,v1,Tm.op,Tm.n,Tm.kids] at hsh hNi hix;cases l with
     | nil =>simp only [lV,lH,Md,List.append_nil] at h9 ⊢;simp only [↓Nv,↓XX,XY,↓reduceIte,seval,hlt,w1,w2,wi,↓hix,FV.cells,↓Av hsh,↓Ar hNi,c2,↓AJ,XD,heldB,AS,XE];exact h9
     | cons i0 l0 =>simp only [lV,lH,Md,List.cons_append,List.nil_append] at h9 ⊢;simp only [↓Nv,↓XX,XY,↓reduceIte,seval,hlt,w1,w2,wi,↓hix,FV.cells,↓Av hsh,↓Ar hNi,c2,↓AJ,XD,heldB,AS,XE];exact h9
   ·simp only [c1,decide_false,Bool.false_and] at hhi;rw [hhi] at h9;have h9:=h9 l (by simp);obtain ⟨o1,n1,k1⟩:=tp;simp only [v1,Tm.op,Tm.n,Tm.kids] at hix;cases l with
    | nil =>simp only [lV,lH,Md,List.append_nil] at h9 ⊢;simp only [↓Nv,↓XX,XY,↓reduceIte,seval,hlt,w1,w2,wi,↓hix,FV.cells,c1,↓AJ,XD,heldB,AS,XE];exact h9
    | cons i0 l0 =>simp only [lV,lH,Md,List.cons_append,List.nil_append] at h9 ⊢;simp only [↓Nv,↓XX,XY,↓reduceIte,seval,hlt,w1,w2,wi,↓hix,FV.cells,c1,↓AJ,XD,heldB,AS,XE];exact h9
 ·rw [htt];split
  ·exact ⟨w6 _,by have:=La 0;simp [Tm.z,Tm.wt,Tm.wtL];omega,by simp [Tm.z,Tm.dp,Tm.dpL,Dg]⟩
  ·rename_i hne;have h1:=Int.emod_nonneg x (show (L.length:Int)≠0 by
    intro h;exact hne (Aia (by omega)))
   have h2:=Int.emod_lt_of_pos x (show (0:Int)<L.length by
    have:L.length≠0:=fun h=>hne (Aia h)
    omega)
   have hj:(x % (L.length:Int)).toNat<L.length:=by omega
   have:=hLlt (L.getD (x % (L.length:Int)).toNat 0) (by rw [List.getD_eq_getElem?_getD,Ah6 hj];exact List.getElem_mem hj)
   exact ⟨uX (by omega) (by omega),by have:=La 0;simp [Tm.wt,Tm.wtL];omega,by simp [Tm.dp,Tm.dpL,Dg]⟩
 ·intro hb;have hne:L≠[]:=by simpa using hb
  rw [htt,if_neg hne];have h1:=Int.emod_nonneg x (show (L.length:Int)≠0 by
   intro h;exact hne (Aia (by omega)))
  have h2:=Int.emod_lt_of_pos x (show (0:Int)<L.length by
   have:L.length≠0:=fun h=>hne (Aia h)
   omega)
  have hj:(x % (L.length:Int)).toNat<L.length:=by omega
  have hm:L.getD (x % (L.length:Int)).toNat 0∈L:=by rw [List.getD_eq_getElem?_getD,Ah6 hj];exact List.getElem_mem hj
  generalize L.getD (x % (L.length:Int)).toNat 0=i at hm;refine ⟨i,rfl,hLlt i hm,?_⟩;have hig:=hLlt i hm;rw [hL] at hm;have hh:=(List.mem_filter.1 hm).2;rw [hhit,Bool.and_eq_true,Bool.and_eq_true,decide_eq_true_eq,decide_eq_true_eq] at hh;obtain ⟨hp,_,_,_,_,f,hf⟩:=hU i hig;rw [hh.2.1] at hf;refine ⟨(P i).2,f,U i,by rw [hp,<- hh.1],?_,(J3 _ _).1 hh.2.2⟩;rw [show ((i+1:Nat):Int)=(i:Int)+1 by omega]
  exact hf
def Eg (F:FuncId) (κ e:Nat):Prop:=∀(g:A8) (a r:Tm),GOk e g->AOk g.length a->∃t b,Ev F [.fv (AM g),.fv a.enc,.fv r.enc,iv ((e:Int) - 5)] (.tuple [Tm.enc t,.bool b])/\TG κ e g a t b
def Ou (F:FuncId) (κ e:Nat):Prop:=∀(g:A8) (a r:Tm),GOk e g->NOk g.length a->∃t b,Ev F [.fv (AM g),.fv a.enc,.fv r.enc,iv ((e:Int) - 5)] (.tuple [Tm.enc t,.bool b])/\TG κ e g a t b
structure TyOk (g:A8) (e:Nat) (t:Tm):Prop where
 sc:t.sc g.length
 wt:t.wt<=Wg (e - 1)+10
 dp:t.dp<=Dg (e - 1)+3
 gr:Gr 0 e g .z t
def KX (e:Nat):Prop:=∀(g:A8) (r:Tm),GOk e g->∃t,Ev 29 [.fv (AM g),.fv r.enc,iv ((e:Int) - 5)] (Tm.enc t)/\TyOk g e t
def MB {k:Nat} {a:Tm} (h:NOk k a) (hk:k<=1000) (d:Nat) (hd:d<=10):NOk (k+d) (a.shift d 0):=⟨CG a d 0 k h.sc (by have:=h.wt;omega),by rw [Bl];exact h.wt,by rw [Di];exact h.dp⟩
def bZ {e:Nat} (h6:6<=e) (he:e<=10) (hT:KX 6) (hG:Eg 30 1 (e - 2)):Ou 67 3 e:=by
 intro g a r hg ha;have hlen:=hg.len;have hW2:Wg e=16 * Wg (e - 2):=by obtain ⟨f,rfl⟩:∃f,e=f+2:=⟨e - 2,by omega⟩;rw [show f+2=(f+1)+1 by omega,Ld,Ld,show f+1+1 - 2=f by omega];omega
 have hW20:=La (e - 2);have hW5:4 * Wg 5<=Wg e:=by rw [<- Ld];exact PX (by omega)
 have hW10:=Me he;have hDe:Dg e=Dg (e - 2)+20:=by unfold Dg;omega
 have hD5:Dg 5+10<=Dg e:=by unfold Dg;omega
 have hD2:200<=Dg (e - 2):=by unfold Dg;omega
 have hDm:Dg e<=300:=by unfold Dg;omega
 obtain ⟨b,⟨N1,h1⟩,tb⟩:=hT g (r.pick 0) (Ba (by omega) hg);have bw:=tb.wt;have bd:=tb.dp;simp only [show 6 - 1=5 from rfl] at bw bd
 have hba:AOk g.length b:=⟨tb.sc,by omega,by omega⟩;have hbm:GOk (e - 2) (g++[(1,b)]):=Dh (Ba (by omega) hg) tb.sc (by omega) (by omega);obtain ⟨x,p,⟨N2,h2⟩,tx⟩:=hG g b (r.pick 1) (Ba (by omega) hg) hba;obtain ⟨c,q,⟨N3,h3⟩,tc⟩:=hG g a (r.pick 2) (Ba (by omega) hg) (BV ha);have hsa:=MB ha (by omega) 1 (by omega);obtain ⟨c2,q2,⟨N4,h4⟩,tc2⟩:=hG (g++[(1,b)]) (a.shift 1 0) (r.pick 2) hbm (by simpa using BV hsa);have we:BF ((e:Int) - 5 - 2)=((e - 2:Nat):Int) - 5:=by rw [Az (by omega) (by omega)];omega
 have hd2:(((e - 2:Nat):Int) - 5)=((e - 2:Nat):Int) - 5:=rfl;have aw:=ha.wt;have ad:=ha.dp;have xw:=tx.wt;have cw:=tc.wt;have c2w:=tc2.wt;have xd:=tx.dp;have cd:=tc.dp;have c2d:=tc2.dp;have c2s:c2.sc (g.length+1):=by simpa using tc2.sc
 by_cases h0:r.n % 3=0
 ·refine ⟨.mk 8 0 [.mk 7 0 [.mk 6 0 [a,b.shift 1 0],c,x]],p && q,⟨N1+N2+N3+200000000000+1,?_⟩,?_,?_,?_,fun hb=>.fst e g a b c x h6 hba tb.gr (tx.gr (Ki hb)) (tc.gr (IR hb))⟩
  ·intro n hn;obtain ⟨n,rfl⟩:=psc n (by omega);have h1:=h1 n (by omega);have h2:=h2 n (by omega);have h3:=h3 n (by omega);rw [<- we] at h2 h3;have p0:=AV (n:=n) (by omega) r 0;have p1:=AV (n:=n) (by omega) r 1;have p2:=AV (n:=n) (by omega) r 2;have hw:=Ax (n:=n) (by omega) r.n (m:=3) (by omega) (by omega);have hsh:=CS n b 1 0 (by omega) (C5 _ _ tb.sc) (by omega) (by omega);have t6:=CO (n:=n) (by omega) 6 [a,b.shift 1 0];have t7:=CO (n:=n) (by omega) 7 [.mk 6 0 [a,b.shift 1 0],c,x];have t8:=CO (n:=n) (by omega) 8 [.mk 7 0 [.mk 6 0 [a,b.shift 1 0],c,x]];rw [h0] at hw;rw [c67];clear h4 tb tx tc tc2 ha hg hG hT hba hbm hsa aw ad xw cw c2w bw xd cd c2d bd c2s;generalize b.shift 1 0=bs at hsh t6 t7 t8 ⊢;generalize r.pick 0=r0 at p0 h1;generalize r.pick 1=r1 at p1 h2;generalize r.pick 2=r2 at p2 h3;obtain ⟨o1,m1,k1⟩:=a;obtain ⟨o2,m2,k2⟩:=b;obtain ⟨o3,m3,k3⟩:=r;obtain ⟨o4,m4,k4⟩:=bs;obtain ⟨o5,m5,k5⟩:=x;obtain ⟨o6,m6,k6⟩:=c;obtain ⟨o7,m7,k7⟩:=r0;obtain ⟨o8,m8,k8⟩:=r1;obtain ⟨o9,m9,k9⟩:=r2;simp only [Tm.n,AM,Ah5,Ah4,An,Int.reduceSub,Int.cast_ofNat_Int] at h1 h2 h3 p0 p1 p2 hw hsh t6 t7 t8 ⊢;cases p
   ·simp only [JY,JT,I6,JQ,xS,↓XX,XY,↓reduceIte,seval,↓Ag p0,↓Ag p1,↓Ag p2,↓Av h1,↓Au h2,↓Ag hw,↓Au h3,↓Av hsh,↓Ct,↓Ag t6,↓Jj,↓Ag t7,↓Dx,↓Ag t8];exact A6 rfl
   ·simp only [JY,JT,I6,JQ,xS,↓XX,XY,↓reduceIte,seval,↓Ag p0,↓Ag p1,↓Ag p2,↓Av h1,↓Au h2,↓Ag hw,↓Au h3,↓Av hsh,↓Ct,↓Ag t6,↓Jj,↓Ag t7,↓Dx,↓Ag t8];exact A6 rfl
  ·exact FO (cQ
    (CR ha.sc (CG b 1 0 _ tb.sc (by simp only [show Al 8 0=0 from rfl,show Al 7 0=0 from rfl];omega))) tc.sc tx.sc)
  ·rw [Ll,oB,D1,Bl];omega
  ·rw [gB,dp3,Ly,Di];omega
 ·refine ⟨.mk 5 0 [.mk 4 0 [b,c2],x],p && q2,⟨N1+N2+N4+200000000000+1,?_⟩,?_,?_,?_,fun hb=>.app e g a b c2 x h6 hba tb.gr (tx.gr (Ki hb)) (tc2.gr (IR hb))⟩
  ·intro n hn;obtain ⟨n,rfl⟩:=psc n (by omega);have h1:=h1 n (by omega);have h2:=h2 n (by omega);have h4:=h4 n (by omega);rw [<- we] at h2 h4;have p0:=AV (n:=n) (by omega) r 0;have p1:=AV (n:=n) (by omega) r 1;have p2:=AV (n:=n) (by omega) r 2;have hw:=Ax (n:=n) (by omega) r.n (m:=3) (by omega) (by omega);have hsh:=CS n a 1 0 (by omega) (C5 _ _ ha.sc) (by omega) (by omega);have hm:=DN (n:=n) g 1 b (by omega) (by omega);have t4:=CO (n:=n) (by omega) 4 [b,c2];have t5:=CO (n:=n) (by omega) 5 [.mk 4 0 [b,c2],x];rw [c67];clear h3 tb tx tc tc2 ha hg hG hT hba hbm hsa aw ad xw cw c2w bw xd cd c2d bd c2s;generalize a.shift 1 0=sa at hsh h4;generalize r.pick 0=r0 at p0 h1;generalize r.pick 1=r1 at p1 h2;generalize r.pick 2=r2 at p2 h4;generalize r.n % 3=w3 at hw h0;obtain ⟨o1,m1,k1⟩:=a;obtain ⟨o2,m2,k2⟩:=b;obtain ⟨o3,m3,k3⟩:=r;obtain ⟨o4,m4,k4⟩:=sa;obtain ⟨o5,m5,k5⟩:=x;obtain ⟨o6,m6,k6⟩:=c2;obtain ⟨o7,m7,k7⟩:=r0;obtain ⟨o8,m8,k8⟩:=r1;obtain ⟨o9,m9,k9⟩:=r2;simp only [Tm.n,AM,Ah5,Ah4,An,Int.reduceSub,Int.cast_ofNat_Int] at h1 h2 h4 p0 p1 p2 hw hsh hm t4 t5 ⊢;cases p
   ·simp only [JY,JT,I6,JQ,xS,↓XX,XY,↓reduceIte,seval,↓Ag p0,↓Ag p1,↓Ag p2,↓Av h1,↓Au h2,↓Ag hw,h0,↓Au h4,↓Av hsh,↓Av hm,↓Ct,↓Ag t4,↓Ag t5];exact A6 rfl
   ·simp only [JY,JT,I6,JQ,xS,↓XX,XY,↓reduceIte,seval,↓Ag p0,↓Ag p1,↓Ag p2,↓Av h1,↓Au h2,↓Ag hw,h0,↓Au h4,↓Av hsh,↓Av hm,↓Ct,↓Ag t4,↓Ag t5];exact A6 rfl
  ·exact CR (CR tb.sc c2s) tx.sc
  ·rw [D1,D1];omega
  ·rw [Ly,Ly];omega
def kH {e:Nat} (he:e<=10) (hT:6<=e->KX (e - 1)) (hG:6<=e->Eg 30 1 (e - 1)):KX e:=by
 intro g r hg;have hlen:=hg.len;have hk1:=Int.emod_nonneg r.op (show (9:Int)≠0 by decide)
 have hk2:=Int.emod_lt_of_pos r.op (show (0:Int)<9 by decide)
 have hW0:=La (e - 1);have hD0:200<=Dg (e - 1):=by unfold Dg;omega
 have hleaf:∀op n:Int,ar op=some 0->op≠1->BY op n->Gr 0 e g .z (.mk op n [])->TyOk g e (.mk op n []):=fun op n h1 h2 h3 h4=>⟨IG h1 h2 h3,by simp only [Tm.wt,Tm.wtL];omega,by simp only [Tm.dp,Tm.dpL];omega,h4⟩;have hpl:=Ff 1 r;have hpd:=Dz (r.plainT 1);have c0:(r.op % 9=0\/r.op % 9=1\/e<=5/\(r.op % 9=5\/r.op % 9=6))->∃t,Ev 29 [.fv (AM g),.fv r.enc,iv ((e:Int) - 5)] (Tm.enc t)/\TyOk g e t:=by
  intro hc;refine ⟨.mk 10 0 [],⟨100,fun n hn=>?_⟩,hleaf 10 0 (by decide) (by decide) (Nd (by decide) (by decide) (by decide)) (.tnat e g _)⟩;obtain ⟨n,rfl⟩:=psc n (by omega);have hw:=Ax (n:=n) (by omega) r.op (m:=9) (by omega) (by omega);have hn4:=Lk (n:=n) (by omega);rw [xR];obtain ⟨o,p,k⟩:=r;simp only [Tm.op] at hw hc;simp only [An,Ah4] at hn4 ⊢;rcases hc with hc | hc | ⟨he5,hc | hc⟩
  ·rw [hc] at hw;by_cases hd:(e:Int) - 5<=0<;>(simp only [↓Jt,↓XX,XY,↓reduceIte,seval,↓Ag hw,hd,↓EN hn4];first | exact Ay _ _ | exact Bp rfl _)
  ·rw [hc] at hw;by_cases hd:(e:Int) - 5<=0<;>(simp only [↓Jt,↓XX,XY,↓reduceIte,seval,↓Ag hw,hd,↓EN hn4];first | exact Ay _ _ | exact Bp rfl _)
  ·rw [hc] at hw;have hd:(e:Int) - 5<=0:=by omega
   simp only [↓Jt,↓XX,XY,↓reduceIte,seval,↓Ag hw,hd,↓NW (show (5:Int)≠0 by decide),show (5:Int).tmod 5=0 from rfl,↓EN hn4];first | exact Ay _ _ | exact Bp rfl _
  ·rw [hc] at hw;have hd:(e:Int) - 5<=0:=by omega
   simp only [↓Jt,↓XX,XY,↓reduceIte,seval,↓Ag hw,hd,↓NW (show (5:Int)≠0 by decide),show (6:Int).tmod 5=1 from rfl,↓EN hn4];first | exact Ay _ _ | exact Bp rfl _
 have c2:(r.op % 9=2\/e<=5/\r.op % 9=7)->∃t,Ev 29 [.fv (AM g),.fv r.enc,iv ((e:Int) - 5)] (Tm.enc t)/\TyOk g e t:=by
  intro hc;refine ⟨.mk 14 0 [],⟨100,fun n hn=>?_⟩,hleaf 14 0 (by decide) (by decide) (Nd (by decide) (by decide) (by decide)) (.tty e g _)⟩;obtain ⟨n,rfl⟩:=psc n (by omega);have hw:=Ax (n:=n) (by omega) r.op (m:=9) (by omega) (by omega);have hn4:=AY (n:=n) (by omega) 14;rw [xR];obtain ⟨o,p,k⟩:=r;simp only [Tm.op] at hw hc;simp only [An,Ah4] at hn4 ⊢;rcases hc with hc | ⟨he5,hc⟩
  ·rw [hc] at hw;by_cases hd:(e:Int) - 5<=0<;>(simp only [↓Jt,↓XX,XY,↓reduceIte,seval,↓Ag hw,hd,↓Ag hn4];first | exact Ay _ _ | exact Bp rfl _)
  ·rw [hc] at hw;have hd:(e:Int) - 5<=0:=by omega
   simp only [↓Jt,↓XX,XY,↓reduceIte,seval,↓Ag hw,hd,↓NW (show (5:Int)≠0 by decide),show (7:Int).tmod 5=2 from rfl,↓Ag hn4];first | exact Ay _ _ | exact Bp rfl _
 have c3:(r.op % 9=3\/e<=5/\r.op % 9=8)->∃t,Ev 29 [.fv (AM g),.fv r.enc,iv ((e:Int) - 5)] (Tm.enc t)/\TyOk g e t:=by
  intro hc;refine ⟨.mk 18 0 [r.plainT 1],⟨100,fun n hn=>?_⟩,FO (Gx _ 1 r),by rw [Ll];omega,by rw [gB];omega,.tlp e g _ r⟩;obtain ⟨n,rfl⟩:=psc n (by omega);have hw:=Ax (n:=n) (by omega) r.op (m:=9) (by omega) (by omega);have hp:=KO 1 n r (by omega) (by omega);have ht:=CO (n:=n) (by omega) 18 [r.plainT 1];rw [xR];generalize r.plainT 1=q at hp ht ⊢;obtain ⟨o,p,k⟩:=r;obtain ⟨o2,p2,k2⟩:=q;simp only [Tm.op] at hw hc;simp only [An,Ah5,Ah4] at hp ht ⊢;rcases hc with hc | ⟨he5,hc⟩
  ·rw [hc] at hw;by_cases hd:(e:Int) - 5<=0<;>(simp only [↓Jt,↓XX,XY,↓reduceIte,seval,↓Ag hw,hd,↓Ag hp,↓Dx,↓Ag ht];first | exact Ay _ _ | exact Bp rfl _)
  ·rw [hc] at hw;have hd:(e:Int) - 5<=0:=by omega
   simp only [↓Jt,↓XX,XY,↓reduceIte,seval,↓Ag hw,hd,↓NW (show (5:Int)≠0 by decide),show (8:Int).tmod 5=3 from rfl,↓Ag hp,↓Dx,↓Ag ht];first | exact Ay _ _ | exact Bp rfl _
 by_cases h4:r.op % 9=4
 ·refine ⟨.mk 2 0 [],⟨100,fun n hn=>?_⟩,hleaf 2 0 (by decide) (by decide) (by rw [BY,if_pos rfl];omega) (.tu e g _)⟩;obtain ⟨n,rfl⟩:=psc n (by omega);have hw:=Ax (n:=n) (by omega) r.op (m:=9) (by omega) (by omega);have hu:=Hd (n:=n) (by omega) 0;rw [xR];obtain ⟨o,p,k⟩:=r;simp only [Tm.op] at hw h4;simp only [An,Ah4] at hu ⊢;rw [h4] at hw;by_cases hd:(e:Int) - 5<=0<;>(simp only [↓Jt,↓XX,XY,↓reduceIte,seval,↓Ag hw,hd,↓Ar hu];first | exact Ay _ _ | exact Bp rfl _)
 by_cases hs:r.op % 9<=3\/e<=5
 ·have h:=hk1;by_cases h0:r.op % 9=0\/r.op % 9=1\/e<=5/\(r.op % 9=5\/r.op % 9=6)
  ·exact c0 h0
  by_cases h2:r.op % 9=2\/e<=5/\r.op % 9=7
  ·exact c2 h2
  exact c3 (by omega)
 have he6:6<=e:=by omega
 have hd:¬ (e:Int) - 5<=0:=by omega
 have we:BF ((e:Int) - 5 - 1)=((e - 1:Nat):Int) - 5:=by rw [Az (by omega) (by omega)];omega
 have hW10:=Me (e:=e - 1) (by omega);have hW1:Wg (e - 1)=4 * Wg (e - 2):=by obtain ⟨f,rfl⟩:∃f,e=f+2:=⟨e - 2,by omega⟩;rw [show f+2 - 1=f+1 by omega,Ld,show f+2 - 2=f by omega]
 have hW2:=La (e - 2);have hD1:Dg (e - 1)=Dg (e - 2)+10:=by unfold Dg;omega
 have hDm:Dg (e - 1)<=300:=by unfold Dg;omega
 by_cases h8:r.op % 9=8
 ·obtain ⟨t,b,⟨N1,h1⟩,tt⟩:=hG he6 g (.mk 14 0 []) (r.pick 0) (Ba (by omega) hg) ⟨C3,by simp [Tm.wt,Tm.wtL],by simp [Tm.dp,Tm.dpL]⟩;refine ⟨if b=true then .mk 18 0 [t] else .mk 10 0 [],⟨N1+100,fun n hn=>?_⟩,?_⟩
  ·obtain ⟨n,rfl⟩:=psc n (by omega);have hw:=Ax (n:=n) (by omega) r.op (m:=9) (by omega) (by omega);have h1:=h1 n (by omega);rw [<- we] at h1;have p0:=AV (n:=n) (by omega) r 0;have t14:=AY (n:=n) (by omega) 14;have t18:=CO (n:=n) (by omega) 18 [t];have hn4:=Lk (n:=n) (by omega);rw [xR];rw [h8] at hw;clear hG hT tt c0 c2 c3 hleaf;generalize r.pick 0=r0 at p0 h1;obtain ⟨o,p,k⟩:=r;obtain ⟨o2,p2,k2⟩:=t;obtain ⟨o3,p3,k3⟩:=r0;simp only [Tm.op] at hw;simp only [An,AM,Ah5,Ah4] at h1 p0 t14 t18 hn4 ⊢;cases b
   ·simp only [Bool.false_eq_true,if_false,An,Ah4];simp only [↓Jt,↓XX,XY,↓reduceIte,seval,↓Ag hw,hd,↓Ag t14,↓Ag p0,↓Au h1,↓EN hn4];first | exact Ay _ _ | exact Bp rfl _
   ·simp only [if_true,An,Ah4,Ah5];simp only [↓Jt,↓XX,XY,↓reduceIte,seval,↓Ag hw,hd,↓Ag t14,↓Ag p0,↓Au h1,↓Dx,↓Ag t18];first | exact Ay _ _ | exact Bp rfl _
  ·split
   ·rename_i hb;exact ⟨FO tt.sc,by have:=tt.wt;rw [Ll];omega,by have:=tt.dp;rw [gB];omega,.tlift e g _ t he6 (tt.gr hb)⟩
   ·exact hleaf 10 0 (by decide) (by decide) (Nd (by decide) (by decide) (by decide)) (.tnat e g _)
 ·obtain ⟨a,⟨N1,h1⟩,ta⟩:=hT he6 g (r.pick 0) (Ba (by omega) hg);have aw:=ta.wt;have ad:=ta.dp;rw [show e - 1 - 1=e - 2 by omega] at aw ad
  obtain ⟨b,⟨N2,h2⟩,tb⟩:=hT he6 (g++[(1,a)]) (r.pick 1) (Dh (by rw [show e - 1+1=e by omega];exact hg) ta.sc (by omega) (by omega))
  have bw:=tb.wt;have bd:=tb.dp;rw [show e - 1 - 1=e - 2 by omega] at bw bd
  have bs:b.sc (g.length+1):=by simpa using tb.sc
  have hop:∀op:Int,op=3\/op=6->TyOk g e (.mk op 0 [a,b]):=by
   rintro op (rfl | rfl)
   ·exact ⟨CR ta.sc bs,by rw [D1];omega,by rw [Ly];omega,.tpi e g _ a b _ (by simp) he6 (by omega) ⟨ta.sc,by omega,by omega⟩ ta.gr tb.gr⟩
   ·exact ⟨CR ta.sc bs,by rw [D1];omega,by rw [Ly];omega,.tpi e g _ a b _ (by simp) he6 (by omega) ⟨ta.sc,by omega,by omega⟩ ta.gr tb.gr⟩
  obtain ⟨oo,hoo⟩:∃oo:Int,oo=3/\(r.op % 9=5\/r.op % 9=6)\/oo=6/\r.op % 9=7:=by
   by_cases h7:r.op % 9=7
   ·exact ⟨6,.inr ⟨rfl,h7⟩⟩
   ·exact ⟨3,.inl ⟨rfl,by omega⟩⟩
  refine ⟨.mk oo 0 [a,b],⟨N1+N2+100,fun n hn=>?_⟩,hop oo (by omega)⟩;obtain ⟨n,rfl⟩:=psc n (by omega);have hw:=Ax (n:=n) (by omega) r.op (m:=9) (by omega) (by omega);have h1:=h1 n (by omega);have h2:=h2 n (by omega);rw [<- we] at h1 h2;have p0:=AV (n:=n) (by omega) r 0;have p1:=AV (n:=n) (by omega) r 1;have t3:=CO (n:=n) (by omega) 3 [a,b];have t6:=CO (n:=n) (by omega) 6 [a,b];have hm:=DN (n:=n) g 1 a (by omega) (by omega);rw [xR];clear hG hT c0 c2 c3 hleaf ta tb hop bs aw ad bw bd;generalize r.pick 0=r0 at p0 h1;generalize r.pick 1=r1 at p1 h2;obtain ⟨o,p,k⟩:=r;obtain ⟨o2,p2,k2⟩:=a;obtain ⟨o3,p3,k3⟩:=b;obtain ⟨o4,p4,k4⟩:=r0;obtain ⟨o5,p5,k5⟩:=r1;simp only [Tm.op] at hw hoo;simp only [An,AM,Ah5,Ah4] at h1 h2 p0 p1 t3 t6 hm ⊢;rcases hoo with ⟨rfl,hk | hk⟩ | ⟨rfl,hk⟩
  ·rw [hk] at hw;simp only [↓Jt,↓XX,XY,↓reduceIte,seval,↓Ag hw,hd,↓Ag p0,↓Ag p1,↓Av h1,↓Av hm,↓Av h2,↓Ct,↓Ag t3];first | exact Ay _ _ | exact Bp rfl _
  ·rw [hk] at hw;simp only [↓Jt,↓XX,XY,↓reduceIte,seval,↓Ag hw,hd,↓Ag p0,↓Ag p1,↓Av h1,↓Av hm,↓Av h2,↓Ct,↓Ag t3];first | exact Ay _ _ | exact Bp rfl _
  ·rw [hk] at hw;simp only [↓Jt,↓XX,XY,↓reduceIte,seval,↓Ag hw,hd,↓Ag p0,↓Ag p1,↓Av h1,↓Av hm,↓Av h2,↓Ct,↓Ag t6];first | exact Ay _ _ | exact Bp rfl _
end Idl
end Go.Proofs.YtnenpcghegcnhaaGreat

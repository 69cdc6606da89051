/-
  Texts of a proof, part 13: an ideal semantics of the program, its functions in shallow form, contracts of them. No statement of the seat is proved here.
-/
import Derived.Test.YtnenpcghegcnhaaGreatKernelTypesK12
set_option linter.all false
set_option maxRecDepth 20000
set_option maxHeartbeats 16000000
noncomputable section
namespace Go.Proofs.YtnenpcghegcnhaaGreat
namespace Idl
def DQ {op n:Int} {ks:List Tm} {e ps:List PV} {k1 T1 kh Th:Nat} {v':PV} (h1:op≠1) (hks:ks.length<=4) (hK:∃F,∀g,F<=g->∀m,MOk m k1 T1->OS (fun t m=>PJ g e t m) op 0 ks m=some (ps,Gd m k1 T1)) (hH:G6 op n ps (.mk op n ks) e v' kh Th) :
  ∃F,∀g,F<=g->∀m,MOk m (k1+kh) (1+(T1+Th))->PJ g e (.mk op n ks) m=some (v',Gd m (k1+kh) (1+(T1+Th))):=by
 obtain ⟨F1,hK⟩:=hK;obtain ⟨F2,hH⟩:=hH;refine ⟨F1+F2+10,fun g hg m hm=>?_⟩;obtain ⟨g,rfl⟩:=psc g (by omega);have hm':MOk (Gd m 0 1) (k1+kh) (T1+Th):=Ij (k1:=0) ⟨hm.e,hm.w,hm.w2,by have:=hm.s;omega,hm.s2⟩;rw [PJ,Mp hm];simp only;rw [if_neg h1,if_neg (by omega),if_neg (by simp [Gd]),hK g (by omega) _ (LG hm')];simp only;rw [if_neg (by simp [Gd]),hH g (by omega) _ (Ij hm'),E6,E6];congr 3
 all_goals omega
def gJ {op:Int} (h:¬ (op=5\/op=8\/op=9\/op=13\/op=19\/op=30)):C2 op=false:=by have h1:¬ op=5:=fun e=>h (.inl e);have h2:¬ op=8:=fun e=>h (.inr (.inl e));have h3:¬ op=9:=fun e=>h (.inr (.inr (.inl e)));have h4:¬ op=13:=fun e=>h (.inr (.inr (.inr (.inl e))));have h5:¬ op=19:=fun e=>h (.inr (.inr (.inr (.inr (.inl e)))));have h6:¬ op=30:=fun e=>h (.inr (.inr (.inr (.inr (.inr e)))));simp [C2,h1,h2,h3,h4,h5,h6]
theorem R1 (B:Nat):∀f,VZ B f:=by
 intro f
 induction f using Nat.strongRecOn with
 | _ f ih =>
 intro s t env v s' h hg hw e he;cases f with
 | zero=>rw [AD] at h;cases h
 | succ f =>
 obtain ⟨op,n,ks⟩:=t;rw [AD] at h;rw [if_neg (by simp)] at h;split at h
 ·cases h
 rename_i hel;rw [Tm.good] at hg;obtain ⟨hgn,hgl⟩:=hg;have har:=hgn.1;have hk4:=ZF har;rw [Tm.wt] at hw;by_cases h1:op=1
 ·subst h1;rw [if_pos rfl] at h;have hks:ks=[]:=by
   rw [show ar 1=some 0 by decide,AhH] at har
   exact List.eq_nil_of_length_eq_zero har.symm
  subst hks;have hn:=hgn.2.1 rfl;have hrun:∃F,∀g,F<=g->∀m,MOk m 0 1->PJ g e (.mk 1 n []) m=some (FJ e n,Gd m 0 1):=by refine ⟨e.length+10,fun g hg m hm=>?_⟩;obtain ⟨g,rfl⟩:=psc g (by omega);rw [PJ,Mp (k:=0) (T:=0) hm];simp only;rw [if_pos trivial,if_pos ⟨by omega,by omega,by omega⟩]
  have hcost:∀v:RV,Cost (.mk 1 n []) v 0 1 0:=fun v=>⟨by simp [Tm.surf,Tm.surfL],by omega,Nat.le_trans (Nat.add_le_add_left (TR _ _) _) (by omega),fun _=>by have:=WQ v;simp only [Tm.surf,Tm.surfL];omega⟩;by_cases hlt:n<env.length
  ·rw [if_pos hlt,if_pos hn.1] at h;cases hr:env[((env.length:Int) - 1 - n).toNat]? with
   | none=>rw [hr] at h;cases h
   | some r =>rw [hr] at h;simp only [AhK,AhH,AhI] at h;obtain ⟨rfl,rfl,_⟩:=h;exact ⟨0,1,0,1,by omega,hcost _,by omega,_,iX he hn.1 hlt hr,hrun⟩
  ·rw [if_neg hlt] at h;split at h
   ·simp only [AhH,AhI] at h;obtain ⟨rfl,rfl,_⟩:=h;refine ⟨0,1,0,1,by omega,hcost _,by omega,_,?_,hrun⟩;rw [FJ,if_neg (by rw [he.1];exact hlt),he.1];exact .var _
   ·cases h
 rw [if_neg h1] at h;split at h
 ·cases h
 split at h
 ·cases h
 split at h
 ·cases h
 rename_i vs s1 e1 hk;have he1:=GZ h;subst he1;obtain ⟨k1,c1,u1,T1,q1,q2,q3,q4,q5,q6,ps,q7,q8,q9,q10,q11⟩:=M6 (ih f (by omega)) op env e he ks 0 s vs s1 hk hgl (by omega);simp only [Nat.zero_add] at q8 q9 q10;have hnode:Rel B (.mk op n ps (.mk op n ks) e) (.node op n vs):=by
  refine .node op n n ps vs ks e env h1 har q7 q6 (fun i p r=>q9 i p r) ?_ he.1 he.2;intro i b hb hi;obtain ⟨a1,a2⟩:=q8 i b hi hb;have hm:=List.mem_of_getElem? hi
  have:=B2 hm
  exact ⟨⟨Nx hgl hm,by omega⟩,a1,a2⟩
 obtain ⟨V,hV⟩:∃V,V=RV.node op n vs:=⟨_,rfl⟩;have hVo:V.op=op:=by rw [hV];rfl
 have hVk:V.k=vs:=by rw [hV];rfl
 have hVz:V.vsz=1+RV.vszL op 0 vs:=by rw [hV,RV.node,RV.vsz]
 rw [<- hV] at h hnode;cases f with
 | zero=>rw [headR] at h;cases h
 | succ f =>
 have h00:=h;rw [headR] at h;rw [if_neg (by simp)] at h;split at h
 ·cases h
 by_cases hr:¬ (op=5\/op=8\/op=9\/op=13\/op=19\/op=30)
 ·rw [hVo,if_neg (by omega),if_neg (by omega),if_neg (by omega),if_neg (by omega),if_neg (by omega)] at h;simp only [AhH,AhI] at h;obtain ⟨rfl,rfl,_⟩:=h;refine ⟨k1,1+c1,u1,1+T1,q1,⟨?_,by omega,Nat.le_trans (Nat.add_le_add_left (TR _ _) _) (by omega),fun h=>?_⟩,by omega,_,hnode,DQ (kh:=0) (Th:=0) h1 (by omega) q11 (zC (gJ hr))⟩
  ·rw [Tm.surf,Tm.inn];omega
  ·have:=q4 h;rw [Tm.surf,hVz];omega
 have hrule:C2 op=true:=by
  have:op=5\/op=8\/op=9\/op=13\/op=19\/op=30:=Decidable.byContradiction hr
  rcases this with rfl | rfl | rfl | rfl | rfl | rfl<;>rfl
 by_cases h5:op=5
 ·subst h5;obtain ⟨m0,a,b,x,rfl⟩:=hgn.2.2.2.1 rfl;obtain ⟨v0,vx,rfl⟩:=Q5 q6;obtain ⟨p0,px,rfl⟩:=Q5 q7;obtain ⟨t1,t2,hv0⟩:=q10 0 _ v0 rfl (by decide) rfl;obtain ⟨va,rfl⟩:=Wc hv0;have r0:=q9 0 p0 _ (by decide) rfl rfl;have rx:=q9 1 px vx (by decide) rfl rfl;obtain ⟨n',kp,ts,e0,env0,hp0,b1,b2,b3,b4,b5,b6⟩:=HS r0 (by simp [RV.node,RV.op]);simp only [RV.node,RV.op,RV.n,RV.k] at hp0 b1 b3 b4 b5;rw [show ar 4=some 2 by decide,AhH] at b1
  obtain ⟨a',b',rfl⟩:=Q5 b1.symm;obtain ⟨⟨g1,g2⟩,_,g3⟩:=b5 1 b' (by decide) rfl;simp only [List.getElem?_cons_succ,List.getElem?_cons_zero,AhH,RV.clo,RV.mk.injEq,true_and] at g3;obtain ⟨rfl,rfl⟩:=g3;rw [hVo,if_pos rfl,hVk] at h;simp only [List.getElem?_cons_succ,List.getElem?_cons_zero] at h;rw [show (RV.node 4 m0 [va,RV.clo env b]).op=4 from rfl,if_pos rfl] at h
  split at h
  ·rw [show (RV.node 4 m0 [va,RV.clo env b]).k[1]?=some (RV.clo env b) from rfl] at h
   simp only at h;split at h
   ·cases h
   rw [show (RV.clo env b).env=env from rfl,show (RV.clo env b).b=b from rfl] at h
   obtain ⟨k2,c2,u2,T2,d1,d2,d3,d4⟩:=L2 (ih f (by omega)) (l:=[px]) (l':=[vx]) b6 rfl (by
    intro i p r hp hr
    match i with
    | 0=>simp only [List.getElem?_cons_zero,AhH] at hp hr;subst hp hr;exact rx
    | i+1=>simp at hp) g1 g2 h
   obtain ⟨w2,y1,F2,y2⟩:=Tu (op:=4) (n:=m0) (n':=n') (ps:=kp) (ts:=[a',b]) (i:=1) (b:=b) (l:=[px]) rfl (by simp) d4;have hd:=OX d2;have hdp:=d2.p;have hiw:b.wt<=Tm.innL 5 0 [.mk 4 m0 [a,b],x]:=by
    simp only [Tm.innL,Tm.inn];rw [if_neg (show ¬ 0<Ak 5 0 by decide),if_neg (show ¬ 0<Ak 4 0 by decide),if_pos (show 0<Ak 4 (0+1) by decide)]
    omega
   refine ⟨k1+(k2+1),1+(c1+c2),u1+u2,1+(T1+(1+T2)),by omega,⟨?_,by omega,Nat.le_trans (Nat.add_le_add_left (TR _ _) _) (by omega),fun h=>by omega⟩,by omega,w2,y1,DQ h1 (by simp) q11 (Gs (k:=k2) (T:=T2) hrule (KF y1) ⟨F2+1,fun g hg m hm=>?_⟩)⟩
   ·rw [Tm.surf,Tm.inn];have e1:(k1+(k2+1)) * Tm.innL 5 0 [.mk 4 m0 [a,b],x]=k1 * Tm.innL 5 0 [.mk 4 m0 [a,b],x]+(k2+1) * Tm.innL 5 0 [.mk 4 m0 [a,b],x]:=by rw [Nat.add_mul]
    have e2:(k2+1) * b.wt<=(k2+1) * Tm.innL 5 0 [.mk 4 m0 [a,b],x]:=Nat.mul_le_mul_left _ hiw;omega
   ·obtain ⟨g,rfl⟩:=psc g (by omega);rw [hp0,Aea,if_pos rfl];exact y2 g (by omega) m hm
  ·simp at h
 by_cases h89:op=8\/op=9
 ·obtain ⟨m0,a,x,y,rfl⟩:=hgn.2.2.2.2.1 h89;obtain ⟨v0,rfl⟩:=Fk q6;obtain ⟨p0,rfl⟩:=Fk q7;have hb0:Ak op 0=0:=by rcases h89 with rfl | rfl<;>decide
  obtain ⟨t1,t2,hv0⟩:=q10 0 _ v0 rfl hb0 rfl;obtain ⟨va,vx,vy,rfl⟩:=YN hv0;have r0:=q9 0 p0 _ hb0 rfl rfl;obtain ⟨n',kp,ts,e0,env0,hp0,b1,b2,b3,b4,b5,b6⟩:=HS r0 (by simp [RV.node,RV.op]);simp only [RV.node,RV.op,RV.n,RV.k] at hp0 b1 b3 b4 b5;rw [show ar 7=some 3 by decide,AhH] at b1
  obtain ⟨pa,px,py,rfl⟩:=Ae9 (b2.trans b1.symm);have rx:=b4 1 px vx (by decide) rfl rfl;have ry:=b4 2 py vy (by decide) rfl rfl;rw [hVo,if_neg h5,if_pos h89,hVk] at h;simp only [List.getElem?_cons_zero] at h;rw [show (RV.node 7 m0 [va,vx,vy]).op=7 from rfl,if_pos rfl] at h
  split at h
  ·obtain ⟨w',hw',hvv⟩:∃w',w'=(if op=8 then px else py)/\Rel B w' v/\s'=s1+1:=by
    rcases h89 with rfl | rfl
    ·rw [show (RV.node 7 m0 [va,vx,vy]).k[(1+8 - 8:Int).toNat]?=some vx from rfl] at h
     simp only [AhK,AhH,AhI] at h;obtain ⟨rfl,rfl,_⟩:=h;exact ⟨px,rfl,rx,rfl⟩
    ·rw [show (RV.node 7 m0 [va,vx,vy]).k[(1+9 - 8:Int).toNat]?=some vy from rfl] at h
     simp only [AhK,AhH,AhI] at h;obtain ⟨rfl,rfl,_⟩:=h;exact ⟨py,rfl,ry,rfl⟩
   obtain ⟨hrel,rfl⟩:=hvv;refine ⟨k1+1,1+c1,u1,1+(T1+1),by omega,⟨?_,by omega,Nat.le_trans (Nat.add_le_add_left (TR _ _) _) (by omega),fun h=>by omega⟩,by omega,w',hrel,DQ h1 (by simp) q11 (Gs (k:=0) (T:=0) hrule (KF hrel) ⟨1,fun g hg m hm=>?_⟩)⟩
   ·rw [Tm.surf,Tm.inn,Nat.add_mul];omega
   ·obtain ⟨g,rfl⟩:=psc g (by omega);rw [hp0,y4 _ _ _ h89,Of hm.e,hw']
  ·simp at h
 by_cases h30:op=30
 ·subst h30;rw [show ar 30=some 1 by decide,AhH] at har
  obtain ⟨x,rfl⟩:=Fk har.symm;obtain ⟨v0,rfl⟩:=Fk q6;obtain ⟨p0,rfl⟩:=Fk q7;have r0:=q9 0 p0 v0 (by decide) rfl rfl;have hx:=hgn.2.2.2.2.2.2.1 rfl x (by simp);rw [hVo,if_neg h5,if_neg h89,if_pos rfl,hVk] at h;simp only [List.getElem?_cons_zero] at h;simp only [GQ] at q3;rw [if_neg (by decide)] at q3;by_cases h19:v0.op=19
  ·rw [if_pos h19] at h;obtain ⟨n',kp,ts,e0,env0,hp0,b1,b2,b3,b4,b5,b6⟩:=HS r0 (by rw [h19];decide);rw [h19,show ar 19=some 1 by decide,AhH] at b1
   obtain ⟨y,hy⟩:=Fk (b3.trans b1.symm);obtain ⟨py,rfl⟩:=Fk (b2.trans b1.symm);have ry:=b4 0 py y (by rw [h19];decide) rfl (by rw [hy];rfl);rw [hy] at h;simp only [List.getElem?_cons_zero,AhK] at h;split at h
   ·simp only [AhH,AhI] at h;obtain ⟨rfl,rfl,_⟩:=h;refine ⟨k1+1,1+c1,u1,1+(T1+1),by omega,⟨?_,by omega,Nat.le_trans (Nat.add_le_add_left (TR _ _) _) (by omega),fun h=>by omega⟩,by omega,py,ry,DQ h1 (by simp) q11 (Gs (k:=0) (T:=0) hrule (KF ry) ⟨1,fun g hg m hm=>?_⟩)⟩
    ·rw [Tm.surf,Tm.inn,Nat.add_mul];omega
    ·obtain ⟨g,rfl⟩:=psc g (by omega);rw [hp0,h19,zS,Of hm.e]
   ·simp at h
  ·rw [if_neg h19] at h;simp only [AhH,AhI] at h;obtain ⟨rfl,rfl,_⟩:=h;obtain ⟨o0,n0,k0,t0,e0,hp0,ho0,_⟩:=L9 r0;have hns:2<=sl x v0:=by
    unfold sl;rw [if_neg (fun h=>h19 h.2),if_neg (fun h=>hx h.1)];split<;>omega
   have hn0:sl (.mk 30 n [x]) V=0:=by unfold sl;rw [if_neg (by simp [Tm.op]),if_pos ⟨rfl,hVo⟩]
   refine ⟨k1,1+c1,u1+1,1+(T1+1),q1,⟨?_,by omega,by rw [hn0];omega,fun h=>?_⟩,by omega,_,hnode,DQ (kh:=0) h1 (by simp) q11 (Mj hrule ⟨1,fun g hg m=>?_⟩)⟩
   ·rw [Tm.surf,Tm.inn];omega
   ·have:=q4 h;rw [Tm.surf,hVz];omega
   ·obtain ⟨g,rfl⟩:=psc g (by omega);rw [hp0,wB _ _ _ _ _ _ _ _ _ _ (by rw [<- ho0];exact h19)]
 by_cases h19:op=19
 ·subst h19;rw [show ar 19=some 1 by decide,AhH] at har
  obtain ⟨x,rfl⟩:=Fk har.symm;obtain ⟨v0,rfl⟩:=Fk q6;obtain ⟨p0,rfl⟩:=Fk q7;have r0:=q9 0 p0 v0 (by decide) rfl rfl;have hx:=hgn.2.2.2.2.2.1 rfl x (by simp);rw [hVo,if_neg h5,if_neg h89,if_neg h30,if_pos rfl,hVk] at h;simp only [List.getElem?_cons_zero] at h;simp only [GQ] at q3;rw [if_neg (by decide)] at q3;by_cases hv30:v0.op=30
  ·rw [if_pos hv30] at h;obtain ⟨n',kp,ts,e0,env0,hp0,b1,b2,b3,b4,b5,b6⟩:=HS r0 (by rw [hv30];decide);rw [hv30,show ar 30=some 1 by decide,AhH] at b1
   obtain ⟨y,hy⟩:=Fk (b3.trans b1.symm);obtain ⟨py,rfl⟩:=Fk (b2.trans b1.symm);have ry:=b4 0 py y (by rw [hv30];decide) rfl (by rw [hy];rfl);rw [hy] at h;simp only [List.getElem?_cons_zero,AhK] at h;split at h
   ·simp only [AhH,AhI] at h;obtain ⟨rfl,rfl,_⟩:=h;refine ⟨k1+1,1+c1,u1,1+(T1+1),by omega,⟨?_,by omega,Nat.le_trans (Nat.add_le_add_left (TR _ _) _) (by omega),fun h=>by omega⟩,by omega,py,ry,DQ h1 (by simp) q11 (Gs (k:=0) (T:=0) hrule (KF ry) ⟨1,fun g hg m hm=>?_⟩)⟩
    ·rw [Tm.surf,Tm.inn,Nat.add_mul];omega
    ·obtain ⟨g,rfl⟩:=psc g (by omega);rw [hp0,hv30,AaW,Of hm.e]
   ·simp at h
  ·rw [if_neg hv30] at h;simp only [AhH,AhI] at h;obtain ⟨rfl,rfl,_⟩:=h;obtain ⟨o0,n0,k0,t0,e0,hp0,ho0,_⟩:=L9 r0;have hns:sl x v0=3:=by
    unfold sl;rw [if_neg (fun h=>hx.1 h.1),if_neg (fun h=>hv30 h.2),if_neg (fun h=>hx.2 (gH h))]
   have hn0:sl (.mk 19 n [x]) V=1:=by unfold sl;rw [if_pos ⟨rfl,hVo⟩]
   refine ⟨k1,1+c1,u1+1,1+(T1+1),q1,⟨?_,by omega,by rw [hn0];omega,fun h=>?_⟩,by omega,_,hnode,DQ (kh:=0) h1 (by simp) q11 (Mj hrule ⟨1,fun g hg m=>?_⟩)⟩
   ·rw [Tm.surf,Tm.inn];omega
   ·have:=q4 h;rw [Tm.surf,hVz];omega
   ·obtain ⟨g,rfl⟩:=psc g (by omega);rw [hp0,vP _ _ _ _ _ _ _ _ _ _ (by rw [<- ho0];exact hv30)]
 have h13:op=13:=by omega
 subst h13;rw [show ar 13=some 4 by decide,AhH] at har
 obtain ⟨b0,z,b2,nn,rfl⟩:=TQ har.symm;obtain ⟨w0,vz,w2,vn,rfl⟩:=TQ q6;obtain ⟨p0,pz,p2,pn,rfl⟩:=TQ q7;obtain ⟨x0,y0⟩:=q8 0 b0 rfl (by decide);obtain ⟨x2,y2⟩:=q8 2 b2 rfl (by decide);simp only [List.getElem?_cons_succ,List.getElem?_cons_zero,AhH] at x0 y0 x2 y2;subst x0 y0 x2 y2;have rz:=q9 1 pz vz (by decide) rfl rfl;have rn:=q9 3 pn vn (by decide) rfl rfl;have hgd:=hgn.2.2.2.2.2.2.2 rfl b0 z b2 nn rfl;have hn0:=hgn.2.2.1 rfl;simp only [Tm.goodL,and_true] at hgl;simp only [Tm.wtL] at hw;rw [hV] at h00 hnode;obtain ⟨kr,cr,ur,Tr,a1,a2,a3,a4,a5,w',a6,a7⟩:=iA (f+1) (fun g hg=>ih g (by omega)) s1 n n env b0 b2 vz vn v s' e pz pn n [b0,z,b2,nn] h00 rz rn he rfl hgl.2.2.1 (by omega) (fun _=>hnode) (by
  intro px vx hx;rw [hn0];refine .node 13 0 0 [.nil,pz,.nil,px] [.clo env b0,vz,.clo env b2,vx] [b0,z,b2,nn] e env (by decide) (show ar 13=some 4 by decide) rfl rfl ?_ ?_ he.1 he.2
  ·intro i p r hb hp hr
   match i with
   | 0=>exact absurd hb (by decide)
   | 1=>simp only [List.getElem?_cons_succ,List.getElem?_cons_zero,AhH] at hp hr;subst hp hr;exact rz
   | 2=>exact absurd hb (by decide)
   | 3=>simp only [List.getElem?_cons_succ,List.getElem?_cons_zero,AhH] at hp hr;subst hp hr;exact hx
   | i+4=>simp at hp
  ·intro i b hb hi
   match i with
   | 0=>simp only [List.getElem?_cons_zero,AhH] at hi;subst hi;exact ⟨⟨hgl.1,by omega⟩,rfl,rfl⟩
   | 1=>exact absurd hb (by decide)
   | 2=>simp only [List.getElem?_cons_succ,List.getElem?_cons_zero,AhH] at hi;subst hi;exact ⟨⟨hgl.2.2.1,by omega⟩,rfl,rfl⟩
   | 3=>exact absurd hb (by decide)
   | i+4=>simp at hi)
 have hiw:b2.wt<=Tm.innL 13 0 [b0,z,b2,nn]:=by simp only [Tm.innL];rw [if_pos (by decide),if_neg (by decide),if_pos (by decide),if_neg (by decide)];omega
 have hsl:GQ 13 0 [b0,z,b2,nn] [.clo env b0,vz,.clo env b2,vn]=sl z vz+sl nn vn:=by
  simp only [GQ];rw [if_pos (show 0<Ak 13 0 by decide),if_neg (show ¬ 0<Ak 13 (0+1) by decide),if_pos (show 0<Ak 13 (0+1+1) by decide),if_neg (show ¬ 0<Ak 13 (0+1+1+1) by decide)]
  omega
 have hsn:sl nn vn=3:=by unfold sl;rw [if_neg (fun h=>hgd.2.1.1 h.1),if_neg (fun h=>hgd.2.1.2 h.1),if_neg (by rw [hgd.2.2];decide)]
 have hsz:1<=sl z vz:=by
  unfold sl;split
  ·omega
  ·rw [if_neg (fun h=>hgd.1 h.1)];split<;>omega
 have hst:sl (.mk 13 n [b0,z,b2,nn]) V+2<=sl z vz+sl nn vn:=by
  have e1:sl (.mk 13 n [b0,z,b2,nn]) V=if (Tm.mk 13 n [b0,z,b2,nn]).badR=true then 2 else 3:=by unfold sl;rw [if_neg (by simp [Tm.op]),if_neg (by simp [Tm.op])]
  rw [e1];split
  ·omega
  ·rename_i hnb;have hb:¬ (z.op=19\/z.badR=true):=by
    intro h;apply hnb;rw [Tm.badR];simpa using h
   have:sl z vz=3:=by unfold sl;rw [if_neg (fun h=>hb (.inl h.1)),if_neg (fun h=>hgd.1 h.1),if_neg (fun h=>hb (.inr h))]
   omega
 have hle:1+(c1+cr)<=(Tm.mk 13 n [b0,z,b2,nn]).surf+(k1+kr) * (Tm.mk 13 n [b0,z,b2,nn]).inn:=by rw [Tm.surf,Tm.inn,Nat.add_mul];have e2:kr * b2.wt<=kr * Tm.innL 13 0 [b0,z,b2,nn]:=Nat.mul_le_mul_left _ hiw;omega
 by_cases hk0:kr=0
 ·obtain ⟨z1,z2,z3⟩:=a5 hk0;subst hk0 z1 z2;rw [if_pos rfl] at a4;refine ⟨k1+0,1+(c1+0),u1+1,1+(T1+Tr),by omega,⟨hle,by omega,by rw [z3,<- hV];omega,fun h=>?_⟩,by omega,w',a6,DQ h1 (by simp) q11 a7⟩
  have:=q4 (by omega)
  rw [z3,<- hV,Tm.surf,hVz];omega
 ·rw [if_neg hk0] at a4;exact ⟨k1+kr,1+(c1+cr),u1+ur,1+(T1+Tr),by omega,⟨hle,by omega,Nat.le_trans (Nat.add_le_add_left (TR _ _) _) (by omega),fun h=>by omega⟩,by omega,w',a6,DQ h1 (by simp) q11 a7⟩
theorem Qh {f:Nat} (op:Int) (env:List RV) (ih:∀s t v s',AD f s 0 t env=some (v,s',0)->s<=1000->s'<=1000):∀(l:List Tm) (i:Nat) (s:Int) (vs:List RV) (s':Int),Be (fun s e t=>AD f s e t env) op env i l s 0=some (vs,s',0)->s<=1000->s'<=1000
 | [],i,s,vs,s',h,hs=>by
  simp only [Be,AhH,AhI] at h;omega
 | t::l,i,s,vs,s',h,hs=>by
  simp only [Be] at h;split at h
  ·cases hk:Be (fun s e t=>AD f s e t env) op env (i+1) l s 0 with
   | none=>rw [hk] at h;cases h
   | some q =>obtain ⟨vs1,s1,e1⟩:=q;rw [hk] at h;simp only [AhK,AhH,AhI] at h;obtain ⟨_,rfl,rfl⟩:=h;exact Qh op env ih l _ _ _ _ hk hs
  ·split at h
   ·cases h
   ·rename_i v s1 e1 he;cases hk:Be (fun s e t=>AD f s e t env) op env (i+1) l s1 e1 with
    | none=>rw [hk] at h;cases h
    | some q =>obtain ⟨vs2,s2,e2⟩:=q;rw [hk] at h;simp only [AhK,AhH,AhI] at h;obtain ⟨_,rfl,rfl⟩:=h;have h0:=Hu _ (fun s e t v s' h=>CL h) op env l _ _ _ _ _ hk;subst h0;exact Qh op env ih l _ _ _ _ hk (ih _ _ _ _ he hs)
theorem oC:∀f,(
           ∀s t env v s',AD f s 0 t env=some (v,s',0)->s<=1000->s'<=1000)/\(∀s v w s',headR f s 0 v=some (w,s',0)->s<=1000->s'<=1000):=by
 intro f
 induction f with
 | zero=>exact ⟨(by intro s t env v s' h;rw [AD] at h;cases h),(by intro s v w s' h;rw [headR] at h;cases h)⟩
 | succ f ih =>
  refine ⟨?_,?_⟩
  ·intro s t env v s' h hs;obtain ⟨op,n,ks⟩:=t;rw [AD] at h;rw [if_neg (by simp)] at h;split at h
   ·cases h
   split at h
   ·split at h
    ·split at h
     ·cases hr:env[((env.length:Int) - 1 - n).toNat]? with
      | none=>rw [hr] at h;cases h
      | some r =>rw [hr] at h;simp only [AhK,AhH,AhI] at h;omega
     ·cases h
    ·split at h
     ·simp only [AhH,AhI] at h;omega
     ·cases h
   split at h
   ·cases h
   split at h
   ·cases h
   split at h
   ·cases h
   rename_i vs s1 e1 hk;have he:=GZ h;subst he;exact ih.2 _ _ _ _ h (Qh op env (fun s t v s'=>ih.1 s t env v s') ks _ _ _ _ hk hs)
  ·intro s v w s' h hs;rw [headR] at h;rw [if_neg (by simp)] at h;split at h
   ·cases h
   split at h
   ·split at h
    ·cases h
    ·split at h
     ·split at h
      ·split at h
       ·split at h
        ·cases h
        ·exact ih.1 _ _ _ _ _ h (by omega)
       ·cases h
      ·simp at h
     ·simp only [AhH,AhI] at h;omega
   split at h
   ·split at h
    ·cases h
    ·rename_i k0 _;split at h
     ·split at h
      ·cases hx:k0.k[(1+v.op - 8).toNat]? with
       | none=>rw [hx] at h;cases h
       | some x=>rw [hx] at h;simp only [AhK,AhH,AhI] at h;omega
      ·simp at h
     ·simp only [AhH,AhI] at h;omega
   split at h
   ·split at h
    ·cases h
    ·rename_i k0 _;split at h
     ·split at h
      ·cases hx:k0.k[0]? with
       | none=>rw [hx] at h;cases h
       | some x=>rw [hx] at h;simp only [AhK,AhH,AhI] at h;omega
      ·simp at h
     ·simp only [AhH,AhI] at h;omega
   split at h
   ·split at h
    ·cases h
    ·rename_i k0 _;split at h
     ·split at h
      ·cases hx:k0.k[0]? with
       | none=>rw [hx] at h;cases h
       | some x=>rw [hx] at h;simp only [AhK,AhH,AhI] at h;omega
      ·simp at h
     ·simp only [AhH,AhI] at h;omega
   split at h
   ·split at h
    ·split at h
     ·split at h
      ·simp only [AhH,AhI] at h;omega
      ·simp at h
     ·split at h
      ·split at h
       ·split at h
        ·cases h
        ·split at h
         ·cases h
         ·rename_i vh s2 e2 hh;split at h
          ·cases h
          ·have he:=CL h;subst he;exact ih.1 _ _ _ _ _ h (ih.2 _ _ _ _ hh (by omega))
       ·simp at h
      ·simp only [AhH,AhI] at h;omega
    ·cases h
   ·simp only [AhH,AhI] at h;omega
theorem Kb {f:Nat} {op u d:Int}:∀(l:List RV) (i:Nat) (s nd e:Int) (ts:List Tm) (s' nd':Int),Bk (fun s nd e k u=>AU f s nd e k u d) f op u i l s nd e=some (ts,s',nd',0)->e=0
 | [],i,s,nd,e,ts,s',nd',h=>by
  simp only [Bk,AhH,AhI] at h;exact h.2.2.2
 | k::l,i,s,nd,e,ts,s',nd',h=>by
  simp only [Bk] at h;split at h
  ·cases h
  rename_i k1 s1 e1 hk;split at h
  ·cases h
  rename_i t s2 nd2 e2 hr;cases hrest:Bk (fun s nd e k u=>AU f s nd e k u d) f op u (i+1) l s2 nd2 e2 with
  | none=>rw [hrest] at h;cases h
  | some q =>
   obtain ⟨ts2,s3,nd3,e3⟩:=q;rw [hrest] at h;simp only [AhK,AhH,AhI] at h;obtain ⟨_,_,_,rfl⟩:=h
   have:=Kb l _ _ _ _ _ _ _ hrest
   subst this
   have:=FA hr
   subst this;split at hk
   ·split at hk
    ·cases hk
    ·exact CL hk
   ·simp only [AhH,AhI] at hk;exact hk.2.2
def oU (B f:Nat):Prop:=∀(s nd:Int) (v:RV) (u d:Int) (t:Tm) (s' nd':Int),AU f s nd 0 v u d=some (t,s',nd',0)->0<=nd->∀v',Rel B v' v->∃k c uu T N:Nat,s'=s+k/\nd'=nd+N/\nd'<=3000/\(s<=1000->s'<=1000)/\c+v.vsz<=N+B * k/\5 * uu<=3 * c+10 * k/\T<=N+c+uu+2 * k /\
 ∃F,∀g,F<=g->∀m,MOk m k T->RZ g v' u d m nd=some (t,Gd m k T,nd')
theorem vQ {B:Nat} (u:Int) (b:Nat):∀(i:Nat) p r,(Qy u b)[i]?=some p->(EY u b)[i]?=some r->Rel B p r:=by
 intro i p r hp hr;rw [Qy,List.getElem?_map] at hp;rw [EY,List.getElem?_map] at hr;cases hx:(List.range b)[i]? with
 | none=>rw [hx] at hp;cases hp
 | some j =>rw [hx] at hp hr;simp only [AhK,AhH] at hp hr;subst hp hr;exact .var _
theorem S5 {B f:Nat} (ih:oU B f) (op u d n n':Int) (kp0:List PV) (ts:List Tm) (e:List PV) (env:List RV) (he:F7 B e env):∀(l:List RV) (lp:List PV) (i:Nat) (s nd:Int) (rs:List Tm) (s' nd':Int),Bk (fun s nd e k u=>AU f s nd e k u (d+1)) f op u i l s nd 0=some (rs,s',nd',0)->0<=nd->nd<=3000->lp.length=l.length ->
  (∀j p r,Ak op (i+j)=0->lp[j]?=some p->l[j]?=some r->Rel B p r)->(∀j r,0<Ak op (i+j)->l[j]?=some r->∃b,ts[i+j]?=some b/\b.good/\b.wt<=B/\r=.clo env b) ->
  ∃k c uu T N:Nat,s'=s+k/\nd'=nd+N/\nd'<=3000/\(s<=1000->s'<=1000)/\c+RV.vszL op i l<=N+B * k/\5 * uu<=3 * c+10 * k/\T<=N+c+uu+2 * k /\
   ∃F,∀g,F<=g->∀m,MOk m k T->YA (fun v below m r=>RZ g v below (d+1) m r) (fun i l m=>opP g (.mk op n kp0 (.mk op n' ts) e) i l m) op u i lp m nd=some (some rs,Gd m k T,nd')
 | [],lp,i,s,nd,rs,s',nd',h,h0,h3,hl,_,_=>by
  simp only [Bk,AhH,AhI] at h;obtain ⟨rfl,rfl,rfl,_⟩:=h
  have:lp=[]:=List.eq_nil_of_length_eq_zero hl
  subst this;refine ⟨0,0,0,0,0,by omega,by omega,h3,id,by simp [RV.vszL],by omega,by omega,0,fun g _ m hm=>?_⟩;rw [YA,Of hm.e]
 | k::l,lp,i,s,nd,rs,s',nd',h,h0,h3,hl,hA,hB=>by
  obtain ⟨p,lp,rfl⟩:∃p lp',lp=p::lp':=by
   cases lp with
   | nil=>cases hl
   | cons p lp=>exact ⟨p,lp,rfl⟩
  simp only [Bk] at h;split at h
  ·cases h
  rename_i k1 s1 e1 hk;split at h
  ·cases h
  rename_i t s2 nd2 e2 hr;cases hrest:Bk (fun s nd e k u=>AU f s nd e k u (d+1)) f op u (i+1) l s2 nd2 e2 with
  | none=>rw [hrest] at h;cases h
  | some q =>
  obtain ⟨ts2,s3,nd3,e3⟩:=q;rw [hrest] at h;simp only [AhK,AhH,AhI] at h;obtain ⟨rfl,rfl,rfl,rfl⟩:=h;have h2:=Kb l _ _ _ _ _ _ _ hrest;subst h2;have h1:=FA hr;subst h1;have hA':∀j p r,Ak op (i+1+j)=0->lp[j]?=some p->l[j]?=some r->Rel B p r:=fun j p r a b c=>hA (j+1) p r (by rwa [show i+(j+1)=i+1+j by omega]) b c
  have hB':∀j r,0<Ak op (i+1+j)->l[j]?=some r->∃b,ts[i+1+j]?=some b/\b.good/\b.wt<=B/\r=.clo env b:=fun j r a b=>by
   obtain ⟨x,y⟩:=hB (j+1) r (by rwa [show i+(j+1)=i+1+j by omega]) b
   exact ⟨x,by rwa [show i+1+j=i+(j+1) by omega]⟩
  by_cases hb:0<Ak op i
  ·rw [if_pos hb] at hk;split at hk
   ·cases hk
   obtain ⟨b,hb1,hb2,hb3,rfl⟩:=hB 0 k (by simpa using hb) rfl;rw [Nat.add_zero] at hb1;rw [show (RV.clo env b).env=env from rfl,show (RV.clo env b).b=b from rfl] at hk
   have hb22:=AY op i;obtain ⟨ke,ce,ue,Te,d1,d2,d3,d4⟩:=L2 (R1 B f) (l:=Qy u (Ak op i)) (l':=EY u (Ak op i)) he (by rw [JA,Cw]) (vQ u _) hb2 hb3 hk;obtain ⟨w1,y1,F1,y2⟩:=Tu (op:=op) (n:=n) (n':=n') (ps:=kp0) hb1 (by rw [JA];exact hb22) d4;have hsle:=(oC f).1 _ _ _ _ _ hk;obtain ⟨kr,cr,ur,Tr,Nr,r1,r2,r3,r4,r5,r6,r7,F2,r8⟩:=ih s1 nd k1 _ _ t s2 nd2 hr h0 w1 y1;obtain ⟨kk,cc,uu,TT,NN,q1,q2,q3,q4,q5,q6,q7,F3,q8⟩:=S5 ih op u d n n' kp0 ts e env he l lp (i+1) s2 nd2 ts2 s3 nd3 hrest (by omega) (by omega) (by simpa using hl) hA' hB';have hde:=d2.le;have hdp:=d2.p;have hsi:=L7 b;refine ⟨ke+(kr+kk),ce+(cr+cc),ue+(ur+uu),Te+(Tr+TT),Nr+NN,by omega,by omega,q3,fun h=>q4 (r4 (hsle h)),?_,by omega,by omega,F1+F2+F3,fun g hg m hm=>?_⟩
   ·rw [RV.vszL,if_pos hb,Nat.mul_add,Nat.mul_add];have hce:ce<=k1.vsz+B * ke:=by
     cases hke:ke with
     | zero =>
      have:=d2.v hke
      rw [hke] at hde;omega
     | succ k' =>
      rw [hke] at hde;have e1:(k'+1) * b.wt<=(k'+1) * B:=Nat.mul_le_mul_left _ hb3;have e2:(k'+1) * b.wt=(k'+1) * b.surf+(k'+1) * b.inn:=by rw [<- hsi,Nat.mul_add]
      have e3:b.surf<=(k'+1) * b.surf:=Nat.le_mul_of_pos_left _ (by omega);rw [Nat.mul_comm B];omega
    omega
   ·rw [YA,if_pos hb,y2 g (by omega) m (LG hm)];have hm2:=Ij hm;simp only;rw [if_neg (by simp [Gd]),r8 g (by omega) _ (LG hm2)];simp only;rw [q8 g (by omega) _ (Ij hm2),E6,E6];simp only [AhK]
  ·rw [if_neg hb] at hk;simp only [AhH,AhI] at hk;obtain ⟨rfl,rfl,_⟩:=hk;have hb0:Ak op i=0:=by omega
   have hrel:=hA 0 p k (by simpa using hb0) rfl rfl;obtain ⟨kr,cr,ur,Tr,Nr,r1,r2,r3,r4,r5,r6,r7,F2,r8⟩:=ih s nd k _ _ t s2 nd2 hr h0 p hrel;obtain ⟨kk,cc,uu,TT,NN,q1,q2,q3,q4,q5,q6,q7,F3,q8⟩:=S5 ih op u d n n' kp0 ts e env he l lp (i+1) s2 nd2 ts2 s3 nd3 hrest (by omega) (by omega) (by simpa using hl) hA' hB';refine ⟨kr+kk,cr+cc,ur+uu,Tr+TT,Nr+NN,by omega,by omega,q3,fun h=>q4 (r4 h),?_,by omega,by omega,F2+F3,fun g hg m hm=>?_⟩
   ·rw [RV.vszL,if_neg hb,Nat.mul_add];omega
   ·rw [YA,if_neg hb];simp only;rw [if_neg (fun h=>h hm.e),r8 g (by omega) _ (LG hm)];simp only;rw [q8 g (by omega) _ (Ij hm),E6];simp only [AhK]
theorem YJ (B:Nat):∀f,oU B f:=by
 intro f
 induction f with
 | zero=>intro s nd v u d t s' nd' h;rw [AU] at h;cases h
 | succ f ih =>
  intro s nd v u d t s' nd' h h0 v' hv;rw [AU] at h;split at h
  ·cases h
  rename_i hr;by_cases hbig:3000<nd+1\/120<d
  ·rw [if_pos (show (0:Int)=0/\(3000<nd+1\/120<d) from ⟨rfl,hbig⟩)] at h
   simp at h
  rw [if_neg (show ¬ ((0:Int)=0/\(3000<nd+1\/120<d)) from fun h=>hbig h.2),if_neg (by simp)] at h
  have htick:∀{m:M3} {k T:Nat},MOk m k (1+T)->Hz ⟨m.s,m.w,if m.e=0/\(3000<nd+1\/120<d) then 5 else m.e⟩=some (Gd m 0 1):=by intro m k T hm;rw [if_neg (fun h=>hbig h.2)];exact Mp hm
  by_cases h1:v.op=1
  ·rw [if_pos h1] at h;simp only [AhH,AhI] at h;obtain ⟨rfl,rfl,rfl,_⟩:=h;obtain ⟨op,n,k,t0,e0,rfl,ho,hn⟩:=L9 hv;have hvz:v.vsz=1:=by
    cases hv with
    | var n=>simp [RV.var,RV.vsz,RV.vszL]
    | node op n n' kp kr ts e env h1'=>exact absurd h1 h1'
   refine ⟨0,0,0,1,1,by omega,by omega,by omega,id,by omega,by omega,by omega,1,fun g hg m hm=>?_⟩;obtain ⟨g,rfl⟩:=psc g (by omega);rw [RZ,if_neg (by omega),htick (k:=0) (T:=0) hm];simp only;rw [if_neg (by simp [Gd]),if_pos (by rw [<- ho];exact h1),if_neg (by rw [<- hn];omega),hn]
  ·rw [if_neg h1] at h;obtain ⟨n',kp,ts,e,env,rfl,b1,b2,b3,b4,b5,b6⟩:=HS hv h1;have b14:=ZF b1;cases hk:Bk (fun s nd e k u=>AU f s nd e k u (d+1)) f v.op u 0 v.k s (nd+1) 0 with
   | none=>rw [hk] at h;cases h
   | some q =>
   obtain ⟨rs,s1,nd1,e1⟩:=q;rw [hk] at h;simp only [AhK,AhH,AhI] at h;obtain ⟨rfl,rfl,rfl,rfl⟩:=h;obtain ⟨kk,cc,uu,TT,NN,q1,q2,q3,q4,q5,q6,q7,F3,q8⟩:=S5 ih v.op u d v.n n' kp ts e env b6 v.k kp 0 s (nd+1) rs s1 nd1 hk (by omega) (by omega) (by omega) (fun j p r a b c=>b4 j p r (by simpa using a) b c) (by
    intro j r a b;rw [Nat.zero_add] at a ⊢;have hj:j<ts.length:=by
     have:=(List.getElem?_eq_some_iff.1 b).1
     omega
    obtain ⟨⟨g1,g2⟩,_,g3⟩:=b5 j ts[j] a (List.getElem?_eq_getElem hj);rw [b,AhH] at g3;exact ⟨ts[j],List.getElem?_eq_getElem hj,g1,g2,g3⟩)
   have hvz:v.vsz=1+RV.vszL v.op 0 v.k:=by obtain ⟨a,b,c,d,e⟩:=v;rw [RV.vsz];rfl
   refine ⟨kk,cc,uu,1+TT,1+NN,q1,by omega,q3,q4,by omega,by omega,by omega,F3+20,fun g hg m hm=>?_⟩;obtain ⟨g,rfl⟩:=psc g (by omega);have hm':MOk (Gd m 0 1) kk TT:=Ij (k1:=0) ⟨hm.e,hm.w,hm.w2,by have:=hm.s;omega,hm.s2⟩;rw [RZ,if_neg (by omega),htick hm];simp only;rw [if_neg (by simp [Gd]),if_neg h1,if_neg (by omega),q8 g (by omega) _ hm',E6];simp only [Nat.zero_add]
def Zj {f:Nat} {t u:Tm} (hg:t.good) (hw:t.wt<=3000) (hs:t.shaped=true) (h:AH f t=some (u,0)):∃F,∀g,F<=g->T4 g t=some (u,0):=by
 rw [AH] at h;split at h
 ·cases h
 rename_i v s e he;split at h
 ·cases h
 rename_i w s2 nd2 e2 hr;simp only [AhH] at h;by_cases h2:e2=0
 ·subst h2;rw [if_neg (by simp)] at h;simp only [AhI,and_true] at h;subst h;have h1:=FA hr;subst h1;obtain ⟨k0,c0,u0,T0,a1,a2,a3,v',a4,F0,a5⟩:=R1 3000 f 0 t [] v s he hg hw [] (Sf _);obtain ⟨k1,c1,u1,T1,N,r1,r2,r3,r4,r5,r6,r7,F1,r8⟩:=YJ 3000 f s 0 v 0 1 w s2 nd2 hr (by omega) v' a4;have hs1:=(oC f).1 _ _ _ _ _ he (by omega);have hs2:=r4 hs1;have hc:=OX a2;have hp:=a2.p;have hk:k0+k1<=1000:=by omega
  have hc2:(k0+1) * t.wt<=(k0+1) * 3000:=Nat.mul_le_mul_left _ hw;have hvp:=WQ v;refine ⟨F0+F1,fun g hg=>?_⟩;have hm:MOk ⟨100000,5000000,0⟩ (k0+k1) (T0+T1):=⟨rfl,by simp only;omega,by simp,by simp only;omega,by simp⟩;rw [T4,if_neg (by rw [hs];simp),a5 g (by omega) _ (LG hm)];simp only;rw [if_neg (by simp [Gd]),r8 g (by omega) _ (Ij hm)];simp only;rw [if_neg (by simp [Gd])]
 ·rw [if_pos h2] at h;simp only [AhI] at h;exact absurd h.2 h2
theorem N7 {f:Nat} {op d:Int} {u k0:Nat} (hu:k0+u<=700000) (ih:∀(t:Tm) (u:Nat) (s nd:Int) (r:Tm) (s' nd':Int),AU f s nd 0 (t.val u) u d=some (r,s',nd',0)->t.stl->t.sc (k0+u)->k0+u+2 * t.wt<=700000->0<=s->s<=1000000->r=t/\s'=s) :
  ∀(l:List Tm) (i:Nat) (s nd:Int) (ts:List Tm) (s' nd':Int),Bk (fun s nd e k u=>AU f s nd e k u d) f op u i (Tm.valL op i l u) s nd 0=some (ts,s',nd',0)->Tm.stlL l->Tm.scL op i l (k0+u)->k0+u+2+2 * Tm.wtL l<=700000->0<=s->s<=1000000->ts=l/\s'=s
 | [],i,s,nd,ts,s',nd',h,_,_,_,_,_=>by
  simp only [Tm.valL,Bk,AhH,AhI] at h;exact ⟨h.1.symm,h.2.1.symm⟩
 | t::l,i,s,nd,ts,s',nd',h,hst,hsc,hw,h0,h1=>by
  have hbn:=AY op i;rw [Tm.stlL] at hst;rw [Tm.scL] at hsc;simp only [Tm.wtL] at hw;rw [Tm.valL,Bk] at h;have key:∀(v:RV) (s1 e1:Int) (r:Tm) (s2 nd2 e2:Int),v=t.val (u+Ak op i)->s1=s->AU f s1 nd e1 v ((u:Int)+Ak op i) d=some (r,s2,nd2,e2) ->
    ((Bk (fun s nd e k u=>AU f s nd e k u d) f op u (i+1) (Tm.valL op (i+1) l u) s2 nd2 e2).map fun (ts,s,nd,e)=>(r::ts,s,nd,e))=some (ts,s',nd',0)->ts=t::l/\s'=s:=by
   rintro v s1 e1 r s2 nd2 e2 rfl rfl hr hk;cases hk2:Bk (fun s nd e k u=>AU f s nd e k u d) f op u (i+1) (Tm.valL op (i+1) l u) s2 nd2 e2 with
   | none=>rw [hk2] at hk;cases hk
   | some q =>
    obtain ⟨ts2,s3,nd3,e3⟩:=q;rw [hk2] at hk;simp only [AhK,AhH,AhI] at hk;obtain ⟨rfl,rfl,rfl,rfl⟩:=hk
    have:=Kb _ _ _ _ _ _ _ _ hk2
    subst this
    have:=FA hr
    subst this;rw [show (u:Int)+(Ak op i:Int)=((u+Ak op i:Nat):Int) by omega] at hr
    obtain ⟨rfl,rfl⟩:=ih t _ _ _ _ _ _ hr hst.1 (by rw [<- Nat.add_assoc];exact hsc.1) (by omega) h0 h1;obtain ⟨rfl,rfl⟩:=N7 hu ih l (i+1) _ _ _ _ _ hk2 hst.2 hsc.2 (by omega) h0 h1;exact ⟨rfl,rfl⟩
  by_cases hb:0<Ak op i
  ·rw [if_pos hb,if_pos hb] at h;rw [show (RV.clo (EY 0 u) t).env=EY 0 u from rfl,show (RV.clo (EY 0 u) t).b=t from rfl,if_neg (by rw [Cw];omega),VO] at h
   split at h
   ·cases h
   rename_i v1 s1 e1 hev;split at h
   ·cases h
   rename_i r s2 nd2 e2 hr;obtain ⟨g,hg⟩:=HF h0 h1 k0 (t.wt+1) t (u+Ak op i) (by omega) hst.1 (by rw [<- Nat.add_assoc];exact hsc.1) (by omega);have a1:=Ca (show f<=f+g by omega) hev
   have a2:=Ca (show g<=f+g by omega) hg
   rw [a1] at a2;simp only [AhH,AhI] at a2;exact key _ _ _ _ _ _ _ a2.1 a2.2.1 hr h
  ·have hb0:Ak op i=0:=by omega
   rw [if_neg hb,if_neg hb] at h;simp only at h;split at h
   ·cases h
   rename_i r s2 nd2 e2 hr;exact key _ _ _ _ _ _ _ (by rw [hb0,Nat.add_zero]) rfl hr h
theorem eC (k0:Nat):∀(f:Nat) (t:Tm) (u:Nat) (s nd d:Int) (r:Tm) (s' nd':Int),AU f s nd 0 (t.val u) u d=some (r,s',nd',0)->t.stl->t.sc (k0+u)->k0+u+2 * t.wt<=700000->0<=s->s<=1000000->r=t/\s'=s:=by
 intro f
 induction f with
 | zero=>intro t u s nd d r s' nd' h;rw [AU] at h;cases h
 | succ f ih =>
  intro t u s nd d r s' nd' h hst hsc hw h0 h1;obtain ⟨op,n,ks⟩:=t;rw [Tm.stl] at hst;rw [Tm.sc] at hsc;simp only [Tm.wt] at hw;rw [AU] at h;split at h
  ·cases h
  by_cases hc:(if (0:Int)=0/\(3000<nd+1\/120<d) then (5:Int) else 0)≠0
  ·rw [if_pos hc] at h;simp only [AhH,AhI] at h;exact absurd (by simpa using h.2.2.2) hc
  rw [if_neg hc] at h;by_cases h1o:op=1
  ·subst h1o;rw [if_pos rfl] at hsc;have hks:ks=[]:=List.eq_nil_of_length_eq_zero (Option.some.inj hsc.1.symm);subst hks;rw [Tm.val,if_pos rfl,if_pos (show (RV.var ((u:Int) - 1 - n)).op=1 from rfl),show (RV.var ((u:Int) - 1 - n)).n=(u:Int) - 1 - n from rfl] at h
   simp only [AhH,AhI] at h;obtain ⟨rfl,rfl,_⟩:=h;exact ⟨by rw [show (u:Int) - 1 - ((u:Int) - 1 - n)=n by omega],rfl⟩
  ·rw [if_neg h1o] at hsc;have e:(Tm.mk op n ks).val u=.node op n (Tm.valL op 0 ks u):=by rw [Tm.val,if_neg h1o]
   rw [e,show (RV.node op n (Tm.valL op 0 ks u)).op=op from rfl,show (RV.node op n (Tm.valL op 0 ks u)).n=n from rfl,show (RV.node op n (Tm.valL op 0 ks u)).k=Tm.valL op 0 ks u from rfl,if_neg h1o] at h
   cases hk:Bk (fun s nd e k u=>AU f s nd e k u (d+1)) f op u 0 (Tm.valL op 0 ks u) s (nd+1) 0 with
   | none=>rw [hk] at h;cases h
   | some q =>obtain ⟨ts,s2,nd2,e2⟩:=q;rw [hk] at h;simp only [AhK,AhH,AhI] at h;obtain ⟨rfl,rfl,rfl,rfl⟩:=h;obtain ⟨rfl,rfl⟩:=N7 (k0:=k0) (by omega) (fun t u s nd r s' nd' a b c w x y=>ih t u s nd (d+1) r s' nd' a b c w x y) ks 0 s (nd+1) ts s2 nd2 hk hst.2 hsc.2.2 (by omega) h0 h1;exact ⟨rfl,rfl⟩
def AL {t u:Tm} {k f:Nat} (hst:t.stl) (hsc:t.sc k) (hw:k+2 * t.wt<=600000) (h:AH f t=some (u,0)):u=t:=by
 rw [AH] at h;split at h
 ·cases h
 rename_i v s e he;split at h
 ·cases h
 rename_i w s2 nd2 e2 hr;simp only [AhH] at h;by_cases h2:e2=0
 ·subst h2;rw [if_neg (by simp)] at h;simp only [AhI,and_true] at h;subst h
  have:=FA hr
  subst this;obtain ⟨g,hg⟩:=HF (s:=0) (by omega) (by omega) k (t.wt+1) t 0 (by omega) hst (by simpa using hsc) (by omega);have a1:=Ca (show f<=f+g by omega) he
  have a2:=Ca (show g<=f+g by omega) hg
  rw [show EY 0 0=[] from rfl,a1] at a2
  simp only [AhH,AhI] at a2;obtain ⟨rfl,rfl,_⟩:=a2;exact (eC k f t 0 0 0 1 w s2 nd2 hr hst (by simpa using hsc) (by omega) (by omega) (by omega)).1
 ·rw [if_pos h2] at h;simp only [AhI] at h;exact absurd h.2 h2
def We (ih:Ah) (xs:List IV) (h0:Hp) (k:KT (IV×Hp)):CJ EE ih (.fv (.func (.func 139) [] [])) xs h0 k=A0 [] false false ih 139 xs h0 k :=NK (by kernel_rfl) (by kernel_rfl) (by kernel_rfl) (by kernel_rfl) ..
def sA {n:Nat} (ka kb:List Tm) (hn:ka.length<n) (hl:ka.length<=1000000000) (ih:∀a∈ka,∀b∈kb,BA (SS dt n 139 [.fv a.enc,.fv b.enc] ⟨[],[]⟩) (.bool (a.same b))) :
  BA (SS dt (n+1) 150 [.fv (.sl (ka.map Tm.enc)),.fv (.sl (kb.map Tm.enc)),.fv (.func (.func 139) [] [])] ⟨[],[]⟩) (.bool (decide (ka.length=kb.length) && Tm.sameL ka kb)):=by
 rw [AcW];by_cases h:ka.length=kb.length
 ·have h':(ka.length:Int)=kb.length:=by omega
  rw [decide_eq_true h,Bool.true_and];simp only [HZ,SU,↓XX,XY,↓reduceIte,seval,h',↓AG,XD,heldB,AQ,XE];refine A9 (Q:=fun r=>BA r _) (fun k V H=>∃pa ra pb rb,ka=pa++ra/\kb=pb++rb/\pa.length=pb.length/\ra.length=k/\V=[.fv (.sl (kb.map Tm.enc)),.fv (.func (.func 139) [] []),.fv (.sl (ka.map Tm.enc)),iv ka.length,iv pa.length]/\H=⟨[],[]⟩/\Tm.sameL ra rb=Tm.sameL ka kb)
   ?_ n ka.length _ _ hn ⟨[],ka,[],kb,rfl,rfl,rfl,rfl,by rw [h];rfl,rfl,rfl⟩
  rintro k V H rec ⟨pa,ra,pb,rb,hka,hkb,hpl,hk,rfl,rfl,hs⟩ hrec;have hal:ka.length=pa.length+ra.length:=by rw [hka];simp
  have hbl:kb.length=pb.length+rb.length:=by rw [hkb];simp
  cases ra with
  | nil =>
   have hno:¬ ((pa.length:Int)<ka.length):=by rw [hal];simp
   rw [<- hs];simp only [HZ,Jv,SU,↓XX,XY,↓reduceIte,seval,hno,Tm.sameL];exact Aw _ _
  | cons a ra =>
   simp only [AhL] at hal hk;cases rb with
   | nil=>simp only [List.length_nil] at hbl;omega
   | cons b rb =>
    have hi:(pa.length:Int)<ka.length:=by omega
    have hga:=BY hka;have hgb:=BY hkb;rw [<- hpl] at hgb;have hc:=ih a (by rw [hka];simp) b (by rw [hkb];simp);have hwi:BB ((pa.length:Int)+1)=((pa++[a]).length:Int):=(Ax (by omega) (by omega)).trans (by simp);simp only [Tm.sameL] at hs;generalize a.same b=v at hc hs;obtain ⟨o,p,l⟩:=a;obtain ⟨o2,p2,l2⟩:=b;simp only [Am] at hc;cases v
    ·rw [<- hs];simp only [HZ,Jv,SU,↓XX,XY,↓reduceIte,seval,hi,↓Bp (AM hga) (Bi _ _ _),↓Bp (AM hgb) (Bi _ _ _),↓B6,↓We,↓Af hc];exact Aw _ _
    ·simp only [HZ,Jv,SU,↓XX,XY,↓reduceIte,seval,hi,↓Bp (AM hga) (Bi _ _ _),↓Bp (AM hgb) (Bi _ _ _),↓B6,↓We,↓Af hc,hwi,↓AG,XD,heldB,AQ,XE];exact hrec ra.length _ _ (by omega) ⟨pa++[.mk o p l],ra,pb++[.mk o2 p2 l2],rb,by rw [hka];simp,by rw [hkb];simp,by simp [hpl],rfl,rfl,rfl,by simpa using hs⟩
 ·have h':¬ (ka.length:Int)=kb.length:=by omega
  rw [decide_eq_false h,Bool.false_and];simp only [HZ,Jv,SU,↓XX,XY,↓reduceIte,seval,h'];exact Aw _ _
theorem RN:∀(n:Nat) (a b:Tm),2 * a.wt+2<n->a.wt<=100000000->BA (SS dt n 139 [.fv a.enc,.fv b.enc] ⟨[],[]⟩) (.bool (a.same b)):=by
 intro n
 induction n using Nat.strongRecOn with
 | ind n ih =>
  intro a b hn hw;obtain ⟨o,m,ka⟩:=a;obtain ⟨o',m',kb⟩:=b;simp only [Tm.wt] at hn hw;obtain ⟨n,rfl⟩:∃k,n=k+1+1:=⟨n - 2,by omega⟩;have hlen:=C3 ka;have hq:=sA (n:=n) ka kb (by omega) (by omega) (fun a ha b _=>ih n (by omega) a b (by have:=B2 ha;omega) (by have:=B2 ha;omega));rw [Aco,Am,Am,Tm.same];generalize (decide (ka.length=kb.length) && Tm.sameL ka kb)=v at hq;by_cases h1:o=o'
  ·by_cases h2:m=m'
   ·subst h1 h2;simp only [Zk,↓XX,XY,↓reduceIte,seval,↓Au hq];exact Aw _ _
   ·have h2':=decide_eq_false h2;subst h1;simp only [Zk,↓XX,XY,↓reduceIte,seval,h2];exact Aw _ _
  ·simp only [Zk,↓XX,XY,↓reduceIte,seval,h1];exact Aw _ _
def JQ {n:Nat} (hn:0<n) (o m:Int) (ks:List Tm) (d:Int) (h1:-4611686018427387904<=m+d) (h2:m+d<=4611686018427387904):BA (SS dt n 132 [.fv (Tm.mk o m ks).enc,iv d] ⟨[],[]⟩) (Tm.mk 1 (m+d) []).enc:=by
 obtain ⟨n,rfl⟩:=psc n (by omega);rw [AeG,Am,Am];have hw:BB (m+d)=m+d:=by rw [Ax]<;>omega
 simp only [pX,↓XX,XY,↓reduceIte,seval,hw];exact Bn rfl _
def TE {ks:List Bool} {ih:Ah} {f:FuncId} {args:List IV} {vs:List FV} {w:FV} {u:List (Ref×Blk)} {lg:List Ref} {own own':List (Nat×Blk)}
  (hz:∀(e:Option (IV×Hp)) (k:List IV->List Ref->List (Ref×Blk)->List Ref->Option (IV×Hp)),R0 args ks ⟨own,[]⟩ [] e k=k (vs.map .fv) [] u lg)
  (hr:IN (ih f (vs.map .fv) ⟨[],[]⟩) w) (hlay:∀k:Hp->Option (IV×Hp),Kl u ⟨own,[]⟩ k=k ⟨own',[]⟩) (k:KT (IV×Hp)) :
  A0 ks false false ih f args ⟨own,[]⟩ k=k (.fv w) ⟨own',[]⟩ lg (By u):=by
 rw [JK,hz,yI hr,hlay]
def Z1 {g:FuncId} (h:EE.pol.inl g=false) (h1:EE.pol.keep g=[]) (h2:EE.pol.split g=false) (h3:EE.pol.raw g=false) (caps:List FV) (ih:Ah) (xs:List IV) (h0:Hp) (k:KT (IV×Hp)) :
  CJ EE ih (.fv (.func (.func g) [] caps)) xs h0 k=A0 [] false false ih g (xs++caps.map .fv) h0 k:=by
 unfold CJ;simp only [callee,h,cond_false,bE,h1,h2,h3,AhM,List.nil_append]
def OF (s:Nat) (b c:Blk) (l:List (Nat×Blk)):AO s b ((s,c)::l)=(s,b)::l:=by simp only [AO,if_true]
def K9 {s j:Nat} (h:(s == j)=false) (b c:Blk) (l:List (Nat×Blk)):AO s b ((j,c)::l)=(j,c)::AO s b l:=by
 have:¬ s=j:=by simpa using h
 simp only [AO,if_neg this]
def oS (fn:Fn) (r r':Ref) (o o':Nat):CE fn [] [.ptr r o,.ptr r' o']=.func fn [] [.ptr r o,.ptr r' o']:=rfl
def tQ (fn:Fn) (r:Ref) (o:Nat):CE fn [] [.ptr r o]=.func fn [] [.ptr r o]:=rfl
def ZW {d s:Nat} {cs:List FV} {ro:Bool} {own:List (Nat×Blk)} {ext:List Blk} (hl:Aq s own=some (.row (cs.map .fv) ro)) (hn:cs.length<=300) (lg:List Ref) (e:Option (IV×Hp)) (k:FV->List (Ref×Blk)->List Ref->Option (IV×Hp)) :
  Dx (d+2) (.ptr (.own s) 0) ⟨own,ext⟩ lg e k=k (.fp cs 0) [(.own s,.row (cs.map .fv) true)] (.own s::lg):=by
 show (Dr (.own s) ⟨own,ext⟩ fun b=>D3 b fun cells=>cond (Nat.ble cells.length 300) (CI (Dx (d+1)) cells ⟨own,ext⟩ (.own s::lg) e fun cs u lg=>k (.fp cs 0) ((.own s,.row cells true)::u) lg) e)=_
 rw [IZ,Bx,hl];simp only [Option.bind_some,G4,List.length_map];rw [Bo,decide_eq_true hn,fI,MU]
def vD {s1 s2:Nat} {c1 c2:List FV} {r1 r2:Bool} {fn:Fn} {own:List (Nat×Blk)} {ext:List Blk} (h1:Aq s1 own=some (.row (c1.map .fv) r1)) (h2:Aq s2 own=some (.row (c2.map .fv) r2)) (n1:c1.length<=300) (n2:c2.length<=300)
  (lg:List Ref) (e:Option (IV×Hp)) (k:FV->List (Ref×Blk)->List Ref->Option (IV×Hp)) :
  Dx 12 (.func fn [] [.ptr (.own s1) 0,.ptr (.own s2) 0]) ⟨own,ext⟩ lg e k=k (.func fn [] [.fp c1 0,.fp c2 0]) [(.own s1,.row (c1.map .fv) true),(.own s2,.row (c2.map .fv) true)] (.own s2 :: .own s1::lg):=by
 show (CI (Dx 11) [] ⟨own,ext⟩ lg e fun x u lg=>CI (Dx 11) [.ptr (.own s1) 0,.ptr (.own s2) 0] ⟨own,ext⟩ lg e fun y v lg=>K5 u v fun w=>k (.func fn x y) w lg)=_
 rw [u9,Sa,ZW (d:=9) h1 n1,Sa,ZW (d:=9) h2 n2,u9];rfl
def qJ {s1:Nat} {c1:List FV} {r1:Bool} {fn:Fn} {own:List (Nat×Blk)} {ext:List Blk} (h1:Aq s1 own=some (.row (c1.map .fv) r1)) (n1:c1.length<=300)
  (lg:List Ref) (e:Option (IV×Hp)) (k:FV->List (Ref×Blk)->List Ref->Option (IV×Hp)) :
  Dx 12 (.func fn [] [.ptr (.own s1) 0]) ⟨own,ext⟩ lg e k=k (.func fn [] [.fp c1 0]) [(.own s1,.row (c1.map .fv) true)] (.own s1::lg):=by
 show (CI (Dx 11) [] ⟨own,ext⟩ lg e fun x u lg=>CI (Dx 11) [.ptr (.own s1) 0] ⟨own,ext⟩ lg e fun y v lg=>K5 u v fun w=>k (.func fn x y) w lg)=_
 rw [u9,Sa,ZW (d:=9) h1 n1,u9];rfl
def WX {ih:Ah} {f:FuncId} {x y w:FV} {a b:IV} {fn:Fn} {s1 s2:Nat} {c1 c2:List FV} {r1 r2:Bool} {own own':List (Nat×Blk)} (hr:IN (ih f [.fv x,.fv y,.fv (.func fn [] [.fp c1 0,.fp c2 0])] ⟨[],[]⟩) w) (ha:Bc a=some x) (hb:Bc b=some y)
  (h1:Aq s1 own=some (.row (c1.map .fv) r1)) (h2:Aq s2 own=some (.row (c2.map .fv) r2)) (h2':Aq s2 (AO s1 (.row (c1.map .fv) true) own)=some (.row (c2.map .fv) r2)) (n1:c1.length<=300) (n2:c2.length<=300)
  (ho:AO s2 (.row (c2.map .fv) true) (AO s1 (.row (c1.map .fv) true) own)=own') (k:KT (IV×Hp)) :
  A0 [] false false ih f [a,b,.func fn [] [.ptr (.own s1) 0,.ptr (.own s2) 0]] ⟨own,[]⟩ k=k (.fv w) ⟨own',[]⟩ [.own s2,.own s1] [.own s1,.own s2]:=by
 subst ho;refine TE (vs:=[x,y,.func fn [] [.fp c1 0,.fp c2 0]]) (u:=[(.own s1,.row (c1.map .fv) true),(.own s2,.row (c2.map .fv) true)]) (lg:=[.own s2,.own s1]) ?_ hr ?_ k
 ·intro e k;rw [vO,GU _ _ e _ ha,vO,GU _ _ e _ hb,vO,vD h1 h2 n1 n2,oZ];rfl
 ·intro k
  show (E0 own s1 fun _=>Bb own s1 (.row (c1.map .fv) true) fun own=>E0 own s2 fun _=>Bb own s2 (.row (c2.map .fv) true) fun own=>k ⟨own,_⟩)=_
  rw [Bx,h1,Option.bind_some,BN,Bx,h2',Option.bind_some,BN]
def fX {ih:Ah} {f:FuncId} {x y w:FV} {a b:IV} {fn:Fn} {s1:Nat} {c1:List FV} {r1:Bool} {own own':List (Nat×Blk)} (hr:IN (ih f [.fv x,.fv y,.fv (.func fn [] [.fp c1 0])] ⟨[],[]⟩) w) (ha:Bc a=some x) (hb:Bc b=some y)
  (h1:Aq s1 own=some (.row (c1.map .fv) r1)) (n1:c1.length<=300) (ho:AO s1 (.row (c1.map .fv) true) own=own') (k:KT (IV×Hp)) :
  A0 [] false false ih f [a,b,.func fn [] [.ptr (.own s1) 0]] ⟨own,[]⟩ k=k (.fv w) ⟨own',[]⟩ [.own s1] [.own s1]:=by
 subst ho;refine TE (vs:=[x,y,.func fn [] [.fp c1 0]]) (u:=[(.own s1,.row (c1.map .fv) true)]) (lg:=[.own s1]) ?_ hr ?_ k
 ·intro e k;rw [vO,GU _ _ e _ ha,vO,GU _ _ e _ hb,vO,qJ h1 n1,oZ];rfl
 ·intro k
  show (E0 own s1 fun _=>Bb own s1 (.row (c1.map .fv) true) fun own=>k ⟨own,_⟩)=_
  rw [Bx,h1,Option.bind_some,BN]
mutual
def Tm.each (g:Tm->Int->Tm):Tm->Int->Tm
 | .mk op m ks,a=>if op=1 then g (.mk op m ks) a else .mk op m (Tm.eachL g op 0 ks a)
def Tm.eachL (g:Tm->Int->Tm):Int->Nat->List Tm->Int->List Tm
 | _,_,[],_=>[]
 | op,i,t::l,a=>t.each g (a+Ak op i)::Tm.eachL g op (i+1) l a
end
abbrev Aab (op m:Int) (ks done:List Tm) (r:Nat):Hp :=⟨[(136314880,.row [iv op,iv m,.fv (.sl (ks.map Tm.enc))] false),(136314881,.row [iv 0,iv 0,.nils] false),(136317955,.row (BX done r) false)],[]⟩
theorem VV {F:FuncId} {caps:List FV} {g:Tm->Int->Tm} {c:Nat} (hd:∀(ih:Ah) (xs:List IV) (h0:Hp) (k:KT (IV×Hp)),CJ EE ih (.fv (.func (.func F) [] caps)) xs h0 k=A0 [] false false ih F (xs++caps.map .fv) h0 k)
  (P:Tm->Int->Prop) (hP:∀op m ks a i t,P (.mk op m ks) a->ks[i]?=some t->op≠1->P t (a+Ak op i))
  (hg:∀n,c<n->∀m ks a,P (.mk 1 m ks) a->BA (SS dt n F (.fv (Tm.mk 1 m ks).enc::iv a::caps.map .fv) ⟨[],[]⟩) (g (.mk 1 m ks) a).enc) :
  ∀(n:Nat) (t:Tm) (a:Int),t.wt+c+3<n->t.wk->0<=a->a+2 * t.wt<=1000000000->P t a->IN (SS dt n 130 [.fv t.enc,iv a,.fv (.func (.func F) [] caps)] ⟨[],[]⟩) (t.each g a).enc:=by
 intro n
 induction n with
 | zero=>intro t a h;omega
 | succ n ih =>
  intro t a hn hk ha ha2 hPt;obtain ⟨op,m,ks⟩:=t;simp only [Tm.wt] at hn ha2;rw [Adg];have hlen:=C3 ks;rw [Tm.wk] at hk;by_cases h1:op=1
  ·subst h1;rw [Tm.each,if_pos rfl];have hc:=hg n (by omega) m ks a hPt;generalize g (.mk 1 m ks) a=u at hc;obtain ⟨o,p,l⟩:=u;rw [Am] at hc ⊢;rw [Am] at hc ⊢;have hi:∀(own:List (Nat×Blk)) (k:KT (IV×Hp)),A0 [] false false (SS dt n) F ([.fv (.agg [.int .i64 1,.int .i64 m,.sl (ks.map Tm.enc)]),iv a]++caps.map .fv) ⟨own,[]⟩ k=k (.fv (.agg [.int .i64 o,.int .i64 p,.sl (l.map Tm.enc)])) ⟨own,[]⟩ [] []:=by
    intro own k;refine KJ (vs:=.agg [.int .i64 1,.int .i64 m,.sl (ks.map Tm.enc)] :: .int .i64 a::caps) ?_ hc ⟨own,[]⟩ k;have hcaps:∀l:List FV,Bt (l.map .fv)=some l:=by
     intro l
     induction l with
     | nil=>rfl
     | cons x l ih=>simp [Bt,ih,Bc,FH]
    simp [Bt,hcaps,Bc,FH,iv]
   simp only [Ho,XF,↓XX,XY,↓reduceIte,seval,↓hd,↓hi];exact Cz _ _
  ·rw [Tm.each,if_neg h1,Am,Am];simp only [Ho,XF,↓XX,XY,↓reduceIte,seval,h1,↓qV (show ks.length<=1000 by omega),↓AG,XD,heldB,AQ,XE,GS,EX]
   refine A9 (Q:=fun r=>IN r _) (fun k V H=>∃(pre rest done:List Tm),ks=pre++rest/\rest.length=k/\done.length=pre.length /\
     V=[iv a,.fv (.func (.func F) [] caps),.ptr (.own 136314880) 0,.ptr (.own 136314881) 0,.slc (.own 136317955) 3 ks.length,.fv (.sl (ks.map Tm.enc)),iv ks.length,iv pre.length] /\
     H=Aab op m ks done rest.length/\done++Tm.eachL g op pre.length rest a=Tm.eachL g op 0 ks a)
    ?_ n ks.length _ _ (by omega) ⟨[],ks,[],rfl,rfl,rfl,rfl,rfl,rfl⟩
   rintro k V H rec ⟨pre,rest,done,hks,hl,hdl,rfl,rfl,hts⟩ hrec;have hkl:ks.length=pre.length+rest.length:=by rw [hks];simp
   cases rest with
   | nil =>
    have hno:¬ ((pre.length:Int)<ks.length):=by rw [hkl];simp
    rw [Tm.eachL,List.append_nil] at hts;rw [<- hts];simp only [Ho,MG,XF,↓XX,XY,↓reduceIte,seval,hno];rw [show ks.length=done.length by rw [hdl,hkl];simp]
    exact ⟨_,_,rfl,_,_,fun e0 K=>dB (by rfl) (by simp only [List.length_nil] at hkl;omega) [] e0 K⟩
   | cons x rest =>
    have hi:(pre.length:Int)<ks.length:=by rw [hkl];simp;omega
    have hg2:=BY hks;have hxw:=B2 (t:=x) (l:=ks) (by rw [hks];simp);have hb:=I1 (n:=n) (by omega) op pre.length;have hble:=AY op pre.length;have hs:=ih x (a+Ak op pre.length) (by omega) (Kd hk.2 (by rw [hks];simp)) (by omega) (by omega) (hP _ _ _ _ _ _ hPt hg2 h1);have hwa:BB (a+Ak op pre.length)=a+Ak op pre.length:=by rw [Ax]<;>omega
    have hwi:BB ((pre.length:Int)+1)=((pre++[x]).length:Int):=(Ax (by omega) (by omega)).trans (by simp);have hin:pre.length<ks.length:=by omega
    rw [Tm.eachL] at hts;generalize x.each g (a+Ak op pre.length)=y at hs hts;have hst:=fun {β:Type}=>UM (β:=β) done rest.length y.op y.n y.kids;rw [hdl] at hst;obtain ⟨o,p,l⟩:=x;obtain ⟨o2,p2,l2⟩:=y;simp only [Tm.op,Tm.n,Tm.kids] at hst;rw [Am,Am] at hs;simp only [AhL] at hl;simp only [Ho,MG,XF,↓XX,XY,↓reduceIte,seval,hi,↓Bp (AM hg2) (Bi _ _ _),↓B6,↓Af hb,hwa,hwi,↓Au (ZV hs),↓LS hin,↓hst,↓AG,XD,heldB,AQ,XE,GS,EX];exact hrec rest.length _ _ (by omega) ⟨pre++[.mk o p l],rest,done++[.mk o2 p2 l2],by rw [hks];simp,rfl,by simp [hdl],rfl,rfl,by rw [<- hts];simp⟩
def Ga (d c:Int):Tm->Int->Tm
 | .mk _ m _,a=>.mk 1 (if c<=m - a then m+d else m) []
def xG (K:Nat) (t:Tm) (a:Int):Prop:=0<=a/\∃k:Nat,t.sc k/\(k:Int)<=K+a
theorem OW {K:Nat} (op m:Int) (ks:List Tm) (a:Int) (i:Nat) (t:Tm) (h:xG K (.mk op m ks) a) (hg:ks[i]?=some t) (_:op≠1):xG K t (a+Ak op i):=by
 obtain ⟨h0,k,hk,hl⟩:=h;rw [Tm.sc] at hk
 have:=GO hk.2.2 hg
 rw [Nat.zero_add] at this;exact ⟨by omega,_,this,by omega⟩
theorem Oy {K:Nat} {m a:Int} {ks:List Tm} (h:xG K (.mk 1 m ks) a):ks=[]/\0<=m/\m<K+a/\0<=a:=by
 obtain ⟨h0,k,hk,hl⟩:=h;rw [Tm.sc,if_pos rfl] at hk;have h1:ar 1=some 0:=by decide
 rw [h1] at hk;have h2:ks.length=0:=by have:=hk.1;simp only [AhH] at this;omega
 exact ⟨List.length_eq_zero_iff.1 h2,hk.2.1.1,by omega,h0⟩
theorem aF (caps:List FV) (ih:Ah) (xs:List IV) (h0:Hp) (k:KT (IV×Hp)):CJ EE ih (.fv (.func (.func 131) [] caps)) xs h0 k=A0 [] false false ih 131 (xs++caps.map .fv) h0 k :=Z1 (by kernel_rfl) (by kernel_rfl) (by kernel_rfl) (by kernel_rfl) caps ..
theorem Yi {n:Nat} (hn:1<n) (d c m a:Int) (ks:List Tm) (hm1:0<=m) (hm2:m<=100000000000) (ha:0<=a) (ha2:a<=100000000000) (hd1:-100000000000<=d) (hd2:d<=100000000000) :
  BA (SS dt n 131 [.fv (Tm.mk 1 m ks).enc,iv a,.fv (.fp [.int .i64 c] 0),.fv (.fp [.int .i64 d] 0)] ⟨[],[]⟩) (Ga d c (.mk 1 m ks) a).enc:=by
 obtain ⟨n,rfl⟩:=psc n (by omega);rw [Acm];have hw:BB (m - a)=m - a:=by rw [Ax]<;>omega
 have h1:=JQ (n:=n) (by omega) 1 m ks d (by omega) (by omega);have h0:=JQ (n:=n) (by omega) 1 m ks 0 (by omega) (by omega);rw [Am] at h1 h0 ⊢;rw [Ga];by_cases h:c<=m - a
 ·rw [if_pos h];rw [Am] at h1 ⊢;simp only [iS,↓XX,XY,↓reduceIte,seval,hw,h,↓Af h1];exact Aw _ _
 ·rw [if_neg h];rw [Int.add_zero,Am] at h0;rw [Am];simp only [iS,↓XX,XY,↓reduceIte,seval,hw,h,↓Af h0];exact Aw _ _
theorem QK {n:Nat} {t:Tm} {d c:Int} {K:Nat} (hn:t.wt+6<n) (hw:t.wk) (h2:2 * t.wt<=1000000000) (hs:t.sc K) (hK:K<=1000000000) (hd1:-1000000000<=d) (hd2:d<=1000000000) :
  BA (SS dt n 99 [.fv t.enc,iv d,iv c] ⟨[],[]⟩) (t.each (Ga d c) 0).enc:=by
 obtain ⟨n,rfl⟩:=psc n (by omega);rw [c99];have hc:=VV (F:=131) (caps:=[.fp [.int .i64 c] 0,.fp [.int .i64 d] 0]) (g:=Ga d c) (c:=1) (aF _) (fun t a=>xG K t a/\a<=1000000000/\a+2 * t.wt<=1000000000)
  (fun op m ks a i t h hg ho=>⟨OW op m ks a i t h.1 hg ho,by
   have hb:=AY op i;have hwm:=B2 (List.mem_of_getElem? hg)
   have:=h.2.2
   simp only [Tm.wt] at this;omega,by
   have hb:=AY op i;have hwm:=B2 (List.mem_of_getElem? hg)
   have:=h.2.2
   simp only [Tm.wt] at this;omega⟩)
  (fun n hn m ks a h=>by
   obtain ⟨rfl,h1,h2,h3⟩:=Oy h.1;exact Yi hn d c m a [] h1 (by omega) h3 (by omega) (by omega) (by omega))
  n t 0 (by omega) hw (by omega) (by omega) ⟨⟨by omega,K,hs,by omega⟩,by omega,by omega⟩
 generalize t.each (Ga d c) 0=y at hc;obtain ⟨o2,p2,l2⟩:=y;obtain ⟨o,p,l⟩:=t;rw [Am,Am] at hc;rw [Am,Am];simp only [S99,↓XX,XY,↓reduceIte,seval,↓gen_val',↓oS]
 (try unfold is0);rw [WX hc rfl rfl (by rfl) (by rfl) (by rfl) (by simp) (by simp) rfl]
 simp only [↓XX,XY,↓reduceIte,seval,↓OF,↓K9];exact Aw _ _
mutual
theorem Iz (d c:Int):∀(t:Tm) (k:Nat) (a:Int),t.sc k->k+2 * t.wt<=2000000000->-1000000000<=d->d<=1000000000->t.each (Ga d c) a=t.shift d (c+a)
 | .mk op m ks,k,a,h,hk,h1,h2=>by
  rw [Tm.sc] at h;rw [Tm.wt] at hk;by_cases ho:op=1
  ·subst ho;have h3:ar 1=some 0:=by decide
   rw [h3,if_pos rfl] at h;have h4:ks=[]:=List.length_eq_zero_iff.1 (by have:=h.1;simp only [AhH] at this;omega);subst h4;rw [Tm.each,if_pos rfl,Ga,Tm.shift,Tm.shiftL];have hw:BB (m+d)=m+d:=by
    have:=h.2.1
    rw [Ax]<;>omega
   rw [hw];by_cases hc:c<=m - a
   ·rw [if_pos hc,if_pos ⟨rfl,by omega⟩]
   ·rw [if_neg hc,if_neg (fun h=>hc (by omega))]
  ·rw [Tm.each,if_neg ho,Tm.shift,if_neg (fun h=>ho h.1)];congr 1
   have:=eachL_shift d c op 0 ks k a h.2.2 (by omega) h1 h2
   exact this
theorem eachL_shift (d c:Int):∀(op:Int) (i:Nat) (l:List Tm) (k:Nat) (a:Int),Tm.scL op i l k->k+2+2 * Tm.wtL l<=2000000000->-1000000000<=d->d<=1000000000->Tm.eachL (Ga d c) op i l a=Tm.shiftL op i l d (c+a)
 | _,_,[],_,_,_,_,_,_=>by rw [Tm.eachL,Tm.shiftL]
 | op,i,t::l,k,a,h,hk,h1,h2=>by
  rw [Tm.scL] at h;rw [Tm.eachL,Tm.shiftL];have hb:=AY op i;rw [Tm.wtL] at hk;rw [Iz d c t (k+Ak op i) (a+Ak op i) h.1 (by omega) h1 h2,eachL_shift d c op (i+1) l k a h.2 (by omega) h1 h2,Int.add_assoc]
end
def G8 (n:Int) (u:Tm):Tm->Int->Tm
 | .mk _ m _,a=>if n<m - a then .mk 1 (m+-1) [] else if m - a=n then u.each (Ga a 0) 0 else .mk 1 (m+0) []
theorem sW (caps:List FV) (ih:Ah) (xs:List IV) (h0:Hp) (k:KT (IV×Hp)):CJ EE ih (.fv (.func (.func 147) [] caps)) xs h0 k=A0 [] false false ih 147 (xs++caps.map .fv) h0 k :=Z1 (by kernel_rfl) (by kernel_rfl) (by kernel_rfl) (by kernel_rfl) caps ..
theorem gX {n:Nat} {v:Int} {u:Tm} {K:Nat} (m a:Int) (ks:List Tm) (hn:u.wt+8<n) (hw:u.wk) (h2:2 * u.wt<=1000000000) (hs:u.sc K) (hK:K<=1000000000) (hm1:0<=m) (hm2:m<=100000000000) (ha:0<=a) (ha2:a<=1000000000) :
  BA (SS dt n 147 [.fv (Tm.mk 1 m ks).enc,iv a,.fv (.fp [.int .i64 v] 0),.fv (.fp [.int .i64 u.op,.int .i64 u.n,.sl (u.kids.map Tm.enc)] 0)] ⟨[],[]⟩) (G8 v u (.mk 1 m ks) a).enc:=by
 obtain ⟨n,rfl⟩:=psc n (by omega);rw [AbY];have hw1:BB (m - a)=m - a:=by rw [Ax]<;>omega
 have h1:=JQ (n:=n) (by omega) 1 m ks (-1) (by omega) (by omega);have h0:=JQ (n:=n) (by omega) 1 m ks 0 (by omega) (by omega);have hsh:=QK (n:=n) (d:=a) (c:=0) (by omega) hw h2 hs hK (by omega) (by omega);rw [Am] at h1 h0 ⊢;rw [G8];by_cases h:v<m - a
 ·rw [if_pos h];rw [Am] at h1 ⊢;simp only [dU,↓XX,XY,↓reduceIte,seval,hw1,h,↓Af h1];exact Aw _ _
 ·rw [if_neg h];by_cases he:m - a=v
  ·have hwv:BB v=v:=by rw [<- he];exact hw1
   rw [if_pos he];generalize u.each (Ga a 0) 0=y at hsh;obtain ⟨o2,p2,l2⟩:=y;obtain ⟨o,p,l⟩:=u;rw [Am,Am] at hsh;rw [Am];simp only [dU,↓XX,XY,↓reduceIte,seval,hw1,hwv,h,he,Tm.op,Tm.n,Tm.kids,↓Au hsh,Int.lt_irrefl];exact Aw _ _
  ·rw [if_neg he];rw [Am] at h0 ⊢;simp only [dU,↓XX,XY,↓reduceIte,seval,hw1,h,he,↓Af h0];exact Aw _ _
theorem d6 {n:Nat} {t u:Tm} {v:Int} {K:Nat} (hn:t.wt+u.wt+14<n) (hw:t.wk) (h2:2 * t.wt<=1000000000) (hs:t.sc K) (hwu:u.wk) (hu2:2 * u.wt<=1000000000) (hsu:u.sc K) (hK:K<=1000000000) :
  BA (SS dt n 135 [.fv t.enc,iv v,.fv u.enc] ⟨[],[]⟩) (t.each (G8 v u) 0).enc:=by
 obtain ⟨n,rfl⟩:=psc n (by omega);rw [Ade];have hc:=VV (F:=147) (caps:=[.fp [.int .i64 v] 0,.fp [.int .i64 u.op,.int .i64 u.n,.sl (u.kids.map Tm.enc)] 0]) (g:=G8 v u) (c:=u.wt+8) (sW _) (fun t a=>xG K t a/\a<=1000000000/\a+2 * t.wt<=1000000000)
  (fun op m ks a i t h hg ho=>⟨OW op m ks a i t h.1 hg ho,by
   have hb:=AY op i;have hwm:=B2 (List.mem_of_getElem? hg)
   have:=h.2.2
   simp only [Tm.wt] at this;omega,by
   have hb:=AY op i;have hwm:=B2 (List.mem_of_getElem? hg)
   have:=h.2.2
   simp only [Tm.wt] at this;omega⟩)
  (fun n hn m ks a h=>by
   obtain ⟨rfl,h1,h2,h3⟩:=Oy h.1;exact gX m a [] hn hwu hu2 hsu hK h1 (by omega) h3 (by omega))
  n t 0 (by omega) hw (by omega) (by omega) ⟨⟨by omega,K,hs,by omega⟩,by omega,by omega⟩
 generalize t.each (G8 v u) 0=y at hc;obtain ⟨o2,p2,l2⟩:=y;obtain ⟨o,p,l⟩:=t;obtain ⟨o3,p3,l3⟩:=u;rw [Am,Am] at hc;rw [Am,Am,Am];simp only [Tm.op,Tm.n,Tm.kids] at hc;simp only [wU,↓XX,XY,↓reduceIte,seval,↓gen_val',↓oS]
 (try unfold is0);rw [WX hc rfl rfl (by rfl) (by rfl) (by rfl) (by simp) (by simp) rfl]
 simp only [↓XX,XY,↓reduceIte,seval,↓OF,↓K9];exact Aw _ _
mutual
def Tm.some1 (g:Int->Int->Bool):Tm->Int->Bool
 | .mk op m ks,a=>if op=1 then g m a else Tm.someL g op 0 ks a
def Tm.someL (g:Int->Int->Bool):Int->Nat->List Tm->Int->Bool
 | _,_,[],_=>false
 | op,i,t::l,a=>t.some1 g (a+Ak op i) || Tm.someL g op (i+1) l a
end
def Mq (v:Int) (m a:Int):Bool:=decide (m - a=v) && decide (a<=m)
theorem l9 (caps:List FV) (ih:Ah) (xs:List IV) (h0:Hp) (k:KT (IV×Hp)):CJ EE ih (.fv (.func (.func 146) [] caps)) xs h0 k=A0 [] false false ih 146 (xs++caps.map .fv) h0 k :=Z1 (by kernel_rfl) (by kernel_rfl) (by kernel_rfl) (by kernel_rfl) caps ..
theorem eB {n:Nat} (hn:0<n) (v m a:Int) (hm1:0<=m) (hm2:m<=100000000000) (ha:0<=a) (ha2:a<=1000000000):BA (SS dt n 146 [iv m,iv a,.fv (.fp [.int .i64 v] 0)] ⟨[],[]⟩) (.bool (Mq v m a)):=by
 obtain ⟨n,rfl⟩:=psc n (by omega);rw [Ack];have hw1:BB (m - a)=m - a:=by rw [Ax]<;>omega
 unfold Mq;by_cases h:m - a=v
 ·have hwv:BB v=v:=by rw [<- h];exact hw1
  rw [decide_eq_true h];by_cases h':a<=m
  ·rw [decide_eq_true h'];simp only [Z9,↓XX,XY,↓reduceIte,seval,hw1,hwv,h,h'];exact Aw _ _
  ·rw [decide_eq_false h'];simp only [Z9,↓XX,XY,↓reduceIte,seval,hw1,hwv,h,h'];exact Aw _ _
 ·rw [decide_eq_false h];simp only [Z9,↓XX,XY,↓reduceIte,seval,hw1,h];exact Aw _ _
theorem iC {F:FuncId} {caps:List FV} {g:Int->Int->Bool} {c:Nat} (hd:∀(ih:Ah) (xs:List IV) (h0:Hp) (k:KT (IV×Hp)),CJ EE ih (.fv (.func (.func F) [] caps)) xs h0 k=A0 [] false false ih F (xs++caps.map .fv) h0 k)
  (P:Tm->Int->Prop) (hP:∀op m ks a i t,P (.mk op m ks) a->ks[i]?=some t->op≠1->P t (a+Ak op i))
  (hg:∀n,c<n->∀m ks a,P (.mk 1 m ks) a->BA (SS dt n F (iv m::iv a::caps.map .fv) ⟨[],[]⟩) (.bool (g m a))) :
  ∀(n:Nat) (t:Tm) (a:Int),t.wt+c+3<n->0<=a->a+2 * t.wt<=1000000000->P t a->IN (SS dt n 145 [.fv t.enc,iv a,.fv (.func (.func F) [] caps)] ⟨[],[]⟩) (.bool (t.some1 g a)):=by
 intro n
 induction n with
 | zero=>intro t a h;omega
 | succ n ih =>
  intro t a hn ha ha2 hPt;obtain ⟨op,m,ks⟩:=t;simp only [Tm.wt] at hn ha2;rw [Aeq,Am];have hlen:=C3 ks;by_cases h1:op=1
  ·subst h1;rw [Tm.some1,if_pos rfl];have hc:=hg n (by omega) m ks a hPt;have hi:∀(own:List (Nat×Blk)) (k:KT (IV×Hp)),A0 [] false false (SS dt n) F ([iv m,iv a]++caps.map .fv) ⟨own,[]⟩ k=k (.fv (.bool (g m a))) ⟨own,[]⟩ [] []:=by
    intro own k;refine KJ (vs:=.int .i64 m :: .int .i64 a::caps) ?_ hc ⟨own,[]⟩ k;have hcaps:∀l:List FV,Bt (l.map .fv)=some l:=by
     intro l
     induction l with
     | nil=>rfl
     | cons x l ih=>simp [Bt,ih,Bc,FH]
    simp [Bt,hcaps,Bc,FH,iv]
   simp only [HH,Tz,↓XX,XY,↓reduceIte,seval,↓hd,↓hi];exact Cz _ _
  ·rw [Tm.some1,if_neg h1];simp only [HH,Tz,↓XX,XY,↓reduceIte,seval,h1,↓AG,XD,heldB,AQ,XE];refine A9 (Q:=fun r=>IN r _) (fun k V H=>∃(pre rest:List Tm),ks=pre++rest/\rest.length=k /\
     V=[iv a,.fv (.func (.func F) [] caps),.ptr (.own 152043520) 0,.fv (.sl (ks.map Tm.enc)),iv ks.length,iv pre.length] /\
     H=⟨[(152043520,.row [iv op,iv m,.fv (.sl (ks.map Tm.enc))] false)],[]⟩/\Tm.someL g op pre.length rest a=Tm.someL g op 0 ks a)
    ?_ n ks.length _ _ (by omega) ⟨[],ks,rfl,rfl,rfl,rfl,rfl⟩
   rintro k V H rec ⟨pre,rest,hks,hl,rfl,rfl,hts⟩ hrec;have hkl:ks.length=pre.length+rest.length:=by rw [hks];simp
   cases rest with
   | nil =>
    have hno:¬ ((pre.length:Int)<ks.length):=by rw [hkl];simp
    rw [Tm.someL] at hts;rw [<- hts];simp only [HH,Lt,Tz,↓XX,XY,↓reduceIte,seval,hno];exact Cz _ _
   | cons x rest =>
    have hi:(pre.length:Int)<ks.length:=by rw [hkl];simp;omega
    have hg2:=BY hks;have hxw:=B2 (t:=x) (l:=ks) (by rw [hks];simp);have hb:=I1 (n:=n) (by omega) op pre.length;have hble:=AY op pre.length;have hs:=ih x (a+Ak op pre.length) (by omega) (by omega) (by omega) (hP _ _ _ _ _ _ hPt hg2 h1);have hwa:BB (a+Ak op pre.length)=a+Ak op pre.length:=by rw [Ax]<;>omega
    have hwi:BB ((pre.length:Int)+1)=((pre++[x]).length:Int):=(Ax (by omega) (by omega)).trans (by simp);rw [Tm.someL] at hts;generalize x.some1 g (a+Ak op pre.length)=y at hs hts;obtain ⟨o,p,l⟩:=x;rw [Am] at hs;simp only [AhL] at hl;cases y
    ·simp only [HH,Lt,Tz,↓XX,XY,↓reduceIte,seval,hi,↓Bp (AM hg2) (Bi _ _ _),↓B6,↓Af hb,hwa,hwi,↓Au (ZV hs),↓AG,XD,heldB,AQ,XE];exact hrec rest.length _ _ (by omega) ⟨pre++[.mk o p l],rest,by rw [hks];simp,rfl,rfl,rfl,by simpa using hts⟩
    ·rw [<- hts];simp only [HH,Lt,Tz,↓XX,XY,↓reduceIte,seval,hi,↓Bp (AM hg2) (Bi _ _ _),↓B6,↓Af hb,hwa,hwi,↓Au (ZV hs),Bool.true_or];exact Cz _ _
theorem Vk {n:Nat} {t:Tm} {v:Int} {K:Nat} (hn:t.wt+6<n) (h2:2 * t.wt<=1000000000) (hs:t.sc K) (hK:K<=1000000000):BA (SS dt n 134 [.fv t.enc,iv v] ⟨[],[]⟩) (.bool (t.some1 (Mq v) 0)):=by
 obtain ⟨n,rfl⟩:=psc n (by omega);rw [Acq];have hc:=iC (F:=146) (caps:=[.fp [.int .i64 v] 0]) (g:=Mq v) (c:=0) (l9 _) (fun t a=>xG K t a/\a<=1000000000/\a+2 * t.wt<=1000000000)
  (fun op m ks a i t h hg ho=>⟨OW op m ks a i t h.1 hg ho,by
   have hb:=AY op i;have hwm:=B2 (List.mem_of_getElem? hg)
   have:=h.2.2
   simp only [Tm.wt] at this;omega,by
   have hb:=AY op i;have hwm:=B2 (List.mem_of_getElem? hg)
   have:=h.2.2
   simp only [Tm.wt] at this;omega⟩)
  (fun n hn m ks a h=>by
   obtain ⟨rfl,h1,h2,h3⟩:=Oy h.1;exact eB hn v m a h1 (by omega) h3 (by omega))
  n t 0 (by omega) (by omega) (by omega) ⟨⟨by omega,K,hs,by omega⟩,by omega,by omega⟩
 obtain ⟨o,p,l⟩:=t;rw [Am] at hc ⊢;simp only [qH,↓XX,XY,↓reduceIte,seval,↓gen_val',↓tQ]
 (try unfold is0);rw [fX hc rfl rfl (by rfl) (by simp) rfl]
 exact Aw _ _
mutual
theorem Ix (v:Int) (u:Tm) {K:Nat} (hu:u.sc K) (huw:K+2 * u.wt<=1000000000):∀(t:Tm) (k:Nat) (a:Int),t.sc k->k+2 * t.wt<=1000000000->0<=a->a+2 * t.wt<=1000000000->t.each (G8 v u) a=t.subst (v+a) a u
 | .mk op m ks,k,a,h,hk,h1,h2=>by
  rw [Tm.sc] at h;rw [Tm.wt] at hk h2;by_cases ho:op=1
  ·subst ho;have h3:ar 1=some 0:=by decide
   rw [h3,if_pos rfl] at h;have h4:ks=[]:=List.length_eq_zero_iff.1 (by have:=h.1;simp only [AhH] at this;omega);subst h4;rw [Tm.each,if_pos rfl,G8,Tm.subst,if_pos rfl];have hm:=h.2.1;by_cases hc:v<m - a
   ·rw [if_pos hc,if_neg (by omega),if_pos (by omega),Ax (by omega) (by omega)];rfl
   ·rw [if_neg hc];by_cases he:m - a=v
    ·rw [if_pos he,if_pos (by omega),Iz a 0 u K 0 hu (by omega) (by omega) (by omega)];rfl
    ·rw [if_neg he,if_neg (by omega),if_neg (by omega),Int.add_zero]
  ·rw [Tm.each,if_neg ho,Tm.subst,if_neg ho];rw [eachL_subst v u hu huw op 0 ks k a h.2.2 (by omega) h1 (by omega)]
theorem eachL_subst (v:Int) (u:Tm) {K:Nat} (hu:u.sc K) (huw:K+2 * u.wt<=1000000000):∀(op:Int) (i:Nat) (l:List Tm) (k:Nat) (a:Int),Tm.scL op i l k->k+2+2 * Tm.wtL l<=1000000000->0<=a->a+2+2 * Tm.wtL l<=1000000000->Tm.eachL (G8 v u) op i l a=Tm.substL op i l (v+a) a u
 | _,_,[],_,_,_,_,_,_=>by rw [Tm.eachL,Tm.substL]
 | op,i,t::l,k,a,h,hk,h1,h2=>by
  rw [Tm.scL] at h;rw [Tm.eachL,Tm.substL];have hb:=AY op i;rw [Tm.wtL] at hk h2;rw [Ix v u hu huw t (k+Ak op i) (a+Ak op i) h.1 (by omega) (by omega) (by omega),eachL_subst v u hu huw op (i+1) l k a h.2 (by omega) h1 (by omega),Int.add_assoc]
end
mutual
theorem Ka (v:Int) (hv:0<=v):∀(t:Tm) (a:Int),0<=a->t.some1 (Mq v) a=t.free (v+a)
 | .mk op m ks,a,h1=>by
  by_cases ho:op=1
  ·subst ho;rw [Tm.some1,if_pos rfl,Tm.free,if_pos rfl,Mq];by_cases h:m=v+a
   ·rw [decide_eq_true h,decide_eq_true (by omega:m - a=v),decide_eq_true (by omega:a<=m)];rfl
   ·rw [decide_eq_false h,decide_eq_false (by omega:¬ m - a=v)];rfl
  ·rw [Tm.some1,if_neg ho,Tm.free,if_neg ho,someL_free v hv op 0 ks a h1]
theorem someL_free (v:Int) (hv:0<=v):∀(op:Int) (i:Nat) (l:List Tm) (a:Int),0<=a->Tm.someL (Mq v) op i l a=Tm.freeL op i l (v+a)
 | _,_,[],_,_=>by rw [Tm.someL,Tm.freeL]
 | op,i,t::l,a,h1=>by
  rw [Tm.someL,Tm.freeL,Ka v hv t (a+Ak op i) (by omega),someL_free v hv op (i+1) l a h1,Int.add_assoc]
end
def QE {n:Nat} {K:Nat} {op m:Int} {z b:Tm} (hn:b.wt+20<n) (hk:b.op=5->∃f x,b.kids=[f,x]) (hw:b.wk) (h2:2 * b.wt<=100000000) (hs:b.sc K) (hK:K<=100000000) :
  IN (SS dt n 151 [.fv (Tm.mk op m [z,b]).enc] ⟨[],[]⟩) (YC (.mk op m [z,b])).enc:=by
 obtain ⟨n,rfl⟩:=psc n (by omega);rw [AeD];obtain ⟨o1,n1,k1⟩:=b;by_cases h5:o1=5
 ·subst h5;obtain ⟨f,x,hkk⟩:=hk rfl;simp only [Tm.kids] at hkk;subst hkk;obtain ⟨o2,n2,k2⟩:=x;rw [Tm.sc] at hs;have hf:f.sc K:=by
   have:=hs.2.2
   rw [Tm.scL] at this;exact this.1
  have hwf:f.wk:=by rw [Tm.wk] at hw;exact Kd hw.2 (by simp)
  simp only [Tm.wt,Tm.wtL] at hn h2;have hfree:=Vk (n:=n) (t:=f) (v:=0) (K:=K) (by omega) (by omega) hf (by omega);rw [Ka 0 (by omega) f 0 (by omega)] at hfree;have hsub:=d6 (n:=n) (t:=f) (u:=AT) (v:=0) (K:=K) (by simp only [AT,Tm.wt,Tm.wtL];omega) hwf (by omega) hf (by simp [AT,Tm.wk,Tm.wkL]) (by simp [AT,Tm.wt,Tm.wtL]) (GR K) (by omega);rw [Ix 0 AT (K:=K) (GR K) (by simp only [AT,Tm.wt,Tm.wtL];omega) f K 0 hf (by omega) (by omega) (by omega)] at hsub;simp only [Int.add_zero] at hfree hsub;rw [YC];generalize hr:f.subst 0 0 AT=u at hsub;generalize f.free 0=fr at hfree;obtain ⟨o4,n4,k4⟩:=u;obtain ⟨o3,n3,k3⟩:=f;obtain ⟨oz,nz,kz⟩:=z;rw [AT] at hsub;simp only [Am,AhM] at hfree hsub;by_cases h1:o2=1
  ·by_cases h0:n2=0
   ·cases fr
    ·rw [if_pos ⟨rfl,h1,h0,rfl⟩];have hs3:=fun (own:List (Nat×Blk)) (k:KT (IV×Hp))=>Au (a:=.fv (.agg [.int .i64 o3,.int .i64 n3,.sl (k3.map Tm.enc)])) (b:=iv 0) (c:=.agg [iv 11,iv 0,.nils]) hsub rfl rfl rfl ⟨own,[]⟩ k;simp only [Am,AhN,AhM];simp only [↓cK,↓XX,XY,↓reduceIte,seval,↓Ej,↓EG,↓F6,h1,h0,↓Af hfree,↓hs3];exact Cz _ _
    ·rw [if_neg (by simp)];simp only [Am,AhN,AhM];simp only [↓cK,↓XX,XY,↓reduceIte,seval,↓Ej,↓EG,↓F6,h1,h0,↓Af hfree];exact Cz _ _
   ·rw [if_neg (by simp [h0])];simp only [Am,AhN,AhM];simp only [↓cK,↓XX,XY,↓reduceIte,seval,↓Ej,↓EG,↓F6,h1,h0];exact Cz _ _
  ·rw [if_neg (by simp [h1])];simp only [Am,AhN,AhM];simp only [↓cK,↓XX,XY,↓reduceIte,seval,↓Ej,↓EG,↓F6,h1];exact Cz _ _
 ·rw [Zw (by simpa [Tm.op] using h5)];obtain ⟨oz,nz,kz⟩:=z;simp only [Am,AhN,AhM];simp only [↓cK,↓XX,XY,↓reduceIte,seval,↓Ej,↓EG,↓F6,h5];exact Cz _ _
def iR {n:Nat} {op m:Int} {z a b:Tm} (hn:2 * a.wt+10<n) (hka:a.op=8->∃x,a.kids=[x]) (hkb:b.op=9->∃y,b.kids=[y]) (h2:a.wt<=100000000) :
  IN (SS dt n 152 [.fv (Tm.mk op m [z,a,b]).enc] ⟨[],[]⟩) (Yz (.mk op m [z,a,b])).enc:=by
 obtain ⟨n,rfl⟩:=psc n (by omega);rw [AbX];obtain ⟨o1,n1,k1⟩:=a;obtain ⟨o2,n2,k2⟩:=b;obtain ⟨oz,nz,kz⟩:=z;by_cases h8:o1=8
 ·by_cases h9:o2=9
  ·subst h8 h9;obtain ⟨x,hx⟩:=hka rfl;obtain ⟨y,hy⟩:=hkb rfl;simp only [Tm.kids] at hx hy;subst hx hy;simp only [Tm.wt,Tm.wtL] at hn h2;have hs:=RN n x y (by omega) (by omega);rw [Yz];generalize x.same y=v at hs;obtain ⟨o3,n3,k3⟩:=x;obtain ⟨o4,n4,k4⟩:=y;simp only [Am] at hs;cases v
   ·rw [if_neg (by simp)];simp only [Am,AhN,AhM];simp only [G5,Ha,Yw,↓XX,XY,↓reduceIte,seval,↓Ej,↓EG,↓F6,↓Af hs];exact Cz _ _
   ·rw [if_pos ⟨rfl,rfl,rfl⟩];simp only [Am,AhN,AhM];simp only [G5,Ha,Yw,↓XX,XY,↓reduceIte,seval,↓Ej,↓EG,↓F6,↓Af hs];exact Cz _ _
  ·rw [PB (by simp [Tm.op,h9])];simp only [Am,AhN,AhM];simp only [G5,Ha,Yw,↓XX,XY,↓reduceIte,seval,↓Ej,↓EG,↓F6,h8,h9];exact Cz _ _
 ·rw [PB (by simp [Tm.op,h8])];simp only [Am,AhN,AhM];simp only [G5,Ha,Yw,↓XX,XY,↓reduceIte,seval,↓Ej,↓EG,↓F6,h8];exact Cz _ _
def Abn {d:Nat} {l:List FV} (h:Hp) (lg:List Ref) (e:Option (IV×Hp)) (k:List FV->List (Ref×Blk)->List Ref->Option (IV×Hp)) :
  CI (Dx (d+1)) (iv 11::iv 0 :: .nils::l.map .fv) h lg e k=k (.int .i64 11 :: .int .i64 0 :: .sl []::l) [] lg:=by
 show (CI (Dx (d+1)) (l.map .fv) h lg e fun ys us lg=>K5 [] us fun w=>K5 [] w fun w=>K5 [] w fun w=>k (.int .i64 11 :: .int .i64 0 :: .sl []::ys) w lg)=_
 rw [MU];rfl
def vF {s:Nat} {l:List Tm} {ro:Bool} {a b:FV} {own:List (Nat×Blk)} {ext:List Blk} (hl:Aq s own=some (.row (iv 11::iv 0 :: .nils::(BG l).map .fv) ro)) (hn:l.length<=90) (lg:List Ref) (e:Option (IV×Hp))
  (k:FV->List (Ref×Blk)->List Ref->Option (IV×Hp)):Dx 12 (.agg [.fv a,.fv b,.slc (.own s) 3 (l.length+1)]) ⟨own,ext⟩ lg e k =
   k (.agg [a,b,.sl ((AT::l).map Tm.enc)]) [(.own s,.row (iv 11::iv 0 :: .nils::(BG l).map .fv) true)] (.own s::lg):=by
 have hz:∀(lg:List Ref) (k:FV->List (Ref×Blk)->List Ref->Option (IV×Hp)),Dx 11 (.slc (.own s) 3 (l.length+1)) ⟨own,ext⟩ lg e k=k (.sl ((AT::l).map Tm.enc)) [(.own s,.row (iv 11::iv 0 :: .nils::(BG l).map .fv) true)] (.own s::lg):=by
  intro lg k;have hlen:(iv 11::iv 0 :: .nils::(BG l).map IV.fv).length=3 * l.length+3:=by simp [GT]
  show (Dr (.own s) ⟨own,ext⟩ fun b=>D3 b fun cells=>cond (Nat.ble cells.length 300) (cond (or (Nat.beq 3 0) (not (Nat.ble ((l.length+1) * 3) cells.length))) none
   (CI (Dx 10) cells ⟨own,ext⟩ (.own s::lg) e fun cs u lg=>SI 3 (l.length+1) cs fun els=>k (.sl els) ((.own s,.row cells true)::u) lg)) e)=_
  rw [IZ,Bx,hl];simp only [Option.bind_some,G4];rw [hlen,Bo,decide_eq_true (by omega),fI,Bo,decide_eq_true (by omega)];simp only [Bool.not_true]
  show (CI (Dx (9+1)) (iv 11::iv 0 :: .nils::(BG l).map IV.fv) ⟨own,ext⟩ (.own s::lg) e fun cs u lg=>SI 3 (l.length+1) cs fun els=>k (.sl els) ((.own s,.row (iv 11::iv 0 :: .nils::(BG l).map IV.fv) true)::u) lg)=_
  rw [Abn];exact sZ (AT::l) _
 rw [ZM,show Nat.ble [IV.fv a,.fv b,.slc (.own s) 3 (l.length+1)].length 300=true from rfl,fI,Sa,Ik,Sa,Ik,Sa,hz,u9]
 rfl
def cQ {ih:Ah} {f:FuncId} {w a b:FV} {s:Nat} {l:List Tm} {ro:Bool} {own own':List (Nat×Blk)} (hr:IN (ih f [.fv (.agg [a,b,.sl ((AT::l).map Tm.enc)])] ⟨[],[]⟩) w) (hl:Aq s own=some (.row (iv 11::iv 0 :: .nils::(BG l).map .fv) ro)) (hn:l.length<=90)
  (ho:AO s (.row (iv 11::iv 0 :: .nils::(BG l).map .fv) true) own=own') (k:KT (IV×Hp)) :
  A0 [] false false ih f [.agg [.fv a,.fv b,.slc (.own s) 3 (l.length+1)]] ⟨own,[]⟩ k=k (.fv w) ⟨own',[]⟩ [.own s] [.own s]:=by
 subst ho;refine TE (vs:=[.agg [a,b,.sl ((AT::l).map Tm.enc)]]) (u:=[(.own s,.row (iv 11::iv 0 :: .nils::(BG l).map .fv) true)]) (lg:=[.own s]) ?_ hr ?_ k
 ·intro e k;rw [vO,vF hl hn,oZ];rfl
 ·intro k
  show (E0 own s fun _=>Bb own s (.row (iv 11::iv 0 :: .nils::(BG l).map .fv) true) fun own=>k ⟨own,_⟩)=_
  rw [Bx,hl,Option.bind_some,BN]
def WJ {β:Type} {n:Nat} (h:0<n) (r:Ref) (k:IV->Option β):AP 3 (.slc r 3 n) (iv 0) k=k (.ptr r 0):=LS (i:=0) h r k
def scz (x:Tm) (l:List Tm):Bh (BX (x::l) 0) 0 [iv 11,iv 0,.nils]=iv 11::iv 0 :: .nils::(BG l).map .fv:=by obtain ⟨o,p,k⟩:=x;simp [BX,BG,JV,Bh]
def blz (x:Tm) (l:List Tm):Nat.ble 3 (BX (x::l) 0).length=true:=by rw [Bo];apply decide_eq_true;simp [BX,JV,GT];omega
abbrev Ady (op m:Int) (ks done:List Tm) (r:Nat):Hp :=⟨[(156237824,.row [iv op,iv m,.fv (.sl (ks.map Tm.enc))] false),(156237825,.row [iv 0,iv 0,.nils] false),(156238855,.row (BX done r) false),(156238857,.row [iv op,iv m,.slc (.own 156238855) 3 ks.length] false)],[]⟩
theorem qM:∀(n:Nat) (t:Tm) (k:Nat),t.sc k->2 * t.wt+25<n->k+2 * t.wt<=90000000->IN (SS dt n 149 [.fv t.enc] ⟨[],[]⟩) t.eta.enc:=by
 intro n
 induction n with
 | zero=>intro t k _ h;omega
 | succ n ih =>
  intro t k hs hn hw;have hes:=MV t k hs (by omega);have hwk:=Da t k hs;obtain ⟨op,m,ks⟩:=t;rw [Tm.sc] at hs;rw [Tm.wk] at hwk;simp only [Tm.wt] at hn hw;rw [Acy,Am];have hlen:=C3 ks;have hkd:=etaL_sc op 0 ks k hs.2.2 (by omega);simp only [Gi,Gv,Sz,↓XX,XY,↓reduceIte,seval,↓qV (show ks.length<=1000 by omega),↓AG,XD,heldB,AQ,XE,GS,EX]
  have hR:(Tm.mk op m ks).eta=if op=4 then YC (.mk 4 m (Nd (Tm.etaL ks))) else if op=7 then Yz (.mk 7 m (Nd (Tm.etaL ks))) else .mk op m (Tm.etaL ks):=by rw [Tm.eta]
  rw [hR];refine A9 (Q:=fun r=>IN r _) (fun j V H=>∃(pre rest done:List Tm),ks=pre++rest/\rest.length=j/\done.length=pre.length /\
    V=[.ptr (.own 156237824) 0,.ptr (.own 156237825) 0,.ptr (.own 156238857) 0,.fv (.sl (ks.map Tm.enc)),iv ks.length,iv pre.length] /\
    H=Ady op m ks done rest.length/\done++Tm.etaL rest=Tm.etaL ks)
   ?_ n ks.length _ _ (by omega) ⟨[],ks,[],rfl,rfl,rfl,rfl,rfl,rfl⟩
  rintro j V H rec ⟨pre,rest,done,hks,hl,hdl,rfl,rfl,hts⟩ hrec;have hkl:ks.length=pre.length+rest.length:=by rw [hks];simp
  cases rest with
  | nil =>
   have hno:¬ ((pre.length:Int)<ks.length):=by rw [hkl];simp
   rw [Tm.etaL,List.append_nil] at hts;have hdk:ks.length=done.length:=by rw [hdl,hkl];simp
   rw [<- hts] at hkd ⊢;rw [List.length_nil];by_cases h4:op=4
   ·subst h4;rw [if_pos rfl];have h2:ks.length=2:=by have:=hs.1;rw [show ar 4=some 2 by decide] at this;simp only [AhH] at this;omega
    have hd2:done.length=2:=by omega
    match done,hd2,hdk,hkd with
    | [a,b],_,hdk,hkd =>
     simp only [Tm.scL,Tm.wtL] at hkd;have hb1:Ak 4 1=1:=by decide
     have hbs:=hkd.1.2.1;rw [hb1] at hbs;have hfn:=QE (n:=n) (K:=k+1) (op:=4) (m:=m) (z:=AT) (b:=b) (by omega) (fun h5=>by
      have:=F5 hbs h5 (show ar 5=some 2 by decide)
      match hbk:b.kids,this with
      | [f,x],_=>exact ⟨f,x,rfl⟩) (Da b _ hbs) (by omega) hbs (by omega)
     rw [Nd];rw [Am] at hfn;generalize YC (.mk 4 m [AT,b])=y at hfn;obtain ⟨o5,p5,k5⟩:=y;rw [Am] at hfn;rw [Am];have h02:0<ks.length:=by omega
     have hi:=fun (own own':List (Nat×Blk)) (hlk:Aq 156238855 own=some (.row (iv 11::iv 0 :: .nils::(BG [b]).map .fv) false)) (ho:AO 156238855 (.row (iv 11::iv 0 :: .nils::(BG [b]).map .fv) true) own=own')=>cQ hfn hlk (by simp) ho;simp only [Gi,Gv,HD,Sz,↓XX,XY,↓reduceIte,seval,hno,↓WJ h02,↓blz,↓scz];rw [show ks.length=[b].length+1 by rw [h2];rfl]
     (try unfold is0);rw [hi _ _ (by rfl) (by rfl)]
     simp only [↓XX,XY,↓reduceIte,seval,↓OF,↓K9];exact Cz _ _
   ·rw [if_neg h4];by_cases h7:op=7
    ·subst h7;rw [if_pos rfl];have h2:ks.length=3:=by have:=hs.1;rw [show ar 7=some 3 by decide] at this;simp only [AhH] at this;omega
     have hd2:done.length=3:=by omega
     match done,hd2,hdk,hkd with
     | [a,b,c],_,hdk,hkd =>
      simp only [Tm.scL,Tm.wtL] at hkd;have hb1:Ak 7 1=0:=by decide
      have hb2:Ak 7 2=0:=by decide
      have hbs:=hkd.1.2.1;have hcs:=hkd.1.2.2.1;rw [hb1] at hbs;rw [hb2] at hcs;have hfn:=iR (n:=n) (op:=7) (m:=m) (z:=AT) (a:=b) (b:=c) (by omega) (fun h5=>by
       have:=F5 hbs h5 (show ar 8=some 1 by decide)
       match hbk:b.kids,this with
       | [f],_=>exact ⟨f,rfl⟩) (fun h5=>by
       have:=F5 hcs h5 (show ar 9=some 1 by decide)
       match hbk:c.kids,this with
       | [f],_=>exact ⟨f,rfl⟩) (by omega)
      rw [Nd];rw [Am] at hfn;generalize Yz (.mk 7 m [AT,b,c])=y at hfn;obtain ⟨o5,p5,k5⟩:=y;rw [Am] at hfn;rw [Am];have h02:0<ks.length:=by omega
      have hi:=fun (own own':List (Nat×Blk)) (hlk:Aq 156238855 own=some (.row (iv 11::iv 0 :: .nils::(BG [b,c]).map .fv) false)) (ho:AO 156238855 (.row (iv 11::iv 0 :: .nils::(BG [b,c]).map .fv) true) own=own')=>cQ hfn hlk (by simp) ho;simp only [Gi,Gv,HD,Sz,↓XX,XY,↓reduceIte,seval,hno,↓WJ h02,↓blz,↓scz];rw [show ks.length=[b,c].length+1 by rw [h2];rfl]
      (try unfold is0);rw [hi _ _ (by rfl) (by rfl)]
      simp only [↓XX,XY,↓reduceIte,seval,↓OF,↓K9];exact Cz _ _
    ·rw [if_neg h7,Am];simp only [Gi,Gv,HD,Sz,↓XX,XY,↓reduceIte,seval,hno,h4,h7];rw [hdk];exact ⟨_,_,rfl,_,_,fun e0 K=>dB (by rfl) (by omega) [] e0 K⟩
  | cons x rest =>
   have hi:(pre.length:Int)<ks.length:=by rw [hkl];simp;omega
   have hg2:=BY hks;have hxw:=B2 (t:=x) (l:=ks) (by rw [hks];simp);have hxs:=GO hs.2.2 hg2;rw [Nat.zero_add] at hxs;have hble:=AY op pre.length;have hs5:=ih x _ hxs (by omega) (by omega);have hwi:BB ((pre.length:Int)+1)=((pre++[x]).length:Int):=(Ax (by omega) (by omega)).trans (by simp);have hin:pre.length<ks.length:=by omega
   rw [Tm.etaL] at hts;generalize x.eta=y at hs5 hts;have hst:=fun {β:Type}=>UM (β:=β) done rest.length y.op y.n y.kids;rw [hdl] at hst;obtain ⟨o,p,l⟩:=x;obtain ⟨o2,p2,l2⟩:=y;simp only [Tm.op,Tm.n,Tm.kids] at hst;rw [Am,Am] at hs5;simp only [AhL] at hl;simp only [Gi,Gv,HD,Sz,↓XX,XY,↓reduceIte,seval,hi,↓Bp (AM hg2) (Bi _ _ _),↓B6,hwi,↓Ap (ZV hs5),↓LS hin,↓hst,↓AG,XD,heldB,AQ,XE,GS,EX];exact hrec rest.length _ _ (by omega) ⟨pre++[.mk o p l],rest,done++[.mk o2 p2 l2],by rw [hks];simp,rfl,by simp [hdl],rfl,rfl,by rw [<- hts];simp⟩
theorem l7 {op:Int} {r:Nat} (h:ar op=some r):¬ (0<=GH op/\GH op≠(r:Int)):=by
 unfold GH;by_cases h1:op=8\/op=9\/op=12\/op=19\/op=30
 ·rw [if_pos h1];rcases h1 with rfl | rfl | rfl | rfl | rfl<;>(cases (show r=1 from by have:=h;revert this;simp [ar];omega);decide)
 ·rw [if_neg h1];by_cases h2:op=4\/op=5
  ·rw [if_pos h2];rcases h2 with rfl | rfl<;>(cases (show r=2 from by have:=h;revert this;simp [ar];omega);decide)
  ·rw [if_neg h2];by_cases h7:op=7
   ·subst h7;cases (show r=3 from by have:=h;revert this;simp [ar];omega);decide
   ·rw [if_neg h7];by_cases h13:op=13
    ·subst h13;cases (show r=4 from by have:=h;revert this;simp [ar];omega);decide
    ·rw [if_neg h13];omega
mutual
theorem Kq:∀(t:Tm) (k:Nat),t.sc k->t.shaped=true
 | .mk op n ks,k,h=>by
  rw [Tm.sc] at h;rw [Tm.shaped,scL_shaped op 0 ks k h.2.2];have h1:=l7 h.1;have h2:¬ (op=1/\n<0):=by
   rintro ⟨rfl,h3⟩
   have:=h.2.1
   rw [if_pos rfl] at this;omega
  rw [decide_eq_false h1,decide_eq_false h2];rfl
theorem scL_shaped:∀(op:Int) (i:Nat) (l:List Tm) (k:Nat),Tm.scL op i l k->Tm.shapedL l=true
 | _,_,[],_,_=>by rw [Tm.shapedL]
 | op,i,t::l,k,h=>by
  rw [Tm.scL] at h;rw [Tm.shapedL,Kq t _ h.1,scL_shaped op (i+1) l k h.2];rfl
end
def gQ {n:Nat} {t:Tm} {k:Nat} (hs:t.sc k) (hn:2 * t.wt+26<n) (hw:k+2 * t.wt<=90000000):BA (SS dt n 138 [.fv t.enc] ⟨[],[]⟩) t.eta.enc:=by obtain ⟨n,rfl⟩:=psc n (by omega);rw [Adx];have h1:=N9 n t (by omega) (by omega);rw [Kq t k hs] at h1;have h2:=ZV (qM n t k hs (by omega) hw);generalize t.eta=y at h2;obtain ⟨o,p,l⟩:=t;obtain ⟨o2,p2,l2⟩:=y;rw [Am] at h1;rw [Am,Am] at h2 ⊢;simp only [rO,↓XX,XY,↓reduceIte,seval,↓Ap h1,↓Ap h2];exact Aw _ _
section
variable {β:Type} {E:Env}
theorem AaY {t:TypeId} {size:Nat} (T:SliceT E t size) {x:IV} {es es2:List FV} (hx:Plain2 x es2) (h1:BI size es2=true) (h2:BI size es=true) (hne:es2.isEmpty=false) (hb:es.length+es2.length<=1000000) (s:Nat) (own:List (Nat×Blk)) (ext:List Blk)
  (k:KT β):Ay (AR E s false .append [t,t] [.clip es,x]) s ⟨own,ext⟩ k=CP own s (Bb own s (.tok (es.length+es2.length) size) fun own=>k (.app (.own s) (es++es2)) ⟨own,ext⟩ [] [.own s]):=by
 obtain ⟨a,b,e,z,ei,hT,he,rfl,h0,hby⟩:=T.h;have hlen:¬ (BI ei.size es=false\/(es.length+es2.length) * ei.bytes > 140737488355328\/es.length+es2.length > 1073741824):=by
  have:(es.length+es2.length) * ei.bytes<=1000000 * 100000:=Nat.mul_le_mul hb hby
  rw [h2];rintro (h | h | h)
  ·cases h
  ·omega
  ·omega
 have key:AR E s false .append [t,t] [.clip es,x]=.ret { eff:={ val:=.app (.own s) (es++es2),upd:=[] },new:=some (.tok (es++es2).length ei.size) }:=by
  show Dz E s t (some t) false (.clip es) x=_
  simp only [Dz,hT,Option.bind_some,he,O7 hx,Rd.bind,h0,h1,false_or,Bool.true_eq_false,if_false];simp only [Cn,if_neg hlen,hne,Bool.false_eq_true,if_false]
 rw [key,List.length_append];unfold Ay;simp only [Rd.runLog]
 show (HB (some (.tok (es.length+es2.length) ei.size)) s ⟨own,ext⟩ fun h=>fV 3 (.app (.own s) (es++es2)) fun v=>k v h [] ([]++[.own s]))=_
 simp only [HB,Cx,Ci];rfl
theorem yJ {t a b e:TypeId} {z:List IV} (hT:E.T t=some ⟨a,b,.slice e,z⟩) (x:FV) (l:List FV) (k:IV->Option β):AN E t (.fv (.sl (x::l))) .nils k=k (.fv (.bool false)):=by
 show CV E t .eql _ _ k=_
 rw [CV,CG]
 have:EL E .eql t (.fv (.sl (x::l))) .nils=some (.fv (.bool false)):=by simp only [EL,hT,Sj,OK,Option.bind_some]
 rw [this];rfl
theorem jS {t:TypeId} {size:Nat} (T:SliceT E t size) {es:List FV} (h1:BI size es=true) (s:Nat) (h:Hp) (k:KT β) :
  Ay (IP E t (.fv (.sl es)) none (some (iv es.length)) (some (iv es.length))) s h k=k (.clip es) h [] []:=by
 obtain ⟨a,b,e,z,ei,hT,he,rfl,h0,hby⟩:=T.h;have key:IP E t (.fv (.sl es)) none (some (iv es.length)) (some (iv es.length))=.ret { eff:={ val:=.clip es,upd:=[] } }:=by
  have hn:Ib (iv es.length) es.length=some es.length:=by simp [Ib,iv]
  simp only [IP,hT,he];rw [show C5 4096 (.fv (.sl es))=.ret (.sl es,[]) from rfl]
  simp [Rd.bind,h1,hn,FO]
 rw [key];exact FY _ s h k
end
theorem vH {ih:Ah} {f:FuncId} {a:IV} {x w:FV} (hr:BA (En true ih f [.fv x] []) w) (ha:Bc a=some x) (h:Hp) (k:KT (IV×Hp)):A0 [] true false ih f [a] h k=k (.fv w) h [] []:=by
 obtain ⟨v,own,e,hv⟩:=hr;have hu:∃u,(C5 4096 v).run ⟨own,[]⟩=some (w,u):=by
  rcases hv with ⟨u',lg',hf⟩ | ⟨hf,hu⟩
  ·exact JT ⟨u',lg',hf⟩
  ·exact hu
 obtain ⟨u,hu⟩:=hu
 show D6 [] true false ih f [a] h k=_
 unfold D6;have hz:=Hw [a] (Sg ha);simp only [hz,Rd.runLog,B4,DO,AhM,Bf,CT (Ci 3),CT Cx,AhN,e,hu,AhK,IV.ren,IV.ren.renL,Bool.false_eq_true,if_false,Option.bind_some]
 show (match laid h ([]++(By []).zip []) with | none=>none | some h'=>fH h' fun h'=>fV 3 (.fv w) fun res=>k res h' [] _)=_
 simp only [By,AhM,List.zip_nil_left,List.append_nil,laid,Ih,Ci]
theorem sG {ih:Ah} {f:FuncId} {a:IV} {x:FV} {es:List FV} {own:List (Nat×Blk)} (hr:ih f [.fv x] ⟨[],[]⟩=some (.clip es,⟨own,[]⟩)) (ha:Bc a=some x) (h:Hp) (k:KT (IV×Hp)):A0 [] false true ih f [a] h k=k (.clip es) h [] []:=by
 show D6 [] false true ih f [a] h k=_
 unfold D6;have hz:=Hw [a] (Sg ha);simp only [hz,Rd.runLog,B4,DO,AhM,Bf,CT (Ci 3),CT Cx,AhN,En,hr,AhK,IV.ren,IV.ren.renL,Bool.false_eq_true,if_false,if_true,Option.bind_some]
 show (match laid h ([]++(By []).zip []) with | none=>none | some h'=>fH h' fun h'=>fV 3 (.clip es) fun res=>k res h' [] _)=_
 simp only [By,AhM,List.zip_nil_left,List.append_nil,laid,Ih,Ci]
end Idl
end Go.Proofs.YtnenpcghegcnhaaGreat
set_option maxRecDepth 20000
set_option maxHeartbeats 16000000
namespace Go.Proofs.YtnenpcghegcnhaaGreat
namespace Idl
def PN (X Y:Tm):Prop:=Ev 82 [.fv X.enc] (.tuple [Y.enc,.int .i64 0])
def PE (A:Tm):Prop:=Ev 138 [.fv A.enc] A.enc
def gI (G:FV) (st:Int) (t A:Tm):Prop:=Ev 58 [.fv G,iv st,.fv t.enc] (.tuple [A.enc,.int .i64 0])
def gC (G:FV) (st:Int) (t a:Tm):Prop:=Ev 102 [.fv G,iv st,.fv t.enc,.fv a.enc] (.int .i64 0)
def gL (G:FV) (t:Tm) (m:Int):Prop:=Ev 136 [.fv G,.fv t.enc] (.tuple [.int .i64 m,.int .i64 0])
def gU (G:FV) (a b B:Tm):Prop:=Ev 107 [.fv G,.fv a.enc,.fv b.enc] (.tuple [B.enc,.int .i64 0])
def gS (G:FV) (st:Int) (t:Tm) (op:Int) (A:Tm):Prop:=Ev 101 [.fv G,iv st,.fv t.enc,iv op] (.tuple [A.enc,.int .i64 0])
def gM (G:FV) (t A:Tm):Prop:=Ev 85 [.fv G,.fv t.enc] (.tuple [A.enc,.int .i64 0])
def gP (G:FV) (t A:Tm):Prop:=Ev 115 [.fv G,.fv t.enc] (.tuple [A.enc,.int .i64 0])
def gO (G:FV) (t A:Tm):Prop:=Ev 84 [.fv G,.fv t.enc] (.tuple [A.enc,.int .i64 0])
def gW (G:FV) (st:Int) (a:Tm) (G1:FV):Prop:=Ev 133 [.fv G,iv st,.fv a.enc] G1
def gA (G:FV) (st:Int) (a:Tm) (ks:List Tm):Prop:=Ev 105 [.fv G,iv st,.fv a.enc,.fv (.sl (ks.map Tm.enc))] (.int .i64 0)
def gE (a b:Tm):Prop:=Ev 62 [.fv a.enc,.fv b.enc] (.int .i64 0)
def To (t u Y:Tm):Prop:=Ev 137 [.fv t.enc,.fv u.enc] (.tuple [Y.enc,.int .i64 0])
def pSu (t u r:Tm):Prop:=Ev 135 [.fv t.enc,iv 0,.fv u.enc] r.enc
def pSh (t:Tm) (d c:Int) (r:Tm):Prop:=Ev 99 [.fv t.enc,iv d,iv c] r.enc
def pF (t:Tm) (w:Bool):Prop:=Ev 134 [.fv t.enc,iv 0] (.bool w)
def KI (g:A6) (st:Int) (t A:Tm):Prop:=gI (AK g) st t A
def KC (g:A6) (st:Int) (t a:Tm):Prop:=gC (AK g) st t a
def KL (g:A6) (t:Tm) (m:Int):Prop:=gL (AK g) t m
def KU (g:A6) (a b B:Tm):Prop:=gU (AK g) a b B
def Fd {n:Nat} (hn:0<n) (op:Int) (ks:List Tm):BA (SS dt n 71 [iv op,.fv (.sl (ks.map Tm.enc))] ⟨[],[]⟩) (Tm.mk op 0 ks).enc:=by obtain ⟨n,rfl⟩:=psc n (by omega);rw [c71,Am];simp only [S71,↓XX,XY,↓reduceIte,seval];exact A4 rfl
def yS {ih:Ah} {f:FuncId} {a b c d e:IV} {x y z u v w:FV} (hr:BA (ih f [.fv x,.fv y,.fv z,.fv u,.fv v] ⟨[],[]⟩) w) (ha:Bc a=some x) (hb:Bc b=some y) (hc:Bc c=some z) (hd:Bc d=some u) (he:Bc e=some v) (h:Hp)
  (k:KT (IV×Hp)):A0 [] false false ih f [a,b,c,d,e] h k=k (.fv w) h [] []:=KJ (by simp only [Bt,ha,hb,hc,hd,he];rfl) hr h k
def yR (o1 n1:Int) (s:Nat) (h:Hp) (k:KT (IV×Hp)):Ay (Al EE 29 1 [(0,.agg [.fv (.int .i64 o1),.fv (.int .i64 n1),.nils])]) s h k=k (.clip [.agg [.int .i64 o1,.int .i64 n1,.sl []]]) h [] []:=by
 have:Al EE 29 1 [(0,.agg [.fv (.int .i64 o1),.fv (.int .i64 n1),.nils])]=.ret { eff:={ val:=.clip [.agg [.int .i64 o1,.int .i64 n1,.sl []]],upd:=[] } }:=by simp only [Al,Qr,mB];rw [if_neg (by decide)];rfl
 rw [this];exact FY _ s h k
def kS (ih:Ah) (xs:List IV) (h0:Hp) (k:KT (IV×Hp)):CJ EE ih (.fv (.func (.func 85) [] [])) xs h0 k=A0 [] false false ih 85 xs h0 k :=NK (by kernel_rfl) (by kernel_rfl) (by kernel_rfl) (by kernel_rfl) ..
def qF (ih:Ah) (xs:List IV) (h0:Hp) (k:KT (IV×Hp)):CJ EE ih (.fv (.func (.func 84) [] [])) xs h0 k=A0 [] false false ih 84 xs h0 k :=NK (by kernel_rfl) (by kernel_rfl) (by kernel_rfl) (by kernel_rfl) ..
def k_e {a A:Tm} (h0:Ev 89 [.fv A.enc,.fv a.enc] (.tuple [.bool true,.int .i64 0])):gE A a:=by refine C4 200 h0 fun n hn h0=>?_;rw [c62];simp only [EM] at h0 ⊢;simp only [S62,↓XX,XY,↓reduceIte,seval,↓Af h0];exact A4 rfl
def k_c {G:FV} {st:Int} {t a A:Tm} (h0:gI G st t A) (h1:gE A a):gC G st t a:=by refine N6 200 h0 h1 fun n hn h0 h1=>?_;rw [Acs];simp only [EM] at h0 h1 ⊢;simp only [rP,↓XX,XY,↓reduceIte,seval,↓Au h0,↓Af h1];exact A4 rfl
def k_l {G:FV} {t:Tm} {m:Int} (h0:gI G 1 t (.mk 2 m [])):gL G t m:=by refine C4 200 h0 fun n hn h0=>?_;rw [Ac2];simp only [EM] at h0 ⊢;simp only [qO,↓XX,XY,↓reduceIte,seval,↓Au h0];exact A4 rfl
def k_s {G:FV} {st op:Int} {t A:Tm} (h0:gI G st t A) (ho:A.op=op):gS G st t op A:=by refine C4 200 h0 fun n hn h0=>?_;rw [AdW];simp only [EM] at h0 ho ⊢;simp only [rX,↓XX,XY,↓reduceIte,seval,↓Au h0,ho];exact A4 rfl
def zE {t u r Y:Tm} (h0:pSu t u r) (h1:PN r Y):To t u Y:=by refine N6 200 h0 h1 fun n hn h0 h1=>?_;rw [AdM];simp only [EM] at h0 h1 ⊢;simp only [tO,↓XX,XY,↓reduceIte,seval,↓Au h0,↓Ap h1];exact A4 rfl
def Hj {G:FV} {op m:Int} {ks:List Tm} {A:Tm} (ho:op≠1/\op<=19) (h0:gM G (.mk op m ks) A):gI G 1 (.mk op m ks) A:=by refine C4 200 h0 fun n hn h0=>?_;rw [c58];simp only [EM] at h0 ⊢;simp only [S58,↓XX,XY,↓reduceIte,seval,↓Af h0,ho.1,ho.2,↓kS];exact A4 rfl
def Ns {G:FV} {op m:Int} {ks:List Tm} {A:Tm} (ho:20<=op) (h0:gO G (.mk op m ks) A):gI G 0 (.mk op m ks) A:=by
 refine C4 200 h0 fun n hn h0=>?_;have ho1:op≠1:=by omega
 have ho2:¬ op<=19:=by omega
 rw [c58];simp only [EM] at h0 ⊢;simp only [S58,↓XX,XY,↓reduceIte,seval,↓Af h0,ho1,ho2,↓qF];exact A4 rfl
def tSk:EE.T 85=some ⟨1,24,.slice 67,[.nils]⟩:=by kernel_rfl
def sSk:SliceT EE 85 4:=⟨_,_,_,_,_,tSk,qK,rfl,by decide,by decide⟩
def rH (s:Nat) (h:Hp) (k:KT (IV×Hp)):Ay (Al EE 85 0 []) s h k=k (.clip []) h [] []:=Cu tSk qK (by decide) (cells:=[]) rfl k
def sJ (s0 o n:Int) (ks:List FV) (s:Nat) (h:Hp) (k:KT (IV×Hp)):Ay (Al EE 85 1 [(0,.agg [.fv (.int .i64 s0),.fv (.int .i64 o),.fv (.int .i64 n),.fv (.sl ks)])]) s h k=k (.clip [.agg [.int .i64 s0,.int .i64 o,.int .i64 n,.sl ks]]) h [] [] :=Cu tSk qK (by decide) (cells:=[.int .i64 s0,.int .i64 o,.int .i64 n,.sl ks]) rfl k
def iG (s0 o n:Int) (ks:List FV) (s:Nat) (h:Hp) (k:KT (IV×Hp)):Ay (Al EE 85 1 [(0,.fv (.agg [.int .i64 s0,.int .i64 o,.int .i64 n,.sl ks]))]) s h k=k (.clip [.agg [.int .i64 s0,.int .i64 o,.int .i64 n,.sl ks]]) h [] [] :=Cu tSk qK (by decide) (cells:=[.int .i64 s0,.int .i64 o,.int .i64 n,.sl ks]) rfl k
theorem mR {n:Nat} (g:A6) (hg:g.length<=900000):BA (En true (SS dt (n+1)) 144 [.fv (AK g)] []) (AK g):=by
 rw [AK];cases g with
 | nil =>
  have h1:Ct (SS dt (n+1) 144 [.nils] ⟨[],[]⟩)=true:=by kernel_rfl
  have h2:Ct (SS dt (n+1) 144 [.emp] ⟨[],[]⟩)=true:=by kernel_rfl
  simp only [En,AhM,h1,h2,Bool.and_self,if_true];exact Aw _ _
 | cons t g =>
  have e:En true (SS dt (n+1)) 144 [.fv (.sl ((t::g).map v1))] []=SS dt (n+1) 144 [.fv (.sl ((t::g).map v1))] ⟨[],[]⟩:=by simp [En]
  rw [e,AeM];have happ:=fun {β:Type}=>Ht (β:=β) sSk (.sl ((t::g).map v1)) (Dk (t::g)) rfl (by simp at hg ⊢;omega) (s0:=.clip []) (.inr rfl);simp only [AhN] at happ ⊢;simp only [sN,↓XX,XY,↓reduceIte,seval,↓yJ tSk,↓rH,↓happ];exact Bn rfl _
def qN {n:Nat} (g:A6):∃own,SS dt (n+1) 143 [.fv (AK g)] ⟨[],[]⟩=some (.clip (g.map v1),⟨own,[]⟩):=by rw [AcO,AK];have hs:=fun {β:Type}=>jS (β:=β) (E:=EE) sSk (es:=g.map v1) (Dk g);simp only [List.length_map] at hs;simp only [rM,↓XX,XY,↓reduceIte,seval,↓hs];exact ⟨_,rfl⟩
def tP (g:A6) (st:Int) (a:Tm) (hg:g.length<=900000):gW (AK g) st a (AK (g++[(st,a)])):=by refine ⟨2,fun n hn=>?_⟩;obtain ⟨n,rfl⟩:∃k,n=k+1+1:=⟨n - 2,by omega⟩;rw [Acw];have h1:=mR (n:=n) g hg;obtain ⟨o2,h2⟩:=qN (n:=n) g;have happ:=fun {β:Type}=>AaY (β:=β) sSk (.clip [v1 (st,a)]) (Dk [(st,a)]) (Dk g) rfl (by simp;omega);rw [AK] at h1 h2;rw [AK,AK,List.map_append,AhN,AhM];obtain ⟨o,p,k⟩:=a;simp only [v1,Tm.op,Tm.n,Tm.kids] at happ ⊢;rw [Am];simp only [sT,↓XX,XY,↓reduceIte,seval,↓vH h1,↓sG h2,↓sJ,↓iG,↓happ];exact Bn rfl _
def rT (G:FV) (ih:Ah) (xs:List IV) (h0:Hp) (k:KT (IV×Hp)):CJ EE ih (.fv (.func (.func 102) [G] [])) xs h0 k=A0 [] false false ih 102 (.fv G::xs) h0 k:=by
 have h:EE.pol.inl 102=false:=by kernel_rfl
 have h1:EE.pol.keep 102=[]:=by kernel_rfl
 have h2:EE.pol.split 102=false:=by kernel_rfl
 have h3:EE.pol.raw 102=false:=by kernel_rfl
 unfold CJ;simp only [callee,h,cond_false,bE,h1,h2,h3,AhM,List.nil_append,List.append_nil,AhN,List.cons_append]
def jB (fn:Fn) (G:FV) (s:Nat) (h:Hp) (k:KT (IV×Hp)):Ay (val (CE fn [.fv G] [])) s h k=k (.fv (.func fn [G] [])) h [] []:=FY (β:=IV×Hp) (.fv (.func fn [G] [])) s h k
theorem AaN {n:Nat} {G:FV} {st:Int} {a:Tm} (ks:List Tm) (hl:ks.length<=1000) (hn:ks.length<n) (h:∀t∈ks,BA (SS dt n 102 [.fv G,iv st,.fv t.enc,.fv a.enc] ⟨[],[]⟩) (.int .i64 0)) :
  BA (SS dt (n+1) 105 [.fv G,iv st,.fv a.enc,.fv (.sl (ks.map Tm.enc))] ⟨[],[]⟩) (.int .i64 0):=by
 rw [Aer];obtain ⟨oa,na,ka⟩:=a;simp only [Am] at h ⊢;simp only [Ld,Ze,↓XX,XY,↓reduceIte,seval,↓AG,XD,heldB,AQ,XE,↓jB];refine A9 (Q:=fun r=>BA r _) (fun k V H=>∃pre rest,ks=pre++rest/\rest.length=k/\V=[iv st,.ptr (.own 110100480) 0,.fv (.func (.func 102) [G] []),.fv (.sl (ks.map Tm.enc)),iv ks.length,iv pre.length] /\
  H=⟨[(110100480,.row [iv oa,iv na,.fv (.sl (ka.map Tm.enc))] false)],[]⟩) ?_ n ks.length _ _ hn ⟨[],ks,rfl,rfl,rfl,rfl⟩
 rintro k V H rec ⟨pre,rest,hk,hkl,rfl,rfl⟩ hrec;cases rest with
 | nil =>
  have hi:¬ (pre.length:Int)<ks.length:=by rw [hk];simp
  simp only [Ld,OB,Ze,↓XX,XY,↓reduceIte,seval,↓AG,XD,heldB,AQ,XE,hi];exact Aw _ _
 | cons t rest =>
  have hi:(pre.length:Int)<ks.length:=by rw [hk];simp;omega
  have hg:=BY (l:=ks) (pre:=pre) (a:=t) (rest:=rest) hk;have hc:=h t (by rw [hk];simp);have hwi:BB ((pre.length:Int)+1)=((pre++[t]).length:Int):=(Ax (by omega) (by omega)).trans (by simp);simp only [AhL] at hkl;have h9:=hrec rest.length [iv st,.ptr (.own 110100480) 0,.fv (.func (.func 102) [G] []),.fv (.sl (ks.map Tm.enc)),iv ks.length,iv (pre++[t]).length] _ (by omega) ⟨pre++[t],rest,by rw [hk];simp,rfl,rfl,rfl⟩;obtain ⟨o,p,l⟩:=t;rw [Am] at hc;simp only [Ld,OB,Ze,↓XX,XY,↓reduceIte,seval,↓AG,XD,heldB,AQ,XE,hi,↓Bp (AM hg) (Bi _ _ _),↓B6,↓rT,↓As hc,hwi];exact h9
def k_a {G:FV} {st:Int} {a:Tm} {ks:List Tm} (hl:ks.length<=1000) (h:∀t∈ks,gC G st t a):gA G st a ks:=by
 have hN:∃N,∀n,N<=n->∀t∈ks,BA (SS dt n 102 [.fv G,iv st,.fv t.enc,.fv a.enc] ⟨[],[]⟩) (.int .i64 0):=by
  clear hl
  induction ks with
  | nil=>exact ⟨0,fun n hn t ht=>by simp at ht⟩
  | cons t ks ih =>
   obtain ⟨N1,h1⟩:=ih (fun t ht=>h t (by simp [ht]));obtain ⟨N2,h2⟩:=h t (by simp);refine ⟨N1+N2,fun n hn x hx=>?_⟩;rcases List.mem_cons.1 hx with rfl | hx
   ·exact h2 n (by omega)
   ·exact h1 n (by omega) x hx
 obtain ⟨N,hN⟩:=hN;refine ⟨N+2000,fun n hn=>?_⟩;obtain ⟨n,rfl⟩:=psc n (by omega);exact AaN ks hl (by omega) (hN n (by omega))
def wY {G:FV} {st:Int} {a x y:Tm} (h1:gC G st x a) (h2:gC G st y a):gA G st a [x,y]:=k_a (by simp) (by simp [h1,h2])
def zK {G:FV} {st:Int} {a x:Tm} (h1:gC G st x a):gA G st a [x]:=k_a (by simp) (by simp [h1])
def Ae1 {G:FV} {st:Int} {a:Tm}:gA G st a []:=k_a (by simp) (by simp)
def AeI {G:FV} {m:Int}  : gP G (.mk 10 m []) (.mk 2 0 []):=by refine ⟨200,fun n hn=>?_⟩;obtain ⟨n,rfl⟩:=psc n (by omega);have o10:=Fd (n:=n) (by omega) 10 [];have o14:=Fd (n:=n) (by omega) 14 [];have o2:=Fd (n:=n) (by omega) 2 [];rw [PP];simp only [EM] at o10 o14 o2 ⊢;simp only [↓mE,↓XX,XY,↓reduceIte,seval,↓Af o10,↓Af o14,↓Af o2];exact A4 rfl
def AcE {G:FV} {m:Int}  : gP G (.mk 14 m []) (.mk 2 0 []):=by refine ⟨200,fun n hn=>?_⟩;obtain ⟨n,rfl⟩:=psc n (by omega);have o10:=Fd (n:=n) (by omega) 10 [];have o14:=Fd (n:=n) (by omega) 14 [];have o2:=Fd (n:=n) (by omega) 2 [];rw [PP];simp only [EM] at o10 o14 o2 ⊢;simp only [↓mE,↓XX,XY,↓reduceIte,seval,↓Af o10,↓Af o14,↓Af o2];exact A4 rfl
def Aed {G:FV} {m:Int}  : gP G (.mk 11 m []) natT:=by refine ⟨200,fun n hn=>?_⟩;obtain ⟨n,rfl⟩:=psc n (by omega);have o10:=Fd (n:=n) (by omega) 10 [];have o14:=Fd (n:=n) (by omega) 14 [];have o2:=Fd (n:=n) (by omega) 2 [];rw [PP];simp only [EM] at o10 o14 o2 ⊢;simp only [↓mE,↓XX,XY,↓reduceIte,seval,↓Af o10,↓Af o14,↓Af o2];exact A4 rfl
def Aek {G:FV} {a:Tm} {m:Int} (h0:gA G 1 natT [a]):gP G (.mk 12 m [a]) natT:=by refine C4 200 h0 fun n hn h0=>?_;have o10:=Fd (n:=n) (by omega) 10 [];have o14:=Fd (n:=n) (by omega) 14 [];have o2:=Fd (n:=n) (by omega) 2 [];rw [PP];simp only [EM] at h0 o10 o14 o2 ⊢;simp only [↓mE,↓XX,XY,↓reduceIte,seval,↓As h0,↓Af o10,↓Af o14,↓Af o2];exact A4 rfl
def Ac0 {G:FV} {m:Int} (h0:gA G 1 tyT []):gP G (.mk 15 m []) tyT:=by refine C4 200 h0 fun n hn h0=>?_;have o10:=Fd (n:=n) (by omega) 10 [];have o14:=Fd (n:=n) (by omega) 14 [];have o2:=Fd (n:=n) (by omega) 2 [];rw [PP];simp only [EM] at h0 o10 o14 o2 ⊢;simp only [↓mE,↓XX,XY,↓reduceIte,seval,↓As h0,↓Af o10,↓Af o14,↓Af o2];exact A4 rfl
def Ab8 {G:FV} {a b:Tm} {m:Int} (h0:gA G 1 tyT [a,b]):gP G (.mk 16 m [a,b]) tyT:=by refine C4 200 h0 fun n hn h0=>?_;have o10:=Fd (n:=n) (by omega) 10 [];have o14:=Fd (n:=n) (by omega) 14 [];have o2:=Fd (n:=n) (by omega) 2 [];rw [PP];simp only [EM] at h0 o10 o14 o2 ⊢;simp only [↓mE,↓XX,XY,↓reduceIte,seval,↓As h0,↓Af o10,↓Af o14,↓Af o2];exact A4 rfl
def AdD {G:FV} {a b:Tm} {m:Int} (h0:gA G 1 tyT [a,b]):gP G (.mk 17 m [a,b]) tyT:=by refine C4 200 h0 fun n hn h0=>?_;have o10:=Fd (n:=n) (by omega) 10 [];have o14:=Fd (n:=n) (by omega) 14 [];have o2:=Fd (n:=n) (by omega) 2 [];rw [PP];simp only [EM] at h0 o10 o14 o2 ⊢;simp only [↓mE,↓XX,XY,↓reduceIte,seval,↓As h0,↓Af o10,↓Af o14,↓Af o2];exact A4 rfl
def Ab4 {G:FV} {a:Tm} {m:Int} (h0:gA G 1 tyT [a]):gP G (.mk 18 m [a]) (.mk 2 0 []):=by refine C4 200 h0 fun n hn h0=>?_;have o10:=Fd (n:=n) (by omega) 10 [];have o14:=Fd (n:=n) (by omega) 14 [];have o2:=Fd (n:=n) (by omega) 2 [];rw [PP];simp only [EM] at h0 o10 o14 o2 ⊢;simp only [↓mE,↓XX,XY,↓reduceIte,seval,↓As h0,↓Af o10,↓Af o14,↓Af o2];exact A4 rfl
def AcF {G:FV} {a A:Tm} {m:Int} (h0:gI G 0 a A):gP G (.mk 19 m [a]) (.mk 18 0 [A]):=by refine C4 200 h0 fun n hn h0=>?_;have o10:=Fd (n:=n) (by omega) 10 [];have o14:=Fd (n:=n) (by omega) 14 [];have o2:=Fd (n:=n) (by omega) 2 [];have o18:=Fd (n:=n) (by omega) 18 [A];rw [PP];simp only [EM] at h0 o10 o14 o2 o18 ⊢;simp only [↓mE,↓XX,XY,↓reduceIte,seval,↓Au h0,↓Af o10,↓Af o14,↓Af o2,↓Af o18,↓Du];exact A4 rfl
def Pd {G:FV} {op m:Int} {ks:List Tm} {A:Tm} (ho:(op≠2/\op≠3/\op≠6)/\(op≠4/\op≠5/\op≠7)/\op≠8/\op≠9/\op≠13) (h0:gP G (.mk op m ks) A):gM G (.mk op m ks) A:=by refine C4 200 h0 fun n hn h0=>?_;rw [gT];simp only [EM] at h0 ⊢;simp only [↓i7,↓XX,XY,↓reduceIte,seval,↓Af h0,ho.1.1,ho.1.2.1,ho.1.2.2,ho.2.1.1,ho.2.1.2.1,ho.2.1.2.2,ho.2.2.1,ho.2.2.2.1,ho.2.2.2.2];exact A4 rfl
def Aeh {G:FV} {m:Int} (h:0<=m/\m<=1):gM G (.mk 2 m []) (.mk 2 (m+1) []):=by
 refine ⟨200,fun n hn=>?_⟩;obtain ⟨n,rfl⟩:=psc n (by omega);have hm:¬ 2<=m:=by omega
 have hw:BB (m+1)=m+1:=Ax (by omega) (by omega);rw [gT];simp only [Am,AhN,AhM,Er,tyT,natT,Tm.z,Tm.op,Tm.n];simp only [↓i7,↓XX,XY,↓reduceIte,seval,hm,hw];exact A4 rfl
def AeZ {G:FV} {a b A:Tm} {m:Int} (h0:Ev 109 [.fv G,.fv a.enc,.fv b.enc] (.tuple [Tm.enc A,.int .i64 0])):gM G (.mk 3 m [a,b]) A:=by refine C4 200 h0 fun n hn h0=>?_;rw [gT];simp only [EM] at h0 ⊢;simp only [↓i7,↓XX,XY,↓reduceIte,seval,↓Au h0];exact A4 rfl
def AeO {G:FV} {a b A:Tm} {m:Int} (h0:Ev 109 [.fv G,.fv a.enc,.fv b.enc] (.tuple [Tm.enc A,.int .i64 0])):gM G (.mk 6 m [a,b]) A:=by refine C4 200 h0 fun n hn h0=>?_;rw [gT];simp only [EM] at h0 ⊢;simp only [↓i7,↓XX,XY,↓reduceIte,seval,↓Au h0];exact A4 rfl
def AeU {G:FV} {a b A:Tm} {m:Int} (h0:Ev 110 [.fv G,.fv a.enc,.fv b.enc] (.tuple [Tm.enc A,.int .i64 0])):gM G (.mk 4 m [a,b]) A:=by refine C4 200 h0 fun n hn h0=>?_;rw [gT];simp only [EM] at h0 ⊢;simp only [↓i7,↓XX,XY,↓reduceIte,seval,↓Au h0];exact A4 rfl
def Ae5 {G:FV} {a b A:Tm} {m:Int} (h0:Ev 111 [.fv G,.fv a.enc,.fv b.enc] (.tuple [Tm.enc A,.int .i64 0])):gM G (.mk 5 m [a,b]) A:=by refine C4 200 h0 fun n hn h0=>?_;rw [gT];simp only [EM] at h0 ⊢;simp only [↓i7,↓XX,XY,↓reduceIte,seval,↓Au h0];exact A4 rfl
def AcU {G:FV} {a b c A:Tm} {m:Int} (h0:Ev 112 [.fv G,.fv a.enc,.fv b.enc,.fv c.enc] (.tuple [Tm.enc A,.int .i64 0])):gM G (.mk 7 m [a,b,c]) A:=by refine C4 200 h0 fun n hn h0=>?_;rw [gT];simp only [EM] at h0 ⊢;simp only [↓i7,↓XX,XY,↓reduceIte,seval,↓As h0];exact A4 rfl
def yY {G:FV} {a b c d A:Tm} {m:Int} (h0:Ev 114 [.fv G,.fv a.enc,.fv b.enc,.fv c.enc,.fv d.enc] (.tuple [Tm.enc A,.int .i64 0])):gM G (.mk 13 m [a,b,c,d]) A:=by refine C4 200 h0 fun n hn h0=>?_;rw [gT];simp only [EM] at h0 ⊢;simp only [↓i7,↓XX,XY,↓reduceIte,seval,↓yS h0];exact A4 rfl
def Acr {G:FV} {a A:Tm} {m:Int} (h0:Ev 113 [.fv G,.fv (Tm.mk 8 m [a]).enc] (.tuple [A.enc,.int .i64 0])):gM G (.mk 8 m [a]) A:=by refine C4 200 h0 fun n hn h0=>?_;rw [gT];simp only [EM] at h0 ⊢;simp only [↓i7,↓XX,XY,↓reduceIte,seval,↓Af h0];exact A4 rfl
def zF {G:FV} {a b:Tm} {i j:Int} {G1:FV} (h0:gL G a i) (h1:gW G 1 a G1) (h2:gL G1 b j):Ev 109 [.fv G,.fv a.enc,.fv b.enc] (.tuple [(Tm.mk 2 (if i<j then j else i) []).enc,.int .i64 0]):=by refine Sd 200 h0 h1 h2 fun n hn h0 h1 h2=>?_;rw [Adv];simp only [EM] at h0 h1 h2 ⊢;simp only [Wl,uO,↓XX,XY,↓reduceIte,seval,↓Af h0,↓Au h1,↓Af h2,↓eA];exact A4 rfl
def AdL {G:FV} {a b B C:Tm} {i:Int} {G1:FV} (h0:gL G a i) (h1:gW G 1 a G1) (h2:gI G1 1 b B) (h3:PN (.mk 3 0 [a,B]) C):Ev 110 [.fv G,.fv a.enc,.fv b.enc] (.tuple [C.enc,.int .i64 0]):=by refine lC 200 h0 h1 h2 h3 fun n hn h0 h1 h2 h3=>?_;have o3:=Fd (n:=n) (by omega) 3 [a,B];rw [Ac7];simp only [EM] at h0 h1 h2 h3 o3 ⊢;simp only [WZ,qP,↓XX,XY,↓reduceIte,seval,↓Af h0,↓Au h1,↓Au h2,↓Ap h3,↓Af o3,↓CF];exact A4 rfl
def TF {op m:Int} {a b:Tm}  : Ev 103 [.fv (Tm.mk op m [a,b]).enc,iv 0] a.enc:=by refine ⟨200,fun n hn=>?_⟩;obtain ⟨n,rfl⟩:=psc n (by omega);rw [wL];obtain ⟨oa,pa,ka⟩:=a;obtain ⟨ob,pb,kb⟩:=b;simp only [Am,AhN,AhM,Er,tyT,natT,Tm.z,Tm.op,Tm.n];simp only [bR,↓XX,XY,↓reduceIte,seval];exact A4 rfl
def p9 {op m:Int} {a b:Tm}  : Ev 103 [.fv (Tm.mk op m [a,b]).enc,iv 1] b.enc:=by refine ⟨200,fun n hn=>?_⟩;obtain ⟨n,rfl⟩:=psc n (by omega);rw [wL];obtain ⟨oa,pa,ka⟩:=a;obtain ⟨ob,pb,kb⟩:=b;simp only [Am,AhN,AhM,Er,tyT,natT,Tm.z,Tm.op,Tm.n];simp only [bR,↓XX,XY,↓reduceIte,seval];exact A4 rfl
def AaR {op m:Int} {a:Tm}  : Ev 103 [.fv (Tm.mk op m [a]).enc,iv 0] a.enc:=by refine ⟨200,fun n hn=>?_⟩;obtain ⟨n,rfl⟩:=psc n (by omega);rw [wL];obtain ⟨oa,pa,ka⟩:=a;simp only [Am,AhN,AhM,Er,tyT,natT,Tm.z,Tm.op,Tm.n];simp only [bR,↓XX,XY,↓reduceIte,seval];exact A4 rfl
def Acg {G:FV} {f x A B Y:Tm} {q:Int} (h0:gS G 1 f 3 (.mk 3 q [A,B])) (h1:gC G 1 x A) (h2:To B x Y) (h3:Ev 103 [.fv (Tm.mk 3 q [A,B]).enc,iv 0] A.enc):Ev 111 [.fv G,.fv f.enc,.fv x.enc] (.tuple [Y.enc,.int .i64 0]):=by refine lC 200 h0 h1 h2 h3 fun n hn h0 h1 h2 h3=>?_;rw [AdB];simp only [EM] at h0 h1 h2 h3 ⊢;simp only [Uc,sL,↓XX,XY,↓reduceIte,seval,↓As h0,↓As h1,↓Af h2,↓Af h3];exact A4 rfl
def AeT {G:FV} {x A B:Tm} {q m:Int} (h0:gS G 1 x 6 (.mk 6 q [A,B])):Ev 113 [.fv G,.fv (Tm.mk 8 m [x]).enc] (.tuple [A.enc,.int .i64 0]):=by refine C4 200 h0 fun n hn h0=>?_;rw [Aee];simp only [EM] at h0 ⊢;simp only [WD,wJ,↓XX,XY,↓reduceIte,seval,↓As h0];exact A4 rfl
def AbZ {G:FV} {S x y A B Y:Tm} {q i:Int} (h0:gL G S i) (h1:PN S (.mk 6 q [A,B])) (h2:gC G 1 x A) (h3:To B x Y) (h4:gC G 1 y Y):Ev 112 [.fv G,.fv S.enc,.fv x.enc,.fv y.enc] (.tuple [(Tm.mk 6 q [A,B]).enc,.int .i64 0]):=by refine w8 200 h0 h1 h2 h3 h4 fun n hn h0 h1 h2 h3 h4=>?_;rw [AdJ];simp only [EM] at h0 h1 h2 h3 h4 ⊢;simp only [RX,QQ,r9,↓XX,XY,↓reduceIte,seval,↓Af h0,↓Ap h1,↓As h2,↓Af h3,↓As h4];exact A4 rfl
def Ado {G:FV} {p z s k w p1 p2 Y:Tm} {i:Int} {G1 G2:FV} (h0:gW G 1 natT G1) (h1:gL G1 p i) (h2:To p (.mk 11 0 []) p1) (h3:gC G 1 z p1) (h4:pSh p 2 1 w) (h5:To w (.mk 12 0 [.mk 1 1 []]) p2) (h6:gW G1 1 p G2) (h7:gC G2 1 s p2) (h8:gC G 1 k natT) (h9:To p k Y):Ev 114 [.fv G,.fv p.enc,.fv z.enc,.fv s.enc,.fv k.enc] (.tuple [Y.enc,.int .i64 0]):=by refine AaI 200 h0 h1 h2 h3 h4 h5 h6 h7 h8 h9 fun n hn h0 h1 h2 h3 h4 h5 h6 h7 h8 h9=>?_;have o10:=Fd (n:=n) (by omega) 10 [];have o11:=Fd (n:=n) (by omega) 11 [];have o12:=Fd (n:=n) (by omega) 12 [.mk 1 1 []];rw [Aep];simp only [EM] at h0 h1 h2 h3 h4 h5 h6 h7 h8 h9 o10 o11 o12 ⊢;simp only [Q0,Rs,Ry,rS,↓XX,XY,↓reduceIte,seval,↓Au h0,↓Af h1,↓Af h2,↓As h3,↓Au h4,↓Af h5,↓Au h6,↓As h7,↓As h8,↓Af h9,↓Af o10,↓Af o11,↓Af o12,↓Du,↓yR];exact A4 rfl
def Aa8 {G:FV} {m:Int}  : gO G (.mk 25 m []) Er:=by refine ⟨200,fun n hn=>?_⟩;obtain ⟨n,rfl⟩:=psc n (by omega);have o15:=Fd (n:=n) (by omega) 15 [];rw [fN];simp only [EM] at o15 ⊢;simp only [↓fK,↓XX,XY,↓reduceIte,seval,↓Af o15];exact A4 rfl
def y6 {G:FV} {a b:Tm} {m:Int} (h0:gA G 0 Er [a,b]):gO G (.mk 26 m [a,b]) Er:=by refine C4 200 h0 fun n hn h0=>?_;have o15:=Fd (n:=n) (by omega) 15 [];rw [fN];simp only [EM] at h0 o15 ⊢;simp only [↓fK,↓XX,XY,↓reduceIte,seval,↓As h0,↓Af o15];exact A4 rfl
def Abo {G:FV} {a b A:Tm} {m:Int} (h0:Ev 100 [.fv G,.fv a.enc,.fv b.enc] (.tuple [Tm.enc A,.int .i64 0])):gO G (.mk 20 m [a,b]) A:=by refine C4 200 h0 fun n hn h0=>?_;have o15:=Fd (n:=n) (by omega) 15 [];rw [fN];simp only [EM] at h0 o15 ⊢;simp only [↓fK,↓XX,XY,↓reduceIte,seval,↓Au h0,↓Af o15];exact A4 rfl
def zI {G:FV} {a b A:Tm} {m:Int} (h0:Ev 104 [.fv G,.fv a.enc,.fv b.enc] (.tuple [Tm.enc A,.int .i64 0])):gO G (.mk 22 m [a,b]) A:=by refine C4 200 h0 fun n hn h0=>?_;have o15:=Fd (n:=n) (by omega) 15 [];rw [fN];simp only [EM] at h0 o15 ⊢;simp only [↓fK,↓XX,XY,↓reduceIte,seval,↓Au h0,↓Af o15];exact A4 rfl
def zT {G:FV} {a b c A:Tm} {m:Int} (h0:Ev 106 [.fv G,.fv a.enc,.fv b.enc,.fv c.enc] (.tuple [Tm.enc A,.int .i64 0])):gO G (.mk 27 m [a,b,c]) A:=by refine C4 200 h0 fun n hn h0=>?_;have o15:=Fd (n:=n) (by omega) 15 [];rw [fN];simp only [EM] at h0 o15 ⊢;simp only [↓fK,↓XX,XY,↓reduceIte,seval,↓As h0,↓Af o15];exact A4 rfl
def AaG {G:FV} {a b A:Tm} {m:Int} (h0:Ev 108 [.fv G,.fv a.enc,.fv b.enc] (.tuple [Tm.enc A,.int .i64 0])):gO G (.mk 29 m [a,b]) A:=by refine C4 200 h0 fun n hn h0=>?_;have o15:=Fd (n:=n) (by omega) 15 [];rw [fN];simp only [EM] at h0 o15 ⊢;simp only [↓fK,↓XX,XY,↓reduceIte,seval,↓Au h0,↓Af o15];exact A4 rfl
def zD {G:FV} {x y A B:Tm} {m:Int} (h0:gI G 0 x A) (h1:gU G A y B):gO G (.mk 28 m [x,y]) B:=by refine N6 200 h0 h1 fun n hn h0 h1=>?_;have o15:=Fd (n:=n) (by omega) 15 [];rw [fN];simp only [EM] at h0 h1 o15 ⊢;simp only [↓fK,↓XX,XY,↓reduceIte,seval,↓Au h0,↓Au h1,↓Af o15];exact A4 rfl
def xT {G:FV} {x A:Tm} {m q:Int} (h0:gS G 1 x 18 (.mk 18 q [A])) (h1:Ev 103 [.fv (Tm.mk 18 q [A]).enc,iv 0] A.enc):gO G (.mk 30 m [x]) A:=by refine N6 200 h0 h1 fun n hn h0 h1=>?_;have o15:=Fd (n:=n) (by omega) 15 [];rw [fN];simp only [EM] at h0 h1 o15 ⊢;simp only [↓fK,↓XX,XY,↓reduceIte,seval,↓As h0,↓Af h1,↓Af o15];exact A4 rfl
def Aa7 {G:FV} {f x A B:Tm} {m q:Int} (h0:gS G 0 f 16 (.mk 16 q [A,B])) (h1:Ev 103 [.fv (Tm.mk 16 q [A,B]).enc,iv 0] A.enc) (h2:gC G 0 x A) (h3:Ev 103 [.fv (Tm.mk 16 q [A,B]).enc,iv 1] B.enc):gO G (.mk 21 m [f,x]) B:=by refine lC 200 h0 h1 h2 h3 fun n hn h0 h1 h2 h3=>?_;have o15:=Fd (n:=n) (by omega) 15 [];rw [fN];simp only [EM] at h0 h1 h2 h3 o15 ⊢;simp only [↓fK,↓XX,XY,↓reduceIte,seval,↓As h0,↓Af h1,↓As h2,↓Af h3,↓Af o15];exact A4 rfl
def Aaq {G:FV} {x A B:Tm} {m q:Int} (h0:gS G 0 x 17 (.mk 17 q [A,B])) (h1:Ev 103 [.fv (Tm.mk 17 q [A,B]).enc,iv 0] A.enc):gO G (.mk 23 m [x]) A:=by refine N6 200 h0 h1 fun n hn h0 h1=>?_;have o15:=Fd (n:=n) (by omega) 15 [];have w0:BB (23 - 23)=0/\BB 0=0:=⟨rfl,rfl⟩;rw [fN];simp only [EM] at h0 h1 o15 ⊢;simp only [↓fK,↓XX,XY,↓reduceIte,seval,↓As h0,↓Af h1,↓Af o15,w0];exact A4 rfl
def Adc {G:FV} {a b c r:Tm} {G1:FV} (h0:gW G 0 a G1) (h1:gI G1 0 b c) (h2:pF c false) (h3:pSu c (.mk 11 0 []) r):gU G a b r:=by refine lC 200 h0 h1 h2 h3 fun n hn h0 h1 h2 h3=>?_;have o11:=Fd (n:=n) (by omega) 11 [];rw [AcQ];simp only [EM] at h0 h1 h2 h3 o11 ⊢;simp only [Uq,wW,↓XX,XY,↓reduceIte,seval,↓Au h0,↓Au h1,↓Af h2,↓Au h3,↓Af o11];exact A4 rfl
def Ab3 {G:FV} {a b B C:Tm} (h0:gC G 1 a tyT) (h1:gU G a b B) (h2:PN (.mk 16 0 [a,B]) C):Ev 100 [.fv G,.fv a.enc,.fv b.enc] (.tuple [C.enc,.int .i64 0]):=by refine Sd 200 h0 h1 h2 fun n hn h0 h1 h2=>?_;have o14:=Fd (n:=n) (by omega) 14 [];have o16:=Fd (n:=n) (by omega) 16 [a,B];rw [AdY];simp only [EM] at h0 h1 h2 o14 o16 ⊢;simp only [W1,sS,↓XX,XY,↓reduceIte,seval,↓As h0,↓Au h1,↓Ap h2,↓Af o14,↓Af o16,↓CF];exact A4 rfl
def Acb {G:FV} {x y A B C:Tm} (h0:gI G 0 x A) (h1:gI G 0 y B) (h2:PN (.mk 17 0 [A,B]) C):Ev 104 [.fv G,.fv x.enc,.fv y.enc] (.tuple [C.enc,.int .i64 0]):=by refine Sd 200 h0 h1 h2 fun n hn h0 h1 h2=>?_;have o17:=Fd (n:=n) (by omega) 17 [A,B];rw [AeJ];simp only [EM] at h0 h1 h2 o17 ⊢;simp only [U4,pM,↓XX,XY,↓reduceIte,seval,↓Au h0,↓Au h1,↓Ap h2,↓Af o17,↓CF];exact A4 rfl
def Adz {G:FV} {c x y A:Tm} (h0:gC G 0 c Er) (h1:gI G 0 x A) (h2:gC G 0 y A):Ev 106 [.fv G,.fv c.enc,.fv x.enc,.fv y.enc] (.tuple [A.enc,.int .i64 0]):=by refine Sd 200 h0 h1 h2 fun n hn h0 h1 h2=>?_;have o15:=Fd (n:=n) (by omega) 15 [];rw [Ac9];simp only [EM] at h0 h1 h2 o15 ⊢;simp only [WR,pL,↓XX,XY,↓reduceIte,seval,↓As h0,↓Au h1,↓As h2,↓Af o15];exact A4 rfl
def AdZ {G:FV} {a b s A:Tm} {G1:FV} (h0:gC G 1 a tyT) (h1:gW G 0 a G1) (h2:pSh a 1 0 s) (h3:gC G1 0 b s) (h4:PN a A):Ev 108 [.fv G,.fv a.enc,.fv b.enc] (.tuple [A.enc,.int .i64 0]):=by refine w8 200 h0 h1 h2 h3 h4 fun n hn h0 h1 h2 h3 h4=>?_;have o14:=Fd (n:=n) (by omega) 14 [];rw [Acv];simp only [EM] at h0 h1 h2 h3 h4 o14 ⊢;simp only [Vc,wI,↓XX,XY,↓reduceIte,seval,↓As h0,↓Au h1,↓Au h2,↓As h3,↓Ap h4,↓Af o14];exact A4 rfl
def cH (ih:Ah) (xs:List IV) (h0:Hp) (k:KT (IV×Hp)):CJ EE ih (.fv (.func (.func 118) [] [])) xs h0 k=A0 [] false false ih 118 xs h0 k :=NK (by kernel_rfl) (by kernel_rfl) (by kernel_rfl) (by kernel_rfl) ..
def XG (u:Tm) (e:Int):FV:=.agg [.int .i64 u.op,.int .i64 u.n,.sl (u.kids.map Tm.enc),.int .i64 e]
def eP {n:Nat} (u v:Tm) (e1 e2:Int) (hn:2 * u.wt+4<n) (hw:u.wt<=100000000):BA (SS dt n 118 [.fv (XG u e1),.fv (XG v e2)] ⟨[],[]⟩) (.bool (u.same v)):=by obtain ⟨n,rfl⟩:=psc n (by omega);rw [Adb];have h:=RN n u v (by omega) hw;generalize u.same v=b at h ⊢;obtain ⟨o1,n1,k1⟩:=u;obtain ⟨o2,n2,k2⟩:=v;simp only [Am,XG,Tm.op,Tm.n,Tm.kids] at h ⊢;simp only [uC,↓XX,XY,↓reduceIte,seval,↓Af h];exact Aw _ _
mutual
theorem M0:∀(t u:Tm) (c d:Int) (k:Nat),t.sc k->0<=c->c+k+4 * t.wt<=1000000000->(t.shift 1 c).subst c d u=t
 | .mk op n ks,u,c,d,k,h,hc,hw=>by
  rw [Tm.sc] at h;simp only [Tm.wt] at hw;rw [Tm.shift,Tm.subst];by_cases h1:op=1
  ·have h2:=h.2.1;rw [if_pos h1] at h2;have hk:ks=[]:=by
    have:=h.1
    subst h1;exact List.eq_nil_of_length_eq_zero (Option.some.inj (this.symm.trans (show ar 1=some 0 from rfl)))
   subst hk;rw [if_pos h1];by_cases hn:c<=n
   ·have e:(if op=1/\c<=n then BB (n+1) else n)=n+1:=by rw [if_pos ⟨h1,hn⟩,Ax (by omega) (by omega)]
    rw [e,if_neg (by omega),if_pos (by omega),Ax (by omega) (by omega),h1,Int.add_sub_cancel]
   ·have e:(if op=1/\c<=n then BB (n+1) else n)=n:=if_neg (fun h=>hn h.2);rw [e,if_neg (by omega),if_neg (by omega),Tm.shiftL]
  ·rw [if_neg h1,if_neg (fun h=>h1 h.1),sub_shL ks u op 0 c d k h.2.2 hc (by omega)]
theorem sub_shL:∀(l:List Tm) (u:Tm) (op:Int) (i:Nat) (c d:Int) (k:Nat),Tm.scL op i l k->0<=c->c+k+4+4 * Tm.wtL l<=1000000000->Tm.substL op i (Tm.shiftL op i l 1 c) c d u=l
 | [],_,_,_,_,_,_,_,_,_=>rfl
 | t::l,u,op,i,c,d,k,h,hc,hw=>by
  rw [Tm.scL] at h;simp only [Tm.wtL] at hw;have hb:=AY op i;rw [Tm.shiftL,Tm.substL,M0 t u _ _ _ h.1 (by omega) (by have:=Eh t;omega),sub_shL l u op (i+1) c d k h.2 hc (by omega)]
end
mutual
theorem OO:∀(t:Tm) (c:Int) (k:Nat),t.sc k->0<=c->c+k+4 * t.wt<=1000000000->(t.shift 1 c).free c=false
 | .mk op n ks,c,k,h,hc,hw=>by
  rw [Tm.sc] at h;simp only [Tm.wt] at hw;rw [Tm.shift,Tm.free];by_cases h1:op=1
  ·have h2:=h.2.1;rw [if_pos h1] at h2 ⊢;rw [decide_eq_false_iff_not];by_cases hn:c<=n
   ·rw [if_pos ⟨h1,hn⟩,Ax (by omega) (by omega)];omega
   ·rw [if_neg (fun h=>hn h.2)];omega
  ·rw [if_neg h1];exact free_shL ks op 0 c k h.2.2 hc (by omega)
theorem free_shL:∀(l:List Tm) (op:Int) (i:Nat) (c:Int) (k:Nat),Tm.scL op i l k->0<=c->c+k+4+4 * Tm.wtL l<=1000000000->Tm.freeL op i (Tm.shiftL op i l 1 c) c=false
 | [],_,_,_,_,_,_,_=>rfl
 | t::l,op,i,c,k,h,hc,hw=>by
  rw [Tm.scL] at h;simp only [Tm.wtL] at hw;have hb:=AY op i;rw [Tm.shiftL,Tm.freeL,OO t _ _ h.1 (by omega) (by have:=Eh t;omega),free_shL l op (i+1) c k h.2 hc (by have:=Eh t;omega)];rfl
end
theorem dK {op op':Int} {ks:List Tm} {d c:Int} (h:mQ op ks):mQ op (Tm.shiftL op' 0 ks d c):=by
 have hg:∀(i:Nat) x,(Tm.shiftL op' 0 ks d c)[i]?=some x->∃y,ks[i]?=some y/\x.op=y.op:=by
  intro i x hx;rw [Im] at hx;cases hy:ks[i]? with
  | none=>rw [hy] at hx;cases hx
  | some y =>rw [hy] at hx;simp only [AhK,AhH] at hx;exact ⟨y,rfl,by rw [<- hx,MD]⟩
 obtain ⟨⟨h1,h2,h3⟩,h4,h5⟩:=h;refine ⟨⟨fun ho x hx=>?_,fun ho x hx=>?_,fun ho x hx=>?_⟩,fun ho x hx=>?_,fun ho x hx=>?_⟩<;>obtain ⟨y,hy,e⟩:=hg _ _ hx<;>rw [e]
 ·exact h1 ho y hy
 ·exact h2 ho y hy
 ·exact h3 ho y hy
 ·exact h4 ho y hy
 ·exact h5 ho y hy
mutual
theorem Tc:∀(t:Tm) (d c:Int),t.stl->(t.shift d c).stl
 | .mk op n ks,d,c,h=>by
  rw [Tm.stl] at h;rw [Tm.shift,Tm.stl];exact ⟨dK h.1,stlL_sh ks op 0 d c h.2⟩
theorem stlL_sh:∀(l:List Tm) (op:Int) (i:Nat) (d c:Int),Tm.stlL l->Tm.stlL (Tm.shiftL op i l d c)
 | [],_,_,_,_,_=>by rw [Tm.shiftL,Tm.stlL];trivial
 | t::l,op,i,d,c,h=>by
  rw [Tm.stlL] at h;rw [Tm.shiftL,Tm.stlL];exact ⟨Tc t _ _ h.1,stlL_sh l op (i+1) d c h.2⟩
end
theorem Em {G:List Nat} {t:Tm} {s:Nat} (h:HasT G t s):t.stl->NfT G t s:=by
 induction h with
 | var G n s h0 h hs=>exact fun _=>.var _ _ _ h0 h hs
 | node G op n ks s sg hr hl hk ih =>intro hs;rw [Tm.stl] at hs;exact .node _ _ _ _ _ sg hr hl hs.1.1 fun i t bs s' ht hg=>ih i t bs s' ht hg (Jd hs.2 (List.mem_of_getElem? ht))
 | app G n m a b x y s s0=>intro h;rw [Tm.stl] at h;exact absurd rfl (h.1.2.1 rfl _ rfl)
 | fst G n m a x y s s1 s0=>intro h;rw [Tm.stl] at h;exact absurd rfl (h.1.2.2 (.inl rfl) _ rfl)
 | snd G n m a x y s s1 s0=>intro h;rw [Tm.stl] at h;exact absurd rfl (h.1.2.2 (.inr rfl) _ rfl)
def Es (s:Nat):Prop:=s=0\/s=1\/s=2\/10<=s
theorem iO {op:Int} {s:Nat} {sg:Kc} (hr:Rule op s sg) (hs:Es s):(op≠4/\op≠7)/\∀(i:Nat) bs s',sg[i]?=some (bs,s')->Es s':=by
 have hi4:∀i:Nat,i=0\/i=1\/i=2\/i=3\/4<=i:=by omega
 unfold Es at hs ⊢;cases hr<;>refine ⟨by omega,fun i bs s' h=>?_⟩<;>rcases hi4 i with rfl | rfl | rfl | rfl | h4 <;>
  (try simp only [List.getElem?_cons_zero,List.getElem?_cons_succ,List.getElem?_nil,AhH,AhI,reduceCtorEq] at h) <;>
  first | (obtain ⟨_,rfl⟩:=h;omega) | (rw [List.getElem?_eq_none (by simp only [AhL,List.length_nil];omega)] at h;cases h) | cases h
theorem RK:∀{l:List Tm},(∀t∈l,t.eta=t)->Tm.etaL l=l
 | [],_=>rfl
 | x::l,h=>by rw [Tm.etaL,h x (List.mem_cons_self ..),RK fun t ht=>h t (List.mem_cons_of_mem _ ht)]
theorem NH {op n:Int} {l:List Tm} (h:op≠4/\op≠7) (hl:∀t∈l,t.eta=t):(Tm.mk op n l).eta=.mk op n l:=by rw [Tm.eta,if_neg h.1,if_neg h.2,RK hl]
theorem MF {G:List Nat} {t:Tm} {s:Nat} (h:NfT G t s):Es s->t.eta=t:=by
 induction h with
 | var G n s h0 h hs=>intro _;exact NH (by decide) (by simp)
 | node G op n ks s sg hr hl hst hk ih =>
  intro hs;obtain ⟨ho,hkid⟩:=iO hr hs;refine NH ho fun t ht=>?_;obtain ⟨i,hi⟩:=OC ht;have hi2:i<sg.length:=by rw [<- hl];exact (List.getElem?_eq_some_iff.1 hi).1
  exact ih i t _ _ hi (List.getElem?_eq_getElem hi2) (hkid i _ _ (List.getElem?_eq_getElem hi2))
def FT (a:Tm):Prop:=F1 a\/(∃(op:Int) (x y:Tm),(op=3\/op=6)/\F1 x/\F1 y/\a=.mk op 0 [x,y])\/a.op=18
theorem PS {op n:Int} {d c:Tm} (ho:op=3\/op=6) (h:FT (.mk op n [d,c])):F1 d/\F1 c:=by
 rcases h with (h | ⟨op',d',c',_,hd,hc,h⟩ | ⟨p,_,h⟩) | ⟨op',d',c',_,hd,hc,h⟩ | h
 ·rcases h with h | h | h | ⟨p,_,h⟩<;>simp only [Tm.mk.injEq] at h<;>omega
 ·simp only [Tm.mk.injEq,List.cons.injEq,and_true] at h;obtain ⟨_,_,rfl,rfl⟩:=h;exact ⟨.inl hd,.inl hc⟩
 ·simp only [Tm.mk.injEq] at h;omega
 ·simp only [Tm.mk.injEq,List.cons.injEq,and_true] at h;obtain ⟨_,_,rfl,rfl⟩:=h;exact ⟨hd,hc⟩
 ·simp only [Tm.op] at h;omega
theorem Np {a:Tm} (h:F1 a):FT a:=.inl h
theorem WB {n:Int} {a:Tm}:FT (.mk 18 n [a]):=.inr (.inr rfl)
theorem Sq:FT natT:=.inl (.inl (.inl rfl))
theorem Rn:FT tyT:=.inl (.inl (.inr (.inl rfl)))
theorem Fy {p:Tm} (h:F0 p) (d c:Int):p.shift d c=p:=by
 rcases h with rfl | rfl | rfl | ⟨q,h | ⟨op,ho,h⟩,rfl⟩
 ·simp [Tm.shift,Tm.shiftL]
 ·simp [Tm.shift,Tm.shiftL]
 ·simp [Tm.shift,Tm.shiftL]
 ·subst h;simp [Tm.shift,Tm.shiftL]
 ·subst h;rcases ho with rfl | rfl<;>simp [Tm.shift,Tm.shiftL]
theorem Km {p:Tm} (h:F0 p) (c d:Int) (u:Tm):p.subst c d u=p:=by
 rcases h with rfl | rfl | rfl | ⟨q,h | ⟨op,ho,h⟩,rfl⟩
 ·simp [Tm.subst,Tm.substL]
 ·simp [Tm.subst,Tm.substL]
 ·simp [Tm.subst,Tm.substL]
 ·subst h;simp [Tm.subst,Tm.substL]
 ·subst h;rcases ho with rfl | rfl<;>simp [Tm.subst,Tm.substL]
theorem J0 {p:Tm} {k:Nat} (h:F1 p) (hs:p.sc k) (hk:k<=1000) {d c:Nat} (hd:d<=1000) (hc:c<=1000):F1 (p.shift d c):=by
 rcases h with h | ⟨op,x,y,ho,hx,hy,rfl⟩ | ⟨p,hp,rfl⟩
 ·rw [Fy h];exact .inl h
 ·refine .inr (.inl ⟨op,x,y,ho,hx,hy,?_⟩);rw [Tm.shift,if_neg (by omega)];simp only [Tm.shiftL,Fy hx,Fy hy]
 ·refine .inr (.inr ⟨p.shift d c,?_,?_⟩)
  ·rcases hp with rfl | ⟨i,rfl⟩
   ·left;simp [Tm.shift,Tm.shiftL]
   ·right;rw [Tm.sc,if_neg (by decide)] at hs;have h2:=hs.2.2.1;rw [Tm.sc,if_pos rfl] at h2;have h3:=h2.2.1;rw [Tm.shift,Tm.shiftL];by_cases hc:(c:Int)<=(i:Int)
    ·refine ⟨i+d,?_⟩;rw [if_pos ⟨rfl,hc⟩,Ax (by omega) (by simp only [show Ak 18 0=0 from rfl] at h3;omega)]
     rfl
    ·exact ⟨i,by rw [if_neg (fun h=>hc h.2)]⟩
  ·simp [Tm.shift,Tm.shiftL,Ak]
theorem sF {c:Tm} (h:F1 c) (u:Tm):FT (c.subst 0 0 u)/\(c.subst 0 0 u).wt<=max 9 (1+u.wt)/\(c.subst 0 0 u).dp<=9+u.dp:=by
 rcases h with h | ⟨op,x,y,ho,hx,hy,rfl⟩ | ⟨p,hp,rfl⟩
 ·rw [Km h]
  have:=LJ h
  have:=Ea c
  exact ⟨.inl (.inl h),by omega,by omega⟩
 ·have e:(Tm.mk op 0 [x,y]).subst 0 0 u=.mk op 0 [x,y]:=by
   rw [Tm.subst,if_neg (by omega)];simp only [Tm.substL,Km hx,Km hy]
  have:=Fu (t:=.mk op 0 [x,y]) (.inr (.inl ⟨op,x,y,ho,hx,hy,rfl⟩))
  have:=Ea (.mk op 0 [x,y])
  rw [e];exact ⟨.inl (.inr (.inl ⟨op,x,y,ho,hx,hy,rfl⟩)),by omega,by omega⟩
 ·have e:(Tm.mk 18 0 [p]).subst 0 0 u=.mk 18 0 [p.subst 0 0 u]:=by
   rw [Tm.subst,if_neg (by decide)];rfl
  rw [e];refine ⟨WB,?_,?_⟩
  ·rw [Lx];have q:=JJ p u 0 0;have q2:p.wt=1:=by rcases hp with rfl | ⟨i,rfl⟩<;>simp [Tm.wt,Tm.wtL]
   rw [q2,Nat.one_mul] at q;omega
  ·rw [fP]
   have:=LO p u 0 0
   have:p.dp<=1:=by rcases hp with rfl | ⟨i,rfl⟩<;>simp [Tm.dp,Tm.dpL]
   omega
theorem oJ {e:Nat} {g:A6} {a t:Tm} (h:Gr 0 e g a t) (he:e<=7):FT t:=by
 by_cases h6:e<6
 ·exact .inl (.inl (t_5 h6 h))
 cases h with
 | tnat=>exact Sq
 | tty=>exact Rn
 | tu=>exact .inl (.inl (.inr (.inr (.inl rfl))))
 | tlp _ _ _ r=>exact WB
 | tpi _ _ _ x y op ho h6 hgl hx h1 h2 =>
  have f1:∀{g:A6} {a t:Tm},Gr 0 (e - 1) g a t->F1 t:=by
   intro g a t h;by_cases h5:e - 1<6
   ·exact .inl (t_5 h5 h)
   ·exact pV (by rwa [show e - 1=6 by omega] at h)
  exact .inr (.inl ⟨op,x,y,ho,f1 h1,f1 h2,rfl⟩)
 | tlift _ _ _ t h6 h1=>exact WB
def psu {k:Nat} {t u:Tm} (h:t.sc (k+1)) (hw:t.wt<=400000000) (hu:u.sc k) (huw:u.wt<=400000000) (hk:k<=150000000):pSu t u (t.subst 0 0 u):=by
 refine ⟨t.wt+u.wt+20,fun n hn=>?_⟩
 have:=d6 (n:=n) (t:=t) (u:=u) (v:=0) (K:=k+1) (by omega) (Da t _ h) (by omega) h (Da u _ hu) (by omega) (V3 u (by omega) hu) (by omega)
 rwa [Ix 0 u hu (by omega) t (k+1) 0 h (by omega) (by omega) (by omega)] at this
def psh {k:Nat} {t:Tm} {d c:Int} (h:t.sc k) (hw:t.wt<=400000000) (hk:k<=100000) (hd:0<=d) (hd2:d<=100000) (hc:0<=c) (hc2:c<=100000):pSh t d c (t.shift d c):=by
 refine ⟨t.wt+20,fun n hn=>?_⟩
 have:=QK (n:=n) (t:=t) (d:=d) (c:=c) (K:=k) (by omega) (Da t _ h) (by omega) h (by omega) (by omega) (by omega)
 rwa [Iz d c t k 0 h (by omega) (by omega) (by omega),show c+0=c by omega] at this
def pfr {k:Nat} {t:Tm} (h:t.sc k) (hw:t.wt<=400000000) (hk:k<=150000000):pF t (t.free 0):=by
 refine ⟨t.wt+20,fun n hn=>?_⟩
 have:=Vk (n:=n) (t:=t) (v:=0) (K:=k) (by omega) (by omega) h (by omega)
 rwa [Ka 0 (by omega) t 0 (by omega)] at this
def M5 {k:Nat} {t u Y:Tm} (h:t.sc (k+1)) (hw:t.wt<=400000000) (hu:u.sc k) (huw:u.wt<=400000000) (hk:k<=1000) (hN:PN (t.subst 0 0 u) Y):To t u Y:=zE (psu h hw hu huw (by omega)) hN
def AaP {a A:Tm} (h0:PN a A) (h1:PE A):Ev 117 [.fv a.enc] (XG A 0):=by obtain ⟨N0,h0⟩:=h0;obtain ⟨N1,h1⟩:=h1;refine ⟨N0+N1+200,fun n hn=>?_⟩;obtain ⟨n,rfl⟩:=psc n (by omega);have h0:=h0 n (by omega);have h1:=h1 n (by omega);rw [Adk];obtain ⟨o1,n1,k1⟩:=a;obtain ⟨o2,n2,k2⟩:=A;simp only [Am,XG,Tm.op,Tm.n,Tm.kids] at h0 h1 ⊢;simp only [vN,↓XX,XY,↓reduceIte,seval,↓Ap h0,↓Ap h1];exact Aw _ _
def AcM {a A:Tm} (h0:PN a A) (h1:PN A A) (h2:PE A) (hw:A.wt<=3001):gE A a:=by refine k_e ?_;obtain ⟨N0,q0⟩:=AaP h0 h2;obtain ⟨N1,q1⟩:=AaP h1 h2;refine ⟨N0+N1+20000,fun n hn=>?_⟩;obtain ⟨n,rfl⟩:=psc n (by omega);have q0:=q0 n (by omega);have q1:=q1 n (by omega);have c:=eP (n:=n) A A 0 0 (by omega) (by omega);rw [(I0 A A).2 rfl] at c;rw [c89];obtain ⟨o1,n1,k1⟩:=a;obtain ⟨o2,n2,k2⟩:=A;simp only [Am,XG,Tm.op,Tm.n,Tm.kids] at q0 q1 c ⊢;simp only [eG,S89,↓XX,XY,↓reduceIte,seval,↓Ap q0,↓Ap q1,↓cH,↓Af c];exact A4 rfl
def k_v {g:A6} {st:Int} {i:Nat} {T s A:Tm} (hi:i<g.length) (hl:g.length<=100000) (hg:g[g.length - 1 - i]?=some (st,T)) (h0:pSh T ((i:Int)+1) 0 s) (h1:PN s A):KI g st (.mk 1 (i:Int) []) A:=by
 have hv:Ev 83 [.fv (AK g),iv st,iv i] (.tuple [A.enc,.int .i64 0]):=by
  obtain ⟨N0,h0⟩:=h0;obtain ⟨N1,h1⟩:=h1;refine ⟨N0+N1+200,fun n hn=>?_⟩;obtain ⟨n,rfl⟩:=psc n (by omega);have hs:=h0 n (by omega);have hN:=h1 n (by omega);rw [c83];have hget:(g.map v1)[g.length - 1 - i]?=some (v1 (st,T)):=by rw [List.getElem?_map,hg];rfl
  have hix:=fun {β:Type}=>Bp (β:=β) (size:=4) hget rfl;have hlen:(g.map v1).length=g.length:=List.length_map _;have w1:BB ((g.length:Int) - 1)=(g.length:Int) - 1:=by rw [Ax]<;>omega
  have w2:BB ((g.length:Int) - 1 - i)=((g.length - 1 - i:Nat):Int):=by rw [Ax (by omega) (by omega)];omega
  have wi:BB ((i:Int)+1)=(i:Int)+1:=by rw [Ax]<;>omega
  have hno:¬ ((g.length:Int)<=i):=by omega
  obtain ⟨oT,nT,kT⟩:=T;obtain ⟨os,ns,ks⟩:=s;obtain ⟨oR,nR,kR⟩:=A;simp only [AK,Am,AhM,v1,Tm.op,Tm.n,Tm.kids] at hix hs hN ⊢;simp only [S83,↓XX,XY,↓reduceIte,seval,hlen,hno,w1,w2,wi,↓hix,FV.cells,↓Au hs,↓Ap hN];exact A4 rfl
 obtain ⟨N0,h0⟩:=hv;refine ⟨N0+200,fun n hn=>?_⟩;obtain ⟨n,rfl⟩:=psc n (by omega);have h0:=h0 n (by omega);rw [c58];obtain ⟨oA,pA,kA⟩:=A;simp only [Am,AhM] at h0 ⊢;simp only [S58,↓XX,XY,↓reduceIte,seval,↓Au h0];exact A4 rfl
def xN {g:A6} {st:Int} {t a A:Tm} (a1:KI g st t A) (a2:PN a A) (a3:PN A A) (a4:PE A) (a5:A.wt<=3001):KC g st t a:=k_c a1 (AcM a2 a3 a4 a5)
def Aec {g:A6} {t:Tm} {m:Int} (a1:KI g 1 t (.mk 2 m [])):KL g t m:=k_l a1
def qW {g:A6} {st:Int} {i:Nat} {T A:Tm} (a1:T.sc (g.length - 1 - i)) (a2:T.wt<=400000000) (a3:i<g.length) (a4:g.length<=1000) (a5:g[g.length - 1 - i]?=some (st,T)) (a6:PN (T.shift ((i+1:Nat):Int) 0) A):KI g st (.mk 1 i []) A:=k_v a3 (by omega) a5 (by rw [show (i:Int)+1=((i+1:Nat):Int) by omega];exact psh a1 a2 (by omega) (by omega) (by omega) (by omega) (by omega)) a6
def wM {g:A6} {m:Int} (a1:0<=m/\m<=1):KI g 1 (.mk 2 m []) (.mk 2 (m+1) []):=Hj (by decide) (Aeh a1)
def pK {g:A6} {m:Int}:KI g 1 (.mk 10 m []) (.mk 2 0 []):=Hj (by decide) (Pd (by decide) AeI)
def Aa1 {g:A6} {m:Int}:KI g 1 (.mk 14 m []) (.mk 2 0 []):=Hj (by decide) (Pd (by decide) AcE)
def kC {g:A6} {m:Int}:KI g 1 (.mk 11 m []) natT:=Hj (by decide) (Pd (by decide) Aed)
def qZ {g:A6} {a:Tm} {m:Int} (a1:KC g 1 a natT):KI g 1 (.mk 12 m [a]) natT:=Hj (by decide) (Pd (by decide) (Aek (zK a1)))
def fT {g:A6} {m:Int}:KI g 1 (.mk 15 m []) tyT:=Hj (by decide) (Pd (by decide) (Ac0 Ae1))
def j9 {g:A6} {a b:Tm} {op m:Int} (a1:op=16\/op=17) (a2:KC g 1 a tyT) (a3:KC g 1 b tyT):KI g 1 (.mk op m [a,b]) tyT:=by
 rcases a1 with rfl | rfl
 ·exact Hj (by decide) (Pd (by decide) (Ab8 (wY a2 a3)))
 ·exact Hj (by decide) (Pd (by decide) (AdD (wY a2 a3)))
def mX {g:A6} {a:Tm} {m:Int} (a1:KC g 1 a tyT):KI g 1 (.mk 18 m [a]) (.mk 2 0 []):=Hj (by decide) (Pd (by decide) (Ab4 (zK a1)))
def vL {g:A6} {a A:Tm} {m:Int} (a1:KI g 0 a A):KI g 1 (.mk 19 m [a]) (.mk 18 0 [A]):=Hj (by decide) (Pd (by decide) (AcF a1))
def xV {g:A6} {a b:Tm} {op m i j:Int} (a0:g.length<=1000) (a1:op=3\/op=6) (a2:KL g a i) (a3:KL (g++[(1,a)]) b j):KI g 1 (.mk op m [a,b]) (.mk 2 (if i<j then j else i) []):=by
 rcases a1 with rfl | rfl
 ·exact Hj (by decide) (AeZ (zF a2 (tP g 1 a (by omega)) a3))
 ·exact Hj (by decide) (AeO (zF a2 (tP g 1 a (by omega)) a3))
def wG {g:A6} {a b B C:Tm} {m i:Int} (a0:g.length<=1000) (a1:KL g a i) (a2:KI (g++[(1,a)]) 1 b B) (a3:PN (.mk 3 0 [a,B]) C):KI g 1 (.mk 4 m [a,b]) C:=Hj (by decide) (AeU (AdL a1 (tP g 1 a (by omega)) a2 a3))
def qA {g:A6} {f x A B Y:Tm} {m q:Int} {k:Nat} (a1:x.sc k) (a2:x.wt<=400000000) (a3:B.sc (k+1)) (a4:B.wt<=400000000) (a5:k<=1000) (a6:KI g 1 f (.mk 3 q [A,B])) (a7:KC g 1 x A) (a8:PN (B.subst 0 0 x) Y):KI g 1 (.mk 5 m [f,x]) Y:=Hj (by decide) (Ae5 (Acg (k_s a6 rfl) a7 (M5 a3 a4 a1 a2 a5 a8) TF))
def wS {g:A6} {x A B:Tm} {m q:Int} (a1:KI g 1 x (.mk 6 q [A,B])):KI g 1 (.mk 8 m [x]) A:=Hj (by decide) (Acr (AeT (k_s a1 rfl)))
def jM {g:A6} {S x y A B Y:Tm} {m q i:Int} {k:Nat} (a1:x.sc k) (a2:x.wt<=400000000) (a3:B.sc (k+1)) (a4:B.wt<=400000000) (a5:k<=1000) (b1:KL g S i) (b2:PN S (.mk 6 q [A,B])) (b3:KC g 1 x A) (b4:PN (B.subst 0 0 x) Y) (b5:KC g 1 y Y):KI g 1 (.mk 7 m [S,x,y]) (.mk 6 q [A,B]):=Hj (by decide) (AcU (AbZ b1 b2 b3 (M5 a3 a4 a1 a2 a5 b4) b5))
def rV {g:A6} {X z s k:Tm} {m i:Int} {l:Nat} (a1:g.length<=900) (a2:k.sc l) (a3:l<=1000) (a4:k.wt<=400000000) (b1:X=natT\/X=tyT) (b2:KL (g++[(1,natT)]) X i) (b3:PN X X) (b4:KC g 1 z X) (b5:KC (g++[(1,natT)]++[(1,X)]) 1 s X) (b6:KC g 1 k natT):KI g 1 (.mk 13 m [X,z,s,k]) X:=by
 have xsc:∀k,X.sc k:=by intro k;rcases b1 with rfl | rfl<;>exact De
 have xsu:∀u:Tm,X.subst 0 0 u=X:=by intro u;rcases b1 with rfl | rfl<;>rfl
 have xsh:∀c:Int,X.shift 2 c=X:=by intro c;rcases b1 with rfl | rfl<;>rfl
 have xw:X.wt<=10:=by rcases b1 with rfl | rfl<;>simp [natT,tyT,Tm.wt,Tm.wtL]
 have zsc:(Tm.mk 11 0 []).sc 0:=De;have v1sc:(Tm.mk 12 0 [.mk 1 1 []]).sc 2:=FM (by rw [Tm.sc,if_pos rfl];exact ⟨rfl,by decide,trivial⟩);have p1:=M5 (t:=X) (u:=.mk 11 0 []) (xsc 1) (by omega) zsc (by decide) (by omega) (by rw [xsu];exact b3);have p2:=M5 (t:=X) (u:=.mk 12 0 [.mk 1 1 []]) (xsc 3) (by omega) v1sc (by decide) (by omega) (by rw [xsu];exact b3);have p3:=M5 (t:=X) (xsc (l+1)) (by omega) a2 a4 a3 (by rw [xsu];exact b3);have sh:=psh (d:=2) (c:=1) (xsc 0) (by omega) (by omega) (by omega) (by omega) (by omega) (by omega);rw [xsh] at sh;exact Hj (by decide) (yY (Ado (tP g 1 natT (by omega)) b2 p1 b4 sh p2 (tP _ 1 X (by simp;omega)) b5 b6 p3))
def lK {g:A6} {m:Int}:KI g 0 (.mk 25 m []) Er:=Ns (by decide) Aa8
def bI {g:A6} {a b:Tm} {m:Int} (a1:KC g 0 a Er) (a2:KC g 0 b Er):KI g 0 (.mk 26 m [a,b]) Er:=Ns (by decide) (y6 (wY a1 a2))
def xW {g:A6} {a b B:Tm} {k:Nat} (a0:g.length<=1000) (a1:B.sc k) (a2:k+2 * B.wt<=100000000) (a3:KI (g++[(0,a)]) 0 b (B.shift 1 0)):KU g a b B:=by have zsc:(Tm.mk 11 0 []).sc k:=De;have hsc:(B.shift 1 0).sc (k+1):=CM B 1 0 _ a1 (by omega);have hs:=psu hsc (by rw [Bj];omega) zsc (by decide) (by omega);rw [M0 B (.mk 11 0 []) 0 0 _ a1 (by omega) (by omega)] at hs;have hf:=pfr hsc (by rw [Bj];omega) (by omega);rw [OO B 0 _ a1 (by omega) (by omega)] at hf;exact Adc (tP g 0 a (by omega)) a3 hf hs
def jG {g:A6} {a b B C:Tm} {m:Int} (a1:KC g 1 a tyT) (a2:KU g a b B) (a3:PN (.mk 16 0 [a,B]) C):KI g 0 (.mk 20 m [a,b]) C:=Ns (by decide) (Abo (Ab3 a1 a2 a3))
def lT {g:A6} {a b A:Tm} {m:Int} {k:Nat} (a0:g.length<=1000) (a1:a.sc k) (a2:k<=1000) (a3:a.wt<=400000000) (a4:KC g 1 a tyT) (a5:KC (g++[(0,a)]) 0 b (a.shift 1 0)) (a6:PN a A):KI g 0 (.mk 29 m [a,b]) A:=Ns (by decide) (AaG (AdZ a4 (tP g 0 a (by omega)) (psh a1 a3 (by omega) (by omega) (by omega) (by omega) (by omega)) a5 a6))
def iJ {g:A6} {x y A B:Tm} {m:Int} (a1:KI g 0 x A) (a2:KU g A y B):KI g 0 (.mk 28 m [x,y]) B:=Ns (by decide) (zD a1 a2)
def u5 {g:A6} {x A:Tm} {m q:Int} (a1:KI g 1 x (.mk 18 q [A])):KI g 0 (.mk 30 m [x]) A:=Ns (by decide) (xT (k_s a1 rfl) AaR)
def iY {g:A6} {f x A B:Tm} {m q:Int} (a1:KI g 0 f (.mk 16 q [A,B])) (a2:KC g 0 x A):KI g 0 (.mk 21 m [f,x]) B:=Ns (by decide) (Aa7 (k_s a1 rfl) TF a2 p9)
def Y9 {g:A6} {x y A B C:Tm} {m:Int} (a1:KI g 0 x A) (a2:KI g 0 y B) (a3:PN (.mk 17 0 [A,B]) C):KI g 0 (.mk 22 m [x,y]) C:=Ns (by decide) (zI (Acb a1 a2 a3))
def lQ {g:A6} {x A B:Tm} {m q:Int} (a1:KI g 0 x (.mk 17 q [A,B])):KI g 0 (.mk 23 m [x]) A:=Ns (by decide) (Aaq (k_s a1 rfl) TF)
def vB {g:A6} {c x y A:Tm} {m:Int} (a1:KC g 0 c Er) (a2:KI g 0 x A) (a3:KC g 0 y A):KI g 0 (.mk 27 m [c,x,y]) A:=Ns (by decide) (zT (Adz a1 a2 a3))
def Oa (e:Int):Prop:=e=5\/e=17
def AX {e:Int} (h:Oa e):e≠0:=by unfold Oa at h;omega
structure NX (k:Nat) (X Y:Tm):Prop where
 sc:X.sc k
 dp:X.dp<=20000
 nf:∀f u,AH f X=some (u,0)->u=Y/\PN X Y
structure TX (k:Nat) (A:Tm):Prop where
 n:NX k A A
 e:PE A
 w:A.wt<=3001
def QI (g:A6) (st:Int) (t A:Tm):Prop:=∃r e,JI (AK g) st t r e/\(Oa e\/e=0/\r=A/\KI g st t A)
def QC (g:A6) (st:Int) (t a:Tm):Prop:=∃e,JC (AK g) st t a e/\(Oa e\/e=0/\KC g st t a)
def QL (g:A6) (t:Tm) (m:Int):Prop:=∃m' e,JL (AK g) t m' e/\(Oa e\/e=0/\m'=m/\KL g t m)
def Nk {k:Nat} {X Y:Tm} (hk:k<=1000) (h:NX k X Y):∃u e,JN X u e/\(Oa e\/e=0/\u=Y/\PN X Y/\NOk k Y):=by
 obtain ⟨u,e,h1,h2,f,h3⟩:=jn hk h.sc h.dp;refine ⟨u,e,h1,?_⟩;rcases h2 with ⟨rfl,h4⟩ | ⟨h4,_⟩
 ·obtain ⟨rfl,h5⟩:=h.nf f u h3;exact .inr ⟨rfl,rfl,h5,h4⟩
 ·exact .inl h4
def Aao {k:Nat} {a A:Tm} (hk:k<=1000) (ha:NX k a A) (hA:NX k A A):∃w e,JE A a w e/\(Oa e\/e=0/\w=true/\PN a A/\PN A A):=by
 obtain ⟨w,e,h3,h4⟩:=je hk hA.sc ha.sc hA.dp ha.dp;refine ⟨w,e,h3,?_⟩;rcases h4 with h4 | ⟨h4,f,x,f',y,hx,hy,_,_,hw⟩
 ·exact .inl h4
 ·obtain ⟨rfl,p1⟩:=hA.nf f x hx;obtain ⟨rfl,p2⟩:=ha.nf f' y hy;exact .inr ⟨h4,by rw [hw];exact (I0 _ _).2 rfl,p2,p1⟩
def q_c {g:A6} {st:Int} {t A a:Tm} (hk:g.length<=1000) (h:QI g st t A) (ha:NX g.length a A) (hA:TX g.length A):QC g st t a:=by
 obtain ⟨r,e,h3,h4⟩:=h;rcases h4 with h4 | ⟨rfl,rfl,h4⟩
 ·exact ⟨e,xP (AX h4) h3,.inl h4⟩
 ·obtain ⟨w,e,h6,h7⟩:=Aao hk ha hA.n;rcases h7 with h7 | ⟨rfl,rfl,p1,p2⟩
  ·exact ⟨e,AaE (AX h7) h3 h6,.inl h7⟩
  ·exact ⟨0,Aaw h3 h6,.inr ⟨rfl,xN h4 p1 p2 hA.e hA.w⟩⟩
def Dp {g:A6} {st:Int} {t A:Tm} (hk:g.length<=1000) (h:QI g st t A) (hA:TX g.length A):QC g st t A:=q_c hk h hA.n hA
def YB {g:A6} {t:Tm} {m:Int} (h:QI g 1 t (.mk 2 m [])):QL g t m:=by
 obtain ⟨r,e,h1,h2⟩:=h;rcases h2 with h2 | ⟨rfl,rfl,h2⟩
 ·exact ⟨0,e,Ach (AX h2) h1,.inl h2⟩
 ·exact ⟨m,0,Aeo rfl h1,.inr ⟨rfl,rfl,Aec h2⟩⟩
def q_2 {g:A6} {st:Int} {a x y:Tm} (h1:QC g st x a) (h2:QC g st y a):∃e,YD (AK g) st [x,y] a e/\(Oa e\/e=0/\KC g st x a/\KC g st y a):=by
 obtain ⟨e,h1,c1⟩:=h1;obtain ⟨e',h2,c2⟩:=h2;rcases c1 with c1 | ⟨rfl,c1⟩
 ·exact ⟨e,tY (AX c1) h1,.inl c1⟩
 ·rcases c2 with c2 | ⟨rfl,c2⟩
  ·exact ⟨e',qR (AX c2) h1 h2,.inl c2⟩
  ·exact ⟨0,y8 h1 h2,.inr ⟨rfl,c1,c2⟩⟩
def oN (g:A6) {m:Int} (h:0<=m/\m<=1):QI g 1 (.mk 2 m []) (.mk 2 (m+1) []):=⟨_,0,Ad7 (by omega) (by omega) (by omega),.inr ⟨rfl,rfl,wM h⟩⟩
def Rh (g:A6) (m:Int):QI g 1 (.mk 10 m []) (.mk 2 0 []):=⟨_,0,uY,.inr ⟨rfl,rfl,pK⟩⟩
def lU (g:A6) (m:Int):QI g 1 (.mk 14 m []) (.mk 2 0 []):=⟨_,0,AaT,.inr ⟨rfl,rfl,Aa1⟩⟩
def SP (g:A6) (m:Int):QI g 1 (.mk 11 m []) natT:=⟨_,0,mC,.inr ⟨rfl,rfl,kC⟩⟩
def aK (g:A6) (m:Int):QI g 0 (.mk 25 m []) Er:=⟨_,0,Gc (by omega) qD,.inr ⟨rfl,rfl,lK⟩⟩
def Sl (g:A6) (m:Int):QI g 1 (.mk 15 m []) tyT:=⟨_,0,iV (nL (by simp) (by simp)),.inr ⟨rfl,rfl,fT⟩⟩
def dP {g:A6} {a:Tm} (m:Int) (h:QC g 1 a natT):QI g 1 (.mk 12 m [a]) natT:=by
 obtain ⟨e,h1,h2⟩:=h;rcases h2 with h2 | ⟨rfl,h2⟩
 ·exact ⟨_,e,cA (AX h2) h1,.inl h2⟩
 ·exact ⟨_,0,uH h1,.inr ⟨rfl,rfl,qZ h2⟩⟩
def O0 {g:A6} {a:Tm} (m:Int) (h:QC g 1 a tyT):QI g 1 (.mk 18 m [a]) (.mk 2 0 []):=by
 obtain ⟨e,h1,h2⟩:=h;rcases h2 with h2 | ⟨rfl,h2⟩
 ·exact ⟨_,e,Xx (AX h2) h1,.inl h2⟩
 ·exact ⟨_,0,nF h1,.inr ⟨rfl,rfl,mX h2⟩⟩
def TA {g:A6} {a b:Tm} {op:Int} (m:Int) (ho:op=16\/op=17) (h:QC g 1 a tyT) (h':QC g 1 b tyT):QI g 1 (.mk op m [a,b]) tyT:=by
 obtain ⟨e,h1,h2⟩:=q_2 h h';rcases h2 with h2 | ⟨rfl,h2,h3⟩
 ·refine ⟨.z,e,?_,.inl h2⟩;rcases ho with rfl | rfl
  ·exact XO (AX h2) h1
  ·exact X3 (AX h2) h1
 ·refine ⟨_,0,?_,.inr ⟨rfl,rfl,j9 ho h2 h3⟩⟩;rcases ho with rfl | rfl
  ·exact j8 h1
  ·exact j6 h1
def xZ {g:A6} {a A:Tm} (m:Int) (h:QI g 0 a A):QI g 1 (.mk 19 m [a]) (.mk 18 0 [A]):=by
 obtain ⟨r,e,h1,h2⟩:=h;rcases h2 with h2 | ⟨rfl,rfl,h2⟩
 ·exact ⟨_,e,bG (AX h2) h1,.inl h2⟩
 ·exact ⟨_,0,vY h1,.inr ⟨rfl,rfl,vL h2⟩⟩
def ZD {g:A6} {a b:Tm} {op i j:Int} (m:Int) (ho:op=3\/op=6) (hk:g.length<=1000) (h1:QL g a i) (h2:QL (g++[(1,a)]) b j):QI g 1 (.mk op m [a,b]) (.mk 2 (if i<j then j else i) []):=by
 obtain ⟨i',e,h1,c1⟩:=h1;obtain ⟨j',e',h2,c2⟩:=h2;have hb:=jb g 1 a (by omega);rcases c1 with c1 | ⟨rfl,rfl,c1⟩
 ·refine ⟨.z,e,?_,.inl c1⟩;rcases ho with rfl | rfl
  ·exact Cs (by omega) (jH (AX c1) h1)
  ·exact Cs (by omega) (ZX (AX c1) h1)
 ·rcases c2 with c2 | ⟨rfl,rfl,c2⟩
  ·refine ⟨.z,e',?_,.inl c2⟩;rcases ho with rfl | rfl
   ·exact Cs (by omega) (kI (AX c2) h1 hb h2)
   ·exact Cs (by omega) (eZ (AX c2) h1 hb h2)
  ·refine ⟨_,0,?_,.inr ⟨rfl,rfl,xV hk ho c1 c2⟩⟩;rcases ho with rfl | rfl
   ·exact Cs (by omega) (Aax h1 hb h2)
   ·exact Cs (by omega) (uX h1 hb h2)
def nM {g:A6} {a b B C:Tm} {i:Int} (m:Int) (hk:g.length<=1000) (h1:QL g a i) (h2:QI (g++[(1,a)]) 1 b B) (h3:NX g.length (.mk 3 0 [a,B]) C):QI g 1 (.mk 4 m [a,b]) C:=by
 obtain ⟨i',e,h1,c1⟩:=h1;obtain ⟨c,e',h2,c2⟩:=h2;have hb:=jb g 1 a (by omega);rcases c1 with c1 | ⟨rfl,rfl,c1⟩
 ·exact ⟨_,e,Cs (by omega) (aA (AX c1) h1),.inl c1⟩
 ·rcases c2 with c2 | ⟨rfl,rfl,c2⟩
  ·exact ⟨_,e',Cs (by omega) (aU (AX c2) h1 hb h2),.inl c2⟩
  ·obtain ⟨u,e,h3,h4⟩:=Nk hk h3;refine ⟨u,e,Cs (by omega) (vE h1 hb h2 h3),?_⟩;rcases h4 with h4 | ⟨rfl,rfl,h4,_⟩
   ·exact .inl h4
   ·exact .inr ⟨rfl,rfl,wG hk c1 c2 h4⟩
def Aa0 {g:A6} {f x A B Y:Tm} {q:Int} (m:Int) (hk:g.length<=1000) (xsc:x.sc g.length) (xwt:x.wt<=400000000) (Bsc:B.sc (g.length+1)) (Bwt:B.wt<=400000000) (h1:QI g 1 f (.mk 3 q [A,B])) (h2:QC g 1 x A) (h3:NX g.length (B.subst 0 0 x) Y):QI g 1 (.mk 5 m [f,x]) Y:=by
 obtain ⟨r,e,h1,c1⟩:=h1;rcases c1 with c1 | ⟨rfl,rfl,c1⟩
 ·exact ⟨_,e,Cs (by omega) (bU (AX c1) (dA (AX c1) h1)),.inl c1⟩
 ·have hs:=aY (op:=3) rfl h1;obtain ⟨e,h4,c4⟩:=h2;rcases c4 with c4 | ⟨rfl,c4⟩
  ·exact ⟨_,e,Cs (by omega) (eU (AX c4) hs h4),.inl c4⟩
  ·have h5:=xA Bsc (by omega) xsc (by omega);obtain ⟨u,e,h6,c6⟩:=Nk hk h3;refine ⟨u,e,Cs (by omega) (sU hs h4 h5 h6),?_⟩;rcases c6 with c6 | ⟨rfl,rfl,c6,_⟩
   ·exact .inl c6
   ·exact .inr ⟨rfl,rfl,qA xsc xwt Bsc Bwt hk c1 c4 c6⟩
def zH {g:A6} {x A B:Tm} {q:Int} (m:Int) (h1:QI g 1 x (.mk 6 q [A,B])):QI g 1 (.mk 8 m [x]) A:=by
 obtain ⟨r,e,h1,c1⟩:=h1;rcases c1 with c1 | ⟨rfl,rfl,c1⟩
 ·exact ⟨_,e,Cs (by omega) (Y5 (AX c1) (dA (AX c1) h1)),.inl c1⟩
 ·exact ⟨_,0,Cs (by omega) (wT (aY (op:=6) rfl h1)),.inr ⟨rfl,rfl,wS c1⟩⟩
def dZ {g:A6} {A B x y Y:Tm} {q i:Int} (m:Int) (hk:g.length<=1000) (hS:NX g.length (.mk 6 q [A,B]) (.mk 6 q [A,B])) (Bsc:B.sc (g.length+1)) (Bwt:B.wt<=400000000) (xsc:x.sc g.length) (xwt:x.wt<=400000000)
  (h0:QL g (.mk 6 q [A,B]) i) (h1:QC g 1 x A) (h2:QI g 1 y Y) (hY:TX g.length Y) (h3:NX g.length (B.subst 0 0 x) Y):QI g 1 (.mk 7 m [.mk 6 q [A,B],x,y]) (.mk 6 q [A,B]):=by
 have M:∀{r e},uZ (AK g) (.mk 7 m [.mk 6 q [A,B],x,y]) r e->JI (AK g) 1 (.mk 7 m [.mk 6 q [A,B],x,y]) r e:=fun h=>Cs (by omega) (lI h);obtain ⟨i',e,h0,c0⟩:=h0;rcases c0 with c0 | ⟨rfl,rfl,c0⟩
 ·exact ⟨_,e,M (Acx (AX c0) h0),.inl c0⟩
 ·obtain ⟨s,e,hs,c3⟩:=Nk hk hS;rcases c3 with c3 | ⟨rfl,rfl,c3,_⟩
  ·exact ⟨_,e,M (Ad4 (AX c3) h0 hs),.inl c3⟩
  ·obtain ⟨e,h5,c5⟩:=h1;rcases c5 with c5 | ⟨rfl,c5⟩
   ·exact ⟨_,e,M (Ada (AX c5) h0 hs h5),.inl c5⟩
   ·have h6:=xA Bsc (by omega) xsc (by omega);obtain ⟨r,e,h8,c8⟩:=h2;rcases c8 with c8 | ⟨rfl,rfl,c8⟩
    ·exact ⟨_,e,M (Abw (AX c8) h0 hs h5 h6 (xP (AX c8) h8)),.inl c8⟩
    obtain ⟨w,e,h9,c9⟩:=Aao hk h3 hY.n;rcases c9 with c9 | ⟨rfl,rfl,p1,p2⟩
    ·exact ⟨_,e,M (Abw (AX c9) h0 hs h5 h6 (AaE (AX c9) h8 h9)),.inl c9⟩
    ·exact ⟨_,0,M (kq h0 hs h5 h6 (Aaw h8 h9)),.inr ⟨rfl,rfl,jM xsc xwt Bsc Bwt hk c0 c3 c5 p1 (xN c8 p2 p2 hY.e hY.w)⟩⟩
def bH {g:A6} {X z s k:Tm} (m:Int) (hX:X=natT\/X=tyT) (hk:g.length<=900) (hN:NX g.length X X) (ksc:k.sc g.length) (kwt:k.wt<=400000000) (h1:QC g 1 z X) (h2:QC (g++[(1,natT)]++[(1,X)]) 1 s X) (h3:QC g 1 k natT):QI g 1 (.mk 13 m [X,z,s,k]) X:=by
 have M:∀{r e},JR (AK g) (.mk 13 m [X,z,s,k]) r e->JI (AK g) 1 (.mk 13 m [X,z,s,k]) r e:=fun h=>Cs (by omega) (wZ h);have xsc:∀k,X.sc k:=by intro k;rcases hX with rfl | rfl<;>exact De
 have xsu:∀u:Tm,X.subst 0 0 u=X:=by intro u;rcases hX with rfl | rfl<;>rfl
 have xsh:∀c:Int,X.shift 2 c=X:=by intro c;rcases hX with rfl | rfl<;>rfl
 have xw:X.wt<=10:=by rcases hX with rfl | rfl<;>simp [natT,tyT,Tm.wt,Tm.wtL]
 have zsc:gF.sc 0:=De;have v1sc:(Tm.mk 12 0 [.mk 1 1 []]).sc 2:=FM (by rw [Tm.sc,if_pos rfl];exact ⟨rfl,by decide,trivial⟩);have b1:=jb g 1 natT (by omega);have b2:=jb (g++[(1,natT)]) 1 X (by simp;omega);have su0:Yj X gF X:=by have:=xA (u:=gF) (xsc 0) (by omega) zsc (by decide);rwa [xsu] at this
 have nx:JNx X X:=by have a1:=jsh 2 1 (xsc 0) (by omega) (by omega) (by omega);rw [xsh] at a1;have a2:=xA (xsc 0) (by omega) v1sc (by decide);rw [xsu] at a2;exact kx a1 a2
 have suk:Yj X k X:=by have:=xA (xsc 0) (by omega) ksc (by omega);rwa [xsu] at this
 obtain ⟨i,e,l1,c1⟩:QL (g++[(1,natT)]) X 0:=by
  rcases hX with rfl | rfl
  ·exact YB (Rh _ _)
  ·exact YB (lU _ _)
 rcases c1 with c1 | ⟨rfl,rfl,c1⟩
 ·exact ⟨_,e,M (AdC (AX c1) b1 l1),.inl c1⟩
 obtain ⟨e,d1,c2⟩:=h1;rcases c2 with c2 | ⟨rfl,c2⟩
 ·exact ⟨_,e,M (Adi (AX c2) b1 l1 su0 d1),.inl c2⟩
 obtain ⟨e,d2,c3⟩:=h2;rcases c3 with c3 | ⟨rfl,c3⟩
 ·exact ⟨_,e,M (Adj (AX c3) b1 l1 su0 d1 b2 nx d2),.inl c3⟩
 obtain ⟨e,d3,c4⟩:=h3;rcases c4 with c4 | ⟨rfl,c4⟩
 ·exact ⟨_,e,M (AdF (AX c4) b1 l1 su0 d1 b2 nx d2 d3),.inl c4⟩
 obtain ⟨u,e,h6,c6⟩:=Nk (k:=g.length) (by omega) hN;refine ⟨u,e,M (kr b1 l1 su0 d1 b2 nx d2 d3 suk h6),?_⟩;rcases c6 with c6 | ⟨rfl,rfl,c6,_⟩
 ·exact .inl c6
 ·exact .inr ⟨rfl,rfl,rV hk ksc (by omega) kwt hX c1 c6 c2 c3 c4⟩
def oO {g:A6} {st:Int} {i:Nat} {T A:Tm} (hi:i<g.length) (hk:g.length<=1000) (hg:g[g.length - 1 - i]?=some (st,T)) (Tsc:T.sc (g.length - 1 - i)) (Twt:T.wt<=400000000) (h:NX g.length (T.shift ((i+1:Nat):Int) 0) A):QI g st (.mk 1 i []) A:=by
 have hs:=jsh ((i:Int)+1) 0 Tsc (by omega) (by omega) (by omega);rw [show (i:Int)+1=((i+1:Nat):Int) by omega] at hs
 obtain ⟨u,e,h6,c6⟩:=Nk hk h;refine ⟨u,e,uB hi (by omega) hg (by rw [show (i:Int)+1=((i+1:Nat):Int) by omega];exact hs) h6,?_⟩
 rcases c6 with c6 | ⟨rfl,rfl,c7,_⟩
 ·exact .inl c6
 ·exact .inr ⟨rfl,rfl,qW Tsc Twt hi hk hg c7⟩
def yE {g:A6} {a b B:Tm} (hk:g.length<=1000) (Bsc:B.sc g.length) (Bwt:B.wt<=10000) (h:QI (g++[(0,a)]) 0 b (B.shift 1 0)):∃r e,JU (AK g) a b r e/\(Oa e\/e=0/\r=B/\KU g a b B):=by
 obtain ⟨c,e,h1,c1⟩:=h;have hb:=jb g 0 a (by omega);rcases c1 with c1 | ⟨rfl,rfl,c1⟩
 ·exact ⟨_,e,AdS (AX c1) hb h1,.inl c1⟩
 ·have f1:=OO B 0 _ Bsc (by omega) (by omega);have f2:=M0 B gF 0 0 _ Bsc (by omega) (by omega);have hf:=jf (B.shift 1 0) (by rw [Bj];omega);rw [f1] at hf;have zsc:gF.sc 0:=De;have hs:=xA (u:=gF) (CM B 1 0 _ Bsc (by omega)) (by rw [Bj];omega) zsc (by decide);rw [show ((1:Nat):Int)=1 from rfl,show ((0:Nat):Int)=0 from rfl,show (B.shift 1 0).subst 0 0 gF=B from f2] at hs
  exact ⟨B,0,Ad3 hb h1 (Aey hf hs),.inr ⟨rfl,rfl,xW hk Bsc (by omega) c1⟩⟩
def eH {g:A6} {a b B C:Tm} (m:Int) (hk:g.length<=1000) (Bsc:B.sc g.length) (Bwt:B.wt<=10000) (h1:QC g 1 a tyT) (h2:QI (g++[(0,a)]) 0 b (B.shift 1 0)) (h3:NX g.length (.mk 16 0 [a,B]) C):QI g 0 (.mk 20 m [a,b]) C:=by
 have M:∀{r e},JO (AK g) (.mk 20 m [a,b]) r e->JI (AK g) 0 (.mk 20 m [a,b]) r e:=fun h=>Gc (by omega) h;obtain ⟨e,d1,c1⟩:=h1;rcases c1 with c1 | ⟨rfl,c1⟩
 ·exact ⟨_,e,M (aD (AX c1) d1),.inl c1⟩
 obtain ⟨r,e,d2,c2⟩:=yE hk Bsc Bwt h2;rcases c2 with c2 | ⟨rfl,rfl,c2⟩
 ·exact ⟨_,e,M (Zq (AX c2) d1 d2),.inl c2⟩
 obtain ⟨u,e,h6,c6⟩:=Nk hk h3;refine ⟨u,e,M (pE d1 d2 h6),?_⟩;rcases c6 with c6 | ⟨rfl,rfl,c6,_⟩
 ·exact .inl c6
 ·exact .inr ⟨rfl,rfl,jG c1 c2 c6⟩
def pN {g:A6} {a b A:Tm} (m:Int) (hk:g.length<=900) (asc:a.sc g.length) (awt:a.wt<=400000000) (h1:QC g 1 a tyT) (h2:QC (g++[(0,a)]) 0 b (a.shift 1 0)) (h3:NX g.length a A):QI g 0 (.mk 29 m [a,b]) A:=by
 have M:∀{r e},JO (AK g) (.mk 29 m [a,b]) r e->JI (AK g) 0 (.mk 29 m [a,b]) r e:=fun h=>Gc (by omega) h;have hb:=jb g 0 a (by omega);obtain ⟨e,d1,c1⟩:=h1;rcases c1 with c1 | ⟨rfl,c1⟩
 ·exact ⟨_,e,M (dW (AX c1) d1),.inl c1⟩
 have hs:=jsh 1 0 asc (by omega) (by omega) (by omega);obtain ⟨e,d2,c2⟩:=h2;rcases c2 with c2 | ⟨rfl,c2⟩
 ·exact ⟨_,e,M (YV (AX c2) d1 hb hs d2),.inl c2⟩
 obtain ⟨u,e,h6,c6⟩:=Nk (k:=g.length) (by omega) h3;refine ⟨u,e,M (sY d1 hb hs d2 h6),?_⟩;rcases c6 with c6 | ⟨rfl,rfl,c6,_⟩
 ·exact .inl c6
 ·exact .inr ⟨rfl,rfl,lT (by omega) asc (by omega) awt c1 c2 c6⟩
def sK {g:A6} {x y A B:Tm} (m:Int) (hk:g.length<=1000) (Bsc:B.sc g.length) (Bwt:B.wt<=10000) (h1:QI g 0 x A) (h2:QI (g++[(0,A)]) 0 y (B.shift 1 0)):QI g 0 (.mk 28 m [x,y]) B:=by
 have M:∀{r e},JO (AK g) (.mk 28 m [x,y]) r e->JI (AK g) 0 (.mk 28 m [x,y]) r e:=fun h=>Gc (by omega) h;obtain ⟨r,e,h1,c1⟩:=h1;rcases c1 with c1 | ⟨rfl,rfl,c1⟩
 ·exact ⟨_,e,M (cS (AX c1) h1),.inl c1⟩
 obtain ⟨r,e,d2,c2⟩:=yE hk Bsc Bwt h2;refine ⟨r,e,M (rE h1 d2),?_⟩;rcases c2 with c2 | ⟨rfl,rfl,nB⟩
 ·exact .inl c2
 ·exact .inr ⟨rfl,rfl,iJ c1 nB⟩
def Aaf {g:A6} {x A:Tm} {q:Int} (m:Int) (h1:QI g 1 x (.mk 18 q [A])):QI g 0 (.mk 30 m [x]) A:=by
 have M:∀{r e},JO (AK g) (.mk 30 m [x]) r e->JI (AK g) 0 (.mk 30 m [x]) r e:=fun h=>Gc (by omega) h;obtain ⟨r,e,h1,c1⟩:=h1;rcases c1 with c1 | ⟨rfl,rfl,c1⟩
 ·exact ⟨_,e,M (eS (AX c1) (dA (AX c1) h1)),.inl c1⟩
 exact ⟨_,0,M (wO (aY (op:=18) rfl h1)),.inr ⟨rfl,rfl,u5 c1⟩⟩
def jK {g:A6} {a b:Tm} (m:Int) (h1:QC g 0 a Er) (h2:QC g 0 b Er):QI g 0 (.mk 26 m [a,b]) Er:=by
 have M:∀{r e},JO (AK g) (.mk 26 m [a,b]) r e->JI (AK g) 0 (.mk 26 m [a,b]) r e:=fun h=>Gc (by omega) h;obtain ⟨e,d1,c1⟩:=q_2 h1 h2;rcases c1 with c1 | ⟨rfl,c1,c2⟩
 ·exact ⟨_,e,M (X8 (AX c1) d1),.inl c1⟩
 ·exact ⟨_,0,M (iB d1),.inr ⟨rfl,rfl,bI c1 c2⟩⟩
def pZ {g:A6} {f x A B:Tm} {q:Int} (m:Int) (h1:QI g 0 f (.mk 16 q [A,B])) (h2:QC g 0 x A):QI g 0 (.mk 21 m [f,x]) B:=by
 have M:∀{r e},JP (AK g) (.mk 21 m [f,x]) r e->JI (AK g) 0 (.mk 21 m [f,x]) r e:=fun h=>Gc (by omega) (Ji (by omega) h);obtain ⟨r,e,h1,c1⟩:=h1;rcases c1 with c1 | ⟨rfl,rfl,c1⟩
 ·exact ⟨_,e,M (cF (AX c1) (dA (AX c1) h1)),.inl c1⟩
 have hs:=aY (op:=16) rfl h1;obtain ⟨e,d1,c3⟩:=h2;rcases c3 with c3 | ⟨rfl,c3⟩
 ·exact ⟨_,e,M (dV (AX c3) hs d1),.inl c3⟩
 ·exact ⟨_,0,M (rF hs d1),.inr ⟨rfl,rfl,iY c1 c3⟩⟩
def WK {g:A6} {x y A B C:Tm} (m:Int) (hk:g.length<=1000) (h1:QI g 0 x A) (h2:QI g 0 y B) (h3:NX g.length (.mk 17 0 [A,B]) C):QI g 0 (.mk 22 m [x,y]) C:=by
 have M:∀{r e},JP (AK g) (.mk 22 m [x,y]) r e->JI (AK g) 0 (.mk 22 m [x,y]) r e:=fun h=>Gc (by omega) (Ji (by omega) h);obtain ⟨r,e,h1,c1⟩:=h1;rcases c1 with c1 | ⟨rfl,rfl,c1⟩
 ·exact ⟨_,e,M (XQ (AX c1) h1),.inl c1⟩
 obtain ⟨r',e,h2,c3⟩:=h2;rcases c3 with c3 | ⟨rfl,rfl,c3⟩
 ·exact ⟨_,e,M (X5 (AX c3) h1 h2),.inl c3⟩
 obtain ⟨u,e,h6,c6⟩:=Nk hk h3;refine ⟨u,e,M (mW h1 h2 h6),?_⟩;rcases c6 with c6 | ⟨rfl,rfl,c6,_⟩
 ·exact .inl c6
 ·exact .inr ⟨rfl,rfl,Y9 c1 c3 c6⟩
def pJ {g:A6} {x A B:Tm} {q:Int} (m:Int) (h1:QI g 0 x (.mk 17 q [A,B])):QI g 0 (.mk 23 m [x]) A:=by
 have M:∀{r e},JP (AK g) (.mk 23 m [x]) r e->JI (AK g) 0 (.mk 23 m [x]) r e:=fun h=>Gc (by omega) (Ji (by omega) h);obtain ⟨r,e,h1,c1⟩:=h1;rcases c1 with c1 | ⟨rfl,rfl,c1⟩
 ·exact ⟨_,e,M (d5 (AX c1) (dA (AX c1) h1)),.inl c1⟩
 exact ⟨_,0,M (vW (aY (op:=17) rfl h1)),.inr ⟨rfl,rfl,lQ c1⟩⟩
def Aat {g:A6} {c x y A:Tm} (m:Int) (h0:QC g 0 c Er) (h1:QI g 0 x A) (h2:QC g 0 y A):QI g 0 (.mk 27 m [c,x,y]) A:=by
 have M:∀{r e},JP (AK g) (.mk 27 m [c,x,y]) r e->JI (AK g) 0 (.mk 27 m [c,x,y]) r e:=fun h=>Gc (by omega) (Ji (by omega) h);obtain ⟨e,d1,c1⟩:=h0;rcases c1 with c1 | ⟨rfl,c1⟩
 ·exact ⟨_,e,M (jV (AX c1) d1),.inl c1⟩
 obtain ⟨r,e,h1,c2⟩:=h1;rcases c2 with c2 | ⟨rfl,rfl,c2⟩
 ·exact ⟨_,e,M (jW (AX c2) d1 h1),.inl c2⟩
 obtain ⟨e,d2,c3⟩:=h2;rcases c3 with c3 | ⟨rfl,c3⟩
 ·exact ⟨_,e,M (mO (AX c3) d1 h1 d2),.inl c3⟩
 ·exact ⟨_,0,M (yG d1 h1 d2),.inr ⟨rfl,rfl,vB c1 c2 c3⟩⟩
theorem Y2 {P:Nat->Nat->Prop}:∀m,(∀i,i<m->∃N,∀n,N<=n->P i n)->∃N,∀i,i<m->∀n,N<=n->P i n:=by
 intro m
 induction m with
 | zero=>intro _;exact ⟨0,fun i hi=>by omega⟩
 | succ m ih =>
  intro h;obtain ⟨N1,h1⟩:=ih fun i hi=>h i (by omega);obtain ⟨N2,h2⟩:=h m (by omega);refine ⟨N1+N2,fun i hi n hn=>?_⟩;by_cases him:i=m
  ·subst him;exact h2 n (by omega)
  ·exact h1 i (by omega) n (by omega)
def cL:EE.T 65=some ⟨1,24,.slice 3,[.nils]⟩:=by kernel_rfl
def uM:EE.T 3=some ⟨1,8,.int .i64,[.fv (.int .i64 0)]⟩:=by kernel_rfl
def y3:SliceT EE 65 1:=⟨_,_,_,_,_,cL,uM,rfl,by decide,by decide⟩
def n8 (a:Int) (s:Nat) (h:Hp) (k:KT (IV×Hp)):Ay (Al EE 65 1 [(0,iv a)]) s h k=k (.clip [.int .i64 a]) h [] []:=Cu cL uM (by decide) (cells:=[.int .i64 a]) rfl k
def iE (l:List Nat):List FV:=l.map fun (i:Nat)=>FV.int .i64 (i:Int)
theorem TP (l:List Nat):BI 1 (iE l)=true:=by
 cases l with
 | nil=>rfl
 | cons a l=>rfl
def zZ (l:List Nat):((iE l).all fun e=>e.cells.all FV.one)=true:=by rw [iE,List.all_map,List.all_eq_true];intro p _;rfl
def lV:List Nat->IV
 | []=>.nils
 | i::l=>.app (.own 69214211) (iE (i::l))
def lH:List Nat->List (Nat×Blk)
 | []=>[]
 | i::l=>[(69214211,.tok (i::l).length 1)]
abbrev L3 (o m:Int) (ks:List Tm) (l:List Nat):Hp :=⟨[(69206016,.row [iv o,iv m,.fv (.sl (ks.map Tm.enc))] false),(69206017,.row [iv 0,iv 0,.nils] false)]++lH l,[]⟩
def Yb (p:Nat->Bool) (i:Nat):(List.range (i+1)).filter p=(List.range i).filter p++(if p i then [i] else []):=by rw [List.range_succ,List.filter_append];cases h:p i<;>simp [h]
def KW {e0:Nat} {g:A6} (hg:GOk e0 g) (st:Int) {a:Tm} (ha:NOk g.length a) (x:Int):∃t b,Ev 66 [.fv (AK g),iv st,.fv a.enc,iv x] (.tuple [Tm.enc t,.bool b])/\TOk g.length 0 t/\(b=true->∃i:Nat,t=.mk 1 i []/\Hit g st a i):=by
 have hlen:=hg.len;have hc:∀i:Nat,∃(p:Int×Tm) (u:Tm) (e:Int),i<g.length->g[g.length - 1 - i]?=some p/\p.2.wk/\p.2.wt<=100000000000/\Ev 24 [.fv (p.2.shift ((i:Int)+1) 0).enc] (.tuple [u.enc,.int .i64 e])/\(e=0/\NOk g.length u\/(e=5\/e=17)/\u=.z)/\∃f,AH f (p.2.shift ((i:Int)+1) 0)=some (u,e):=by
  intro i;by_cases hi:i<g.length
  ·obtain ⟨p,hp⟩:∃p,g[g.length - 1 - i]?=some p:=⟨_,List.getElem?_eq_getElem (by omega)⟩;obtain ⟨h1,h2,h3⟩:=hg.ok _ _ hp;have h4:=CM p.2 (i+1) 0 _ h1 (by omega);rw [show g.length - 1 - i+(i+1)=g.length by omega] at h4
   obtain ⟨u,e,h5,h6,h7⟩:=Gp (k:=g.length) (by omega) h4 (by rw [DC];omega);exact ⟨p,u,e,fun _=>⟨hp,Da _ _ h1,h2,h5,h6,h7⟩⟩
  ·exact ⟨(0,.z),.z,0,fun h=>absurd h hi⟩
 obtain ⟨P,hP⟩:=Classical.axiomOfChoice hc;obtain ⟨U,hP⟩:=Classical.axiomOfChoice hP;obtain ⟨E,hU⟩:=Classical.axiomOfChoice hP;clear hP hc;obtain ⟨N,hN⟩:=Y2 (P:=fun i n=>BA (SS dt n 24 [.fv ((P i).2.shift ((i:Int)+1) 0).enc] ⟨[],[]⟩) (.tuple [(U i).enc,.int .i64 (E i)])) g.length (fun i hi=>(hU i hi).2.2.2.1);obtain ⟨hit,hhit⟩:∃h:Nat->Bool,∀i,h i=(decide ((P i).1=st) && (decide (E i=0) && (U i).eta.same a.eta)):=⟨_,fun _=>rfl⟩;obtain ⟨L,hL⟩:∃L,L=(List.range g.length).filter hit:=⟨_,rfl⟩;obtain ⟨tt,htt⟩:∃tt:Tm,tt=if L=[] then .z else .mk 1 ((L.getD (x % (L.length:Int)).toNat 0:Nat):Int) []:=⟨_,rfl⟩;have hLlt:∀i∈L,i<g.length:=fun i hi=>by
  rw [hL] at hi;exact List.mem_range.1 (List.mem_filter.1 hi).1
 refine ⟨tt,!decide (L=[]),⟨N+200000000000+1,?_⟩,?_,?_⟩
 ·intro n hn;obtain ⟨n,rfl⟩:=psc n (by omega);have hka:=Lz n a g.length ha.sc (by have:=ha.wt;omega) (by have:=ha.wt;omega);rw [c66];generalize hae:a.eta=ae at hka hhit;obtain ⟨oa,ma,ka⟩:=a;obtain ⟨oe,me,ke⟩:=ae;simp only [Am] at hka ⊢;simp only [OV,Qo,S66,↓XX,XY,↓reduceIte,seval,AK,↓AG,XD,heldB,AQ,XE];refine A9 (Q:=fun r=>BA r _) (fun k V H=>∃i:Nat,i+k=g.length/\∃l:List Nat,l=(List.range i).filter hit/\V=[.fv (.sl (g.map v1)),iv st,iv x,.ptr (.own 69206016) 0,.ptr (.own 69206017) 0,lV l,iv i]/\H=L3 oa ma ka l)
   ?_ n g.length _ _ (by omega) ⟨0,by omega,[],rfl,rfl,rfl⟩
  rintro k V H rec ⟨i,hik,l,hl,rfl,rfl⟩ hrec;cases k with
  | zero =>
   have hig:i=g.length:=by omega
   rw [hig] at hl;rw [<- hL] at hl;subst hl;have hno:¬ ((i:Int)<g.length):=by omega
   cases l with
   | nil =>rw [htt,if_pos rfl];simp only [lV,Tm.z,Am];simp only [↓Nf,↓XX,XY,↓reduceIte,seval,hno];exact A4 rfl
   | cons i0 l0 =>
    rw [htt,if_neg (by simp)];generalize hl1:i0::l0=l at *;have hlp:0<l.length:=by rw [<- hl1];simp
    have hll:l.length<=100:=by have h1:=List.length_filter_le hit (List.range g.length);rw [<- hL,List.length_range] at h1;omega
    have hw:=Av (n:=n) (by omega) x (m:=(l.length:Int)) (by omega) (by omega);have h1:=Int.emod_nonneg x (show (l.length:Int)≠0 by omega)
    have h2:=Int.emod_lt_of_pos x (show (0:Int)<l.length by omega)
    obtain ⟨j,hj⟩:∃j:Nat,x % (l.length:Int)=j:=⟨(x % (l.length:Int)).toNat,by omega⟩;rw [hj] at hw h2 ⊢;have hjl:j<l.length:=by omega
    have hget:(iE l)[j]?=some (.int .i64 ((l.getD j 0:Nat):Int)):=by rw [iE,List.getElem?_map,List.getD_eq_getElem?_getD,List.getElem?_eq_getElem hjl];rfl
    rw [Int.toNat_natCast];have hix:=fun {β:Type}=>Bp (β:=β) (size:=1) hget rfl;have hv:=i5 (n:=n) (by omega) ((l.getD j 0:Nat):Int);generalize ((l.getD j 0:Nat):Int)=q at hix hv ⊢;have hln:¬ ((l.length:Int)=0):=by omega
    have hiel:(iE l).length=l.length:=by rw [iE,List.length_map]
    have hap:∀(β:Type) (x:IV) (k:IV->Option β),AP 1 (.app (.own 69214211) (iE l)) x k=AP 1 (.fv (.sl (iE l))) x k:=fun _ _ _=>rfl;have hlV:lV l=.app (.own 69214211) (iE l):=by rw [<- hl1];rfl
    have hlH:lH l=[(69214211,.tok l.length 1)]:=by rw [<- hl1];rfl
    have hne:decide (l=[])=false:=by rw [<- hl1];simp
    rw [hlV,L3,hlH,hne];simp only [List.cons_append,List.nil_append];simp only [Am,AhM] at hv ⊢;simp only [↓Nf,↓XX,XY,↓reduceIte,seval,hno,hiel,hln,↓Af hw,↓hap,↓hix,FV.cells,↓Ap hv];exact A4 rfl
  | succ k =>
   have hig:i<g.length:=by omega
   have hlt:(i:Int)<g.length:=by omega
   obtain ⟨hp,hwk,hwt,_,hN',_⟩:=hU i hig;have hget:(g.map v1)[g.length - 1 - i]?=some (v1 (P i)):=by rw [List.getElem?_map,hp];rfl
   have hix:=fun {β:Type}=>Bp (β:=β) (size:=4) hget rfl;have w1:BB ((g.length:Int) - 1)=(g.length:Int) - 1:=by rw [Ax]<;>omega
   have w2:BB ((g.length:Int) - 1 - i)=((g.length - 1 - i:Nat):Int):=by rw [Ax (by omega) (by omega)];omega
   have wi:BB ((i:Int)+1)=(i:Int)+1:=by rw [Ax]<;>omega
   have hsh:=Df n (P i).2 ((i:Int)+1) 0 (by omega) hwk (by omega) (by omega);have hNi:=hN i hig n (by omega);have h9:=fun (l':List Nat) (e:l'=l++if hit i then [i] else [])=>hrec k [.fv (.sl (g.map v1)),iv st,iv x,.ptr (.own 69206016) 0,.ptr (.own 69206017) 0,lV l',iv (i+1:Nat)] (L3 oa ma ka l') (by omega)
    ⟨i+1,by omega,l',by rw [Yb,<- hl,e],rfl,rfl⟩
   have hi1:((i+1:Nat):Int)=(i:Int)+1:=by omega
   rw [hi1] at h9;have hhi:=hhit i;generalize (P i).2.shift ((i:Int)+1) 0=ts at hsh hNi;generalize P i=p at hp hget hix hsh hhi;obtain ⟨sp,tp⟩:=p;by_cases c1:sp=st
   ·by_cases c2:E i=0
    ·have hUi:NOk g.length (U i):=by
      rcases hN' with ⟨_,h⟩ | ⟨h,_⟩
      ·exact h
      ·omega
     have hke:=Lz n (U i) g.length hUi.sc (by have:=hUi.wt;omega) (by have:=hUi.wt;omega);have hew:=(MV (U i) g.length hUi.sc (by have:=hUi.wt;omega)).2;have hsm:=IR n (U i).eta (.mk oe me ke) (by have:=hUi.wt;omega) (by have:=hUi.wt;omega);rw [c2] at hNi;simp only [c1,c2,decide_true,Bool.true_and] at hhi;rw [<- hhi] at hsm;generalize (U i).eta=ue at hke hsm;generalize U i=ui at hNi hke;obtain ⟨o1,n1,k1⟩:=tp;obtain ⟨o2,n2,k2⟩:=ts;obtain ⟨o3,n3,k3⟩:=ui;obtain ⟨o4,n4,k4⟩:=ue;subst c1;simp only [Am,v1,Tm.op,Tm.n,Tm.kids] at hsh hNi hke hsm hix;cases hb:hit i
     ·rw [hb] at hsm h9;have h9:=h9 l (by simp);cases l with
      | nil =>simp only [lV,lH,L3,List.append_nil] at h9 ⊢;simp only [↓Nf,↓XX,XY,↓reduceIte,seval,hlt,w1,w2,wi,↓hix,FV.cells,↓Au hsh,↓Ap hNi,↓Ap hke,↓Ap hka,↓Af hsm,↓AG,XD,heldB,AQ,XE];exact h9
      | cons i0 l0 =>simp only [lV,lH,L3,List.cons_append,List.nil_append] at h9 ⊢;simp only [↓Nf,↓XX,XY,↓reduceIte,seval,hlt,w1,w2,wi,↓hix,FV.cells,↓Au hsh,↓Ap hNi,↓Ap hke,↓Ap hka,↓Af hsm,↓AG,XD,heldB,AQ,XE];exact h9
     ·rw [hb] at hsm h9;have h9:=h9 (l++[i]) (by simp);cases l with
      | nil =>have happ:=fun {β:Type}=>Ht (β:=β) y3 (.clip [.int .i64 (i:Int)]) (TP [i]) rfl (by simp) (s0:=.nils) (.inl rfl);simp only [lV,lH,L3,List.cons_append,List.nil_append] at h9 ⊢;simp only [↓Nf,↓XX,XY,↓reduceIte,seval,hlt,w1,w2,wi,↓hix,FV.cells,↓Au hsh,↓Ap hNi,↓Ap hke,↓Ap hka,↓Af hsm,↓n8,↓happ,↓AG,XD,heldB,AQ,XE];exact h9
      | cons i0 l0 =>
       have hll:(i0::l0).length<=100:=by have h1:=List.length_filter_le hit (List.range i);rw [<- hl,List.length_range] at h1;omega
       have happ:=fun {β:Type}=>Oi (β:=β) y3 (es:=iE (i0::l0)) (es2:=[.int .i64 (i:Int)]) (.clip _) (TP [i]) (TP _) (zZ [i]) (by rw [iE,List.length_map];simp only [AhL,List.length_nil] at hll ⊢;omega);have hil:(iE (i0::l0)).length=(i0::l0).length:=by rw [iE,List.length_map]
       have hia:iE (i0::l0)++[.int .i64 (i:Int)]=iE (i0::(l0++[i])):=by simp [iE]
       have hil2:(i0::(l0++[i])).length=(i0::l0).length+1:=by simp
       simp only [hil,hia,AhL,List.length_nil,Nat.zero_add] at happ;simp only [lV,lH,L3,List.cons_append,List.nil_append,hil2] at h9 ⊢;simp only [AhL] at h9 ⊢;simp only [↓Nf,↓XX,XY,↓reduceIte,seval,hlt,w1,w2,wi,↓hix,FV.cells,↓Au hsh,↓Ap hNi,↓Ap hke,↓Ap hka,↓Af hsm,↓n8,↓happ,GY,↓AG,XD,heldB,AQ,XE];exact h9
    ·simp only [c2,decide_false,Bool.false_and,Bool.and_false] at hhi;rw [hhi] at h9;have h9:=h9 l (by simp);generalize E i=ei at hNi c2;generalize U i=ui at hNi;obtain ⟨o1,n1,k1⟩:=tp;obtain ⟨o2,n2,k2⟩:=ts;obtain ⟨o3,n3,k3⟩:=ui;subst c1;simp only [Am,v1,Tm.op,Tm.n,Tm.kids] at hsh hNi hix;cases l with
     | nil =>simp only [lV,lH,L3,List.append_nil] at h9 ⊢;simp only [↓Nf,↓XX,XY,↓reduceIte,seval,hlt,w1,w2,wi,↓hix,FV.cells,↓Au hsh,↓Ap hNi,c2,↓AG,XD,heldB,AQ,XE];exact h9
     | cons i0 l0 =>simp only [lV,lH,L3,List.cons_append,List.nil_append] at h9 ⊢;simp only [↓Nf,↓XX,XY,↓reduceIte,seval,hlt,w1,w2,wi,↓hix,FV.cells,↓Au hsh,↓Ap hNi,c2,↓AG,XD,heldB,AQ,XE];exact h9
   ·simp only [c1,decide_false,Bool.false_and] at hhi;rw [hhi] at h9;have h9:=h9 l (by simp);obtain ⟨o1,n1,k1⟩:=tp;simp only [v1,Tm.op,Tm.n,Tm.kids] at hix;cases l with
    | nil =>simp only [lV,lH,L3,List.append_nil] at h9 ⊢;simp only [↓Nf,↓XX,XY,↓reduceIte,seval,hlt,w1,w2,wi,↓hix,FV.cells,c1,↓AG,XD,heldB,AQ,XE];exact h9
    | cons i0 l0 =>simp only [lV,lH,L3,List.cons_append,List.nil_append] at h9 ⊢;simp only [↓Nf,↓XX,XY,↓reduceIte,seval,hlt,w1,w2,wi,↓hix,FV.cells,c1,↓AG,XD,heldB,AQ,XE];exact h9
 ·rw [htt];split
  ·exact ⟨vC _,by have:=K1 0;simp [Tm.z,Tm.wt,Tm.wtL];omega,by simp [Tm.z,Tm.dp,Tm.dpL,Dg]⟩
  ·rename_i hne;have h1:=Int.emod_nonneg x (show (L.length:Int)≠0 by
    intro h;exact hne (List.eq_nil_of_length_eq_zero (by omega)))
   have h2:=Int.emod_lt_of_pos x (show (0:Int)<L.length by
    have:L.length≠0:=fun h=>hne (List.eq_nil_of_length_eq_zero h)
    omega)
   have hj:(x % (L.length:Int)).toNat<L.length:=by omega
   have:=hLlt (L.getD (x % (L.length:Int)).toNat 0) (by rw [List.getD_eq_getElem?_getD,List.getElem?_eq_getElem hj];exact List.getElem_mem hj)
   exact ⟨tM (by omega) (by omega),by have:=K1 0;simp [Tm.wt,Tm.wtL];omega,by simp [Tm.dp,Tm.dpL,Dg]⟩
 ·intro hb;have hne:L≠[]:=by simpa using hb
  rw [htt,if_neg hne];have h1:=Int.emod_nonneg x (show (L.length:Int)≠0 by
   intro h;exact hne (List.eq_nil_of_length_eq_zero (by omega)))
  have h2:=Int.emod_lt_of_pos x (show (0:Int)<L.length by
   have:L.length≠0:=fun h=>hne (List.eq_nil_of_length_eq_zero h)
   omega)
  have hj:(x % (L.length:Int)).toNat<L.length:=by omega
  have hm:L.getD (x % (L.length:Int)).toNat 0∈L:=by rw [List.getD_eq_getElem?_getD,List.getElem?_eq_getElem hj];exact List.getElem_mem hj
  generalize L.getD (x % (L.length:Int)).toNat 0=i at hm;refine ⟨i,rfl,hLlt i hm,?_⟩;have hig:=hLlt i hm;rw [hL] at hm;have hh:=(List.mem_filter.1 hm).2;rw [hhit,Bool.and_eq_true,Bool.and_eq_true,decide_eq_true_eq,decide_eq_true_eq] at hh;obtain ⟨hp,_,_,_,_,f,hf⟩:=hU i hig;rw [hh.2.1] at hf;refine ⟨(P i).2,f,U i,by rw [hp,<- hh.1],?_,(I0 _ _).1 hh.2.2⟩;rw [show ((i+1:Nat):Int)=(i:Int)+1 by omega]
  exact hf
def Ed (F:FuncId) (κ e:Nat):Prop:=∀(g:A6) (a r:Tm),GOk e g->AOk g.length a->∃t b,Ev F [.fv (AK g),.fv a.enc,.fv r.enc,iv ((e:Int) - 5)] (.tuple [Tm.enc t,.bool b])/\TG κ e g a t b
def On (F:FuncId) (κ e:Nat):Prop:=∀(g:A6) (a r:Tm),GOk e g->NOk g.length a->∃t b,Ev F [.fv (AK g),.fv a.enc,.fv r.enc,iv ((e:Int) - 5)] (.tuple [Tm.enc t,.bool b])/\TG κ e g a t b
structure TyOk (g:A6) (e:Nat) (t:Tm):Prop where
 sc:t.sc g.length
 wt:t.wt<=Wg (e - 1)+10
 dp:t.dp<=Dg (e - 1)+3
 gr:Gr 0 e g .z t
def KV (e:Nat):Prop:=∀(g:A6) (r:Tm),GOk e g->∃t,Ev 29 [.fv (AK g),.fv r.enc,iv ((e:Int) - 5)] (Tm.enc t)/\TyOk g e t
def Me {k:Nat} {a:Tm} (h:NOk k a) (hk:k<=1000) (d:Nat) (hd:d<=10):NOk (k+d) (a.shift d 0):=⟨CM a d 0 k h.sc (by have:=h.wt;omega),by rw [Bj];exact h.wt,by rw [DC];exact h.dp⟩
def aM {e:Nat} (h6:6<=e) (he:e<=10) (hT:KV 6) (hG:Ed 30 1 (e - 2)):On 67 3 e:=by
 intro g a r hg ha;have hlen:=hg.len;have hW2:Wg e=16 * Wg (e - 2):=by obtain ⟨f,rfl⟩:∃f,e=f+2:=⟨e - 2,by omega⟩;rw [show f+2=(f+1)+1 by omega,K6,K6,show f+1+1 - 2=f by omega];omega
 have hW20:=K1 (e - 2);have hW5:4 * Wg 5<=Wg e:=by rw [<- K6];exact O9 (by omega)
 have hW10:=LH he;have hDe:Dg e=Dg (e - 2)+20:=by unfold Dg;omega
 have hD5:Dg 5+10<=Dg e:=by unfold Dg;omega
 have hD2:200<=Dg (e - 2):=by unfold Dg;omega
 have hDm:Dg e<=300:=by unfold Dg;omega
 obtain ⟨b,⟨N1,h1⟩,tb⟩:=hT g (r.pick 0) (A8 (by omega) hg);have bw:=tb.wt;have bd:=tb.dp;simp only [show 6 - 1=5 from rfl] at bw bd
 have hba:AOk g.length b:=⟨tb.sc,by omega,by omega⟩;have hbm:GOk (e - 2) (g++[(1,b)]):=Dd (A8 (by omega) hg) tb.sc (by omega) (by omega);obtain ⟨x,p,⟨N2,h2⟩,tx⟩:=hG g b (r.pick 1) (A8 (by omega) hg) hba;obtain ⟨c,q,⟨N3,h3⟩,tc⟩:=hG g a (r.pick 2) (A8 (by omega) hg) (BW ha);have hsa:=Me ha (by omega) 1 (by omega);obtain ⟨c2,q2,⟨N4,h4⟩,tc2⟩:=hG (g++[(1,b)]) (a.shift 1 0) (r.pick 2) hbm (by simpa using BW hsa);have we:BB ((e:Int) - 5 - 2)=((e - 2:Nat):Int) - 5:=by rw [Ax (by omega) (by omega)];omega
 have hd2:(((e - 2:Nat):Int) - 5)=((e - 2:Nat):Int) - 5:=rfl;have aw:=ha.wt;have ad:=ha.dp;have xw:=tx.wt;have cw:=tc.wt;have c2w:=tc2.wt;have xd:=tx.dp;have cd:=tc.dp;have c2d:=tc2.dp;have c2s:c2.sc (g.length+1):=by simpa using tc2.sc
 by_cases h0:r.n % 3=0
 ·refine ⟨.mk 8 0 [.mk 7 0 [.mk 6 0 [a,b.shift 1 0],c,x]],p && q,⟨N1+N2+N3+200000000000+1,?_⟩,?_,?_,?_,fun hb=>.fst e g a b c x h6 hba tb.gr (tx.gr (Ki hb)) (tc.gr (IH hb))⟩
  ·intro n hn;obtain ⟨n,rfl⟩:=psc n (by omega);have h1:=h1 n (by omega);have h2:=h2 n (by omega);have h3:=h3 n (by omega);rw [<- we] at h2 h3;have p0:=AS (n:=n) (by omega) r 0;have p1:=AS (n:=n) (by omega) r 1;have p2:=AS (n:=n) (by omega) r 2;have hw:=Av (n:=n) (by omega) r.n (m:=3) (by omega) (by omega);have hsh:=Df n b 1 0 (by omega) (Da _ _ tb.sc) (by omega) (by omega);have t6:=CO (n:=n) (by omega) 6 [a,b.shift 1 0];have t7:=CO (n:=n) (by omega) 7 [.mk 6 0 [a,b.shift 1 0],c,x];have t8:=CO (n:=n) (by omega) 8 [.mk 7 0 [.mk 6 0 [a,b.shift 1 0],c,x]];rw [h0] at hw;rw [c67];clear h4 tb tx tc tc2 ha hg hG hT hba hbm hsa aw ad xw cw c2w bw xd cd c2d bd c2s;generalize b.shift 1 0=bs at hsh t6 t7 t8 ⊢;generalize r.pick 0=r0 at p0 h1;generalize r.pick 1=r1 at p1 h2;generalize r.pick 2=r2 at p2 h3;obtain ⟨o1,m1,k1⟩:=a;obtain ⟨o2,m2,k2⟩:=b;obtain ⟨o3,m3,k3⟩:=r;obtain ⟨o4,m4,k4⟩:=bs;obtain ⟨o5,m5,k5⟩:=x;obtain ⟨o6,m6,k6⟩:=c;obtain ⟨o7,m7,k7⟩:=r0;obtain ⟨o8,m8,k8⟩:=r1;obtain ⟨o9,m9,k9⟩:=r2;simp only [Tm.n,AK,AhN,AhM,Am,Int.reduceSub,Int.cast_ofNat_Int] at h1 h2 h3 p0 p1 p2 hw hsh t6 t7 t8 ⊢;cases p
   ·simp only [IX,Jh,Jx,Jt,xB,↓XX,XY,↓reduceIte,seval,↓Af p0,↓Af p1,↓Af p2,↓Au h1,↓As h2,↓Af hw,↓As h3,↓Au hsh,↓CF,↓Af t6,↓I2,↓Af t7,↓Du,↓Af t8];exact A4 rfl
   ·simp only [IX,Jh,Jx,Jt,xB,↓XX,XY,↓reduceIte,seval,↓Af p0,↓Af p1,↓Af p2,↓Au h1,↓As h2,↓Af hw,↓As h3,↓Au hsh,↓CF,↓Af t6,↓I2,↓Af t7,↓Du,↓Af t8];exact A4 rfl
  ·exact FM (ZI
    (Db ha.sc (CM b 1 0 _ tb.sc (by simp only [show Ak 8 0=0 from rfl,show Ak 7 0=0 from rfl];omega))) tc.sc tx.sc)
  ·rw [Lx,n9,D5,Bj];omega
  ·rw [fP,dp3,M9,DC];omega
 ·refine ⟨.mk 5 0 [.mk 4 0 [b,c2],x],p && q2,⟨N1+N2+N4+200000000000+1,?_⟩,?_,?_,?_,fun hb=>.app e g a b c2 x h6 hba tb.gr (tx.gr (Ki hb)) (tc2.gr (IH hb))⟩
  ·intro n hn;obtain ⟨n,rfl⟩:=psc n (by omega);have h1:=h1 n (by omega);have h2:=h2 n (by omega);have h4:=h4 n (by omega);rw [<- we] at h2 h4;have p0:=AS (n:=n) (by omega) r 0;have p1:=AS (n:=n) (by omega) r 1;have p2:=AS (n:=n) (by omega) r 2;have hw:=Av (n:=n) (by omega) r.n (m:=3) (by omega) (by omega);have hsh:=Df n a 1 0 (by omega) (Da _ _ ha.sc) (by omega) (by omega);have hm:=D0 (n:=n) g 1 b (by omega) (by omega);have t4:=CO (n:=n) (by omega) 4 [b,c2];have t5:=CO (n:=n) (by omega) 5 [.mk 4 0 [b,c2],x];rw [c67];clear h3 tb tx tc tc2 ha hg hG hT hba hbm hsa aw ad xw cw c2w bw xd cd c2d bd c2s;generalize a.shift 1 0=sa at hsh h4;generalize r.pick 0=r0 at p0 h1;generalize r.pick 1=r1 at p1 h2;generalize r.pick 2=r2 at p2 h4;generalize r.n % 3=w3 at hw h0;obtain ⟨o1,m1,k1⟩:=a;obtain ⟨o2,m2,k2⟩:=b;obtain ⟨o3,m3,k3⟩:=r;obtain ⟨o4,m4,k4⟩:=sa;obtain ⟨o5,m5,k5⟩:=x;obtain ⟨o6,m6,k6⟩:=c2;obtain ⟨o7,m7,k7⟩:=r0;obtain ⟨o8,m8,k8⟩:=r1;obtain ⟨o9,m9,k9⟩:=r2;simp only [Tm.n,AK,AhN,AhM,Am,Int.reduceSub,Int.cast_ofNat_Int] at h1 h2 h4 p0 p1 p2 hw hsh hm t4 t5 ⊢;cases p
   ·simp only [IX,Jh,Jx,Jt,xB,↓XX,XY,↓reduceIte,seval,↓Af p0,↓Af p1,↓Af p2,↓Au h1,↓As h2,↓Af hw,h0,↓As h4,↓Au hsh,↓Au hm,↓CF,↓Af t4,↓Af t5];exact A4 rfl
   ·simp only [IX,Jh,Jx,Jt,xB,↓XX,XY,↓reduceIte,seval,↓Af p0,↓Af p1,↓Af p2,↓Au h1,↓As h2,↓Af hw,h0,↓As h4,↓Au hsh,↓Au hm,↓CF,↓Af t4,↓Af t5];exact A4 rfl
  ·exact Db (Db tb.sc c2s) tx.sc
  ·rw [D5,D5];omega
  ·rw [M9,M9];omega
def kK {e:Nat} (he:e<=10) (hT:6<=e->KV (e - 1)) (hG:6<=e->Ed 30 1 (e - 1)):KV e:=by
 intro g r hg;have hlen:=hg.len;have hk1:=Int.emod_nonneg r.op (show (9:Int)≠0 by decide)
 have hk2:=Int.emod_lt_of_pos r.op (show (0:Int)<9 by decide)
 have hW0:=K1 (e - 1);have hD0:200<=Dg (e - 1):=by unfold Dg;omega
 have hleaf:∀op n:Int,ar op=some 0->op≠1->BQ op n->Gr 0 e g .z (.mk op n [])->TyOk g e (.mk op n []):=fun op n h1 h2 h3 h4=>⟨Hv h1 h2 h3,by simp only [Tm.wt,Tm.wtL];omega,by simp only [Tm.dp,Tm.dpL];omega,h4⟩;have hpl:=Fc 1 r;have hpd:=Ea (r.plainT 1);have c0:(r.op % 9=0\/r.op % 9=1\/e<=5/\(r.op % 9=5\/r.op % 9=6))->∃t,Ev 29 [.fv (AK g),.fv r.enc,iv ((e:Int) - 5)] (Tm.enc t)/\TyOk g e t:=by
  intro hc;refine ⟨.mk 10 0 [],⟨100,fun n hn=>?_⟩,hleaf 10 0 (by decide) (by decide) (MQ (by decide) (by decide) (by decide)) (.tnat e g _)⟩;obtain ⟨n,rfl⟩:=psc n (by omega);have hw:=Av (n:=n) (by omega) r.op (m:=9) (by omega) (by omega);have hn4:=Lc (n:=n) (by omega);rw [xL];obtain ⟨o,p,k⟩:=r;simp only [Tm.op] at hw hc;simp only [Am,AhM] at hn4 ⊢;rcases hc with hc | hc | ⟨he5,hc | hc⟩
  ·rw [hc] at hw;by_cases hd:(e:Int) - 5<=0<;>(simp only [↓Jn,↓XX,XY,↓reduceIte,seval,↓Af hw,hd,↓Ec hn4];first | exact Aw _ _ | exact Bn rfl _)
  ·rw [hc] at hw;by_cases hd:(e:Int) - 5<=0<;>(simp only [↓Jn,↓XX,XY,↓reduceIte,seval,↓Af hw,hd,↓Ec hn4];first | exact Aw _ _ | exact Bn rfl _)
  ·rw [hc] at hw;have hd:(e:Int) - 5<=0:=by omega
   simp only [↓Jn,↓XX,XY,↓reduceIte,seval,↓Af hw,hd,↓NZ (show (5:Int)≠0 by decide),show (5:Int).tmod 5=0 from rfl,↓Ec hn4];first | exact Aw _ _ | exact Bn rfl _
  ·rw [hc] at hw;have hd:(e:Int) - 5<=0:=by omega
   simp only [↓Jn,↓XX,XY,↓reduceIte,seval,↓Af hw,hd,↓NZ (show (5:Int)≠0 by decide),show (6:Int).tmod 5=1 from rfl,↓Ec hn4];first | exact Aw _ _ | exact Bn rfl _
 have c2:(r.op % 9=2\/e<=5/\r.op % 9=7)->∃t,Ev 29 [.fv (AK g),.fv r.enc,iv ((e:Int) - 5)] (Tm.enc t)/\TyOk g e t:=by
  intro hc;refine ⟨.mk 14 0 [],⟨100,fun n hn=>?_⟩,hleaf 14 0 (by decide) (by decide) (MQ (by decide) (by decide) (by decide)) (.tty e g _)⟩;obtain ⟨n,rfl⟩:=psc n (by omega);have hw:=Av (n:=n) (by omega) r.op (m:=9) (by omega) (by omega);have hn4:=AW (n:=n) (by omega) 14;rw [xL];obtain ⟨o,p,k⟩:=r;simp only [Tm.op] at hw hc;simp only [Am,AhM] at hn4 ⊢;rcases hc with hc | ⟨he5,hc⟩
  ·rw [hc] at hw;by_cases hd:(e:Int) - 5<=0<;>(simp only [↓Jn,↓XX,XY,↓reduceIte,seval,↓Af hw,hd,↓Af hn4];first | exact Aw _ _ | exact Bn rfl _)
  ·rw [hc] at hw;have hd:(e:Int) - 5<=0:=by omega
   simp only [↓Jn,↓XX,XY,↓reduceIte,seval,↓Af hw,hd,↓NZ (show (5:Int)≠0 by decide),show (7:Int).tmod 5=2 from rfl,↓Af hn4];first | exact Aw _ _ | exact Bn rfl _
 have c3:(r.op % 9=3\/e<=5/\r.op % 9=8)->∃t,Ev 29 [.fv (AK g),.fv r.enc,iv ((e:Int) - 5)] (Tm.enc t)/\TyOk g e t:=by
  intro hc;refine ⟨.mk 18 0 [r.plainT 1],⟨100,fun n hn=>?_⟩,FM (Gg _ 1 r),by rw [Lx];omega,by rw [fP];omega,.tlp e g _ r⟩;obtain ⟨n,rfl⟩:=psc n (by omega);have hw:=Av (n:=n) (by omega) r.op (m:=9) (by omega) (by omega);have hp:=Ke 1 n r (by omega) (by omega);have ht:=CO (n:=n) (by omega) 18 [r.plainT 1];rw [xL];generalize r.plainT 1=q at hp ht ⊢;obtain ⟨o,p,k⟩:=r;obtain ⟨o2,p2,k2⟩:=q;simp only [Tm.op] at hw hc;simp only [Am,AhN,AhM] at hp ht ⊢;rcases hc with hc | ⟨he5,hc⟩
  ·rw [hc] at hw;by_cases hd:(e:Int) - 5<=0<;>(simp only [↓Jn,↓XX,XY,↓reduceIte,seval,↓Af hw,hd,↓Af hp,↓Du,↓Af ht];first | exact Aw _ _ | exact Bn rfl _)
  ·rw [hc] at hw;have hd:(e:Int) - 5<=0:=by omega
   simp only [↓Jn,↓XX,XY,↓reduceIte,seval,↓Af hw,hd,↓NZ (show (5:Int)≠0 by decide),show (8:Int).tmod 5=3 from rfl,↓Af hp,↓Du,↓Af ht];first | exact Aw _ _ | exact Bn rfl _
 by_cases h4:r.op % 9=4
 ·refine ⟨.mk 2 0 [],⟨100,fun n hn=>?_⟩,hleaf 2 0 (by decide) (by decide) (by rw [BQ,if_pos rfl];omega) (.tu e g _)⟩;obtain ⟨n,rfl⟩:=psc n (by omega);have hw:=Av (n:=n) (by omega) r.op (m:=9) (by omega) (by omega);have hu:=Hk (n:=n) (by omega) 0;rw [xL];obtain ⟨o,p,k⟩:=r;simp only [Tm.op] at hw h4;simp only [Am,AhM] at hu ⊢;rw [h4] at hw;by_cases hd:(e:Int) - 5<=0<;>(simp only [↓Jn,↓XX,XY,↓reduceIte,seval,↓Af hw,hd,↓Ap hu];first | exact Aw _ _ | exact Bn rfl _)
 by_cases hs:r.op % 9<=3\/e<=5
 ·have h:=hk1;by_cases h0:r.op % 9=0\/r.op % 9=1\/e<=5/\(r.op % 9=5\/r.op % 9=6)
  ·exact c0 h0
  by_cases h2:r.op % 9=2\/e<=5/\r.op % 9=7
  ·exact c2 h2
  exact c3 (by omega)
 have he6:6<=e:=by omega
 have hd:¬ (e:Int) - 5<=0:=by omega
 have we:BB ((e:Int) - 5 - 1)=((e - 1:Nat):Int) - 5:=by rw [Ax (by omega) (by omega)];omega
 have hW10:=LH (e:=e - 1) (by omega);have hW1:Wg (e - 1)=4 * Wg (e - 2):=by obtain ⟨f,rfl⟩:∃f,e=f+2:=⟨e - 2,by omega⟩;rw [show f+2 - 1=f+1 by omega,K6,show f+2 - 2=f by omega]
 have hW2:=K1 (e - 2);have hD1:Dg (e - 1)=Dg (e - 2)+10:=by unfold Dg;omega
 have hDm:Dg (e - 1)<=300:=by unfold Dg;omega
 by_cases h8:r.op % 9=8
 ·obtain ⟨t,b,⟨N1,h1⟩,tt⟩:=hG he6 g (.mk 14 0 []) (r.pick 0) (A8 (by omega) hg) ⟨De,by simp [Tm.wt,Tm.wtL],by simp [Tm.dp,Tm.dpL]⟩;refine ⟨if b=true then .mk 18 0 [t] else .mk 10 0 [],⟨N1+100,fun n hn=>?_⟩,?_⟩
  ·obtain ⟨n,rfl⟩:=psc n (by omega);have hw:=Av (n:=n) (by omega) r.op (m:=9) (by omega) (by omega);have h1:=h1 n (by omega);rw [<- we] at h1;have p0:=AS (n:=n) (by omega) r 0;have t14:=AW (n:=n) (by omega) 14;have t18:=CO (n:=n) (by omega) 18 [t];have hn4:=Lc (n:=n) (by omega);rw [xL];rw [h8] at hw;clear hG hT tt c0 c2 c3 hleaf;generalize r.pick 0=r0 at p0 h1;obtain ⟨o,p,k⟩:=r;obtain ⟨o2,p2,k2⟩:=t;obtain ⟨o3,p3,k3⟩:=r0;simp only [Tm.op] at hw;simp only [Am,AK,AhN,AhM] at h1 p0 t14 t18 hn4 ⊢;cases b
   ·simp only [Bool.false_eq_true,if_false,Am,AhM];simp only [↓Jn,↓XX,XY,↓reduceIte,seval,↓Af hw,hd,↓Af t14,↓Af p0,↓As h1,↓Ec hn4];first | exact Aw _ _ | exact Bn rfl _
   ·simp only [if_true,Am,AhM,AhN];simp only [↓Jn,↓XX,XY,↓reduceIte,seval,↓Af hw,hd,↓Af t14,↓Af p0,↓As h1,↓Du,↓Af t18];first | exact Aw _ _ | exact Bn rfl _
  ·split
   ·rename_i hb;exact ⟨FM tt.sc,by have:=tt.wt;rw [Lx];omega,by have:=tt.dp;rw [fP];omega,.tlift e g _ t he6 (tt.gr hb)⟩
   ·exact hleaf 10 0 (by decide) (by decide) (MQ (by decide) (by decide) (by decide)) (.tnat e g _)
 ·obtain ⟨a,⟨N1,h1⟩,ta⟩:=hT he6 g (r.pick 0) (A8 (by omega) hg);have aw:=ta.wt;have ad:=ta.dp;rw [show e - 1 - 1=e - 2 by omega] at aw ad
  obtain ⟨b,⟨N2,h2⟩,tb⟩:=hT he6 (g++[(1,a)]) (r.pick 1) (Dd (by rw [show e - 1+1=e by omega];exact hg) ta.sc (by omega) (by omega))
  have bw:=tb.wt;have bd:=tb.dp;rw [show e - 1 - 1=e - 2 by omega] at bw bd
  have bs:b.sc (g.length+1):=by simpa using tb.sc
  have hop:∀op:Int,op=3\/op=6->TyOk g e (.mk op 0 [a,b]):=by
   rintro op (rfl | rfl)
   ·exact ⟨Db ta.sc bs,by rw [D5];omega,by rw [M9];omega,.tpi e g _ a b _ (by simp) he6 (by omega) ⟨ta.sc,by omega,by omega⟩ ta.gr tb.gr⟩
   ·exact ⟨Db ta.sc bs,by rw [D5];omega,by rw [M9];omega,.tpi e g _ a b _ (by simp) he6 (by omega) ⟨ta.sc,by omega,by omega⟩ ta.gr tb.gr⟩
  obtain ⟨oo,hoo⟩:∃oo:Int,oo=3/\(r.op % 9=5\/r.op % 9=6)\/oo=6/\r.op % 9=7:=by
   by_cases h7:r.op % 9=7
   ·exact ⟨6,.inr ⟨rfl,h7⟩⟩
   ·exact ⟨3,.inl ⟨rfl,by omega⟩⟩
  refine ⟨.mk oo 0 [a,b],⟨N1+N2+100,fun n hn=>?_⟩,hop oo (by omega)⟩;obtain ⟨n,rfl⟩:=psc n (by omega);have hw:=Av (n:=n) (by omega) r.op (m:=9) (by omega) (by omega);have h1:=h1 n (by omega);have h2:=h2 n (by omega);rw [<- we] at h1 h2;have p0:=AS (n:=n) (by omega) r 0;have p1:=AS (n:=n) (by omega) r 1;have t3:=CO (n:=n) (by omega) 3 [a,b];have t6:=CO (n:=n) (by omega) 6 [a,b];have hm:=D0 (n:=n) g 1 a (by omega) (by omega);rw [xL];clear hG hT c0 c2 c3 hleaf ta tb hop bs aw ad bw bd;generalize r.pick 0=r0 at p0 h1;generalize r.pick 1=r1 at p1 h2;obtain ⟨o,p,k⟩:=r;obtain ⟨o2,p2,k2⟩:=a;obtain ⟨o3,p3,k3⟩:=b;obtain ⟨o4,p4,k4⟩:=r0;obtain ⟨o5,p5,k5⟩:=r1;simp only [Tm.op] at hw hoo;simp only [Am,AK,AhN,AhM] at h1 h2 p0 p1 t3 t6 hm ⊢;rcases hoo with ⟨rfl,hk | hk⟩ | ⟨rfl,hk⟩
  ·rw [hk] at hw;simp only [↓Jn,↓XX,XY,↓reduceIte,seval,↓Af hw,hd,↓Af p0,↓Af p1,↓Au h1,↓Au hm,↓Au h2,↓CF,↓Af t3];first | exact Aw _ _ | exact Bn rfl _
  ·rw [hk] at hw;simp only [↓Jn,↓XX,XY,↓reduceIte,seval,↓Af hw,hd,↓Af p0,↓Af p1,↓Au h1,↓Au hm,↓Au h2,↓CF,↓Af t3];first | exact Aw _ _ | exact Bn rfl _
  ·rw [hk] at hw;simp only [↓Jn,↓XX,XY,↓reduceIte,seval,↓Af hw,hd,↓Af p0,↓Af p1,↓Au h1,↓Au hm,↓Au h2,↓CF,↓Af t6];first | exact Aw _ _ | exact Bn rfl _
end Idl
end Go.Proofs.YtnenpcghegcnhaaGreat

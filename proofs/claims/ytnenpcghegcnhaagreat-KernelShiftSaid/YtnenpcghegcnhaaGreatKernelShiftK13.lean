/- Part 13 of a proof. No statement is proved here. -/
import Derived.Test.YtnenpcghegcnhaaGreatKernelShiftK12
set_option linter.all false
set_option maxRecDepth 20000
set_option maxHeartbeats 16000000
noncomputable section
namespace Go.Proofs.YtnenpcghegcnhaaGreat
namespace Idl
mutual
def Tm.surf:Tm->Nat
 | .mk op _ ks=>1+Tm.surfL op 0 ks
def Tm.surfL:Int->Nat->List Tm->Nat
 | _,_,[]=>0
 | op,i,t::l=>(if 0<Ak op i then 0 else t.surf)+Tm.surfL op (i+1) l
end
mutual
def Tm.inn:Tm->Nat
 | .mk op _ ks=>Tm.innL op 0 ks
def Tm.innL:Int->Nat->List Tm->Nat
 | _,_,[]=>0
 | op,i,t::l=>(if 0<Ak op i then t.wt else t.inn)+Tm.innL op (i+1) l
end
mutual
theorem L1:∀t:Tm,t.surf+t.inn=t.wt
 | .mk op n ks=>by
  have:=surfL_innL op 0 ks
  simp only [Tm.surf,Tm.inn,Tm.wt];omega
theorem surfL_innL:∀(op:Int) (i:Nat) (l:List Tm),Tm.surfL op i l+Tm.innL op i l=Tm.wtL l
 | _,_,[]=>rfl
 | op,i,t::l=>by
  have h1:=L1 t;have h2:=surfL_innL op (i+1) l;simp only [Tm.surfL,Tm.innL,Tm.wtL];split<;>omega
end
mutual
def RV.vsz:RV->Nat
 | .mk op _ k _ _=>1+RV.vszL op 0 k
def RV.vszL:Int->Nat->List RV->Nat
 | _,_,[]=>0
 | op,i,v::l=>(if 0<Ak op i then 0 else v.vsz)+RV.vszL op (i+1) l
end
theorem Xw (v:RV):1<=v.vsz:=by obtain ⟨op,n,k,env,b⟩:=v;rw [RV.vsz];omega
inductive Rel (B:Nat):PV->RV->Prop
 | var (n:Int):Rel B (.var n) (.var n)
 | node (op n n':Int) (kp:List PV) (kr:List RV) (ts:List Tm) (e:List PV) (env:List RV) (h1:op≠1) (har:ar op=some ts.length) (hl:kp.length=ts.length) (hl2:kr.length=ts.length)
   (hk:∀i p r,Ak op i=0->kp[i]?=some p->kr[i]?=some r->Rel B p r)
   (hb:∀i b,0<Ak op i->ts[i]?=some b->(b.good/\b.wt<=B)/\kp[i]?=some .nil/\kr[i]?=some (.clo env b))
   (hel:e.length=env.length) (he:∀(i:Nat) p r,e[i]?=some p->env.reverse[i]?=some r->Rel B p r):Rel B (.mk op n kp (.mk op n' ts) e) (.node op n kr)
def Gc (B:Nat) (e:List PV) (env:List RV):Prop:=e.length=env.length/\∀(i:Nat) p r,e[i]?=some p->env.reverse[i]?=some r->Rel B p r
theorem Me {B:Nat} {p:PV} {r:RV} (h:Rel B p r):∃op n k t e,p=.mk op n k t e/\r.op=op/\r.n=n:=by
 cases h with
 | var n=>exact ⟨_,_,_,_,_,rfl,rfl,rfl⟩
 | node=>exact ⟨_,_,_,_,_,rfl,rfl,rfl⟩
theorem S4 (B:Nat):Gc B [] []:=⟨rfl,fun i p r h=>by simp at h⟩
theorem S6 {B:Nat} {e l:List PV} {env l':List RV} (h:Gc B e env) (hl:l.length=l'.length) (hr:∀(i:Nat) p r,l[i]?=some p->l'[i]?=some r->Rel B p r):Gc B (l.reverse++e) (env++l'):=by
 refine ⟨by simp [h.1,hl,Nat.add_comm],?_⟩;intro i p r hp hr';rw [List.reverse_append] at hr';by_cases hi:i<l.length
 ·rw [Ai9 (by simpa using hi),List.getElem?_reverse hi] at hp;rw [Ai9 (by simp;omega),List.getElem?_reverse (by omega)] at hr';exact hr _ _ _ hp (by rw [hl];exact hr')
 ·rw [Ai8 (by simp;omega),List.length_reverse] at hp;rw [Ai8 (by simp;omega),List.length_reverse,<- hl] at hr';exact h.2 _ _ _ hp hr'
theorem mS {B:Nat} {e:List PV} {env:List RV} (h:Gc B e env) {m:Int} (h0:0<=m) (hm:m<env.length) {r:RV} (hr:env[(env.length - 1 - m).toNat]?=some r):Rel B (FY e m) r:=by
 rw [FY,if_pos (by rw [h.1];exact hm)];have hi:m.toNat<e.length:=by rw [h.1];omega
 rw [Ajf,Ai6 hi];refine h.2 m.toNat _ _ (Ai6 hi) ?_;rw [List.getElem?_reverse (by omega),show env.length - 1 - m.toNat=(env.length - 1 - m).toNat by omega]
 exact hr
def sl (t:Tm) (v:RV):Nat:=if t.op=19/\v.op=19 then 1 else if t.op=30/\v.op=30 then 0 else if t.badR=true then 2 else 3
theorem Ty (t:Tm) (v:RV):sl t v<=3:=by unfold sl;split;omega;split;omega;split<;>omega
structure Cost (t:Tm) (v:RV) (k c u:Nat):Prop where
 le:c<=t.surf+k * t.inn
 p:5 * u<=3 * c+10 * k
 q:5 * u+sl t v<=3 * c+10 * k
 v:k=0->t.surf<=v.vsz
structure MOk (m:M3) (k T:Nat):Prop where
 e:m.e=0
 w:(T:Int)<=m.w
 w2:m.w<=5000000
 s:(k:Int)<=m.s
 s2:m.s<=100000
def Gg (m:M3) (k T:Nat):M3:=⟨m.s - k,m.w - T,0⟩
theorem E9 (m:M3) (k1 T1 k2 T2:Nat):Gg (Gg m k1 T1) k2 T2=Gg m (k1+k2) (T1+T2):=by simp only [Gg,M3.mk.injEq,and_true];omega
theorem Mp {m:M3} {k1 T1 k2 T2:Nat} (h:MOk m (k1+k2) (T1+T2)):MOk m k1 T1:=⟨h.e,by have:=h.w;omega,h.w2,by have:=h.s;omega,h.s2⟩
theorem Ix {m:M3} {k1 T1 k2 T2:Nat} (h:MOk m (k1+k2) (T1+T2)):MOk (Gg m k1 T1) k2 T2:=⟨rfl,by have:=h.w;simp only [Gg];omega,by have:=h.w2;simp only [Gg];omega,by have:=h.s;simp only [Gg];omega,by have:=h.s2;simp only [Gg];omega⟩
theorem MD {m:M3} {k T:Nat} (h:MOk m k (1+T)):Hs m=some (Gg m 0 1):=by have h1:=h.w;have h2:=h.w2;have h3:=h.e;rw [Hs,if_neg (by omega),if_neg (by omega),h3];simp only [Gg,AiZ,M3.mk.injEq,and_true];omega
def ZV (B:Nat) (e:List PV) (t:Tm) (v:RV) (k T:Nat):Prop:=∃v',Rel B v' v/\∃F,∀f,F<=f->∀m,MOk m k T->PS f e t m=some (v',Gg m k T)
def VH (B f:Nat):Prop:=∀(s:Int) (t:Tm) (env:List RV) (v:RV) (s':Int),AD f s 0 t env=some (v,s',0)->t.good->t.wt<=B->∀e,Gc B e env->∃k c u T:Nat,s'=s+k/\Cost t v k c u/\T<=c+u+2 * k/\ZV B e t v k T
def GU (op:Int):Nat->List Tm->List RV->Nat
 | _,[],_=>0
 | _,_::_,[]=>0
 | i,t::l,v::vs=>(if 0<Ak op i then 0 else sl t v)+GU op (i+1) l vs
theorem Wj (k1 k2 a b:Nat):k1 * a+k2 * b<=(k1+k2) * (a+b):=by rw [Nat.add_mul,Nat.mul_add,Nat.mul_add];have h1:0<=k1 * b:=Nat.zero_le _;have h2:0<=k2 * a:=Nat.zero_le _;omega
theorem M2 {B f:Nat} (ih:VH B f) (op:Int) (env:List RV) (e:List PV) (he:Gc B e env):∀(l:List Tm) (i:Nat) (s:Int) (vs:List RV) (s':Int),Bf (fun s e t=>AD f s e t env) op env i l s 0=some (vs,s',0)->Tm.goodL l->Tm.wtL l<=B ->
  ∃k c u T:Nat,s'=s+k/\c<=Tm.surfL op i l+k * Tm.innL op i l/\5 * u+GU op i l vs<=3 * c+10 * k/\(k=0->Tm.surfL op i l<=RV.vszL op i vs)/\T<=c+u+2 * k/\vs.length=l.length /\
   ∃ps:List PV,ps.length=l.length/\(∀j t,l[j]?=some t->0<Ak op (i+j)->ps[j]?=some .nil/\vs[j]?=some (.clo env t))/\(∀j p r,Ak op (i+j)=0->ps[j]?=some p->vs[j]?=some r->Rel B p r) /\
    (∀j t r,l[j]?=some t->Ak op (i+j)=0->vs[j]?=some r->∃s1 s2,AD f s1 0 t env=some (r,s2,0))/\∃F,∀g,F<=g->∀m,MOk m k T->Pd (fun t m=>PS g e t m) op i l m=some (ps,Gg m k T)
 | [],i,s,vs,s',h,_,_=>by
  simp only [Bf,AiZ,Ai0] at h;obtain ⟨rfl,rfl,_⟩:=h;refine ⟨0,0,0,0,by omega,by omega,by rw [GU];omega,fun _=>by rw [Tm.surfL,RV.vszL];omega,by omega,rfl,[],rfl,fun j t h=>by simp at h,fun j p r _ h=>by simp at h,fun j t r h=>by simp at h,0,fun g _ m hm=>?_⟩
  have:Gg m 0 0=m:=by
   obtain ⟨a,b,c⟩:=m
   have:=hm.e
   simp only at this;subst this;simp [Gg]
  rw [Pd,this]
 | t::l,i,s,vs,s',h,hg,hw=>by
  rw [Tm.goodL] at hg;rw [Tm.wtL] at hw;simp only [Bf] at h;by_cases hb:0<Ak op i
  ·rw [if_pos hb] at h;cases hk:Bf (fun s e t=>AD f s e t env) op env (i+1) l s 0 with
   | none=>rw [hk] at h;cases h
   | some q =>
    obtain ⟨vs1,s1,e1⟩:=q;rw [hk] at h;simp only [Ai2,AiZ,Ai0] at h;obtain ⟨rfl,rfl,rfl⟩:=h;obtain ⟨k,c,u,T,h1,h2,h3,h4,h5,h6,ps,h7,h8,h9,h10,F,h11⟩:=M2 ih op env e he l (i+1) s vs1 s1 hk hg.2 (by omega);refine ⟨k,c,u,T,h1,?_,?_,?_,h5,by simp [h6],.nil::ps,by simp [h7],?_,?_,?_,F,?_⟩
    ·rw [Tm.surfL,Tm.innL,if_pos hb,if_pos hb]
     have:=Wj 0 k t.wt (Tm.innL op (i+1) l)
     rw [Nat.zero_mul,Ajy,Ajy] at this;omega
    ·rw [GU,if_pos hb];omega
    ·intro hk0;rw [Tm.surfL,RV.vszL,if_pos hb,if_pos hb]
     have:=h4 hk0
     omega
    ·intro j x hj hbj;cases j with
     | zero =>simp only [Ajb,AiZ] at hj;subst hj;exact ⟨rfl,rfl⟩
     | succ j =>rw [Ajc] at hj;rw [Ajc,Ajc];exact h8 j x hj (by rwa [show i+1+j=i+(j+1) by omega])
    ·intro j p r hbj hp hr;cases j with
     | zero=>rw [AjB] at hbj;omega
     | succ j =>rw [Ajc] at hp hr;exact h9 j p r (by rwa [show i+1+j=i+(j+1) by omega]) hp hr
    ·intro j x r hj hbj hr;cases j with
     | zero=>rw [AjB] at hbj;omega
     | succ j =>rw [Ajc] at hj hr;exact h10 j x r hj (by rwa [show i+1+j=i+(j+1) by omega]) hr
    ·intro g hgF m hm;rw [Pd,if_pos hb,h11 g hgF m hm];rfl
  ·rw [if_neg hb] at h;split at h
   ·cases h
   ·rename_i v s1 e1 hev;cases hk:Bf (fun s e t=>AD f s e t env) op env (i+1) l s1 e1 with
    | none=>rw [hk] at h;cases h
    | some q =>
     obtain ⟨vs1,s2,e2⟩:=q;rw [hk] at h;simp only [Ai2,AiZ,Ai0] at h;obtain ⟨rfl,rfl,rfl⟩:=h;have h0:=Hn _ (fun s e t v s' h=>CW h) op env l _ _ _ _ _ hk;subst h0;obtain ⟨k1,c1,u1,T1,a1,a2,a3,p1,a4,F1,a5⟩:=ih s t env v s1 hev hg.1 (by omega) e he;obtain ⟨k,c,u,T,h1,h2,h3,h4,h5,h6,ps,h7,h8,h9,h10,F,h11⟩:=M2 ih op env e he l (i+1) s1 vs1 s2 hk hg.2 (by omega);have ac:=a2.le;have ap:=a2.p;have aq:=a2.q;refine ⟨k1+k,c1+c,u1+u,T1+T,by omega,?_,?_,?_,by omega,by simp [h6],p1::ps,by simp [h7],?_,?_,?_,F1+F,?_⟩
     ·rw [Tm.surfL,Tm.innL,if_neg hb,if_neg hb]
      have:=Wj k1 k t.inn (Tm.innL op (i+1) l)
      omega
     ·rw [GU,if_neg hb];omega
     ·intro hk0;rw [Tm.surfL,RV.vszL,if_neg hb,if_neg hb]
      have:=h4 (by omega)
      have:=a2.v (by omega)
      omega
     ·intro j x hj hbj;cases j with
      | zero=>rw [AjB] at hbj;exact absurd hbj hb
      | succ j =>rw [Ajc] at hj;rw [Ajc,Ajc];exact h8 j x hj (by rwa [show i+1+j=i+(j+1) by omega])
     ·intro j p r hbj hp hr;cases j with
      | zero =>simp only [Ajb,AiZ] at hp hr;subst hp hr;exact a4
      | succ j =>rw [Ajc] at hp hr;exact h9 j p r (by rwa [show i+1+j=i+(j+1) by omega]) hp hr
     ·intro j x r hj hbj hr;cases j with
      | zero =>simp only [Ajb,AiZ] at hj hr;subst hj hr;exact ⟨_,_,hev⟩
      | succ j =>rw [Ajc] at hj hr;exact h10 j x r hj (by rwa [show i+1+j=i+(j+1) by omega]) hr
     ·intro g hgF m hm;rw [Pd,if_neg hb,a5 g (by omega) m (Mp hm)];simp only;rw [h11 g (by omega) _ (Ix hm),E9];rfl
theorem HT {B:Nat} {p:PV} {r:RV} (h:Rel B p r) (h1:r.op≠1):∃n' kp ts e env,p=.mk r.op r.n kp (.mk r.op n' ts) e/\ar r.op=some ts.length/\kp.length=ts.length/\r.k.length=ts.length /\
  (∀i p' r',Ak r.op i=0->kp[i]?=some p'->r.k[i]?=some r'->Rel B p' r') /\
  (∀i b,0<Ak r.op i->ts[i]?=some b->(b.good/\b.wt<=B)/\kp[i]?=some .nil/\r.k[i]?=some (.clo env b))/\Gc B e env:=by
 cases h with
 | var n=>exact absurd rfl h1
 | node op n n' kp kr ts e env h1 har hl hl2 hk hb hel he=>exact ⟨n',kp,ts,e,env,rfl,har,hl,hl2,hk,hb,hel,he⟩
def Og {m:M3} (h:m.e=0):Gg m 0 0=m:=by obtain ⟨a,b,c⟩:=m;simp only at h;subst h;simp [Gg]
def iA {op:Int} {r:Nat} (h:ar op=some r):r<=4:=by
 unfold ar at h
 repeat' split at h
 all_goals first | (simp only [AiZ] at h;omega) | cases h
def AfY (g:Nat) (n:Int) (o0 n0:Int) (k0:List PV) (t0:Tm) (e0:List PV) (x:PV) (t:Tm) (e:List PV) (m:M3):stP (g+1) (.mk 5 n [.mk o0 n0 k0 t0 e0,x] t e) m=if o0=4 then opP g (.mk o0 n0 k0 t0 e0) 1 [x] m else some (.nil,m):=by rw [stP.eq_def];simp only [if_true]
def Acr (g:Nat) (op n:Int) (h:op=8\/op=9) (n0:Int) (a x y:PV) (t0:Tm) (e0:List PV) (t:Tm) (e:List PV) (m:M3):stP (g+1) (.mk op n [.mk 7 n0 [a,x,y] t0 e0] t e) m=some (if op=8 then x else y,m):=by rw [stP.eq_def];simp only;rw [if_neg (by omega),if_pos h,if_true]
def yG (g:Nat) (n:Int) (p0 z p2:PV) (n3:Int) (k3:List PV) (t3:Tm) (e3:List PV) (t:Tm) (e:List PV) (m:M3):stP (g+1) (.mk 13 n [p0,z,p2,.mk 11 n3 k3 t3 e3] t e) m=some (z,m):=by rw [stP.eq_def];simp only [Int.reduceEq,if_false,if_true,or_self]
def vY {g:Nat} {n:Int} {p0 z p2:PV} {n3:Int} {x y:PV} {t3:Tm} {e3:List PV} {t:Tm} {e:List PV} {m m':M3} (hc:ctP g (.mk 13 n [.nil,z,.nil,x] t e) m=some (y,m')):stP (g+1) (.mk 13 n [p0,z,p2,.mk 12 n3 [x] t3 e3] t e) m=opP g (.mk 13 n [p0,z,p2,.mk 12 n3 [x] t3 e3] t e) 2 [x,y] m':=by rw [stP.eq_def];simp only [Int.reduceEq,if_false,if_true,or_self,hc]
def tX (g:Nat) (n:Int) (p0 z p2:PV) (o3 n3:Int) (k3:List PV) (t3:Tm) (e3:List PV) (t:Tm) (e:List PV) (m:M3) (h11:o3≠11) (h12:o3≠12):stP (g+1) (.mk 13 n [p0,z,p2,.mk o3 n3 k3 t3 e3] t e) m=some (.nil,m):=by rw [stP.eq_def];simp only [Int.reduceEq,if_false,if_true,or_self,h11,h12]
def AcE (g:Nat) (n:Int) (n0:Int) (x:PV) (t0:Tm) (e0:List PV) (t:Tm) (e:List PV) (m:M3):stP (g+1) (.mk 30 n [.mk 19 n0 [x] t0 e0] t e) m=some (x,m):=by rw [stP.eq_def];simp only [Int.reduceEq,if_false,if_true,or_self]
def vO (g:Nat) (n:Int) (o0 n0:Int) (k0:List PV) (t0:Tm) (e0:List PV) (t:Tm) (e:List PV) (m:M3) (h:o0≠19):stP (g+1) (.mk 30 n [.mk o0 n0 k0 t0 e0] t e) m=some (.nil,m):=by rw [stP.eq_def];simp only [Int.reduceEq,if_false,if_true,or_self,h]
def AbV (g:Nat) (n:Int) (n0:Int) (x:PV) (t0:Tm) (e0:List PV) (t:Tm) (e:List PV) (m:M3):stP (g+1) (.mk 19 n [.mk 30 n0 [x] t0 e0] t e) m=some (x,m):=by rw [stP.eq_def];simp only [Int.reduceEq,if_false,if_true,or_self]
def uC (g:Nat) (n:Int) (o0 n0:Int) (k0:List PV) (t0:Tm) (e0:List PV) (t:Tm) (e:List PV) (m:M3) (h:o0≠30):stP (g+1) (.mk 19 n [.mk o0 n0 k0 t0 e0] t e) m=some (.nil,m):=by rw [stP.eq_def];simp only [Int.reduceEq,if_false,if_true,or_self,h]
def HB (op n:Int) (ps:List PV) (t:Tm) (e:List PV) (v':PV) (k T:Nat):Prop:=∃F,∀g,F<=g->∀m,MOk m k T->ctP g (.mk op n ps t e) m=some (v',Gg m k T)
def AbA {op n:Int} {ps:List PV} {t:Tm} {e:List PV} (h:C4 op=false):HB op n ps t e (.mk op n ps t e) 0 0:=by refine ⟨1,fun g hg m hm=>?_⟩;obtain ⟨g,rfl⟩:=psc g (by omega);rw [ctP,h,Og hm.e];rfl
def Nc {op n:Int} {ps:List PV} {t:Tm} {e:List PV} (h:C4 op=true) (hs:∃F,∀g,F<=g->∀m,stP g (.mk op n ps t e) m=some (.nil,m)):HB op n ps t e (.mk op n ps t e) 0 1:=by obtain ⟨F,hs⟩:=hs;refine ⟨F+2,fun g hg m hm=>?_⟩;obtain ⟨g,rfl⟩:=psc g (by omega);rw [ctP,if_pos h,if_neg (fun h=>h hm.e),if_neg (by omega),MD (k:=0) (T:=0) hm];simp only;rw [if_neg (by simp [Gg]),hs g (by omega)]
theorem Gp {op n:Int} {ps:List PV} {t:Tm} {e:List PV} {v':PV} {k T:Nat} (h:C4 op=true) (hv:v'≠.nil) (hs:∃F,∀g,F<=g->∀m,MOk m k T->stP g (.mk op n ps t e) m=some (v',Gg m k T)):HB op n ps t e v' (k+1) (1+T):=by
 obtain ⟨F,hs⟩:=hs;refine ⟨F+2,fun g hg m hm=>?_⟩;obtain ⟨g,rfl⟩:=psc g (by omega);have hm':MOk (Gg m 0 1) k T:=Ix (k1:=0) (k2:=k) ⟨hm.e,hm.w,hm.w2,by have:=hm.s;omega,hm.s2⟩;rw [ctP,if_pos h,if_neg (fun h=>h hm.e),if_neg (by omega),MD hm];simp only;rw [if_neg (by simp [Gg]),hs g (by omega) _ hm',E9];have h1:=hm.s;have h2:=hm.s2;cases v' with
 | nil=>exact absurd rfl hv
 | mk o1 n1 k1 t1 e1 =>simp only;rw [if_neg (by simp [Gg]),if_neg (by simp only [Gg];omega),if_neg (by simp only [Gg];omega)];simp only [Gg,AiZ,Ai0,true_and,M3.mk.injEq,and_true];omega
def SF {B:Nat} {op n n':Int} {ps:List PV} {ts:List Tm} {e:List PV} {i:Nat} {b:Tm} {l:List PV} {v:RV} {k T:Nat} (hb:ts[i]?=some b) (hl:l.length<=2) (h:ZV B (l.reverse++e) b v k T) :
  ∃v',Rel B v' v/\∃F,∀g,F<=g->∀m,MOk m k T->opP g (.mk op n ps (.mk op n' ts) e) i l m=some (v',Gg m k T):=by
 obtain ⟨v',hr,F,h⟩:=h;refine ⟨v',hr,F+10,fun g hg m hm=>?_⟩;obtain ⟨g,rfl⟩:=psc g (by omega);rw [opP];rw [if_neg (by omega),hb];exact h g (by omega) m hm
def KJ {B:Nat} {p:PV} {r:RV} (h:Rel B p r):p≠.nil:=by obtain ⟨op,n,k,t,e,rfl,_⟩:=Me h;exact fun h=>by cases h
def M5 {B f:Nat} (ih:VH B f) {e l:List PV} {env l':List RV} (he:Gc B e env) (hl:l.length=l'.length) (hr:∀(i:Nat) p r,l[i]?=some p->l'[i]?=some r->Rel B p r) {b:Tm} (hg:b.good) (hw:b.wt<=B) {s s':Int} {v:RV}
  (h:AD f s 0 b (env++l')=some (v,s',0)):∃k c u T:Nat,s'=s+k/\Cost b v k c u/\T<=c+u+2 * k/\ZV B (l.reverse++e) b v k T :=
 ih s b _ v s' h hg hw _ (S6 he hl hr)
def PP {b:Tm} {v:RV} {k c u:Nat} (h:Cost b v k c u):c<=(k+1) * b.wt:=by have h1:=h.le;have h2:=L1 b;have h3:k * b.inn<=k * b.wt:=Nat.mul_le_mul_left _ (by omega);rw [Nat.add_mul,Nat.one_mul];omega
theorem jE {B:Nat}:∀f,(∀g,g<f->VH B g)->∀(s:Int) (n n0:Int) (env:List RV) (b0 b2:Tm) (vz vn w:RV) (s':Int) (e:List PV) (pz pn:PV) (n':Int) (ts:List Tm),headR f s 0 (.node 13 n0 [.clo env b0,vz,.clo env b2,vn])=some (w,s',0) ->
  Rel B pz vz->Rel B pn vn->Gc B e env->ts[2]?=some b2->b2.good->b2.wt<=B->(∀pw:PV,Rel B (.mk 13 n [.nil,pz,.nil,pn] (.mk 13 n' ts) e) (.node 13 n0 [.clo env b0,vz,.clo env b2,vn])) ->
  (∀(px:PV) (vx:RV),Rel B px vx->Rel B (.mk 13 n [.nil,pz,.nil,px] (.mk 13 n' ts) e) (.node 13 0 [.clo env b0,vz,.clo env b2,vx])) ->
  ∃k c u T:Nat,s'=s+k/\c<=k * b2.wt/\5 * u<=3 * c+10 * k/\T<=c+u+2 * k+(if k=0 then 1 else 0)/\(k=0->c=0/\u=0/\w=.node 13 n0 [.clo env b0,vz,.clo env b2,vn]) /\
   ∃w',Rel B w' w/\HB 13 n [.nil,pz,.nil,pn] (.mk 13 n' ts) e w' k T:=by
 intro f
 induction f with
 | zero=>intro _ s n n0 env b0 b2 vz vn w s' e pz pn n' ts h;rw [headR] at h;cases h
 | succ f ihf =>
  intro ih s n n0 env b0 b2 vz vn w s' e pz pn n' ts h hz hn he hb2 hg2 hw2 hself hless;obtain ⟨V,hV⟩:∃V,V=RV.node 13 n0 [.clo env b0,vz,.clo env b2,vn]:=⟨_,rfl⟩;have hop:V.op=13:=by rw [hV];rfl
  have hk0:V.k[0]?=some (.clo env b0):=by rw [hV];rfl
  have hk1:V.k[1]?=some vz:=by rw [hV];rfl
  have hk2:V.k[2]?=some (.clo env b2):=by rw [hV];rfl
  have hk3:V.k[3]?=some vn:=by rw [hV];rfl
  rw [<- hV] at h hself ⊢;rw [headR] at h;rw [if_neg (by simp)] at h;split at h
  ·cases h
  simp only [hop,if_true] at h;rw [if_neg (by decide),if_neg (by decide),if_neg (by decide),if_neg (by decide),hk0,hk1,hk2,hk3] at h;simp only at h;obtain ⟨on,nn,kn,tn,en,hpn,hon,hnn⟩:=Me hn;by_cases h11:vn.op=11
  ·rw [if_pos h11] at h;by_cases hs:s+1<=1000
   ·rw [if_pos hs] at h;simp only [AiZ,Ai0] at h;obtain ⟨rfl,rfl,_⟩:=h;refine ⟨1,0,0,1,rfl,by omega,by omega,by simp,fun h=>by omega,pz,hz,Gp (k:=0) (T:=0) (by decide) (KJ hz) ⟨1,fun g hg m hm=>?_⟩⟩;obtain ⟨g,rfl⟩:=psc g (by omega);rw [hpn,<- hon,h11,yG,Og hm.e]
   ·rw [if_neg hs] at h;simp at h
  ·rw [if_neg h11] at h;by_cases h12:vn.op=12
   ·rw [if_pos h12] at h;by_cases hs:s+1<=1000
    ·rw [if_pos hs] at h;have hvn1:vn.op≠1:=by omega
     obtain ⟨nn',kp,ts',en',envn,hpn',har,hkl,hrl,hkk,_,_⟩:=HT hn hvn1;rw [h12,show ar 12=some 1 by decide,AiZ] at har
     obtain ⟨vx,hvx⟩:=Fg (l:=vn.k) (by omega);obtain ⟨px,hpx⟩:=Fg (l:=kp) (by omega);have hx:Rel B px vx:=hkk 0 px vx (by rw [h12];decide) (by rw [hpx];rfl) (by rw [hvx];rfl);have hv0:(RV.k vn)[0]?=some vx:=by rw [hvx];rfl
     obtain ⟨on2,nn2,kn2,envn2,bn2⟩:=vn;simp only [RV.k] at hv0 h;rw [hv0] at h;simp only at h;split at h
     ·cases h
     rename_i vh s2 e2 hh;split at h
     ·cases h
     rw [show (RV.clo env b2).env=env from rfl,show (RV.clo env b2).b=b2 from rfl] at h
     have he2:=CW h;subst he2;obtain ⟨k1,c1,u1,T1,a1,a2,a3,a4,a5,w1,a6,F1,a7⟩:=ihf (fun g hg=>ih g (by omega)) (s+1) n 0 env b0 b2 vz vx vh s2 e pz px n' ts hh hz hx he hb2 hg2 hw2 (fun _=>hless px vx hx) hless;obtain ⟨k2,c2,u2,T2,d1,d2,d3,d4⟩:=M5 (ih f (by omega)) (l:=[px,w1]) (l':=[vx,vh]) he rfl (by
      intro i p r hp hr
      match i with
      | 0=>simp only [Ajb,AiZ] at hp hr;subst hp hr;exact hx
      | 1=>simp only [Ajc,Ajb,AiZ] at hp hr;subst hp hr;exact a6
      | i+2=>simp at hp) hg2 hw2 h
     obtain ⟨w2,q1,F2,q2⟩:=SF (op:=13) (n:=n) (n':=n') (ps:=[.nil,pz,.nil,pn]) hb2 (by simp) d4;have hd:=PP d2;have hdp:=d2.p;refine ⟨k1+k2+1,c1+c2,u1+u2,1+(T1+T2),by omega,?_,by omega,?_,fun h=>by omega,w2,q1,Gp (k:=k1+k2) (T:=T1+T2) (by decide) (KJ q1) ⟨F1+F2+2,fun g hg m hm=>?_⟩⟩
     ·have e1:(k1+k2+1) * b2.wt=k1 * b2.wt+(k2+1) * b2.wt:=by rw [show k1+k2+1=k1+(k2+1) by omega,Nat.add_mul]
      omega
     ·rw [if_neg (by omega)];split at a4<;>omega
     ·obtain ⟨g,rfl⟩:=psc g (by omega);simp only [RV.op] at h12;subst h12;rw [hpn',hpx];simp only [RV.op,RV.n];rw [vY (a7 g (by omega) m (Mp hm))];rw [hpn',hpx] at q2;simp only [RV.op,RV.n] at q2;rw [q2 g (by omega) _ (Ix hm),E9]
    ·rw [if_neg hs] at h;simp at h
   ·rw [if_neg h12] at h;simp only [AiZ,Ai0] at h;obtain ⟨rfl,rfl,_⟩:=h;refine ⟨0,0,0,1,by omega,by omega,by omega,by simp,fun _=>⟨rfl,rfl,rfl⟩,_,hself pz,Nc (by decide) ⟨1,fun g hg m=>?_⟩⟩;obtain ⟨g,rfl⟩:=psc g (by omega);rw [hpn,tX _ _ _ _ _ _ _ _ _ _ _ _ _ (by rw [<- hon];exact h11) (by rw [<- hon];exact h12)]
def DR {op n:Int} {ks:List Tm} {e ps:List PV} {k1 T1 kh Th:Nat} {v':PV} (h1:op≠1) (hks:ks.length<=4) (hK:∃F,∀g,F<=g->∀m,MOk m k1 T1->Pd (fun t m=>PS g e t m) op 0 ks m=some (ps,Gg m k1 T1)) (hH:HB op n ps (.mk op n ks) e v' kh Th) :
  ∃F,∀g,F<=g->∀m,MOk m (k1+kh) (1+(T1+Th))->PS g e (.mk op n ks) m=some (v',Gg m (k1+kh) (1+(T1+Th))):=by
 obtain ⟨F1,hK⟩:=hK;obtain ⟨F2,hH⟩:=hH;refine ⟨F1+F2+10,fun g hg m hm=>?_⟩;obtain ⟨g,rfl⟩:=psc g (by omega);have hm':MOk (Gg m 0 1) (k1+kh) (T1+Th):=Ix (k1:=0) ⟨hm.e,hm.w,hm.w2,by have:=hm.s;omega,hm.s2⟩;rw [PS,MD hm];simp only;rw [if_neg h1,if_neg (by omega),if_neg (by simp [Gg]),hK g (by omega) _ (Mp hm')];simp only;rw [if_neg (by simp [Gg]),hH g (by omega) _ (Ix hm'),E9,E9];congr 3
 all_goals omega
def pD {op:Int} (h:¬ (op=5\/op=8\/op=9\/op=13\/op=19\/op=30)):C4 op=false:=by have h1:¬ op=5:=fun e=>h (.inl e);have h2:¬ op=8:=fun e=>h (.inr (.inl e));have h3:¬ op=9:=fun e=>h (.inr (.inr (.inl e)));have h4:¬ op=13:=fun e=>h (.inr (.inr (.inr (.inl e))));have h5:¬ op=19:=fun e=>h (.inr (.inr (.inr (.inr (.inl e)))));have h6:¬ op=30:=fun e=>h (.inr (.inr (.inr (.inr (.inr e)))));simp [C4,h1,h2,h3,h4,h5,h6]
theorem Q7 (B:Nat):∀f,VH B f:=by
 intro f
 induction f using Nat.strongRecOn with
 | _ f ih =>
 intro s t env v s' h hg hw e he;cases f with
 | zero=>rw [AD] at h;cases h
 | succ f =>
 obtain ⟨op,n,ks⟩:=t;rw [AD] at h;rw [if_neg (by simp)] at h;split at h
 ·cases h
 rename_i hel;rw [Tm.good] at hg;obtain ⟨hgn,hgl⟩:=hg;have har:=hgn.1;have hk4:=iA har;rw [Tm.wt] at hw;by_cases h1:op=1
 ·subst h1;rw [if_pos rfl] at h;have hks:ks=[]:=by
   rw [show ar 1=some 0 by decide,AiZ] at har
   exact Aja har.symm
  subst hks;have hn:=hgn.2.1 rfl;have hrun:∃F,∀g,F<=g->∀m,MOk m 0 1->PS g e (.mk 1 n []) m=some (FY e n,Gg m 0 1):=by refine ⟨e.length+10,fun g hg m hm=>?_⟩;obtain ⟨g,rfl⟩:=psc g (by omega);rw [PS,MD (k:=0) (T:=0) hm];simp only;rw [if_pos trivial,if_pos ⟨by omega,by omega,by omega⟩]
  have hcost:∀v:RV,Cost (.mk 1 n []) v 0 1 0:=fun v=>⟨by simp [Tm.surf,Tm.surfL],by omega,Nat.le_trans (Nat.add_le_add_left (Ty _ _) _) (by omega),fun _=>by have:=Xw v;simp only [Tm.surf,Tm.surfL];omega⟩;by_cases hlt:n<env.length
  ·rw [if_pos hlt,if_pos hn.1] at h;cases hr:env[((env.length:Int) - 1 - n).toNat]? with
   | none=>rw [hr] at h;cases h
   | some r =>rw [hr] at h;simp only [Ai2,AiZ,Ai0] at h;obtain ⟨rfl,rfl,_⟩:=h;exact ⟨0,1,0,1,by omega,hcost _,by omega,_,mS he hn.1 hlt hr,hrun⟩
  ·rw [if_neg hlt] at h;split at h
   ·simp only [AiZ,Ai0] at h;obtain ⟨rfl,rfl,_⟩:=h;refine ⟨0,1,0,1,by omega,hcost _,by omega,_,?_,hrun⟩;rw [FY,if_neg (by rw [he.1];exact hlt),he.1];exact .var _
   ·cases h
 rw [if_neg h1] at h;split at h
 ·cases h
 split at h
 ·cases h
 split at h
 ·cases h
 rename_i vs s1 e1 hk;have he1:=Hk h;subst he1;obtain ⟨k1,c1,u1,T1,q1,q2,q3,q4,q5,q6,ps,q7,q8,q9,q10,q11⟩:=M2 (ih f (by omega)) op env e he ks 0 s vs s1 hk hgl (by omega);simp only [Ajy] at q8 q9 q10;have hnode:Rel B (.mk op n ps (.mk op n ks) e) (.node op n vs):=by
  refine .node op n n ps vs ks e env h1 har q7 q6 (fun i p r=>q9 i p r) ?_ he.1 he.2;intro i b hb hi;obtain ⟨a1,a2⟩:=q8 i b hi hb;have hm:=Aje hi
  have:=Cb hm
  exact ⟨⟨OE hgl hm,by omega⟩,a1,a2⟩
 obtain ⟨V,hV⟩:∃V,V=RV.node op n vs:=⟨_,rfl⟩;have hVo:V.op=op:=by rw [hV];rfl
 have hVk:V.k=vs:=by rw [hV];rfl
 have hVz:V.vsz=1+RV.vszL op 0 vs:=by rw [hV,RV.node,RV.vsz]
 rw [<- hV] at h hnode;cases f with
 | zero=>rw [headR] at h;cases h
 | succ f =>
 have h00:=h;rw [headR] at h;rw [if_neg (by simp)] at h;split at h
 ·cases h
 by_cases hr:¬ (op=5\/op=8\/op=9\/op=13\/op=19\/op=30)
 ·rw [hVo,if_neg (by omega),if_neg (by omega),if_neg (by omega),if_neg (by omega),if_neg (by omega)] at h;simp only [AiZ,Ai0] at h;obtain ⟨rfl,rfl,_⟩:=h;refine ⟨k1,1+c1,u1,1+T1,q1,⟨?_,by omega,Nat.le_trans (Nat.add_le_add_left (Ty _ _) _) (by omega),fun h=>?_⟩,by omega,_,hnode,DR (kh:=0) (Th:=0) h1 (by omega) q11 (AbA (pD hr))⟩
  ·rw [Tm.surf,Tm.inn];omega
  ·have:=q4 h;rw [Tm.surf,hVz];omega
 have hrule:C4 op=true:=by
  have:op=5\/op=8\/op=9\/op=13\/op=19\/op=30:=Decidable.byContradiction hr
  rcases this with rfl | rfl | rfl | rfl | rfl | rfl<;>rfl
 by_cases h5:op=5
 ·subst h5;obtain ⟨m0,a,b,x,rfl⟩:=hgn.2.2.2.1 rfl;obtain ⟨v0,vx,rfl⟩:=RJ q6;obtain ⟨p0,px,rfl⟩:=RJ q7;obtain ⟨t1,t2,hv0⟩:=q10 0 _ v0 rfl (by decide) rfl;obtain ⟨va,rfl⟩:=Wx hv0;have r0:=q9 0 p0 _ (by decide) rfl rfl;have rx:=q9 1 px vx (by decide) rfl rfl;obtain ⟨n',kp,ts,e0,env0,hp0,b1,b2,b3,b4,b5,b6⟩:=HT r0 (by simp [RV.node,RV.op]);simp only [RV.node,RV.op,RV.n,RV.k] at hp0 b1 b3 b4 b5;rw [show ar 4=some 2 by decide,AiZ] at b1
  obtain ⟨a',b',rfl⟩:=RJ b1.symm;obtain ⟨⟨g1,g2⟩,_,g3⟩:=b5 1 b' (by decide) rfl;simp only [Ajc,Ajb,AiZ,RV.clo,RV.mk.injEq,true_and] at g3;obtain ⟨rfl,rfl⟩:=g3;rw [hVo,if_pos rfl,hVk] at h;simp only [Ajc,Ajb] at h;rw [show (RV.node 4 m0 [va,RV.clo env b]).op=4 from rfl,if_pos rfl] at h
  split at h
  ·rw [show (RV.node 4 m0 [va,RV.clo env b]).k[1]?=some (RV.clo env b) from rfl] at h
   simp only at h;split at h
   ·cases h
   rw [show (RV.clo env b).env=env from rfl,show (RV.clo env b).b=b from rfl] at h
   obtain ⟨k2,c2,u2,T2,d1,d2,d3,d4⟩:=M5 (ih f (by omega)) (l:=[px]) (l':=[vx]) b6 rfl (by
    intro i p r hp hr
    match i with
    | 0=>simp only [Ajb,AiZ] at hp hr;subst hp hr;exact rx
    | i+1=>simp at hp) g1 g2 h
   obtain ⟨w2,y1,F2,y2⟩:=SF (op:=4) (n:=m0) (n':=n') (ps:=kp) (ts:=[a',b]) (i:=1) (b:=b) (l:=[px]) rfl (by simp) d4;have hd:=PP d2;have hdp:=d2.p;have hiw:b.wt<=Tm.innL 5 0 [.mk 4 m0 [a,b],x]:=by
    simp only [Tm.innL,Tm.inn];rw [if_neg (show ¬ 0<Ak 5 0 by decide),if_neg (show ¬ 0<Ak 4 0 by decide),if_pos (show 0<Ak 4 (0+1) by decide)]
    omega
   refine ⟨k1+(k2+1),1+(c1+c2),u1+u2,1+(T1+(1+T2)),by omega,⟨?_,by omega,Nat.le_trans (Nat.add_le_add_left (Ty _ _) _) (by omega),fun h=>by omega⟩,by omega,w2,y1,DR h1 (by simp) q11 (Gp (k:=k2) (T:=T2) hrule (KJ y1) ⟨F2+1,fun g hg m hm=>?_⟩)⟩
   ·rw [Tm.surf,Tm.inn];have e1:(k1+(k2+1)) * Tm.innL 5 0 [.mk 4 m0 [a,b],x]=k1 * Tm.innL 5 0 [.mk 4 m0 [a,b],x]+(k2+1) * Tm.innL 5 0 [.mk 4 m0 [a,b],x]:=by rw [Nat.add_mul]
    have e2:(k2+1) * b.wt<=(k2+1) * Tm.innL 5 0 [.mk 4 m0 [a,b],x]:=Nat.mul_le_mul_left _ hiw;omega
   ·obtain ⟨g,rfl⟩:=psc g (by omega);rw [hp0,AfY,if_pos rfl];exact y2 g (by omega) m hm
  ·simp at h
 by_cases h89:op=8\/op=9
 ·obtain ⟨m0,a,x,y,rfl⟩:=hgn.2.2.2.2.1 h89;obtain ⟨v0,rfl⟩:=Fg q6;obtain ⟨p0,rfl⟩:=Fg q7;have hb0:Ak op 0=0:=by rcases h89 with rfl | rfl<;>decide
  obtain ⟨t1,t2,hv0⟩:=q10 0 _ v0 rfl hb0 rfl;obtain ⟨va,vx,vy,rfl⟩:=fP hv0;have r0:=q9 0 p0 _ hb0 rfl rfl;obtain ⟨n',kp,ts,e0,env0,hp0,b1,b2,b3,b4,b5,b6⟩:=HT r0 (by simp [RV.node,RV.op]);simp only [RV.node,RV.op,RV.n,RV.k] at hp0 b1 b3 b4 b5;rw [show ar 7=some 3 by decide,AiZ] at b1
  obtain ⟨pa,px,py,rfl⟩:=Ae1 (b2.trans b1.symm);have rx:=b4 1 px vx (by decide) rfl rfl;have ry:=b4 2 py vy (by decide) rfl rfl;rw [hVo,if_neg h5,if_pos h89,hVk] at h;simp only [Ajb] at h;rw [show (RV.node 7 m0 [va,vx,vy]).op=7 from rfl,if_pos rfl] at h
  split at h
  ·obtain ⟨w',hw',hvv⟩:∃w',w'=(if op=8 then px else py)/\Rel B w' v/\s'=s1+1:=by
    rcases h89 with rfl | rfl
    ·rw [show (RV.node 7 m0 [va,vx,vy]).k[(1+8 - 8:Int).toNat]?=some vx from rfl] at h
     simp only [Ai2,AiZ,Ai0] at h;obtain ⟨rfl,rfl,_⟩:=h;exact ⟨px,rfl,rx,rfl⟩
    ·rw [show (RV.node 7 m0 [va,vx,vy]).k[(1+9 - 8:Int).toNat]?=some vy from rfl] at h
     simp only [Ai2,AiZ,Ai0] at h;obtain ⟨rfl,rfl,_⟩:=h;exact ⟨py,rfl,ry,rfl⟩
   obtain ⟨hrel,rfl⟩:=hvv;refine ⟨k1+1,1+c1,u1,1+(T1+1),by omega,⟨?_,by omega,Nat.le_trans (Nat.add_le_add_left (Ty _ _) _) (by omega),fun h=>by omega⟩,by omega,w',hrel,DR h1 (by simp) q11 (Gp (k:=0) (T:=0) hrule (KJ hrel) ⟨1,fun g hg m hm=>?_⟩)⟩
   ·rw [Tm.surf,Tm.inn,Nat.add_mul];omega
   ·obtain ⟨g,rfl⟩:=psc g (by omega);rw [hp0,Acr _ _ _ h89,Og hm.e,hw']
  ·simp at h
 by_cases h30:op=30
 ·subst h30;rw [show ar 30=some 1 by decide,AiZ] at har
  obtain ⟨x,rfl⟩:=Fg har.symm;obtain ⟨v0,rfl⟩:=Fg q6;obtain ⟨p0,rfl⟩:=Fg q7;have r0:=q9 0 p0 v0 (by decide) rfl rfl;have hx:=hgn.2.2.2.2.2.2.1 rfl x (by simp);rw [hVo,if_neg h5,if_neg h89,if_pos rfl,hVk] at h;simp only [Ajb] at h;simp only [GU] at q3;rw [if_neg (by decide)] at q3;by_cases h19:v0.op=19
  ·rw [if_pos h19] at h;obtain ⟨n',kp,ts,e0,env0,hp0,b1,b2,b3,b4,b5,b6⟩:=HT r0 (by rw [h19];decide);rw [h19,show ar 19=some 1 by decide,AiZ] at b1
   obtain ⟨y,hy⟩:=Fg (b3.trans b1.symm);obtain ⟨py,rfl⟩:=Fg (b2.trans b1.symm);have ry:=b4 0 py y (by rw [h19];decide) rfl (by rw [hy];rfl);rw [hy] at h;simp only [Ajb,Ai2] at h;split at h
   ·simp only [AiZ,Ai0] at h;obtain ⟨rfl,rfl,_⟩:=h;refine ⟨k1+1,1+c1,u1,1+(T1+1),by omega,⟨?_,by omega,Nat.le_trans (Nat.add_le_add_left (Ty _ _) _) (by omega),fun h=>by omega⟩,by omega,py,ry,DR h1 (by simp) q11 (Gp (k:=0) (T:=0) hrule (KJ ry) ⟨1,fun g hg m hm=>?_⟩)⟩
    ·rw [Tm.surf,Tm.inn,Nat.add_mul];omega
    ·obtain ⟨g,rfl⟩:=psc g (by omega);rw [hp0,h19,AcE,Og hm.e]
   ·simp at h
  ·rw [if_neg h19] at h;simp only [AiZ,Ai0] at h;obtain ⟨rfl,rfl,_⟩:=h;obtain ⟨o0,n0,k0,t0,e0,hp0,ho0,_⟩:=Me r0;have hns:2<=sl x v0:=by
    unfold sl;rw [if_neg (fun h=>h19 h.2),if_neg (fun h=>hx h.1)];split<;>omega
   have hn0:sl (.mk 30 n [x]) V=0:=by unfold sl;rw [if_neg (by simp [Tm.op]),if_pos ⟨rfl,hVo⟩]
   refine ⟨k1,1+c1,u1+1,1+(T1+1),q1,⟨?_,by omega,by rw [hn0];omega,fun h=>?_⟩,by omega,_,hnode,DR (kh:=0) h1 (by simp) q11 (Nc hrule ⟨1,fun g hg m=>?_⟩)⟩
   ·rw [Tm.surf,Tm.inn];omega
   ·have:=q4 h;rw [Tm.surf,hVz];omega
   ·obtain ⟨g,rfl⟩:=psc g (by omega);rw [hp0,vO _ _ _ _ _ _ _ _ _ _ (by rw [<- ho0];exact h19)]
 by_cases h19:op=19
 ·subst h19;rw [show ar 19=some 1 by decide,AiZ] at har
  obtain ⟨x,rfl⟩:=Fg har.symm;obtain ⟨v0,rfl⟩:=Fg q6;obtain ⟨p0,rfl⟩:=Fg q7;have r0:=q9 0 p0 v0 (by decide) rfl rfl;have hx:=hgn.2.2.2.2.2.1 rfl x (by simp);rw [hVo,if_neg h5,if_neg h89,if_neg h30,if_pos rfl,hVk] at h;simp only [Ajb] at h;simp only [GU] at q3;rw [if_neg (by decide)] at q3;by_cases hv30:v0.op=30
  ·rw [if_pos hv30] at h;obtain ⟨n',kp,ts,e0,env0,hp0,b1,b2,b3,b4,b5,b6⟩:=HT r0 (by rw [hv30];decide);rw [hv30,show ar 30=some 1 by decide,AiZ] at b1
   obtain ⟨y,hy⟩:=Fg (b3.trans b1.symm);obtain ⟨py,rfl⟩:=Fg (b2.trans b1.symm);have ry:=b4 0 py y (by rw [hv30];decide) rfl (by rw [hy];rfl);rw [hy] at h;simp only [Ajb,Ai2] at h;split at h
   ·simp only [AiZ,Ai0] at h;obtain ⟨rfl,rfl,_⟩:=h;refine ⟨k1+1,1+c1,u1,1+(T1+1),by omega,⟨?_,by omega,Nat.le_trans (Nat.add_le_add_left (Ty _ _) _) (by omega),fun h=>by omega⟩,by omega,py,ry,DR h1 (by simp) q11 (Gp (k:=0) (T:=0) hrule (KJ ry) ⟨1,fun g hg m hm=>?_⟩)⟩
    ·rw [Tm.surf,Tm.inn,Nat.add_mul];omega
    ·obtain ⟨g,rfl⟩:=psc g (by omega);rw [hp0,hv30,AbV,Og hm.e]
   ·simp at h
  ·rw [if_neg hv30] at h;simp only [AiZ,Ai0] at h;obtain ⟨rfl,rfl,_⟩:=h;obtain ⟨o0,n0,k0,t0,e0,hp0,ho0,_⟩:=Me r0;have hns:sl x v0=3:=by
    unfold sl;rw [if_neg (fun h=>hx.1 h.1),if_neg (fun h=>hv30 h.2),if_neg (fun h=>hx.2 (iM h))]
   have hn0:sl (.mk 19 n [x]) V=1:=by unfold sl;rw [if_pos ⟨rfl,hVo⟩]
   refine ⟨k1,1+c1,u1+1,1+(T1+1),q1,⟨?_,by omega,by rw [hn0];omega,fun h=>?_⟩,by omega,_,hnode,DR (kh:=0) h1 (by simp) q11 (Nc hrule ⟨1,fun g hg m=>?_⟩)⟩
   ·rw [Tm.surf,Tm.inn];omega
   ·have:=q4 h;rw [Tm.surf,hVz];omega
   ·obtain ⟨g,rfl⟩:=psc g (by omega);rw [hp0,uC _ _ _ _ _ _ _ _ _ _ (by rw [<- ho0];exact hv30)]
 have h13:op=13:=by omega
 subst h13;rw [show ar 13=some 4 by decide,AiZ] at har
 obtain ⟨b0,z,b2,nn,rfl⟩:=TY har.symm;obtain ⟨w0,vz,w2,vn,rfl⟩:=TY q6;obtain ⟨p0,pz,p2,pn,rfl⟩:=TY q7;obtain ⟨x0,y0⟩:=q8 0 b0 rfl (by decide);obtain ⟨x2,y2⟩:=q8 2 b2 rfl (by decide);simp only [Ajc,Ajb,AiZ] at x0 y0 x2 y2;subst x0 y0 x2 y2;have rz:=q9 1 pz vz (by decide) rfl rfl;have rn:=q9 3 pn vn (by decide) rfl rfl;have hgd:=hgn.2.2.2.2.2.2.2 rfl b0 z b2 nn rfl;have hn0:=hgn.2.2.1 rfl;simp only [Tm.goodL,and_true] at hgl;simp only [Tm.wtL] at hw;rw [hV] at h00 hnode;obtain ⟨kr,cr,ur,Tr,a1,a2,a3,a4,a5,w',a6,a7⟩:=jE (f+1) (fun g hg=>ih g (by omega)) s1 n n env b0 b2 vz vn v s' e pz pn n [b0,z,b2,nn] h00 rz rn he rfl hgl.2.2.1 (by omega) (fun _=>hnode) (by
  intro px vx hx;rw [hn0];refine .node 13 0 0 [.nil,pz,.nil,px] [.clo env b0,vz,.clo env b2,vx] [b0,z,b2,nn] e env (by decide) (show ar 13=some 4 by decide) rfl rfl ?_ ?_ he.1 he.2
  ·intro i p r hb hp hr
   match i with
   | 0=>exact absurd hb (by decide)
   | 1=>simp only [Ajc,Ajb,AiZ] at hp hr;subst hp hr;exact rz
   | 2=>exact absurd hb (by decide)
   | 3=>simp only [Ajc,Ajb,AiZ] at hp hr;subst hp hr;exact hx
   | i+4=>simp at hp
  ·intro i b hb hi
   match i with
   | 0=>simp only [Ajb,AiZ] at hi;subst hi;exact ⟨⟨hgl.1,by omega⟩,rfl,rfl⟩
   | 1=>exact absurd hb (by decide)
   | 2=>simp only [Ajc,Ajb,AiZ] at hi;subst hi;exact ⟨⟨hgl.2.2.1,by omega⟩,rfl,rfl⟩
   | 3=>exact absurd hb (by decide)
   | i+4=>simp at hi)
 have hiw:b2.wt<=Tm.innL 13 0 [b0,z,b2,nn]:=by simp only [Tm.innL];rw [if_pos (by decide),if_neg (by decide),if_pos (by decide),if_neg (by decide)];omega
 have hsl:GU 13 0 [b0,z,b2,nn] [.clo env b0,vz,.clo env b2,vn]=sl z vz+sl nn vn:=by
  simp only [GU];rw [if_pos (show 0<Ak 13 0 by decide),if_neg (show ¬ 0<Ak 13 (0+1) by decide),if_pos (show 0<Ak 13 (0+1+1) by decide),if_neg (show ¬ 0<Ak 13 (0+1+1+1) by decide)]
  omega
 have hsn:sl nn vn=3:=by unfold sl;rw [if_neg (fun h=>hgd.2.1.1 h.1),if_neg (fun h=>hgd.2.1.2 h.1),if_neg (by rw [hgd.2.2];decide)]
 have hsz:1<=sl z vz:=by
  unfold sl;split
  ·omega
  ·rw [if_neg (fun h=>hgd.1 h.1)];split<;>omega
 have hst:sl (.mk 13 n [b0,z,b2,nn]) V+2<=sl z vz+sl nn vn:=by
  have e1:sl (.mk 13 n [b0,z,b2,nn]) V=if (Tm.mk 13 n [b0,z,b2,nn]).badR=true then 2 else 3:=by unfold sl;rw [if_neg (by simp [Tm.op]),if_neg (by simp [Tm.op])]
  rw [e1];split
  ·omega
  ·rename_i hnb;have hb:¬ (z.op=19\/z.badR=true):=by
    intro h;apply hnb;rw [Tm.badR];simpa using h
   have:sl z vz=3:=by unfold sl;rw [if_neg (fun h=>hb (.inl h.1)),if_neg (fun h=>hgd.1 h.1),if_neg (fun h=>hb (.inr h))]
   omega
 have hle:1+(c1+cr)<=(Tm.mk 13 n [b0,z,b2,nn]).surf+(k1+kr) * (Tm.mk 13 n [b0,z,b2,nn]).inn:=by rw [Tm.surf,Tm.inn,Nat.add_mul];have e2:kr * b2.wt<=kr * Tm.innL 13 0 [b0,z,b2,nn]:=Nat.mul_le_mul_left _ hiw;omega
 by_cases hk0:kr=0
 ·obtain ⟨z1,z2,z3⟩:=a5 hk0;subst hk0 z1 z2;rw [if_pos rfl] at a4;refine ⟨k1+0,1+(c1+0),u1+1,1+(T1+Tr),by omega,⟨hle,by omega,by rw [z3,<- hV];omega,fun h=>?_⟩,by omega,w',a6,DR h1 (by simp) q11 a7⟩
  have:=q4 (by omega)
  rw [z3,<- hV,Tm.surf,hVz];omega
 ·rw [if_neg hk0] at a4;exact ⟨k1+kr,1+(c1+cr),u1+ur,1+(T1+Tr),by omega,⟨hle,by omega,Nat.le_trans (Nat.add_le_add_left (Ty _ _) _) (by omega),fun h=>by omega⟩,by omega,w',a6,DR h1 (by simp) q11 a7⟩
theorem Pf {f:Nat} (op:Int) (env:List RV) (ih:∀s t v s',AD f s 0 t env=some (v,s',0)->s<=1000->s'<=1000):∀(l:List Tm) (i:Nat) (s:Int) (vs:List RV) (s':Int),Bf (fun s e t=>AD f s e t env) op env i l s 0=some (vs,s',0)->s<=1000->s'<=1000
 | [],i,s,vs,s',h,hs=>by
  simp only [Bf,AiZ,Ai0] at h;omega
 | t::l,i,s,vs,s',h,hs=>by
  simp only [Bf] at h;split at h
  ·cases hk:Bf (fun s e t=>AD f s e t env) op env (i+1) l s 0 with
   | none=>rw [hk] at h;cases h
   | some q =>obtain ⟨vs1,s1,e1⟩:=q;rw [hk] at h;simp only [Ai2,AiZ,Ai0] at h;obtain ⟨_,rfl,rfl⟩:=h;exact Pf op env ih l _ _ _ _ hk hs
  ·split at h
   ·cases h
   ·rename_i v s1 e1 he;cases hk:Bf (fun s e t=>AD f s e t env) op env (i+1) l s1 e1 with
    | none=>rw [hk] at h;cases h
    | some q =>obtain ⟨vs2,s2,e2⟩:=q;rw [hk] at h;simp only [Ai2,AiZ,Ai0] at h;obtain ⟨_,rfl,rfl⟩:=h;have h0:=Hn _ (fun s e t v s' h=>CW h) op env l _ _ _ _ _ hk;subst h0;exact Pf op env ih l _ _ _ _ hk (ih _ _ _ _ he hs)
theorem qE:∀f,(
           ∀s t env v s',AD f s 0 t env=some (v,s',0)->s<=1000->s'<=1000)/\(∀s v w s',headR f s 0 v=some (w,s',0)->s<=1000->s'<=1000):=by
 intro f
 induction f with
 | zero=>exact ⟨(by intro s t env v s' h;rw [AD] at h;cases h),(by intro s v w s' h;rw [headR] at h;cases h)⟩
 | succ f ih =>
  refine ⟨?_,?_⟩
  ·intro s t env v s' h hs;obtain ⟨op,n,ks⟩:=t;rw [AD] at h;rw [if_neg (by simp)] at h;split at h
   ·cases h
   split at h
   ·split at h
    ·split at h
     ·cases hr:env[((env.length:Int) - 1 - n).toNat]? with
      | none=>rw [hr] at h;cases h
      | some r =>rw [hr] at h;simp only [Ai2,AiZ,Ai0] at h;omega
     ·cases h
    ·split at h
     ·simp only [AiZ,Ai0] at h;omega
     ·cases h
   split at h
   ·cases h
   split at h
   ·cases h
   split at h
   ·cases h
   rename_i vs s1 e1 hk;have he:=Hk h;subst he;exact ih.2 _ _ _ _ h (Pf op env (fun s t v s'=>ih.1 s t env v s') ks _ _ _ _ hk hs)
  ·intro s v w s' h hs;rw [headR] at h;rw [if_neg (by simp)] at h;split at h
   ·cases h
   split at h
   ·split at h
    ·cases h
    ·split at h
     ·split at h
      ·split at h
       ·split at h
        ·cases h
        ·exact ih.1 _ _ _ _ _ h (by omega)
       ·cases h
      ·simp at h
     ·simp only [AiZ,Ai0] at h;omega
   split at h
   ·split at h
    ·cases h
    ·rename_i k0 _;split at h
     ·split at h
      ·cases hx:k0.k[(1+v.op - 8).toNat]? with
       | none=>rw [hx] at h;cases h
       | some x=>rw [hx] at h;simp only [Ai2,AiZ,Ai0] at h;omega
      ·simp at h
     ·simp only [AiZ,Ai0] at h;omega
   split at h
   ·split at h
    ·cases h
    ·rename_i k0 _;split at h
     ·split at h
      ·cases hx:k0.k[0]? with
       | none=>rw [hx] at h;cases h
       | some x=>rw [hx] at h;simp only [Ai2,AiZ,Ai0] at h;omega
      ·simp at h
     ·simp only [AiZ,Ai0] at h;omega
   split at h
   ·split at h
    ·cases h
    ·rename_i k0 _;split at h
     ·split at h
      ·cases hx:k0.k[0]? with
       | none=>rw [hx] at h;cases h
       | some x=>rw [hx] at h;simp only [Ai2,AiZ,Ai0] at h;omega
      ·simp at h
     ·simp only [AiZ,Ai0] at h;omega
   split at h
   ·split at h
    ·split at h
     ·split at h
      ·simp only [AiZ,Ai0] at h;omega
      ·simp at h
     ·split at h
      ·split at h
       ·split at h
        ·cases h
        ·split at h
         ·cases h
         ·rename_i vh s2 e2 hh;split at h
          ·cases h
          ·have he:=CW h;subst he;exact ih.1 _ _ _ _ _ h (ih.2 _ _ _ _ hh (by omega))
       ·simp at h
      ·simp only [AiZ,Ai0] at h;omega
    ·cases h
   ·simp only [AiZ,Ai0] at h;omega
theorem Kh {f:Nat} {op u d:Int}:∀(l:List RV) (i:Nat) (s nd e:Int) (ts:List Tm) (s' nd':Int),Bl (fun s nd e k u=>AV f s nd e k u d) f op u i l s nd e=some (ts,s',nd',0)->e=0
 | [],i,s,nd,e,ts,s',nd',h=>by
  simp only [Bl,AiZ,Ai0] at h;exact h.2.2.2
 | k::l,i,s,nd,e,ts,s',nd',h=>by
  simp only [Bl] at h;split at h
  ·cases h
  rename_i k1 s1 e1 hk;split at h
  ·cases h
  rename_i t s2 nd2 e2 hr;cases hrest:Bl (fun s nd e k u=>AV f s nd e k u d) f op u (i+1) l s2 nd2 e2 with
  | none=>rw [hrest] at h;cases h
  | some q =>
   obtain ⟨ts2,s3,nd3,e3⟩:=q;rw [hrest] at h;simp only [Ai2,AiZ,Ai0] at h;obtain ⟨_,_,_,rfl⟩:=h
   have:=Kh l _ _ _ _ _ _ _ hrest
   subst this
   have:=Fq hr
   subst this;split at hk
   ·split at hk
    ·cases hk
    ·exact CW hk
   ·simp only [AiZ,Ai0] at hk;exact hk.2.2
def qS (B f:Nat):Prop:=∀(s nd:Int) (v:RV) (u d:Int) (t:Tm) (s' nd':Int),AV f s nd 0 v u d=some (t,s',nd',0)->0<=nd->∀v',Rel B v' v->∃k c uu T N:Nat,s'=s+k/\nd'=nd+N/\nd'<=3000/\(s<=1000->s'<=1000)/\c+v.vsz<=N+B * k/\5 * uu<=3 * c+10 * k/\T<=N+c+uu+2 * k /\
 ∃F,∀g,F<=g->∀m,MOk m k T->Q3 g v' u d m nd=some (t,Gg m k T,nd')
theorem xI {B:Nat} (u:Int) (b:Nat):∀(i:Nat) p r,(QS u b)[i]?=some p->(E6 u b)[i]?=some r->Rel B p r:=by
 intro i p r hp hr;rw [QS,Ajv] at hp;rw [E6,Ajv] at hr;cases hx:(List.range b)[i]? with
 | none=>rw [hx] at hp;cases hp
 | some j =>rw [hx] at hp hr;simp only [Ai2,AiZ] at hp hr;subst hp hr;exact .var _
theorem TL {B f:Nat} (ih:qS B f) (op u d n n':Int) (kp0:List PV) (ts:List Tm) (e:List PV) (env:List RV) (he:Gc B e env):∀(l:List RV) (lp:List PV) (i:Nat) (s nd:Int) (rs:List Tm) (s' nd':Int),Bl (fun s nd e k u=>AV f s nd e k u (d+1)) f op u i l s nd 0=some (rs,s',nd',0)->0<=nd->nd<=3000->lp.length=l.length ->
  (∀j p r,Ak op (i+j)=0->lp[j]?=some p->l[j]?=some r->Rel B p r)->(∀j r,0<Ak op (i+j)->l[j]?=some r->∃b,ts[i+j]?=some b/\b.good/\b.wt<=B/\r=.clo env b) ->
  ∃k c uu T N:Nat,s'=s+k/\nd'=nd+N/\nd'<=3000/\(s<=1000->s'<=1000)/\c+RV.vszL op i l<=N+B * k/\5 * uu<=3 * c+10 * k/\T<=N+c+uu+2 * k /\
   ∃F,∀g,F<=g->∀m,MOk m k T->Y4 (fun v below m r=>Q3 g v below (d+1) m r) (fun i l m=>opP g (.mk op n kp0 (.mk op n' ts) e) i l m) op u i lp m nd=some (some rs,Gg m k T,nd')
 | [],lp,i,s,nd,rs,s',nd',h,h0,h3,hl,_,_=>by
  simp only [Bl,AiZ,Ai0] at h;obtain ⟨rfl,rfl,rfl,_⟩:=h
  have:lp=[]:=Aja hl
  subst this;refine ⟨0,0,0,0,0,by omega,by omega,h3,id,by simp [RV.vszL],by omega,by omega,0,fun g _ m hm=>?_⟩;rw [Y4,Og hm.e]
 | k::l,lp,i,s,nd,rs,s',nd',h,h0,h3,hl,hA,hB=>by
  obtain ⟨p,lp,rfl⟩:∃p lp',lp=p::lp':=by
   cases lp with
   | nil=>cases hl
   | cons p lp=>exact ⟨p,lp,rfl⟩
  simp only [Bl] at h;split at h
  ·cases h
  rename_i k1 s1 e1 hk;split at h
  ·cases h
  rename_i t s2 nd2 e2 hr;cases hrest:Bl (fun s nd e k u=>AV f s nd e k u (d+1)) f op u (i+1) l s2 nd2 e2 with
  | none=>rw [hrest] at h;cases h
  | some q =>
  obtain ⟨ts2,s3,nd3,e3⟩:=q;rw [hrest] at h;simp only [Ai2,AiZ,Ai0] at h;obtain ⟨rfl,rfl,rfl,rfl⟩:=h;have h2:=Kh l _ _ _ _ _ _ _ hrest;subst h2;have h1:=Fq hr;subst h1;have hA':∀j p r,Ak op (i+1+j)=0->lp[j]?=some p->l[j]?=some r->Rel B p r:=fun j p r a b c=>hA (j+1) p r (by rwa [show i+(j+1)=i+1+j by omega]) b c
  have hB':∀j r,0<Ak op (i+1+j)->l[j]?=some r->∃b,ts[i+1+j]?=some b/\b.good/\b.wt<=B/\r=.clo env b:=fun j r a b=>by
   obtain ⟨x,y⟩:=hB (j+1) r (by rwa [show i+(j+1)=i+1+j by omega]) b
   exact ⟨x,by rwa [show i+1+j=i+(j+1) by omega]⟩
  by_cases hb:0<Ak op i
  ·rw [if_pos hb] at hk;split at hk
   ·cases hk
   obtain ⟨b,hb1,hb2,hb3,rfl⟩:=hB 0 k (by simpa using hb) rfl;rw [AjB] at hb1;rw [show (RV.clo env b).env=env from rfl,show (RV.clo env b).b=b from rfl] at hk
   have hb22:=AW op i;obtain ⟨ke,ce,ue,Te,d1,d2,d3,d4⟩:=M5 (Q7 B f) (l:=QS u (Ak op i)) (l':=E6 u (Ak op i)) he (by rw [J5,CC]) (xI u _) hb2 hb3 hk;obtain ⟨w1,y1,F1,y2⟩:=SF (op:=op) (n:=n) (n':=n') (ps:=kp0) hb1 (by rw [J5];exact hb22) d4;have hsle:=(qE f).1 _ _ _ _ _ hk;obtain ⟨kr,cr,ur,Tr,Nr,r1,r2,r3,r4,r5,r6,r7,F2,r8⟩:=ih s1 nd k1 _ _ t s2 nd2 hr h0 w1 y1;obtain ⟨kk,cc,uu,TT,NN,q1,q2,q3,q4,q5,q6,q7,F3,q8⟩:=TL ih op u d n n' kp0 ts e env he l lp (i+1) s2 nd2 ts2 s3 nd3 hrest (by omega) (by omega) (by simpa using hl) hA' hB';have hde:=d2.le;have hdp:=d2.p;have hsi:=L1 b;refine ⟨ke+(kr+kk),ce+(cr+cc),ue+(ur+uu),Te+(Tr+TT),Nr+NN,by omega,by omega,q3,fun h=>q4 (r4 (hsle h)),?_,by omega,by omega,F1+F2+F3,fun g hg m hm=>?_⟩
   ·rw [RV.vszL,if_pos hb,Nat.mul_add,Nat.mul_add];have hce:ce<=k1.vsz+B * ke:=by
     cases hke:ke with
     | zero =>
      have:=d2.v hke
      rw [hke] at hde;omega
     | succ k' =>
      rw [hke] at hde;have e1:(k'+1) * b.wt<=(k'+1) * B:=Nat.mul_le_mul_left _ hb3;have e2:(k'+1) * b.wt=(k'+1) * b.surf+(k'+1) * b.inn:=by rw [<- hsi,Nat.mul_add]
      have e3:b.surf<=(k'+1) * b.surf:=Nat.le_mul_of_pos_left _ (by omega);rw [Nat.mul_comm B];omega
    omega
   ·rw [Y4,if_pos hb,y2 g (by omega) m (Mp hm)];have hm2:=Ix hm;simp only;rw [if_neg (by simp [Gg]),r8 g (by omega) _ (Mp hm2)];simp only;rw [q8 g (by omega) _ (Ix hm2),E9,E9];simp only [Ai2]
  ·rw [if_neg hb] at hk;simp only [AiZ,Ai0] at hk;obtain ⟨rfl,rfl,_⟩:=hk;have hb0:Ak op i=0:=by omega
   have hrel:=hA 0 p k (by simpa using hb0) rfl rfl;obtain ⟨kr,cr,ur,Tr,Nr,r1,r2,r3,r4,r5,r6,r7,F2,r8⟩:=ih s nd k _ _ t s2 nd2 hr h0 p hrel;obtain ⟨kk,cc,uu,TT,NN,q1,q2,q3,q4,q5,q6,q7,F3,q8⟩:=TL ih op u d n n' kp0 ts e env he l lp (i+1) s2 nd2 ts2 s3 nd3 hrest (by omega) (by omega) (by simpa using hl) hA' hB';refine ⟨kr+kk,cr+cc,ur+uu,Tr+TT,Nr+NN,by omega,by omega,q3,fun h=>q4 (r4 h),?_,by omega,by omega,F2+F3,fun g hg m hm=>?_⟩
   ·rw [RV.vszL,if_neg hb,Nat.mul_add];omega
   ·rw [Y4,if_neg hb];simp only;rw [if_neg (fun h=>h hm.e),r8 g (by omega) _ (Mp hm)];simp only;rw [q8 g (by omega) _ (Ix hm),E9];simp only [Ai2]
theorem gQ (B:Nat):∀f,qS B f:=by
 intro f
 induction f with
 | zero=>intro s nd v u d t s' nd' h;rw [AV] at h;cases h
 | succ f ih =>
  intro s nd v u d t s' nd' h h0 v' hv;rw [AV] at h;split at h
  ·cases h
  rename_i hr;by_cases hbig:3000<nd+1\/120<d
  ·rw [if_pos (show (0:Int)=0/\(3000<nd+1\/120<d) from ⟨rfl,hbig⟩)] at h
   simp at h
  rw [if_neg (show ¬ ((0:Int)=0/\(3000<nd+1\/120<d)) from fun h=>hbig h.2),if_neg (by simp)] at h
  have htick:∀{m:M3} {k T:Nat},MOk m k (1+T)->Hs ⟨m.s,m.w,if m.e=0/\(3000<nd+1\/120<d) then 5 else m.e⟩=some (Gg m 0 1):=by intro m k T hm;rw [if_neg (fun h=>hbig h.2)];exact MD hm
  by_cases h1:v.op=1
  ·rw [if_pos h1] at h;simp only [AiZ,Ai0] at h;obtain ⟨rfl,rfl,rfl,_⟩:=h;obtain ⟨op,n,k,t0,e0,rfl,ho,hn⟩:=Me hv;have hvz:v.vsz=1:=by
    cases hv with
    | var n=>simp [RV.var,RV.vsz,RV.vszL]
    | node op n n' kp kr ts e env h1'=>exact absurd h1 h1'
   refine ⟨0,0,0,1,1,by omega,by omega,by omega,id,by omega,by omega,by omega,1,fun g hg m hm=>?_⟩;obtain ⟨g,rfl⟩:=psc g (by omega);rw [Q3,if_neg (by omega),htick (k:=0) (T:=0) hm];simp only;rw [if_neg (by simp [Gg]),if_pos (by rw [<- ho];exact h1),if_neg (by rw [<- hn];omega),hn]
  ·rw [if_neg h1] at h;obtain ⟨n',kp,ts,e,env,rfl,b1,b2,b3,b4,b5,b6⟩:=HT hv h1;have b14:=iA b1;cases hk:Bl (fun s nd e k u=>AV f s nd e k u (d+1)) f v.op u 0 v.k s (nd+1) 0 with
   | none=>rw [hk] at h;cases h
   | some q =>
   obtain ⟨rs,s1,nd1,e1⟩:=q;rw [hk] at h;simp only [Ai2,AiZ,Ai0] at h;obtain ⟨rfl,rfl,rfl,rfl⟩:=h;obtain ⟨kk,cc,uu,TT,NN,q1,q2,q3,q4,q5,q6,q7,F3,q8⟩:=TL ih v.op u d v.n n' kp ts e env b6 v.k kp 0 s (nd+1) rs s1 nd1 hk (by omega) (by omega) (by omega) (fun j p r a b c=>b4 j p r (by simpa using a) b c) (by
    intro j r a b;rw [Ajy] at a ⊢;have hj:j<ts.length:=by
     have:=(Ai7.1 b).1
     omega
    obtain ⟨⟨g1,g2⟩,_,g3⟩:=b5 j ts[j] a (Ai6 hj);rw [b,AiZ] at g3;exact ⟨ts[j],Ai6 hj,g1,g2,g3⟩)
   have hvz:v.vsz=1+RV.vszL v.op 0 v.k:=by obtain ⟨a,b,c,d,e⟩:=v;rw [RV.vsz];rfl
   refine ⟨kk,cc,uu,1+TT,1+NN,q1,by omega,q3,q4,by omega,by omega,by omega,F3+20,fun g hg m hm=>?_⟩;obtain ⟨g,rfl⟩:=psc g (by omega);have hm':MOk (Gg m 0 1) kk TT:=Ix (k1:=0) ⟨hm.e,hm.w,hm.w2,by have:=hm.s;omega,hm.s2⟩;rw [Q3,if_neg (by omega),htick hm];simp only;rw [if_neg (by simp [Gg]),if_neg h1,if_neg (by omega),q8 g (by omega) _ hm',E9];simp only [Ajy]
def aV {f:Nat} {t u:Tm} (hg:t.good) (hw:t.wt<=3000) (hs:t.shaped=true) (h:AF f t=some (u,0)):∃F,∀g,F<=g->WK g t=some (u,0):=by
 rw [AF] at h;split at h
 ·cases h
 rename_i v s e he;split at h
 ·cases h
 rename_i w s2 nd2 e2 hr;simp only [AiZ] at h;by_cases h2:e2=0
 ·subst h2;rw [if_neg (by simp)] at h;simp only [Ai0,and_true] at h;subst h;have h1:=Fq hr;subst h1;obtain ⟨k0,c0,u0,T0,a1,a2,a3,v',a4,F0,a5⟩:=Q7 3000 f 0 t [] v s he hg hw [] (S4 _);obtain ⟨k1,c1,u1,T1,N,r1,r2,r3,r4,r5,r6,r7,F1,r8⟩:=gQ 3000 f s 0 v 0 1 w s2 nd2 hr (by omega) v' a4;have hs1:=(qE f).1 _ _ _ _ _ he (by omega);have hs2:=r4 hs1;have hc:=PP a2;have hp:=a2.p;have hk:k0+k1<=1000:=by omega
  have hc2:(k0+1) * t.wt<=(k0+1) * 3000:=Nat.mul_le_mul_left _ hw;have hvp:=Xw v;refine ⟨F0+F1,fun g hg=>?_⟩;have hm:MOk ⟨100000,5000000,0⟩ (k0+k1) (T0+T1):=⟨rfl,by simp only;omega,by simp,by simp only;omega,by simp⟩;rw [WK,if_neg (by rw [hs];simp),a5 g (by omega) _ (Mp hm)];simp only;rw [if_neg (by simp [Gg]),r8 g (by omega) _ (Ix hm)];simp only;rw [if_neg (by simp [Gg])]
 ·rw [if_pos h2] at h;simp only [Ai0] at h;exact absurd h.2 h2
theorem NM {f:Nat} {op d:Int} {u k0:Nat} (hu:k0+u<=700000) (ih:∀(t:Tm) (u:Nat) (s nd:Int) (r:Tm) (s' nd':Int),AV f s nd 0 (t.val u) u d=some (r,s',nd',0)->t.stl->t.sc (k0+u)->k0+u+2 * t.wt<=700000->0<=s->s<=1000000->r=t/\s'=s) :
  ∀(l:List Tm) (i:Nat) (s nd:Int) (ts:List Tm) (s' nd':Int),Bl (fun s nd e k u=>AV f s nd e k u d) f op u i (Tm.valL op i l u) s nd 0=some (ts,s',nd',0)->Tm.stlL l->Tm.scL op i l (k0+u)->k0+u+2+2 * Tm.wtL l<=700000->0<=s->s<=1000000->ts=l/\s'=s
 | [],i,s,nd,ts,s',nd',h,_,_,_,_,_=>by
  simp only [Tm.valL,Bl,AiZ,Ai0] at h;exact ⟨h.1.symm,h.2.1.symm⟩
 | t::l,i,s,nd,ts,s',nd',h,hst,hsc,hw,h0,h1=>by
  have hbn:=AW op i;rw [Tm.stlL] at hst;rw [Tm.scL] at hsc;simp only [Tm.wtL] at hw;rw [Tm.valL,Bl] at h;have key:∀(v:RV) (s1 e1:Int) (r:Tm) (s2 nd2 e2:Int),v=t.val (u+Ak op i)->s1=s->AV f s1 nd e1 v ((u:Int)+Ak op i) d=some (r,s2,nd2,e2) ->
    ((Bl (fun s nd e k u=>AV f s nd e k u d) f op u (i+1) (Tm.valL op (i+1) l u) s2 nd2 e2).map fun (ts,s,nd,e)=>(r::ts,s,nd,e))=some (ts,s',nd',0)->ts=t::l/\s'=s:=by
   rintro v s1 e1 r s2 nd2 e2 rfl rfl hr hk;cases hk2:Bl (fun s nd e k u=>AV f s nd e k u d) f op u (i+1) (Tm.valL op (i+1) l u) s2 nd2 e2 with
   | none=>rw [hk2] at hk;cases hk
   | some q =>
    obtain ⟨ts2,s3,nd3,e3⟩:=q;rw [hk2] at hk;simp only [Ai2,AiZ,Ai0] at hk;obtain ⟨rfl,rfl,rfl,rfl⟩:=hk
    have:=Kh _ _ _ _ _ _ _ _ hk2
    subst this
    have:=Fq hr
    subst this;rw [show (u:Int)+(Ak op i:Int)=((u+Ak op i:Nat):Int) by omega] at hr
    obtain ⟨rfl,rfl⟩:=ih t _ _ _ _ _ _ hr hst.1 (by rw [<- Nat.add_assoc];exact hsc.1) (by omega) h0 h1;obtain ⟨rfl,rfl⟩:=NM hu ih l (i+1) _ _ _ _ _ hk2 hst.2 hsc.2 (by omega) h0 h1;exact ⟨rfl,rfl⟩
  by_cases hb:0<Ak op i
  ·rw [if_pos hb,if_pos hb] at h;rw [show (RV.clo (E6 0 u) t).env=E6 0 u from rfl,show (RV.clo (E6 0 u) t).b=t from rfl,if_neg (by rw [CC];omega),WF] at h
   split at h
   ·cases h
   rename_i v1 s1 e1 hev;split at h
   ·cases h
   rename_i r s2 nd2 e2 hr;obtain ⟨g,hg⟩:=H3 h0 h1 k0 (t.wt+1) t (u+Ak op i) (by omega) hst.1 (by rw [<- Nat.add_assoc];exact hsc.1) (by omega);have a1:=Cc (show f<=f+g by omega) hev
   have a2:=Cc (show g<=f+g by omega) hg
   rw [a1] at a2;simp only [AiZ,Ai0] at a2;exact key _ _ _ _ _ _ _ a2.1 a2.2.1 hr h
  ·have hb0:Ak op i=0:=by omega
   rw [if_neg hb,if_neg hb] at h;simp only at h;split at h
   ·cases h
   rename_i r s2 nd2 e2 hr;exact key _ _ _ _ _ _ _ (by rw [hb0,AjB]) rfl hr h
theorem dR (k0:Nat):∀(f:Nat) (t:Tm) (u:Nat) (s nd d:Int) (r:Tm) (s' nd':Int),AV f s nd 0 (t.val u) u d=some (r,s',nd',0)->t.stl->t.sc (k0+u)->k0+u+2 * t.wt<=700000->0<=s->s<=1000000->r=t/\s'=s:=by
 intro f
 induction f with
 | zero=>intro t u s nd d r s' nd' h;rw [AV] at h;cases h
 | succ f ih =>
  intro t u s nd d r s' nd' h hst hsc hw h0 h1;obtain ⟨op,n,ks⟩:=t;rw [Tm.stl] at hst;rw [Tm.sc] at hsc;simp only [Tm.wt] at hw;rw [AV] at h;split at h
  ·cases h
  by_cases hc:(if (0:Int)=0/\(3000<nd+1\/120<d) then (5:Int) else 0)≠0
  ·rw [if_pos hc] at h;simp only [AiZ,Ai0] at h;exact absurd (by simpa using h.2.2.2) hc
  rw [if_neg hc] at h;by_cases h1o:op=1
  ·subst h1o;rw [if_pos rfl] at hsc;have hks:ks=[]:=Aja (Ajn hsc.1.symm);subst hks;rw [Tm.val,if_pos rfl,if_pos (show (RV.var ((u:Int) - 1 - n)).op=1 from rfl),show (RV.var ((u:Int) - 1 - n)).n=(u:Int) - 1 - n from rfl] at h
   simp only [AiZ,Ai0] at h;obtain ⟨rfl,rfl,_⟩:=h;exact ⟨by rw [show (u:Int) - 1 - ((u:Int) - 1 - n)=n by omega],rfl⟩
  ·rw [if_neg h1o] at hsc;have e:(Tm.mk op n ks).val u=.node op n (Tm.valL op 0 ks u):=by rw [Tm.val,if_neg h1o]
   rw [e,show (RV.node op n (Tm.valL op 0 ks u)).op=op from rfl,show (RV.node op n (Tm.valL op 0 ks u)).n=n from rfl,show (RV.node op n (Tm.valL op 0 ks u)).k=Tm.valL op 0 ks u from rfl,if_neg h1o] at h
   cases hk:Bl (fun s nd e k u=>AV f s nd e k u (d+1)) f op u 0 (Tm.valL op 0 ks u) s (nd+1) 0 with
   | none=>rw [hk] at h;cases h
   | some q =>obtain ⟨ts,s2,nd2,e2⟩:=q;rw [hk] at h;simp only [Ai2,AiZ,Ai0] at h;obtain ⟨rfl,rfl,rfl,rfl⟩:=h;obtain ⟨rfl,rfl⟩:=NM (k0:=k0) (by omega) (fun t u s nd r s' nd' a b c w x y=>ih t u s nd (d+1) r s' nd' a b c w x y) ks 0 s (nd+1) ts s2 nd2 hk hst.2 hsc.2.2 (by omega) h0 h1;exact ⟨rfl,rfl⟩
def AL {t u:Tm} {k f:Nat} (hst:t.stl) (hsc:t.sc k) (hw:k+2 * t.wt<=600000) (h:AF f t=some (u,0)):u=t:=by
 rw [AF] at h;split at h
 ·cases h
 rename_i v s e he;split at h
 ·cases h
 rename_i w s2 nd2 e2 hr;simp only [AiZ] at h;by_cases h2:e2=0
 ·subst h2;rw [if_neg (by simp)] at h;simp only [Ai0,and_true] at h;subst h
  have:=Fq hr
  subst this;obtain ⟨g,hg⟩:=H3 (s:=0) (by omega) (by omega) k (t.wt+1) t 0 (by omega) hst (by simpa using hsc) (by omega);have a1:=Cc (show f<=f+g by omega) he
  have a2:=Cc (show g<=f+g by omega) hg
  rw [show E6 0 0=[] from rfl,a1] at a2
  simp only [AiZ,Ai0] at a2;obtain ⟨rfl,rfl,_⟩:=a2;exact (dR k f t 0 0 0 1 w s2 nd2 hr hst (by simpa using hsc) (by omega) (by omega) (by omega)).1
 ·rw [if_pos h2] at h;simp only [Ai0] at h;exact absurd h.2 h2
def UN (ih:Ah) (xs:List IV) (h0:Hp) (k:KT (IV×Hp)):CN EE ih (.fv (.func (.func 139) [] [])) xs h0 k=A5 [] false false ih 139 xs h0 k :=Oa (by kernel_rfl) (by kernel_rfl) (by kernel_rfl) (by kernel_rfl) ..
def rJ {n:Nat} (ka kb:List Tm) (hn:ka.length<n) (hl:ka.length<=1000000000) (ih:∀a∈ka,∀b∈kb,BE (SS dt n 139 [.fv a.enc,.fv b.enc] ⟨[],[]⟩) (.bool (a.same b))) :
  BE (SS dt (n+1) 150 [.fv (.sl (ka.map Tm.enc)),.fv (.sl (kb.map Tm.enc)),.fv (.func (.func 139) [] [])] ⟨[],[]⟩) (.bool (decide (ka.length=kb.length) && Tm.sameL ka kb)):=by
 rw [Aeb];by_cases h:ka.length=kb.length
 ·have h':(ka.length:Int)=kb.length:=by omega
  rw [decide_eq_true h,Bool.true_and];simp only [H4,Tg,↓XX,XY,↓reduceIte,seval,h',↓AI,XD,heldB,AS,XE];refine Ba (Q:=fun r=>BE r _) (fun k V H=>∃pa ra pb rb,ka=pa++ra/\kb=pb++rb/\pa.length=pb.length/\ra.length=k/\V=[.fv (.sl (kb.map Tm.enc)),.fv (.func (.func 139) [] []),.fv (.sl (ka.map Tm.enc)),iv ka.length,iv pa.length]/\H=⟨[],[]⟩/\Tm.sameL ra rb=Tm.sameL ka kb)
   ?_ n ka.length _ _ hn ⟨[],ka,[],kb,rfl,rfl,rfl,rfl,by rw [h];rfl,rfl,rfl⟩
  rintro k V H rec ⟨pa,ra,pb,rb,hka,hkb,hpl,hk,rfl,rfl,hs⟩ hrec;have hal:ka.length=pa.length+ra.length:=by rw [hka];simp
  have hbl:kb.length=pb.length+rb.length:=by rw [hkb];simp
  cases ra with
  | nil =>
   have hno:¬ ((pa.length:Int)<ka.length):=by rw [hal];simp
   rw [<- hs];simp only [H4,Jm,Tg,↓XX,XY,↓reduceIte,seval,hno,Tm.sameL];exact Aw _ _
  | cons a ra =>
   simp only [Ai3] at hal hk;cases rb with
   | nil=>simp only [Ajh] at hbl;omega
   | cons b rb =>
    have hi:(pa.length:Int)<ka.length:=by omega
    have hga:=BY hka;have hgb:=BY hkb;rw [<- hpl] at hgb;have hc:=ih a (by rw [hka];simp) b (by rw [hkb];simp);have hwi:BC ((pa.length:Int)+1)=((pa++[a]).length:Int):=(Ax (by omega) (by omega)).trans (by simp);simp only [Tm.sameL] at hs;generalize a.same b=v at hc hs;obtain ⟨o,p,l⟩:=a;obtain ⟨o2,p2,l2⟩:=b;simp only [Am] at hc;cases v
    ·rw [<- hs];simp only [H4,Jm,Tg,↓XX,XY,↓reduceIte,seval,hi,↓Bq (AN hga) (Bk _ _ _),↓Bq (AN hgb) (Bk _ _ _),↓B8,↓UN,↓Af hc];exact Aw _ _
    ·simp only [H4,Jm,Tg,↓XX,XY,↓reduceIte,seval,hi,↓Bq (AN hga) (Bk _ _ _),↓Bq (AN hgb) (Bk _ _ _),↓B8,↓UN,↓Af hc,hwi,↓AI,XD,heldB,AS,XE];exact hrec ra.length _ _ (by omega) ⟨pa++[.mk o p l],ra,pb++[.mk o2 p2 l2],rb,by rw [hka];simp,by rw [hkb];simp,by simp [hpl],rfl,rfl,rfl,by simpa using hs⟩
 ·have h':¬ (ka.length:Int)=kb.length:=by omega
  rw [decide_eq_false h,Bool.false_and];simp only [H4,Jm,Tg,↓XX,XY,↓reduceIte,seval,h'];exact Aw _ _
theorem R7:∀(n:Nat) (a b:Tm),2 * a.wt+2<n->a.wt<=100000000->BE (SS dt n 139 [.fv a.enc,.fv b.enc] ⟨[],[]⟩) (.bool (a.same b)):=by
 intro n
 induction n using Nat.strongRecOn with
 | ind n ih =>
  intro a b hn hw;obtain ⟨o,m,ka⟩:=a;obtain ⟨o',m',kb⟩:=b;simp only [Tm.wt] at hn hw;obtain ⟨n,rfl⟩:∃k,n=k+1+1:=⟨n - 2,by omega⟩;have hlen:=Dp ka;have hq:=rJ (n:=n) ka kb (by omega) (by omega) (fun a ha b _=>ih n (by omega) a b (by have:=Cb ha;omega) (by have:=Cb ha;omega));rw [Afx,Am,Am,Tm.same];generalize (decide (ka.length=kb.length) && Tm.sameL ka kb)=v at hq;by_cases h1:o=o'
  ·by_cases h2:m=m'
   ·subst h1 h2;simp only [ZT,↓XX,XY,↓reduceIte,seval,↓Av hq];exact Aw _ _
   ·have h2':=decide_eq_false h2;subst h1;simp only [ZT,↓XX,XY,↓reduceIte,seval,h2];exact Aw _ _
  ·simp only [ZT,↓XX,XY,↓reduceIte,seval,h1];exact Aw _ _
def I8 {n:Nat} (hn:0<n) (o m:Int) (ks:List Tm) (d:Int) (h1:-4611686018427387904<=m+d) (h2:m+d<=4611686018427387904):BE (SS dt n 132 [.fv (Tm.mk o m ks).enc,iv d] ⟨[],[]⟩) (Tm.mk 1 (m+d) []).enc:=by
 obtain ⟨n,rfl⟩:=psc n (by omega);rw [AeO,Am,Am];have hw:BC (m+d)=m+d:=by rw [Ax]<;>omega
 simp only [tZ,↓XX,XY,↓reduceIte,seval,hw];exact Bo rfl _
def Uc {ks:List Bool} {ih:Ah} {f:FuncId} {args:List IV} {vs:List FV} {w:FV} {u:List (Ref×Blk)} {lg:List Ref} {own own':List (Nat×Blk)}
  (hz:∀(e:Option (IV×Hp)) (k:List IV->List Ref->List (Ref×Blk)->List Ref->Option (IV×Hp)),Rc args ks ⟨own,[]⟩ [] e k=k (vs.map .fv) [] u lg)
  (hr:IN (ih f (vs.map .fv) ⟨[],[]⟩) w) (hlay:∀k:Hp->Option (IV×Hp),Kt u ⟨own,[]⟩ k=k ⟨own',[]⟩) (k:KT (IV×Hp)) :
  A5 ks false false ih f args ⟨own,[]⟩ k=k (.fv w) ⟨own',[]⟩ lg (BB u):=by
 rw [Jb,hz,Ab0 hr,hlay]
def Y9 {g:FuncId} (h:EE.pol.inl g=false) (h1:EE.pol.keep g=[]) (h2:EE.pol.split g=false) (h3:EE.pol.raw g=false) (caps:List FV) (ih:Ah) (xs:List IV) (h0:Hp) (k:KT (IV×Hp)) :
  CN EE ih (.fv (.func (.func g) [] caps)) xs h0 k=A5 [] false false ih g (xs++caps.map .fv) h0 k:=by
 unfold CN;simp only [callee,h,cond_false,bE,h1,h2,h3,Ai4,Ajo]
def QG (s:Nat) (b c:Blk) (l:List (Nat×Blk)):AO s b ((s,c)::l)=(s,b)::l:=by simp only [AO,if_true]
def LJ {s j:Nat} (h:(s == j)=false) (b c:Blk) (l:List (Nat×Blk)):AO s b ((j,c)::l)=(j,c)::AO s b l:=by
 have:¬ s=j:=by simpa using h
 simp only [AO,if_neg this]
def qU (fn:Fn) (r r':Ref) (o o':Nat):CI fn [] [.ptr r o,.ptr r' o']=.func fn [] [.ptr r o,.ptr r' o']:=rfl
def zC (fn:Fn) (r:Ref) (o:Nat):CI fn [] [.ptr r o]=.func fn [] [.ptr r o]:=rfl
def fG {d s:Nat} {cs:List FV} {ro:Bool} {own:List (Nat×Blk)} {ext:List Blk} (hl:Ap s own=some (.row (cs.map .fv) ro)) (hn:cs.length<=300) (lg:List Ref) (e:Option (IV×Hp)) (k:FV->List (Ref×Blk)->List Ref->Option (IV×Hp)) :
  DB (d+2) (.ptr (.own s) 0) ⟨own,ext⟩ lg e k=k (.fp cs 0) [(.own s,.row (cs.map .fv) true)] (.own s::lg):=by
 show (Dq (.own s) ⟨own,ext⟩ fun b=>DY b fun cells=>cond (Nat.ble cells.length 300) (CO (DB (d+1)) cells ⟨own,ext⟩ (.own s::lg) e fun cs u lg=>k (.fp cs 0) ((.own s,.row cells true)::u) lg) e)=_
 rw [Jn,BA,hl];simp only [Ajt,HL,Ajw];rw [Bp,decide_eq_true hn,iI,MR]
def yL {s1 s2:Nat} {c1 c2:List FV} {r1 r2:Bool} {fn:Fn} {own:List (Nat×Blk)} {ext:List Blk} (h1:Ap s1 own=some (.row (c1.map .fv) r1)) (h2:Ap s2 own=some (.row (c2.map .fv) r2)) (n1:c1.length<=300) (n2:c2.length<=300)
  (lg:List Ref) (e:Option (IV×Hp)) (k:FV->List (Ref×Blk)->List Ref->Option (IV×Hp)) :
  DB 12 (.func fn [] [.ptr (.own s1) 0,.ptr (.own s2) 0]) ⟨own,ext⟩ lg e k=k (.func fn [] [.fp c1 0,.fp c2 0]) [(.own s1,.row (c1.map .fv) true),(.own s2,.row (c2.map .fv) true)] (.own s2 :: .own s1::lg):=by
 show (CO (DB 11) [] ⟨own,ext⟩ lg e fun x u lg=>CO (DB 11) [.ptr (.own s1) 0,.ptr (.own s2) 0] ⟨own,ext⟩ lg e fun y v lg=>Lf u v fun w=>k (.func fn x y) w lg)=_
 rw [xV,SC,fG (d:=9) h1 n1,SC,fG (d:=9) h2 n2,xV];rfl
def wR {s1:Nat} {c1:List FV} {r1:Bool} {fn:Fn} {own:List (Nat×Blk)} {ext:List Blk} (h1:Ap s1 own=some (.row (c1.map .fv) r1)) (n1:c1.length<=300)
  (lg:List Ref) (e:Option (IV×Hp)) (k:FV->List (Ref×Blk)->List Ref->Option (IV×Hp)) :
  DB 12 (.func fn [] [.ptr (.own s1) 0]) ⟨own,ext⟩ lg e k=k (.func fn [] [.fp c1 0]) [(.own s1,.row (c1.map .fv) true)] (.own s1::lg):=by
 show (CO (DB 11) [] ⟨own,ext⟩ lg e fun x u lg=>CO (DB 11) [.ptr (.own s1) 0] ⟨own,ext⟩ lg e fun y v lg=>Lf u v fun w=>k (.func fn x y) w lg)=_
 rw [xV,SC,fG (d:=9) h1 n1,xV];rfl
def Wu {ih:Ah} {f:FuncId} {x y w:FV} {a b:IV} {fn:Fn} {s1 s2:Nat} {c1 c2:List FV} {r1 r2:Bool} {own own':List (Nat×Blk)} (hr:IN (ih f [.fv x,.fv y,.fv (.func fn [] [.fp c1 0,.fp c2 0])] ⟨[],[]⟩) w) (ha:Bd a=some x) (hb:Bd b=some y)
  (h1:Ap s1 own=some (.row (c1.map .fv) r1)) (h2:Ap s2 own=some (.row (c2.map .fv) r2)) (h2':Ap s2 (AO s1 (.row (c1.map .fv) true) own)=some (.row (c2.map .fv) r2)) (n1:c1.length<=300) (n2:c2.length<=300)
  (ho:AO s2 (.row (c2.map .fv) true) (AO s1 (.row (c1.map .fv) true) own)=own') (k:KT (IV×Hp)) :
  A5 [] false false ih f [a,b,.func fn [] [.ptr (.own s1) 0,.ptr (.own s2) 0]] ⟨own,[]⟩ k=k (.fv w) ⟨own',[]⟩ [.own s2,.own s1] [.own s1,.own s2]:=by
 subst ho;refine Uc (vs:=[x,y,.func fn [] [.fp c1 0,.fp c2 0]]) (u:=[(.own s1,.row (c1.map .fv) true),(.own s2,.row (c2.map .fv) true)]) (lg:=[.own s2,.own s1]) ?_ hr ?_ k
 ·intro e k;rw [xT,GZ _ _ e _ ha,xT,GZ _ _ e _ hb,xT,yL h1 h2 n1 n2,xY];rfl
 ·intro k
  show (E3 own s1 fun _=>Bc own s1 (.row (c1.map .fv) true) fun own=>E3 own s2 fun _=>Bc own s2 (.row (c2.map .fv) true) fun own=>k ⟨own,_⟩)=_
  rw [BA,h1,Ajt,BS,BA,h2',Ajt,BS]
def kJ {ih:Ah} {f:FuncId} {x y w:FV} {a b:IV} {fn:Fn} {s1:Nat} {c1:List FV} {r1:Bool} {own own':List (Nat×Blk)} (hr:IN (ih f [.fv x,.fv y,.fv (.func fn [] [.fp c1 0])] ⟨[],[]⟩) w) (ha:Bd a=some x) (hb:Bd b=some y)
  (h1:Ap s1 own=some (.row (c1.map .fv) r1)) (n1:c1.length<=300) (ho:AO s1 (.row (c1.map .fv) true) own=own') (k:KT (IV×Hp)) :
  A5 [] false false ih f [a,b,.func fn [] [.ptr (.own s1) 0]] ⟨own,[]⟩ k=k (.fv w) ⟨own',[]⟩ [.own s1] [.own s1]:=by
 subst ho;refine Uc (vs:=[x,y,.func fn [] [.fp c1 0]]) (u:=[(.own s1,.row (c1.map .fv) true)]) (lg:=[.own s1]) ?_ hr ?_ k
 ·intro e k;rw [xT,GZ _ _ e _ ha,xT,GZ _ _ e _ hb,xT,wR h1 n1,xY];rfl
 ·intro k
  show (E3 own s1 fun _=>Bc own s1 (.row (c1.map .fv) true) fun own=>k ⟨own,_⟩)=_
  rw [BA,h1,Ajt,BS]
mutual
def Tm.each (g:Tm->Int->Tm):Tm->Int->Tm
 | .mk op m ks,a=>if op=1 then g (.mk op m ks) a else .mk op m (Tm.eachL g op 0 ks a)
def Tm.eachL (g:Tm->Int->Tm):Int->Nat->List Tm->Int->List Tm
 | _,_,[],_=>[]
 | op,i,t::l,a=>t.each g (a+Ak op i)::Tm.eachL g op (i+1) l a
end
abbrev Aai (op m:Int) (ks done:List Tm) (r:Nat):Hp :=⟨[(136314880,.row [iv op,iv m,.fv (.sl (ks.map Tm.enc))] false),(136314881,.row [iv 0,iv 0,.nils] false),(136317955,.row (BZ done r) false)],[]⟩
theorem Xk {F:FuncId} {caps:List FV} {g:Tm->Int->Tm} {c:Nat} (hd:∀(ih:Ah) (xs:List IV) (h0:Hp) (k:KT (IV×Hp)),CN EE ih (.fv (.func (.func F) [] caps)) xs h0 k=A5 [] false false ih F (xs++caps.map .fv) h0 k)
  (P:Tm->Int->Prop) (hP:∀op m ks a i t,P (.mk op m ks) a->ks[i]?=some t->op≠1->P t (a+Ak op i))
  (hg:∀n,c<n->∀m ks a,P (.mk 1 m ks) a->BE (SS dt n F (.fv (Tm.mk 1 m ks).enc::iv a::caps.map .fv) ⟨[],[]⟩) (g (.mk 1 m ks) a).enc) :
  ∀(n:Nat) (t:Tm) (a:Int),t.wt+c+3<n->t.wk->0<=a->a+2 * t.wt<=1000000000->P t a->IN (SS dt n 130 [.fv t.enc,iv a,.fv (.func (.func F) [] caps)] ⟨[],[]⟩) (t.each g a).enc:=by
 intro n
 induction n with
 | zero=>intro t a h;omega
 | succ n ih =>
  intro t a hn hk ha ha2 hPt;obtain ⟨op,m,ks⟩:=t;simp only [Tm.wt] at hn ha2;rw [AeF];have hlen:=Dp ks;rw [Tm.wk] at hk;by_cases h1:op=1
  ·subst h1;rw [Tm.each,if_pos rfl];have hc:=hg n (by omega) m ks a hPt;generalize g (.mk 1 m ks) a=u at hc;obtain ⟨o,p,l⟩:=u;rw [Am] at hc ⊢;rw [Am] at hc ⊢;have hi:∀(own:List (Nat×Blk)) (k:KT (IV×Hp)),A5 [] false false (SS dt n) F ([.fv (.agg [.int .i64 1,.int .i64 m,.sl (ks.map Tm.enc)]),iv a]++caps.map .fv) ⟨own,[]⟩ k=k (.fv (.agg [.int .i64 o,.int .i64 p,.sl (l.map Tm.enc)])) ⟨own,[]⟩ [] []:=by
    intro own k;refine K1 (vs:=.agg [.int .i64 1,.int .i64 m,.sl (ks.map Tm.enc)] :: .int .i64 a::caps) ?_ hc ⟨own,[]⟩ k;have hcaps:∀l:List FV,Bu (l.map .fv)=some l:=by
     intro l
     induction l with
     | nil=>rfl
     | cons x l ih=>simp [Bu,ih,Bd,FJ]
    simp [Bu,hcaps,Bd,FJ,iv]
   simp only [HF,YU,↓XX,XY,↓reduceIte,seval,↓hd,↓hi];exact CB _ _
  ·rw [Tm.each,if_neg h1,Am,Am];simp only [HF,YU,↓XX,XY,↓reduceIte,seval,h1,↓y8 (show ks.length<=1000 by omega),↓AI,XD,heldB,AS,XE,GC,EX]
   refine Ba (Q:=fun r=>IN r _) (fun k V H=>∃(pre rest done:List Tm),ks=pre++rest/\rest.length=k/\done.length=pre.length /\
     V=[iv a,.fv (.func (.func F) [] caps),.ptr (.own 136314880) 0,.ptr (.own 136314881) 0,.slc (.own 136317955) 3 ks.length,.fv (.sl (ks.map Tm.enc)),iv ks.length,iv pre.length] /\
     H=Aai op m ks done rest.length/\done++Tm.eachL g op pre.length rest a=Tm.eachL g op 0 ks a)
    ?_ n ks.length _ _ (by omega) ⟨[],ks,[],rfl,rfl,rfl,rfl,rfl,rfl⟩
   rintro k V H rec ⟨pre,rest,done,hks,hl,hdl,rfl,rfl,hts⟩ hrec;have hkl:ks.length=pre.length+rest.length:=by rw [hks];simp
   cases rest with
   | nil =>
    have hno:¬ ((pre.length:Int)<ks.length):=by rw [hkl];simp
    rw [Tm.eachL,Ajm] at hts;rw [<- hts];simp only [HF,Mr,YU,↓XX,XY,↓reduceIte,seval,hno];rw [show ks.length=done.length by rw [hdl,hkl];simp]
    exact ⟨_,_,rfl,_,_,fun e0 K=>cE (by rfl) (by simp only [Ajh] at hkl;omega) [] e0 K⟩
   | cons x rest =>
    have hi:(pre.length:Int)<ks.length:=by rw [hkl];simp;omega
    have hg2:=BY hks;have hxw:=Cb (t:=x) (l:=ks) (by rw [hks];simp);have hb:=J3 (n:=n) (by omega) op pre.length;have hble:=AW op pre.length;have hs:=ih x (a+Ak op pre.length) (by omega) (KY hk.2 (by rw [hks];simp)) (by omega) (by omega) (hP _ _ _ _ _ _ hPt hg2 h1);have hwa:BC (a+Ak op pre.length)=a+Ak op pre.length:=by rw [Ax]<;>omega
    have hwi:BC ((pre.length:Int)+1)=((pre++[x]).length:Int):=(Ax (by omega) (by omega)).trans (by simp);have hin:pre.length<ks.length:=by omega
    rw [Tm.eachL] at hts;generalize x.each g (a+Ak op pre.length)=y at hs hts;have hst:=fun {β:Type}=>Vy (β:=β) done rest.length y.op y.n y.kids;rw [hdl] at hst;obtain ⟨o,p,l⟩:=x;obtain ⟨o2,p2,l2⟩:=y;simp only [Tm.op,Tm.n,Tm.kids] at hst;rw [Am,Am] at hs;simp only [Ai3] at hl;simp only [HF,Mr,YU,↓XX,XY,↓reduceIte,seval,hi,↓Bq (AN hg2) (Bk _ _ _),↓B8,↓Af hb,hwa,hwi,↓Av (eQ hs),↓Mx hin,↓hst,↓AI,XD,heldB,AS,XE,GC,EX];exact hrec rest.length _ _ (by omega) ⟨pre++[.mk o p l],rest,done++[.mk o2 p2 l2],by rw [hks];simp,rfl,by simp [hdl],rfl,rfl,by rw [<- hts];simp⟩
def Ge (d c:Int):Tm->Int->Tm
 | .mk _ m _,a=>.mk 1 (if c<=m - a then m+d else m) []
def zH (K:Nat) (t:Tm) (a:Int):Prop:=0<=a/\∃k:Nat,t.sc k/\(k:Int)<=K+a
theorem Qj {K:Nat} (op m:Int) (ks:List Tm) (a:Int) (i:Nat) (t:Tm) (h:zH K (.mk op m ks) a) (hg:ks[i]?=some t) (_:op≠1):zH K t (a+Ak op i):=by
 obtain ⟨h0,k,hk,hl⟩:=h;rw [Tm.sc] at hk
 have:=GT hk.2.2 hg
 rw [Ajy] at this;exact ⟨by omega,_,this,by omega⟩
theorem OQ {K:Nat} {m a:Int} {ks:List Tm} (h:zH K (.mk 1 m ks) a):ks=[]/\0<=m/\m<K+a/\0<=a:=by
 obtain ⟨h0,k,hk,hl⟩:=h;rw [Tm.sc,if_pos rfl] at hk;have h1:ar 1=some 0:=by decide
 rw [h1] at hk;have h2:ks.length=0:=by have:=hk.1;simp only [AiZ] at this;omega
 exact ⟨Ajr.1 h2,hk.2.1.1,by omega,h0⟩
theorem dC (caps:List FV) (ih:Ah) (xs:List IV) (h0:Hp) (k:KT (IV×Hp)):CN EE ih (.fv (.func (.func 131) [] caps)) xs h0 k=A5 [] false false ih 131 (xs++caps.map .fv) h0 k :=Y9 (by kernel_rfl) (by kernel_rfl) (by kernel_rfl) (by kernel_rfl) caps ..
theorem YI {n:Nat} (hn:1<n) (d c m a:Int) (ks:List Tm) (hm1:0<=m) (hm2:m<=100000000000) (ha:0<=a) (ha2:a<=100000000000) (hd1:-100000000000<=d) (hd2:d<=100000000000) :
  BE (SS dt n 131 [.fv (Tm.mk 1 m ks).enc,iv a,.fv (.fp [.int .i64 c] 0),.fv (.fp [.int .i64 d] 0)] ⟨[],[]⟩) (Ge d c (.mk 1 m ks) a).enc:=by
 obtain ⟨n,rfl⟩:=psc n (by omega);rw [AeI];have hw:BC (m - a)=m - a:=by rw [Ax]<;>omega
 have h1:=I8 (n:=n) (by omega) 1 m ks d (by omega) (by omega);have h0:=I8 (n:=n) (by omega) 1 m ks 0 (by omega) (by omega);rw [Am] at h1 h0 ⊢;rw [Ge];by_cases h:c<=m - a
 ·rw [if_pos h];rw [Am] at h1 ⊢;simp only [i5,↓XX,XY,↓reduceIte,seval,hw,h,↓Af h1];exact Aw _ _
 ·rw [if_neg h];rw [Int.add_zero,Am] at h0;rw [Am];simp only [i5,↓XX,XY,↓reduceIte,seval,hw,h,↓Af h0];exact Aw _ _
theorem Q1 {n:Nat} {t:Tm} {d c:Int} {K:Nat} (hn:t.wt+6<n) (hw:t.wk) (h2:2 * t.wt<=1000000000) (hs:t.sc K) (hK:K<=1000000000) (hd1:-1000000000<=d) (hd2:d<=1000000000) :
  BE (SS dt n 99 [.fv t.enc,iv d,iv c] ⟨[],[]⟩) (t.each (Ge d c) 0).enc:=by
 obtain ⟨n,rfl⟩:=psc n (by omega);rw [c99];have hc:=Xk (F:=131) (caps:=[.fp [.int .i64 c] 0,.fp [.int .i64 d] 0]) (g:=Ge d c) (c:=1) (dC _) (fun t a=>zH K t a/\a<=1000000000/\a+2 * t.wt<=1000000000)
  (fun op m ks a i t h hg ho=>⟨Qj op m ks a i t h.1 hg ho,by
   have hb:=AW op i;have hwm:=Cb (Aje hg)
   have:=h.2.2
   simp only [Tm.wt] at this;omega,by
   have hb:=AW op i;have hwm:=Cb (Aje hg)
   have:=h.2.2
   simp only [Tm.wt] at this;omega⟩)
  (fun n hn m ks a h=>by
   obtain ⟨rfl,h1,h2,h3⟩:=OQ h.1;exact YI hn d c m a [] h1 (by omega) h3 (by omega) (by omega) (by omega))
  n t 0 (by omega) hw (by omega) (by omega) ⟨⟨by omega,K,hs,by omega⟩,by omega,by omega⟩
 generalize t.each (Ge d c) 0=y at hc;obtain ⟨o2,p2,l2⟩:=y;obtain ⟨o,p,l⟩:=t;rw [Am,Am] at hc;rw [Am,Am];simp only [S99,↓XX,XY,↓reduceIte,seval,↓gen_val',↓qU]
 (try unfold is0);rw [Wu hc rfl rfl (by rfl) (by rfl) (by rfl) (by simp) (by simp) rfl]
 simp only [↓XX,XY,↓reduceIte,seval,↓QG,↓LJ];exact Aw _ _
mutual
theorem I2 (d c:Int):∀(t:Tm) (k:Nat) (a:Int),t.sc k->k+2 * t.wt<=2000000000->-1000000000<=d->d<=1000000000->t.each (Ge d c) a=t.shift d (c+a)
 | .mk op m ks,k,a,h,hk,h1,h2=>by
  rw [Tm.sc] at h;rw [Tm.wt] at hk;by_cases ho:op=1
  ·subst ho;have h3:ar 1=some 0:=by decide
   rw [h3,if_pos rfl] at h;have h4:ks=[]:=Ajr.1 (by have:=h.1;simp only [AiZ] at this;omega);subst h4;rw [Tm.each,if_pos rfl,Ge,Tm.shift,Tm.shiftL];have hw:BC (m+d)=m+d:=by
    have:=h.2.1
    rw [Ax]<;>omega
   rw [hw];by_cases hc:c<=m - a
   ·rw [if_pos hc,if_pos ⟨rfl,by omega⟩]
   ·rw [if_neg hc,if_neg (fun h=>hc (by omega))]
  ·rw [Tm.each,if_neg ho,Tm.shift,if_neg (fun h=>ho h.1)];congr 1
   have:=eachL_shift d c op 0 ks k a h.2.2 (by omega) h1 h2
   exact this
theorem eachL_shift (d c:Int):∀(op:Int) (i:Nat) (l:List Tm) (k:Nat) (a:Int),Tm.scL op i l k->k+2+2 * Tm.wtL l<=2000000000->-1000000000<=d->d<=1000000000->Tm.eachL (Ge d c) op i l a=Tm.shiftL op i l d (c+a)
 | _,_,[],_,_,_,_,_,_=>by rw [Tm.eachL,Tm.shiftL]
 | op,i,t::l,k,a,h,hk,h1,h2=>by
  rw [Tm.scL] at h;rw [Tm.eachL,Tm.shiftL];have hb:=AW op i;rw [Tm.wtL] at hk;rw [I2 d c t (k+Ak op i) (a+Ak op i) h.1 (by omega) h1 h2,eachL_shift d c op (i+1) l k a h.2 (by omega) h1 h2,Int.add_assoc]
end
def Hu (n:Int) (u:Tm):Tm->Int->Tm
 | .mk _ m _,a=>if n<m - a then .mk 1 (m+-1) [] else if m - a=n then u.each (Ge a 0) 0 else .mk 1 (m+0) []
theorem tK (caps:List FV) (ih:Ah) (xs:List IV) (h0:Hp) (k:KT (IV×Hp)):CN EE ih (.fv (.func (.func 147) [] caps)) xs h0 k=A5 [] false false ih 147 (xs++caps.map .fv) h0 k :=Y9 (by kernel_rfl) (by kernel_rfl) (by kernel_rfl) (by kernel_rfl) caps ..
theorem mL {n:Nat} {v:Int} {u:Tm} {K:Nat} (m a:Int) (ks:List Tm) (hn:u.wt+8<n) (hw:u.wk) (h2:2 * u.wt<=1000000000) (hs:u.sc K) (hK:K<=1000000000) (hm1:0<=m) (hm2:m<=100000000000) (ha:0<=a) (ha2:a<=1000000000) :
  BE (SS dt n 147 [.fv (Tm.mk 1 m ks).enc,iv a,.fv (.fp [.int .i64 v] 0),.fv (.fp [.int .i64 u.op,.int .i64 u.n,.sl (u.kids.map Tm.enc)] 0)] ⟨[],[]⟩) (Hu v u (.mk 1 m ks) a).enc:=by
 obtain ⟨n,rfl⟩:=psc n (by omega);rw [Aff];have hw1:BC (m - a)=m - a:=by rw [Ax]<;>omega
 have h1:=I8 (n:=n) (by omega) 1 m ks (-1) (by omega) (by omega);have h0:=I8 (n:=n) (by omega) 1 m ks 0 (by omega) (by omega);have hsh:=Q1 (n:=n) (d:=a) (c:=0) (by omega) hw h2 hs hK (by omega) (by omega);rw [Am] at h1 h0 ⊢;rw [Hu];by_cases h:v<m - a
 ·rw [if_pos h];rw [Am] at h1 ⊢;simp only [gN,↓XX,XY,↓reduceIte,seval,hw1,h,↓Af h1];exact Aw _ _
 ·rw [if_neg h];by_cases he:m - a=v
  ·have hwv:BC v=v:=by rw [<- he];exact hw1
   rw [if_pos he];generalize u.each (Ge a 0) 0=y at hsh;obtain ⟨o2,p2,l2⟩:=y;obtain ⟨o,p,l⟩:=u;rw [Am,Am] at hsh;rw [Am];simp only [gN,↓XX,XY,↓reduceIte,seval,hw1,hwv,h,he,Tm.op,Tm.n,Tm.kids,↓Av hsh,Int.lt_irrefl];exact Aw _ _
  ·rw [if_neg he];rw [Am] at h0 ⊢;simp only [gN,↓XX,XY,↓reduceIte,seval,hw1,h,he,↓Af h0];exact Aw _ _
theorem eS {n:Nat} {t u:Tm} {v:Int} {K:Nat} (hn:t.wt+u.wt+14<n) (hw:t.wk) (h2:2 * t.wt<=1000000000) (hs:t.sc K) (hwu:u.wk) (hu2:2 * u.wt<=1000000000) (hsu:u.sc K) (hK:K<=1000000000) :
  BE (SS dt n 135 [.fv t.enc,iv v,.fv u.enc] ⟨[],[]⟩) (t.each (Hu v u) 0).enc:=by
 obtain ⟨n,rfl⟩:=psc n (by omega);rw [AdP];have hc:=Xk (F:=147) (caps:=[.fp [.int .i64 v] 0,.fp [.int .i64 u.op,.int .i64 u.n,.sl (u.kids.map Tm.enc)] 0]) (g:=Hu v u) (c:=u.wt+8) (tK _) (fun t a=>zH K t a/\a<=1000000000/\a+2 * t.wt<=1000000000)
  (fun op m ks a i t h hg ho=>⟨Qj op m ks a i t h.1 hg ho,by
   have hb:=AW op i;have hwm:=Cb (Aje hg)
   have:=h.2.2
   simp only [Tm.wt] at this;omega,by
   have hb:=AW op i;have hwm:=Cb (Aje hg)
   have:=h.2.2
   simp only [Tm.wt] at this;omega⟩)
  (fun n hn m ks a h=>by
   obtain ⟨rfl,h1,h2,h3⟩:=OQ h.1;exact mL m a [] hn hwu hu2 hsu hK h1 (by omega) h3 (by omega))
  n t 0 (by omega) hw (by omega) (by omega) ⟨⟨by omega,K,hs,by omega⟩,by omega,by omega⟩
 generalize t.each (Hu v u) 0=y at hc;obtain ⟨o2,p2,l2⟩:=y;obtain ⟨o,p,l⟩:=t;obtain ⟨o3,p3,l3⟩:=u;rw [Am,Am] at hc;rw [Am,Am,Am];simp only [Tm.op,Tm.n,Tm.kids] at hc;simp only [wO,↓XX,XY,↓reduceIte,seval,↓gen_val',↓qU]
 (try unfold is0);rw [Wu hc rfl rfl (by rfl) (by rfl) (by rfl) (by simp) (by simp) rfl]
 simp only [↓XX,XY,↓reduceIte,seval,↓QG,↓LJ];exact Aw _ _
mutual
def Tm.some1 (g:Int->Int->Bool):Tm->Int->Bool
 | .mk op m ks,a=>if op=1 then g m a else Tm.someL g op 0 ks a
def Tm.someL (g:Int->Int->Bool):Int->Nat->List Tm->Int->Bool
 | _,_,[],_=>false
 | op,i,t::l,a=>t.some1 g (a+Ak op i) || Tm.someL g op (i+1) l a
end
def Ml (v:Int) (m a:Int):Bool:=decide (m - a=v) && decide (a<=m)
theorem jF (caps:List FV) (ih:Ah) (xs:List IV) (h0:Hp) (k:KT (IV×Hp)):CN EE ih (.fv (.func (.func 146) [] caps)) xs h0 k=A5 [] false false ih 146 (xs++caps.map .fv) h0 k :=Y9 (by kernel_rfl) (by kernel_rfl) (by kernel_rfl) (by kernel_rfl) caps ..
theorem bM {n:Nat} (hn:0<n) (v m a:Int) (hm1:0<=m) (hm2:m<=100000000000) (ha:0<=a) (ha2:a<=1000000000):BE (SS dt n 146 [iv m,iv a,.fv (.fp [.int .i64 v] 0)] ⟨[],[]⟩) (.bool (Ml v m a)):=by
 obtain ⟨n,rfl⟩:=psc n (by omega);rw [Adt];have hw1:BC (m - a)=m - a:=by rw [Ax]<;>omega
 unfold Ml;by_cases h:m - a=v
 ·have hwv:BC v=v:=by rw [<- h];exact hw1
  rw [decide_eq_true h];by_cases h':a<=m
  ·rw [decide_eq_true h'];simp only [Z2,↓XX,XY,↓reduceIte,seval,hw1,hwv,h,h'];exact Aw _ _
  ·rw [decide_eq_false h'];simp only [Z2,↓XX,XY,↓reduceIte,seval,hw1,hwv,h,h'];exact Aw _ _
 ·rw [decide_eq_false h];simp only [Z2,↓XX,XY,↓reduceIte,seval,hw1,h];exact Aw _ _
theorem jH {F:FuncId} {caps:List FV} {g:Int->Int->Bool} {c:Nat} (hd:∀(ih:Ah) (xs:List IV) (h0:Hp) (k:KT (IV×Hp)),CN EE ih (.fv (.func (.func F) [] caps)) xs h0 k=A5 [] false false ih F (xs++caps.map .fv) h0 k)
  (P:Tm->Int->Prop) (hP:∀op m ks a i t,P (.mk op m ks) a->ks[i]?=some t->op≠1->P t (a+Ak op i))
  (hg:∀n,c<n->∀m ks a,P (.mk 1 m ks) a->BE (SS dt n F (iv m::iv a::caps.map .fv) ⟨[],[]⟩) (.bool (g m a))) :
  ∀(n:Nat) (t:Tm) (a:Int),t.wt+c+3<n->0<=a->a+2 * t.wt<=1000000000->P t a->IN (SS dt n 145 [.fv t.enc,iv a,.fv (.func (.func F) [] caps)] ⟨[],[]⟩) (.bool (t.some1 g a)):=by
 intro n
 induction n with
 | zero=>intro t a h;omega
 | succ n ih =>
  intro t a hn ha ha2 hPt;obtain ⟨op,m,ks⟩:=t;simp only [Tm.wt] at hn ha2;rw [Afc,Am];have hlen:=Dp ks;by_cases h1:op=1
  ·subst h1;rw [Tm.some1,if_pos rfl];have hc:=hg n (by omega) m ks a hPt;have hi:∀(own:List (Nat×Blk)) (k:KT (IV×Hp)),A5 [] false false (SS dt n) F ([iv m,iv a]++caps.map .fv) ⟨own,[]⟩ k=k (.fv (.bool (g m a))) ⟨own,[]⟩ [] []:=by
    intro own k;refine K1 (vs:=.int .i64 m :: .int .i64 a::caps) ?_ hc ⟨own,[]⟩ k;have hcaps:∀l:List FV,Bu (l.map .fv)=some l:=by
     intro l
     induction l with
     | nil=>rfl
     | cons x l ih=>simp [Bu,ih,Bd,FJ]
    simp [Bu,hcaps,Bd,FJ,iv]
   simp only [If,SX,↓XX,XY,↓reduceIte,seval,↓hd,↓hi];exact CB _ _
  ·rw [Tm.some1,if_neg h1];simp only [If,SX,↓XX,XY,↓reduceIte,seval,h1,↓AI,XD,heldB,AS,XE];refine Ba (Q:=fun r=>IN r _) (fun k V H=>∃(pre rest:List Tm),ks=pre++rest/\rest.length=k /\
     V=[iv a,.fv (.func (.func F) [] caps),.ptr (.own 152043520) 0,.fv (.sl (ks.map Tm.enc)),iv ks.length,iv pre.length] /\
     H=⟨[(152043520,.row [iv op,iv m,.fv (.sl (ks.map Tm.enc))] false)],[]⟩/\Tm.someL g op pre.length rest a=Tm.someL g op 0 ks a)
    ?_ n ks.length _ _ (by omega) ⟨[],ks,rfl,rfl,rfl,rfl,rfl⟩
   rintro k V H rec ⟨pre,rest,hks,hl,rfl,rfl,hts⟩ hrec;have hkl:ks.length=pre.length+rest.length:=by rw [hks];simp
   cases rest with
   | nil =>
    have hno:¬ ((pre.length:Int)<ks.length):=by rw [hkl];simp
    rw [Tm.someL] at hts;rw [<- hts];simp only [If,LI,SX,↓XX,XY,↓reduceIte,seval,hno];exact CB _ _
   | cons x rest =>
    have hi:(pre.length:Int)<ks.length:=by rw [hkl];simp;omega
    have hg2:=BY hks;have hxw:=Cb (t:=x) (l:=ks) (by rw [hks];simp);have hb:=J3 (n:=n) (by omega) op pre.length;have hble:=AW op pre.length;have hs:=ih x (a+Ak op pre.length) (by omega) (by omega) (by omega) (hP _ _ _ _ _ _ hPt hg2 h1);have hwa:BC (a+Ak op pre.length)=a+Ak op pre.length:=by rw [Ax]<;>omega
    have hwi:BC ((pre.length:Int)+1)=((pre++[x]).length:Int):=(Ax (by omega) (by omega)).trans (by simp);rw [Tm.someL] at hts;generalize x.some1 g (a+Ak op pre.length)=y at hs hts;obtain ⟨o,p,l⟩:=x;rw [Am] at hs;simp only [Ai3] at hl;cases y
    ·simp only [If,LI,SX,↓XX,XY,↓reduceIte,seval,hi,↓Bq (AN hg2) (Bk _ _ _),↓B8,↓Af hb,hwa,hwi,↓Av (eQ hs),↓AI,XD,heldB,AS,XE];exact hrec rest.length _ _ (by omega) ⟨pre++[.mk o p l],rest,by rw [hks];simp,rfl,rfl,rfl,by simpa using hts⟩
    ·rw [<- hts];simp only [If,LI,SX,↓XX,XY,↓reduceIte,seval,hi,↓Bq (AN hg2) (Bk _ _ _),↓B8,↓Af hb,hwa,hwi,↓Av (eQ hs),Bool.true_or];exact CB _ _
theorem Ux {n:Nat} {t:Tm} {v:Int} {K:Nat} (hn:t.wt+6<n) (h2:2 * t.wt<=1000000000) (hs:t.sc K) (hK:K<=1000000000):BE (SS dt n 134 [.fv t.enc,iv v] ⟨[],[]⟩) (.bool (t.some1 (Ml v) 0)):=by
 obtain ⟨n,rfl⟩:=psc n (by omega);rw [Aea];have hc:=jH (F:=146) (caps:=[.fp [.int .i64 v] 0]) (g:=Ml v) (c:=0) (jF _) (fun t a=>zH K t a/\a<=1000000000/\a+2 * t.wt<=1000000000)
  (fun op m ks a i t h hg ho=>⟨Qj op m ks a i t h.1 hg ho,by
   have hb:=AW op i;have hwm:=Cb (Aje hg)
   have:=h.2.2
   simp only [Tm.wt] at this;omega,by
   have hb:=AW op i;have hwm:=Cb (Aje hg)
   have:=h.2.2
   simp only [Tm.wt] at this;omega⟩)
  (fun n hn m ks a h=>by
   obtain ⟨rfl,h1,h2,h3⟩:=OQ h.1;exact bM hn v m a h1 (by omega) h3 (by omega))
  n t 0 (by omega) (by omega) (by omega) ⟨⟨by omega,K,hs,by omega⟩,by omega,by omega⟩
 obtain ⟨o,p,l⟩:=t;rw [Am] at hc ⊢;simp only [xX,↓XX,XY,↓reduceIte,seval,↓gen_val',↓zC]
 (try unfold is0);rw [kJ hc rfl rfl (by rfl) (by simp) rfl]
 exact Aw _ _
mutual
theorem IB (v:Int) (u:Tm) {K:Nat} (hu:u.sc K) (huw:K+2 * u.wt<=1000000000):∀(t:Tm) (k:Nat) (a:Int),t.sc k->k+2 * t.wt<=1000000000->0<=a->a+2 * t.wt<=1000000000->t.each (Hu v u) a=t.subst (v+a) a u
 | .mk op m ks,k,a,h,hk,h1,h2=>by
  rw [Tm.sc] at h;rw [Tm.wt] at hk h2;by_cases ho:op=1
  ·subst ho;have h3:ar 1=some 0:=by decide
   rw [h3,if_pos rfl] at h;have h4:ks=[]:=Ajr.1 (by have:=h.1;simp only [AiZ] at this;omega);subst h4;rw [Tm.each,if_pos rfl,Hu,Tm.subst,if_pos rfl];have hm:=h.2.1;by_cases hc:v<m - a
   ·rw [if_pos hc,if_neg (by omega),if_pos (by omega),Ax (by omega) (by omega)];rfl
   ·rw [if_neg hc];by_cases he:m - a=v
    ·rw [if_pos he,if_pos (by omega),I2 a 0 u K 0 hu (by omega) (by omega) (by omega)];rfl
    ·rw [if_neg he,if_neg (by omega),if_neg (by omega),Int.add_zero]
  ·rw [Tm.each,if_neg ho,Tm.subst,if_neg ho];rw [eachL_subst v u hu huw op 0 ks k a h.2.2 (by omega) h1 (by omega)]
theorem eachL_subst (v:Int) (u:Tm) {K:Nat} (hu:u.sc K) (huw:K+2 * u.wt<=1000000000):∀(op:Int) (i:Nat) (l:List Tm) (k:Nat) (a:Int),Tm.scL op i l k->k+2+2 * Tm.wtL l<=1000000000->0<=a->a+2+2 * Tm.wtL l<=1000000000->Tm.eachL (Hu v u) op i l a=Tm.substL op i l (v+a) a u
 | _,_,[],_,_,_,_,_,_=>by rw [Tm.eachL,Tm.substL]
 | op,i,t::l,k,a,h,hk,h1,h2=>by
  rw [Tm.scL] at h;rw [Tm.eachL,Tm.substL];have hb:=AW op i;rw [Tm.wtL] at hk h2;rw [IB v u hu huw t (k+Ak op i) (a+Ak op i) h.1 (by omega) (by omega) (by omega),eachL_subst v u hu huw op (i+1) l k a h.2 (by omega) h1 (by omega),Int.add_assoc]
end
mutual
theorem Ks (v:Int) (hv:0<=v):∀(t:Tm) (a:Int),0<=a->t.some1 (Ml v) a=t.free (v+a)
 | .mk op m ks,a,h1=>by
  by_cases ho:op=1
  ·subst ho;rw [Tm.some1,if_pos rfl,Tm.free,if_pos rfl,Ml];by_cases h:m=v+a
   ·rw [decide_eq_true h,decide_eq_true (by omega:m - a=v),decide_eq_true (by omega:a<=m)];rfl
   ·rw [decide_eq_false h,decide_eq_false (by omega:¬ m - a=v)];rfl
  ·rw [Tm.some1,if_neg ho,Tm.free,if_neg ho,someL_free v hv op 0 ks a h1]
theorem someL_free (v:Int) (hv:0<=v):∀(op:Int) (i:Nat) (l:List Tm) (a:Int),0<=a->Tm.someL (Ml v) op i l a=Tm.freeL op i l (v+a)
 | _,_,[],_,_=>by rw [Tm.someL,Tm.freeL]
 | op,i,t::l,a,h1=>by
  rw [Tm.someL,Tm.freeL,Ks v hv t (a+Ak op i) (by omega),someL_free v hv op (i+1) l a h1,Int.add_assoc]
end
def QU {n:Nat} {K:Nat} {op m:Int} {z b:Tm} (hn:b.wt+20<n) (hk:b.op=5->∃f x,b.kids=[f,x]) (hw:b.wk) (h2:2 * b.wt<=100000000) (hs:b.sc K) (hK:K<=100000000) :
  IN (SS dt n 151 [.fv (Tm.mk op m [z,b]).enc] ⟨[],[]⟩) (Y6 (.mk op m [z,b])).enc:=by
 obtain ⟨n,rfl⟩:=psc n (by omega);rw [Aek];obtain ⟨o1,n1,k1⟩:=b;by_cases h5:o1=5
 ·subst h5;obtain ⟨f,x,hkk⟩:=hk rfl;simp only [Tm.kids] at hkk;subst hkk;obtain ⟨o2,n2,k2⟩:=x;rw [Tm.sc] at hs;have hf:f.sc K:=by
   have:=hs.2.2
   rw [Tm.scL] at this;exact this.1
  have hwf:f.wk:=by rw [Tm.wk] at hw;exact KY hw.2 (by simp)
  simp only [Tm.wt,Tm.wtL] at hn h2;have hfree:=Ux (n:=n) (t:=f) (v:=0) (K:=K) (by omega) (by omega) hf (by omega);rw [Ks 0 (by omega) f 0 (by omega)] at hfree;have hsub:=eS (n:=n) (t:=f) (u:=AY) (v:=0) (K:=K) (by simp only [AY,Tm.wt,Tm.wtL];omega) hwf (by omega) hf (by simp [AY,Tm.wk,Tm.wkL]) (by simp [AY,Tm.wt,Tm.wtL]) (GW K) (by omega);rw [IB 0 AY (K:=K) (GW K) (by simp only [AY,Tm.wt,Tm.wtL];omega) f K 0 hf (by omega) (by omega) (by omega)] at hsub;simp only [Int.add_zero] at hfree hsub;rw [Y6];generalize hr:f.subst 0 0 AY=u at hsub;generalize f.free 0=fr at hfree;obtain ⟨o4,n4,k4⟩:=u;obtain ⟨o3,n3,k3⟩:=f;obtain ⟨oz,nz,kz⟩:=z;rw [AY] at hsub;simp only [Am,Ai4] at hfree hsub;by_cases h1:o2=1
  ·by_cases h0:n2=0
   ·cases fr
    ·rw [if_pos ⟨rfl,h1,h0,rfl⟩];have hs3:=fun (own:List (Nat×Blk)) (k:KT (IV×Hp))=>Av (a:=.fv (.agg [.int .i64 o3,.int .i64 n3,.sl (k3.map Tm.enc)])) (b:=iv 0) (c:=.agg [iv 11,iv 0,.nils]) hsub rfl rfl rfl ⟨own,[]⟩ k;simp only [Am,Ai5,Ai4];simp only [↓eV,↓XX,XY,↓reduceIte,seval,↓Eo,↓EH,↓Gd,h1,h0,↓Af hfree,↓hs3];exact CB _ _
    ·rw [if_neg (by simp)];simp only [Am,Ai5,Ai4];simp only [↓eV,↓XX,XY,↓reduceIte,seval,↓Eo,↓EH,↓Gd,h1,h0,↓Af hfree];exact CB _ _
   ·rw [if_neg (by simp [h0])];simp only [Am,Ai5,Ai4];simp only [↓eV,↓XX,XY,↓reduceIte,seval,↓Eo,↓EH,↓Gd,h1,h0];exact CB _ _
  ·rw [if_neg (by simp [h1])];simp only [Am,Ai5,Ai4];simp only [↓eV,↓XX,XY,↓reduceIte,seval,↓Eo,↓EH,↓Gd,h1];exact CB _ _
 ·rw [eG (by simpa [Tm.op] using h5)];obtain ⟨oz,nz,kz⟩:=z;simp only [Am,Ai5,Ai4];simp only [↓eV,↓XX,XY,↓reduceIte,seval,↓Eo,↓EH,↓Gd,h5];exact CB _ _
def j0 {n:Nat} {op m:Int} {z a b:Tm} (hn:2 * a.wt+10<n) (hka:a.op=8->∃x,a.kids=[x]) (hkb:b.op=9->∃y,b.kids=[y]) (h2:a.wt<=100000000) :
  IN (SS dt n 152 [.fv (Tm.mk op m [z,a,b]).enc] ⟨[],[]⟩) (Y1 (.mk op m [z,a,b])).enc:=by
 obtain ⟨n,rfl⟩:=psc n (by omega);rw [Ad0];obtain ⟨o1,n1,k1⟩:=a;obtain ⟨o2,n2,k2⟩:=b;obtain ⟨oz,nz,kz⟩:=z;by_cases h8:o1=8
 ·by_cases h9:o2=9
  ·subst h8 h9;obtain ⟨x,hx⟩:=hka rfl;obtain ⟨y,hy⟩:=hkb rfl;simp only [Tm.kids] at hx hy;subst hx hy;simp only [Tm.wt,Tm.wtL] at hn h2;have hs:=R7 n x y (by omega) (by omega);rw [Y1];generalize x.same y=v at hs;obtain ⟨o3,n3,k3⟩:=x;obtain ⟨o4,n4,k4⟩:=y;simp only [Am] at hs;cases v
   ·rw [if_neg (by simp)];simp only [Am,Ai5,Ai4];simp only [Hx,HK,Yk,↓XX,XY,↓reduceIte,seval,↓Eo,↓EH,↓Gd,↓Af hs];exact CB _ _
   ·rw [if_pos ⟨rfl,rfl,rfl⟩];simp only [Am,Ai5,Ai4];simp only [Hx,HK,Yk,↓XX,XY,↓reduceIte,seval,↓Eo,↓EH,↓Gd,↓Af hs];exact CB _ _
  ·rw [Qi (by simp [Tm.op,h9])];simp only [Am,Ai5,Ai4];simp only [Hx,HK,Yk,↓XX,XY,↓reduceIte,seval,↓Eo,↓EH,↓Gd,h8,h9];exact CB _ _
 ·rw [Qi (by simp [Tm.op,h8])];simp only [Am,Ai5,Ai4];simp only [Hx,HK,Yk,↓XX,XY,↓reduceIte,seval,↓Eo,↓EH,↓Gd,h8];exact CB _ _
def AcF {d:Nat} {l:List FV} (h:Hp) (lg:List Ref) (e:Option (IV×Hp)) (k:List FV->List (Ref×Blk)->List Ref->Option (IV×Hp)) :
  CO (DB (d+1)) (iv 11::iv 0 :: .nils::l.map .fv) h lg e k=k (.int .i64 11 :: .int .i64 0 :: .sl []::l) [] lg:=by
 show (CO (DB (d+1)) (l.map .fv) h lg e fun ys us lg=>Lf [] us fun w=>Lf [] w fun w=>Lf [] w fun w=>k (.int .i64 11 :: .int .i64 0 :: .sl []::ys) w lg)=_
 rw [MR];rfl
def xK {s:Nat} {l:List Tm} {ro:Bool} {a b:FV} {own:List (Nat×Blk)} {ext:List Blk} (hl:Ap s own=some (.row (iv 11::iv 0 :: .nils::(BJ l).map .fv) ro)) (hn:l.length<=90) (lg:List Ref) (e:Option (IV×Hp))
  (k:FV->List (Ref×Blk)->List Ref->Option (IV×Hp)):DB 12 (.agg [.fv a,.fv b,.slc (.own s) 3 (l.length+1)]) ⟨own,ext⟩ lg e k =
   k (.agg [a,b,.sl ((AY::l).map Tm.enc)]) [(.own s,.row (iv 11::iv 0 :: .nils::(BJ l).map .fv) true)] (.own s::lg):=by
 have hz:∀(lg:List Ref) (k:FV->List (Ref×Blk)->List Ref->Option (IV×Hp)),DB 11 (.slc (.own s) 3 (l.length+1)) ⟨own,ext⟩ lg e k=k (.sl ((AY::l).map Tm.enc)) [(.own s,.row (iv 11::iv 0 :: .nils::(BJ l).map .fv) true)] (.own s::lg):=by
  intro lg k;have hlen:(iv 11::iv 0 :: .nils::(BJ l).map IV.fv).length=3 * l.length+3:=by simp [GI]
  show (Dq (.own s) ⟨own,ext⟩ fun b=>DY b fun cells=>cond (Nat.ble cells.length 300) (cond (or (Nat.beq 3 0) (not (Nat.ble ((l.length+1) * 3) cells.length))) none
   (CO (DB 10) cells ⟨own,ext⟩ (.own s::lg) e fun cs u lg=>SH 3 (l.length+1) cs fun els=>k (.sl els) ((.own s,.row cells true)::u) lg)) e)=_
  rw [Jn,BA,hl];simp only [Ajt,HL];rw [hlen,Bp,decide_eq_true (by omega),iI,Bp,decide_eq_true (by omega)];simp only [Bool.not_true]
  show (CO (DB (9+1)) (iv 11::iv 0 :: .nils::(BJ l).map IV.fv) ⟨own,ext⟩ (.own s::lg) e fun cs u lg=>SH 3 (l.length+1) cs fun els=>k (.sl els) ((.own s,.row (iv 11::iv 0 :: .nils::(BJ l).map IV.fv) true)::u) lg)=_
  rw [AcF];exact yV (AY::l) _
 rw [aF,show Nat.ble [IV.fv a,.fv b,.slc (.own s) 3 (l.length+1)].length 300=true from rfl,iI,SC,Iw,SC,Iw,SC,hz,xV]
 rfl
def gG {ih:Ah} {f:FuncId} {w a b:FV} {s:Nat} {l:List Tm} {ro:Bool} {own own':List (Nat×Blk)} (hr:IN (ih f [.fv (.agg [a,b,.sl ((AY::l).map Tm.enc)])] ⟨[],[]⟩) w) (hl:Ap s own=some (.row (iv 11::iv 0 :: .nils::(BJ l).map .fv) ro)) (hn:l.length<=90)
  (ho:AO s (.row (iv 11::iv 0 :: .nils::(BJ l).map .fv) true) own=own') (k:KT (IV×Hp)) :
  A5 [] false false ih f [.agg [.fv a,.fv b,.slc (.own s) 3 (l.length+1)]] ⟨own,[]⟩ k=k (.fv w) ⟨own',[]⟩ [.own s] [.own s]:=by
 subst ho;refine Uc (vs:=[.agg [a,b,.sl ((AY::l).map Tm.enc)]]) (u:=[(.own s,.row (iv 11::iv 0 :: .nils::(BJ l).map .fv) true)]) (lg:=[.own s]) ?_ hr ?_ k
 ·intro e k;rw [xT,xK hl hn,xY];rfl
 ·intro k
  show (E3 own s fun _=>Bc own s (.row (iv 11::iv 0 :: .nils::(BJ l).map .fv) true) fun own=>k ⟨own,_⟩)=_
  rw [BA,hl,Ajt,BS]
def UD {β:Type} {n:Nat} (h:0<n) (r:Ref) (k:IV->Option β):AQ 3 (.slc r 3 n) (iv 0) k=k (.ptr r 0):=Mx (i:=0) h r k
def scz (x:Tm) (l:List Tm):Bh (BZ (x::l) 0) 0 [iv 11,iv 0,.nils]=iv 11::iv 0 :: .nils::(BJ l).map .fv:=by obtain ⟨o,p,k⟩:=x;simp [BZ,BJ,J1,Bh]
def blz (x:Tm) (l:List Tm):Nat.ble 3 (BZ (x::l) 0).length=true:=by rw [Bp];apply decide_eq_true;simp [BZ,J1,GI];omega
abbrev Aet (op m:Int) (ks done:List Tm) (r:Nat):Hp :=⟨[(156237824,.row [iv op,iv m,.fv (.sl (ks.map Tm.enc))] false),(156237825,.row [iv 0,iv 0,.nils] false),(156238855,.row (BZ done r) false),(156238857,.row [iv op,iv m,.slc (.own 156238855) 3 ks.length] false)],[]⟩
theorem sZ:∀(n:Nat) (t:Tm) (k:Nat),t.sc k->2 * t.wt+25<n->k+2 * t.wt<=90000000->IN (SS dt n 149 [.fv t.enc] ⟨[],[]⟩) t.eta.enc:=by
 intro n
 induction n with
 | zero=>intro t k _ h;omega
 | succ n ih =>
  intro t k hs hn hw;have hes:=Ms t k hs (by omega);have hwk:=CT t k hs;obtain ⟨op,m,ks⟩:=t;rw [Tm.sc] at hs;rw [Tm.wk] at hwk;simp only [Tm.wt] at hn hw;rw [AfE,Am];have hlen:=Dp ks;have hkd:=etaL_sc op 0 ks k hs.2.2 (by omega);simp only [Gw,Gv,Ta,↓XX,XY,↓reduceIte,seval,↓y8 (show ks.length<=1000 by omega),↓AI,XD,heldB,AS,XE,GC,EX]
  have hR:(Tm.mk op m ks).eta=if op=4 then Y6 (.mk 4 m (NE (Tm.etaL ks))) else if op=7 then Y1 (.mk 7 m (NE (Tm.etaL ks))) else .mk op m (Tm.etaL ks):=by rw [Tm.eta]
  rw [hR];refine Ba (Q:=fun r=>IN r _) (fun j V H=>∃(pre rest done:List Tm),ks=pre++rest/\rest.length=j/\done.length=pre.length /\
    V=[.ptr (.own 156237824) 0,.ptr (.own 156237825) 0,.ptr (.own 156238857) 0,.fv (.sl (ks.map Tm.enc)),iv ks.length,iv pre.length] /\
    H=Aet op m ks done rest.length/\done++Tm.etaL rest=Tm.etaL ks)
   ?_ n ks.length _ _ (by omega) ⟨[],ks,[],rfl,rfl,rfl,rfl,rfl,rfl⟩
  rintro j V H rec ⟨pre,rest,done,hks,hl,hdl,rfl,rfl,hts⟩ hrec;have hkl:ks.length=pre.length+rest.length:=by rw [hks];simp
  cases rest with
  | nil =>
   have hno:¬ ((pre.length:Int)<ks.length):=by rw [hkl];simp
   rw [Tm.etaL,Ajm] at hts;have hdk:ks.length=done.length:=by rw [hdl,hkl];simp
   rw [<- hts] at hkd ⊢;rw [Ajh];by_cases h4:op=4
   ·subst h4;rw [if_pos rfl];have h2:ks.length=2:=by have:=hs.1;rw [show ar 4=some 2 by decide] at this;simp only [AiZ] at this;omega
    have hd2:done.length=2:=by omega
    match done,hd2,hdk,hkd with
    | [a,b],_,hdk,hkd =>
     simp only [Tm.scL,Tm.wtL] at hkd;have hb1:Ak 4 1=1:=by decide
     have hbs:=hkd.1.2.1;rw [hb1] at hbs;have hfn:=QU (n:=n) (K:=k+1) (op:=4) (m:=m) (z:=AY) (b:=b) (by omega) (fun h5=>by
      have:=F9 hbs h5 (show ar 5=some 2 by decide)
      match hbk:b.kids,this with
      | [f,x],_=>exact ⟨f,x,rfl⟩) (CT b _ hbs) (by omega) hbs (by omega)
     rw [NE];rw [Am] at hfn;generalize Y6 (.mk 4 m [AY,b])=y at hfn;obtain ⟨o5,p5,k5⟩:=y;rw [Am] at hfn;rw [Am];have h02:0<ks.length:=by omega
     have hi:=fun (own own':List (Nat×Blk)) (hlk:Ap 156238855 own=some (.row (iv 11::iv 0 :: .nils::(BJ [b]).map .fv) false)) (ho:AO 156238855 (.row (iv 11::iv 0 :: .nils::(BJ [b]).map .fv) true) own=own')=>gG hfn hlk (by simp) ho;simp only [Gw,Gv,Hl,Ta,↓XX,XY,↓reduceIte,seval,hno,↓UD h02,↓blz,↓scz];rw [show ks.length=[b].length+1 by rw [h2];rfl]
     (try unfold is0);rw [hi _ _ (by rfl) (by rfl)]
     simp only [↓XX,XY,↓reduceIte,seval,↓QG,↓LJ];exact CB _ _
   ·rw [if_neg h4];by_cases h7:op=7
    ·subst h7;rw [if_pos rfl];have h2:ks.length=3:=by have:=hs.1;rw [show ar 7=some 3 by decide] at this;simp only [AiZ] at this;omega
     have hd2:done.length=3:=by omega
     match done,hd2,hdk,hkd with
     | [a,b,c],_,hdk,hkd =>
      simp only [Tm.scL,Tm.wtL] at hkd;have hb1:Ak 7 1=0:=by decide
      have hb2:Ak 7 2=0:=by decide
      have hbs:=hkd.1.2.1;have hcs:=hkd.1.2.2.1;rw [hb1] at hbs;rw [hb2] at hcs;have hfn:=j0 (n:=n) (op:=7) (m:=m) (z:=AY) (a:=b) (b:=c) (by omega) (fun h5=>by
       have:=F9 hbs h5 (show ar 8=some 1 by decide)
       match hbk:b.kids,this with
       | [f],_=>exact ⟨f,rfl⟩) (fun h5=>by
       have:=F9 hcs h5 (show ar 9=some 1 by decide)
       match hbk:c.kids,this with
       | [f],_=>exact ⟨f,rfl⟩) (by omega)
      rw [NE];rw [Am] at hfn;generalize Y1 (.mk 7 m [AY,b,c])=y at hfn;obtain ⟨o5,p5,k5⟩:=y;rw [Am] at hfn;rw [Am];have h02:0<ks.length:=by omega
      have hi:=fun (own own':List (Nat×Blk)) (hlk:Ap 156238855 own=some (.row (iv 11::iv 0 :: .nils::(BJ [b,c]).map .fv) false)) (ho:AO 156238855 (.row (iv 11::iv 0 :: .nils::(BJ [b,c]).map .fv) true) own=own')=>gG hfn hlk (by simp) ho;simp only [Gw,Gv,Hl,Ta,↓XX,XY,↓reduceIte,seval,hno,↓UD h02,↓blz,↓scz];rw [show ks.length=[b,c].length+1 by rw [h2];rfl]
      (try unfold is0);rw [hi _ _ (by rfl) (by rfl)]
      simp only [↓XX,XY,↓reduceIte,seval,↓QG,↓LJ];exact CB _ _
    ·rw [if_neg h7,Am];simp only [Gw,Gv,Hl,Ta,↓XX,XY,↓reduceIte,seval,hno,h4,h7];rw [hdk];exact ⟨_,_,rfl,_,_,fun e0 K=>cE (by rfl) (by omega) [] e0 K⟩
  | cons x rest =>
   have hi:(pre.length:Int)<ks.length:=by rw [hkl];simp;omega
   have hg2:=BY hks;have hxw:=Cb (t:=x) (l:=ks) (by rw [hks];simp);have hxs:=GT hs.2.2 hg2;rw [Ajy] at hxs;have hble:=AW op pre.length;have hs5:=ih x _ hxs (by omega) (by omega);have hwi:BC ((pre.length:Int)+1)=((pre++[x]).length:Int):=(Ax (by omega) (by omega)).trans (by simp);have hin:pre.length<ks.length:=by omega
   rw [Tm.etaL] at hts;generalize x.eta=y at hs5 hts;have hst:=fun {β:Type}=>Vy (β:=β) done rest.length y.op y.n y.kids;rw [hdl] at hst;obtain ⟨o,p,l⟩:=x;obtain ⟨o2,p2,l2⟩:=y;simp only [Tm.op,Tm.n,Tm.kids] at hst;rw [Am,Am] at hs5;simp only [Ai3] at hl;simp only [Gw,Gv,Hl,Ta,↓XX,XY,↓reduceIte,seval,hi,↓Bq (AN hg2) (Bk _ _ _),↓B8,hwi,↓Aq (eQ hs5),↓Mx hin,↓hst,↓AI,XD,heldB,AS,XE,GC,EX];exact hrec rest.length _ _ (by omega) ⟨pre++[.mk o p l],rest,done++[.mk o2 p2 l2],by rw [hks];simp,rfl,by simp [hdl],rfl,rfl,by rw [<- hts];simp⟩
theorem oY {op:Int} {r:Nat} (h:ar op=some r):¬ (0<=GO op/\GO op≠(r:Int)):=by
 unfold GO;by_cases h1:op=8\/op=9\/op=12\/op=19\/op=30
 ·rw [if_pos h1];rcases h1 with rfl | rfl | rfl | rfl | rfl<;>(cases (show r=1 from by have:=h;revert this;simp [ar];omega);decide)
 ·rw [if_neg h1];by_cases h2:op=4\/op=5
  ·rw [if_pos h2];rcases h2 with rfl | rfl<;>(cases (show r=2 from by have:=h;revert this;simp [ar];omega);decide)
  ·rw [if_neg h2];by_cases h7:op=7
   ·subst h7;cases (show r=3 from by have:=h;revert this;simp [ar];omega);decide
   ·rw [if_neg h7];by_cases h13:op=13
    ·subst h13;cases (show r=4 from by have:=h;revert this;simp [ar];omega);decide
    ·rw [if_neg h13];omega
mutual
theorem KW:∀(t:Tm) (k:Nat),t.sc k->t.shaped=true
 | .mk op n ks,k,h=>by
  rw [Tm.sc] at h;rw [Tm.shaped,scL_shaped op 0 ks k h.2.2];have h1:=oY h.1;have h2:¬ (op=1/\n<0):=by
   rintro ⟨rfl,h3⟩
   have:=h.2.1
   rw [if_pos rfl] at this;omega
  rw [decide_eq_false h1,decide_eq_false h2];rfl
theorem scL_shaped:∀(op:Int) (i:Nat) (l:List Tm) (k:Nat),Tm.scL op i l k->Tm.shapedL l=true
 | _,_,[],_,_=>by rw [Tm.shapedL]
 | op,i,t::l,k,h=>by
  rw [Tm.scL] at h;rw [Tm.shapedL,KW t _ h.1,scL_shaped op (i+1) l k h.2];rfl
end
def mJ {n:Nat} {t:Tm} {k:Nat} (hs:t.sc k) (hn:2 * t.wt+26<n) (hw:k+2 * t.wt<=90000000):BE (SS dt n 138 [.fv t.enc] ⟨[],[]⟩) t.eta.enc:=by obtain ⟨n,rfl⟩:=psc n (by omega);rw [AfV];have h1:=Oh n t (by omega) (by omega);rw [KW t k hs] at h1;have h2:=eQ (sZ n t k hs (by omega) hw);generalize t.eta=y at h2;obtain ⟨o,p,l⟩:=t;obtain ⟨o2,p2,l2⟩:=y;rw [Am] at h1;rw [Am,Am] at h2 ⊢;simp only [rT,↓XX,XY,↓reduceIte,seval,↓Aq h1,↓Aq h2];exact Aw _ _
section
variable {β:Type} {E:Env}
theorem z4 {t:TypeId} {size:Nat} (T:SliceT E t size) {x:IV} {es es2:List FV} (hx:Plain2 x es2) (h1:BI size es2=true) (h2:BI size es=true) (hne:es2.isEmpty=false) (hb:es.length+es2.length<=1000000) (s:Nat) (own:List (Nat×Blk)) (ext:List Blk)
  (k:KT β):Az (AT E s false .append [t,t] [.clip es,x]) s ⟨own,ext⟩ k=CS own s (Bc own s (.tok (es.length+es2.length) size) fun own=>k (.app (.own s) (es++es2)) ⟨own,ext⟩ [] [.own s]):=by
 obtain ⟨a,b,e,z,ei,hT,he,rfl,h0,hby⟩:=T.h;have hlen:¬ (BI ei.size es=false\/(es.length+es2.length) * ei.bytes > 140737488355328\/es.length+es2.length > 1073741824):=by
  have:(es.length+es2.length) * ei.bytes<=1000000 * 100000:=Nat.mul_le_mul hb hby
  rw [h2];rintro (h | h | h)
  ·cases h
  ·omega
  ·omega
 have key:AT E s false .append [t,t] [.clip es,x]=.ret { eff:={ val:=.app (.own s) (es++es2),upd:=[] },new:=some (.tok (es++es2).length ei.size) }:=by
  show DK E s t (some t) false (.clip es) x=_
  simp only [DK,hT,Ajt,he,Pm hx,Rd.bind,h0,h1,false_or,Bool.true_eq_false,if_false];simp only [Cm,if_neg hlen,hne,Ajx,if_false]
 rw [key,Ajg];unfold Az;simp only [Rd.runLog]
 show (Hf (some (.tok (es.length+es2.length) ei.size)) s ⟨own,ext⟩ fun h=>fV 3 (.app (.own s) (es++es2)) fun v=>k v h [] ([]++[.own s]))=_
 simp only [Hf,Cz,Cj];rfl
theorem AaE {t a b e:TypeId} {z:List IV} (hT:E.T t=some ⟨a,b,.slice e,z⟩) (x:FV) (l:List FV) (k:IV->Option β):AP E t (.fv (.sl (x::l))) .nils k=k (.fv (.bool false)):=by
 show CZ E t .eql _ _ k=_
 rw [CZ,CJ]
 have:EL E .eql t (.fv (.sl (x::l))) .nils=some (.fv (.bool false)):=by simp only [EL,hT,TE,PX,Ajt]
 rw [this];rfl
theorem jG {t:TypeId} {size:Nat} (T:SliceT E t size) {es:List FV} (h1:BI size es=true) (s:Nat) (h:Hp) (k:KT β) :
  Az (Iz E t (.fv (.sl es)) none (some (iv es.length)) (some (iv es.length))) s h k=k (.clip es) h [] []:=by
 obtain ⟨a,b,e,z,ei,hT,he,rfl,h0,hby⟩:=T.h;have key:Iz E t (.fv (.sl es)) none (some (iv es.length)) (some (iv es.length))=.ret { eff:={ val:=.clip es,upd:=[] } }:=by
  have hn:Im (iv es.length) es.length=some es.length:=by simp [Im,iv]
  simp only [Iz,hT,he];rw [show C8 4096 (.fv (.sl es))=.ret (.sl es,[]) from rfl]
  simp [Rd.bind,h1,hn,FP]
 rw [key];exact FO _ s h k
end
theorem sW {ih:Ah} {f:FuncId} {a:IV} {x w:FV} (hr:BE (Ei true ih f [.fv x] []) w) (ha:Bd a=some x) (h:Hp) (k:KT (IV×Hp)):A5 [] true false ih f [a] h k=k (.fv w) h [] []:=by
 obtain ⟨v,own,e,hv⟩:=hr;have hu:∃u,(C8 4096 v).run ⟨own,[]⟩=some (w,u):=by
  rcases hv with ⟨u',lg',hf⟩ | ⟨hf,hu⟩
  ·exact Jw ⟨u',lg',hf⟩
  ·exact hu
 obtain ⟨u,hu⟩:=hu
 show Ea [] true false ih f [a] h k=_
 unfold Ea;have hz:=Hd [a] (T8 ha);simp only [hz,Rd.runLog,B4,DS,Ai4,Bg,CX (Cj 3),CX Cz,Ai5,e,hu,Ai2,IV.ren,IV.ren.renL,Ajx,if_false,Ajt]
 show (match laid h ([]++(BB []).zip []) with | none=>none | some h'=>fH h' fun h'=>fV 3 (.fv w) fun res=>k res h' [] _)=_
 simp only [BB,Ai4,List.zip_nil_left,Ajm,laid,In,Cj]
theorem vM {ih:Ah} {f:FuncId} {a:IV} {x:FV} {es:List FV} {own:List (Nat×Blk)} (hr:ih f [.fv x] ⟨[],[]⟩=some (.clip es,⟨own,[]⟩)) (ha:Bd a=some x) (h:Hp) (k:KT (IV×Hp)):A5 [] false true ih f [a] h k=k (.clip es) h [] []:=by
 show Ea [] false true ih f [a] h k=_
 unfold Ea;have hz:=Hd [a] (T8 ha);simp only [hz,Rd.runLog,B4,DS,Ai4,Bg,CX (Cj 3),CX Cz,Ai5,Ei,hr,Ai2,IV.ren,IV.ren.renL,Ajx,if_false,if_true,Ajt]
 show (match laid h ([]++(BB []).zip []) with | none=>none | some h'=>fH h' fun h'=>fV 3 (.clip es) fun res=>k res h' [] _)=_
 simp only [BB,Ai4,List.zip_nil_left,Ajm,laid,In,Cj]
end Idl
end Go.Proofs.YtnenpcghegcnhaaGreat
set_option maxRecDepth 20000
set_option maxHeartbeats 16000000
namespace Go.Proofs.YtnenpcghegcnhaaGreat
namespace Idl
def PN (X Y:Tm):Prop:=Ev 82 [.fv X.enc] (.tuple [Y.enc,.int .i64 0])
def PE (A:Tm):Prop:=Ev 138 [.fv A.enc] A.enc
def gI (G:FV) (st:Int) (t A:Tm):Prop:=Ev 58 [.fv G,iv st,.fv t.enc] (.tuple [A.enc,.int .i64 0])
def gC (G:FV) (st:Int) (t a:Tm):Prop:=Ev 102 [.fv G,iv st,.fv t.enc,.fv a.enc] (.int .i64 0)
def gL (G:FV) (t:Tm) (m:Int):Prop:=Ev 136 [.fv G,.fv t.enc] (.tuple [.int .i64 m,.int .i64 0])
def gU (G:FV) (a b B:Tm):Prop:=Ev 107 [.fv G,.fv a.enc,.fv b.enc] (.tuple [B.enc,.int .i64 0])
def gS (G:FV) (st:Int) (t:Tm) (op:Int) (A:Tm):Prop:=Ev 101 [.fv G,iv st,.fv t.enc,iv op] (.tuple [A.enc,.int .i64 0])
def gM (G:FV) (t A:Tm):Prop:=Ev 85 [.fv G,.fv t.enc] (.tuple [A.enc,.int .i64 0])
def gP (G:FV) (t A:Tm):Prop:=Ev 115 [.fv G,.fv t.enc] (.tuple [A.enc,.int .i64 0])
def gO (G:FV) (t A:Tm):Prop:=Ev 84 [.fv G,.fv t.enc] (.tuple [A.enc,.int .i64 0])
def gW (G:FV) (st:Int) (a:Tm) (G1:FV):Prop:=Ev 133 [.fv G,iv st,.fv a.enc] G1
def gA (G:FV) (st:Int) (a:Tm) (ks:List Tm):Prop:=Ev 105 [.fv G,iv st,.fv a.enc,.fv (.sl (ks.map Tm.enc))] (.int .i64 0)
def gE (a b:Tm):Prop:=Ev 62 [.fv a.enc,.fv b.enc] (.int .i64 0)
def Tv (t u Y:Tm):Prop:=Ev 137 [.fv t.enc,.fv u.enc] (.tuple [Y.enc,.int .i64 0])
def pSu (t u r:Tm):Prop:=Ev 135 [.fv t.enc,iv 0,.fv u.enc] r.enc
def pSh (t:Tm) (d c:Int) (r:Tm):Prop:=Ev 99 [.fv t.enc,iv d,iv c] r.enc
def pF (t:Tm) (w:Bool):Prop:=Ev 134 [.fv t.enc,iv 0] (.bool w)
def KI (g:AR) (st:Int) (t A:Tm):Prop:=gI (AM g) st t A
def KC (g:AR) (st:Int) (t a:Tm):Prop:=gC (AM g) st t a
def KL (g:AR) (t:Tm) (m:Int):Prop:=gL (AM g) t m
def KU (g:AR) (a b B:Tm):Prop:=gU (AM g) a b B
def Fc {n:Nat} (hn:0<n) (op:Int) (ks:List Tm):BE (SS dt n 71 [iv op,.fv (.sl (ks.map Tm.enc))] ⟨[],[]⟩) (Tm.mk op 0 ks).enc:=by obtain ⟨n,rfl⟩:=psc n (by omega);rw [c71,Am];simp only [S71,↓XX,XY,↓reduceIte,seval];exact A6 rfl
def zY {ih:Ah} {f:FuncId} {a b c d e:IV} {x y z u v w:FV} (hr:BE (ih f [.fv x,.fv y,.fv z,.fv u,.fv v] ⟨[],[]⟩) w) (ha:Bd a=some x) (hb:Bd b=some y) (hc:Bd c=some z) (hd:Bd d=some u) (he:Bd e=some v) (h:Hp)
  (k:KT (IV×Hp)):A5 [] false false ih f [a,b,c,d,e] h k=k (.fv w) h [] []:=K1 (by simp only [Bu,ha,hb,hc,hd,he];rfl) hr h k
def Ack (o1 n1:Int) (s:Nat) (h:Hp) (k:KT (IV×Hp)):Az (Al EE 29 1 [(0,.agg [.fv (.int .i64 o1),.fv (.int .i64 n1),.nils])]) s h k=k (.clip [.agg [.int .i64 o1,.int .i64 n1,.sl []]]) h [] []:=by
 have:Al EE 29 1 [(0,.agg [.fv (.int .i64 o1),.fv (.int .i64 n1),.nils])]=.ret { eff:={ val:=.clip [.agg [.int .i64 o1,.int .i64 n1,.sl []]],upd:=[] } }:=by simp only [Al,PH,kK];rw [if_neg (by decide)];rfl
 rw [this];exact FO _ s h k
def mZ (ih:Ah) (xs:List IV) (h0:Hp) (k:KT (IV×Hp)):CN EE ih (.fv (.func (.func 85) [] [])) xs h0 k=A5 [] false false ih 85 xs h0 k :=Oa (by kernel_rfl) (by kernel_rfl) (by kernel_rfl) (by kernel_rfl) ..
def yR (ih:Ah) (xs:List IV) (h0:Hp) (k:KT (IV×Hp)):CN EE ih (.fv (.func (.func 84) [] [])) xs h0 k=A5 [] false false ih 84 xs h0 k :=Oa (by kernel_rfl) (by kernel_rfl) (by kernel_rfl) (by kernel_rfl) ..
def k_e {a A:Tm} (h0:Ev 89 [.fv A.enc,.fv a.enc] (.tuple [.bool true,.int .i64 0])):gE A a:=by refine C7 200 h0 fun n hn h0=>?_;rw [c62];simp only [EM] at h0 ⊢;simp only [S62,↓XX,XY,↓reduceIte,seval,↓Af h0];exact A6 rfl
def k_c {G:FV} {st:Int} {t a A:Tm} (h0:gI G st t A) (h1:gE A a):gC G st t a:=by refine Om 200 h0 h1 fun n hn h0 h1=>?_;rw [AfP];simp only [EM] at h0 h1 ⊢;simp only [uH,↓XX,XY,↓reduceIte,seval,↓Av h0,↓Af h1];exact A6 rfl
def k_l {G:FV} {t:Tm} {m:Int} (h0:gI G 1 t (.mk 2 m [])):gL G t m:=by refine C7 200 h0 fun n hn h0=>?_;rw [Afo];simp only [EM] at h0 ⊢;simp only [sQ,↓XX,XY,↓reduceIte,seval,↓Av h0];exact A6 rfl
def k_s {G:FV} {st op:Int} {t A:Tm} (h0:gI G st t A) (ho:A.op=op):gS G st t op A:=by refine C7 200 h0 fun n hn h0=>?_;rw [Ady];simp only [EM] at h0 ho ⊢;simp only [wA,↓XX,XY,↓reduceIte,seval,↓Av h0,ho];exact A6 rfl
def AbU {t u r Y:Tm} (h0:pSu t u r) (h1:PN r Y):Tv t u Y:=by refine Om 200 h0 h1 fun n hn h0 h1=>?_;rw [Agd];simp only [EM] at h0 h1 ⊢;simp only [tJ,↓XX,XY,↓reduceIte,seval,↓Av h0,↓Aq h1];exact A6 rfl
def He {G:FV} {op m:Int} {ks:List Tm} {A:Tm} (ho:op≠1/\op<=19) (h0:gM G (.mk op m ks) A):gI G 1 (.mk op m ks) A:=by refine C7 200 h0 fun n hn h0=>?_;rw [c58];simp only [EM] at h0 ⊢;simp only [S58,↓XX,XY,↓reduceIte,seval,↓Af h0,ho.1,ho.2,↓mZ];exact A6 rfl
def NG {G:FV} {op m:Int} {ks:List Tm} {A:Tm} (ho:20<=op) (h0:gO G (.mk op m ks) A):gI G 0 (.mk op m ks) A:=by
 refine C7 200 h0 fun n hn h0=>?_;have ho1:op≠1:=by omega
 have ho2:¬ op<=19:=by omega
 rw [c58];simp only [EM] at h0 ⊢;simp only [S58,↓XX,XY,↓reduceIte,seval,↓Af h0,ho1,ho2,↓yR];exact A6 rfl
def tSk:EE.T 85=some ⟨1,24,.slice 67,[.nils]⟩:=by kernel_rfl
def sSk:SliceT EE 85 4:=⟨_,_,_,_,_,tSk,vX,rfl,by decide,by decide⟩
def rR (s:Nat) (h:Hp) (k:KT (IV×Hp)):Az (Al EE 85 0 []) s h k=k (.clip []) h [] []:=Cx tSk vX (by decide) (cells:=[]) rfl k
def wE (s0 o n:Int) (ks:List FV) (s:Nat) (h:Hp) (k:KT (IV×Hp)):Az (Al EE 85 1 [(0,.agg [.fv (.int .i64 s0),.fv (.int .i64 o),.fv (.int .i64 n),.fv (.sl ks)])]) s h k=k (.clip [.agg [.int .i64 s0,.int .i64 o,.int .i64 n,.sl ks]]) h [] [] :=Cx tSk vX (by decide) (cells:=[.int .i64 s0,.int .i64 o,.int .i64 n,.sl ks]) rfl k
def nX (s0 o n:Int) (ks:List FV) (s:Nat) (h:Hp) (k:KT (IV×Hp)):Az (Al EE 85 1 [(0,.fv (.agg [.int .i64 s0,.int .i64 o,.int .i64 n,.sl ks]))]) s h k=k (.clip [.agg [.int .i64 s0,.int .i64 o,.int .i64 n,.sl ks]]) h [] [] :=Cx tSk vX (by decide) (cells:=[.int .i64 s0,.int .i64 o,.int .i64 n,.sl ks]) rfl k
theorem oV {n:Nat} (g:AR) (hg:g.length<=900000):BE (Ei true (SS dt (n+1)) 144 [.fv (AM g)] []) (AM g):=by
 rw [AM];cases g with
 | nil =>
  have h1:Cv (SS dt (n+1) 144 [.nils] ⟨[],[]⟩)=true:=by kernel_rfl
  have h2:Cv (SS dt (n+1) 144 [.emp] ⟨[],[]⟩)=true:=by kernel_rfl
  simp only [Ei,Ai4,h1,h2,Bool.and_self,if_true];exact Aw _ _
 | cons t g =>
  have e:Ei true (SS dt (n+1)) 144 [.fv (.sl ((t::g).map v1))] []=SS dt (n+1) 144 [.fv (.sl ((t::g).map v1))] ⟨[],[]⟩:=by simp [Ei]
  rw [e,Af3];have happ:=fun {β:Type}=>HM (β:=β) sSk (.sl ((t::g).map v1)) (Dm (t::g)) rfl (by simp at hg ⊢;omega) (s0:=.clip []) (.inr rfl);simp only [Ai5] at happ ⊢;simp only [rX,↓XX,XY,↓reduceIte,seval,↓AaE tSk,↓rR,↓happ];exact Bo rfl _
def vG {n:Nat} (g:AR):∃own,SS dt (n+1) 143 [.fv (AM g)] ⟨[],[]⟩=some (.clip (g.map v1),⟨own,[]⟩):=by rw [Ade,AM];have hs:=fun {β:Type}=>jG (β:=β) (E:=EE) sSk (es:=g.map v1) (Dm g);simp only [Ajw] at hs;simp only [v5,↓XX,XY,↓reduceIte,seval,↓hs];exact ⟨_,rfl⟩
def tS (g:AR) (st:Int) (a:Tm) (hg:g.length<=900000):gW (AM g) st a (AM (g++[(st,a)])):=by refine ⟨2,fun n hn=>?_⟩;obtain ⟨n,rfl⟩:∃k,n=k+1+1:=⟨n - 2,by omega⟩;rw [Adj];have h1:=oV (n:=n) g hg;obtain ⟨o2,h2⟩:=vG (n:=n) g;have happ:=fun {β:Type}=>z4 (β:=β) sSk (.clip [v1 (st,a)]) (Dm [(st,a)]) (Dm g) rfl (by simp;omega);rw [AM] at h1 h2;rw [AM,AM,List.map_append,Ai5,Ai4];obtain ⟨o,p,k⟩:=a;simp only [v1,Tm.op,Tm.n,Tm.kids] at happ ⊢;rw [Am];simp only [vK,↓XX,XY,↓reduceIte,seval,↓sW h1,↓vM h2,↓wE,↓nX,↓happ];exact Bo rfl _
def yZ (G:FV) (ih:Ah) (xs:List IV) (h0:Hp) (k:KT (IV×Hp)):CN EE ih (.fv (.func (.func 102) [G] [])) xs h0 k=A5 [] false false ih 102 (.fv G::xs) h0 k:=by
 have h:EE.pol.inl 102=false:=by kernel_rfl
 have h1:EE.pol.keep 102=[]:=by kernel_rfl
 have h2:EE.pol.split 102=false:=by kernel_rfl
 have h3:EE.pol.raw 102=false:=by kernel_rfl
 unfold CN;simp only [callee,h,cond_false,bE,h1,h2,h3,Ai4,Ajo,Ajm,Ai5,Ajq]
def i4 (fn:Fn) (G:FV) (s:Nat) (h:Hp) (k:KT (IV×Hp)):Az (val (CI fn [.fv G] [])) s h k=k (.fv (.func fn [G] [])) h [] []:=FO (β:=IV×Hp) (.fv (.func fn [G] [])) s h k
theorem AbI {n:Nat} {G:FV} {st:Int} {a:Tm} (ks:List Tm) (hl:ks.length<=1000) (hn:ks.length<n) (h:∀t∈ks,BE (SS dt n 102 [.fv G,iv st,.fv t.enc,.fv a.enc] ⟨[],[]⟩) (.int .i64 0)) :
  BE (SS dt (n+1) 105 [.fv G,iv st,.fv a.enc,.fv (.sl (ks.map Tm.enc))] ⟨[],[]⟩) (.int .i64 0):=by
 rw [AeY];obtain ⟨oa,na,ka⟩:=a;simp only [Am] at h ⊢;simp only [LO,bU,↓XX,XY,↓reduceIte,seval,↓AI,XD,heldB,AS,XE,↓i4];refine Ba (Q:=fun r=>BE r _) (fun k V H=>∃pre rest,ks=pre++rest/\rest.length=k/\V=[iv st,.ptr (.own 110100480) 0,.fv (.func (.func 102) [G] []),.fv (.sl (ks.map Tm.enc)),iv ks.length,iv pre.length] /\
  H=⟨[(110100480,.row [iv oa,iv na,.fv (.sl (ka.map Tm.enc))] false)],[]⟩) ?_ n ks.length _ _ hn ⟨[],ks,rfl,rfl,rfl,rfl⟩
 rintro k V H rec ⟨pre,rest,hk,hkl,rfl,rfl⟩ hrec;cases rest with
 | nil =>
  have hi:¬ (pre.length:Int)<ks.length:=by rw [hk];simp
  simp only [LO,Ql,bU,↓XX,XY,↓reduceIte,seval,↓AI,XD,heldB,AS,XE,hi];exact Aw _ _
 | cons t rest =>
  have hi:(pre.length:Int)<ks.length:=by rw [hk];simp;omega
  have hg:=BY (l:=ks) (pre:=pre) (a:=t) (rest:=rest) hk;have hc:=h t (by rw [hk];simp);have hwi:BC ((pre.length:Int)+1)=((pre++[t]).length:Int):=(Ax (by omega) (by omega)).trans (by simp);simp only [Ai3] at hkl;have h9:=hrec rest.length [iv st,.ptr (.own 110100480) 0,.fv (.func (.func 102) [G] []),.fv (.sl (ks.map Tm.enc)),iv ks.length,iv (pre++[t]).length] _ (by omega) ⟨pre++[t],rest,by rw [hk];simp,rfl,rfl,rfl⟩;obtain ⟨o,p,l⟩:=t;rw [Am] at hc;simp only [LO,Ql,bU,↓XX,XY,↓reduceIte,seval,↓AI,XD,heldB,AS,XE,hi,↓Bq (AN hg) (Bk _ _ _),↓B8,↓yZ,↓As hc,hwi];exact h9
def k_a {G:FV} {st:Int} {a:Tm} {ks:List Tm} (hl:ks.length<=1000) (h:∀t∈ks,gC G st t a):gA G st a ks:=by
 have hN:∃N,∀n,N<=n->∀t∈ks,BE (SS dt n 102 [.fv G,iv st,.fv t.enc,.fv a.enc] ⟨[],[]⟩) (.int .i64 0):=by
  clear hl
  induction ks with
  | nil=>exact ⟨0,fun n hn t ht=>by simp at ht⟩
  | cons t ks ih =>
   obtain ⟨N1,h1⟩:=ih (fun t ht=>h t (by simp [ht]));obtain ⟨N2,h2⟩:=h t (by simp);refine ⟨N1+N2,fun n hn x hx=>?_⟩;rcases Ajp.1 hx with rfl | hx
   ·exact h2 n (by omega)
   ·exact h1 n (by omega) x hx
 obtain ⟨N,hN⟩:=hN;refine ⟨N+2000,fun n hn=>?_⟩;obtain ⟨n,rfl⟩:=psc n (by omega);exact AbI ks hl (by omega) (hN n (by omega))
def tR {G:FV} {st:Int} {a x y:Tm} (h1:gC G st x a) (h2:gC G st y a):gA G st a [x,y]:=k_a (by simp) (by simp [h1,h2])
def Aas {G:FV} {st:Int} {a x:Tm} (h1:gC G st x a):gA G st a [x]:=k_a (by simp) (by simp [h1])
def Agn {G:FV} {st:Int} {a:Tm}:gA G st a []:=k_a (by simp) (by simp)
def Af9 {G:FV} {m:Int}  : gP G (.mk 10 m []) (.mk 2 0 []):=by refine ⟨200,fun n hn=>?_⟩;obtain ⟨n,rfl⟩:=psc n (by omega);have o10:=Fc (n:=n) (by omega) 10 [];have o14:=Fc (n:=n) (by omega) 14 [];have o2:=Fc (n:=n) (by omega) 2 [];rw [PW];simp only [EM] at o10 o14 o2 ⊢;simp only [↓nU,↓XX,XY,↓reduceIte,seval,↓Af o10,↓Af o14,↓Af o2];exact A6 rfl
def AeG {G:FV} {m:Int}  : gP G (.mk 14 m []) (.mk 2 0 []):=by refine ⟨200,fun n hn=>?_⟩;obtain ⟨n,rfl⟩:=psc n (by omega);have o10:=Fc (n:=n) (by omega) 10 [];have o14:=Fc (n:=n) (by omega) 14 [];have o2:=Fc (n:=n) (by omega) 2 [];rw [PW];simp only [EM] at o10 o14 o2 ⊢;simp only [↓nU,↓XX,XY,↓reduceIte,seval,↓Af o10,↓Af o14,↓Af o2];exact A6 rfl
def AfF {G:FV} {m:Int}  : gP G (.mk 11 m []) natT:=by refine ⟨200,fun n hn=>?_⟩;obtain ⟨n,rfl⟩:=psc n (by omega);have o10:=Fc (n:=n) (by omega) 10 [];have o14:=Fc (n:=n) (by omega) 14 [];have o2:=Fc (n:=n) (by omega) 2 [];rw [PW];simp only [EM] at o10 o14 o2 ⊢;simp only [↓nU,↓XX,XY,↓reduceIte,seval,↓Af o10,↓Af o14,↓Af o2];exact A6 rfl
def AdX {G:FV} {a:Tm} {m:Int} (h0:gA G 1 natT [a]):gP G (.mk 12 m [a]) natT:=by refine C7 200 h0 fun n hn h0=>?_;have o10:=Fc (n:=n) (by omega) 10 [];have o14:=Fc (n:=n) (by omega) 14 [];have o2:=Fc (n:=n) (by omega) 2 [];rw [PW];simp only [EM] at h0 o10 o14 o2 ⊢;simp only [↓nU,↓XX,XY,↓reduceIte,seval,↓As h0,↓Af o10,↓Af o14,↓Af o2];exact A6 rfl
def Af0 {G:FV} {m:Int} (h0:gA G 1 tyT []):gP G (.mk 15 m []) tyT:=by refine C7 200 h0 fun n hn h0=>?_;have o10:=Fc (n:=n) (by omega) 10 [];have o14:=Fc (n:=n) (by omega) 14 [];have o2:=Fc (n:=n) (by omega) 2 [];rw [PW];simp only [EM] at h0 o10 o14 o2 ⊢;simp only [↓nU,↓XX,XY,↓reduceIte,seval,↓As h0,↓Af o10,↓Af o14,↓Af o2];exact A6 rfl
def AdF {G:FV} {a b:Tm} {m:Int} (h0:gA G 1 tyT [a,b]):gP G (.mk 16 m [a,b]) tyT:=by refine C7 200 h0 fun n hn h0=>?_;have o10:=Fc (n:=n) (by omega) 10 [];have o14:=Fc (n:=n) (by omega) 14 [];have o2:=Fc (n:=n) (by omega) 2 [];rw [PW];simp only [EM] at h0 o10 o14 o2 ⊢;simp only [↓nU,↓XX,XY,↓reduceIte,seval,↓As h0,↓Af o10,↓Af o14,↓Af o2];exact A6 rfl
def Afg {G:FV} {a b:Tm} {m:Int} (h0:gA G 1 tyT [a,b]):gP G (.mk 17 m [a,b]) tyT:=by refine C7 200 h0 fun n hn h0=>?_;have o10:=Fc (n:=n) (by omega) 10 [];have o14:=Fc (n:=n) (by omega) 14 [];have o2:=Fc (n:=n) (by omega) 2 [];rw [PW];simp only [EM] at h0 o10 o14 o2 ⊢;simp only [↓nU,↓XX,XY,↓reduceIte,seval,↓As h0,↓Af o10,↓Af o14,↓Af o2];exact A6 rfl
def AfZ {G:FV} {a:Tm} {m:Int} (h0:gA G 1 tyT [a]):gP G (.mk 18 m [a]) (.mk 2 0 []):=by refine C7 200 h0 fun n hn h0=>?_;have o10:=Fc (n:=n) (by omega) 10 [];have o14:=Fc (n:=n) (by omega) 14 [];have o2:=Fc (n:=n) (by omega) 2 [];rw [PW];simp only [EM] at h0 o10 o14 o2 ⊢;simp only [↓nU,↓XX,XY,↓reduceIte,seval,↓As h0,↓Af o10,↓Af o14,↓Af o2];exact A6 rfl
def Agl {G:FV} {a A:Tm} {m:Int} (h0:gI G 0 a A):gP G (.mk 19 m [a]) (.mk 18 0 [A]):=by refine C7 200 h0 fun n hn h0=>?_;have o10:=Fc (n:=n) (by omega) 10 [];have o14:=Fc (n:=n) (by omega) 14 [];have o2:=Fc (n:=n) (by omega) 2 [];have o18:=Fc (n:=n) (by omega) 18 [A];rw [PW];simp only [EM] at h0 o10 o14 o2 o18 ⊢;simp only [↓nU,↓XX,XY,↓reduceIte,seval,↓Av h0,↓Af o10,↓Af o14,↓Af o2,↓Af o18,↓Dz];exact A6 rfl
def PJ {G:FV} {op m:Int} {ks:List Tm} {A:Tm} (ho:(op≠2/\op≠3/\op≠6)/\(op≠4/\op≠5/\op≠7)/\op≠8/\op≠9/\op≠13) (h0:gP G (.mk op m ks) A):gM G (.mk op m ks) A:=by refine C7 200 h0 fun n hn h0=>?_;rw [iX];simp only [EM] at h0 ⊢;simp only [↓iS,↓XX,XY,↓reduceIte,seval,↓Af h0,ho.1.1,ho.1.2.1,ho.1.2.2,ho.2.1.1,ho.2.1.2.1,ho.2.1.2.2,ho.2.2.1,ho.2.2.2.1,ho.2.2.2.2];exact A6 rfl
def Ads {G:FV} {m:Int} (h:0<=m/\m<=1):gM G (.mk 2 m []) (.mk 2 (m+1) []):=by
 refine ⟨200,fun n hn=>?_⟩;obtain ⟨n,rfl⟩:=psc n (by omega);have hm:¬ 2<=m:=by omega
 have hw:BC (m+1)=m+1:=Ax (by omega) (by omega);rw [iX];simp only [Am,Ai5,Ai4,Dh,tyT,natT,Tm.z,Tm.op,Tm.n];simp only [↓iS,↓XX,XY,↓reduceIte,seval,hm,hw];exact A6 rfl
def Agk {G:FV} {a b A:Tm} {m:Int} (h0:Ev 109 [.fv G,.fv a.enc,.fv b.enc] (.tuple [Tm.enc A,.int .i64 0])):gM G (.mk 3 m [a,b]) A:=by refine C7 200 h0 fun n hn h0=>?_;rw [iX];simp only [EM] at h0 ⊢;simp only [↓iS,↓XX,XY,↓reduceIte,seval,↓Av h0];exact A6 rfl
def AdO {G:FV} {a b A:Tm} {m:Int} (h0:Ev 109 [.fv G,.fv a.enc,.fv b.enc] (.tuple [Tm.enc A,.int .i64 0])):gM G (.mk 6 m [a,b]) A:=by refine C7 200 h0 fun n hn h0=>?_;rw [iX];simp only [EM] at h0 ⊢;simp only [↓iS,↓XX,XY,↓reduceIte,seval,↓Av h0];exact A6 rfl
def Afi {G:FV} {a b A:Tm} {m:Int} (h0:Ev 110 [.fv G,.fv a.enc,.fv b.enc] (.tuple [Tm.enc A,.int .i64 0])):gM G (.mk 4 m [a,b]) A:=by refine C7 200 h0 fun n hn h0=>?_;rw [iX];simp only [EM] at h0 ⊢;simp only [↓iS,↓XX,XY,↓reduceIte,seval,↓Av h0];exact A6 rfl
def Aft {G:FV} {a b A:Tm} {m:Int} (h0:Ev 111 [.fv G,.fv a.enc,.fv b.enc] (.tuple [Tm.enc A,.int .i64 0])):gM G (.mk 5 m [a,b]) A:=by refine C7 200 h0 fun n hn h0=>?_;rw [iX];simp only [EM] at h0 ⊢;simp only [↓iS,↓XX,XY,↓reduceIte,seval,↓Av h0];exact A6 rfl
def Age {G:FV} {a b c A:Tm} {m:Int} (h0:Ev 112 [.fv G,.fv a.enc,.fv b.enc,.fv c.enc] (.tuple [Tm.enc A,.int .i64 0])):gM G (.mk 7 m [a,b,c]) A:=by refine C7 200 h0 fun n hn h0=>?_;rw [iX];simp only [EM] at h0 ⊢;simp only [↓iS,↓XX,XY,↓reduceIte,seval,↓As h0];exact A6 rfl
def AaY {G:FV} {a b c d A:Tm} {m:Int} (h0:Ev 114 [.fv G,.fv a.enc,.fv b.enc,.fv c.enc,.fv d.enc] (.tuple [Tm.enc A,.int .i64 0])):gM G (.mk 13 m [a,b,c,d]) A:=by refine C7 200 h0 fun n hn h0=>?_;rw [iX];simp only [EM] at h0 ⊢;simp only [↓iS,↓XX,XY,↓reduceIte,seval,↓zY h0];exact A6 rfl
def AfA {G:FV} {a A:Tm} {m:Int} (h0:Ev 113 [.fv G,.fv (Tm.mk 8 m [a]).enc] (.tuple [A.enc,.int .i64 0])):gM G (.mk 8 m [a]) A:=by refine C7 200 h0 fun n hn h0=>?_;rw [iX];simp only [EM] at h0 ⊢;simp only [↓iS,↓XX,XY,↓reduceIte,seval,↓Af h0];exact A6 rfl
def z9 {G:FV} {a b:Tm} {i j:Int} {G1:FV} (h0:gL G a i) (h1:gW G 1 a G1) (h2:gL G1 b j):Ev 109 [.fv G,.fv a.enc,.fv b.enc] (.tuple [(Tm.mk 2 (if i<j then j else i) []).enc,.int .i64 0]):=by refine SA 200 h0 h1 h2 fun n hn h0 h1 h2=>?_;rw [AdL];simp only [EM] at h0 h1 h2 ⊢;simp only [Xn,rH,↓XX,XY,↓reduceIte,seval,↓Af h0,↓Av h1,↓Af h2,↓Zy];exact A6 rfl
def AeT {G:FV} {a b B C:Tm} {i:Int} {G1:FV} (h0:gL G a i) (h1:gW G 1 a G1) (h2:gI G1 1 b B) (h3:PN (.mk 3 0 [a,B]) C):Ev 110 [.fv G,.fv a.enc,.fv b.enc] (.tuple [C.enc,.int .i64 0]):=by refine j7 200 h0 h1 h2 h3 fun n hn h0 h1 h2 h3=>?_;have o3:=Fc (n:=n) (by omega) 3 [a,B];rw [AdR];simp only [EM] at h0 h1 h2 h3 o3 ⊢;simp only [U0,sI,↓XX,XY,↓reduceIte,seval,↓Af h0,↓Av h1,↓Av h2,↓Aq h3,↓Af o3,↓CK];exact A6 rfl
def TW {op m:Int} {a b:Tm}  : Ev 103 [.fv (Tm.mk op m [a,b]).enc,iv 0] a.enc:=by refine ⟨200,fun n hn=>?_⟩;obtain ⟨n,rfl⟩:=psc n (by omega);rw [tE];obtain ⟨oa,pa,ka⟩:=a;obtain ⟨ob,pb,kb⟩:=b;simp only [Am,Ai5,Ai4,Dh,tyT,natT,Tm.z,Tm.op,Tm.n];simp only [gB,↓XX,XY,↓reduceIte,seval];exact A6 rfl
def uI {op m:Int} {a b:Tm}  : Ev 103 [.fv (Tm.mk op m [a,b]).enc,iv 1] b.enc:=by refine ⟨200,fun n hn=>?_⟩;obtain ⟨n,rfl⟩:=psc n (by omega);rw [tE];obtain ⟨oa,pa,ka⟩:=a;obtain ⟨ob,pb,kb⟩:=b;simp only [Am,Ai5,Ai4,Dh,tyT,natT,Tm.z,Tm.op,Tm.n];simp only [gB,↓XX,XY,↓reduceIte,seval];exact A6 rfl
def AbJ {op m:Int} {a:Tm}  : Ev 103 [.fv (Tm.mk op m [a]).enc,iv 0] a.enc:=by refine ⟨200,fun n hn=>?_⟩;obtain ⟨n,rfl⟩:=psc n (by omega);rw [tE];obtain ⟨oa,pa,ka⟩:=a;simp only [Am,Ai5,Ai4,Dh,tyT,natT,Tm.z,Tm.op,Tm.n];simp only [gB,↓XX,XY,↓reduceIte,seval];exact A6 rfl
def AdE {G:FV} {f x A B Y:Tm} {q:Int} (h0:gS G 1 f 3 (.mk 3 q [A,B])) (h1:gC G 1 x A) (h2:Tv B x Y) (h3:Ev 103 [.fv (Tm.mk 3 q [A,B]).enc,iv 0] A.enc):Ev 111 [.fv G,.fv f.enc,.fv x.enc] (.tuple [Y.enc,.int .i64 0]):=by refine j7 200 h0 h1 h2 h3 fun n hn h0 h1 h2 h3=>?_;rw [Aem];simp only [EM] at h0 h1 h2 h3 ⊢;simp only [V0,yT,↓XX,XY,↓reduceIte,seval,↓As h0,↓As h1,↓Af h2,↓Af h3];exact A6 rfl
def Ael {G:FV} {x A B:Tm} {q m:Int} (h0:gS G 1 x 6 (.mk 6 q [A,B])):Ev 113 [.fv G,.fv (Tm.mk 8 m [x]).enc] (.tuple [A.enc,.int .i64 0]):=by refine C7 200 h0 fun n hn h0=>?_;rw [Ad1];simp only [EM] at h0 ⊢;simp only [US,v6,↓XX,XY,↓reduceIte,seval,↓As h0];exact A6 rfl
def Agr {G:FV} {S x y A B Y:Tm} {q i:Int} (h0:gL G S i) (h1:PN S (.mk 6 q [A,B])) (h2:gC G 1 x A) (h3:Tv B x Y) (h4:gC G 1 y Y):Ev 112 [.fv G,.fv S.enc,.fv x.enc,.fv y.enc] (.tuple [(Tm.mk 6 q [A,B]).enc,.int .i64 0]):=by refine zR 200 h0 h1 h2 h3 h4 fun n hn h0 h1 h2 h3 h4=>?_;rw [Aei];simp only [EM] at h0 h1 h2 h3 h4 ⊢;simp only [Sa,RQ,v8,↓XX,XY,↓reduceIte,seval,↓Af h0,↓Aq h1,↓As h2,↓Af h3,↓As h4];exact A6 rfl
def Afs {G:FV} {p z s k w p1 p2 Y:Tm} {i:Int} {G1 G2:FV} (h0:gW G 1 natT G1) (h1:gL G1 p i) (h2:Tv p (.mk 11 0 []) p1) (h3:gC G 1 z p1) (h4:pSh p 2 1 w) (h5:Tv w (.mk 12 0 [.mk 1 1 []]) p2) (h6:gW G1 1 p G2) (h7:gC G2 1 s p2) (h8:gC G 1 k natT) (h9:Tv p k Y):Ev 114 [.fv G,.fv p.enc,.fv z.enc,.fv s.enc,.fv k.enc] (.tuple [Y.enc,.int .i64 0]):=by refine Aax 200 h0 h1 h2 h3 h4 h5 h6 h7 h8 h9 fun n hn h0 h1 h2 h3 h4 h5 h6 h7 h8 h9=>?_;have o10:=Fc (n:=n) (by omega) 10 [];have o11:=Fc (n:=n) (by omega) 11 [];have o12:=Fc (n:=n) (by omega) 12 [.mk 1 1 []];rw [Afv];simp only [EM] at h0 h1 h2 h3 h4 h5 h6 h7 h8 h9 o10 o11 o12 ⊢;simp only [Sx,Ru,Rp,tL,↓XX,XY,↓reduceIte,seval,↓Av h0,↓Af h1,↓Af h2,↓As h3,↓Av h4,↓Af h5,↓Av h6,↓As h7,↓As h8,↓Af h9,↓Af o10,↓Af o11,↓Af o12,↓Dz,↓Ack];exact A6 rfl
def Acn {G:FV} {m:Int}  : gO G (.mk 25 m []) Dh:=by refine ⟨200,fun n hn=>?_⟩;obtain ⟨n,rfl⟩:=psc n (by omega);have o15:=Fc (n:=n) (by omega) 15 [];rw [iF];simp only [EM] at o15 ⊢;simp only [↓iH,↓XX,XY,↓reduceIte,seval,↓Af o15];exact A6 rfl
def Acf {G:FV} {a b:Tm} {m:Int} (h0:gA G 0 Dh [a,b]):gO G (.mk 26 m [a,b]) Dh:=by refine C7 200 h0 fun n hn h0=>?_;have o15:=Fc (n:=n) (by omega) 15 [];rw [iF];simp only [EM] at h0 o15 ⊢;simp only [↓iH,↓XX,XY,↓reduceIte,seval,↓As h0,↓Af o15];exact A6 rfl
def zV {G:FV} {a b A:Tm} {m:Int} (h0:Ev 100 [.fv G,.fv a.enc,.fv b.enc] (.tuple [Tm.enc A,.int .i64 0])):gO G (.mk 20 m [a,b]) A:=by refine C7 200 h0 fun n hn h0=>?_;have o15:=Fc (n:=n) (by omega) 15 [];rw [iF];simp only [EM] at h0 o15 ⊢;simp only [↓iH,↓XX,XY,↓reduceIte,seval,↓Av h0,↓Af o15];exact A6 rfl
def AaW {G:FV} {a b A:Tm} {m:Int} (h0:Ev 104 [.fv G,.fv a.enc,.fv b.enc] (.tuple [Tm.enc A,.int .i64 0])):gO G (.mk 22 m [a,b]) A:=by refine C7 200 h0 fun n hn h0=>?_;have o15:=Fc (n:=n) (by omega) 15 [];rw [iF];simp only [EM] at h0 o15 ⊢;simp only [↓iH,↓XX,XY,↓reduceIte,seval,↓Av h0,↓Af o15];exact A6 rfl
def AbP {G:FV} {a b c A:Tm} {m:Int} (h0:Ev 106 [.fv G,.fv a.enc,.fv b.enc,.fv c.enc] (.tuple [Tm.enc A,.int .i64 0])):gO G (.mk 27 m [a,b,c]) A:=by refine C7 200 h0 fun n hn h0=>?_;have o15:=Fc (n:=n) (by omega) 15 [];rw [iF];simp only [EM] at h0 o15 ⊢;simp only [↓iH,↓XX,XY,↓reduceIte,seval,↓As h0,↓Af o15];exact A6 rfl
def Aa2 {G:FV} {a b A:Tm} {m:Int} (h0:Ev 108 [.fv G,.fv a.enc,.fv b.enc] (.tuple [Tm.enc A,.int .i64 0])):gO G (.mk 29 m [a,b]) A:=by refine C7 200 h0 fun n hn h0=>?_;have o15:=Fc (n:=n) (by omega) 15 [];rw [iF];simp only [EM] at h0 o15 ⊢;simp only [↓iH,↓XX,XY,↓reduceIte,seval,↓Av h0,↓Af o15];exact A6 rfl
def Ab5 {G:FV} {x y A B:Tm} {m:Int} (h0:gI G 0 x A) (h1:gU G A y B):gO G (.mk 28 m [x,y]) B:=by refine Om 200 h0 h1 fun n hn h0 h1=>?_;have o15:=Fc (n:=n) (by omega) 15 [];rw [iF];simp only [EM] at h0 h1 o15 ⊢;simp only [↓iH,↓XX,XY,↓reduceIte,seval,↓Av h0,↓Av h1,↓Af o15];exact A6 rfl
def AbE {G:FV} {x A:Tm} {m q:Int} (h0:gS G 1 x 18 (.mk 18 q [A])) (h1:Ev 103 [.fv (Tm.mk 18 q [A]).enc,iv 0] A.enc):gO G (.mk 30 m [x]) A:=by refine Om 200 h0 h1 fun n hn h0 h1=>?_;have o15:=Fc (n:=n) (by omega) 15 [];rw [iF];simp only [EM] at h0 h1 o15 ⊢;simp only [↓iH,↓XX,XY,↓reduceIte,seval,↓As h0,↓Af h1,↓Af o15];exact A6 rfl
def z6 {G:FV} {f x A B:Tm} {m q:Int} (h0:gS G 0 f 16 (.mk 16 q [A,B])) (h1:Ev 103 [.fv (Tm.mk 16 q [A,B]).enc,iv 0] A.enc) (h2:gC G 0 x A) (h3:Ev 103 [.fv (Tm.mk 16 q [A,B]).enc,iv 1] B.enc):gO G (.mk 21 m [f,x]) B:=by refine j7 200 h0 h1 h2 h3 fun n hn h0 h1 h2 h3=>?_;have o15:=Fc (n:=n) (by omega) 15 [];rw [iF];simp only [EM] at h0 h1 h2 h3 o15 ⊢;simp only [↓iH,↓XX,XY,↓reduceIte,seval,↓As h0,↓Af h1,↓As h2,↓Af h3,↓Af o15];exact A6 rfl
def AbD {G:FV} {x A B:Tm} {m q:Int} (h0:gS G 0 x 17 (.mk 17 q [A,B])) (h1:Ev 103 [.fv (Tm.mk 17 q [A,B]).enc,iv 0] A.enc):gO G (.mk 23 m [x]) A:=by refine Om 200 h0 h1 fun n hn h0 h1=>?_;have o15:=Fc (n:=n) (by omega) 15 [];have w0:BC (23 - 23)=0/\BC 0=0:=⟨rfl,rfl⟩;rw [iF];simp only [EM] at h0 h1 o15 ⊢;simp only [↓iH,↓XX,XY,↓reduceIte,seval,↓As h0,↓Af h1,↓Af o15,w0];exact A6 rfl
def Afy {G:FV} {a b c r:Tm} {G1:FV} (h0:gW G 0 a G1) (h1:gI G1 0 b c) (h2:pF c false) (h3:pSu c (.mk 11 0 []) r):gU G a b r:=by refine j7 200 h0 h1 h2 h3 fun n hn h0 h1 h2 h3=>?_;have o11:=Fc (n:=n) (by omega) 11 [];rw [Adh];simp only [EM] at h0 h1 h2 h3 o11 ⊢;simp only [U3,tY,↓XX,XY,↓reduceIte,seval,↓Av h0,↓Av h1,↓Af h2,↓Av h3,↓Af o11];exact A6 rfl
def Af1 {G:FV} {a b B C:Tm} (h0:gC G 1 a tyT) (h1:gU G a b B) (h2:PN (.mk 16 0 [a,B]) C):Ev 100 [.fv G,.fv a.enc,.fv b.enc] (.tuple [C.enc,.int .i64 0]):=by refine SA 200 h0 h1 h2 fun n hn h0 h1 h2=>?_;have o14:=Fc (n:=n) (by omega) 14 [];have o16:=Fc (n:=n) (by omega) 16 [a,B];rw [Agp];simp only [EM] at h0 h1 h2 o14 o16 ⊢;simp only [Vs,w6,↓XX,XY,↓reduceIte,seval,↓As h0,↓Av h1,↓Aq h2,↓Af o14,↓Af o16,↓CK];exact A6 rfl
def Adm {G:FV} {x y A B C:Tm} (h0:gI G 0 x A) (h1:gI G 0 y B) (h2:PN (.mk 17 0 [A,B]) C):Ev 104 [.fv G,.fv x.enc,.fv y.enc] (.tuple [C.enc,.int .i64 0]):=by refine SA 200 h0 h1 h2 fun n hn h0 h1 h2=>?_;have o17:=Fc (n:=n) (by omega) 17 [A,B];rw [Adv];simp only [EM] at h0 h1 h2 o17 ⊢;simp only [WO,yN,↓XX,XY,↓reduceIte,seval,↓Av h0,↓Av h1,↓Aq h2,↓Af o17,↓CK];exact A6 rfl
def Af6 {G:FV} {c x y A:Tm} (h0:gC G 0 c Dh) (h1:gI G 0 x A) (h2:gC G 0 y A):Ev 106 [.fv G,.fv c.enc,.fv x.enc,.fv y.enc] (.tuple [A.enc,.int .i64 0]):=by refine SA 200 h0 h1 h2 fun n hn h0 h1 h2=>?_;have o15:=Fc (n:=n) (by omega) 15 [];rw [AeH];simp only [EM] at h0 h1 h2 o15 ⊢;simp only [XB,sL,↓XX,XY,↓reduceIte,seval,↓As h0,↓Av h1,↓As h2,↓Af o15];exact A6 rfl
def AeX {G:FV} {a b s A:Tm} {G1:FV} (h0:gC G 1 a tyT) (h1:gW G 0 a G1) (h2:pSh a 1 0 s) (h3:gC G1 0 b s) (h4:PN a A):Ev 108 [.fv G,.fv a.enc,.fv b.enc] (.tuple [A.enc,.int .i64 0]):=by refine zR 200 h0 h1 h2 h3 h4 fun n hn h0 h1 h2 h3 h4=>?_;have o14:=Fc (n:=n) (by omega) 14 [];rw [Ad4];simp only [EM] at h0 h1 h2 h3 h4 o14 ⊢;simp only [XG,vE,↓XX,XY,↓reduceIte,seval,↓As h0,↓Av h1,↓Av h2,↓As h3,↓Aq h4,↓Af o14];exact A6 rfl
def bL (ih:Ah) (xs:List IV) (h0:Hp) (k:KT (IV×Hp)):CN EE ih (.fv (.func (.func 118) [] [])) xs h0 k=A5 [] false false ih 118 xs h0 k :=Oa (by kernel_rfl) (by kernel_rfl) (by kernel_rfl) (by kernel_rfl) ..
def Yp (u:Tm) (e:Int):FV:=.agg [.int .i64 u.op,.int .i64 u.n,.sl (u.kids.map Tm.enc),.int .i64 e]
def aQ {n:Nat} (u v:Tm) (e1 e2:Int) (hn:2 * u.wt+4<n) (hw:u.wt<=100000000):BE (SS dt n 118 [.fv (Yp u e1),.fv (Yp v e2)] ⟨[],[]⟩) (.bool (u.same v)):=by obtain ⟨n,rfl⟩:=psc n (by omega);rw [Agb];have h:=R7 n u v (by omega) hw;generalize u.same v=b at h ⊢;obtain ⟨o1,n1,k1⟩:=u;obtain ⟨o2,n2,k2⟩:=v;simp only [Am,Yp,Tm.op,Tm.n,Tm.kids] at h ⊢;simp only [vU,↓XX,XY,↓reduceIte,seval,↓Af h];exact Aw _ _
mutual
theorem MY:∀(t u:Tm) (c d:Int) (k:Nat),t.sc k->0<=c->c+k+4 * t.wt<=1000000000->(t.shift 1 c).subst c d u=t
 | .mk op n ks,u,c,d,k,h,hc,hw=>by
  rw [Tm.sc] at h;simp only [Tm.wt] at hw;rw [Tm.shift,Tm.subst];by_cases h1:op=1
  ·have h2:=h.2.1;rw [if_pos h1] at h2;have hk:ks=[]:=by
    have:=h.1
    subst h1;exact Aja (Ajn (this.symm.trans (show ar 1=some 0 from rfl)))
   subst hk;rw [if_pos h1];by_cases hn:c<=n
   ·have e:(if op=1/\c<=n then BC (n+1) else n)=n+1:=by rw [if_pos ⟨h1,hn⟩,Ax (by omega) (by omega)]
    rw [e,if_neg (by omega),if_pos (by omega),Ax (by omega) (by omega),h1,Int.add_sub_cancel]
   ·have e:(if op=1/\c<=n then BC (n+1) else n)=n:=if_neg (fun h=>hn h.2);rw [e,if_neg (by omega),if_neg (by omega),Tm.shiftL]
  ·rw [if_neg h1,if_neg (fun h=>h1 h.1),sub_shL ks u op 0 c d k h.2.2 hc (by omega)]
theorem sub_shL:∀(l:List Tm) (u:Tm) (op:Int) (i:Nat) (c d:Int) (k:Nat),Tm.scL op i l k->0<=c->c+k+4+4 * Tm.wtL l<=1000000000->Tm.substL op i (Tm.shiftL op i l 1 c) c d u=l
 | [],_,_,_,_,_,_,_,_,_=>rfl
 | t::l,u,op,i,c,d,k,h,hc,hw=>by
  rw [Tm.scL] at h;simp only [Tm.wtL] at hw;have hb:=AW op i;rw [Tm.shiftL,Tm.substL,MY t u _ _ _ h.1 (by omega) (by have:=Ep t;omega),sub_shL l u op (i+1) c d k h.2 hc (by omega)]
end
mutual
theorem QM:∀(t:Tm) (c:Int) (k:Nat),t.sc k->0<=c->c+k+4 * t.wt<=1000000000->(t.shift 1 c).free c=false
 | .mk op n ks,c,k,h,hc,hw=>by
  rw [Tm.sc] at h;simp only [Tm.wt] at hw;rw [Tm.shift,Tm.free];by_cases h1:op=1
  ·have h2:=h.2.1;rw [if_pos h1] at h2 ⊢;rw [decide_eq_false_iff_not];by_cases hn:c<=n
   ·rw [if_pos ⟨h1,hn⟩,Ax (by omega) (by omega)];omega
   ·rw [if_neg (fun h=>hn h.2)];omega
  ·rw [if_neg h1];exact free_shL ks op 0 c k h.2.2 hc (by omega)
theorem free_shL:∀(l:List Tm) (op:Int) (i:Nat) (c:Int) (k:Nat),Tm.scL op i l k->0<=c->c+k+4+4 * Tm.wtL l<=1000000000->Tm.freeL op i (Tm.shiftL op i l 1 c) c=false
 | [],_,_,_,_,_,_,_=>rfl
 | t::l,op,i,c,k,h,hc,hw=>by
  rw [Tm.scL] at h;simp only [Tm.wtL] at hw;have hb:=AW op i;rw [Tm.shiftL,Tm.freeL,QM t _ _ h.1 (by omega) (by have:=Ep t;omega),free_shL l op (i+1) c k h.2 hc (by have:=Ep t;omega)];rfl
end
theorem dE {op op':Int} {ks:List Tm} {d c:Int} (h:jV op ks):jV op (Tm.shiftL op' 0 ks d c):=by
 have hg:∀(i:Nat) x,(Tm.shiftL op' 0 ks d c)[i]?=some x->∃y,ks[i]?=some y/\x.op=y.op:=by
  intro i x hx;rw [IS] at hx;cases hy:ks[i]? with
  | none=>rw [hy] at hx;cases hx
  | some y =>rw [hy] at hx;simp only [Ai2,AiZ] at hx;exact ⟨y,rfl,by rw [<- hx,MP]⟩
 obtain ⟨⟨h1,h2,h3⟩,h4,h5⟩:=h;refine ⟨⟨fun ho x hx=>?_,fun ho x hx=>?_,fun ho x hx=>?_⟩,fun ho x hx=>?_,fun ho x hx=>?_⟩<;>obtain ⟨y,hy,e⟩:=hg _ _ hx<;>rw [e]
 ·exact h1 ho y hy
 ·exact h2 ho y hy
 ·exact h3 ho y hy
 ·exact h4 ho y hy
 ·exact h5 ho y hy
mutual
theorem QE:∀(t:Tm) (d c:Int),t.stl->(t.shift d c).stl
 | .mk op n ks,d,c,h=>by
  rw [Tm.stl] at h;rw [Tm.shift,Tm.stl];exact ⟨dE h.1,stlL_sh ks op 0 d c h.2⟩
theorem stlL_sh:∀(l:List Tm) (op:Int) (i:Nat) (d c:Int),Tm.stlL l->Tm.stlL (Tm.shiftL op i l d c)
 | [],_,_,_,_,_=>by rw [Tm.shiftL,Tm.stlL];trivial
 | t::l,op,i,d,c,h=>by
  rw [Tm.stlL] at h;rw [Tm.shiftL,Tm.stlL];exact ⟨QE t _ _ h.1,stlL_sh l op (i+1) d c h.2⟩
end
theorem Et {G:List Nat} {t:Tm} {s:Nat} (h:HasT G t s):t.stl->NfT G t s:=by
 induction h with
 | var G n s h0 h hs=>exact fun _=>.var _ _ _ h0 h hs
 | node G op n ks s sg hr hl hk ih =>intro hs;rw [Tm.stl] at hs;exact .node _ _ _ _ _ sg hr hl hs.1.1 fun i t bs s' ht hg=>ih i t bs s' ht hg (Kb hs.2 (Aje ht))
 | app G n m a b x y s s0=>intro h;rw [Tm.stl] at h;exact absurd rfl (h.1.2.1 rfl _ rfl)
 | fst G n m a x y s s1 s0=>intro h;rw [Tm.stl] at h;exact absurd rfl (h.1.2.2 (.inl rfl) _ rfl)
 | snd G n m a x y s s1 s0=>intro h;rw [Tm.stl] at h;exact absurd rfl (h.1.2.2 (.inr rfl) _ rfl)
def Es (s:Nat):Prop:=s=0\/s=1\/s=2\/10<=s
theorem oF {op:Int} {s:Nat} {sg:KD} (hr:Rule op s sg) (hs:Es s):(op≠4/\op≠7)/\∀(i:Nat) bs s',sg[i]?=some (bs,s')->Es s':=by
 have hi4:∀i:Nat,i=0\/i=1\/i=2\/i=3\/4<=i:=by omega
 unfold Es at hs ⊢;cases hr<;>refine ⟨by omega,fun i bs s' h=>?_⟩<;>rcases hi4 i with rfl | rfl | rfl | rfl | h4 <;>
  (try simp only [Ajb,Ajc,List.getElem?_nil,AiZ,Ai0,reduceCtorEq] at h) <;>
  first | (obtain ⟨_,rfl⟩:=h;omega) | (rw [List.getElem?_eq_none (by simp only [Ai3,Ajh];omega)] at h;cases h) | cases h
theorem Rn:∀{l:List Tm},(∀t∈l,t.eta=t)->Tm.etaL l=l
 | [],_=>rfl
 | x::l,h=>by rw [Tm.etaL,h x (Aji ..),Rn fun t ht=>h t (Ajj _ ht)]
theorem Ou {op n:Int} {l:List Tm} (h:op≠4/\op≠7) (hl:∀t∈l,t.eta=t):(Tm.mk op n l).eta=.mk op n l:=by rw [Tm.eta,if_neg h.1,if_neg h.2,Rn hl]
theorem LZ {G:List Nat} {t:Tm} {s:Nat} (h:NfT G t s):Es s->t.eta=t:=by
 induction h with
 | var G n s h0 h hs=>intro _;exact Ou (by decide) (by simp)
 | node G op n ks s sg hr hl hst hk ih =>
  intro hs;obtain ⟨ho,hkid⟩:=oF hr hs;refine Ou ho fun t ht=>?_;obtain ⟨i,hi⟩:=Ph ht;have hi2:i<sg.length:=by rw [<- hl];exact (Ai7.1 hi).1
  exact ih i t _ _ hi (Ai6 hi2) (hkid i _ _ (Ai6 hi2))
def FT (a:Tm):Prop:=F1 a\/(∃(op:Int) (x y:Tm),(op=3\/op=6)/\F1 x/\F1 y/\a=.mk op 0 [x,y])\/a.op=18
theorem QH {op n:Int} {d c:Tm} (ho:op=3\/op=6) (h:FT (.mk op n [d,c])):F1 d/\F1 c:=by
 rcases h with (h | ⟨op',d',c',_,hd,hc,h⟩ | ⟨p,_,h⟩) | ⟨op',d',c',_,hd,hc,h⟩ | h
 ·rcases h with h | h | h | ⟨p,_,h⟩<;>simp only [Tm.mk.injEq] at h<;>omega
 ·simp only [Tm.mk.injEq,List.cons.injEq,and_true] at h;obtain ⟨_,_,rfl,rfl⟩:=h;exact ⟨.inl hd,.inl hc⟩
 ·simp only [Tm.mk.injEq] at h;omega
 ·simp only [Tm.mk.injEq,List.cons.injEq,and_true] at h;obtain ⟨_,_,rfl,rfl⟩:=h;exact ⟨hd,hc⟩
 ·simp only [Tm.op] at h;omega
theorem NA {a:Tm} (h:F1 a):FT a:=.inl h
theorem VG {n:Int} {a:Tm}:FT (.mk 18 n [a]):=.inr (.inr rfl)
theorem TP:FT natT:=.inl (.inl (.inl rfl))
theorem Sl:FT tyT:=.inl (.inl (.inr (.inl rfl)))
theorem Fx {p:Tm} (h:F0 p) (d c:Int):p.shift d c=p:=by
 rcases h with rfl | rfl | rfl | ⟨q,h | ⟨op,ho,h⟩,rfl⟩
 ·simp [Tm.shift,Tm.shiftL]
 ·simp [Tm.shift,Tm.shiftL]
 ·simp [Tm.shift,Tm.shiftL]
 ·subst h;simp [Tm.shift,Tm.shiftL]
 ·subst h;rcases ho with rfl | rfl<;>simp [Tm.shift,Tm.shiftL]
theorem Ky {p:Tm} (h:F0 p) (c d:Int) (u:Tm):p.subst c d u=p:=by
 rcases h with rfl | rfl | rfl | ⟨q,h | ⟨op,ho,h⟩,rfl⟩
 ·simp [Tm.subst,Tm.substL]
 ·simp [Tm.subst,Tm.substL]
 ·simp [Tm.subst,Tm.substL]
 ·subst h;simp [Tm.subst,Tm.substL]
 ·subst h;rcases ho with rfl | rfl<;>simp [Tm.subst,Tm.substL]
theorem Ja {p:Tm} {k:Nat} (h:F1 p) (hs:p.sc k) (hk:k<=1000) {d c:Nat} (hd:d<=1000) (hc:c<=1000):F1 (p.shift d c):=by
 rcases h with h | ⟨op,x,y,ho,hx,hy,rfl⟩ | ⟨p,hp,rfl⟩
 ·rw [Fx h];exact .inl h
 ·refine .inr (.inl ⟨op,x,y,ho,hx,hy,?_⟩);rw [Tm.shift,if_neg (by omega)];simp only [Tm.shiftL,Fx hx,Fx hy]
 ·refine .inr (.inr ⟨p.shift d c,?_,?_⟩)
  ·rcases hp with rfl | ⟨i,rfl⟩
   ·left;simp [Tm.shift,Tm.shiftL]
   ·right;rw [Tm.sc,if_neg (by decide)] at hs;have h2:=hs.2.2.1;rw [Tm.sc,if_pos rfl] at h2;have h3:=h2.2.1;rw [Tm.shift,Tm.shiftL];by_cases hc:(c:Int)<=(i:Int)
    ·refine ⟨i+d,?_⟩;rw [if_pos ⟨rfl,hc⟩,Ax (by omega) (by simp only [show Ak 18 0=0 from rfl] at h3;omega)]
     rfl
    ·exact ⟨i,by rw [if_neg (fun h=>hc h.2)]⟩
  ·simp [Tm.shift,Tm.shiftL,Ak]
theorem tF {c:Tm} (h:F1 c) (u:Tm):FT (c.subst 0 0 u)/\(c.subst 0 0 u).wt<=max 9 (1+u.wt)/\(c.subst 0 0 u).dp<=9+u.dp:=by
 rcases h with h | ⟨op,x,y,ho,hx,hy,rfl⟩ | ⟨p,hp,rfl⟩
 ·rw [Ky h]
  have:=LX h
  have:=DG c
  exact ⟨.inl (.inl h),by omega,by omega⟩
 ·have e:(Tm.mk op 0 [x,y]).subst 0 0 u=.mk op 0 [x,y]:=by
   rw [Tm.subst,if_neg (by omega)];simp only [Tm.substL,Ky hx,Ky hy]
  have:=FF (t:=.mk op 0 [x,y]) (.inr (.inl ⟨op,x,y,ho,hx,hy,rfl⟩))
  have:=DG (.mk op 0 [x,y])
  rw [e];exact ⟨.inl (.inr (.inl ⟨op,x,y,ho,hx,hy,rfl⟩)),by omega,by omega⟩
 ·have e:(Tm.mk 18 0 [p]).subst 0 0 u=.mk 18 0 [p.subst 0 0 u]:=by
   rw [Tm.subst,if_neg (by decide)];rfl
  rw [e];refine ⟨VG,?_,?_⟩
  ·rw [LF];have q:=Ht p u 0 0;have q2:p.wt=1:=by rcases hp with rfl | ⟨i,rfl⟩<;>simp [Tm.wt,Tm.wtL]
   rw [q2,Nat.one_mul] at q;omega
  ·rw [iG]
   have:=M4 p u 0 0
   have:p.dp<=1:=by rcases hp with rfl | ⟨i,rfl⟩<;>simp [Tm.dp,Tm.dpL]
   omega
theorem qL {e:Nat} {g:AR} {a t:Tm} (h:Gr 0 e g a t) (he:e<=7):FT t:=by
 by_cases h6:e<6
 ·exact .inl (.inl (t_5 h6 h))
 cases h with
 | tnat=>exact TP
 | tty=>exact Sl
 | tu=>exact .inl (.inl (.inr (.inr (.inl rfl))))
 | tlp _ _ _ r=>exact VG
 | tpi _ _ _ x y op ho h6 hgl hx h1 h2 =>
  have f1:∀{g:AR} {a t:Tm},Gr 0 (e - 1) g a t->F1 t:=by
   intro g a t h;by_cases h5:e - 1<6
   ·exact .inl (t_5 h5 h)
   ·exact rU (by rwa [show e - 1=6 by omega] at h)
  exact .inr (.inl ⟨op,x,y,ho,f1 h1,f1 h2,rfl⟩)
 | tlift _ _ _ t h6 h1=>exact VG
def psu {k:Nat} {t u:Tm} (h:t.sc (k+1)) (hw:t.wt<=400000000) (hu:u.sc k) (huw:u.wt<=400000000) (hk:k<=150000000):pSu t u (t.subst 0 0 u):=by
 refine ⟨t.wt+u.wt+20,fun n hn=>?_⟩
 have:=eS (n:=n) (t:=t) (u:=u) (v:=0) (K:=k+1) (by omega) (CT t _ h) (by omega) h (CT u _ hu) (by omega) (U8 u (by omega) hu) (by omega)
 rwa [IB 0 u hu (by omega) t (k+1) 0 h (by omega) (by omega) (by omega)] at this
def psh {k:Nat} {t:Tm} {d c:Int} (h:t.sc k) (hw:t.wt<=400000000) (hk:k<=100000) (hd:0<=d) (hd2:d<=100000) (hc:0<=c) (hc2:c<=100000):pSh t d c (t.shift d c):=by
 refine ⟨t.wt+20,fun n hn=>?_⟩
 have:=Q1 (n:=n) (t:=t) (d:=d) (c:=c) (K:=k) (by omega) (CT t _ h) (by omega) h (by omega) (by omega) (by omega)
 rwa [I2 d c t k 0 h (by omega) (by omega) (by omega),show c+0=c by omega] at this
def pfr {k:Nat} {t:Tm} (h:t.sc k) (hw:t.wt<=400000000) (hk:k<=150000000):pF t (t.free 0):=by
 refine ⟨t.wt+20,fun n hn=>?_⟩
 have:=Ux (n:=n) (t:=t) (v:=0) (K:=k) (by omega) (by omega) h (by omega)
 rwa [Ks 0 (by omega) t 0 (by omega)] at this
def Mm {k:Nat} {t u Y:Tm} (h:t.sc (k+1)) (hw:t.wt<=400000000) (hu:u.sc k) (huw:u.wt<=400000000) (hk:k<=2000) (hN:PN (t.subst 0 0 u) Y):Tv t u Y:=AbU (psu h hw hu huw (by omega)) hN
def AbW {a A:Tm} (h0:PN a A) (h1:PE A):Ev 117 [.fv a.enc] (Yp A 0):=by obtain ⟨N0,h0⟩:=h0;obtain ⟨N1,h1⟩:=h1;refine ⟨N0+N1+200,fun n hn=>?_⟩;obtain ⟨n,rfl⟩:=psc n (by omega);have h0:=h0 n (by omega);have h1:=h1 n (by omega);rw [Adg];obtain ⟨o1,n1,k1⟩:=a;obtain ⟨o2,n2,k2⟩:=A;simp only [Am,Yp,Tm.op,Tm.n,Tm.kids] at h0 h1 ⊢;simp only [vV,↓XX,XY,↓reduceIte,seval,↓Aq h0,↓Aq h1];exact Aw _ _
def AdG {a A:Tm} (h0:PN a A) (h1:PN A A) (h2:PE A) (hw:A.wt<=3001):gE A a:=by refine k_e ?_;obtain ⟨N0,q0⟩:=AbW h0 h2;obtain ⟨N1,q1⟩:=AbW h1 h2;refine ⟨N0+N1+20000,fun n hn=>?_⟩;obtain ⟨n,rfl⟩:=psc n (by omega);have q0:=q0 n (by omega);have q1:=q1 n (by omega);have c:=aQ (n:=n) A A 0 0 (by omega) (by omega);rw [(JK A A).2 rfl] at c;rw [c89];obtain ⟨o1,n1,k1⟩:=a;obtain ⟨o2,n2,k2⟩:=A;simp only [Am,Yp,Tm.op,Tm.n,Tm.kids] at q0 q1 c ⊢;simp only [gJ,S89,↓XX,XY,↓reduceIte,seval,↓Aq q0,↓Aq q1,↓bL,↓Af c];exact A6 rfl
def k_v {g:AR} {st:Int} {i:Nat} {T s A:Tm} (hi:i<g.length) (hl:g.length<=100000) (hg:g[g.length - 1 - i]?=some (st,T)) (h0:pSh T ((i:Int)+1) 0 s) (h1:PN s A):KI g st (.mk 1 (i:Int) []) A:=by
 have hv:Ev 83 [.fv (AM g),iv st,iv i] (.tuple [A.enc,.int .i64 0]):=by
  obtain ⟨N0,h0⟩:=h0;obtain ⟨N1,h1⟩:=h1;refine ⟨N0+N1+200,fun n hn=>?_⟩;obtain ⟨n,rfl⟩:=psc n (by omega);have hs:=h0 n (by omega);have hN:=h1 n (by omega);rw [c83];have hget:(g.map v1)[g.length - 1 - i]?=some (v1 (st,T)):=by rw [Ajv,hg];rfl
  have hix:=fun {β:Type}=>Bq (β:=β) (size:=4) hget rfl;have hlen:(g.map v1).length=g.length:=Ajw _;have w1:BC ((g.length:Int) - 1)=(g.length:Int) - 1:=by rw [Ax]<;>omega
  have w2:BC ((g.length:Int) - 1 - i)=((g.length - 1 - i:Nat):Int):=by rw [Ax (by omega) (by omega)];omega
  have wi:BC ((i:Int)+1)=(i:Int)+1:=by rw [Ax]<;>omega
  have hno:¬ ((g.length:Int)<=i):=by omega
  obtain ⟨oT,nT,kT⟩:=T;obtain ⟨os,ns,ks⟩:=s;obtain ⟨oR,nR,kR⟩:=A;simp only [AM,Am,Ai4,v1,Tm.op,Tm.n,Tm.kids] at hix hs hN ⊢;simp only [S83,↓XX,XY,↓reduceIte,seval,hlen,hno,w1,w2,wi,↓hix,FV.cells,↓Av hs,↓Aq hN];exact A6 rfl
 obtain ⟨N0,h0⟩:=hv;refine ⟨N0+200,fun n hn=>?_⟩;obtain ⟨n,rfl⟩:=psc n (by omega);have h0:=h0 n (by omega);rw [c58];obtain ⟨oA,pA,kA⟩:=A;simp only [Am,Ai4] at h0 ⊢;simp only [S58,↓XX,XY,↓reduceIte,seval,↓Av h0];exact A6 rfl
def AdJ {g:AR} {st:Int} {t a A:Tm} (a1:KI g st t A) (a2:PN a A) (a3:PN A A) (a4:PE A) (a5:A.wt<=3001):KC g st t a:=k_c a1 (AdG a2 a3 a4 a5)
def AdM {g:AR} {t:Tm} {m:Int} (a1:KI g 1 t (.mk 2 m [])):KL g t m:=k_l a1
def b9 {g:AR} {st:Int} {i:Nat} {T A:Tm} (a1:T.sc (g.length - 1 - i)) (a2:T.wt<=400000000) (a3:i<g.length) (a4:g.length<=2000) (a5:g[g.length - 1 - i]?=some (st,T)) (a6:PN (T.shift ((i+1:Nat):Int) 0) A):KI g st (.mk 1 i []) A:=k_v a3 (by omega) a5 (by rw [show (i:Int)+1=((i+1:Nat):Int) by omega];exact psh a1 a2 (by omega) (by omega) (by omega) (by omega) (by omega)) a6
def rS {g:AR} {m:Int} (a1:0<=m/\m<=1):KI g 1 (.mk 2 m []) (.mk 2 (m+1) []):=He (by decide) (Ads a1)
def xB {g:AR} {m:Int}:KI g 1 (.mk 10 m []) (.mk 2 0 []):=He (by decide) (PJ (by decide) Af9)
def Acd {g:AR} {m:Int}:KI g 1 (.mk 14 m []) (.mk 2 0 []):=He (by decide) (PJ (by decide) AeG)
def oC {g:AR} {m:Int}:KI g 1 (.mk 11 m []) natT:=He (by decide) (PJ (by decide) AfF)
def u4 {g:AR} {a:Tm} {m:Int} (a1:KC g 1 a natT):KI g 1 (.mk 12 m [a]) natT:=He (by decide) (PJ (by decide) (AdX (Aas a1)))
def jX {g:AR} {m:Int}:KI g 1 (.mk 15 m []) tyT:=He (by decide) (PJ (by decide) (Af0 Agn))
def iT {g:AR} {a b:Tm} {op m:Int} (a1:op=16\/op=17) (a2:KC g 1 a tyT) (a3:KC g 1 b tyT):KI g 1 (.mk op m [a,b]) tyT:=by
 rcases a1 with rfl | rfl
 ·exact He (by decide) (PJ (by decide) (AdF (tR a2 a3)))
 ·exact He (by decide) (PJ (by decide) (Afg (tR a2 a3)))
def lS {g:AR} {a:Tm} {m:Int} (a1:KC g 1 a tyT):KI g 1 (.mk 18 m [a]) (.mk 2 0 []):=He (by decide) (PJ (by decide) (AfZ (Aas a1)))
def uN {g:AR} {a A:Tm} {m:Int} (a1:KI g 0 a A):KI g 1 (.mk 19 m [a]) (.mk 18 0 [A]):=He (by decide) (PJ (by decide) (Agl a1))
def AaH {g:AR} {a b:Tm} {op m i j:Int} (a0:g.length<=2000) (a1:op=3\/op=6) (a2:KL g a i) (a3:KL (g++[(1,a)]) b j):KI g 1 (.mk op m [a,b]) (.mk 2 (if i<j then j else i) []):=by
 rcases a1 with rfl | rfl
 ·exact He (by decide) (Agk (z9 a2 (tS g 1 a (by omega)) a3))
 ·exact He (by decide) (AdO (z9 a2 (tS g 1 a (by omega)) a3))
def wV {g:AR} {a b B C:Tm} {m i:Int} (a0:g.length<=2000) (a1:KL g a i) (a2:KI (g++[(1,a)]) 1 b B) (a3:PN (.mk 3 0 [a,B]) C):KI g 1 (.mk 4 m [a,b]) C:=He (by decide) (Afi (AeT a1 (tS g 1 a (by omega)) a2 a3))
def xS {g:AR} {f x A B Y:Tm} {m q:Int} {k:Nat} (a1:x.sc k) (a2:x.wt<=400000000) (a3:B.sc (k+1)) (a4:B.wt<=400000000) (a5:k<=2000) (a6:KI g 1 f (.mk 3 q [A,B])) (a7:KC g 1 x A) (a8:PN (B.subst 0 0 x) Y):KI g 1 (.mk 5 m [f,x]) Y:=He (by decide) (Aft (AdE (k_s a6 rfl) a7 (Mm a3 a4 a1 a2 a5 a8) TW))
def wP {g:AR} {x A B:Tm} {m q:Int} (a1:KI g 1 x (.mk 6 q [A,B])):KI g 1 (.mk 8 m [x]) A:=He (by decide) (AfA (Ael (k_s a1 rfl)))
def pK {g:AR} {S x y A B Y:Tm} {m q i:Int} {k:Nat} (a1:x.sc k) (a2:x.wt<=400000000) (a3:B.sc (k+1)) (a4:B.wt<=400000000) (a5:k<=2000) (b1:KL g S i) (b2:PN S (.mk 6 q [A,B])) (b3:KC g 1 x A) (b4:PN (B.subst 0 0 x) Y) (b5:KC g 1 y Y):KI g 1 (.mk 7 m [S,x,y]) (.mk 6 q [A,B]):=He (by decide) (Age (Agr b1 b2 b3 (Mm a3 a4 a1 a2 a5 b4) b5))
def rG {g:AR} {X z s k:Tm} {m i:Int} {l:Nat} (a1:g.length<=1900) (a2:k.sc l) (a3:l<=2000) (a4:k.wt<=400000000) (b1:X=natT\/X=tyT) (b2:KL (g++[(1,natT)]) X i) (b3:PN X X) (b4:KC g 1 z X) (b5:KC (g++[(1,natT)]++[(1,X)]) 1 s X) (b6:KC g 1 k natT):KI g 1 (.mk 13 m [X,z,s,k]) X:=by
 have xsc:∀k,X.sc k:=by intro k;rcases b1 with rfl | rfl<;>exact Da
 have xsu:∀u:Tm,X.subst 0 0 u=X:=by intro u;rcases b1 with rfl | rfl<;>rfl
 have xsh:∀c:Int,X.shift 2 c=X:=by intro c;rcases b1 with rfl | rfl<;>rfl
 have xw:X.wt<=10:=by rcases b1 with rfl | rfl<;>simp [natT,tyT,Tm.wt,Tm.wtL]
 have zsc:(Tm.mk 11 0 []).sc 0:=Da;have v1sc:(Tm.mk 12 0 [.mk 1 1 []]).sc 2:=FZ (by rw [Tm.sc,if_pos rfl];exact ⟨rfl,by decide,trivial⟩);have p1:=Mm (t:=X) (u:=.mk 11 0 []) (xsc 1) (by omega) zsc (by decide) (by omega) (by rw [xsu];exact b3);have p2:=Mm (t:=X) (u:=.mk 12 0 [.mk 1 1 []]) (xsc 3) (by omega) v1sc (by decide) (by omega) (by rw [xsu];exact b3);have p3:=Mm (t:=X) (xsc (l+1)) (by omega) a2 a4 a3 (by rw [xsu];exact b3);have sh:=psh (d:=2) (c:=1) (xsc 0) (by omega) (by omega) (by omega) (by omega) (by omega) (by omega);rw [xsh] at sh;exact He (by decide) (AaY (Afs (tS g 1 natT (by omega)) b2 p1 b4 sh p2 (tS _ 1 X (by simp;omega)) b5 b6 p3))
def j6 {g:AR} {m:Int}:KI g 0 (.mk 25 m []) Dh:=NG (by decide) Acn
def cB {g:AR} {a b:Tm} {m:Int} (a1:KC g 0 a Dh) (a2:KC g 0 b Dh):KI g 0 (.mk 26 m [a,b]) Dh:=NG (by decide) (Acf (tR a1 a2))
def Acx {g:AR} {a b B:Tm} {k:Nat} (a0:g.length<=2000) (a1:B.sc k) (a2:k+2 * B.wt<=100000000) (a3:KI (g++[(0,a)]) 0 b (B.shift 1 0)):KU g a b B:=by have zsc:(Tm.mk 11 0 []).sc k:=Da;have hsc:(B.shift 1 0).sc (k+1):=Bj B 1 0 _ a1 (by omega);have hs:=psu hsc (by rw [AH];omega) zsc (by decide) (by omega);rw [MY B (.mk 11 0 []) 0 0 _ a1 (by omega) (by omega)] at hs;have hf:=pfr hsc (by rw [AH];omega) (by omega);rw [QM B 0 _ a1 (by omega) (by omega)] at hf;exact Afy (tS g 0 a (by omega)) a3 hf hs
def oO {g:AR} {a b B C:Tm} {m:Int} (a1:KC g 1 a tyT) (a2:KU g a b B) (a3:PN (.mk 16 0 [a,B]) C):KI g 0 (.mk 20 m [a,b]) C:=NG (by decide) (zV (Af1 a1 a2 a3))
def j9 {g:AR} {a b A:Tm} {m:Int} {k:Nat} (a0:g.length<=2000) (a1:a.sc k) (a2:k<=2000) (a3:a.wt<=400000000) (a4:KC g 1 a tyT) (a5:KC (g++[(0,a)]) 0 b (a.shift 1 0)) (a6:PN a A):KI g 0 (.mk 29 m [a,b]) A:=NG (by decide) (Aa2 (AeX a4 (tS g 0 a (by omega)) (psh a1 a3 (by omega) (by omega) (by omega) (by omega) (by omega)) a5 a6))
def lR {g:AR} {x y A B:Tm} {m:Int} (a1:KI g 0 x A) (a2:KU g A y B):KI g 0 (.mk 28 m [x,y]) B:=NG (by decide) (Ab5 a1 a2)
def xO {g:AR} {x A:Tm} {m q:Int} (a1:KI g 1 x (.mk 18 q [A])):KI g 0 (.mk 30 m [x]) A:=NG (by decide) (AbE (k_s a1 rfl) AbJ)
def jB {g:AR} {f x A B:Tm} {m q:Int} (a1:KI g 0 f (.mk 16 q [A,B])) (a2:KC g 0 x A):KI g 0 (.mk 21 m [f,x]) B:=NG (by decide) (z6 (k_s a1 rfl) TW a2 uI)
def d9 {g:AR} {x y A B C:Tm} {m:Int} (a1:KI g 0 x A) (a2:KI g 0 y B) (a3:PN (.mk 17 0 [A,B]) C):KI g 0 (.mk 22 m [x,y]) C:=NG (by decide) (AaW (Adm a1 a2 a3))
def mQ {g:AR} {x A B:Tm} {m q:Int} (a1:KI g 0 x (.mk 17 q [A,B])):KI g 0 (.mk 23 m [x]) A:=NG (by decide) (AbD (k_s a1 rfl) TW)
def xG {g:AR} {c x y A:Tm} {m:Int} (a1:KC g 0 c Dh) (a2:KI g 0 x A) (a3:KC g 0 y A):KI g 0 (.mk 27 m [c,x,y]) A:=NG (by decide) (AbP (Af6 a1 a2 a3))
def aX {B x:Tm} {k d c:Nat} (hB:B.sc (k+1)) (hx:x.sc k) (hk:k+c+d<=1000000) (wB:B.wt<=400000000) (wx:x.wt<=400000000):(B.subst 0 0 x).shift d c=(B.shift d (c+1)).subst 0 0 (x.shift d c):=by
 have e1:=KP B 0 k x (by simpa using hB) hx (by omega);have s1:=HE B x 0 k (by simpa using hB) hx (by omega);have w1:=Ht B x 0 0;have w2:=Nat.mul_le_mul wB wx;have e2:=Ck (B.subst 0 0 x) d c _ s1 (by omega);have e3:=Ck B d (c+1) _ hB (by omega);have e4:=Ck x d c _ hx (by omega);have s3:=Bj B d (c+1) _ hB (by omega);rw [show ((c+1:Nat):Int)=(c:Int)+1 by omega] at s3
 have s4:=Bj x d c _ hx (by omega);have e5:=KP (B.shift d (c+1)) 0 (k+d) (x.shift d c) (by rw [show k+d+1+0=k+1+d by omega];exact s3) s4 (by rw [AH,AH];omega)
 rw [show ((0:Nat):Int)=0 from rfl] at e1 e5
 rw [show ((c+1:Nat):Int)=(c:Int)+1 by omega] at e3
 rw [e2,e1,e5,e3,e4,Wk,UW];congr 1
 funext i
 simp only [YN];by_cases h0:i=0
 ·subst h0;simp [FQ]
 ·by_cases h1:i<c+1
  ·rw [if_neg (by omega),if_neg h0,if_pos h1,if_neg (by omega),if_neg h0,N8,if_pos (by omega)]
  ·rw [if_neg (by omega),if_neg h0,if_neg h1,if_neg (by omega),if_neg (by omega),N8,if_neg (by omega)];congr 1;omega
def gD {t:Tm} {k j d c:Nat} (h:t.sc k) (hb:k+j+d+2 * t.wt<=1000000000000):(t.shift j 0).shift d (c+j:Nat)=(t.shift d c).shift j 0:=by
 have e1:=Ck t j 0 k h (by omega);have e2:=Ck t d c k h (by omega);have s1:=Bj t j 0 k h (by omega);have s2:=Bj t d c k h (by omega);have e3:=Ck (t.shift j 0) d (c+j) _ s1 (by rw [AH];omega);have e4:=Ck (t.shift d c) j 0 _ s2 (by rw [AH];omega);rw [show ((0:Nat):Int)=0 from rfl] at e1 e4
 rw [e3,e4,e1,e2,FQ,FQ];congr 1
 funext i
 simp only [Nat.not_lt_zero,if_false];by_cases h1:i<c
 ·rw [if_pos h1,if_pos (by omega)]
 ·rw [if_neg h1,if_neg (by omega)];omega
def AcA {t:Tm} {k j d c:Nat} (h:t.sc k) (hc:c<=j) (hb:k+j+d+2 * t.wt<=1000000000000):(t.shift j 0).shift d c=t.shift (j+d:Nat) 0:=by
 have e1:=Ck t j 0 k h (by omega);have e2:=Ck t (j+d) 0 k h (by omega);have s1:=Bj t j 0 k h (by omega);have e3:=Ck (t.shift j 0) d c _ s1 (by rw [AH];omega);rw [show ((0:Nat):Int)=0 from rfl] at e1 e2
 rw [e3,e1,e2,FQ];congr 1
 funext i
 simp only [Nat.not_lt_zero,if_false];rw [if_neg (by omega)];omega
theorem Zb {G:List Nat} {t:Tm} {s:Nat} (h:HasT G t s) (E:List Nat):HasT (G++E) t s:=by
 induction h with
 | var G n s h0 h hs=>exact .var _ _ _ h0 (by rw [Ai9 (Ai7.1 h).1];exact h) hs
 | node G op n ks s sg hr hl hk ih=>exact .node _ _ _ _ _ _ hr hl fun i t bs s' a b=>by have:=ih i t bs s' a b;rwa [Ajs] at this
 | app G n m a b x y s s0 hs hy ha hb hx iha ihb ihx=>exact .app _ _ _ _ _ _ _ _ _ hs hy iha ihb ihx
 | fst G n m a x y s s1 s0 hs ha hx hy iha ihx ihy=>exact .fst _ _ _ _ _ _ _ _ _ hs iha ihx ihy
 | snd G n m a x y s s1 s0 hs ha hx hy iha ihx ihy=>exact .snd _ _ _ _ _ _ _ _ _ hs iha ihx ihy
def Sy {bs G:List Nat} {k:Nat}:(bs++G).take (k+bs.length)=bs++G.take k:=by rw [List.take_append,List.take_of_length_le (by omega),show k+bs.length - bs.length=k by omega]
theorem OG {G:List Nat} {t:Tm} {s:Nat} (h:HasT G t s):∀k,t.sc k->HasT (G.take k) t s:=by
 induction h with
 | var G n s h0 h hs =>intro k hsc;rw [Tm.sc,if_pos rfl] at hsc;exact .var _ _ _ h0 (by rw [List.getElem?_take,if_pos (by omega)];exact h) hs
 | node G op n ks s sg hr hl hk ih =>
  intro k hsc;rw [Tm.sc,if_neg (DX hr).1] at hsc;refine .node _ _ _ _ _ _ hr hl fun i t bs s' a b=>?_;have hb:=(Fa hr b).1;have q:=GT hsc.2.2 a;rw [Ajy,<- hb] at q
  have:=ih i t bs s' a b _ q
  rwa [Sy] at this
 | app G n m a b x y s s0 hs hy ha hb hx iha ihb ihx =>
  intro k hsc;simp only [Tm.sc,Tm.scL] at hsc;obtain ⟨_,_,⟨_,_,q1,q2,_⟩,q3,_⟩:=hsc
  have:=ihb _ q2
  exact .app _ _ _ _ _ _ _ _ _ hs hy (iha _ q1) (by have e:=Sy (bs:=[y]) (G:=G) (k:=k);simp only [Ai3,Ajh,Ajq,Ajo] at e;simpa [Ak,e] using this) (ihx _ q3)
 | fst G n m a x y s s1 s0 hs ha hx hy iha ihx ihy =>intro k hsc;simp only [Tm.sc,Tm.scL] at hsc;obtain ⟨_,_,⟨_,_,q1,q2,q3,_⟩,_⟩:=hsc;exact .fst _ _ _ _ _ _ _ _ _ hs (iha _ q1) (ihx _ q2) (ihy _ q3)
 | snd G n m a x y s s1 s0 hs ha hx hy iha ihx ihy =>intro k hsc;simp only [Tm.sc,Tm.scL] at hsc;obtain ⟨_,_,⟨_,_,q1,q2,q3,_⟩,_⟩:=hsc;exact .snd _ _ _ _ _ _ _ _ _ hs (iha _ q1) (ihx _ q2) (ihy _ q3)
def RU {G:List Nat} {t:Tm} {s:Nat} (h:HasT G t s) (d c:Nat) (hb:G.length+2 * c+d+2 * t.wt<=1000000000000):∃D,HasT D (t.shift d c) s:=by
 have h2:=Zb h (List.replicate c 0);have h3:=L3 h2 ((G++List.replicate c 0).take c) (List.replicate d 0) ((G++List.replicate c 0).drop c) (List.take_append_drop c _).symm (by simp only [List.length_take,List.length_drop,Ajg,List.length_replicate];omega);rw [List.length_replicate,show (List.take c (G++List.replicate c 0)).length=c by simp only [List.length_take,Ajg,List.length_replicate];omega] at h3
 exact ⟨_,h3⟩
inductive Ins (d:Nat):Nat->AR->AR->Prop
 | base (g m:AR) (h:m.length=d):Ins d 0 g (g++m)
 | more (c:Nat) (g g':AR) (st:Int) (T:Tm) (h:Ins d c g g'):Ins d (c+1) (g++[(st,T)]) (g'++[(st,T.shift d c)])
theorem Jc {d c:Nat} {g g':AR} (h:Ins d c g g'):g'.length=g.length+d/\c<=g.length:=by
 induction h with
 | base g m h=>simp [h]
 | more c g g' st T h ih=>simp only [Ajg,Ai3,Ajh];omega
theorem l9 {d c:Nat} {g g':AR} (h:Ins d c g g'):∀(i:Nat) (st:Int) (T:Tm),i<g.length->g[g.length - 1 - i]?=some (st,T)->(i<c->g'[g'.length - 1 - i]?=some (st,T.shift d (c - 1 - i:Nat)))/\(c<=i->g'[g'.length - 1 - (i+d)]?=some (st,T)):=by
 induction h with
 | base g m h =>
  intro i st T hi hg;refine ⟨by omega,fun _=>?_⟩;rw [Ajg,Ai9 (by omega),show g.length+m.length - 1 - (i+d)=g.length - 1 - i by omega]
  exact hg
 | more c g g' st' T' h ih =>
  intro i st T hi hg;have hl:=Jc h;rw [Ajg,Ai3,Ajh] at hi hg;rw [Ajg,Ai3,Ajh];cases i with
  | zero =>
   rw [Ai8 (by omega),show g.length+(0+1) - 1 - 0 - g.length=0 by omega] at hg
   simp only [Ajb,AiZ,Ai0] at hg;obtain ⟨rfl,rfl⟩:=hg;refine ⟨fun _=>?_,by omega⟩;rw [Ai8 (by omega),show g'.length+(0+1) - 1 - 0 - g'.length=0 by omega,show c+1 - 1 - 0=c by omega]
   rfl
  | succ i =>
   rw [Ai9 (by omega),show g.length+(0+1) - 1 - (i+1)=g.length - 1 - i by omega] at hg
   obtain ⟨q1,q2⟩:=ih i st T (by omega) hg;refine ⟨fun hc=>?_,fun hc=>?_⟩
   ·rw [Ai9 (by omega),show g'.length+(0+1) - 1 - (i+1)=g'.length - 1 - i by omega,show c+1 - 1 - (i+1)=c - 1 - i by omega]
    exact q1 (by omega)
   ·rw [Ai9 (by omega),show g'.length+(0+1) - 1 - (i+1+d)=g'.length - 1 - (i+d) by omega]
    exact q2 (by omega)
def Q8 (X Y:Tm):Prop:=∀d c:Nat,d<=100->c<=2000->PN (X.shift d c) (Y.shift d c)
def PEs (A:Tm):Prop:=∀d c:Nat,d<=100->c<=2000->PE (A.shift d c)
def Gh (g:AR) (st:Int) (t A:Tm):Prop:=∀(d c:Nat) g',d<=100->g'.length<=2000->Ins d c g g'->KI g' st (t.shift d c) (A.shift d c)
def Ll (g:AR) (st:Int) (t a:Tm):Prop:=∀(d c:Nat) g',d<=100->g'.length<=2000->Ins d c g g'->KC g' st (t.shift d c) (a.shift d c)
def wI (g:AR) (t:Tm) (m:Int):Prop:=∀(d c:Nat) g',d<=100->g'.length<=2000->Ins d c g g'->KL g' (t.shift d c) m
def KUs (g:AR) (a b B:Tm):Prop:=∀(d c:Nat) g',d<=100->g'.length<=2000->Ins d c g g'->KU g' (a.shift d c) (b.shift d (c+1:Nat)) (B.shift d c)
def J9 {d c:Nat} {g g':AR} (h:Ins d c g g') (hl:g'.length<=2000):c<=2000:=by have:=Jc h;omega
def Ot {d c:Nat} {g g':AR} {st:Int} {T:Tm} (hd:d<=100) (hg:g.length<=1010) (h:Ins d c g g'):(g'++[(st,T.shift d c)]).length<=2000/\Ins d (c+1) (g++[(st,T)]) (g'++[(st,T.shift d c)]):=⟨by have:=Jc h;simp only [Ajg,Ai3,Ajh];omega,.more _ _ _ _ _ h⟩
def IH {op m:Int} (h:op≠1) (d c:Int):(Tm.mk op m []).shift d c=.mk op m []:=by rw [Tm.shift,if_neg (fun q=>h q.1)];rfl
def Up {op m:Int} {a:Tm} (h:op≠1) (h0:Ak op 0=0) (d:Int) (c:Nat):(Tm.mk op m [a]).shift d c=.mk op m [a.shift d c]:=by rw [Tm.shift,if_neg (fun q=>h q.1)];simp only [Tm.shiftL,h0];simp
def HI {op m:Int} {a b:Tm} {j:Nat} (h:op≠1) (h0:Ak op 0=0) (h1:Ak op 1=j) (d:Int) (c:Nat):(Tm.mk op m [a,b]).shift d c=.mk op m [a.shift d c,b.shift d (c+j:Nat)]:=by rw [Tm.shift,if_neg (fun q=>h q.1)];simp only [Tm.shiftL,h0,Ajy,h1];simp
def Abe {op m:Int} {a b e:Tm} (h:op≠1) (h0:Ak op 0=0) (h1:Ak op 1=0) (h2:Ak op 2=0) (d:Int) (c:Nat):(Tm.mk op m [a,b,e]).shift d c=.mk op m [a.shift d c,b.shift d c,e.shift d c]:=by rw [Tm.shift,if_neg (fun q=>h q.1)];simp only [Tm.shiftL,h0,Ajy,h1,h2,show 0+1+1=2 from rfl];simp
def Afz {m:Int} {p z w k:Tm} (d:Int) (c:Nat):(Tm.mk 13 m [p,z,w,k]).shift d c=.mk 13 m [p.shift d (c+1:Nat),z.shift d c,w.shift d (c+2:Nat),k.shift d c]:=by rw [Tm.shift,if_neg (by omega)];simp only [Tm.shiftL,show Ak 13 0=1 from rfl,show Ak 13 (0+1)=0 from rfl,show Ak 13 (0+1+1)=2 from rfl,show Ak 13 (0+1+1+1)=0 from rfl];simp
def Zf (d c:Int):natT.shift d c=natT:=IH (by decide) d c
def mT (d c:Int):tyT.shift d c=tyT:=IH (by decide) d c
def sF (d c:Int):Dh.shift d c=Dh:=IH (by decide) d c
def Abt {g:AR} {st:Int} {t a A:Tm} (a1:Gh g st t A) (a2:Q8 a A) (a3:Q8 A A) (a4:PEs A) (a5:A.wt<=3001):Ll g st t a:=fun d c g' hd hl hi=>AdJ (a1 d c g' hd hl hi) (a2 d c hd (J9 hi hl)) (a3 d c hd (J9 hi hl)) (a4 d c hd (J9 hi hl)) (by rw [AH];exact a5)
def Aee {g:AR} {t:Tm} {m:Int} (a1:Gh g 1 t (.mk 2 m [])):wI g t m:=fun d c g' hd hl hi=>AdM (by have:=a1 d c g' hd hl hi;rwa [IH (by decide)] at this)
def uF {g:AR} {st:Int} {i:Nat} {T A:Tm} (a1:T.sc (g.length - 1 - i)) (a2:T.wt<=400000000) (a3:i<g.length) (a4:g.length<=1000) (a5:g[g.length - 1 - i]?=some (st,T)) (a6:Q8 (T.shift ((i+1:Nat):Int) 0) A):Gh g st (.mk 1 i []) A:=by
 intro d c g' hd hl hi;have hlen:=Jc hi;obtain ⟨q1,q2⟩:=l9 hi i st T a3 a5;have h6:=a6 d c hd (by omega);rw [Tm.shift,Tm.shiftL];by_cases hc:i<c
 ·rw [if_neg (by omega)];have s:=Bj T d (c - 1 - i) _ a1 (by omega);refine b9 (T:=T.shift d (c - 1 - i:Nat)) ?_ (by rw [AH];exact a2) (by omega) hl (q1 hc) ?_
  ·rw [show g'.length - 1 - i=g.length - 1 - i+d by omega];exact s
  ·have e:=gD (j:=i+1) (d:=d) (c:=c - 1 - i) a1 (by omega);rw [show c - 1 - i+(i+1)=c by omega] at e
   rw [<- e];exact h6
 ·rw [if_pos ⟨rfl,by omega⟩,Ax (by omega) (by omega),show (i:Int)+(d:Int)=((i+d:Nat):Int) by omega]
  refine b9 (T:=T) ?_ a2 (by omega) hl (q2 (by omega)) ?_
  ·rw [show g'.length - 1 - (i+d)=g.length - 1 - i by omega];exact a1
  ·rw [AcA (k:=g.length - 1 - i) a1 (by omega) (by omega)] at h6;rw [show i+d+1=i+1+d by omega];exact h6
def xN {g:AR} {m:Int} (a1:0<=m/\m<=1):Gh g 1 (.mk 2 m []) (.mk 2 (m+1) []):=fun d c g' hd hl hi=>by rw [IH (by decide),IH (by decide)];exact rS a1
def uJ {g:AR} {m:Int}:Gh g 1 (.mk 10 m []) (.mk 2 0 []):=fun d c g' hd hl hi=>by rw [IH (by decide),IH (by decide)];exact xB
def AaD {g:AR} {m:Int}:Gh g 1 (.mk 14 m []) (.mk 2 0 []):=fun d c g' hd hl hi=>by rw [IH (by decide),IH (by decide)];exact Acd
def mO {g:AR} {m:Int}:Gh g 1 (.mk 11 m []) natT:=fun d c g' hd hl hi=>by rw [IH (by decide),Zf];exact oC
def pO {g:AR} {m:Int}:Gh g 1 (.mk 15 m []) tyT:=fun d c g' hd hl hi=>by rw [IH (by decide),mT];exact jX
def lD {g:AR} {m:Int}:Gh g 0 (.mk 25 m []) Dh:=fun d c g' hd hl hi=>by rw [IH (by decide),sF];exact j6
def qR {g:AR} {st:Int} {t:Tm} (a:Ll g st t natT) {d c:Nat} {g':AR} (hd:d<=100) (hl:g'.length<=2000) (hi:Ins d c g g'):KC g' st (t.shift d c) natT:=by have:=a d c g' hd hl hi;rwa [Zf] at this
def Q5 {g:AR} {st:Int} {t:Tm} (a:Ll g st t tyT) {d c:Nat} {g':AR} (hd:d<=100) (hl:g'.length<=2000) (hi:Ins d c g g'):KC g' st (t.shift d c) tyT:=by have:=a d c g' hd hl hi;rwa [mT] at this
def e8 {g:AR} {st:Int} {t:Tm} (a:Ll g st t Dh) {d c:Nat} {g':AR} (hd:d<=100) (hl:g'.length<=2000) (hi:Ins d c g g'):KC g' st (t.shift d c) Dh:=by have:=a d c g' hd hl hi;rwa [sF] at this
def uW {g:AR} {a:Tm} {m:Int} (a1:Ll g 1 a natT):Gh g 1 (.mk 12 m [a]) natT:=fun d c g' hd hl hi=>by rw [Up (by decide) rfl,Zf];exact u4 (qR a1 hd hl hi)
def jL {g:AR} {a:Tm} {m:Int} (a1:Ll g 1 a tyT):Gh g 1 (.mk 18 m [a]) (.mk 2 0 []):=fun d c g' hd hl hi=>by rw [Up (by decide) rfl,IH (by decide)];exact lS (Q5 a1 hd hl hi)
def y9 {g:AR} {a A:Tm} {m:Int} (a1:Gh g 0 a A):Gh g 1 (.mk 19 m [a]) (.mk 18 0 [A]):=fun d c g' hd hl hi=>by rw [Up (by decide) rfl,Up (by decide) rfl];exact uN (a1 d c g' hd hl hi)
def jK {g:AR} {a b:Tm} {op m:Int} (a1:op=16\/op=17) (a2:Ll g 1 a tyT) (a3:Ll g 1 b tyT):Gh g 1 (.mk op m [a,b]) tyT:=fun d c g' hd hl hi=>by
 rw [HI (j:=0) (by omega) (by rcases a1 with rfl | rfl<;>rfl) (by rcases a1 with rfl | rfl<;>rfl),mT];exact iT a1 (Q5 a2 hd hl hi) (Q5 a3 hd hl hi)
def Abu {g:AR} {a b:Tm} {op m i j:Int} (a0:g.length<=1000) (a1:op=3\/op=6) (a2:wI g a i) (a3:wI (g++[(1,a)]) b j):Gh g 1 (.mk op m [a,b]) (.mk 2 (if i<j then j else i) []):=fun d c g' hd hl hi=>by
 rw [HI (j:=1) (by omega) (by rcases a1 with rfl | rfl<;>rfl) (by rcases a1 with rfl | rfl<;>rfl),IH (by decide)];obtain ⟨l1,i1⟩:=Ot (st:=1) (T:=a) hd (by omega) hi;exact AaH hl a1 (a2 d c g' hd hl hi) (a3 d _ _ hd l1 i1)
def wQ {g:AR} {a b B C:Tm} {m i:Int} (a0:g.length<=1000) (a1:wI g a i) (a2:Gh (g++[(1,a)]) 1 b B) (a3:Q8 (.mk 3 0 [a,B]) C):Gh g 1 (.mk 4 m [a,b]) C:=fun d c g' hd hl hi=>by
 rw [HI (j:=1) (by decide) rfl rfl];obtain ⟨l1,i1⟩:=Ot (st:=1) (T:=a) hd (by omega) hi;have h3:=a3 d c hd (J9 hi hl);rw [HI (j:=1) (by decide) rfl rfl] at h3;exact wV hl (a1 d c g' hd hl hi) (a2 d _ _ hd l1 i1) h3
def yB {g:AR} {f x A B Y:Tm} {m q:Int} {k:Nat} (a1:x.sc k) (a2:x.wt<=400000000) (a3:B.sc (k+1)) (a4:B.wt<=400000000) (a5:k<=1000) (a6:Gh g 1 f (.mk 3 q [A,B])) (a7:Ll g 1 x A) (a8:Q8 (B.subst 0 0 x) Y):Gh g 1 (.mk 5 m [f,x]) Y:=fun d c g' hd hl hi=>by
 have hc:=J9 hi hl;rw [HI (j:=0) (by decide) rfl rfl];have h6:=a6 d c g' hd hl hi;rw [HI (j:=1) (by decide) rfl rfl] at h6;have h8:=a8 d c hd hc;rw [aX a3 a1 (by omega) a4 a2] at h8;have s1:=Bj x d c _ a1 (by omega);have s2:=Bj B d (c+1) _ a3 (by omega);exact xS (k:=k+d) s1 (by rw [AH];exact a2) (by rw [show k+d+1=k+1+d by omega];exact s2) (by rw [AH];exact a4) (by omega) h6 (a7 d c g' hd hl hi) h8
def wF {g:AR} {x A B:Tm} {m q:Int} (a1:Gh g 1 x (.mk 6 q [A,B])):Gh g 1 (.mk 8 m [x]) A:=fun d c g' hd hl hi=>by
 rw [Up (by decide) rfl];have h:=a1 d c g' hd hl hi;rw [HI (j:=1) (by decide) rfl rfl] at h;exact wP h
def oN {g:AR} {S x y A B Y:Tm} {m q i:Int} {k:Nat} (a1:x.sc k) (a2:x.wt<=400000000) (a3:B.sc (k+1)) (a4:B.wt<=400000000) (a5:k<=1000) (b1:wI g S i) (b2:Q8 S (.mk 6 q [A,B])) (b3:Ll g 1 x A) (b4:Q8 (B.subst 0 0 x) Y) (b5:Ll g 1 y Y):Gh g 1 (.mk 7 m [S,x,y]) (.mk 6 q [A,B]):=fun d c g' hd hl hi=>by
 have hc:=J9 hi hl;rw [Abe (by decide) rfl rfl rfl,HI (j:=1) (by decide) rfl rfl];have h2:=b2 d c hd hc;rw [HI (j:=1) (by decide) rfl rfl] at h2;have h4:=b4 d c hd hc;rw [aX a3 a1 (by omega) a4 a2] at h4;have s1:=Bj x d c _ a1 (by omega);have s2:=Bj B d (c+1) _ a3 (by omega);exact pK (k:=k+d) s1 (by rw [AH];exact a2) (by rw [show k+d+1=k+1+d by omega];exact s2) (by rw [AH];exact a4) (by omega) (b1 d c g' hd hl hi) h2 (b3 d c g' hd hl hi) h4 (b5 d c g' hd hl hi)
def uE {g:AR} {X z s k:Tm} {m i:Int} {l:Nat} (a1:g.length<=900) (a2:k.sc l) (a3:l<=1000) (a4:k.wt<=400000000) (b1:X=natT\/X=tyT) (b2:wI (g++[(1,natT)]) X i) (b3:Q8 X X) (b4:Ll g 1 z X) (b5:Ll (g++[(1,natT)]++[(1,X)]) 1 s X) (b6:Ll g 1 k natT):Gh g 1 (.mk 13 m [X,z,s,k]) X:=fun d c g' hd hl hi=>by
 have hlen:=Jc hi;have e:∀d c:Int,X.shift d c=X:=by
  rcases b1 with rfl | rfl
  ·exact Zf
  ·exact mT
 obtain ⟨l1,i1⟩:=Ot (st:=1) (T:=natT) hd (by omega) hi;rw [Zf] at i1 l1;obtain ⟨l2,i2⟩:=Ot (st:=1) (T:=X) hd (by simp only [Ajg,Ai3,Ajh];omega) i1;rw [e] at i2 l2;have h2:=b2 d _ _ hd l1 i1;have h3:=b3 d c hd (by omega);have h4:=b4 d c g' hd hl hi;have h5:=b5 d _ _ hd l2 i2;rw [e] at h2 h4 h5;rw [e] at h3;rw [Afz,e,e];exact rG (l:=l+d) (by omega) (Bj k d c _ a2 (by omega)) (by omega) (by rw [AH];exact a4) b1 h2 h3 h4 h5 (qR b6 hd hl hi)
def Z8 {g:AR} {a b:Tm} {m:Int} (a1:Ll g 0 a Dh) (a2:Ll g 0 b Dh):Gh g 0 (.mk 26 m [a,b]) Dh:=fun d c g' hd hl hi=>by
 rw [HI (j:=0) (by decide) rfl rfl,sF];exact cB (e8 a1 hd hl hi) (e8 a2 hd hl hi)
def Acq {g:AR} {a b B:Tm} {k:Nat} (a0:g.length<=1000) (a1:B.sc k) (a2:k+2 * B.wt<=100000) (a3:Gh (g++[(0,a)]) 0 b (B.shift 1 0)):KUs g a b B:=fun d c g' hd hl hi=>by
 obtain ⟨l1,i1⟩:=Ot (st:=0) (T:=a) hd (by omega) hi;have h3:=a3 d _ _ hd l1 i1;have e:=gD (j:=1) (d:=d) (c:=c) a1 (by omega);rw [show ((1:Nat):Int)=1 from rfl] at e
 rw [e] at h3;exact Acx (k:=k+d) hl (Bj B d c _ a1 (by omega)) (by rw [AH];omega) h3
def nW {g:AR} {a b B C:Tm} {m:Int} (a1:Ll g 1 a tyT) (a2:KUs g a b B) (a3:Q8 (.mk 16 0 [a,B]) C):Gh g 0 (.mk 20 m [a,b]) C:=fun d c g' hd hl hi=>by
 have h3:=a3 d c hd (J9 hi hl);rw [HI (j:=0) (by decide) rfl rfl] at h3;rw [HI (j:=1) (by decide) rfl rfl];exact oO (Q5 a1 hd hl hi) (a2 d c g' hd hl hi) h3
def nK {g:AR} {a b A:Tm} {m:Int} {k:Nat} (a0:g.length<=1000) (a1:a.sc k) (a2:k<=1000) (a3:a.wt<=400000000) (a4:Ll g 1 a tyT) (a5:Ll (g++[(0,a)]) 0 b (a.shift 1 0)) (a6:Q8 a A):Gh g 0 (.mk 29 m [a,b]) A:=fun d c g' hd hl hi=>by
 have hc:=J9 hi hl;obtain ⟨l1,i1⟩:=Ot (st:=0) (T:=a) hd (by omega) hi;have h5:=a5 d _ _ hd l1 i1;have e:=gD (j:=1) (d:=d) (c:=c) a1 (by omega);rw [show ((1:Nat):Int)=1 from rfl] at e
 rw [e] at h5;rw [HI (j:=1) (by decide) rfl rfl];exact j9 (k:=k+d) hl (Bj a d c _ a1 (by omega)) (by omega) (by rw [AH];exact a3) (Q5 a4 hd hl hi) h5 (a6 d c hd hc)
def nS {g:AR} {x y A B:Tm} {m:Int} (a1:Gh g 0 x A) (a2:KUs g A y B):Gh g 0 (.mk 28 m [x,y]) B:=fun d c g' hd hl hi=>by
 rw [HI (j:=1) (by decide) rfl rfl];exact lR (a1 d c g' hd hl hi) (a2 d c g' hd hl hi)
def v7 {g:AR} {x A:Tm} {m q:Int} (a1:Gh g 1 x (.mk 18 q [A])):Gh g 0 (.mk 30 m [x]) A:=fun d c g' hd hl hi=>by
 have h:=a1 d c g' hd hl hi;rw [Up (by decide) rfl] at h ⊢;exact xO h
def iV {g:AR} {f x A B:Tm} {m q:Int} (a1:Gh g 0 f (.mk 16 q [A,B])) (a2:Ll g 0 x A):Gh g 0 (.mk 21 m [f,x]) B:=fun d c g' hd hl hi=>by
 have h:=a1 d c g' hd hl hi;rw [HI (j:=0) (by decide) rfl rfl] at h ⊢;exact jB h (a2 d c g' hd hl hi)
def d8 {g:AR} {x y A B C:Tm} {m:Int} (a1:Gh g 0 x A) (a2:Gh g 0 y B) (a3:Q8 (.mk 17 0 [A,B]) C):Gh g 0 (.mk 22 m [x,y]) C:=fun d c g' hd hl hi=>by
 have h3:=a3 d c hd (J9 hi hl);rw [HI (j:=0) (by decide) rfl rfl] at h3 ⊢;exact d9 (a1 d c g' hd hl hi) (a2 d c g' hd hl hi) h3
def lY {g:AR} {x A B:Tm} {m q:Int} (a1:Gh g 0 x (.mk 17 q [A,B])):Gh g 0 (.mk 23 m [x]) A:=fun d c g' hd hl hi=>by
 have h:=a1 d c g' hd hl hi;rw [HI (j:=0) (by decide) rfl rfl] at h;rw [Up (by decide) rfl];exact mQ h
def rK {g:AR} {c0 x y A:Tm} {m:Int} (a1:Ll g 0 c0 Dh) (a2:Gh g 0 x A) (a3:Ll g 0 y A):Gh g 0 (.mk 27 m [c0,x,y]) A:=fun d c g' hd hl hi=>by
 rw [Abe (by decide) rfl rfl rfl];exact xG (e8 a1 hd hl hi) (a2 d c g' hd hl hi) (a3 d c g' hd hl hi)
def Y3 (e:Int):Prop:=e=5\/e=17
def A0 {e:Int} (h:Y3 e):e≠0:=by unfold Y3 at h;omega
structure NX (k:Nat) (X Y:Tm):Prop where
 sc:X.sc k
 dp:X.dp<=20000
 nf:∀f u,AF f X=some (u,0)->u=Y/\Q8 X Y
structure TX (k:Nat) (A:Tm):Prop where
 n:NX k A A
 e:PEs A
 w:A.wt<=3001
def QI (g:AR) (st:Int) (t A:Tm):Prop:=∃r e,JI (AM g) st t r e/\(Y3 e\/e=0/\r=A/\Gh g st t A)
def QC (g:AR) (st:Int) (t a:Tm):Prop:=∃e,JC (AM g) st t a e/\(Y3 e\/e=0/\Ll g st t a)
def QL (g:AR) (t:Tm) (m:Int):Prop:=∃m' e,JL (AM g) t m' e/\(Y3 e\/e=0/\m'=m/\wI g t m)
def Rz {k:Nat} {X Y:Tm} (hk:k<=1000) (h:NX k X Y):∃u e,JN X u e/\(Y3 e\/e=0/\u=Y/\Q8 X Y/\NOk k Y):=by
 obtain ⟨u,e,h1,h2,f,h3⟩:=jn hk h.sc h.dp;refine ⟨u,e,h1,?_⟩;rcases h2 with ⟨rfl,h4⟩ | ⟨h4,_⟩
 ·obtain ⟨rfl,h5⟩:=h.nf f u h3;exact .inr ⟨rfl,rfl,h5,h4⟩
 ·exact .inl h4
def AcJ {k:Nat} {a A:Tm} (hk:k<=1000) (ha:NX k a A) (hA:NX k A A):∃w e,JE A a w e/\(Y3 e\/e=0/\w=true/\Q8 a A/\Q8 A A):=by
 obtain ⟨w,e,h3,h4⟩:=je hk hA.sc ha.sc hA.dp ha.dp;refine ⟨w,e,h3,?_⟩;rcases h4 with h4 | ⟨h4,f,x,f',y,hx,hy,_,_,hw⟩
 ·exact .inl h4
 ·obtain ⟨rfl,p1⟩:=hA.nf f x hx;obtain ⟨rfl,p2⟩:=ha.nf f' y hy;exact .inr ⟨h4,by rw [hw];exact (JK _ _).2 rfl,p2,p1⟩
def q_c {g:AR} {st:Int} {t A a:Tm} (hk:g.length<=1000) (h:QI g st t A) (ha:NX g.length a A) (hA:TX g.length A):QC g st t a:=by
 obtain ⟨r,e,h3,h4⟩:=h;rcases h4 with h4 | ⟨rfl,rfl,h4⟩
 ·exact ⟨e,Acj (A0 h4) h3,.inl h4⟩
 ·obtain ⟨w,e,h6,h7⟩:=AcJ hk ha hA.n;rcases h7 with h7 | ⟨rfl,rfl,p1,p2⟩
  ·exact ⟨e,Abq (A0 h7) h3 h6,.inl h7⟩
  ·exact ⟨0,AbL h3 h6,.inr ⟨rfl,Abt h4 p1 p2 hA.e hA.w⟩⟩
def Dt {g:AR} {st:Int} {t A:Tm} (hk:g.length<=1000) (h:QI g st t A) (hA:TX g.length A):QC g st t A:=q_c hk h hA.n hA
def Y2 {g:AR} {t:Tm} {m:Int} (h:QI g 1 t (.mk 2 m [])):QL g t m:=by
 obtain ⟨r,e,h1,h2⟩:=h;rcases h2 with h2 | ⟨rfl,rfl,h2⟩
 ·exact ⟨0,e,AdD (A0 h2) h1,.inl h2⟩
 ·exact ⟨m,0,Adw rfl h1,.inr ⟨rfl,rfl,Aee h2⟩⟩
def q_2 {g:AR} {st:Int} {a x y:Tm} (h1:QC g st x a) (h2:QC g st y a):∃e,Y0 (AM g) st [x,y] a e/\(Y3 e\/e=0/\Ll g st x a/\Ll g st y a):=by
 obtain ⟨e,h1,c1⟩:=h1;obtain ⟨e',h2,c2⟩:=h2;rcases c1 with c1 | ⟨rfl,c1⟩
 ·exact ⟨e,xF (A0 c1) h1,.inl c1⟩
 ·rcases c2 with c2 | ⟨rfl,c2⟩
  ·exact ⟨e',wZ (A0 c2) h1 h2,.inl c2⟩
  ·exact ⟨0,Abj h1 h2,.inr ⟨rfl,c1,c2⟩⟩
def qO (g:AR) {m:Int} (h:0<=m/\m<=1):QI g 1 (.mk 2 m []) (.mk 2 (m+1) []):=⟨_,0,Agi (by omega) (by omega) (by omega),.inr ⟨rfl,rfl,xN h⟩⟩
def Wv (g:AR) (m:Int):QI g 1 (.mk 10 m []) (.mk 2 0 []):=⟨_,0,vA,.inr ⟨rfl,rfl,uJ⟩⟩
def pG (g:AR) (m:Int):QI g 1 (.mk 14 m []) (.mk 2 0 []):=⟨_,0,Acu,.inr ⟨rfl,rfl,AaD⟩⟩
def SG (g:AR) (m:Int):QI g 1 (.mk 11 m []) natT:=⟨_,0,oW,.inr ⟨rfl,rfl,mO⟩⟩
def eX (g:AR) (m:Int):QI g 0 (.mk 25 m []) Dh:=⟨_,0,Gf (by omega) xZ,.inr ⟨rfl,rfl,lD⟩⟩
def Ug (g:AR) (m:Int):QI g 1 (.mk 15 m []) tyT:=⟨_,0,mX (pS (by simp) (by simp)),.inr ⟨rfl,rfl,pO⟩⟩
def ZA {g:AR} {a:Tm} (m:Int) (h:QC g 1 a natT):QI g 1 (.mk 12 m [a]) natT:=by
 obtain ⟨e,h1,h2⟩:=h;rcases h2 with h2 | ⟨rfl,h2⟩
 ·exact ⟨_,e,fM (A0 h2) h1,.inl h2⟩
 ·exact ⟨_,0,rO h1,.inr ⟨rfl,rfl,uW h2⟩⟩
def Pc {g:AR} {a:Tm} (m:Int) (h:QC g 1 a tyT):QI g 1 (.mk 18 m [a]) (.mk 2 0 []):=by
 obtain ⟨e,h1,h2⟩:=h;rcases h2 with h2 | ⟨rfl,h2⟩
 ·exact ⟨_,e,Yu (A0 h2) h1,.inl h2⟩
 ·exact ⟨_,0,nV h1,.inr ⟨rfl,rfl,jL h2⟩⟩
def S5 {g:AR} {a b:Tm} {op:Int} (m:Int) (ho:op=16\/op=17) (h:QC g 1 a tyT) (h':QC g 1 b tyT):QI g 1 (.mk op m [a,b]) tyT:=by
 obtain ⟨e,h1,h2⟩:=q_2 h h';rcases h2 with h2 | ⟨rfl,h2,h3⟩
 ·refine ⟨.z,e,?_,.inl h2⟩;rcases ho with rfl | rfl
  ·exact YE (A0 h2) h1
  ·exact Yb (A0 h2) h1
 ·refine ⟨_,0,?_,.inr ⟨rfl,rfl,jK ho h2 h3⟩⟩;rcases ho with rfl | rfl
  ·exact i8 h1
  ·exact lF h1
def AaM {g:AR} {a A:Tm} (m:Int) (h:QI g 0 a A):QI g 1 (.mk 19 m [a]) (.mk 18 0 [A]):=by
 obtain ⟨r,e,h1,h2⟩:=h;rcases h2 with h2 | ⟨rfl,rfl,h2⟩
 ·exact ⟨_,e,bC (A0 h2) h1,.inl h2⟩
 ·exact ⟨_,0,yS h1,.inr ⟨rfl,rfl,y9 h2⟩⟩
def eO {g:AR} {a b:Tm} {op i j:Int} (m:Int) (ho:op=3\/op=6) (hk:g.length<=1000) (h1:QL g a i) (h2:QL (g++[(1,a)]) b j):QI g 1 (.mk op m [a,b]) (.mk 2 (if i<j then j else i) []):=by
 obtain ⟨i',e,h1,c1⟩:=h1;obtain ⟨j',e',h2,c2⟩:=h2;have hb:=jb g 1 a (by omega);rcases c1 with c1 | ⟨rfl,rfl,c1⟩
 ·refine ⟨.z,e,?_,.inl c1⟩;rcases ho with rfl | rfl
  ·exact Ct (by omega) (oS (A0 c1) h1)
  ·exact Ct (by omega) (Z3 (A0 c1) h1)
 ·rcases c2 with c2 | ⟨rfl,rfl,c2⟩
  ·refine ⟨.z,e',?_,.inl c2⟩;rcases ho with rfl | rfl
   ·exact Ct (by omega) (lL (A0 c2) h1 hb h2)
   ·exact Ct (by omega) (Zp (A0 c2) h1 hb h2)
  ·refine ⟨_,0,?_,.inr ⟨rfl,rfl,Abu (by omega) ho c1 c2⟩⟩;rcases ho with rfl | rfl
   ·exact Ct (by omega) (z5 h1 hb h2)
   ·exact Ct (by omega) (rP h1 hb h2)
def qY {g:AR} {a b B C:Tm} {i:Int} (m:Int) (hk:g.length<=1000) (h1:QL g a i) (h2:QI (g++[(1,a)]) 1 b B) (h3:NX g.length (.mk 3 0 [a,B]) C):QI g 1 (.mk 4 m [a,b]) C:=by
 obtain ⟨i',e,h1,c1⟩:=h1;obtain ⟨c,e',h2,c2⟩:=h2;have hb:=jb g 1 a (by omega);rcases c1 with c1 | ⟨rfl,rfl,c1⟩
 ·exact ⟨_,e,Ct (by omega) (eY (A0 c1) h1),.inl c1⟩
 ·rcases c2 with c2 | ⟨rfl,rfl,c2⟩
  ·exact ⟨_,e',Ct (by omega) (cZ (A0 c2) h1 hb h2),.inl c2⟩
  ·obtain ⟨u,e,h3,h4⟩:=Rz hk h3;refine ⟨u,e,Ct (by omega) (vQ h1 hb h2 h3),?_⟩;rcases h4 with h4 | ⟨rfl,rfl,h4,_⟩
   ·exact .inl h4
   ·exact .inr ⟨rfl,rfl,wQ (by omega) c1 c2 h4⟩
def Aa8 {g:AR} {f x A B Y:Tm} {q:Int} (m:Int) (hk:g.length<=1000) (xsc:x.sc g.length) (xwt:x.wt<=400000000) (Bsc:B.sc (g.length+1)) (Bwt:B.wt<=400000000) (h1:QI g 1 f (.mk 3 q [A,B])) (h2:QC g 1 x A) (h3:NX g.length (B.subst 0 0 x) Y):QI g 1 (.mk 5 m [f,x]) Y:=by
 obtain ⟨r,e,h1,c1⟩:=h1;rcases c1 with c1 | ⟨rfl,rfl,c1⟩
 ·exact ⟨_,e,Ct (by omega) (Zg (A0 c1) (fC (A0 c1) h1)),.inl c1⟩
 ·have hs:=Zv (op:=3) rfl h1;obtain ⟨e,h4,c4⟩:=h2;rcases c4 with c4 | ⟨rfl,c4⟩
  ·exact ⟨_,e,Ct (by omega) (d6 (A0 c4) hs h4),.inl c4⟩
  ·have h5:=zK Bsc (by omega) xsc (by omega);obtain ⟨u,e,h6,c6⟩:=Rz hk h3;refine ⟨u,e,Ct (by omega) (yH hs h4 h5 h6),?_⟩;rcases c6 with c6 | ⟨rfl,rfl,c6,_⟩
   ·exact .inl c6
   ·exact .inr ⟨rfl,rfl,yB xsc xwt Bsc Bwt (by omega) c1 c4 c6⟩
def Aaa {g:AR} {x A B:Tm} {q:Int} (m:Int) (h1:QI g 1 x (.mk 6 q [A,B])):QI g 1 (.mk 8 m [x]) A:=by
 obtain ⟨r,e,h1,c1⟩:=h1;rcases c1 with c1 | ⟨rfl,rfl,c1⟩
 ·exact ⟨_,e,Ct (by omega) (cD (A0 c1) (fC (A0 c1) h1)),.inl c1⟩
 ·exact ⟨_,0,Ct (by omega) (tV (Zv (op:=6) rfl h1)),.inr ⟨rfl,rfl,wF c1⟩⟩
def fO {g:AR} {A B x y Y:Tm} {q i:Int} (m:Int) (hk:g.length<=1000) (hS:NX g.length (.mk 6 q [A,B]) (.mk 6 q [A,B])) (Bsc:B.sc (g.length+1)) (Bwt:B.wt<=400000000) (xsc:x.sc g.length) (xwt:x.wt<=400000000)
  (h0:QL g (.mk 6 q [A,B]) i) (h1:QC g 1 x A) (h2:QI g 1 y Y) (hY:TX g.length Y) (h3:NX g.length (B.subst 0 0 x) Y):QI g 1 (.mk 7 m [.mk 6 q [A,B],x,y]) (.mk 6 q [A,B]):=by
 have M:∀{r e},vW (AM g) (.mk 7 m [.mk 6 q [A,B],x,y]) r e->JI (AM g) 1 (.mk 7 m [.mk 6 q [A,B],x,y]) r e:=fun h=>Ct (by omega) (lA h);obtain ⟨i',e,h0,c0⟩:=h0;rcases c0 with c0 | ⟨rfl,rfl,c0⟩
 ·exact ⟨_,e,M (Afa (A0 c0) h0),.inl c0⟩
 ·obtain ⟨s,e,hs,c3⟩:=Rz hk hS;rcases c3 with c3 | ⟨rfl,rfl,c3,_⟩
  ·exact ⟨_,e,M (Ad2 (A0 c3) h0 hs),.inl c3⟩
  ·obtain ⟨e,h5,c5⟩:=h1;rcases c5 with c5 | ⟨rfl,c5⟩
   ·exact ⟨_,e,M (Agw (A0 c5) h0 hs h5),.inl c5⟩
   ·have h6:=zK Bsc (by omega) xsc (by omega);obtain ⟨r,e,h8,c8⟩:=h2;rcases c8 with c8 | ⟨rfl,rfl,c8⟩
    ·exact ⟨_,e,M (Abm (A0 c8) h0 hs h5 h6 (Acj (A0 c8) h8)),.inl c8⟩
    obtain ⟨w,e,h9,c9⟩:=AcJ hk h3 hY.n;rcases c9 with c9 | ⟨rfl,rfl,p1,p2⟩
    ·exact ⟨_,e,M (Abm (A0 c9) h0 hs h5 h6 (Abq (A0 c9) h8 h9)),.inl c9⟩
    ·exact ⟨_,0,M (kq h0 hs h5 h6 (AbL h8 h9)),.inr ⟨rfl,rfl,oN xsc xwt Bsc Bwt (by omega) c0 c3 c5 p1 (Abt c8 p2 p2 hY.e hY.w)⟩⟩
def dO {g:AR} {X z s k:Tm} (m:Int) (hX:X=natT\/X=tyT) (hk:g.length<=900) (hN:NX g.length X X) (ksc:k.sc g.length) (kwt:k.wt<=400000000) (h1:QC g 1 z X) (h2:QC (g++[(1,natT)]++[(1,X)]) 1 s X) (h3:QC g 1 k natT):QI g 1 (.mk 13 m [X,z,s,k]) X:=by
 have M:∀{r e},JR (AM g) (.mk 13 m [X,z,s,k]) r e->JI (AM g) 1 (.mk 13 m [X,z,s,k]) r e:=fun h=>Ct (by omega) (vF h);have xsc:∀k,X.sc k:=by intro k;rcases hX with rfl | rfl<;>exact Da
 have xsu:∀u:Tm,X.subst 0 0 u=X:=by intro u;rcases hX with rfl | rfl<;>rfl
 have xsh:∀c:Int,X.shift 2 c=X:=by intro c;rcases hX with rfl | rfl<;>rfl
 have xw:X.wt<=10:=by rcases hX with rfl | rfl<;>simp [natT,tyT,Tm.wt,Tm.wtL]
 have zsc:i9.sc 0:=Da;have v1sc:(Tm.mk 12 0 [.mk 1 1 []]).sc 2:=FZ (by rw [Tm.sc,if_pos rfl];exact ⟨rfl,by decide,trivial⟩);have b1:=jb g 1 natT (by omega);have b2:=jb (g++[(1,natT)]) 1 X (by simp;omega);have su0:X7 X i9 X:=by have:=zK (u:=i9) (xsc 0) (by omega) zsc (by decide);rwa [xsu] at this
 have nx:JNx X X:=by have a1:=jsh 2 1 (xsc 0) (by omega) (by omega) (by omega);rw [xsh] at a1;have a2:=zK (xsc 0) (by omega) v1sc (by decide);rw [xsu] at a2;exact kx a1 a2
 have suk:X7 X k X:=by have:=zK (xsc 0) (by omega) ksc (by omega);rwa [xsu] at this
 obtain ⟨i,e,l1,c1⟩:QL (g++[(1,natT)]) X 0:=by
  rcases hX with rfl | rfl
  ·exact Y2 (Wv _ _)
  ·exact Y2 (pG _ _)
 rcases c1 with c1 | ⟨rfl,rfl,c1⟩
 ·exact ⟨_,e,M (Adl (A0 c1) b1 l1),.inl c1⟩
 obtain ⟨e,d1,c2⟩:=h1;rcases c2 with c2 | ⟨rfl,c2⟩
 ·exact ⟨_,e,M (AdW (A0 c2) b1 l1 su0 d1),.inl c2⟩
 obtain ⟨e,d2,c3⟩:=h2;rcases c3 with c3 | ⟨rfl,c3⟩
 ·exact ⟨_,e,M (Afw (A0 c3) b1 l1 su0 d1 b2 nx d2),.inl c3⟩
 obtain ⟨e,d3,c4⟩:=h3;rcases c4 with c4 | ⟨rfl,c4⟩
 ·exact ⟨_,e,M (AdN (A0 c4) b1 l1 su0 d1 b2 nx d2 d3),.inl c4⟩
 obtain ⟨u,e,h6,c6⟩:=Rz (k:=g.length) (by omega) hN;refine ⟨u,e,M (kr b1 l1 su0 d1 b2 nx d2 d3 suk h6),?_⟩;rcases c6 with c6 | ⟨rfl,rfl,c6,_⟩
 ·exact .inl c6
 ·exact .inr ⟨rfl,rfl,uE (by omega) ksc (by omega) kwt hX c1 c6 c2 c3 c4⟩
def p9 {g:AR} {st:Int} {i:Nat} {T A:Tm} (hi:i<g.length) (hk:g.length<=1000) (hg:g[g.length - 1 - i]?=some (st,T)) (Tsc:T.sc (g.length - 1 - i)) (Twt:T.wt<=400000000) (h:NX g.length (T.shift ((i+1:Nat):Int) 0) A):QI g st (.mk 1 i []) A:=by
 have hs:=jsh ((i:Int)+1) 0 Tsc (by omega) (by omega) (by omega);rw [show (i:Int)+1=((i+1:Nat):Int) by omega] at hs
 obtain ⟨u,e,h6,c6⟩:=Rz hk h;refine ⟨u,e,wM hi (by omega) hg (by rw [show (i:Int)+1=((i+1:Nat):Int) by omega];exact hs) h6,?_⟩
 rcases c6 with c6 | ⟨rfl,rfl,c7,_⟩
 ·exact .inl c6
 ·exact .inr ⟨rfl,rfl,uF Tsc Twt hi (by omega) hg c7⟩
def z8 {g:AR} {a b B:Tm} (hk:g.length<=1000) (Bsc:B.sc g.length) (Bwt:B.wt<=10000) (h:QI (g++[(0,a)]) 0 b (B.shift 1 0)):∃r e,JU (AM g) a b r e/\(Y3 e\/e=0/\r=B/\KUs g a b B):=by
 obtain ⟨c,e,h1,c1⟩:=h;have hb:=jb g 0 a (by omega);rcases c1 with c1 | ⟨rfl,rfl,c1⟩
 ·exact ⟨_,e,AdK (A0 c1) hb h1,.inl c1⟩
 ·have f1:=QM B 0 _ Bsc (by omega) (by omega);have f2:=MY B i9 0 0 _ Bsc (by omega) (by omega);have hf:=jf (B.shift 1 0) (by rw [AH];omega);rw [f1] at hf;have zsc:i9.sc 0:=Da;have hs:=zK (u:=i9) (Bj B 1 0 _ Bsc (by omega)) (by rw [AH];omega) zsc (by decide);rw [show ((1:Nat):Int)=1 from rfl,show ((0:Nat):Int)=0 from rfl,show (B.shift 1 0).subst 0 0 i9=B from f2] at hs
  exact ⟨B,0,AeN hb h1 (Ad8 hf hs),.inr ⟨rfl,rfl,Acq (by omega) Bsc (by omega) c1⟩⟩
def Z0 {g:AR} {a b B C:Tm} (m:Int) (hk:g.length<=1000) (Bsc:B.sc g.length) (Bwt:B.wt<=10000) (h1:QC g 1 a tyT) (h2:QI (g++[(0,a)]) 0 b (B.shift 1 0)) (h3:NX g.length (.mk 16 0 [a,B]) C):QI g 0 (.mk 20 m [a,b]) C:=by
 have M:∀{r e},JO (AM g) (.mk 20 m [a,b]) r e->JI (AM g) 0 (.mk 20 m [a,b]) r e:=fun h=>Gf (by omega) h;obtain ⟨e,d1,c1⟩:=h1;rcases c1 with c1 | ⟨rfl,c1⟩
 ·exact ⟨_,e,M (Zo (A0 c1) d1),.inl c1⟩
 obtain ⟨r,e,d2,c2⟩:=z8 hk Bsc Bwt h2;rcases c2 with c2 | ⟨rfl,rfl,c2⟩
 ·exact ⟨_,e,M (f0 (A0 c2) d1 d2),.inl c2⟩
 obtain ⟨u,e,h6,c6⟩:=Rz hk h3;refine ⟨u,e,M (tW d1 d2 h6),?_⟩;rcases c6 with c6 | ⟨rfl,rfl,c6,_⟩
 ·exact .inl c6
 ·exact .inr ⟨rfl,rfl,nW c1 c2 c6⟩
def s9 {g:AR} {a b A:Tm} (m:Int) (hk:g.length<=900) (asc:a.sc g.length) (awt:a.wt<=400000000) (h1:QC g 1 a tyT) (h2:QC (g++[(0,a)]) 0 b (a.shift 1 0)) (h3:NX g.length a A):QI g 0 (.mk 29 m [a,b]) A:=by
 have M:∀{r e},JO (AM g) (.mk 29 m [a,b]) r e->JI (AM g) 0 (.mk 29 m [a,b]) r e:=fun h=>Gf (by omega) h;have hb:=jb g 0 a (by omega);obtain ⟨e,d1,c1⟩:=h1;rcases c1 with c1 | ⟨rfl,c1⟩
 ·exact ⟨_,e,M (cI (A0 c1) d1),.inl c1⟩
 have hs:=jsh 1 0 asc (by omega) (by omega) (by omega);obtain ⟨e,d2,c2⟩:=h2;rcases c2 with c2 | ⟨rfl,c2⟩
 ·exact ⟨_,e,M (Z6 (A0 c2) d1 hb hs d2),.inl c2⟩
 obtain ⟨u,e,h6,c6⟩:=Rz (k:=g.length) (by omega) h3;refine ⟨u,e,M (vC d1 hb hs d2 h6),?_⟩;rcases c6 with c6 | ⟨rfl,rfl,c6,_⟩
 ·exact .inl c6
 ·exact .inr ⟨rfl,rfl,nK (by omega) asc (by omega) awt c1 c2 c6⟩
def vL {g:AR} {x y A B:Tm} (m:Int) (hk:g.length<=1000) (Bsc:B.sc g.length) (Bwt:B.wt<=10000) (h1:QI g 0 x A) (h2:QI (g++[(0,A)]) 0 y (B.shift 1 0)):QI g 0 (.mk 28 m [x,y]) B:=by
 have M:∀{r e},JO (AM g) (.mk 28 m [x,y]) r e->JI (AM g) 0 (.mk 28 m [x,y]) r e:=fun h=>Gf (by omega) h;obtain ⟨r,e,h1,c1⟩:=h1;rcases c1 with c1 | ⟨rfl,rfl,c1⟩
 ·exact ⟨_,e,M (ZB (A0 c1) h1),.inl c1⟩
 obtain ⟨r,e,d2,c2⟩:=z8 hk Bsc Bwt h2;refine ⟨r,e,M (w9 h1 d2),?_⟩;rcases c2 with c2 | ⟨rfl,rfl,nB⟩
 ·exact .inl c2
 ·exact .inr ⟨rfl,rfl,nS c1 nB⟩
def AaG {g:AR} {x A:Tm} {q:Int} (m:Int) (h1:QI g 1 x (.mk 18 q [A])):QI g 0 (.mk 30 m [x]) A:=by
 have M:∀{r e},JO (AM g) (.mk 30 m [x]) r e->JI (AM g) 0 (.mk 30 m [x]) r e:=fun h=>Gf (by omega) h;obtain ⟨r,e,h1,c1⟩:=h1;rcases c1 with c1 | ⟨rfl,rfl,c1⟩
 ·exact ⟨_,e,M (dY (A0 c1) (fC (A0 c1) h1)),.inl c1⟩
 exact ⟨_,0,M (y3 (Zv (op:=18) rfl h1)),.inr ⟨rfl,rfl,v7 c1⟩⟩
def pM {g:AR} {a b:Tm} (m:Int) (h1:QC g 0 a Dh) (h2:QC g 0 b Dh):QI g 0 (.mk 26 m [a,b]) Dh:=by
 have M:∀{r e},JO (AM g) (.mk 26 m [a,b]) r e->JI (AM g) 0 (.mk 26 m [a,b]) r e:=fun h=>Gf (by omega) h;obtain ⟨e,d1,c1⟩:=q_2 h1 h2;rcases c1 with c1 | ⟨rfl,c1,c2⟩
 ·exact ⟨_,e,M (XZ (A0 c1) d1),.inl c1⟩
 ·exact ⟨_,0,M (mG d1),.inr ⟨rfl,rfl,Z8 c1 c2⟩⟩
def zB {g:AR} {f x A B:Tm} {q:Int} (m:Int) (h1:QI g 0 f (.mk 16 q [A,B])) (h2:QC g 0 x A):QI g 0 (.mk 21 m [f,x]) B:=by
 have M:∀{r e},JP (AM g) (.mk 21 m [f,x]) r e->JI (AM g) 0 (.mk 21 m [f,x]) r e:=fun h=>Gf (by omega) (Ju (by omega) h);obtain ⟨r,e,h1,c1⟩:=h1;rcases c1 with c1 | ⟨rfl,rfl,c1⟩
 ·exact ⟨_,e,M (aO (A0 c1) (fC (A0 c1) h1)),.inl c1⟩
 have hs:=Zv (op:=16) rfl h1;obtain ⟨e,d1,c3⟩:=h2;rcases c3 with c3 | ⟨rfl,c3⟩
 ·exact ⟨_,e,M (cK (A0 c3) hs d1),.inl c3⟩
 ·exact ⟨_,0,M (yK hs d1),.inr ⟨rfl,rfl,iV c1 c3⟩⟩
def Ws {g:AR} {x y A B C:Tm} (m:Int) (hk:g.length<=1000) (h1:QI g 0 x A) (h2:QI g 0 y B) (h3:NX g.length (.mk 17 0 [A,B]) C):QI g 0 (.mk 22 m [x,y]) C:=by
 have M:∀{r e},JP (AM g) (.mk 22 m [x,y]) r e->JI (AM g) 0 (.mk 22 m [x,y]) r e:=fun h=>Gf (by omega) (Ju (by omega) h);obtain ⟨r,e,h1,c1⟩:=h1;rcases c1 with c1 | ⟨rfl,rfl,c1⟩
 ·exact ⟨_,e,M (X0 (A0 c1) h1),.inl c1⟩
 obtain ⟨r',e,h2,c3⟩:=h2;rcases c3 with c3 | ⟨rfl,rfl,c3⟩
 ·exact ⟨_,e,M (Ys (A0 c3) h1 h2),.inl c3⟩
 obtain ⟨u,e,h6,c6⟩:=Rz hk h3;refine ⟨u,e,M (lN h1 h2 h6),?_⟩;rcases c6 with c6 | ⟨rfl,rfl,c6,_⟩
 ·exact .inl c6
 ·exact .inr ⟨rfl,rfl,d8 c1 c3 c6⟩
def rF {g:AR} {x A B:Tm} {q:Int} (m:Int) (h1:QI g 0 x (.mk 17 q [A,B])):QI g 0 (.mk 23 m [x]) A:=by
 have M:∀{r e},JP (AM g) (.mk 23 m [x]) r e->JI (AM g) 0 (.mk 23 m [x]) r e:=fun h=>Gf (by omega) (Ju (by omega) h);obtain ⟨r,e,h1,c1⟩:=h1;rcases c1 with c1 | ⟨rfl,rfl,c1⟩
 ·exact ⟨_,e,M (bP (A0 c1) (fC (A0 c1) h1)),.inl c1⟩
 exact ⟨_,0,M (xJ (Zv (op:=17) rfl h1)),.inr ⟨rfl,rfl,lY c1⟩⟩
def AcH {g:AR} {c x y A:Tm} (m:Int) (h0:QC g 0 c Dh) (h1:QI g 0 x A) (h2:QC g 0 y A):QI g 0 (.mk 27 m [c,x,y]) A:=by
 have M:∀{r e},JP (AM g) (.mk 27 m [c,x,y]) r e->JI (AM g) 0 (.mk 27 m [c,x,y]) r e:=fun h=>Gf (by omega) (Ju (by omega) h);obtain ⟨e,d1,c1⟩:=h0;rcases c1 with c1 | ⟨rfl,c1⟩
 ·exact ⟨_,e,M (oQ (A0 c1) d1),.inl c1⟩
 obtain ⟨r,e,h1,c2⟩:=h1;rcases c2 with c2 | ⟨rfl,rfl,c2⟩
 ·exact ⟨_,e,M (iU (A0 c2) d1 h1),.inl c2⟩
 obtain ⟨e,d2,c3⟩:=h2;rcases c3 with c3 | ⟨rfl,c3⟩
 ·exact ⟨_,e,M (nE (A0 c3) d1 h1 d2),.inl c3⟩
 ·exact ⟨_,0,M (Aa5 d1 h1 d2),.inr ⟨rfl,rfl,rK c1 c2 c3⟩⟩
end Idl
end Go.Proofs.YtnenpcghegcnhaaGreat

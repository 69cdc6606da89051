/- Part 11 of a proof. No statement is proved here. -/
import Derived.Test.YtnenpcghegcnhaaGreatKernelChecksK10
set_option linter.all false
set_option maxRecDepth 20000
set_option maxHeartbeats 16000000
noncomputable section
namespace Go.Proofs.YtnenpcghegcnhaaGreat
namespace Idl
section
variable {k0 D:Nat} {L L':Int}
mutual
theorem PR (h:L<=L'):∀v:RV,RV.ok k0 D L v->RV.ok k0 D L' v
 | .mk op n k env b,hv=>by
  rw [RV.ok] at hv ⊢;by_cases h1:op=1
  ·rw [if_pos h1] at hv ⊢;exact ⟨hv.1,by omega,hv.2.2⟩
  ·rw [if_neg h1] at hv ⊢;exact ⟨hv.1,hv.2.1,okL_mono h k op 0 hv.2.2⟩
theorem okL_mono (h:L<=L'):∀(l:List RV) (op:Int) (i:Nat),RV.okL k0 D L op i l->RV.okL k0 D L' op i l
 | [],op,i,_=>by rw [RV.okL];trivial
 | v::l,op,i,hv=>by
  rw [RV.okL] at hv ⊢;refine ⟨?_,okL_mono h l op (i+1) hv.2⟩;by_cases hb:0<Al op i
  ·rw [if_pos hb]
   have:=hv.1
   rw [if_pos hb] at this;exact okC_mono h v (Al op i) this
  ·rw [if_neg hb]
   have:=hv.1
   rw [if_neg hb] at this;exact PR h v this
theorem okC_mono (h:L<=L'):∀(v:RV) (b:Nat),RV.okC k0 D L b v->RV.okC k0 D L' b v
 | .mk op n k env bd,b,hv=>by
  rw [RV.okC] at hv ⊢;exact ⟨okE_mono h env hv.1,hv.2⟩
theorem okE_mono (h:L<=L'):∀(l:List RV),RV.okE k0 D L l->RV.okE k0 D L' l
 | [],_=>by rw [RV.okE];trivial
 | v::l,hv=>by
  rw [RV.okE] at hv ⊢;exact ⟨PR h v hv.1,okE_mono h l hv.2⟩
end
theorem Zu (u:Nat):∀b:Nat,RV.okE k0 D ((u+b:Nat):Int) (ER u b)
 | 0=>by simp only [ER,List.range_zero,Ah4];rw [RV.okE];trivial
 | b+1=>by
  rw [J6];refine Je (okE_mono (by omega) _ (Zu u b)) (Pn ?_);rw [RV.var,RV.ok,if_pos rfl];exact ⟨by omega,by omega,rfl⟩
end
theorem Er {f g:Nat} (hfg:f<=g) {rd rd':Int->Int->Int->RV->Int->Option (Tm×Int×Int×Int)} (h:∀s nd e k u r,rd s nd e k u=some r->rd' s nd e k u=some r) (op u:Int):∀(l:List RV) (i:Nat) (s nd e:Int) (r:List Tm×Int×Int×Int),
  Bd rd f op u i l s nd e=some r->Bd rd' g op u i l s nd e=some r
 | [],i,s,nd,e,r,hr=>hr
 | k::l,i,s,nd,e,r,hr=>by
  simp only [Bd] at hr ⊢;have key:∀q,(if 0<Al op i then (if 900000<k.env.length then none else AC f s e k.b (k.env++ER u (Al op i))) else some (k,s,e))=some q ->
    (if 0<Al op i then (if 900000<k.env.length then none else AC g s e k.b (k.env++ER u (Al op i))) else some (k,s,e))=some q:=by
   intro q hq;by_cases hb:0<Al op i
   ·rw [if_pos hb] at hq ⊢;by_cases hl:900000<k.env.length
    ·rw [if_pos hl] at hq;cases hq
    ·rw [if_neg hl] at hq ⊢;exact B4 hfg hq
   ·rw [if_neg hb] at hq ⊢;exact hq
  cases hq:(if 0<Al op i then (if 900000<k.env.length then none else AC f s e k.b (k.env++ER u (Al op i))) else some (k,s,e)) with
  | none=>rw [hq] at hr;cases hr
  | some q =>
   rw [key q hq];rw [hq] at hr;obtain ⟨y,s1,e1⟩:=q;simp only at hr ⊢;cases hd:rd s1 nd e1 y (u+Al op i) with
   | none=>rw [hd] at hr;cases hr
   | some q =>
    obtain ⟨t,s2,nd2,e2⟩:=q;rw [hd] at hr;rw [h _ _ _ _ _ _ hd];simp only at hr ⊢;cases hk:Bd rd f op u (i+1) l s2 nd2 e2 with
    | none=>rw [hk] at hr;cases hr
    | some q=>rw [hk] at hr;rw [Er hfg h op u l (i+1) s2 nd2 e2 q hk];exact hr
theorem X7:∀f s nd e v u d r,AT f s nd e v u d=some r->AT (f+1) s nd e v u d=some r:=by
 intro f
 induction f with
 | zero=>intro s nd e v u d r h;rw [AT] at h;cases h
 | succ f ih =>
  intro s nd e v u d r h;rw [AT] at h ⊢;by_cases hbad:nd<0\/1000000<nd\/u<0\/1000000<u\/d<0\/1000000<d\/v.n < -2305843009213693952\/2305843009213693952<v.n\/f<=v.k.length\/900000<v.k.length\/f<=3
  ·rw [if_pos hbad] at h;cases h
  ·rw [if_neg hbad] at h;rw [if_neg (by omega)];generalize (if e=0/\(3000<nd+1\/120<d) then (5:Int) else e)=e1 at h ⊢;by_cases he:e1≠0
   ·rw [if_pos he] at h ⊢;exact h
   ·rw [if_neg he] at h ⊢;by_cases h1:v.op=1
    ·rw [if_pos h1] at h ⊢;exact h
    ·rw [if_neg h1] at h ⊢;cases hk:Bd (fun s nd e k u=>AT f s nd e k u (d+1)) f v.op u 0 v.k s (nd+1) 0 with
     | none=>rw [hk] at h;cases h
     | some q =>rw [hk] at h;rw [Er (g:=f+1) (rd':=fun s nd e k u=>AT (f+1) s nd e k u (d+1)) (by omega) (fun s nd e k u r hr=>ih _ _ _ _ _ _ _ hr) v.op u v.k 0 s (nd+1) 0 q hk];exact h
theorem DY {f g:Nat} (hfg:f<=g) {s nd e u d:Int} {v:RV} {r:Tm×Int×Int×Int} (h:AT f s nd e v u d=some r):AT g s nd e v u d=some r:=by
 induction hfg with
 | refl=>exact h
 | step _ ih=>exact X7 _ _ _ _ _ _ _ _ ih
mutual
def Tm.dp:Tm->Nat
 | .mk _ _ ks=>1+Tm.dpL ks
def Tm.dpL:List Tm->Nat
 | []=>0
 | t::l=>max t.dp (Tm.dpL l)
end
def xT (s e:Int):Prop:=0<=s/\(e=0/\s<=1000\/e=17/\s=1001\/e=5/\s<=1001)
theorem eQ {op n:Int} (h:BY op n):-2305843009213693952<=n/\n<=2305843009213693952:=by
 unfold BY at h
 repeat' split at h
 all_goals omega
def Red (k0:Nat) (u d:Nat) (nd:Int) (t:Tm) (s' nd' e':Int):Prop :=xT s' e'/\(e'=0->nd'<=3000/\t.sc (k0+u)/\(t.wt:Int)=nd' - nd/\t.dp+d<=121)/\nd'<=3001+3 * (121 - (d:Int))/\nd<=nd'
section
variable {k0 D:Nat}
theorem RC (s nd e u d:Int) (v:RV) (he:e≠0) (h1:0<=nd) (h2:nd<=1000000) (h3:0<=u) (h4:u<=1000000) (h5:0<=d) (h6:d<=1000000) (h7:-2305843009213693952<=v.n) (h8:v.n<=2305843009213693952) (h9:v.k.length<=900000) :
  AT (v.k.length+10) s nd e v u d=some (.z,s,nd+1,e):=by
 rw [show v.k.length+10=(v.k.length+9)+1 by omega,AT,if_neg (by omega)]
 have:(if e=0/\(3000<nd+1\/120<d) then (5:Int) else e)=e:=if_neg (by omega)
 rw [this,if_pos he]
def AaI (k0 D c:Nat):Prop:=∀(v:RV) (s nd:Int) (u d:Nat),RV.ok k0 D u v->0<=s->s<=1000->0<=nd->nd<=3000->3001<=nd+c->u<=2 * d->1<=d->d<=121 ->
 ∃f t s' nd' e',AT f s nd 0 v u d=some (t,s',nd',e')/\Red k0 u d nd t s' nd' e'
theorem Mj {L:Int} {v:RV} (hL:L<=1000000) (hk:k0<=900000) (h:RV.ok k0 D L v):-2305843009213693952<=v.n/\v.n<=2305843009213693952/\v.k.length<=4:=by
 obtain ⟨op,n,k,env,b⟩:=v;rw [RV.ok] at h;by_cases h1:op=1
 ·rw [if_pos h1] at h;refine ⟨?_,?_,?_⟩
  ·show _<=n;omega
  ·show n<=_;omega
  ·show k.length<=4;rw [h.2.2];simp
 ·rw [if_neg h1] at h
  have:=eQ h.2.1
  exact ⟨this.1,this.2,QX h.1⟩
theorem NH (hD:D<=800000) (hk:k0<=800000) {c:Nat} (hr:AaI k0 D c) (op:Int) (u d:Nat) (hu:u<=2 * d) (hd1:1<=d) (hd:d<=120):∀(l:List RV) (i:Nat) (s nd e:Int),RV.okL k0 D u op i l->xT s e->0<=nd->nd+l.length<=5000->l.length<=4->(e=0->nd<=3000/\3001<=nd+c) ->
  ∃f ts s' nd' e',Bd (fun s nd e k u=>AT f s nd e k u ((d:Int)+1)) f op u i l s nd e=some (ts,s',nd',e')/\xT s' e'/\nd<=nd' /\
   (e'=0->e=0/\nd'<=3000/\Tm.scL op i ts (k0+u)/\ts.length=l.length/\(Tm.wtL ts:Int)=nd' - nd/\Tm.dpL ts+d+1<=121) /\
   (e=0->nd'<=3000\/nd'+1<=3001+3 * (120 - (d:Int))+l.length)/\(e≠0->nd'=nd+l.length)
 | [],i,s,nd,e,_,hst,h0,h5,_,he=>by
  refine ⟨0,[],s,nd,e,rfl,hst,Int.le_refl _,fun h=>⟨h,(he h).1,by rw [Tm.scL];trivial,rfl,by simp [Tm.wtL],by simp only [Tm.dpL];omega⟩,fun h=>.inl (he h).1,fun _=>by simp⟩
 | k::l,i,s,nd,e,hl,hst,h0,h5,hl4,he=>by
  rw [RV.okL] at hl;simp only [Ah3] at hl4 h5;have hbl:=A0 op i;have h1:∃f y s1 e1,(if 0<Al op i then (if 900000<k.env.length then none else AC f s e k.b (k.env++ER u (Al op i))) else some (k,s,e))=some (y,s1,e1)/\RV.ok k0 D ((u+Al op i:Nat):Int) y/\xT s1 e1/\(e≠0->e1≠0):=by
   by_cases hb:0<Al op i
   ·have hc:=hl.1;rw [if_pos hb] at hc;have hce:RV.okE k0 D u k.env/\k.b.sc (k0+k.env.length+Al op i)/\k.env.length+Al op i+k.b.bd<=D:=by
     obtain ⟨_,_,_,env,b⟩:=k;rw [RV.okC] at hc;exact hc
    by_cases he0:e=0
    ·subst he0;have hs:s<=1000:=by rcases hst.2 with ⟨_,h⟩ | ⟨h,_⟩ | ⟨h,_⟩<;>omega
     obtain ⟨f,y,s1,e1,hy,hyo,hye⟩:=(tot (k0:=k0) (D:=D) (L:=((u+Al op i:Nat):Int)) (by omega) (by omega) (by omega) 1000).2 k.b (k.env++ER u (Al op i)) s
      (Je (okE_mono (by omega) _ hce.1) (Zu u _)) (by rw [List.length_append,CC,<- Nat.add_assoc];exact hce.2.1) (by rw [List.length_append,CC];omega) hst.1 hs (by have:=hst.1;omega)
     refine ⟨f,y,s1,e1,?_,hyo,⟨by have:=hye.1;have:=hst.1;omega,?_⟩,fun h=>absurd rfl h⟩
     ·rw [if_pos hb,if_neg (by omega)];exact hy
     ·rcases hye.2 with h | h
      ·exact .inl h
      ·exact .inr (.inl h)
    ·refine ⟨1,.zero,s,e,?_,OZ,hst,fun h=>h⟩;rw [if_pos hb,if_neg (by omega),Mm s e he0]
   ·have hc:=hl.1;rw [if_neg hb] at hc;refine ⟨0,k,s,e,by rw [if_neg hb],PR (by omega) _ hc,hst,fun h=>h⟩
  obtain ⟨f1,y,s1,e1,hy,hyo,hst1,hee⟩:=h1;have hsm:=Mj (by omega) (by omega) hyo;have h2:∃f t s2 nd2 e2,AT f s1 nd e1 y ((u+Al op i:Nat):Int) ((d:Int)+1)=some (t,s2,nd2,e2)/\xT s2 e2/\nd<=nd2 /\
    (e2=0->e1=0/\nd2<=3000/\t.sc (k0+u+Al op i)/\(t.wt:Int)=nd2 - nd/\t.dp+d+1<=121/\nd+1<=nd2)/\(e1=0->nd2<=3001+3 * (120 - (d:Int)))/\(e1≠0->nd2=nd+1):=by
   by_cases he1:e1=0
   ·subst he1;have he0:e=0:=Classical.byContradiction fun h=>hee h rfl;have hn:=he he0;have hs:s1<=1000:=by rcases hst1.2 with ⟨_,h⟩ | ⟨h,_⟩ | ⟨h,_⟩<;>omega
    obtain ⟨f,t,s2,nd2,e2,ht,hR⟩:=hr y s1 nd (u+Al op i) (d+1) hyo hst1.1 hs h0 hn.1 hn.2 (by omega) (by omega) (by omega);refine ⟨f,t,s2,nd2,e2,by simpa using ht,hR.1,hR.2.2.2,fun h=>?_,fun _=>by have:=hR.2.2.1;omega,fun h=>absurd rfl h⟩
    have:=hR.2.1 h
    have hw:=Et t;exact ⟨rfl,this.1,by rw [Nat.add_assoc];exact this.2.1,this.2.2.1,by omega,by omega⟩
   ·refine ⟨y.k.length+10,.z,s1,nd+1,e1,RC s1 nd e1 _ _ y he1 h0 (by omega) (by omega) (by omega) (by omega) (by omega) hsm.1 hsm.2.1 (by omega),hst1,by omega,fun h=>absurd h he1,fun h=>absurd h he1,fun _=>rfl⟩
  obtain ⟨f2,t,s2,nd2,e2,ht,hst2,hle,hok,hbd,her⟩:=h2;obtain ⟨f3,ts,s3,nd3,e3,hk3,hst3,hle3,hok3,hbd3,her3⟩:=NH hD hk hr op u d hu hd1 hd l (i+1) s2 nd2 e2 hl.2 hst2 (by omega) (by
    by_cases he1:e1=0
    ·have:=hbd he1;omega
    ·have:=her he1
     by_cases he0:e=0
     ·have:=(he he0).1;omega
     ·omega) (by omega) (fun h=>by
    have h2:=hok h;have he0:e=0:=Classical.byContradiction fun h'=>hee h' h2.1
    have:=he he0
    omega)
  refine ⟨f1+f2+f3,t::ts,s3,nd3,e3,?_,hst3,by omega,fun h=>?_,fun h=>?_,fun h=>?_⟩
  ·have hy':(if 0<Al op i then (if 900000<k.env.length then none else AC (f1+f2+f3) s e k.b (k.env++ER u (Al op i))) else some (k,s,e))=some (y,s1,e1):=by
    by_cases hb:0<Al op i
    ·rw [if_pos hb] at hy ⊢;by_cases hl:900000<k.env.length
     ·rw [if_pos hl] at hy;cases hy
     ·rw [if_neg hl] at hy ⊢;exact B4 (by omega) hy
    ·rw [if_neg hb] at hy ⊢;exact hy
   rw [Bd,hy'];simp only;rw [show (u:Int)+(Al op i:Int)=((u+Al op i:Nat):Int) by omega,DY (show f2<=f1+f2+f3 by omega) ht]
   simp only;rw [Er (f:=f3) (rd:=fun s nd e k u=>AT f3 s nd e k u ((d:Int)+1)) (by omega) (fun s nd e k u r h=>DY (by omega) h) op u l (i+1) s2 nd2 e2 _ hk3];rfl
  ·have h3:=hok3 h;have h2:=hok h3.1;have he0:e=0:=Classical.byContradiction fun h'=>hee h' h2.1;refine ⟨he0,h3.2.1,?_,by simp [h3.2.2.2.1],?_,?_⟩
   ·rw [Tm.scL];exact ⟨h2.2.2.1,h3.2.2.1⟩
   ·simp only [Tm.wtL];have:=h2.2.2.2.1;have:=h3.2.2.2.2.1;omega
   ·simp only [Tm.dpL];have:=h2.2.2.2.2.1;have:=h3.2.2.2.2.2;omega
  ·simp only [Ah3];by_cases he1:e1=0
   ·by_cases he2:e2=0
    ·have:=hbd3 he2;omega
    ·have:=her3 he2;have:=hbd he1;omega
   ·have h6:=her he1;have h7:e2≠0:=fun h'=>he1 (hok h').1
    have:=her3 h7
    have:=(he h).1
    omega
  ·simp only [Ah3];have he1:=hee h;have h7:e2≠0:=fun h'=>he1 (hok h').1
   have:=her3 h7
   have:=her he1
   omega
theorem bY (hD:D<=800000) (hk:k0<=800000):∀c,AaI k0 D c:=by
 intro c
 induction c with
 | zero=>intro v s nd u d _ _ _ _ h1 h2;omega
 | succ c ih =>
  intro v s nd u d hv h0 hs hn0 hn hc hu hd1 hd;have hsm:=Mj (by omega) (by omega) hv;have hst:xT s 0:=⟨h0,.inl ⟨rfl,hs⟩⟩;by_cases h3:3000<nd+1\/120<(d:Int)
  ·refine ⟨v.k.length+10,.z,s,nd+1,5,?_,⟨h0,.inr (.inr ⟨rfl,by omega⟩)⟩,(fun h=>absurd h (by decide)),by omega,by omega⟩;rw [show v.k.length+10=(v.k.length+9)+1 by omega,AT,if_neg (by omega)]
   have e5:(if (0:Int)=0/\(3000<nd+1\/120<(d:Int)) then (5:Int) else 0)=5:=if_pos ⟨rfl,h3⟩;rw [e5,if_pos (by decide)]
  ·have e5:(if (0:Int)=0/\(3000<nd+1\/120<(d:Int)) then (5:Int) else 0)=0:=if_neg (fun h=>h3 h.2);by_cases h1:v.op=1
   ·have hvn:-(k0:Int)<=v.n/\v.n<u:=by
     obtain ⟨op,n,k,env,b⟩:=v;have h1':op=1:=h1;rw [RV.ok,if_pos h1'] at hv;exact ⟨hv.1,hv.2.1⟩
    refine ⟨v.k.length+10,.mk 1 (u - 1 - v.n) [],s,nd+1,0,?_,hst,fun _=>⟨by omega,?_,by simp only [Tm.wt,Tm.wtL];omega,by simp only [Tm.dp,Tm.dpL];omega⟩,by omega,by omega⟩
    ·rw [show v.k.length+10=(v.k.length+9)+1 by omega,AT,if_neg (by omega),e5,if_neg (by decide),if_pos h1]
    ·rw [Tm.sc,if_pos rfl,Tm.scL];exact ⟨rfl,by omega,trivial⟩
   ·obtain ⟨ha,hnum,hl⟩:=E0 hv h1;obtain ⟨f,ts,s',nd',e',hk2,hst',hle,hok,hbd,_⟩:=NH hD hk ih v.op u d hu hd1 (by omega) v.k 0 s (nd+1) 0 hl hst (by omega) (by omega) (by omega) (fun _=>by omega);refine ⟨f+v.k.length+10,.mk v.op v.n ts,s',nd',e',?_,hst',fun h=>?_,by have:=hbd rfl;omega,by omega⟩
    ·rw [show f+v.k.length+10=(f+v.k.length+9)+1 by omega,AT,if_neg (by omega),e5,if_neg (by decide),if_neg h1]
     rw [Er (f:=f) (rd:=fun s nd e k u=>AT f s nd e k u ((d:Int)+1)) (by omega) (fun s nd e k u r h=>DY (by omega) h) v.op u v.k 0 s (nd+1) 0 _ hk2];rfl
    ·have:=hok h
     refine ⟨this.2.1,?_,?_,?_⟩
     ·rw [Tm.sc,if_neg h1];exact ⟨by rw [this.2.2.2.1];exact ha,hnum,this.2.2.1⟩
     ·simp only [Tm.wt];have:=this.2.2.2.2.1;omega
     ·simp only [Tm.dp];have:=this.2.2.2.2.2;omega
end
theorem IU {k:Nat} (hk:k<=800000) {t:Tm} (hsc:t.sc k) (hb:t.bd<=800000):∃f u e,AE f t=some (u,e)/\(e=0/\u.sc k/\u.wt<=3000/\u.dp<=120\/(e=5\/e=17)/\u=.z):=by
 obtain ⟨f,v,s1,e1,hv,hvo,hve⟩:=(tot (k0:=k) (D:=800000) (L:=0) (by omega) (by omega) (by omega) 1000).2 t [] 0 (by rw [RV.okE];trivial) (by simpa using hsc) (by simp;omega) (by omega) (by omega) (by omega);have hsm:=Mj (by omega) (by omega) hvo;rcases hve.2 with ⟨rfl,hs⟩ | ⟨rfl,hs⟩
 ·obtain ⟨g,u,s2,nd2,e2,hu,hR⟩:=bY (k0:=k) (D:=800000) (by omega) hk 3001 v s1 0 0 1 (by simpa using hvo) (by have:=hve.1;omega) hs (by omega) (by omega) (by omega) (by omega) (by omega) (by omega);have hn:AE (f+g) t=some (if e2≠0 then (.z,e2) else (u,0)):=by
   rw [AE,B4 (by omega) hv];simp only;rw [DY (show g<=f+g by omega) (by simpa using hu)]
  by_cases h2:e2=0
  ·rw [if_neg (by simp [h2])] at hn
   have:=hR.2.1 h2
   exact ⟨_,_,_,hn,.inl ⟨rfl,by simpa using this.2.1,by omega,by omega⟩⟩
  ·rw [if_pos h2] at hn;refine ⟨_,_,_,hn,.inr ⟨?_,rfl⟩⟩;rcases hR.1.2 with ⟨h,_⟩ | ⟨h,_⟩ | ⟨h,_⟩
   ·exact absurd h h2
   ·exact .inr h
   ·exact .inl h
 ·have hn:AE (f+v.k.length+10) t=some (.z,17):=by
   rw [AE,B4 (by omega) hv];simp only;rw [DY (show v.k.length+10<=f+v.k.length+10 by omega) (RC s1 0 17 0 1 v (by decide) (by omega) (by omega) (by omega) (by omega) (by omega) (by omega) hsm.1 hsm.2.1 (by omega))]
   rfl
  exact ⟨_,_,_,hn,.inr ⟨.inr rfl,rfl⟩⟩
end Idl
end Go.Proofs.YtnenpcghegcnhaaGreat
namespace Go.Proofs.YtnenpcghegcnhaaGreat
namespace Idl
mutual
theorem C5:∀(t:Tm) (k:Nat),t.sc k->t.wk
 | .mk op n ks,k,h=>by
  rw [Tm.sc] at h;rw [Tm.wk];exact ⟨QX h.1,scL_wk ks op 0 k h.2.2⟩
theorem scL_wk:∀(l:List Tm) (op:Int) (i k:Nat),Tm.scL op i l k->Tm.wkL l
 | [],_,_,_,_=>by rw [Tm.wkL];trivial
 | t::l,op,i,k,h=>by
  rw [Tm.scL] at h;rw [Tm.wkL];exact ⟨C5 t _ h.1,scL_wk l op (i+1) k h.2⟩
end
mutual
theorem UA:∀(t:Tm) {k k':Nat},k<=k'->t.sc k->t.sc k'
 | .mk op n ks,k,k',hk,h=>by
  rw [Tm.sc] at h ⊢;refine ⟨h.1,?_,scL_mono ks hk h.2.2⟩;by_cases h1:op=1
  ·have:=h.2.1
   rw [if_pos h1] at this ⊢;omega
  ·have:=h.2.1
   rw [if_neg h1] at this ⊢;exact this
theorem scL_mono:∀(l:List Tm) {op:Int} {i k k':Nat},k<=k'->Tm.scL op i l k->Tm.scL op i l k'
 | [],_,_,_,_,_,_=>by rw [Tm.scL];trivial
 | t::l,op,i,k,k',hk,h=>by
  rw [Tm.scL] at h ⊢;exact ⟨UA t (by omega) h.1,scL_mono l hk h.2⟩
end
mutual
theorem Bl:∀(t:Tm) (d c:Int),(t.shift d c).wt=t.wt
 | .mk op n ks,d,c=>by simp only [Tm.shift,Tm.wt,shiftL_wt ks op 0 d c]
theorem shiftL_wt:∀(l:List Tm) (op:Int) (i:Nat) (d c:Int),Tm.wtL (Tm.shiftL op i l d c)=Tm.wtL l
 | [],_,_,_,_=>rfl
 | t::l,op,i,d,c=>by simp only [Tm.shiftL,Tm.wtL,Bl t,shiftL_wt l]
end
mutual
theorem Di:∀(t:Tm) (d c:Int),(t.shift d c).dp=t.dp
 | .mk op n ks,d,c=>by simp only [Tm.shift,Tm.dp,shiftL_dp ks op 0 d c]
theorem shiftL_dp:∀(l:List Tm) (op:Int) (i:Nat) (d c:Int),Tm.dpL (Tm.shiftL op i l d c)=Tm.dpL l
 | [],_,_,_,_=>rfl
 | t::l,op,i,d,c=>by simp only [Tm.shiftL,Tm.dpL,Di t,shiftL_dp l]
end
mutual
theorem CG:∀(t:Tm) (d c k:Nat),t.sc k->k+2 * t.wt+d<=9000000000000000000->(t.shift d c).sc (k+d)
 | .mk op n ks,d,c,k,h,hk=>by
  rw [Tm.sc] at h;rw [Tm.wt] at hk;rw [Tm.shift,Tm.sc,Eh];refine ⟨h.1,?_,shiftL_sc ks op 0 d c k h.2.2 (by omega)⟩;by_cases h1:op=1
  ·have:=h.2.1
   rw [if_pos h1] at this ⊢;by_cases h2:(c:Int)<=n
   ·rw [if_pos ⟨h1,h2⟩,Az (by omega) (by omega)];omega
   ·rw [if_neg (fun h=>h2 h.2)];omega
  ·have:=h.2.1
   rw [if_neg h1] at this ⊢;rw [if_neg (fun h=>h1 h.1)];exact this
theorem shiftL_sc:∀(l:List Tm) (op:Int) (i:Nat) (d c k:Nat),Tm.scL op i l k->k+2+2 * Tm.wtL l+d<=9000000000000000000->Tm.scL op i (Tm.shiftL op i l d c) (k+d)
 | [],_,_,_,_,_,_,_=>by rw [Tm.shiftL,Tm.scL];trivial
 | t::l,op,i,d,c,k,h,hk=>by
  rw [Tm.scL] at h;simp only [Tm.wtL] at hk;rw [Tm.shiftL,Tm.scL];refine ⟨?_,shiftL_sc l op (i+1) d c k h.2 (by omega)⟩;rw [show k+d+Al op i=(k+Al op i)+d by omega]
  have:=A0 op i
  exact CG t d (c+Al op i) (k+Al op i) h.1 (by omega)
end
mutual
theorem J5:∀(t u:Tm) (j k:Nat),t.sc (k+1+j)->u.sc k->k+j+2 * t.wt+2 * u.wt<=4000000000000000000->(t.subst j j u).sc (k+j)
 | .mk op n ks,u,j,k,h,hu,hk=>by
  rw [Tm.sc] at h;rw [Tm.wt] at hk;rw [Tm.subst];by_cases h1:op=1
  ·rw [if_pos h1];have h2:=h.2.1;rw [if_pos h1] at h2;by_cases h3:n=j
   ·rw [if_pos h3];exact CG u j 0 k hu (by omega)
   ·rw [if_neg h3];by_cases h4:(j:Int)<n
    ·rw [if_pos h4,Tm.sc,if_pos rfl,Tm.scL,Az (by omega) (by omega)];exact ⟨rfl,by omega,trivial⟩
    ·rw [if_neg h4,Tm.sc,if_pos h1];have hks:ks=[]:=by
      have:=h.1
      rw [h1] at this;simp [ar] at this;exact List.length_eq_zero_iff.1 this.symm
     subst hks;exact ⟨h.1,by omega,by rw [Tm.scL];trivial⟩
  ·rw [if_neg h1,Tm.sc,if_neg h1,GE];have h2:=h.2.1;rw [if_neg h1] at h2;exact ⟨h.1,h2,substL_sc ks u op 0 j k h.2.2 hu (by omega)⟩
theorem substL_sc:∀(l:List Tm) (u:Tm) (op:Int) (i j k:Nat),Tm.scL op i l (k+1+j)->u.sc k->k+j+2+2 * Tm.wtL l+2 * u.wt<=4000000000000000000->Tm.scL op i (Tm.substL op i l j j u) (k+j)
 | [],_,_,_,_,_,_,_,_=>by rw [Tm.substL,Tm.scL];trivial
 | t::l,u,op,i,j,k,h,hu,hk=>by
  rw [Tm.scL] at h;simp only [Tm.wtL] at hk;rw [Tm.substL,Tm.scL];refine ⟨?_,substL_sc l u op (i+1) j k h.2 hu (by omega)⟩
  have:=A0 op i
  have h1:=J5 t u (j+Al op i) k (by rw [<- Nat.add_assoc];exact h.1) hu (by omega);rw [Nat.add_assoc];exact h1
end
mutual
theorem Jn:∀(t u:Tm) (c d:Int),(t.subst c d u).wt<=t.wt * u.wt
 | .mk op n ks,u,c,d=>by
  have hu:=Et u;rw [Tm.subst];by_cases h1:op=1
  ·rw [if_pos h1];have key:u.wt<=(Tm.mk op n ks).wt * u.wt:=Nat.le_mul_of_pos_left _ (Et _);by_cases h3:n=c
   ·rw [if_pos h3,Bl];exact key
   ·rw [if_neg h3];by_cases h4:c<n
    ·rw [if_pos h4];simp only [Tm.wt,Tm.wtL] at key ⊢;omega
    ·rw [if_neg h4];exact Nat.le_mul_of_pos_right _ hu
  ·rw [if_neg h1]
   have:=substL_wt ks u op 0 c d
   simp only [Tm.wt];rw [Nat.add_mul];omega
theorem substL_wt:∀(l:List Tm) (u:Tm) (op:Int) (i:Nat) (c d:Int),Tm.wtL (Tm.substL op i l c d u)<=Tm.wtL l * u.wt
 | [],_,_,_,_,_=>by simp [Tm.substL,Tm.wtL]
 | t::l,u,op,i,c,d=>by
  have h1:=Jn t u (c+Al op i) (d+Al op i);have h2:=substL_wt l u op (i+1) c d;simp only [Tm.substL,Tm.wtL];rw [Nat.add_mul];omega
end
mutual
theorem Ng:∀(t u:Tm) (c d:Int),(t.subst c d u).dp<=t.dp+u.dp
 | .mk op n ks,u,c,d=>by
  rw [Tm.subst];by_cases h1:op=1
  ·rw [if_pos h1];by_cases h3:n=c
   ·rw [if_pos h3,Di];omega
   ·rw [if_neg h3];by_cases h4:c<n
    ·rw [if_pos h4];simp only [Tm.dp,Tm.dpL];omega
    ·rw [if_neg h4];omega
  ·rw [if_neg h1]
   have:=substL_dp ks u op 0 c d
   simp only [Tm.dp];omega
theorem substL_dp:∀(l:List Tm) (u:Tm) (op:Int) (i:Nat) (c d:Int),Tm.dpL (Tm.substL op i l c d u)<=Tm.dpL l+u.dp
 | [],_,_,_,_,_=>by simp [Tm.substL,Tm.dpL]
 | t::l,u,op,i,c,d=>by
  have h1:=Ng t u (c+Al op i) (d+Al op i);have h2:=substL_dp l u op (i+1) c d;simp only [Tm.substL,Tm.dpL];omega
end
mutual
theorem Xz:∀(t:Tm),t.bd<=2 * t.dp
 | .mk op n ks=>by
  have:=bdL_dp ks op 0
  simp only [Tm.bd,Tm.dp];omega
theorem bdL_dp:∀(l:List Tm) (op:Int) (i:Nat),Tm.bdL op i l<=2+2 * Tm.dpL l
 | [],_,_=>by simp [Tm.bdL]
 | t::l,op,i=>by
  have h1:=Xz t;have h2:=bdL_dp l op (i+1);have h3:=A0 op i;simp only [Tm.bdL,Tm.dpL];omega
end
theorem Hu:∀{op:Int} {i j:Nat} {ks:List Tm} {k:Nat} {t:Tm},Tm.scL op i ks k->ks[j]?=some t->t.sc (k+Al op (i+j))
 | op,i,0,x::l,k,t,h,hg=>by
  rw [Tm.scL] at h;simp only [Aib,AhZ] at hg;subst hg;exact h.1
 | op,i,j+1,x::l,k,t,h,hg=>by
  rw [Tm.scL] at h;rw [Aic] at hg
  have:=Hu h.2 hg
  rwa [show i+1+j=i+(j+1) by omega] at this
 | _,_,_,[],_,_,_,hg=>by simp at hg
def AX:Tm:=.mk 11 0 []
def YU (t:Tm):Tm:=match t with
 | .mk _ _ [_,.mk o1 _ [f,.mk o2 n2 _]]=>if o1=5/\o2=1/\n2=0/\f.free 0=false then f.subst 0 0 AX else t
 | _=>t
def YR (t:Tm):Tm:=match t with
 | .mk _ _ [_,.mk o1 _ [x],.mk o2 _ [y]]=>if o1=8/\o2=9/\x.same y=true then x else t
 | _=>t
theorem ZA {op m:Int} {z b:Tm} (h:b.op≠5):YU (.mk op m [z,b])=.mk op m [z,b]:=by
 unfold YU;split
 ·rename_i h1;simp only [Tm.mk.injEq,List.cons.injEq,and_true] at h1;obtain ⟨_,_,_,rfl⟩:=h1;rw [if_neg (fun h2=>h h2.1)]
 ·rfl
theorem GF (k:Nat):AX.sc k:=by rw [AX,Tm.sc];exact ⟨by decide,by rw [if_neg (by decide),BY,if_neg (by decide),if_neg (by decide),if_neg (by decide)],trivial⟩
theorem PZ {op m:Int} {z a b:Tm} (h:¬ (a.op=8/\b.op=9)):YR (.mk op m [z,a,b])=.mk op m [z,a,b]:=by
 unfold YR;split
 ·rename_i h1;simp only [Tm.mk.injEq,List.cons.injEq,and_true] at h1;obtain ⟨_,_,_,rfl,rfl⟩:=h1;rw [if_neg (fun h2=>h ⟨h2.1,h2.2.1⟩)]
 ·rfl
theorem FY {t:Tm} {k:Nat} {o:Int} {r:Nat} (h:t.sc k) (ho:t.op=o) (hr:ar o=some r):t.kids.length=r:=by
 obtain ⟨op,m,ks⟩:=t;simp only [Tm.op] at ho;subst ho;rw [Tm.sc,hr] at h
 have:=h.1
 simp only [AhZ] at this;exact this.symm
def NA:List Tm->List Tm
 | []=>[]
 | _::l=>AX::l
mutual
def Tm.eta:Tm->Tm
 | .mk op m ks=>if op=4 then YU (.mk 4 m (NA (Tm.etaL ks))) else if op=7 then YR (.mk 7 m (NA (Tm.etaL ks))) else .mk op m (Tm.etaL ks)
def Tm.etaL:List Tm->List Tm
 | []=>[]
 | t::l=>t.eta::Tm.etaL l
end
theorem MG:∀l:List Tm,(Tm.etaL l).length=l.length
 | []=>rfl
 | _::l=>by simp only [Tm.etaL,Ah3,MG l]
theorem qQ {m:Int} {z b:Tm} {k:Nat} (hz:z.sc k) (hb:b.sc (k+1)) (hm:m=0) (hw:k+2 * b.wt<=1000000000):(YU (.mk 4 m [z,b])).sc k/\(YU (.mk 4 m [z,b])).wt<=1+z.wt+b.wt:=by
 have h0:(Tm.mk 4 m [z,b]).sc k:=by rw [Tm.sc];refine ⟨rfl,?_,hz,hb,trivial⟩;rw [if_neg (by decide),BY,if_neg (by decide),if_neg (by decide),if_neg (by decide)];exact hm
 have h1:(Tm.mk 4 m [z,b]).wt=1+z.wt+b.wt:=by simp only [Tm.wt,Tm.wtL];omega
 unfold YU;split
 ·rename_i o1 n1 f o2 n2 k2 heq;simp only [Tm.mk.injEq,List.cons.injEq,and_true] at heq;obtain ⟨_,_,rfl,rfl⟩:=heq;split
  ·rename_i hc;obtain ⟨rfl,_,_,_⟩:=hc;rw [Tm.sc] at hb;have hf:f.sc (k+1):=by
    have:=hb.2.2
    rw [Tm.scL] at this;exact this.1
   simp only [Tm.wt,Tm.wtL] at hw h1 ⊢;have hs:=J5 f AX 0 k hf (GF k) (by simp only [AX,Tm.wt,Tm.wtL];omega);have hwt:=Jn f AX 0 0;have hz1:AX.wt=1:=rfl;rw [hz1,Nat.mul_one] at hwt;exact ⟨hs,by omega⟩
  ·exact ⟨h0,by rw [h1];exact Nat.le_refl _⟩
 ·exact ⟨h0,by rw [h1];exact Nat.le_refl _⟩
theorem uN {m:Int} {z a b:Tm} {k:Nat} (hz:z.sc k) (ha:a.sc k) (hb:b.sc k) (hm:m=0):(YR (.mk 7 m [z,a,b])).sc k/\(YR (.mk 7 m [z,a,b])).wt<=1+z.wt+a.wt+b.wt:=by
 have h0:(Tm.mk 7 m [z,a,b]).sc k:=by rw [Tm.sc];refine ⟨rfl,?_,hz,ha,hb,trivial⟩;rw [if_neg (by decide),BY,if_neg (by decide),if_neg (by decide),if_neg (by decide)];exact hm
 have h1:(Tm.mk 7 m [z,a,b]).wt=1+z.wt+a.wt+b.wt:=by simp only [Tm.wt,Tm.wtL];omega
 unfold YR;split
 ·rename_i o1 n1 x o2 n2 y heq;simp only [Tm.mk.injEq,List.cons.injEq,and_true] at heq;obtain ⟨_,_,rfl,rfl,rfl⟩:=heq;split
  ·rename_i hc;obtain ⟨rfl,_,_⟩:=hc;rw [Tm.sc] at ha;have hf:x.sc k:=by
    have:=ha.2.2
    rw [Tm.scL] at this;exact this.1
   simp only [Tm.wt,Tm.wtL] at h1 ⊢;exact ⟨hf,by omega⟩
  ·exact ⟨h0,by rw [h1];exact Nat.le_refl _⟩
 ·exact ⟨h0,by rw [h1];exact Nat.le_refl _⟩
mutual
theorem LO:∀(t:Tm) (k:Nat),t.sc k->k+2 * t.wt<=1000000000->t.eta.sc k/\t.eta.wt<=t.wt
 | .mk op m ks,k,h,hw=>by
  rw [Tm.sc] at h;rw [Tm.wt] at hw;have hl:=etaL_sc op 0 ks k h.2.2 (by omega);have hll:=MG ks;rw [Tm.eta];by_cases h4:op=4
  ·subst h4;rw [if_pos rfl];have h9:ar 4=some 2:=by decide
   rw [h9,if_neg (by decide),BY,if_neg (by decide),if_neg (by decide),if_neg (by decide)] at h
   match ks,h,hl,hw with
   | [a,b],h,hl,hw =>
    simp only [Tm.etaL,NA];simp only [Tm.etaL,Tm.scL,Tm.wtL] at hl;simp only [Tm.wtL] at hw;have hb1:Al 4 1=1:=by decide
    have hr:=qQ (m:=m) (z:=AX) (b:=b.eta) (k:=k) (GF k) (by have:=hl.1.2.1;rwa [hb1] at this) h.2.1 (by omega);have hz1:AX.wt=1:=rfl;have hp:=Et a;have hp2:=Et a.eta;rw [hz1] at hr;simp only [Tm.wt,Tm.wtL];exact ⟨hr.1,by omega⟩
   | [],h,_,_=>simp at h
   | [_],h,_,_=>simp at h
   | _::_::_::_,h,_,_=>simp at h
  ·rw [if_neg h4];by_cases h7:op=7
   ·subst h7;rw [if_pos rfl];have h9:ar 7=some 3:=by decide
    rw [h9,if_neg (by decide),BY,if_neg (by decide),if_neg (by decide),if_neg (by decide)] at h
    match ks,h,hl,hw with
    | [a,b,c],h,hl,hw =>
     simp only [Tm.etaL,NA];simp only [Tm.etaL,Tm.scL,Tm.wtL] at hl;simp only [Tm.wtL] at hw;have hb1:Al 7 1=0:=by decide
     have hb2:Al 7 2=0:=by decide
     have hr:=uN (m:=m) (z:=AX) (a:=b.eta) (b:=c.eta) (k:=k) (GF k) (by have:=hl.1.2.1;rwa [hb1] at this) (by have:=hl.1.2.2.1;rwa [hb2] at this) h.2.1;have hz1:AX.wt=1:=rfl;have hp:=Et a;have hp2:=Et a.eta;rw [hz1] at hr;simp only [Tm.wt,Tm.wtL];exact ⟨hr.1,by omega⟩
    | [],h,_,_=>simp at h
    | [_],h,_,_=>simp at h
    | [_,_],h,_,_=>simp at h
    | _::_::_::_::_,h,_,_=>simp at h
   ·rw [if_neg h7,Tm.sc];refine ⟨⟨by rw [hll];exact h.1,h.2.1,hl.1⟩,?_⟩;simp only [Tm.wt];omega
theorem etaL_sc:∀(op:Int) (i:Nat) (l:List Tm) (k:Nat),Tm.scL op i l k->k+2+2 * Tm.wtL l<=1000000000->Tm.scL op i (Tm.etaL l) k/\Tm.wtL (Tm.etaL l)<=Tm.wtL l
 | _,_,[],_,_,_=>by simp only [Tm.etaL,Tm.scL,true_and];exact Nat.le_refl _
 | op,i,t::l,k,h,hw=>by
  rw [Tm.scL] at h;rw [Tm.wtL] at hw;have hb:=A0 op i;have h1:=LO t (k+Al op i) h.1 (by omega);have h2:=etaL_sc op (i+1) l k h.2 (by omega);rw [Tm.etaL,Tm.scL,Tm.wtL,Tm.wtL];exact ⟨⟨h1.1,h2.1⟩,by omega⟩
end
def iC (o p:Int) (l:List Tm) (s:Nat) (h:Hp) (k:KT (IV×Hp)):AA (Am EE 29 1 [(0,.fv (.agg [.int .i64 o,.int .i64 p,.sl (l.map Tm.enc)]))]) s h k=k (.clip [.agg [.int .i64 o,.int .i64 p,.sl (l.map Tm.enc)]]) h [] []:=by
 have:=IL (.mk o p l) s h k
 rw [An] at this;exact this
def Pi (o:Option (IV×Hp)):Bool:=match o with
 | some (.fv (.bool b),⟨_,[]⟩)=>b
 | _=>false
def X5 {o:Option (IV×Hp)} (h:Pi o=true):BC o (.bool true):=by
 unfold Pi at h;split at h
 ·subst h;exact Ay _ _
 ·cases h
def Ct (o1 n1 o2 n2:Int) (k1 k2:List FV) (s:Nat) (h:Hp) (k:KT (IV×Hp)):AA (Am EE 29 2 [(0,.fv (.agg [.int .i64 o1,.int .i64 n1,.sl k1])),(1,.fv (.agg [.int .i64 o2,.int .i64 n2,.sl k2]))]) s h k =
  k (.clip [.agg [.int .i64 o1,.int .i64 n1,.sl k1],.agg [.int .i64 o2,.int .i64 n2,.sl k2]]) h [] []:=Cx Pl gK (by decide) (cells:=[.int .i64 o1,.int .i64 n1,.sl k1,.int .i64 o2,.int .i64 n2,.sl k2]) rfl k
def Jj (o1 n1 o2 n2 o3 n3:Int) (k1 k2 k3:List FV) (s:Nat) (h:Hp) (k:KT (IV×Hp)):AA (Am EE 29 3 [(0,.fv (.agg [.int .i64 o1,.int .i64 n1,.sl k1])),(1,.fv (.agg [.int .i64 o2,.int .i64 n2,.sl k2])),(2,.fv (.agg [.int .i64 o3,.int .i64 n3,.sl k3]))]) s h k =
  k (.clip [.agg [.int .i64 o1,.int .i64 n1,.sl k1],.agg [.int .i64 o2,.int .i64 n2,.sl k2],.agg [.int .i64 o3,.int .i64 n3,.sl k3]]) h [] []:=Cx Pl gK (by decide) (cells:=[.int .i64 o1,.int .i64 n1,.sl k1,.int .i64 o2,.int .i64 n2,.sl k2,.int .i64 o3,.int .i64 n3,.sl k3]) rfl k
def zH (o1 n1 o2 n2 o3 n3 o4 n4:Int) (k1 k2 k3 k4:List FV) (s:Nat) (h:Hp) (k:KT (IV×Hp)):AA (Am EE 29 4 [(0,.fv (.agg [.int .i64 o1,.int .i64 n1,.sl k1])),(1,.fv (.agg [.int .i64 o2,.int .i64 n2,.sl k2])),(2,.fv (.agg [.int .i64 o3,.int .i64 n3,.sl k3])),(3,.fv (.agg [.int .i64 o4,.int .i64 n4,.sl k4]))]) s h k =
  k (.clip [.agg [.int .i64 o1,.int .i64 n1,.sl k1],.agg [.int .i64 o2,.int .i64 n2,.sl k2],.agg [.int .i64 o3,.int .i64 n3,.sl k3],.agg [.int .i64 o4,.int .i64 n4,.sl k4]]) h [] []:=Cx Pl gK (by decide) (cells:=[.int .i64 o1,.int .i64 n1,.sl k1,.int .i64 o2,.int .i64 n2,.sl k2,.int .i64 o3,.int .i64 n3,.sl k3,.int .i64 o4,.int .i64 n4,.sl k4]) rfl k
def Dx (o1 n1:Int) (k1:List FV) (s:Nat) (h:Hp) (k:KT (IV×Hp)):AA (Am EE 29 1 [(0,.fv (.agg [.int .i64 o1,.int .i64 n1,.sl k1]))]) s h k =
  k (.clip [.agg [.int .i64 o1,.int .i64 n1,.sl k1]]) h [] []:=Cx Pl gK (by decide) (cells:=[.int .i64 o1,.int .i64 n1,.sl k1]) rfl k
def zK (r:Option (IV×Hp)) (v:FV):Prop:=∃own,r=some (.fv v,⟨own,[]⟩)
def Rp {v:FV} {own:List (Nat×Blk)}:zK (some (.fv v,⟨own,[]⟩)) v:=⟨own,rfl⟩
def GQ:Nat->Tm
 | 0=>.mk 11 0 []
 | n+1=>.mk 12 0 [GQ n]
def NV {g:FuncId} (h:EE.pol.inl g=false) (h1:EE.pol.keep g=[]) (h2:EE.pol.split g=false) (h3:EE.pol.raw g=false) (ih:Ai) (xs:List IV) (h0:Hp) (k:KT (IV×Hp)) :
  CN EE ih (.fv (.func (.func g) [] [])) xs h0 k=A5 [] false false ih g xs h0 k:=by
 unfold CN;simp only [callee,h,cond_false,ZF,h1,h2,h3,Ah4,List.nil_append,List.append_nil]
theorem tZ {n:Nat} (k:Nat) (hn:k+3<n) (hk:k<=1000000):BC (SS dt n 90 [iv k] ⟨[],[]⟩) (GQ k).enc:=by
 obtain ⟨n,rfl⟩:∃j,n=j+1:=⟨n - 1,by omega⟩;rw [c90];have h0:=AY (n:=n) (by omega) 11;rw [An] at h0;simp only [OW,S90,↓XX,XY,↓reduceIte,seval,↓Ag h0];refine Be (Q:=fun r=>BC r _) (fun j V H=>∃(i:Nat),i+j=k/\V=[iv k,.ptr (.own 94371840) 0,.ptr (.own 94372865) 0,iv i] /\
   H=⟨[(94371840,.row [iv 0,iv 0,.nils] false),(94372865,.row [iv (GQ i).op,iv (GQ i).n,.fv (.sl ((GQ i).kids.map Tm.enc))] false)],[]⟩) ?_ n k _ _ (by omega) ⟨0,by omega,rfl,rfl⟩
 rintro j V H rec ⟨i,hi,rfl,rfl⟩ hrec;cases j with
 | zero =>
  have:i=k:=by omega
  subst this;have hno:¬ ((i:Int)<i):=by omega
  generalize GQ i=t;obtain ⟨o,p,l⟩:=t;rw [An];simp only [OW,SF,S90,↓XX,XY,↓reduceIte,seval,hno,Tm.op,Tm.n,Tm.kids];exact Ay _ _
 | succ j =>
  have hlt:(i:Int)<k:=by omega
  have hw:BF ((i:Int)+1)=((i+1:Nat):Int):=(Az (by omega) (by omega)).trans (by simp);have ht:=CO (n:=n) (by omega) 12 [GQ i];have h9:=hrec j ([iv k,.ptr (.own 94371840) 0,.ptr (.own 94372865) 0,iv (i+1:Nat)]) (⟨[(94371840,.row [iv 0,iv 0,.nils] false),(94372865,.row [iv 12,iv 0,.fv (.sl ([GQ i].map Tm.enc))] false)],[]⟩) (by omega) ⟨i+1,by omega,rfl,rfl⟩;generalize GQ i=t at *;obtain ⟨o,p,l⟩:=t;simp only [Ah5,Ah4,An] at ht h9;simp only [OW,SF,S90,↓XX,XY,↓reduceIte,seval,hlt,Tm.op,Tm.n,Tm.kids,↓iC,↓Ag ht,hw];exact h9
section
variable {β:Type}
theorem XS {rm:List Nat} {vals:List IV} {own:List (Nat×Blk)} {ext:List Blk} (hf:AS rm vals own []=true) (hx:∀s,Ref.own s ∉ ext.flatMap Blk.refs) (s:Nat) :
  Ref.own s∈IV.refs.refsL vals++(own.filter fun p=>!rm.contains p.1).flatMap (fun p=>p.2.refs)++ext.flatMap Blk.refs ↔ heldB rm vals own [] s=true:=by
 rw [<- QZ hf s,List.mem_append];constructor
 ·rintro (h | h)
  ·exact List.mem_append_left _ h
  ·exact absurd h (hx s)
 ·intro h;rcases List.mem_append.1 h with h | h
  ·exact .inl h
  ·cases h
theorem Zg {base rm:List Nat} {vals:List IV} {own:List (Nat×Blk)} {ext:List Blk} (hx:∀s,Ref.own s ∉ ext.flatMap Blk.refs) (hb:rm.any base.contains=false) (hf:AS rm vals own []=true) (k:Hp->Option β) :
  Bo base rm vals ⟨own,ext⟩ k=k ⟨Hf rm vals own [],ext⟩:=by
 have hm:=XS hf hx;have hf0:=hf;simp only [AS,Bool.and_eq_true] at hf0;obtain ⟨g1,g2,g3,g4⟩:=hf0;unfold Bo;rw [hb];simp only [cond_false];rw [Lt];cases ha:(own.all fun p=>!rm.contains p.1) with
 | true =>
  simp only [Bool.not_true,cond_false];congr 2
  symm
  apply List.filter_eq_self.2;intro p hp;rw [List.all_eq_true.1 ha p hp];rfl
 | false =>
  simp only [Bool.not_false,cond_true];have slow:(match CT base [] rm ⟨vals,⟨own,ext⟩⟩ with | none=>none | some S=>fH S.hp k)=k ⟨Hf rm vals own [],ext⟩:=by
   have hgone:(rm.filter fun k=>!anyIn [k] (IV.refs.refsL vals++(own.filter fun p=>!rm.contains p.1).flatMap (fun p=>p.2.refs)++ext.flatMap Blk.refs))=rm.filter fun s=>!heldB rm vals own [] s:=by apply List.filter_congr;intro s _;congr 1;exact Bool.eq_iff_iff.2 ((HV s _).trans (hm s))
   have hown:(own.filter fun p=>!(rm.filter fun s=>!heldB rm vals own [] s).contains p.1)=Hf rm vals own []:=by
    apply List.filter_congr;intro p _;rw [Bool.eq_iff_iff];simp only [Bool.not_eq_true',Bool.or_eq_true,List.contains_eq_mem,decide_eq_false_iff_not,List.mem_filter];constructor
    ·intro h;by_cases h1:p.1∈rm
     ·right;cases hh:heldB rm vals own [] p.1 with
      | true=>rfl
      | false=>exact absurd ⟨h1,hh⟩ h
     ·exact .inl h1
    ·rintro (h | h) ⟨h1,h2⟩
     ·exact h h1
     ·rw [h] at h2;exact absurd h2 (by simp)
   simp only [CT,hb,Bool.false_eq_true,if_false,Bh,ha,hgone,hown];have hnone:anyIn (rm.filter fun s=>!heldB rm vals own [] s) (Dc ⟨vals,⟨Hf rm vals own [],ext⟩⟩)=false:=by
    apply Em;intro s hs hmem;obtain ⟨hs1,hs2⟩:=List.mem_filter.1 hs;have hs2:heldB rm vals own [] s=false:=by simpa using hs2
    simp only [Dc,List.mem_append] at hmem;rcases hmem with (hmem | hmem) | hmem
    ·have:=(hm s).1 (List.mem_append_left _ (List.mem_append_left _ hmem))
     rw [this] at hs2;cases hs2
    ·obtain ⟨p,hp,hr⟩:=List.mem_flatMap.1 hmem;have hp1:=(List.mem_filter.1 hp).1;have hn:=(Ei (List.all_eq_true.1 g2 p hp1) s).1 hr;have h4:=List.all_eq_true.1 g4 p hp1;cases hc:rm.contains p.1 with
     | true =>rw [hc] at h4;have h4:(rm.all fun s=>!Fs s p.2)=true:=h4;have h5:=List.all_eq_true.1 h4 s hs1;rw [hn] at h5;cases h5
     | false =>
      have:=(hm s).1 (List.mem_append_left _ (List.mem_append_right _ (List.mem_flatMap.2 ⟨p,List.mem_filter.2 ⟨hp1,by rw [hc];rfl⟩,hr⟩)))
      rw [this] at hs2;cases hs2
    ·exact hx s hmem
   simp only [hnone,Bool.false_eq_true,if_false,Il]
  cases hff:(and (FF rm (CW vals [])) (and (HH rm own) (Ik rm ext))) with
  | false=>exact slow
  | true =>
   have hff:(FF rm (CW vals []) && (HH rm own && Ik rm ext))=true:=hff;simp only [Bool.and_eq_true] at hff;simp only [Hc,cond_true];congr 2;apply List.filter_congr;intro p hp;cases hc:rm.contains p.1 with
   | false=>rfl
   | true =>
    have h1:=Fy hff.1;rw [refsDL_eq,List.append_nil] at h1;have h2:=Hl hff.2.1
    have:heldB rm vals own [] p.1=false:=by
     cases hh:heldB rm vals own [] p.1 with
     | false=>rfl
     | true =>
      have:=(hm p.1).2 hh
      have hpm:p.1∈rm:=List.contains_iff_mem.1 hc;rcases List.mem_append.1 this with h | h
      ·rcases List.mem_append.1 h with h | h
       ·exact absurd h (h1 _ hpm)
       ·exact absurd h (h2 _ hpm)
      ·exact absurd h (hx _)
    rw [this];rfl
structure ExtX (ext ext':List Blk):Prop where
 g:Nh 400 [.ext 0] 0 ext=true
 l:ext'.length=ext.length
 o:Yn ext.length ext'=true
theorem VN {ks:List Bool} {ih:Ai} {f:FuncId} {args:List IV} {vs:List FV} {w:FV} {u:List (Ref×Blk)} {lg:List Ref} {own own':List (Nat×Blk)} {ext ext':List Blk}
  (hz:∀(e:Option (IV×Hp)) (k:List IV->List Ref->List (Ref×Blk)->List Ref->Option (IV×Hp)),So args ks ⟨own,ext⟩ [] e k=k (vs.map .fv) [] u lg) (X:ExtX ext ext')
  (hr:By (ih f (.ptr (.ext 0) 0::vs.map .fv) ⟨[],ext⟩) w ext') (hlay:∀k:Hp->Option (IV×Hp),Kq u ⟨own,ext'⟩ k=k ⟨own',ext'⟩) (k:KT (IV×Hp)) :
  A5 (true::ks) false false ih f (.ptr (.ext 0) 0::args) ⟨own,ext⟩ k=k (.fv w) ⟨own',ext'⟩ ((C6 ext.length).reverse++lg) (Bz u++C6 ext.length):=by
 rw [JJ,TN,Pg,hz]
 have:=PS (r1:=.ext 0) (rs1:=[]) hr X.g X.l X.o own (ih f (.ptr (.ext 0) 0::vs.map .fv) ⟨[],[]⟩) u lg (Ec (true::ks) false false ih f (.ptr (.ext 0) 0::args) ⟨own,ext⟩ k) k
 exact this.trans (hlay _)
theorem Abp:∀(cs:List FV),(∀x∈cs,∀l,x≠.agg l)->∀k:List FV->Option β,SN 1 cs.length cs k=k cs
 | [],_,k=>rfl
 | c::cs,h,k=>by
  show (FH (c::cs) 1 fun a=>Fj (c::cs) 1 fun b=>XJ a fun x=>SN 1 cs.length b fun xs=>k (x::xs))=_
  rw [t1,d1]
  have:∀k:FV->Option β,XJ [c] k=k c:=by
   intro k;cases c with
   | agg l=>exact absurd rfl (h _ List.mem_cons_self l)
   | _=>rfl
  rw [this,Abp cs (fun x hx=>h x (List.mem_cons_of_mem _ hx))]
theorem L2 (d:Nat) (h:Hp) (lg:List Ref) (e:Option β):∀(l:List FV) (k:List FV->List (Ref×Blk)->List Ref->Option β),CP (DB (d+1)) (l.map .fv) h lg e k=k l [] lg
 | [],k=>rfl
 | v::l,k=>by
  show (DB (d+1) (.fv v) h lg e fun y u lg=>CP (DB (d+1)) (l.map .fv) h lg e fun ys us lg=>K8 u us fun w=>k (y::ys) w lg)=_
  show (CP (DB (d+1)) (l.map .fv) h lg e fun ys us lg=>K8 [] us fun w=>k (v::ys) w lg)=_
  rw [L2 d h lg e l];rfl
theorem aH {d:Nat} {s:Nat} {es:List FV} {ro:Bool} {own:List (Nat×Blk)} {ext:List Blk} (hl:Aq s own=some (.row (es.map .fv) ro)) (hn:es.length<=300) (ha:∀x∈es,∀l,x≠.agg l) (lg:List Ref) (e:Option β)
  (k:FV->List (Ref×Blk)->List Ref->Option β):DB (d+2) (.slc (.own s) 1 es.length) ⟨own,ext⟩ lg e k=k (.sl es) [(.own s,.row (es.map .fv) true)] (.own s::lg):=by
 show (Dr (.own s) ⟨own,ext⟩ fun b=>D4 b fun cells=>cond (Nat.ble cells.length 300) (cond (or (Nat.beq 1 0) (not (Nat.ble (es.length * 1) cells.length))) none
  (CP (DB (d+1)) cells ⟨own,ext⟩ (.own s::lg) e fun cs u lg=>SN 1 es.length cs fun els=>k (.sl els) ((.own s,.row cells true)::u) lg)) e)=_
 rw [J7,BB,hl];simp only [Option.bind_some,Hn,List.length_map,Nat.mul_one];rw [Bq,decide_eq_true hn,fX,show Nat.ble es.length es.length=true by rw [Bq];exact decide_eq_true (Nat.le_refl _)]
 simp only [Bool.not_true]
 show (CP (DB (d+1)) (es.map .fv) ⟨own,ext⟩ (.own s::lg) e fun cs u lg=>SN 1 es.length cs fun els=>k (.sl els) ((.own s,.row (es.map .fv) true)::u) lg)=_
 rw [L2,Abp es ha]
theorem zZ {s s2:Nat} {es:List FV} {ro ro2:Bool} {a b c d t x:FV} {own:List (Nat×Blk)} {ext:List Blk} (hl:Aq s own=some (.row [.fv a,.fv b,.slc (.own s2) 1 es.length,.fv c,.fv d,.fv t,.fv x] ro)) (hl2:Aq s2 own=some (.row (es.map .fv) ro2))
  (hn:es.length<=300) (ha:∀x∈es,∀l,x≠.agg l) (lg:List Ref) (e:Option β) (k:FV->List (Ref×Blk)->List Ref->Option β):DB 12 (.ptr (.own s) 0) ⟨own,ext⟩ lg e k =
   k (.fp [a,b,.sl es,c,d,t,x] 0) [(.own s,.row [.fv a,.fv b,.slc (.own s2) 1 es.length,.fv c,.fv d,.fv t,.fv x] true),(.own s2,.row (es.map .fv) true)] (.own s2 :: .own s::lg):=by
 rw [SE,J7,BB,hl];simp only [Option.bind_some,Hn];rw [Bq,decide_eq_true (by simp),fX];rw [Su,Ir,Su,Ir,Su,aH (d:=9) hl2 hn ha,Su,Ir,Su,Ir,Su,Ir,Su,Ir,v8];rfl
end
theorem E5 (l:List FV):(l.map IV.fv).all FB=true:=by induction l with
 | nil=>rfl
 | cons a l ih=>rw [Ah5,List.all_cons,ih];rfl
theorem D8 (s:Nat) (l:List FV):(l.map IV.fv).any (Cy s)=false:=by induction l with
 | nil=>rfl
 | cons a l ih=>rw [Ah5,List.any_cons,ih];rfl
def BI:List Tm->List FV
 | []=>[]
 | .mk o n k::l=>.int .i64 o :: .int .i64 n :: .sl (k.map Tm.enc)::BI l
def Jl:Nat->List IV
 | 0=>[]
 | n+1=>iv 0::iv 0 :: .nils::Jl n
def BZ (ts:List Tm) (r:Nat):List IV:=(BI ts).map .fv++Jl r
theorem GL (ts:List Tm):(BI ts).length=3 * ts.length:=by
 induction ts with
 | nil=>rfl
 | cons t l ih=>obtain ⟨o,n,k⟩:=t;simp only [BI,Ah3,ih];omega
theorem Uc (ts:List Tm) (t:Tm):BI (ts++[t])=BI ts++[.int .i64 t.op,.int .i64 t.n,.sl (t.kids.map Tm.enc)]:=by
 induction ts with
 | nil=>obtain ⟨o,n,k⟩:=t;rfl
 | cons a l ih=>obtain ⟨o,n,k⟩:=a;simp only [List.cons_append,BI,ih]
theorem NZ {β:Type}:∀(A:List IV) (x y z:IV) (B:List IV) (a b c:FV) (k:List IV->Option β),Ef (A++x::y::z::B) A.length [a,b,c] k=k (A++.fv a :: .fv b :: .fv c::B)
 | [],x,y,z,B,a,b,c,k=>rfl
 | w::A,x,y,z,B,a,b,c,k=>by
  show Ef (A++x::y::z::B) A.length [a,b,c] (fun t=>k (w::t))=_
  rw [NZ A];rfl
def Uw {β:Type} (done:List Tm) (r:Nat) (o n:Int) (ks:List Tm) (k:List IV->Option β):Ef (BZ done (r+1)) (done.length * 3) [.int .i64 o,.int .i64 n,.sl (ks.map Tm.enc)] k=k (BZ (done++[.mk o n ks]) r):=by have h:=NZ (β:=β) ((BI done).map .fv) (iv 0) (iv 0) .nils (Jl r) (.int .i64 o) (.int .i64 n) (.sl (ks.map Tm.enc)) k;rw [List.length_map,GL,Nat.mul_comm] at h;refine h.trans ?_;congr 1;unfold BZ;rw [Uc];simp [Tm.op,Tm.n,Tm.kids,iv]
theorem uG {β:Type}:∀(ts:List Tm) (k:List FV->Option β),SN 3 ts.length (BI ts) k=k (ts.map Tm.enc)
 | [],k=>rfl
 | .mk o n ks::l,k=>by
  show (FH (BI (.mk o n ks::l)) 3 fun a=>Fj (BI (.mk o n ks::l)) 3 fun b=>XJ a fun x=>SN 3 l.length b fun xs=>k (x::xs))=_
  rw [BI,t3,d3]
  show (SN 3 l.length (BI l) fun xs=>k (.agg [.int .i64 o,.int .i64 n,.sl (ks.map Tm.enc)]::xs))=_
  rw [uG l,Ah5,An]
theorem Aaj (n:Nat):Nz n [iv 0,iv 0,.nils]=BZ [] n:=by
 induction n with
 | zero=>rfl
 | succ n ih=>rw [Nz,ih];rfl
def vE {n:Nat} (hn:n<=1000) (s:Nat) (own:List (Nat×Blk)) (ext:List Blk) (k:KT (IV×Hp)) :
  AA (BD EE s 29 (iv n) (iv n)) s ⟨own,ext⟩ k=CV own s (Bf own s (.row (BZ [] n) false) fun own=>k (.slc (.own s) 3 n) ⟨own,ext⟩ [] [.own s]):=by
 have:BD EE s 29 (iv n) (iv n)=.ret { eff:={ val:=.slc (.own s) 3 n },new:=some (.row (BZ [] n) false) }:=by simp only [BD,Pl,gK,TV];rw [if_pos ⟨by omega,by omega,by omega,by decide,by decide⟩,Int.toNat_natCast,Aaj]
 rw [this];unfold AA;simp only [Rd.runLog,Hy,CB,Cm];rfl
def M0 {β:Type} {n i:Nat} (h:i<n) (r:Ref) (k:IV->Option β):AR 3 (.slc r 3 n) (iv i) k=k (.ptr r (i * 3)):=by
 have e1:Nat.ble (Nat.succ i) n=true:=by rw [Bq];exact decide_eq_true h
 show (cond (and (Nat.ble (Nat.succ i) n) (Nat.beq 3 3)) (Eb (i * 3) fun o=>k (.ptr r o)) none)=_
 rw [e1];simp only [Ca];rfl
theorem GG (ts:List Tm) (r:Nat):(BZ ts r).all FB=true:=by
 unfold BZ;rw [List.all_append,E5,Bool.true_and]
 induction r with
 | zero=>rfl
 | succ r ih=>rw [Jl,List.all_cons,List.all_cons,List.all_cons,ih];rfl
theorem E4 (s:Nat) (ts:List Tm) (r:Nat):(BZ ts r).any (Cy s)=false:=by
 unfold BZ;rw [List.any_append,D8,Bool.false_or]
 induction r with
 | zero=>rfl
 | succ r ih=>rw [Jl,List.any_cons,List.any_cons,List.any_cons,ih];rfl
def jF {s d:Nat} {ts:List Tm} {ro:Bool} {own:List (Nat×Blk)} {ext:List Blk} (hl:Aq s own=some (.row (BZ ts 0) ro)) (hn:ts.length<=100) (lg:List Ref) (e:Option (IV×Hp))
  (k:FV->List (Ref×Blk)->List Ref->Option (IV×Hp)):DB (d+2) (.slc (.own s) 3 ts.length) ⟨own,ext⟩ lg e k=k (.sl (ts.map Tm.enc)) [(.own s,.row (BZ ts 0) true)] (.own s::lg):=by
 have hlen:(BZ ts 0).length=3 * ts.length:=by simp [BZ,Jl,GL]
 show (Dr (.own s) ⟨own,ext⟩ fun b=>D4 b fun cells=>cond (Nat.ble cells.length 300) (cond (or (Nat.beq 3 0) (not (Nat.ble (ts.length * 3) cells.length))) none
  (CP (DB (d+1)) cells ⟨own,ext⟩ (.own s::lg) e fun cs u lg=>SN 3 ts.length cs fun els=>k (.sl els) ((.own s,.row cells true)::u) lg)) e)=_
 rw [J7,BB,hl];simp only [Option.bind_some,Hn];rw [hlen,Bq,decide_eq_true (by omega),fX,Bq,decide_eq_true (by omega)];simp only [Bool.not_true]
 show (CP (DB (d+1)) (BZ ts 0) ⟨own,ext⟩ (.own s::lg) e fun cs u lg=>SN 3 ts.length cs fun els=>k (.sl els) ((.own s,.row (BZ ts 0) true)::u) lg)=_
 rw [show BZ ts 0=(BI ts).map .fv by simp [BZ,Jl],L2,uG]
def dV {s:Nat} {ts:List Tm} {ro:Bool} {a b:FV} {own:List (Nat×Blk)} {ext:List Blk} (hl:Aq s own=some (.row (BZ ts 0) ro)) (hn:ts.length<=100) (lg:List Ref) (e:Option (IV×Hp))
  (k:FV->List (Ref×Blk)->List Ref->Option (IV×Hp)):DB 12 (.agg [.fv a,.fv b,.slc (.own s) 3 ts.length]) ⟨own,ext⟩ lg e k=k (.agg [a,b,.sl (ts.map Tm.enc)]) [(.own s,.row (BZ ts 0) true)] (.own s::lg):=by
 rw [ZT,show Nat.ble [IV.fv a,.fv b,.slc (.own s) 3 ts.length].length 300=true from rfl,fX,Su,Ir,Su,Ir,Su,jF (d:=9) hl hn,v8]
 rfl
def El {β:Type} (o p:Int) (l:List FV) (r:List FV) (k:IV->Option β):AR 3 (.fv (.sl (.agg [.int .i64 o,.int .i64 p,.sl l]::r))) (iv 0) k=k (.fv (.fp [.int .i64 o,.int .i64 p,.sl l] 0)):=by
 have h:(.agg [.int .i64 o,.int .i64 p,.sl l]::r:List FV)[0]?=some (.agg [.int .i64 o,.int .i64 p,.sl l]):=rfl
 have:=Br (β:=β) h (Bm _ _ _) k
 rw [Cd] at this;exact this
def EH {β:Type} (a:FV) (o p:Int) (l:List FV) (r:List FV) (k:IV->Option β):AR 3 (.fv (.sl (a :: .agg [.int .i64 o,.int .i64 p,.sl l]::r))) (iv 1) k=k (.fv (.fp [.int .i64 o,.int .i64 p,.sl l] 0)):=by
 have h:(a :: .agg [.int .i64 o,.int .i64 p,.sl l]::r:List FV)[1]?=some (.agg [.int .i64 o,.int .i64 p,.sl l]):=rfl
 have:=Br (β:=β) h (Bm _ _ _) k
 rw [Cd] at this;exact this
def Gd {β:Type} (a b:FV) (o p:Int) (l:List FV) (r:List FV) (k:IV->Option β):AR 3 (.fv (.sl (a::b :: .agg [.int .i64 o,.int .i64 p,.sl l]::r))) (iv 2) k=k (.fv (.fp [.int .i64 o,.int .i64 p,.sl l] 0)):=by
 have h:(a::b :: .agg [.int .i64 o,.int .i64 p,.sl l]::r:List FV)[2]?=some (.agg [.int .i64 o,.int .i64 p,.sl l]):=rfl
 have:=Br (β:=β) h (Bm _ _ _) k
 rw [Cd] at this;exact this
def CE (w:FV) (own:List (Nat×Blk)):Iy (some (.fv w,⟨own,[]⟩)) w:=⟨_,own,rfl,pD w own⟩
def eH {r:Option (IV×Hp)} {w:FV} (h:Iy r w):BC r w:=by obtain ⟨v,own,e,hz⟩:=h;exact ⟨v,own,e,.inl hz⟩
abbrev xP (op m:Int) (ks:List Tm) (K:IV) (tok:List (Nat×Blk)):Hp :=⟨(63963136,.row [iv op,iv m,.fv (.sl (ks.map Tm.enc))] false)::(63963137,.row [iv 0,iv 0,.nils] false)::(63964165,.row [iv op,iv m,K] false)::tok,[]⟩
def Dd (op:Int):Nat->List Tm->List Tm
 | _,[]=>[]
 | i,t::l=>(if i=0/\(op=4\/op=7) then AX else t.eta)::Dd op (i+1) l
def S7 (o p:Int) (l:List FV) (s:Nat) (own:List (Nat×Blk)) (ext:List Blk) (k:KT (IV×Hp)) :
  AA (AU EE s false .append [29,29] [.nils,.clip [.agg [.int .i64 o,.int .i64 p,.sl l]]]) s ⟨own,ext⟩ k=CV own s (Bf own s (.tok 1 3) fun own=>k (.app (.own s) [.agg [.int .i64 o,.int .i64 p,.sl l]]) ⟨own,ext⟩ [] [.own s]) :=
 HA sTm (.clip _) rfl rfl (by simp) (.inl rfl) s own ext k
theorem N7 (op:Int) (x:Tm):∀(i:Nat) (l:List Tm),Dd op i (l++[x])=Dd op i l++[if i+l.length=0/\(op=4\/op=7) then AX else x.eta]
 | i,[]=>by simp [Dd]
 | i,t::l=>by
  simp only [List.cons_append,Dd,N7 op x (i+1) l,Ah3];rw [show i+1+l.length=i+(l.length+1) by omega]
theorem NR (op:Int):∀(i:Nat) (l:List Tm),(Dd op i l).length=l.length
 | _,[]=>rfl
 | i,t::l=>by simp only [Dd,Ah3,NR op (i+1) l]
theorem XZ {n:Nat} {op m:Int} {ks:List Tm} {w:FV} (h4:ks.length<=4) (hn:ks.length+3<n)
  (ih:∀x∈ks,BC (SS dt n 61 [.fv x.enc] ⟨[],[]⟩) x.eta.enc)
  (hend:∀(K:IV) (tok:List (Nat×Blk)) (rec:List IV->Hp->Option (IV×Hp)),((ks=[]/\K=.nils/\tok=[])\/(ks≠[]/\K=.app (.own 63971332) ((Dd op 0 ks).map Tm.enc)/\tok=[(63971332,.tok ks.length 3)])) ->
   BC (Ia [.ptr (.own 63963136) 0,.ptr (.own 63963137) 0,.ptr (.own 63964165) 0,iv ks.length] (xP op m ks K tok) (SS dt n) ⟨[],[]⟩ rec) w) :
  BC (SS dt (n+1) 61 [.fv (Tm.mk op m ks).enc] ⟨[],[]⟩) w:=by
 rw [c61,An];simp only [Qt,OM,Ph,OK,OC,Qk,Ql,O9,PH,OQ,S61,↓XX,XY,↓reduceIte,seval,↓AJ,XD,heldB,AS,XE];refine Be (Q:=fun r=>BC r _) (fun j V H=>∃(pre rest:List Tm) (K:IV) (tok:List (Nat×Blk)),ks=pre++rest/\rest.length=j/\V=[.ptr (.own 63963136) 0,.ptr (.own 63963137) 0,.ptr (.own 63964165) 0,iv pre.length]/\H=xP op m ks K tok /\
   ((pre=[]/\K=.nils/\tok=[])\/(pre≠[]/\K=.app (.own 63971332) ((Dd op 0 pre).map Tm.enc)/\tok=[(63971332,.tok pre.length 3)])))
  ?_ n ks.length _ _ (by omega) ⟨[],ks,.nils,[],rfl,rfl,rfl,rfl,.inl ⟨rfl,rfl,rfl⟩⟩
 rintro j V H rec ⟨pre,rest,K,tok,hks,hl,rfl,rfl,hK⟩ hrec;have hkl:ks.length=pre.length+rest.length:=by rw [hks];simp
 cases rest with
 | nil =>rw [List.append_nil] at hks;subst hks;exact hend K tok rec hK
 | cons x rest =>
  have hi:(pre.length:Int)<ks.length:=by rw [hkl];simp;omega
  have hg2:=B2 hks;have hc:=ih x (by rw [hks];simp);have hwi:BF ((pre.length:Int)+1)=((pre++[x]).length:Int):=(Az (by omega) (by omega)).trans (by simp);have h0:=AY (n:=n) (by omega) 11;have hi0:(0:Int)<ks.length:=by omega
  have hw01:BF (0+1)=1:=by decide
  simp only [Ah3] at hl hkl;rcases hK with ⟨rfl,rfl,rfl⟩ | ⟨hne,rfl,rfl⟩
  ·have hz:∀y,((op=4\/op=7)->y=AX)->(¬ (op=4\/op=7)->y=x.eta)->Dd op 0 [x]=[y]:=by
    intro y h1 h2;by_cases h:op=4\/op=7
    ·simp [Dd,h,h1 h]
    ·simp [Dd,h,h2 h]
   have h9:∀y,Dd op 0 [x]=[y]->BC (rec [.ptr (.own 63963136) 0,.ptr (.own 63963137) 0,.ptr (.own 63964165) 0,iv 1] (xP op m ks (.app (.own 63971332) [y.enc]) [(63971332,.tok 1 3)])) w:=by intro y hy;exact hrec rest.length _ _ (by omega) ⟨[x],rest,_,_,by rw [hks];simp,rfl,rfl,rfl,.inr ⟨by simp,by rw [List.nil_append] at *;rw [hy];rfl,rfl⟩⟩
   by_cases hop:op=4
   ·have h8:=h9 AX (hz _ (fun _=>rfl) (fun h=>absurd (.inl hop) h));subst hop;generalize x.eta=y at hc;obtain ⟨o,p,l⟩:=x;obtain ⟨o2,p2,l2⟩:=y;rw [An,An] at hc;rw [An] at h0;have hze:AX.enc=.agg [.int .i64 11,.int .i64 0,.sl []]:=rfl;rw [hze] at h8;simp only [↓Ub,↓XX,XY,↓reduceIte,seval,hi,↓Br (AO hg2) (Bm _ _ _),↓Cd,↓Ar hc,↓Ag h0,hi0,hw01,↓Dx,↓S7,↓AJ,XD,heldB,AS,XE];exact h8
   ·by_cases hop7:op=7
    ·have h8:=h9 AX (hz _ (fun _=>rfl) (fun h=>absurd (.inr hop7) h));subst hop7;generalize x.eta=y at hc;obtain ⟨o,p,l⟩:=x;obtain ⟨o2,p2,l2⟩:=y;rw [An,An] at hc;rw [An] at h0;have hze:AX.enc=.agg [.int .i64 11,.int .i64 0,.sl []]:=rfl;rw [hze] at h8;simp only [↓Ub,↓XX,XY,↓reduceIte,seval,hi,↓Br (AO hg2) (Bm _ _ _),↓Cd,↓Ar hc,↓Ag h0,hi0,hw01,↓Dx,↓S7,↓AJ,XD,heldB,AS,XE];exact h8
    ·have h8:=h9 x.eta (hz _ (fun h=>absurd h (by omega)) (fun _=>rfl));generalize x.eta=y at hc h8;obtain ⟨o,p,l⟩:=x;obtain ⟨o2,p2,l2⟩:=y;rw [An,An] at hc;rw [An] at h8;simp only [↓Ub,↓XX,XY,↓reduceIte,seval,hi,hop,hop7,↓Br (AO hg2) (Bm _ _ _),↓Cd,↓Ar hc,hi0,hw01,↓Dx,↓S7,↓AJ,XD,heldB,AS,XE];exact h8
  ·have hp0:¬ (pre.length:Int)=0:=by
    have:=List.length_pos_iff.2 hne
    omega
   have h8:=hrec rest.length _ _ (by omega) ⟨pre++[x],rest,_,_,by rw [hks];simp,rfl,rfl,rfl,.inr ⟨by simp,by rw [N7,if_neg (by rintro ⟨h,_⟩;omega)],rfl⟩⟩;have hlen:=NR op 0 pre;generalize Dd op 0 pre=D at h8 hlen;generalize x.eta=y at hc h8;obtain ⟨o,p,l⟩:=x;obtain ⟨o2,p2,l2⟩:=y;have happ:=fun {own:List (Nat×Blk)} {ext:List Blk} (r s:Nat) (k:KT (IV×Hp))=>Ln (es:=D) (by omega) (.mk o2 p2 l2) r s own ext k;rw [hlen] at happ;rw [An,An] at hc;simp only [An] at happ;simp only [↓Ub,↓XX,XY,↓reduceIte,seval,hi,hp0,↓Br (AO hg2) (Bm _ _ _),↓Cd,↓Ar hc,hwi,↓Dx,↓happ,↓GZ,↓AJ,XD,heldB,AS,XE];have e9:(pre++[Tm.mk o p l]).length=pre.length+1:=by simp
   rw [e9] at h8 ⊢;exact h8
def Jy {β:Type} (r:Ref) (es:List FV) (x:IV) (k:IV->Option β):AR 3 (.app r es) x k=AR 3 (.fv (.sl es)) x k:=rfl
theorem WF (op:Int) (h:op=4\/op=7):∀ks:List Tm,Dd op 0 ks=NA (Tm.etaL ks)
 | []=>rfl
 | t::l=>by
  have:∀(i:Nat) (l:List Tm),Dd op (i+1) l=Tm.etaL l:=by
   intro i l
   induction l generalizing i with
   | nil=>rfl
   | cons a l ih=>rw [Dd,if_neg (by omega),ih,Tm.etaL]
  rw [Dd,if_pos ⟨rfl,h⟩,this 0,Tm.etaL,NA]
theorem UP (op:Int) (h:¬ (op=4\/op=7)):∀(i:Nat) (ks:List Tm),Dd op i ks=Tm.etaL ks
 | _,[]=>rfl
 | i,t::l=>by rw [Dd,if_neg (fun h'=>h h'.2),UP op h (i+1) l,Tm.etaL]
def SC {n:Nat} {op m:Int} {ks:List Tm} (h:¬ (op=4\/op=7)) (rec:List IV->Hp->Option (IV×Hp)) {K:IV} {tok:List (Nat×Blk)}
  (hK:(ks=[]/\K=.nils/\tok=[])\/(ks≠[]/\K=.app (.own 63971332) ((Dd op 0 ks).map Tm.enc)/\tok=[(63971332,.tok ks.length 3)])) :
  BC (Ia [.ptr (.own 63963136) 0,.ptr (.own 63963137) 0,.ptr (.own 63964165) 0,iv ks.length] (xP op m ks K tok) (SS dt n) ⟨[],[]⟩ rec) (Tm.mk op m (Tm.etaL ks)).enc:=by
 have hno:¬ ((ks.length:Int)<ks.length):=by omega
 have h4:¬ op=4:=fun h'=>h (.inl h');have h7:¬ op=7:=fun h'=>h (.inr h');rw [An];rcases hK with ⟨rfl,rfl,rfl⟩ | ⟨hne,rfl,rfl⟩
 ·simp only [↓Ub,↓XX,XY,↓reduceIte,seval,hno,h4,h7];exact Bp rfl _
 ·rw [UP op h];simp only [↓Ub,↓XX,XY,↓reduceIte,seval,hno,h4,h7];exact Bp rfl _
def qE {n:Nat} {m:Int} {ks:List Tm} {a b:Tm} (rec:List IV->Hp->Option (IV×Hp)) (h3:ks.length=3) (hn:a.wt+10<n) (haw:a.wt<=100000000) (hka:a.op=8->∃x,a.kids=[x]) (hkb:b.op=9->∃y,b.kids=[y]) :
  BC (Ia [.ptr (.own 63963136) 0,.ptr (.own 63963137) 0,.ptr (.own 63964165) 0,iv ks.length] (xP 7 m ks (.app (.own 63971332) ([AX,a,b].map Tm.enc)) [(63971332,.tok ks.length 3)]) (SS dt n) ⟨[],[]⟩ rec) (YR (.mk 7 m [AX,a,b])).enc:=by
 have hno:¬ ((ks.length:Int)<ks.length):=by omega
 have hze:AX.enc=.agg [.int .i64 11,.int .i64 0,.sl []]:=rfl;obtain ⟨o1,n1,k1⟩:=a;obtain ⟨o2,n2,k2⟩:=b;by_cases h8:o1=8
 ·by_cases h9:o2=9
  ·subst h8 h9;obtain ⟨x,hx⟩:=hka rfl;obtain ⟨y,hy⟩:=hkb rfl;simp only [Tm.kids] at hx hy;subst hx hy;simp only [Tm.wt,Tm.wtL] at hn haw;have hs:=Lz n x y (by omega) (by omega);rw [YR];generalize x.same y=v at hs;obtain ⟨o3,n3,k3⟩:=x;obtain ⟨o4,n4,k4⟩:=y;simp only [An] at hs;cases v
   ·rw [if_neg (by simp)];simp only [An,hze,Ah5,Ah4];simp only [↓Ub,↓XX,XY,↓reduceIte,seval,hno,↓Jy,↓El,↓EH,↓Gd,↓Ag hs];exact Bp rfl _
   ·rw [if_pos ⟨rfl,rfl,rfl⟩];simp only [An,hze,Ah5,Ah4];simp only [↓Ub,↓XX,XY,↓reduceIte,seval,hno,↓Jy,↓El,↓EH,↓Gd,↓Ag hs];exact Ay _ _
  ·rw [PZ (by simp [Tm.op,h9])];simp only [An,hze,Ah5,Ah4];simp only [↓Ub,↓XX,XY,↓reduceIte,seval,hno,↓Jy,↓El,↓EH,↓Gd,h8,h9];exact Bp rfl _
 ·rw [PZ (by simp [Tm.op,h8])];simp only [An,hze,Ah5,Ah4];simp only [↓Ub,↓XX,XY,↓reduceIte,seval,hno,↓Jy,↓El,↓EH,↓Gd,h8];exact Bp rfl _
def uR {n:Nat} {m:Int} {ks:List Tm} {b:Tm} {K:Nat} (rec:List IV->Hp->Option (IV×Hp)) (h3:ks.length=2) (hn:b.wt+20<n) (hbw:b.wt<=100000000) (hs:b.sc K) :
  BC (Ia [.ptr (.own 63963136) 0,.ptr (.own 63963137) 0,.ptr (.own 63964165) 0,iv ks.length] (xP 4 m ks (.app (.own 63971332) ([AX,b].map Tm.enc)) [(63971332,.tok ks.length 3)]) (SS dt n) ⟨[],[]⟩ rec) (YU (.mk 4 m [AX,b])).enc:=by
 have hno:¬ ((ks.length:Int)<ks.length):=by omega
 have hze:AX.enc=.agg [.int .i64 11,.int .i64 0,.sl []]:=rfl;have hwk:=C5 b K hs;obtain ⟨o1,n1,k1⟩:=b;by_cases h5:o1=5
 ·subst h5;have hl2:=FY hs rfl (show ar 5=some 2 by decide)
  simp only [Tm.kids] at hl2
  match k1,hl2 with
  | [f,x],_ =>
  rw [Tm.sc] at hs;have hsf:=hs.2.2.1;have hsx:=hs.2.2.2.1;simp only [Tm.wt,Tm.wtL] at hn hbw;rw [Tm.wk] at hwk;have hfw:f.wk:=Kc hwk.2 (by simp);have hv0:=jG (n:=n) (by omega) 0;have hsame:=Lz n x (.mk 1 0 []) (by omega) (by omega);have hfree:=XF n f 0 (by omega) (by omega) (by omega) (by omega);have h0:=AY (n:=n) (by omega) 11;have hsub:=L6 (n:=n) f AX 0 (by simp [AX,Tm.wk,Tm.wkL]) (by simp [AX,Tm.wt,Tm.wtL]) (by simp only [AX,Tm.wt,Tm.wtL];omega) hfw (by omega) (by omega) (by omega);obtain ⟨o2,n2,k2⟩:=x;have hx:(Tm.mk o2 n2 k2).same (.mk 1 0 [])=(decide (o2=1) && decide (n2=0)):=by
   rw [Tm.same];by_cases h1:o2=1
   ·subst h1;have hk2:k2.length=0:=by
     have:=FY hsx rfl (show ar 1=some 0 by decide)
     simpa [Tm.kids] using this
    have hk3:k2=[]:=List.length_eq_zero_iff.1 hk2;subst hk3;simp [Tm.sameL]
   ·simp [h1]
  rw [hx] at hsame;rw [YU];generalize hr:f.subst 0 0 AX=u at hsub;generalize f.free 0=fr at hfree;obtain ⟨o4,n4,k4⟩:=u;obtain ⟨o3,n3,k3⟩:=f;rw [hze] at hsub;simp only [An,Ah4] at hfree hsub hv0 hsame h0;by_cases h1:o2=1
  ·by_cases h2:n2=0
   ·rw [h1,h2] at hsame;simp only [decide_true,Bool.and_self] at hsame;cases fr
    ·rw [if_pos ⟨rfl,h1,h2,rfl⟩];simp only [An,hze,Ah5,Ah4];simp only [↓Ub,↓XX,XY,↓reduceIte,seval,hno,↓Jy,↓El,↓EH,↓Gd,h1,h2,↓Ar hv0,↓Ag hsame,↓Ag hfree,↓Ag h0,↓Av hsub];exact Ay _ _
    ·rw [if_neg (by simp)];simp only [An,hze,Ah5,Ah4];simp only [↓Ub,↓XX,XY,↓reduceIte,seval,hno,↓Jy,↓El,↓EH,↓Gd,h1,h2,↓Ar hv0,↓Ag hsame,↓Ag hfree];exact Bp rfl _
   ·rw [if_neg (by simp [h2])];rw [h1,decide_eq_true (rfl:(1:Int)=1),decide_eq_false h2,Bool.and_false] at hsame;simp only [An,hze,Ah5,Ah4];simp only [↓Ub,↓XX,XY,↓reduceIte,seval,hno,↓Jy,↓El,↓EH,↓Gd,h1,↓Ar hv0,↓Ag hsame];exact Bp rfl _
  ·rw [if_neg (by simp [h1])];rw [decide_eq_false h1,Bool.false_and] at hsame;simp only [An,hze,Ah5,Ah4];simp only [↓Ub,↓XX,XY,↓reduceIte,seval,hno,↓Jy,↓El,↓EH,↓Gd,↓Ar hv0,↓Ag hsame];exact Bp rfl _
 ·rw [ZA (by simpa [Tm.op] using h5)];simp only [An,hze,Ah5,Ah4];simp only [↓Ub,↓XX,XY,↓reduceIte,seval,hno,↓Jy,↓El,↓EH,↓Gd,h5];exact Bp rfl _
theorem Lm:∀(n:Nat) (t:Tm) (k:Nat),t.sc k->2 * t.wt+40<n->k+2 * t.wt<=90000000->BC (SS dt n 61 [.fv t.enc] ⟨[],[]⟩) t.eta.enc:=by
 intro n
 induction n with
 | zero=>intro t k _ h;omega
 | succ n ih =>
  intro t k hs hn hw;have hwk:=C5 t k hs;obtain ⟨op,m,ks⟩:=t;rw [Tm.sc] at hs;rw [Tm.wk] at hwk;simp only [Tm.wt] at hn hw;have hlen:=Dq ks;have hkd:=etaL_sc op 0 ks k hs.2.2 (by omega);have hdl:=MG ks;refine XZ hwk.1 (by omega) (fun x hx=>?_) (fun K tok rec hK=>?_)
  ·have hxw:=Cb hx;obtain ⟨i,hi⟩:=List.getElem?_of_mem hx;have hxs:=Hu hs.2.2 hi;have hble:=A0 op (0+i);exact ih x _ hxs (by omega) (by omega)
  ·rw [Tm.eta];by_cases h4:op=4
   ·subst h4;rw [if_pos rfl];have h2:ks.length=2:=by have:=hs.1;rw [show ar 4=some 2 by decide] at this;simp only [AhZ] at this;omega
    have hne:ks≠[]:=by intro h;rw [h] at h2;cases h2
    rw [WF 4 (.inl rfl)] at hK;rcases hK with ⟨h,_⟩ | ⟨_,rfl,rfl⟩
    ·exact absurd h hne
    ·generalize Tm.etaL ks=D at hkd hdl;have hd2:D.length=2:=by omega
     match D,hd2,hkd with
     | [a,b],_,hkd =>simp only [Tm.scL,Tm.wtL] at hkd;exact uR rec h2 (by omega) (by omega) hkd.1.2.1
   ·rw [if_neg h4];by_cases h7:op=7
    ·subst h7;rw [if_pos rfl];have h2:ks.length=3:=by have:=hs.1;rw [show ar 7=some 3 by decide] at this;simp only [AhZ] at this;omega
     have hne:ks≠[]:=by intro h;rw [h] at h2;cases h2
     rw [WF 7 (.inr rfl)] at hK;rcases hK with ⟨h,_⟩ | ⟨_,rfl,rfl⟩
     ·exact absurd h hne
     ·generalize Tm.etaL ks=D at hkd hdl;have hd2:D.length=3:=by omega
      match D,hd2,hkd with
      | [a,b,c],_,hkd =>
       simp only [Tm.scL,Tm.wtL] at hkd;refine qE rec h2 (by omega) (by omega) (fun h5=>?_) (fun h5=>?_)
       ·have:=FY hkd.1.2.1 h5 (show ar 8=some 1 by decide)
        match hbk:b.kids,this with
        | [f],_=>exact ⟨f,rfl⟩
       ·have:=FY hkd.1.2.2.1 h5 (show ar 9=some 1 by decide)
        match hbk:c.kids,this with
        | [f],_=>exact ⟨f,rfl⟩
    ·rw [if_neg h7];exact SC (by omega) rec hK
mutual
def Tm.count:Tm->Int->Int
 | .mk _ _ l,most=>Tm.countL l 1 most
def Tm.countL:List Tm->Int->Int->Int
 | [],n,_=>n
 | t::l,n,most=>if n<most then Tm.countL l (n+t.count (most - n)) most else n
end
mutual
theorem QP:∀(t:Tm) (m:Int),1<=t.count m/\(1<=m->t.count m<=m)
 | .mk _ _ l,m=>by
  have:=countL_le l 1 m
  simp only [Tm.count];omega
theorem countL_le:∀(l:List Tm) (n m:Int),n<=Tm.countL l n m/\(n<=m->Tm.countL l n m<=m)
 | [],n,m=>by simp only [Tm.countL];omega
 | t::l,n,m=>by
  simp only [Tm.countL];split
  ·have h1:=QP t (m - n);have h2:=countL_le l (n+t.count (m - n)) m;omega
  ·omega
end
theorem Zh:∀(n:Nat) (t:Tm) (most:Int),t.wt<n->most<=4611686018427387904->-4611686018427387904<=most->BC (SS dt n 40 [.fv t.enc,iv most] ⟨[],[]⟩) (.int .i64 (t.count most)):=by
 intro n
 induction n with
 | zero=>intro t most h;omega
 | succ n ih =>
  intro t most h hm hm';obtain ⟨op,m,ks⟩:=t;simp only [Tm.wt] at h;rw [c40,An];simp only [L0,xL,↓XX,XY,↓reduceIte,seval,Tm.count];refine Be (Q:=fun r=>BC r _) (fun k V H=>∃rest pre acc,ks=pre++rest/\rest.length=k/\(pre.length:Int)<acc/\(acc<=1\/acc<=most)/\V=[iv most,.ptr (.own 41943040) 0,iv acc,iv pre.length] /\
   H=⟨[(41943040,.row [iv op,iv m,.fv (.sl (ks.map Tm.enc))] false)],[]⟩/\Tm.countL rest acc most=Tm.countL ks 1 most) ?_ n ks.length _ _ (by have:=Dq ks;omega) ⟨ks,[],1,rfl,rfl,by simp,.inl (by omega),rfl,rfl,rfl⟩
  rintro k V H rec ⟨rest,pre,acc,hk,hl,hpre,hacc,rfl,rfl,ht⟩ hrec;have hlen:ks.length=pre.length+rest.length:=by rw [hk];simp
  cases rest with
  | nil =>
   rw [<- ht];simp only [L0,Pq,xL,↓XX,XY,↓reduceIte,seval,List.length_map,show ¬ ((pre.length:Int)<ks.length) by simp [hlen],Tm.countL]
   exact Ay _ _
  | cons t rest =>
   have hi:(pre.length:Int)<ks.length:=by rw [hlen];simp;omega
   by_cases ha:acc<most
   ·have hg:=B2 hk;obtain ⟨o,p,l⟩:=t;have hb:=QP (.mk o p l) (most - acc);have hc:=ih (.mk o p l) (most - acc) (by have:=Cb (t:=.mk o p l) (l:=ks) (by rw [hk];simp);omega) (by omega) (by omega);rw [An] at hc;simp only [L0,Pq,xL,↓XX,XY,↓reduceIte,seval,List.length_map,hi,ha,↓Br (AO hg) (Bm _ _ _),↓Cd,Az (show -9223372036854775808<=most - acc by omega) (show most - acc<=9223372036854775807 by omega),↓Ag hc,
     Az (show -9223372036854775808<=acc+(Tm.mk o p l).count (most - acc) by omega) (show acc+(Tm.mk o p l).count (most - acc)<=9223372036854775807 by omega),Az (show -9223372036854775808<=(pre.length:Int)+1 by omega) (show (pre.length:Int)+1<=9223372036854775807 by omega)]
    simp only [Ah3] at hl;refine hrec rest.length _ _ (by omega) ?_;refine ⟨rest,pre++[.mk o p l],acc+(Tm.mk o p l).count (most - acc),by rw [hk];simp,rfl,by simp;omega,.inr (by omega),by simp,rfl,?_⟩;rw [<- ht];simp only [Tm.countL,if_pos ha]
   ·rw [<- ht];simp only [L0,Pq,xL,↓XX,XY,↓reduceIte,seval,List.length_map,hi,ha,Tm.countL];exact Ay _ _
def Qw {n:Nat} (t:Tm) (h:t.wt<n):BC (SS dt (n+1) 13 [.fv t.enc] ⟨[],[]⟩) (.bool (decide (t.count 300<300))):=by rw [c13];have hc:=Zh n t 300 h (by omega) (by omega);obtain ⟨op,m,ks⟩:=t;rw [An] at hc ⊢;simp only [S13,↓XX,XY,↓reduceIte,seval,↓Ag hc];exact Ay _ _
def Tm.plainT:Nat->Tm->Tm
 | 0,_=>.mk 15 0 []
 | d+1,r=>if r.n % 4<2 then .mk 15 0 [] else .mk (16+r.n % 4 - 2) 0 [plainT d (r.pick 0),plainT d (r.pick 1)]
theorem KO:∀(d n:Nat) (r:Tm),d+1<n->d<=1000->BC (SS dt n 41 [.fv r.enc,iv d] ⟨[],[]⟩) (r.plainT d).enc:=by
 intro d
 induction d with
 | zero =>intro n r hn _;obtain ⟨n,rfl⟩:=psc n (by omega);rw [c41];have hw:=Ax (n:=n) (by omega) r.n (m:=4) (by omega) (by omega);obtain ⟨op,m,ks⟩:=r;rw [An];simp only [Tm.n] at hw;simp only [Qe,S41,↓XX,XY,↓reduceIte,seval,↓Ag hw,↓Ag (AY (n:=n) (by omega) 15),Tm.plainT,An];exact Bp rfl _
 | succ d ih =>
  intro n r hn hd;obtain ⟨n,rfl⟩:=psc n (by omega);rw [c41];have hw:=Ax (n:=n) (by omega) r.n (m:=4) (by omega) (by omega);have h0:=ih n (r.pick 0) (by omega) (by omega);have h1:=ih n (r.pick 1) (by omega) (by omega);have p0:=AV (n:=n) (by omega) r 0;have p1:=AV (n:=n) (by omega) r 1;have ht:=CO (n:=n) (by omega) (16+r.n % 4 - 2) [(r.pick 0).plainT d,(r.pick 1).plainT d];have hb0:¬ ((d+1:Nat):Int)<=0:=by omega
  have hm:BF (((d+1:Nat):Int) - 1)=d:=by rw [Az]<;>omega
  have hr:=Int.emod_nonneg r.n (show (4:Int)≠0 by decide)
  have hr2:=Int.emod_lt_of_pos r.n (show (0:Int)<4 by decide)
  have e1:BF (16+r.n % 4)=16+r.n % 4:=by rw [Az]<;>omega
  have e2:BF (16+r.n % 4 - 2)=16+r.n % 4 - 2:=by rw [Az]<;>omega
  simp only [Ah5,Ah4] at ht;rw [Tm.plainT];obtain ⟨op,m,ks⟩:=r;rw [An] at p0 p1 ⊢;simp only [Tm.n] at *;by_cases hk:m % 4<2
  ·simp only [Qe,S41,↓XX,XY,↓reduceIte,seval,↓Ag hw,Tm.n,↓Ag (AY (n:=n) (by omega) 15),hb0,hk,An];exact Bp rfl _
  ·simp only [Qe,S41,↓XX,XY,↓reduceIte,seval,↓Ag hw,hb0,hk,e1,e2,hm,↓Ag p0,↓Ag p1,↓Ag h0,↓Ag h1,↓xF,↓Ag ht];simp only [↓XX,XY,↓reduceIte,seval,An];exact Bp rfl _
theorem Ff:∀(d:Nat) (r:Tm),(r.plainT d).wt<=2 ^ (d+1) - 1
 | 0,r=>by simp [Tm.plainT,Tm.wt,Tm.wtL]
 | d+1,r=>by
  have h1:=Ff d (r.pick 0);have h2:=Ff d (r.pick 1);have h3:0<2 ^ (d+1):=Nat.pow_pos (by decide);simp only [Tm.plainT];split
  ·simp only [Tm.wt,Tm.wtL,Nat.pow_succ] at *;omega
  ·simp only [Tm.wt,Tm.wtL,Nat.pow_succ] at *;omega
theorem IG {op n:Int} {k:Nat} (h:ar op=some 0) (h1:op≠1) (hn:BY op n):(Tm.mk op n []).sc k:=by rw [Tm.sc];exact ⟨h,by rw [if_neg h1];exact hn,trivial⟩
theorem qS {op n:Int} {k:Nat} {a:Tm} (h:ar op=some 1) (h1:op≠1) (hn:BY op n) (ha:a.sc (k+Al op 0)):(Tm.mk op n [a]).sc k:=by rw [Tm.sc];exact ⟨h,by rw [if_neg h1];exact hn,ha,trivial⟩
theorem d5 {op n:Int} {k:Nat} {a b:Tm} (h:ar op=some 2) (h1:op≠1) (hn:BY op n) (ha:a.sc (k+Al op 0)) (hb:b.sc (k+Al op 1)):(Tm.mk op n [a,b]).sc k:=by rw [Tm.sc];exact ⟨h,by rw [if_neg h1];exact hn,ha,hb,trivial⟩
theorem wO {op n:Int} {k:Nat} {a b c:Tm} (h:ar op=some 3) (h1:op≠1) (hn:BY op n) (ha:a.sc (k+Al op 0)) (hb:b.sc (k+Al op 1)) (hc:c.sc (k+Al op 2)):(Tm.mk op n [a,b,c]).sc k:=by rw [Tm.sc];exact ⟨h,by rw [if_neg h1];exact hn,ha,hb,hc,trivial⟩
theorem tG {op n:Int} {k:Nat} {a b c d:Tm} (h:ar op=some 4) (h1:op≠1) (hn:BY op n) (ha:a.sc (k+Al op 0)) (hb:b.sc (k+Al op 1)) (hc:c.sc (k+Al op 2)) (hd:d.sc (k+Al op 3)):(Tm.mk op n [a,b,c,d]).sc k:=by rw [Tm.sc];exact ⟨h,by rw [if_neg h1];exact hn,ha,hb,hc,hd,trivial⟩
theorem uX {n:Int} {k:Nat} (h:0<=n) (h2:n<k):(Tm.mk 1 n []).sc k:=by rw [Tm.sc];exact ⟨by decide,by rw [if_pos rfl];exact ⟨h,h2⟩,trivial⟩
theorem Nd {op:Int} (h2:op≠2) (h26:op≠26) (h25:op≠25):BY op 0:=by rw [BY,if_neg h2,if_neg h26,if_neg h25]
theorem C3 {op:Int} {k:Nat} (h:ar op=some 0/\op≠1/\op≠2/\op≠26/\op≠25:=by decide):(Tm.mk op 0 []).sc k:=IG h.1 h.2.1 (Nd h.2.2.1 h.2.2.2.1 h.2.2.2.2)
theorem FO {op:Int} {k:Nat} {a:Tm} (ha:a.sc (k+Al op 0)) (h:ar op=some 1/\op≠1/\op≠2/\op≠26/\op≠25:=by decide):(Tm.mk op 0 [a]).sc k:=qS h.1 h.2.1 (Nd h.2.2.1 h.2.2.2.1 h.2.2.2.2) ha
theorem CR {op:Int} {k:Nat} {a b:Tm} (ha:a.sc (k+Al op 0)) (hb:b.sc (k+Al op 1)) (h:ar op=some 2/\op≠1/\op≠2/\op≠26/\op≠25:=by decide):(Tm.mk op 0 [a,b]).sc k:=d5 h.1 h.2.1 (Nd h.2.2.1 h.2.2.2.1 h.2.2.2.2) ha hb
theorem cQ {op:Int} {k:Nat} {a b c:Tm} (ha:a.sc (k+Al op 0)) (hb:b.sc (k+Al op 1)) (hc:c.sc (k+Al op 2)) (h:ar op=some 3/\op≠1/\op≠2/\op≠26/\op≠25:=by decide):(Tm.mk op 0 [a,b,c]).sc k:=wO h.1 h.2.1 (Nd h.2.2.1 h.2.2.2.1 h.2.2.2.2) ha hb hc
theorem Aaa {op:Int} {k:Nat} {a b c d:Tm} (ha:a.sc (k+Al op 0)) (hb:b.sc (k+Al op 1)) (hc:c.sc (k+Al op 2)) (hd:d.sc (k+Al op 3)) (h:ar op=some 4/\op≠1/\op≠2/\op≠26/\op≠25:=by decide):(Tm.mk op 0 [a,b,c,d]).sc k:=tG h.1 h.2.1 (Nd h.2.2.1 h.2.2.2.1 h.2.2.2.2) ha hb hc hd
theorem w6 (k:Nat):Tm.z.sc k:=C3
theorem cR (k:Nat):∀n,(GQ n).sc k
 | 0=>C3
 | n+1=>FO (cR _ n)
theorem Gx (k:Nat):∀(d:Nat) (r:Tm),(r.plainT d).sc k
 | 0,r=>by rw [Tm.plainT];exact C3
 | d+1,r=>by
  have h1:=Int.emod_nonneg r.n (show (4:Int)≠0 by decide)
  have h2:=Int.emod_lt_of_pos r.n (show (0:Int)<4 by decide)
  rw [Tm.plainT];split
  ·exact C3
  ·have h3:16+r.n % 4 - 2=16\/16+r.n % 4 - 2=17:=by omega
   rcases h3 with h3 | h3<;>(rw [h3];exact CR (Gx _ d _) (Gx _ d _))
mutual
theorem Dz:∀t:Tm,t.dp<=t.wt
 | .mk op n l=>by
  have:=dpL_wt l
  simp only [Tm.dp,Tm.wt];omega
theorem dpL_wt:∀l:List Tm,Tm.dpL l<=Tm.wtL l
 | []=>by simp [Tm.dpL]
 | t::l=>by
  have h1:=Dz t;have h2:=dpL_wt l;simp only [Tm.dpL,Tm.wtL];omega
end
abbrev A8:=List (Int×Tm)
def v1 (p:Int×Tm):FV:=.agg [.int .i64 p.1,.int .i64 p.2.op,.int .i64 p.2.n,.sl (p.2.kids.map Tm.enc)]
def AM (g:A8):FV:=.sl (g.map v1)
structure GOk (e:Nat) (g:A8):Prop where
 len:g.length+2 * e<=60
 ok:∀(i:Nat) (p:Int×Tm),g[i]?=some p->p.2.sc i/\p.2.wt<=100000000000/\p.2.dp<=6000
theorem Ba {e e':Nat} {g:A8} (h:e'<=e) (hg:GOk e g):GOk e' g:=⟨by have:=hg.len;omega,hg.ok⟩
theorem Dh {e:Nat} {g:A8} {s:Int} {a:Tm} (hg:GOk (e+1) g) (h1:a.sc g.length) (h2:a.wt<=100000000000) (h3:a.dp<=6000):GOk e (g++[(s,a)]):=by
 refine ⟨by have:=hg.len;simp;omega,?_⟩;intro i p hp;by_cases hi:i<g.length
 ·rw [Ah9 hi] at hp;exact hg.ok i p hp
 ·rw [Ah8 (by omega)] at hp;have hi2:i - g.length=0:=by
   cases h:i - g.length with
   | zero=>rfl
   | succ j=>rw [h] at hp;simp at hp
  rw [hi2] at hp;simp only [Aib,AhZ] at hp;subst hp;rw [show i=g.length by omega]
  exact ⟨h1,h2,h3⟩
def Wg (e:Nat):Nat:=8000 * 4 ^ e
def Dg (e:Nat):Nat:=200+10 * e
theorem Ld (e:Nat):Wg (e+1)=4 * Wg e:=by unfold Wg;rw [Nat.pow_succ];omega
theorem La (e:Nat):8000<=Wg e:=by
 have:1<=4 ^ e:=Nat.one_le_pow _ _ (by decide)
 unfold Wg;omega
theorem PX {e e':Nat} (h:e<=e'):Wg e<=Wg e':=by unfold Wg;exact Nat.mul_le_mul_left _ (Nat.pow_le_pow_right (by decide) h)
theorem Me {e:Nat} (h:e<=10):Wg e<=21000000000:=Nat.le_trans (PX h) (by decide)
structure TOk (k e:Nat) (t:Tm):Prop where
 sc:t.sc k
 wt:t.wt<=Wg e
 dp:t.dp<=Dg e
theorem R9 {k e e':Nat} {t:Tm} (h:e<=e') (ht:TOk k e t):TOk k e' t:=⟨ht.sc,Nat.le_trans ht.wt (PX h),by have:=ht.dp;unfold Dg at *;omega⟩
structure AOk (k:Nat) (a:Tm):Prop where
 sc:a.sc k
 wt:a.wt<=1000000000000000
 dp:a.dp<=10000
structure NOk (k:Nat) (a:Tm):Prop where
 sc:a.sc k
 wt:a.wt<=3000
 dp:a.dp<=120
theorem BV {k:Nat} {a:Tm} (h:NOk k a):AOk k a:=⟨h.sc,by have:=h.wt;omega,by have:=h.dp;omega⟩
def Tm.badR:Tm->Bool
 | .mk op _ [_,z,_,_]=>decide (op=13) && (decide (z.op=19) || z.badR)
 | _=>false
theorem lU {t:Tm} (h:t.badR=true):t.op=13:=by
 unfold Tm.badR at h;split at h
 ·rename_i he;simp only [Bool.and_eq_true,decide_eq_true_eq] at h;exact h.1
 ·cases h
def yN (op n:Int) (ks:List Tm):Prop :=
 ar op=some ks.length/\(op=1->0<=n/\n<=1000000)/\(op=13->n=0)/\(op=5->∃m a b x,ks=[.mk 4 m [a,b],x])/\(op=8\/op=9->∃m a x y,ks=[.mk 7 m [a,x,y]]) /\
 (op=19->∀x∈ks,x.op≠19/\x.op≠13)/\(op=30->∀x∈ks,x.op≠30)/\(op=13->∀a b c d,ks=[a,b,c,d]->b.op≠30/\(d.op≠19/\d.op≠30)/\d.badR=false)
mutual
def Tm.good:Tm->Prop
 | .mk op n ks=>yN op n ks/\Tm.goodL ks
def Tm.goodL:List Tm->Prop
 | []=>True
 | t::l=>t.good/\Tm.goodL l
end
theorem OA:∀{l:List Tm} {t:Tm},Tm.goodL l->t∈l->t.good
 | x::l,t,h,hm=>by
  rw [Tm.goodL] at h;rcases List.mem_cons.1 hm with rfl | hm
  ·exact h.1
  ·exact OA h.2 hm
theorem Gk (ev:Int->Int->Tm->Option (RV×Int×Int)) (hev:∀s e t v s',ev s e t=some (v,s',0)->e=0) (op:Int) (env:List RV):∀(l:List Tm) (i:Nat) (s e:Int) (vs:List RV) (s':Int),A7 ev op env i l s e=some (vs,s',0)->e=0
 | [],i,s,e,vs,s',h=>by
  simp only [A7,AhZ,Ah0] at h;exact h.2.2
 | t::l,i,s,e,vs,s',h=>by
  simp only [A7] at h;split at h
  ·cases hk:A7 ev op env (i+1) l s e with
   | none=>rw [hk] at h;cases h
   | some q =>obtain ⟨vs1,s1,e1⟩:=q;rw [hk] at h;simp only [Ah2,AhZ,Ah0] at h;rw [h.2.2] at hk;exact Gk ev hev op env l _ _ _ _ _ hk
  ·split at h
   ·cases h
   ·rename_i v s1 e1 he;cases hk:A7 ev op env (i+1) l s1 e1 with
    | none=>rw [hk] at h;cases h
    | some q =>
     obtain ⟨vs2,s2,e2⟩:=q;rw [hk] at h;simp only [Ah2,AhZ,Ah0] at h;rw [h.2.2] at hk
     have:=Gk ev hev op env l _ _ _ _ _ hk
     rw [this] at he;exact hev _ _ _ _ _ he
theorem Cq {f:Nat} {s e:Int} {t:Tm} {env:List RV} {v:RV} {s':Int} (h:AC f s e t env=some (v,s',0)):e=0:=by
 cases f with
 | zero=>rw [AC] at h;cases h
 | succ f =>
  obtain ⟨op,n,ks⟩:=t;rw [AC] at h;by_cases he:e=0
  ·exact he
  ·rw [if_pos he] at h;simp only [AhZ,Ah0] at h;exact h.2.2
theorem Gg {f:Nat} {s e:Int} {w v:RV} {s':Int} (h:headR f s e w=some (v,s',0)):e=0:=by
 cases f with
 | zero=>rw [headR] at h;cases h
 | succ f =>
  rw [headR] at h;by_cases he:e=0
  ·exact he
  ·rw [if_pos he] at h;simp only [AhZ,Ah0] at h;exact h.2.2
theorem FD {α:Type} {l:List α} (h:l.length=1):∃a,l=[a]:=by
 match l,h with
 | [a],_=>exact ⟨a,rfl⟩
theorem QN {α:Type} {l:List α} (h:l.length=2):∃a b,l=[a,b]:=by
 match l,h with
 | [a,b],_=>exact ⟨a,b,rfl⟩
theorem AeW {α:Type} {l:List α} (h:l.length=3):∃a b c,l=[a,b,c]:=by
 match l,h with
 | [a,b,c],_=>exact ⟨a,b,c,rfl⟩
theorem TE {α:Type} {l:List α} (h:l.length=4):∃a b c d,l=[a,b,c,d]:=by
 match l,h with
 | [a,b,c,d],_=>exact ⟨a,b,c,d,rfl⟩
theorem OL {f:Nat} {s s2 m:Int} {a b:Tm} {env:List RV} {r:RV} (h:AC f s 0 (.mk 4 m [a,b]) env=some (r,s2,0)):∃va,r=.node 4 m [va,.clo env b]:=by
 cases f with
 | zero=>rw [AC] at h;cases h
 | succ f =>
  rw [AC] at h;rw [if_neg (by simp)] at h;split at h
  ·cases h
  rw [if_neg (by decide)] at h;split at h
  ·cases h
  split at h
  ·cases h
  split at h
  ·cases h
  rename_i vs s1 e1 hk;have he:=Gg h;subst he;simp only [A7] at hk;rw [if_neg (by decide)] at hk;split at hk
  ·cases hk
  rename_i va s3 e3 hva;rw [if_pos (by decide)] at hk;simp only [Ah2,AhZ,Ah0] at hk;obtain ⟨rfl,rfl,rfl⟩:=hk;cases f with
  | zero=>rw [headR] at h;cases h
  | succ f =>
   rw [headR] at h;rw [if_neg (by simp)] at h;split at h
   ·cases h
   have hop:(RV.node 4 m [va,.clo env b]).op=4:=rfl;rw [hop,if_neg (by decide),if_neg (by decide),if_neg (by decide),if_neg (by decide),if_neg (by decide)] at h;simp only [AhZ,Ah0] at h;exact ⟨va,h.1.symm⟩
theorem Zw {f:Nat} {s s2 m:Int} {a x y:Tm} {env:List RV} {r:RV} (h:AC f s 0 (.mk 7 m [a,x,y]) env=some (r,s2,0)):∃va vx vy,r=.node 7 m [va,vx,vy]:=by
 cases f with
 | zero=>rw [AC] at h;cases h
 | succ f =>
  rw [AC] at h;rw [if_neg (by simp)] at h;split at h
  ·cases h
  rw [if_neg (by decide)] at h;split at h
  ·cases h
  split at h
  ·cases h
  split at h
  ·cases h
  rename_i vs s1 e1 hk;have he:=Gg h;subst he;have hl:∃va vx vy,vs=[va,vx,vy]:=by
   simp only [A7] at hk;rw [if_neg (by decide)] at hk;split at hk
   ·cases hk
   rename_i va s3 e3 hva;rw [if_neg (by decide)] at hk;split at hk
   ·cases hk
   rename_i vx s4 e4 hvx;rw [if_neg (by decide)] at hk;split at hk
   ·cases hk
   rename_i vy s5 e5 hvy;simp only [Ah2,AhZ,Ah0] at hk;exact ⟨va,vx,vy,hk.1.symm⟩
  obtain ⟨va,vx,vy,rfl⟩:=hl;cases f with
  | zero=>rw [headR] at h;cases h
  | succ f =>
   rw [headR] at h;rw [if_neg (by simp)] at h;split at h
   ·cases h
   have hop:(RV.node 7 m [va,vx,vy]).op=7:=rfl;rw [hop,if_neg (by decide),if_neg (by decide),if_neg (by decide),if_neg (by decide),if_neg (by decide)] at h;simp only [AhZ,Ah0] at h;exact ⟨va,vx,vy,h.1.symm⟩
theorem DL {f:Nat} {s nd e:Int} {v:RV} {u d:Int} {t:Tm} {s' nd':Int} (h:AT f s nd e v u d=some (t,s',nd',0)):e=0:=by
 cases f with
 | zero=>rw [AT] at h;cases h
 | succ f =>
  rw [AT] at h;split at h
  ·cases h
  by_cases he:e=0
  ·exact he
  ·rw [if_neg (show ¬ (e=0/\(3000<nd+1\/120<d)) from fun h=>he h.1),if_pos he] at h
   simp only [AhZ,Ah0] at h;exact h.2.2.2
abbrev Kt:=List (List Nat×Nat)
inductive Rule:Int->Nat->Kt->Prop
 | natT:Rule 10 10 []
 | natU:Rule 10 2 []
 | tyT:Rule 14 11 []
 | tyU:Rule 14 2 []
 | uT:Rule 2 12 []
 | uU:Rule 2 2 []
 | liftT:Rule 18 13 [([],1)]
 | liftU:Rule 18 2 [([],1)]
 | piT (a b:Nat) (ha:a<6) (hb:b<6):Rule 3 14 [([],10+a),([a],10+b)]
 | piU (a:Nat) (ha:a<10):Rule 3 2 [([],2),([a],2)]
 | sigT (a b:Nat) (ha:a<6) (hb:b<6):Rule 6 15 [([],10+a),([a],10+b)]
 | sigU (a s0 s1:Nat) (ha:a<10) (hs:s0=2/\s1=2\/10<=s0/\10<=s1):Rule 6 2 [([],s0),([a],s1)]
 | lam (a s s0:Nat) (ha:a<10):Rule 4 4 [([],s0),([a],s)]
 | pair (s0 s1 s2:Nat):Rule 7 5 [([],s0),([],s1),([],s2)]
 | zero:Rule 11 0 []
 | suc:Rule 12 0 [([],0)]
 | recR (s:Nat) (hs:s<6):Rule 13 s [([0],10+s),([],s),([s,0],s),([],0)]
 | tint:Rule 15 1 []
 | tfun:Rule 16 1 [([],1),([],1)]
 | tpro:Rule 17 1 [([],1),([],1)]
 | quo:Rule 19 3 [([],6)]
 | spl:Rule 30 6 [([],3)]
 | olam:Rule 20 6 [([],1),([6],6)]
 | oapp:Rule 21 6 [([],6),([],6)]
 | opair:Rule 22 6 [([],6),([],6)]
 | ofst:Rule 23 6 [([],6)]
 | osnd:Rule 24 6 [([],6)]
 | oint:Rule 25 6 []
 | oprim:Rule 26 6 [([],6),([],6)]
 | oif:Rule 27 6 [([],6),([],6),([],6)]
 | olet:Rule 28 6 [([],6),([6],6)]
 | ofix:Rule 29 6 [([],1),([6],6)]
def ED {op:Int} {s:Nat} {sg:Kt} (h:Rule op s sg):op≠1/\op≠5/\op≠8/\op≠9:=by cases h<;>decide
def GC {op:Int} {s:Nat} {sg:Kt} (h:Rule op s sg) {i:Nat} {bs:List Nat} {s':Nat} (hi:sg[i]?=some (bs,s')):bs.length=Al op i/\∀x∈bs,x<10:=by
 have hlt:=(Ah7.1 hi).1;have h4:i<4:=by cases h<;>simp only [Ah3,List.length_nil] at hlt<;>omega
 have hi4:i=0\/i=1\/i=2\/i=3:=by omega
 cases h<;>rcases hi4 with rfl | rfl | rfl | rfl<;>simp only [Aib,Aic,List.getElem?_nil,AhZ,Ah0,reduceCtorEq] at hi<;>(obtain ⟨rfl,rfl⟩:=hi;refine ⟨rfl,?_⟩;simp;try omega)
inductive HasT:List Nat->Tm->Nat->Prop
 | var (G:List Nat) (n:Int) (s:Nat) (h0:0<=n) (h:G[n.toNat]?=some s) (hs:s<10):HasT G (.mk 1 n []) s
 | node (G:List Nat) (op n:Int) (ks:List Tm) (s:Nat) (sg:Kt) (hr:Rule op s sg) (hl:ks.length=sg.length) (hk:∀(i:Nat) t bs s',ks[i]?=some t->sg[i]?=some (bs,s')->HasT (bs++G) t s'):HasT G (.mk op n ks) s
 | app (G:List Nat) (n m:Int) (a b x:Tm) (y s s0:Nat) (hs:s<10) (hy:y<10) (ha:HasT G a s0) (hb:HasT (y::G) b s) (hx:HasT G x y):HasT G (.mk 5 n [.mk 4 m [a,b],x]) s
 | fst (G:List Nat) (n m:Int) (a x y:Tm) (s s1 s0:Nat) (hs:s<10) (ha:HasT G a s0) (hx:HasT G x s) (hy:HasT G y s1):HasT G (.mk 8 n [.mk 7 m [a,x,y]]) s
 | snd (G:List Nat) (n m:Int) (a x y:Tm) (s s1 s0:Nat) (hs:s<10) (ha:HasT G a s0) (hx:HasT G x s1) (hy:HasT G y s):HasT G (.mk 9 n [.mk 7 m [a,x,y]]) s
theorem IS (op d c:Int):∀(l:List Tm) (i j:Nat),(Tm.shiftL op i l d c)[j]?=(l[j]?).map fun t=>t.shift d (c+Al op (i+j))
 | [],_,_=>by simp [Tm.shiftL]
 | t::l,i,0=>by simp [Tm.shiftL]
 | t::l,i,j+1=>by
  simp only [Tm.shiftL,Aic];rw [IS op d c l (i+1) j,show i+1+j=i+(j+1) by omega]
theorem MC (op n d:Int) (u:Tm):∀(l:List Tm) (i j:Nat),(Tm.substL op i l n d u)[j]?=(l[j]?).map fun t=>t.subst (n+Al op (i+j)) (d+Al op (i+j)) u
 | [],_,_=>by simp [Tm.substL]
 | t::l,i,0=>by simp [Tm.substL]
 | t::l,i,j+1=>by
  simp only [Tm.substL,Aic];rw [MC op n d u l (i+1) j,show i+1+j=i+(j+1) by omega]
theorem Ix:∀{l:List Tm} {j:Nat} {t:Tm},l[j]?=some t->t.wt<=Tm.wtL l
 | [],_,_,h=>by simp at h
 | x::l,0,t,h=>by
  simp only [Aib,AhZ] at h;subst h;simp only [Tm.wtL];omega
 | x::l,j+1,t,h=>by
  simp only [Aic] at h
  have:=Ix h
  simp only [Tm.wtL];omega
def nK {G1 D G2:List Nat} {n:Nat} (h:G1.length<=n):(G1++D++G2)[n+D.length]?=(G1++G2)[n]?:=by rw [List.append_assoc,Ah8 (by omega),Ah8 (by omega),Ah8 h];congr 1;omega
def nJ {G1 D G2:List Nat} {n:Nat} (h:n<G1.length):(G1++D++G2)[n]?=(G1++G2)[n]?:=by rw [List.append_assoc,Ah9 h,Ah9 h]
theorem SQ {G:List Nat} {t:Tm} {s:Nat} (h:HasT G t s):∀(G1 D G2:List Nat),G=G1++G2->G1.length+G2.length+D.length+2 * t.wt<=9000000000000000000->HasT (G1++D++G2) (t.shift D.length G1.length) s:=by
 induction h with
 | var G n s h0 h hs =>
  intro G1 D G2 hG hb;subst hG;have hn:n.toNat<(G1++G2).length:=(Ah7.1 h).1;rw [List.length_append] at hn;rw [Tm.shift,Tm.shiftL];by_cases hc:(G1.length:Int)<=n
  ·rw [if_pos ⟨rfl,hc⟩,Az (by omega) (by omega)];refine HasT.var _ _ _ (by omega) ?_ hs;rw [show (n+(D.length:Int)).toNat=n.toNat+D.length by omega,nK (by omega)]
   exact h
  ·rw [if_neg (fun h=>hc h.2)];refine HasT.var _ _ _ h0 ?_ hs;rw [nJ (by omega)];exact h
 | node G op n ks s sg hr hl hk ih =>
  intro G1 D G2 hG hb;rw [Tm.shift,if_neg (fun h=>(ED hr).1 h.1)];refine HasT.node _ _ _ _ _ sg hr (by rw [Eh];exact hl) ?_;intro i t bs s' ht hs;rw [IS,Nat.zero_add] at ht;cases hx:ks[i]? with
  | none=>rw [hx] at ht;cases ht
  | some x =>
   rw [hx] at ht;simp only [Ah2,AhZ] at ht;subst ht;have h1:=GC hr hs;have h2:=A0 op i;have h3:=Ix hx;simp only [Tm.wt] at hb
   have:=ih i x bs s' hx hs (bs++G1) D G2 (by rw [hG,List.append_assoc]) (by rw [List.length_append];omega)
   rw [List.length_append,h1.1] at this;rw [show (G1.length:Int)+(Al op i:Int)=((Al op i+G1.length:Nat):Int) by omega]
   simpa using this
 | app G n m a b x y s s0 hs hy ha hb hx iha ihb ihx =>
  intro G1 D G2 hG hbd;simp only [Tm.wt,Tm.wtL] at hbd;have h1:=iha G1 D G2 hG (by omega);have h2:=ihb (y::G1) D G2 (by rw [hG];rfl) (by simp only [Ah3];omega);have h3:=ihx G1 D G2 hG (by omega);simp only [Tm.shift,Tm.shiftL];rw [if_neg (by omega),if_neg (by omega)];refine HasT.app _ _ _ _ _ _ y s s0 hs hy ?_ ?_ ?_
  ·simpa [Al] using h1
  ·simpa [Al] using h2
  ·simpa [Al] using h3
 | fst G n m a x y s s1 s0 hs ha hx hy iha ihx ihy =>
  intro G1 D G2 hG hbd;simp only [Tm.wt,Tm.wtL] at hbd;have h1:=iha G1 D G2 hG (by omega);have h2:=ihx G1 D G2 hG (by omega);have h3:=ihy G1 D G2 hG (by omega);simp only [Tm.shift,Tm.shiftL];rw [if_neg (by omega),if_neg (by omega)];refine HasT.fst _ _ _ _ _ _ s s1 s0 hs ?_ ?_ ?_
  ·simpa [Al] using h1
  ·simpa [Al] using h2
  ·simpa [Al] using h3
 | snd G n m a x y s s1 s0 hs ha hx hy iha ihx ihy =>
  intro G1 D G2 hG hbd;simp only [Tm.wt,Tm.wtL] at hbd;have h1:=iha G1 D G2 hG (by omega);have h2:=ihx G1 D G2 hG (by omega);have h3:=ihy G1 D G2 hG (by omega);simp only [Tm.shift,Tm.shiftL];rw [if_neg (by omega),if_neg (by omega)];refine HasT.snd _ _ _ _ _ _ s s1 s0 hs ?_ ?_ ?_
  ·simpa [Al] using h1
  ·simpa [Al] using h2
  ·simpa [Al] using h3
def EV {G:List Nat} {t:Tm} {s:Nat} (h:HasT G t s) (D:List Nat) (hb:G.length+D.length+2 * t.wt<=9000000000000000000):HasT (D++G) (t.shift D.length 0) s:=by
 have:=SQ h [] D G rfl (by simp only [List.length_nil];omega)
 simpa using this
theorem Mq {G:List Nat} {t:Tm} {s:Nat} (h:HasT G t s):∀(G1 G2:List Nat) (y:Nat) (u:Tm),G=G1++y::G2->HasT G2 u y->G1.length+G2.length+2 * t.wt+2 * u.wt<=4000000000000000000->HasT (G1++G2) (t.subst G1.length G1.length u) s:=by
 induction h with
 | var G n s h0 h hs =>
  intro G1 G2 y u hG hu hb;subst hG;have hn:n.toNat<(G1++y::G2).length:=(Ah7.1 h).1;simp only [List.length_append,Ah3] at hn;rw [Tm.subst,if_pos rfl];by_cases h1:n=(G1.length:Int)
  ·rw [if_pos h1];rw [show n.toNat=G1.length by omega,Ah8 (Nat.le_refl _),Nat.sub_self] at h
   simp only [Aib,AhZ] at h;subst h
   have:=EV hu G1 (by omega)
   exact this
  ·rw [if_neg h1];by_cases h2:(G1.length:Int)<n
   ·rw [if_pos h2,Az (by omega) (by omega)];refine HasT.var _ _ _ (by omega) ?_ hs;rw [Ah8 (by omega)] at h ⊢;rw [show n.toNat - G1.length=((n - 1).toNat - G1.length)+1 by omega,Aic] at h
    exact h
   ·rw [if_neg h2];refine HasT.var _ _ _ h0 ?_ hs;rw [Ah9 (by omega)] at h ⊢;exact h
 | node G op n ks s sg hr hl hk ih =>
  intro G1 G2 y u hG hu hb;rw [Tm.subst,if_neg (ED hr).1];refine HasT.node _ _ _ _ _ sg hr (by rw [GE];exact hl) ?_;intro i t bs s' ht hs;rw [MC,Nat.zero_add] at ht;cases hx:ks[i]? with
  | none=>rw [hx] at ht;cases ht
  | some x =>
   rw [hx] at ht;simp only [Ah2,AhZ] at ht;subst ht;have h1:=GC hr hs;have h2:=A0 op i;have h3:=Ix hx;simp only [Tm.wt] at hb
   have:=ih i x bs s' hx hs (bs++G1) G2 y u (by rw [hG,List.append_assoc]) hu (by rw [List.length_append];omega)
   rw [List.length_append,h1.1] at this;rw [show (G1.length:Int)+(Al op i:Int)=((Al op i+G1.length:Nat):Int) by omega]
   simpa using this
 | app G n m a b x y s s0 hs hy ha hb hx iha ihb ihx =>
  intro G1 G2 z u hG hu hbd;simp only [Tm.wt,Tm.wtL] at hbd;have h1:=iha G1 G2 z u hG hu (by omega);have h2:=ihb (y::G1) G2 z u (by rw [hG];rfl) hu (by simp only [Ah3];omega);have h3:=ihx G1 G2 z u hG hu (by omega);simp only [Tm.subst,Tm.substL];rw [if_neg (by omega),if_neg (by omega)];refine HasT.app _ _ _ _ _ _ y s s0 hs hy ?_ ?_ ?_
  ·simpa [Al] using h1
  ·simpa [Al] using h2
  ·simpa [Al] using h3
 | fst G n m a x y s s1 s0 hs ha hx hy iha ihx ihy =>
  intro G1 G2 z u hG hu hbd;simp only [Tm.wt,Tm.wtL] at hbd;have h1:=iha G1 G2 z u hG hu (by omega);have h2:=ihx G1 G2 z u hG hu (by omega);have h3:=ihy G1 G2 z u hG hu (by omega);simp only [Tm.subst,Tm.substL];rw [if_neg (by omega),if_neg (by omega)];refine HasT.fst _ _ _ _ _ _ s s1 s0 hs ?_ ?_ ?_
  ·simpa [Al] using h1
  ·simpa [Al] using h2
  ·simpa [Al] using h3
 | snd G n m a x y s s1 s0 hs ha hx hy iha ihx ihy =>
  intro G1 G2 z u hG hu hbd;simp only [Tm.wt,Tm.wtL] at hbd;have h1:=iha G1 G2 z u hG hu (by omega);have h2:=ihx G1 G2 z u hG hu (by omega);have h3:=ihy G1 G2 z u hG hu (by omega);simp only [Tm.subst,Tm.substL];rw [if_neg (by omega),if_neg (by omega)];refine HasT.snd _ _ _ _ _ _ s s1 s0 hs ?_ ?_ ?_
  ·simpa [Al] using h1
  ·simpa [Al] using h2
  ·simpa [Al] using h3
def J9 (op:Int):Option Nat:=if op=10 then some 0 else if op=14 then some 1 else if op=2 then some 2 else if op=18 then some 3 else if op=3 then some 4 else if op=6 then some 5 else none
def j1 {op:Int} {s:Nat} {sg:Kt} (h:Rule op s sg) (hs:10<=s):J9 op=some (s - 10)/\s<16:=by cases h<;>first | omega | exact ⟨rfl,by omega⟩
theorem BX {G:List Nat} {t:Tm} {s:Nat} (h:HasT G t (10+s)):J9 t.op=some s/\s<6:=by
 generalize hq:10+s=q at h;cases h with
 | node _ op n ks _ sg hr hl hk =>
  have:=j1 hr (by omega)
  rw [Tm.op,this.1];exact ⟨by congr 1;omega,by omega⟩
 | _=>omega
theorem Jm {G:List Nat} {t:Tm} {s:Nat} (h:HasT G t s):(s≠3->t.op≠19)/\(s≠6->t.op≠30):=by
 cases h with
 | var=>simp only [Tm.op];omega
 | node _ op n ks _ sg hr hl hk =>simp only [Tm.op];cases hr<;>refine ⟨?_,?_⟩<;>intro h1<;>first | decide | exact absurd rfl h1
 | app=>simp only [Tm.op];omega
 | fst=>simp only [Tm.op];omega
 | snd=>simp only [Tm.op];omega
theorem RN:∀{l:List Tm},(∀(i:Nat) t,l[i]?=some t->t.good)->Tm.goodL l
 | [],_=>by rw [Tm.goodL];trivial
 | x::l,h=>by
  rw [Tm.goodL];exact ⟨h 0 x rfl,RN fun i t hi=>h (i+1) t (by simpa using hi)⟩
def Qg {α:Type} {l:List α} {x:α} (h:x∈l):∃i:Nat,l[i]?=some x:=by obtain ⟨i,hi,he⟩:=List.mem_iff_getElem.1 h;exact ⟨i,by rw [Ah6 hi,he]⟩
theorem Zq {G:List Nat} {t:Tm} {s:Nat} (h:HasT G t s):t.op=13->s<6:=by
 intro ho;cases h with
 | var=>simp [Tm.op] at ho
 | node _ op n ks _ sg hr hl hk =>
  simp only [Tm.op] at ho;subst ho;cases hr with
  | recR s hs=>exact hs
 | app=>simp [Tm.op] at ho
 | fst=>simp [Tm.op] at ho
 | snd=>simp [Tm.op] at ho
theorem kQ {G:List Nat} {t:Tm} {s:Nat} (h:HasT G t s):t.badR=true->s=3:=by
 induction h with
 | var=>intro h;simp [Tm.badR] at h
 | node G op n ks s sg hr hl hk ih =>
  intro hb;unfold Tm.badR at hb;split at hb
  ·rename_i o n' a z c d he;simp only [Tm.mk.injEq] at he;obtain ⟨rfl,rfl,rfl⟩:=he;simp only [Bool.and_eq_true,Bool.or_eq_true,decide_eq_true_eq] at hb;obtain ⟨rfl,hb⟩:=hb;cases hr with
   | recR s hs =>
    rcases hb with hb | hb
    ·have:=(Jm (hk 1 z [] s rfl rfl)).1
     exact Decidable.byContradiction fun h=>this h hb
    ·exact ih 1 z [] s rfl rfl hb
  ·cases hb
 | app=>intro h;simp [Tm.badR] at h
 | fst=>intro h;simp [Tm.badR] at h
 | snd=>intro h;simp [Tm.badR] at h
theorem XU {G:List Nat} {t:Tm} {s:Nat} (h:HasT G t s):∀k,t.sc k->k+2 * t.wt<=1000000->t.good:=by
 induction h with
 | var G n s h0 h hs =>intro k hsc hk;rw [Tm.sc,if_pos rfl] at hsc;rw [Tm.good,Tm.goodL];refine ⟨⟨rfl,fun _=>⟨h0,by simp only [Tm.wt,Tm.wtL] at hk;omega⟩,?_⟩,trivial⟩;exact ⟨by omega,by omega,by omega,by omega,by omega,by omega⟩
 | node G op n ks s sg hr hl hk ih =>
  intro k hsc hb;have h0:=hsc;rw [Tm.sc,if_neg (ED hr).1] at hsc;obtain ⟨h1,h2,h3⟩:=hsc;obtain ⟨o1,o5,o8,o9⟩:=ED hr;have hkid:∀(i:Nat) t,ks[i]?=some t->∃bs s',sg[i]?=some (bs,s'):=by
   intro i t hi
   have:i<sg.length:=by rw [<- hl];exact (Ah7.1 hi).1
   exact ⟨_,_,Ah6 this⟩
  rw [Tm.good];refine ⟨⟨h1,fun h=>absurd h o1,?_,fun h=>absurd h o5,fun h=>by omega,?_,?_,?_⟩,RN ?_⟩
  ·rintro rfl;simpa [BY] using h2
  ·rintro rfl x hx;obtain ⟨i,hi⟩:=Qg hx;cases hr;have hi0:i=0:=by
    have:=(Ah7.1 hi).1
    simp only [Ah3,List.length_nil] at hl;omega
   subst hi0;have hx:=hk 0 x [] 6 hi rfl;exact ⟨(Jm hx).1 (by decide),fun h=>by have:=Zq hx h;omega⟩
  ·rintro rfl x hx;obtain ⟨i,hi⟩:=Qg hx;cases hr;have hi0:i=0:=by
    have:=(Ah7.1 hi).1
    simp only [Ah3,List.length_nil] at hl;omega
   subst hi0;exact (Jm (hk 0 x [] 3 hi rfl)).2 (by decide)
  ·rintro rfl a b c d rfl;cases hr with
   | recR s hs =>
    have hb:=Jm (hk 1 b [] s rfl rfl);have hd:=Jm (hk 3 d [] 0 rfl rfl);refine ⟨hb.2 (by omega),⟨hd.1 (by decide),hd.2 (by decide)⟩,?_⟩;cases hbd:d.badR
    ·rfl
    ·have:=kQ (hk 3 d [] 0 rfl rfl) hbd
     omega
  ·intro i t hi;obtain ⟨bs,s',hs⟩:=hkid i t hi;have hw:=Ix hi;have hbn:=A0 op i;simp only [Tm.wt] at hb
   have:=Hu h3 hi
   rw [Nat.zero_add] at this;exact ih i t bs s' hi hs _ this (by omega)
 | app G n m a b x y s s0 hs hy ha hb hx iha ihb ihx =>
  intro k hsc hbd;simp only [Tm.wt,Tm.wtL] at hbd;simp only [Tm.sc,Tm.scL] at hsc;obtain ⟨q1,q2,⟨q3,q4,q5,q6,_⟩,q7,_⟩:=hsc;simp only [show Al 5 0=0 from rfl,show Al 5 1=0 from rfl,show Al 4 0=0 from rfl,show Al 4 1=1 from rfl,Nat.zero_add] at q5 q6 q7
  have g1:=iha _ q5 (by omega);have g2:=ihb _ q6 (by omega);have g3:=ihx _ q7 (by omega);simp only [Tm.good,Tm.goodL];refine ⟨⟨rfl,by omega,by omega,fun _=>⟨m,a,b,x,rfl⟩,by omega,by omega,by omega,by omega⟩,⟨⟨rfl,by omega,by omega,by omega,by omega,by omega,by omega,by omega⟩,g1,g2,trivial⟩,g3,trivial⟩
 | fst G n m a x y s s1 s0 hs ha hx hy iha ihx ihy =>
  intro k hsc hbd;simp only [Tm.wt,Tm.wtL] at hbd;simp only [Tm.sc,Tm.scL] at hsc;obtain ⟨q1,q2,⟨q3,q4,q5,q6,q7,_⟩,_⟩:=hsc;simp only [show Al 8 0=0 from rfl,show Al 7 0=0 from rfl,show Al 7 (0+1)=0 from rfl,show Al 7 (0+1+1)=0 from rfl] at q5 q6 q7
  have g1:=iha _ q5 (by omega);have g2:=ihx _ q6 (by omega);have g3:=ihy _ q7 (by omega);simp only [Tm.good,Tm.goodL];refine ⟨⟨rfl,by omega,by omega,by omega,fun _=>⟨m,a,x,y,rfl⟩,by omega,by omega,by omega⟩,⟨⟨rfl,by omega,by omega,by omega,by omega,by omega,by omega,by omega⟩,g1,g2,g3,trivial⟩,trivial⟩
 | snd G n m a x y s s1 s0 hs ha hx hy iha ihx ihy =>
  intro k hsc hbd;simp only [Tm.wt,Tm.wtL] at hbd;simp only [Tm.sc,Tm.scL] at hsc;obtain ⟨q1,q2,⟨q3,q4,q5,q6,q7,_⟩,_⟩:=hsc;simp only [show Al 9 0=0 from rfl,show Al 7 0=0 from rfl,show Al 7 (0+1)=0 from rfl,show Al 7 (0+1+1)=0 from rfl] at q5 q6 q7
  have g1:=iha _ q5 (by omega);have g2:=ihx _ q6 (by omega);have g3:=ihy _ q7 (by omega);simp only [Tm.good,Tm.goodL];refine ⟨⟨rfl,by omega,by omega,by omega,fun _=>⟨m,a,x,y,rfl⟩,by omega,by omega,by omega⟩,⟨⟨rfl,by omega,by omega,by omega,by omega,by omega,by omega,by omega⟩,g1,g2,g3,trivial⟩,trivial⟩
def SR (op:Int) (k:List RV):Prop:=(op=30->∀k0,k[0]?=some k0->k0.op≠19)/\(op=19->∀k0,k[0]?=some k0->k0.op≠30)/\(op=13->∀k3,k[3]?=some k3->k3.op≠11/\k3.op≠12)
def fI (op:Int) (k:List Tm):Prop:=(op=30->∀k0,k[0]?=some k0->k0.op≠19)/\(op=19->∀k0,k[0]?=some k0->k0.op≠30)/\(op=13->∀k3,k[3]?=some k3->k3.op≠11/\k3.op≠12)
inductive VT (G0:List Nat):List Nat->RV->Nat->Prop
 | var (L:List Nat) (n:Int) (s:Nat) (env:List RV) (b:Tm) (h:0<=n/\L[n.toNat]?=some s\/n<0/\G0[(-1 - n).toNat]?=some s) (hs:s<10):VT G0 L (.mk 1 n [] env b) s
 | node (L:List Nat) (op n:Int) (k env:List RV) (b:Tm) (s:Nat) (sg:Kt) (D:Nat->List Nat) (hr:Rule op s sg) (hl:k.length=sg.length) (hst:SR op k)
   (hk:∀(i:Nat) v s',k[i]?=some v->sg[i]?=some ([],s')->VT G0 L v s')
   (hc:∀(i:Nat) (v:RV) bs s',k[i]?=some v->sg[i]?=some (bs,s')->bs≠[]->(D i).length=v.env.length/\HasT (bs++(D i++G0)) v.b s')
   (he:∀(i:Nat) (v:RV) bs s' (j:Nat) x y,k[i]?=some v->sg[i]?=some (bs,s')->bs≠[]->v.env.reverse[j]?=some x->(D i)[j]?=some y->VT G0 L x y):VT G0 L (.mk op n k env b) s
structure NodeT (G0 L:List Nat) (op:Int) (k:List RV) (s:Nat) (sg:Kt) (D:Nat->List Nat):Prop where
 hr:Rule op s sg
 hl:k.length=sg.length
 hk:∀(i:Nat) v s',k[i]?=some v->sg[i]?=some ([],s')->VT G0 L v s'
 hc:∀(i:Nat) (v:RV) bs s',k[i]?=some v->sg[i]?=some (bs,s')->bs≠[]->(D i).length=v.env.length/\HasT (bs++(D i++G0)) v.b s'
 he:∀(i:Nat) (v:RV) bs s' (j:Nat) x y,k[i]?=some v->sg[i]?=some (bs,s')->bs≠[]->v.env.reverse[j]?=some x->(D i)[j]?=some y->VT G0 L x y
def LC {G0 L:List Nat} {op n:Int} {k:List RV} {s:Nat} {sg:Kt} {D:Nat->List Nat} (h:NodeT G0 L op k s sg D) (hst:SR op k):VT G0 L (.node op n k) s :=.node _ _ _ _ _ _ _ _ _ h.hr h.hl hst h.hk h.hc h.he
theorem Sz {G0 L:List Nat} {v:RV} {s:Nat} (h:VT G0 L v s) (h1:v.op≠1):SR v.op v.k/\∃sg D,NodeT G0 L v.op v.k s sg D:=by
 cases h with
 | var=>exact absurd rfl h1
 | node op n k env b s sg D hr hl hst hk hc he=>exact ⟨hst,sg,D,hr,hl,hk,hc,he⟩
theorem iZ {G0 L:List Nat} {v:RV} {s:Nat} (h:VT G0 L v s):∀M,VT G0 (L++M) v s:=by
 induction h with
 | var n s env b h hs =>
  intro M;refine .var _ _ _ _ _ ?_ hs;rcases h with ⟨h1,h2⟩ | h
  ·exact .inl ⟨h1,by rw [Ah9 (Ah7.1 h2).1];exact h2⟩
  ·exact .inr h
 | node op n k env b s sg D hr hl hst hk hc he ihk ihe =>intro M;exact .node _ _ _ _ _ _ _ sg D hr hl hst (fun i v s' a b=>ihk i v s' a b M) hc (fun i v bs s' j x y a b c d e=>ihe i v bs s' j x y a b c d e M)
def O8 (G0 L:List Nat) (env:List RV) (D:List Nat):Prop:=D.length=env.length/\∀(j:Nat) x y,env.reverse[j]?=some x->D[j]?=some y->VT G0 L x y
def QT {G0 L D bs:List Nat} {env l:List RV} (h:O8 G0 L env D) (hl:bs.length=l.length) (hx:∀(j:Nat) x y,l.reverse[j]?=some x->bs[j]?=some y->VT G0 L x y):O8 G0 L (env++l) (bs++D):=by
 refine ⟨by simp only [List.length_append,h.1,hl];omega,?_⟩;intro j x y h1 h2;rw [List.reverse_append] at h1;by_cases hj:j<bs.length
 ·rw [Ah9 (by rw [List.length_reverse];omega)] at h1;rw [Ah9 hj] at h2;exact hx j x y h1 h2
 ·rw [Ah8 (by rw [List.length_reverse];omega),List.length_reverse] at h1;rw [Ah8 (by omega),hl] at h2;exact h.2 _ x y h1 h2
theorem WQ {ev:Int->Int->Tm->Option (RV×Int×Int)} {G0 L D:List Nat} {env:List RV} (hev:∀s t v s' σ,ev s 0 t=some (v,s',0)->HasT (D++G0) t σ->VT G0 L v σ) (herr:∀s e t v s',ev s e t=some (v,s',0)->e=0) (op:Int) :
  ∀(l:List Tm) (i:Nat) (sg:Kt) (s:Int) (vs:List RV) (s':Int),A7 ev op env i l s 0=some (vs,s',0)->l.length=sg.length->(∀(j:Nat) bs s1,sg[j]?=some (bs,s1)->bs.length=Al op (i+j)) ->
   (∀(j:Nat) t bs s1,l[j]?=some t->sg[j]?=some (bs,s1)->HasT (bs++(D++G0)) t s1) ->
   vs.length=l.length/\∀(j:Nat) (v:RV) bs s1,vs[j]?=some v->sg[j]?=some (bs,s1)->(bs=[]->VT G0 L v s1)/\(bs≠[]->v.env=env/\HasT (bs++(D++G0)) v.b s1)
 | [],i,sg,s,vs,s',h,hl,hb,ht=>by
  simp only [A7,AhZ,Ah0] at h;obtain ⟨rfl,_,_⟩:=h;exact ⟨rfl,fun j v bs s1 h=>by simp at h⟩
 | t::l,i,[],s,vs,s',h,hl,hb,ht=>by simp at hl
 | t::l,i,(b0,σ0)::sg,s,vs,s',h,hl,hb,ht=>by
  have hb0:=hb 0 b0 σ0 rfl;have ht0:=ht 0 t b0 σ0 rfl rfl;rw [Nat.add_zero] at hb0;have next:=fun (s:Int) (vs:List RV) (h:A7 ev op env (i+1) l s 0=some (vs,s',0))=>WQ hev herr op l (i+1) sg s vs s' h (by simpa using hl) (fun j bs s1 hj=>by rw [hb (j+1) bs s1 (by simpa using hj)];congr 1;omega) (fun j t bs s1 h1 h2=>ht (j+1) t bs s1 (by simpa using h1) (by simpa using h2));simp only [A7] at h;by_cases hc:0<Al op i
  ·rw [if_pos hc] at h;cases hk:A7 ev op env (i+1) l s 0 with
   | none=>rw [hk] at h;cases h
   | some q =>
    obtain ⟨us,s2,e2⟩:=q;rw [hk] at h;simp only [Ah2,AhZ,Ah0] at h;obtain ⟨rfl,rfl,rfl⟩:=h;obtain ⟨n1,n2⟩:=next s us hk;refine ⟨by simp [n1],?_⟩;intro j v bs s1 h1 h2;cases j with
    | zero =>simp only [Aib,AhZ,Ah0] at h1 h2;obtain ⟨rfl,rfl⟩:=h2;subst h1;exact ⟨fun h=>by rw [h] at hb0;simp at hb0;omega,fun _=>⟨rfl,ht0⟩⟩
    | succ j =>simp only [Aic] at h1 h2;exact n2 j v bs s1 h1 h2
  ·rw [if_neg hc] at h;have hbe:b0=[]:=Aia (by omega);subst hbe;split at h
   ·cases h
   rename_i v0 s1 e1 hv;cases hk:A7 ev op env (i+1) l s1 e1 with
   | none=>rw [hk] at h;cases h
   | some q =>
    obtain ⟨us,s2,e2⟩:=q;rw [hk] at h;simp only [Ah2,AhZ,Ah0] at h;obtain ⟨rfl,rfl,rfl⟩:=h;have he1:=Gk ev herr op env l _ _ _ _ _ hk;subst he1;obtain ⟨n1,n2⟩:=next s1 us hk;refine ⟨by simp [n1],?_⟩;intro j v bs s3 h1 h2;cases j with
    | zero =>simp only [Aib,AhZ,Ah0] at h1 h2;obtain ⟨rfl,rfl⟩:=h2;subst h1;exact ⟨fun _=>hev _ _ _ _ _ hv (by simpa using ht0),fun h=>absurd rfl h⟩
    | succ j =>simp only [Aic] at h1 h2;exact n2 j v bs s3 h1 h2
def Hk {f:Nat} {s:Int} {op n:Int} {ks:List Tm} {env:List RV} {v:RV} {s':Int} (h:AC (f+1) s 0 (.mk op n ks) env=some (v,s',0)) (h1:op≠1) :
  ∃vs s1,A7 (fun s e t=>AC f s e t env) op env 0 ks s 0=some (vs,s1,0)/\headR f s1 0 (.node op n vs)=some (v,s',0):=by
 rw [AC] at h;rw [if_neg (by simp)] at h;split at h
 ·cases h
 first | rw [if_neg h1] at h | skip
 split at h
 ·cases h
 split at h
 ·cases h
 split at h
 ·cases h
 rename_i vs s1 e1 hk;have he:=Gg h;subst he;exact ⟨vs,s1,hk,h⟩
theorem Na {f:Nat} {s:Int} {op n:Int} {k:List RV} {v:RV} {s':Int} (h:headR f s 0 (.node op n k)=some (v,s',0)) (h0:¬ (op=5\/op=8\/op=9\/op=13\/op=19\/op=30)):v=.node op n k/\s'=s:=by
 cases f with
 | zero=>rw [headR] at h;cases h
 | succ f =>
  rw [headR] at h;rw [if_neg (by simp)] at h;split at h
  ·cases h
  have hop:(RV.node op n k).op=op:=rfl;rw [hop,if_neg (by omega),if_neg (by omega),if_neg (by omega),if_neg (by omega),if_neg (by omega)] at h;simp only [AhZ,Ah0] at h;exact ⟨h.1.symm,h.2.1.symm⟩
def KG {f:Nat} {G0 L D:List Nat} {env:List RV} (ih:∀s t v s' σ,AC f s 0 t env=some (v,s',0)->HasT (D++G0) t σ->VT G0 L v σ) (henv:O8 G0 L env D) {op:Int} {ks:List Tm} {σ:Nat} {sg:Kt} {s s1:Int} {vs:List RV}
  (hr:Rule op σ sg) (hl:ks.length=sg.length) (hk:∀(i:Nat) t bs s',ks[i]?=some t->sg[i]?=some (bs,s')->HasT (bs++(D++G0)) t s') (h:A7 (fun s e t=>AC f s e t env) op env 0 ks s 0=some (vs,s1,0)):NodeT G0 L op vs σ sg (fun _=>D):=by
 obtain ⟨n1,n2⟩:=WQ (G0:=G0) (L:=L) (D:=D) ih (fun s e t v s' h=>Cq h) op ks 0 sg s vs s1 h hl (fun j bs s1 hj=>by rw [Nat.zero_add];exact (GC hr hj).1) hk;refine ⟨hr,by rw [n1];exact hl,?_,?_,?_⟩
 ·intro i v s' a b;exact (n2 i v [] s' a b).1 rfl
 ·intro i v bs s' a b c;obtain ⟨q1,q2⟩:=(n2 i v bs s' a b).2 c;exact ⟨by rw [q1];exact henv.1,q2⟩
 ·intro i v bs s' j x y a b c d e;obtain ⟨q1,q2⟩:=(n2 i v bs s' a b).2 c;rw [q1] at d;exact henv.2 j x y d e
def R7 {f:Nat} {s n m:Int} {va x:RV} {env:List RV} {b:Tm} {v:RV} {s':Int} (h:headR (f+1) s 0 (.node 5 n [.node 4 m [va,.clo env b],x])=some (v,s',0)):AC f (s+1) 0 b (env++[x])=some (v,s',0):=by
 rw [headR,if_neg (by simp)] at h;by_cases hs:s<0\/1000000<s
 ·rw [if_pos hs] at h;cases h
 rw [if_neg hs,if_pos (show RV.op (.node 5 n [.node 4 m [va,.clo env b],x])=5 from rfl)] at h
 simp only [RV.node,RV.k,Aib] at h;rw [if_pos (show RV.op (.mk 4 m [va,.clo env b] [] .z)=4 from rfl)] at h
 by_cases h1:s+1<=1000
 ·rw [if_pos h1] at h;simp only [Aib,Aic] at h;rw [show (RV.clo env b).env=env from rfl,show (RV.clo env b).b=b from rfl] at h
  by_cases h2:900000<env.length
  ·rw [if_pos h2] at h;cases h
  ·rw [if_neg h2] at h;exact h
 ·rw [if_neg h1] at h;simp at h
def X1 {f:Nat} {s op n m:Int} {ws:List RV} {v:RV} {s':Int} (ho:op=8\/op=9) (h:headR (f+1) s 0 (.node op n [.node 7 m ws])=some (v,s',0)):ws[(1+op - 8).toNat]?=some v:=by
 rw [headR,if_neg (by simp)] at h;by_cases hs:s<0\/1000000<s
 ·rw [if_pos hs] at h;cases h
 have hop:RV.op (.node op n [.node 7 m ws])=op:=rfl;rw [if_neg hs,hop,if_neg (by omega),if_pos ho] at h;simp only [RV.node,RV.k,Aib] at h;rw [if_pos (show RV.op (.mk 7 m ws [] .z)=7 from rfl)] at h
 by_cases h1:s+1<=1000
 ·rw [if_pos h1] at h;cases hw:ws[(1+op - 8).toNat]? with
  | none=>rw [hw] at h;cases h
  | some w =>rw [hw] at h;simp only [Ah2,AhZ,Ah0] at h;rw [h.1]
 ·rw [if_neg h1] at h;simp at h
def dX {f:Nat} {s n:Int} {k0 v:RV} {s':Int} (h:headR (f+1) s 0 (.node 30 n [k0])=some (v,s',0)):k0.op=19/\k0.k[0]?=some v\/k0.op≠19/\v=.node 30 n [k0]:=by
 rw [headR,if_neg (by simp)] at h;by_cases hs:s<0\/1000000<s
 ·rw [if_pos hs] at h;cases h
 have hop:RV.op (.node 30 n [k0])=30:=rfl;rw [if_neg hs,hop,if_neg (by decide),if_neg (by decide),if_pos rfl,show RV.k (.node 30 n [k0])=[k0] from rfl] at h
 simp only [Aib] at h;by_cases h0:k0.op=19
 ·rw [if_pos h0] at h;by_cases h1:s+1<=1000
  ·rw [if_pos h1] at h;cases hw:k0.k[0]? with
   | none=>rw [hw] at h;cases h
   | some w =>rw [hw] at h;simp only [Ah2,AhZ,Ah0] at h;rw [<- h.1];exact .inl ⟨h0,rfl⟩
  ·rw [if_neg h1] at h;simp at h
 ·rw [if_neg h0] at h;simp only [AhZ,Ah0] at h;exact .inr ⟨h0,h.1.symm⟩
def aQ {f:Nat} {s n:Int} {k0 v:RV} {s':Int} (h:headR (f+1) s 0 (.node 19 n [k0])=some (v,s',0)):k0.op=30/\k0.k[0]?=some v\/k0.op≠30/\v=.node 19 n [k0]:=by
 rw [headR,if_neg (by simp)] at h;by_cases hs:s<0\/1000000<s
 ·rw [if_pos hs] at h;cases h
 have hop:RV.op (.node 19 n [k0])=19:=rfl;rw [if_neg hs,hop,if_neg (by decide),if_neg (by decide),if_neg (by decide),if_pos rfl,show RV.k (.node 19 n [k0])=[k0] from rfl] at h
 simp only [Aib] at h;by_cases h0:k0.op=30
 ·rw [if_pos h0] at h;by_cases h1:s+1<=1000
  ·rw [if_pos h1] at h;cases hw:k0.k[0]? with
   | none=>rw [hw] at h;cases h
   | some w =>rw [hw] at h;simp only [Ah2,AhZ,Ah0] at h;rw [<- h.1];exact .inl ⟨h0,rfl⟩
  ·rw [if_neg h1] at h;simp at h
 ·rw [if_neg h0] at h;simp only [AhZ,Ah0] at h;exact .inr ⟨h0,h.1.symm⟩
def eG {f:Nat} {s n:Int} {k0 k1 k2 k3 v:RV} {s':Int} (h:headR (f+1) s 0 (.node 13 n [k0,k1,k2,k3])=some (v,s',0)) :
  k3.op=11/\v=k1\/k3.op=12/\(∃x w s1,k3.k[0]?=some x/\headR f (s+1) 0 (.node 13 0 [k0,k1,k2,x])=some (w,s1,0)/\AC f s1 0 k2.b (k2.env++[x,w])=some (v,s',0))\/(k3.op≠11/\k3.op≠12)/\v=.node 13 n [k0,k1,k2,k3]:=by
 rw [headR,if_neg (by simp)] at h;by_cases hs:s<0\/1000000<s
 ·rw [if_pos hs] at h;cases h
 have hop:RV.op (.node 13 n [k0,k1,k2,k3])=13:=rfl;have hk:RV.k (.node 13 n [k0,k1,k2,k3])=[k0,k1,k2,k3]:=rfl;rw [if_neg hs,hop,if_neg (by decide),if_neg (by decide),if_neg (by decide),if_neg (by decide),if_pos rfl,hk] at h;simp only [Aib,Aic] at h;by_cases h11:k3.op=11
 ·rw [if_pos h11] at h;by_cases h1:s+1<=1000
  ·rw [if_pos h1] at h;simp only [AhZ,Ah0] at h;exact .inl ⟨h11,h.1.symm⟩
  ·rw [if_neg h1] at h;simp at h
 rw [if_neg h11] at h;by_cases h12:k3.op=12
 ·rw [if_pos h12] at h;by_cases h1:s+1<=1000
  ·rw [if_pos h1] at h;cases hx:k3.k[0]? with
   | none=>rw [hx] at h;cases h
   | some x =>
    rw [hx] at h;simp only at h;cases hw:headR f (s+1) 0 (.node 13 0 [k0,k1,k2,x]) with
    | none=>rw [hw] at h;cases h
    | some q =>
     obtain ⟨w,s1,e1⟩:=q;rw [hw] at h;simp only at h;by_cases h2:900000<k2.env.length
     ·rw [if_pos h2] at h;cases h
     ·rw [if_neg h2] at h;have he:=Cq h;subst he;exact .inr (.inl ⟨h12,x,w,s1,rfl,hw,h⟩)
  ·rw [if_neg h1] at h;simp at h
 ·rw [if_neg h12] at h;simp only [AhZ,Ah0] at h;exact .inr (.inr ⟨⟨h11,h12⟩,h.1.symm⟩)
def jL {f:Nat} {s n:Int} {ks:List Tm} {env:List RV} {v:RV} {s':Int} (h:AC (f+1) s 0 (.mk 1 n ks) env=some (v,s',0)) (h0:0<=n):(n<env.length/\env.reverse[n.toNat]?=some v\/¬ n<env.length/\v=.var (env.length - 1 - n))/\s'=s:=by
 rw [AC,if_neg (by simp)] at h;by_cases h9:900000<env.length
 ·rw [if_pos h9] at h;cases h
 rw [if_neg h9,if_pos rfl] at h;by_cases hm:n<env.length
 ·rw [if_pos hm,if_pos h0] at h;cases hx:env[((env.length:Int) - 1 - n).toNat]? with
  | none=>rw [hx] at h;cases h
  | some x =>
   rw [hx] at h;simp only [Ah2,AhZ,Ah0] at h;obtain ⟨rfl,rfl,_⟩:=h;refine ⟨.inl ⟨hm,?_⟩,rfl⟩;rw [List.getElem?_reverse (by omega),show env.length - 1 - n.toNat=((env.length:Int) - 1 - n).toNat by omega]
   exact hx
 ·rw [if_neg hm] at h;by_cases h4:n<=4611686018427387904
  ·rw [if_pos h4] at h;simp only [AhZ,Ah0] at h;exact ⟨.inr ⟨hm,h.1.symm⟩,h.2.1.symm⟩
  ·rw [if_neg h4] at h;cases h
theorem mU {f:Nat} {s n m:Int} {a b x:Tm} {env:List RV} {v:RV} {s':Int} (h:AC (f+1) s 0 (.mk 5 n [.mk 4 m [a,b],x]) env=some (v,s',0)):∃f' s1 s2 vx,f'<=f/\AC f s1 0 x env=some (vx,s2,0)/\AC f' (s2+1) 0 b (env++[vx])=some (v,s',0):=by
 obtain ⟨vs,s2,h1,h2⟩:=Hk h (by decide);simp only [A7] at h1;rw [if_neg (by decide)] at h1;cases hv0:AC f s 0 (.mk 4 m [a,b]) env with
 | none=>rw [hv0] at h1;cases h1
 | some q =>
  obtain ⟨v0,s3,e3⟩:=q;rw [hv0] at h1;simp only at h1;rw [if_neg (by decide)] at h1;cases hv1:AC f s3 e3 x env with
  | none=>rw [hv1] at h1;cases h1
  | some q =>
   obtain ⟨v1,s4,e4⟩:=q;rw [hv1] at h1;simp only [Ah2,AhZ,Ah0] at h1;obtain ⟨rfl,rfl,rfl⟩:=h1;have e3:=Cq hv1;subst e3;obtain ⟨va,rfl⟩:=OL hv0;cases f with
   | zero=>rw [headR] at h2;cases h2
   | succ f=>exact ⟨f,s3,s4,v1,by omega,hv1,R7 h2⟩
theorem Rc {f:Nat} {s op n m:Int} {a x y:Tm} {env:List RV} {v:RV} {s':Int} (ho:op=8\/op=9) (h:AC (f+1) s 0 (.mk op n [.mk 7 m [a,x,y]]) env=some (v,s',0)):∃f' ws s1,f'<=f/\A7 (fun s e t=>AC f' s e t env) 7 env 0 [a,x,y] s 0=some (ws,s1,0)/\ws[(1+op - 8).toNat]?=some v:=by
 obtain ⟨vs,s2,h1,h2⟩:=Hk h (by omega);have hb:Al op 0=0:=by rcases ho with rfl | rfl<;>rfl
 simp only [A7] at h1;rw [if_neg (by omega)] at h1;cases hv0:AC f s 0 (.mk 7 m [a,x,y]) env with
 | none=>rw [hv0] at h1;cases h1
 | some q =>
  obtain ⟨v0,s3,e3⟩:=q;rw [hv0] at h1;simp only [Ah2,AhZ,Ah0] at h1;obtain ⟨rfl,rfl,rfl⟩:=h1;cases f with
  | zero=>rw [headR] at h2;cases h2
  | succ f =>obtain ⟨ws,s4,q1,q2⟩:=Hk hv0 (by decide);obtain ⟨rfl,rfl⟩:=Na q2 (by decide);exact ⟨f,ws,s3,by omega,q1,X1 ho h2⟩
def ZM {f:Nat} {s nd u d:Int} {v:RV} {t:Tm} {s' nd':Int} (h:AT (f+1) s nd 0 v u d=some (t,s',nd',0)) :
  v.op=1/\t=.mk 1 (u - 1 - v.n) []\/v.op≠1/\∃ts,Bd (fun s nd e k u=>AT f s nd e k u (d+1)) f v.op u 0 v.k s (nd+1) 0=some (ts,s',nd',0)/\t=.mk v.op v.n ts:=by
 rw [AT] at h;by_cases hb:nd<0\/1000000<nd\/u<0\/1000000<u\/d<0\/1000000<d\/v.n < -2305843009213693952\/2305843009213693952<v.n\/f<=v.k.length\/900000<v.k.length\/f<=3
 ·rw [if_pos hb] at h;cases h
 rw [if_neg hb] at h;by_cases h3:(0:Int)=0/\(3000<nd+1\/120<d)
 ·rw [if_pos h3,if_pos (by decide)] at h;simp at h
 rw [if_neg h3,if_neg (by simp)] at h;by_cases h1:v.op=1
 ·rw [if_pos h1] at h;simp only [AhZ,Ah0] at h;exact .inl ⟨h1,h.1.symm⟩
 ·rw [if_neg h1] at h;cases hrk:Bd (fun s nd e k u=>AT f s nd e k u (d+1)) f v.op u 0 v.k s (nd+1) 0 with
  | none=>rw [hrk] at h;cases h
  | some q =>obtain ⟨ts,s1,nd1,e1⟩:=q;rw [hrk] at h;simp only [Ah2,AhZ,Ah0] at h;obtain ⟨rfl,rfl,rfl,rfl⟩:=h;exact .inr ⟨h1,ts,rfl,rfl⟩
def EvT (G0 L:List Nat) (f:Nat):Prop:=∀s t env v s' D σ,AC f s 0 t env=some (v,s',0)->HasT (D++G0) t σ->O8 G0 L env D->VT G0 L v σ
def HdT (G0 L:List Nat) (f:Nat):Prop:=∀s op n k v s' σ sg D,headR f s 0 (.node op n k)=some (v,s',0)->NodeT G0 L op k σ sg D->VT G0 L v σ
theorem tO {G0 L D:List Nat} {env:List RV} (h:O8 G0 L env D) {x:RV} {y:Nat} (hx:VT G0 L x y):O8 G0 L (env++[x]) (y::D):=by
 refine QT (bs:=[y]) h rfl ?_;intro j x' y' a b;cases j with
 | zero =>simp only [List.reverse_cons,List.reverse_nil,List.nil_append,Aib,AhZ] at a b;subst a b;exact hx
 | succ j=>simp at a
def AcD {G0 L D:List Nat} {env:List RV} (h:O8 G0 L env D) {x w:RV} {y z:Nat} (hx:VT G0 L x y) (hw:VT G0 L w z):O8 G0 L (env++[x,w]) (z::y::D):=by
 have:=tO (tO h hx) hw
 rw [List.append_assoc] at this;exact this
theorem oW {G:List Nat} {a x y:Tm} {s0 s1 s2:Nat} (ha:HasT G a s0) (hx:HasT G x s1) (hy:HasT G y s2):∀(i:Nat) t bs s',[a,x,y][i]?=some t->[(([]:List Nat),s0),([],s1),([],s2)][i]?=some (bs,s')->HasT (bs++G) t s':=by
 intro i t bs s' a1 a2
 match i with
 | 0=>simp at a1 a2;obtain ⟨rfl,rfl⟩:=a2;subst a1;exact ha
 | 1=>simp at a1 a2;obtain ⟨rfl,rfl⟩:=a2;subst a1;exact hx
 | 2=>simp at a1 a2;obtain ⟨rfl,rfl⟩:=a2;subst a1;exact hy
 | i+3=>simp at a1
theorem Aad {G0 L:List Nat} {f:Nat} (ihE:∀g,g<=f->EvT G0 L g) (ihH:HdT G0 L f):EvT G0 L (f+1):=by
 intro s t env v s' D σ h ht henv;generalize hG:D++G0=G at ht;cases ht with
 | var _ n _ h0 hg hs =>
  subst hG;rcases (jL h h0).1 with ⟨h1,h2⟩ | ⟨h1,rfl⟩
  ·refine henv.2 n.toNat v σ h2 ?_;rw [Ah9 (by have:=henv.1;omega)] at hg;exact hg
  ·refine .var _ _ _ _ _ (.inr ⟨by omega,?_⟩) hs;rw [Ah8 (by have:=henv.1;omega),henv.1] at hg;rw [show (-1 - ((env.length:Int) - 1 - n)).toNat=n.toNat - env.length by omega]
   exact hg
 | node _ op n ks _ sg hr hl hk =>subst hG;obtain ⟨vs,s1,h1,h2⟩:=Hk h (ED hr).1;exact ihH _ _ _ _ _ _ _ _ _ h2 (KG (fun s t v s' σ a b=>ihE f (Nat.le_refl _) s t env v s' D σ a b henv) henv hr hl hk h1)
 | app _ n m a b x y _ s1 hs hy ha hb hx =>subst hG;obtain ⟨f',s1,s2,vx,hf,h1,h2⟩:=mU h;exact ihE f' hf _ _ _ _ _ (y::D) σ h2 hb (tO henv (ihE f (Nat.le_refl _) _ _ _ _ _ D y h1 hx henv))
 | fst _ n m a x y _ s1 s0 hs ha hx hy =>subst hG;obtain ⟨f',ws,s2,hf,h1,h2⟩:=Rc (.inl rfl) h;have hn:=KG (fun s t v s' σ a b=>ihE f' hf s t env v s' D σ a b henv) henv (Rule.pair s0 σ s1) rfl (oW ha hx hy) h1;exact hn.hk 1 v σ h2 rfl
 | snd _ n m a x y _ s1 s0 hs ha hx hy =>subst hG;obtain ⟨f',ws,s2,hf,h1,h2⟩:=Rc (.inr rfl) h;have hn:=KG (fun s t v s' σ a b=>ihE f' hf s t env v s' D σ a b henv) henv (Rule.pair s0 s1 σ) rfl (oW ha hx hy) h1;exact hn.hk 2 v σ h2 rfl
def dS {G0 L:List Nat} {k0 k1 k2 k3 x:RV} {σ s0:Nat} {D:Nat->List Nat} (hn:NodeT G0 L 13 [k0,k1,k2,k3] σ [([0],s0),([],σ),([σ,0],σ),([],0)] D) (hx:VT G0 L x 0):NodeT G0 L 13 [k0,k1,k2,x] σ [([0],s0),([],σ),([σ,0],σ),([],0)] D:=by
 refine ⟨hn.hr,rfl,?_,?_,?_⟩
 ·intro i v s' a b
  match i with
  | 0=>exact hn.hk 0 v s' a b
  | 1=>exact hn.hk 1 v s' a b
  | 2=>exact hn.hk 2 v s' a b
  | 3 =>simp at a b;subst a b;exact hx
  | i+4=>simp at a
 ·intro i v bs s' a b c
  match i with
  | 0=>exact hn.hc 0 v bs s' a b c
  | 1=>exact hn.hc 1 v bs s' a b c
  | 2=>exact hn.hc 2 v bs s' a b c
  | 3=>simp at b;exact absurd b.1 c
  | i+4=>simp at a
 ·intro i v bs s' j x' y' a b c d e
  match i with
  | 0=>exact hn.he 0 v bs s' j x' y' a b c d e
  | 1=>exact hn.he 1 v bs s' j x' y' a b c d e
  | 2=>exact hn.he 2 v bs s' j x' y' a b c d e
  | 3=>simp at b;exact absurd b.1 c
  | i+4=>simp at a
def Aai {G0 L:List Nat} {f:Nat} (ihE:EvT G0 L f) (ihH:HdT G0 L f):HdT G0 L (f+1):=by
 intro s op n k v s' σ sg D h hn;obtain ⟨o1,o5,o8,o9⟩:=ED hn.hr;by_cases h30:op=30
 ·subst h30;have hr:=hn.hr;cases hr;obtain ⟨k0,rfl⟩:=FD hn.hl;have hk0:=hn.hk 0 k0 3 rfl rfl;rcases dX h with ⟨h19,hx⟩ | ⟨h19,rfl⟩
  ·obtain ⟨_,sg2,D2,hn2⟩:=Sz hk0 (by omega);rw [h19] at hn2;have hr2:=hn2.hr;cases hr2;exact hn2.hk 0 v 6 hx rfl
  ·refine LC hn ⟨fun _ k1 hk1=>?_,by omega,by omega⟩;simp only [Aib,AhZ] at hk1;subst hk1;exact h19
 by_cases h19:op=19
 ·subst h19;have hr:=hn.hr;cases hr;obtain ⟨k0,rfl⟩:=FD hn.hl;have hk0:=hn.hk 0 k0 6 rfl rfl;rcases aQ h with ⟨h19,hx⟩ | ⟨h19,rfl⟩
  ·obtain ⟨_,sg2,D2,hn2⟩:=Sz hk0 (by omega);rw [h19] at hn2;have hr2:=hn2.hr;cases hr2;exact hn2.hk 0 v 3 hx rfl
  ·refine LC hn ⟨by omega,fun _ k1 hk1=>?_,by omega⟩;simp only [Aib,AhZ] at hk1;subst hk1;exact h19
 by_cases h13:op=13
 ·subst h13;have hr:=hn.hr;cases hr with
  | recR _ hs =>
  obtain ⟨k0,k1,k2,k3,rfl⟩:=TE hn.hl;have hk1:=hn.hk 1 k1 σ rfl rfl;have hk3:=hn.hk 3 k3 0 rfl rfl;have hc2:=hn.hc 2 k2 [σ,0] σ rfl rfl (by simp);have he2:=fun (j:Nat) x y=>hn.he 2 k2 [σ,0] σ j x y rfl rfl (by simp);rcases eG h with ⟨h11,rfl⟩ | ⟨h12,x,w,s1,hx,hw,hv⟩ | ⟨h3,rfl⟩
  ·exact hk1
  ·obtain ⟨_,sg2,D2,hn2⟩:=Sz hk3 (by omega);rw [h12] at hn2;have hr2:=hn2.hr;cases hr2;have hxv:=hn2.hk 0 x 0 hx rfl;have hwv:=ihH _ _ _ _ _ _ _ _ _ hw (dS hn hxv);exact ihE _ _ _ _ _ (σ::0::D 2) σ hv hc2.2 (AcD ⟨hc2.1,he2⟩ hxv hwv)
  ·refine LC hn ⟨by omega,by omega,fun _ q hq=>?_⟩;simp at hq;subst hq;exact h3
 obtain ⟨rfl,_⟩:=Na h (by omega);exact LC hn ⟨by omega,by omega,by omega⟩
theorem Ui (G0 L:List Nat):∀f,EvT G0 L f/\HdT G0 L f:=by
 intro f
 induction f using Nat.strongRecOn with
 | _ f ih =>
 cases f with
 | zero=>exact ⟨(by intro s t env v s' D σ h;rw [AC] at h;cases h),(by intro s op n k v s' σ sg D h;rw [headR] at h;cases h)⟩
 | succ f=>exact ⟨Aad (fun g hg=>(ih g (by omega)).1) (ih f (by omega)).2,Aai (ih f (by omega)).1 (ih f (by omega)).2⟩
inductive NfT:List Nat->Tm->Nat->Prop
 | var (G:List Nat) (n:Int) (s:Nat) (h0:0<=n) (h:G[n.toNat]?=some s) (hs:s<10):NfT G (.mk 1 n []) s
 | node (G:List Nat) (op n:Int) (ks:List Tm) (s:Nat) (sg:Kt) (hr:Rule op s sg) (hl:ks.length=sg.length) (hst:fI op ks) (hk:∀(i:Nat) t bs s',ks[i]?=some t->sg[i]?=some (bs,s')->NfT (bs++G) t s'):NfT G (.mk op n ks) s
theorem AZ {G:List Nat} {t:Tm} {s:Nat} (h:NfT G t s):HasT G t s:=by
 induction h with
 | var G n s h0 h hs=>exact .var _ _ _ h0 h hs
 | node G op n ks s sg hr hl hst hk ih=>exact .node _ _ _ _ _ sg hr hl ih
theorem Ko {rd:Int->Int->Int->RV->Int->Option (Tm×Int×Int×Int)} {f:Nat} (herr:∀s nd e v u t s' nd',rd s nd e v u=some (t,s',nd',0)->e=0) (op u:Int) :
  ∀(l:List RV) (i:Nat) (s nd e:Int) (ts:List Tm) (s' nd':Int),Bd rd f op u i l s nd e=some (ts,s',nd',0)->ts.length=l.length/\∀(j:Nat) k t,l[j]?=some k->ts[j]?=some t ->
   ∃s1 nd1 k' s2 nd2,((0<Al op (i+j)->∃s0,AC f s0 0 k.b (k.env++ER u (Al op (i+j)))=some (k',s1,0))/\(Al op (i+j)=0->k'=k))/\rd s1 nd1 0 k' (u+Al op (i+j))=some (t,s2,nd2,0)
 | [],i,s,nd,e,ts,s',nd',h=>by
  simp only [Bd,AhZ,Ah0] at h;obtain ⟨rfl,_⟩:=h;exact ⟨rfl,fun j k t h=>by simp at h⟩
 | k::l,i,s,nd,e,ts,s',nd',h=>by
  simp only [Bd] at h;split at h
  ·cases h
  rename_i k' s1 e1 hk;split at h
  ·cases h
  rename_i t s2 nd2 e2 ht;cases hr:Bd rd f op u (i+1) l s2 nd2 e2 with
  | none=>rw [hr] at h;cases h
  | some q =>
   obtain ⟨us,s3,nd3,e3⟩:=q;rw [hr] at h;simp only [Ah2,AhZ,Ah0] at h;obtain ⟨rfl,rfl,rfl,rfl⟩:=h;have he2:e2=0:=by
    cases l with
    | nil=>simp only [Bd,AhZ,Ah0] at hr;exact hr.2.2.2
    | cons k2 l2 =>
     simp only [Bd] at hr;split at hr
     ·cases hr
     rename_i k2' s5 e5 hk2;split at hr
     ·cases hr
     rename_i t2 s6 nd6 e6 ht2;cases hr2:Bd rd f op u (i+1+1) l2 s6 nd6 e6 with
     | none=>rw [hr2] at hr;cases hr
     | some q =>
      obtain ⟨ws,s7,nd7,e7⟩:=q;rw [hr2] at hr;simp only [Ah2,AhZ,Ah0] at hr;obtain ⟨_,_,_,rfl⟩:=hr;have h6:e6=0:=readK_err herr op u l2 _ _ _ _ _ _ _ hr2;subst h6;have h5:=herr _ _ _ _ _ _ _ _ ht2;subst h5;split at hk2
      ·split at hk2
       ·cases hk2
       exact Cq hk2
      ·simp only [AhZ,Ah0] at hk2;exact hk2.2.2
   subst he2;have he1:=herr _ _ _ _ _ _ _ _ ht;subst he1;obtain ⟨n1,n2⟩:=Ko herr op u l (i+1) s2 nd2 0 us s3 nd3 hr;refine ⟨by simp [n1],?_⟩;intro j k2 t2 a b;cases j with
   | zero =>
    simp only [Aib,AhZ] at a b;subst a b;rw [Nat.add_zero];refine ⟨s1,nd,k',s2,nd2,⟨fun hb=>?_,fun hb=>?_⟩,ht⟩
    ·rw [if_pos hb] at hk;split at hk
     ·cases hk
     have:=Cq hk
     subst this;exact ⟨s,hk⟩
    ·rw [if_neg (by omega)] at hk;simp only [AhZ,Ah0] at hk;exact hk.1.symm
   | succ j =>
    simp only [Aic] at a b
    have:=n2 j k2 t2 a b
    rw [show i+1+j=i+(j+1) by omega] at this
    exact this
where
 readK_err {rd:Int->Int->Int->RV->Int->Option (Tm×Int×Int×Int)} {f:Nat} (herr:∀s nd e v u t s' nd',rd s nd e v u=some (t,s',nd',0)->e=0) (op u:Int) :
   ∀(l:List RV) (i:Nat) (s nd e:Int) (ts:List Tm) (s' nd':Int),Bd rd f op u i l s nd e=some (ts,s',nd',0)->e=0
  | [],i,s,nd,e,ts,s',nd',h=>by
   simp only [Bd,AhZ,Ah0] at h;exact h.2.2.2
  | k::l,i,s,nd,e,ts,s',nd',hr=>by
   simp only [Bd] at hr;split at hr
   ·cases hr
   rename_i k2' s5 e5 hk2;split at hr
   ·cases hr
   rename_i t2 s6 nd6 e6 ht2;cases hr2:Bd rd f op u (i+1) l s6 nd6 e6 with
   | none=>rw [hr2] at hr;cases hr
   | some q =>
    obtain ⟨ws,s7,nd7,e7⟩:=q;rw [hr2] at hr;simp only [Ah2,AhZ,Ah0] at hr;obtain ⟨_,_,_,rfl⟩:=hr;have h6:e6=0:=readK_err herr op u l _ _ _ _ _ _ _ hr2;subst h6;have h5:=herr _ _ _ _ _ _ _ _ ht2;subst h5;split at hk2
    ·split at hk2
     ·cases hk2
     exact Cq hk2
    ·simp only [AhZ,Ah0] at hk2;exact hk2.2.2
def Qc (u:Int) (b j:Nat) (h:j<b):(ER u b)[j]?=some (.var (u+j)):=by simp [ER,h]
def iR (u:Int) (b j:Nat) {x:RV} (h:(ER u b).reverse[j]?=some x):j<b/\x=.var (u+((b - 1 - j:Nat):Int)):=by
 have hj:j<b:=by
  have:=(Ah7.1 h).1
  rw [List.length_reverse,CC] at this;exact this
 rw [List.getElem?_reverse (by rw [CC];exact hj),CC,Qc _ _ _ (by omega),AhZ] at h;exact ⟨hj,h.symm⟩
theorem lT (G0:List Nat):∀(f:Nat) (L:List Nat) (s nd:Int) (v:RV) (d:Int) (t:Tm) (s' nd':Int) (σ:Nat),AT f s nd 0 v L.length d=some (t,s',nd',0)->VT G0 L v σ->NfT (L.reverse++G0) t σ/\t.op=v.op:=by
 intro f
 induction f with
 | zero=>intro L s nd v d t s' nd' σ h;rw [AT] at h;cases h
 | succ f ih =>
  intro L s nd v d t s' nd' σ h hv;have hri:=ZM h;cases hv with
  | var n _ env b h1 hs =>
   rcases hri with ⟨_,rfl⟩ | ⟨hne,_⟩
   case inr=>exact absurd rfl hne
   refine ⟨.var _ _ _ ?_ ?_ hs,rfl⟩
   ·rcases h1 with ⟨h1,h2⟩ | ⟨h1,h2⟩
    ·have:=(Ah7.1 h2).1
     simp only [RV.n];omega
    ·simp only [RV.n];omega
   ·simp only [RV.n];rcases h1 with ⟨h1,h2⟩ | ⟨h1,h2⟩
    ·have hlt:=(Ah7.1 h2).1;rw [Ah9 (by rw [List.length_reverse];omega),List.getElem?_reverse (by omega)];rw [show L.length - 1 - ((L.length:Int) - 1 - n).toNat=n.toNat by omega]
     exact h2
    ·rw [Ah8 (by rw [List.length_reverse];omega),List.length_reverse];rw [show ((L.length:Int) - 1 - n).toNat - L.length=(-1 - n).toNat by omega]
     exact h2
  | node op n k env b _ sg D hr hl hst hk hc he =>
   rcases hri with ⟨he1,_⟩ | ⟨_,ts,hrk,rfl⟩
   case inl=>exact absurd he1 (ED hr).1
   ·simp only [RV.op,RV.n,RV.k] at hrk ⊢;obtain ⟨n1,n2⟩:=Ko (fun s nd e v u t s' nd' h=>DL h) op L.length k 0 s (nd+1) 0 ts s' nd' hrk;have key:∀(i:Nat) t bs s',ts[i]?=some t->sg[i]?=some (bs,s')->NfT (bs++(L.reverse++G0)) t s'/\(bs=[]->∀kv,k[i]?=some kv->t.op=kv.op):=by
     intro i t bs s' a b;have hi:i<k.length:=by rw [<- n1];exact (Ah7.1 a).1
     have hki:=Ah6 hi;obtain ⟨q1,q2,k',q3,q4,⟨q5,q6⟩,q7⟩:=n2 i _ t hki a;rw [Nat.zero_add] at q5 q6 q7;have hbn:=(GC hr b).1;cases bs with
     | nil =>
      simp only [List.length_nil] at hbn;rw [<- hbn] at q6 q7
      have:=q6 rfl
      subst this;simp only [Int.ofNat_zero,Int.add_zero] at q7;have hv:=hk i _ s' hki b;have h3:=ih L _ _ _ _ _ _ _ _ q7 hv;refine ⟨by simpa using h3.1,fun _ kv hkv=>?_⟩;rw [hki,AhZ] at hkv;rw [<- hkv];exact h3.2
     | cons b0 bs =>
      have hlb:=hbn;rw [Ah3] at hbn;obtain ⟨s0,hev⟩:=q5 (by omega);obtain ⟨c1,c2⟩:=hc i _ _ s' hki b (by simp);have henv:O8 G0 (L++(b0::bs).reverse) (k[i].env++ER L.length (Al op i)) ((b0::bs)++D i):=by
       refine QT ⟨c1,fun j x y p q=>iZ (he i _ _ s' j x y hki b (by simp) p q) _⟩ (by rw [CC];exact hlb) ?_;intro j x y p q;obtain ⟨hj,rfl⟩:=iR _ _ _ p;have hjl:j<(b0::bs).length:=by rw [hlb];exact hj
       refine .var _ _ _ _ _ (.inl ⟨by omega,?_⟩) ?_
       ·rw [show ((L.length:Int)+((Al op i - 1 - j:Nat):Int)).toNat=L.length+(Al op i - 1 - j) by omega]
        rw [Ah8 (by omega),Nat.add_sub_cancel_left,<- hlb,List.getElem?_reverse (by omega)];rw [show (b0::bs).length - 1 - ((b0::bs).length - 1 - j)=j by omega]
        exact q
       ·exact (GC hr b).2 y (List.mem_of_getElem? q)
      have hvt:=(Ui G0 (L++(b0::bs).reverse) f).1 _ _ _ _ _ _ _ hev (by rw [List.append_assoc];exact c2) henv;rw [<- hlb] at q7;have hlen:((L.length:Int)+((b0::bs).length:Int))=((L++(b0::bs).reverse).length:Int):=by rw [List.length_append,List.length_reverse];omega
      rw [hlen] at q7;have h3:=ih _ _ _ _ _ _ _ _ _ q7 hvt;refine ⟨?_,fun h=>by cases h⟩
      have:=h3.1
      rw [List.reverse_append,List.reverse_reverse,List.append_assoc] at this;exact this
    refine ⟨.node _ _ _ _ _ sg hr (by rw [n1];exact hl) ?_ (fun i t bs s' a b=>(key i t bs s' a b).1),rfl⟩;refine ⟨fun ho k0 hk0=>?_,fun ho k0 hk0=>?_,fun ho k3 hk3=>?_⟩
    ·subst ho;cases hr;obtain ⟨w,hw⟩:=FD hl
     have:=(key 0 k0 [] 3 hk0 rfl).2 rfl w (by rw [hw];rfl)
     rw [this];exact hst.1 rfl w (by rw [hw];rfl)
    ·subst ho;cases hr;obtain ⟨w,hw⟩:=FD hl
     have:=(key 0 k0 [] 6 hk0 rfl).2 rfl w (by rw [hw];rfl)
     rw [this];exact hst.2.1 rfl w (by rw [hw];rfl)
    ·subst ho;cases hr;obtain ⟨w0,w1,w2,w3,hw⟩:=TE hl
     have:=(key 3 k3 [] 0 hk3 rfl).2 rfl w3 (by rw [hw];rfl)
     rw [this];exact hst.2.2 rfl w3 (by rw [hw];rfl)
def B3 {f:Nat} {t u:Tm} {G:List Nat} {s:Nat} (h:AE f t=some (u,0)) (ht:HasT G t s):NfT G u s:=by
 rw [AE] at h;split at h
 ·cases h
 rename_i v s1 e1 he;split at h
 ·cases h
 rename_i w s2 nd2 e2 hr;simp only [AhZ] at h;by_cases h2:e2=0
 ·subst h2;rw [if_neg (by simp)] at h;simp only [Ah0,and_true] at h;subst h;have h1:=DL hr;subst h1;have hv:=(Ui G [] f).1 0 t [] v s1 [] s he ht ⟨rfl,fun j x y a=>by simp at a⟩
  have:=lT G f [] s1 0 v 1 w s2 nd2 s hr hv
  simpa using this.1
 ·rw [if_pos h2] at h;simp only [Ah0] at h;exact absurd h.2 h2
def jD (op:Int) (ks:List Tm):Prop:=fI op ks/\(op=5->∀k0,ks[0]?=some k0->k0.op≠4)/\(op=8\/op=9->∀k0,ks[0]?=some k0->k0.op≠7)
mutual
def Tm.stl:Tm->Prop
 | .mk op _ ks=>jD op ks/\Tm.stlL ks
def Tm.stlL:List Tm->Prop
 | []=>True
 | t::l=>t.stl/\Tm.stlL l
end
theorem Wj:∀{l:List Tm},(∀(i:Nat) t,l[i]?=some t->t.stl)->Tm.stlL l
 | [],_=>by rw [Tm.stlL];trivial
 | x::l,h=>by
  rw [Tm.stlL];exact ⟨h 0 x rfl,Wj fun i t hi=>h (i+1) t (by simpa using hi)⟩
theorem Jk:∀{l:List Tm} {t:Tm},Tm.stlL l->t∈l->t.stl
 | x::l,t,h,hm=>by
  rw [Tm.stlL] at h;rcases List.mem_cons.1 hm with rfl | hm
  ·exact h.1
  ·exact Jk h.2 hm
theorem BW {G:List Nat} {t:Tm} {s:Nat} (h:NfT G t s):t.stl:=by
 induction h with
 | var G n s h0 h hs =>rw [Tm.stl,Tm.stlL];exact ⟨⟨⟨by omega,by omega,by omega⟩,by omega,by omega⟩,trivial⟩
 | node G op n ks s sg hr hl hst hk ih =>
  rw [Tm.stl];obtain ⟨o1,o5,o8,o9⟩:=ED hr;refine ⟨⟨hst,fun h=>absurd h o5,by omega⟩,Wj fun i t hi=>?_⟩
  have:i<sg.length:=by rw [<- hl];exact (Ah7.1 hi).1
  exact ih i t _ _ hi (Ah6 this)
mutual
def Tm.val:Tm->Nat->RV
 | .mk op n ks,u=>if op=1 then .var ((u:Int) - 1 - n) else .node op n (Tm.valL op 0 ks u)
def Tm.valL:Int->Nat->List Tm->Nat->List RV
 | _,_,[],_=>[]
 | op,i,t::l,u=>(if 0<Al op i then .clo (ER 0 u) t else t.val u)::Tm.valL op (i+1) l u
end
theorem Mv (t:Tm) (u:Nat):(t.val u).op=t.op:=by
 obtain ⟨op,n,ks⟩:=t;rw [Tm.val];split
 ·rename_i h;subst h;rfl
 ·rfl
theorem Ry (op:Int) (u:Nat):∀(l:List Tm) (i:Nat),(Tm.valL op i l u).length=l.length
 | [],_=>rfl
 | t::l,i=>by simp only [Tm.valL,Ah3,Ry op u l]
theorem RP (op:Int) (u:Nat):∀(l:List Tm) (i j:Nat),(Tm.valL op i l u)[j]?=(l[j]?).map fun t=>if 0<Al op (i+j) then .clo (ER 0 u) t else t.val u
 | [],_,_=>by simp [Tm.valL]
 | t::l,i,0=>by simp [Tm.valL]
 | t::l,i,j+1=>by
  simp only [Tm.valL,Aic];rw [RP op u l (i+1) j,show i+1+j=i+(j+1) by omega]
theorem d8 {s:Int} (h0:0<=s) (h1:s<=1000000) {op n:Int} {ks:List Tm} (har:ar op=some ks.length) (hst:jD op ks) (u:Nat):headR 1 s 0 (.node op n (Tm.valL op 0 ks u))=some (.node op n (Tm.valL op 0 ks u),s,0):=by
 obtain ⟨⟨a1,a2,a3⟩,a4,a5⟩:=hst;have kid:∀(j:Nat) k,ks[j]?=some k->Al op j=0->(Tm.valL op 0 ks u)[j]?=some (k.val u):=by intro j k hk hb;rw [RP,hk,Nat.zero_add,hb];rfl
 rw [headR,if_neg (by simp),if_neg (by omega)];have hop:(RV.node op n (Tm.valL op 0 ks u)).op=op:=rfl;have hk:(RV.node op n (Tm.valL op 0 ks u)).k=Tm.valL op 0 ks u:=rfl;rw [hop,hk];by_cases h5:op=5
 ·subst h5;obtain ⟨x,y,rfl⟩:=QN (Option.some.inj har.symm:ks.length=2);rw [if_pos rfl,kid 0 x rfl rfl];simp only;rw [if_neg (by rw [Mv];exact a4 rfl x rfl)]
 rw [if_neg h5];by_cases h89:op=8\/op=9
 ·have hl:ks.length=1:=by
   rcases h89 with rfl | rfl<;>exact (Option.some.inj har.symm)
  obtain ⟨x,rfl⟩:=FD hl;rw [if_pos h89,kid 0 x rfl (by rcases h89 with rfl | rfl<;>rfl)];simp only;rw [if_neg (by rw [Mv];exact a5 h89 x rfl)]
 rw [if_neg h89];by_cases h30:op=30
 ·subst h30;obtain ⟨x,rfl⟩:=FD (Option.some.inj har.symm:ks.length=1);rw [if_pos rfl,kid 0 x rfl rfl];simp only;rw [if_neg (by rw [Mv];exact a1 rfl x rfl)]
 rw [if_neg h30];by_cases h19:op=19
 ·subst h19;obtain ⟨x,rfl⟩:=FD (Option.some.inj har.symm:ks.length=1);rw [if_pos rfl,kid 0 x rfl rfl];simp only;rw [if_neg (by rw [Mv];exact a2 rfl x rfl)]
 rw [if_neg h19];by_cases h13:op=13
 ·subst h13;obtain ⟨x,y,z,w,rfl⟩:=TE (Option.some.inj har.symm:ks.length=4);rw [if_pos rfl];have q:=a3 rfl w rfl;simp only [Tm.valL,Aib,Aic,show Al 13 0=1 from rfl,show Al 13 (0+1)=0 from rfl,show Al 13 (0+1+1)=2 from rfl,show Al 13 (0+1+1+1)=0 from rfl,Nat.lt_irrefl,if_false,Mv]
  rw [if_neg q.1,if_neg q.2]
 rw [if_neg h13]
theorem NF {s:Int} {env:List RV} {u:Nat} (henv:env=ER 0 u) (op:Int):∀(l:List Tm) (i:Nat),(∀(j:Nat) t,l[j]?=some t->Al op (i+j)=0->∃f,AC f s 0 t env=some (t.val u,s,0))->∃f,A7 (fun s e t=>AC f s e t env) op env i l s 0=some (Tm.valL op i l u,s,0)
 | [],i,_=>⟨0,rfl⟩
 | t::l,i,h=>by
  obtain ⟨f,hf⟩:=NF henv op l (i+1) (fun j t a b=>h (j+1) t (by simpa using a) (by rw [<- b];congr 1;omega));by_cases hb:0<Al op i
  ·refine ⟨f,?_⟩;rw [A7,if_pos hb,hf,Tm.valL,if_pos hb,henv];rfl
  ·obtain ⟨g,hg⟩:=h 0 t rfl (by rw [Nat.add_zero];omega);refine ⟨f+g,?_⟩;rw [A7,if_neg hb];simp only [B4 (show g<=f+g by omega) hg]
   rw [Dt (ev:=fun s e t=>AC f s e t env) (fun s e t r h=>B4 (by omega) h) op env l (i+1) s 0 _ hf,Tm.valL,if_neg hb];rfl
theorem HM {s:Int} (h0:0<=s) (h1:s<=1000000) (k0:Nat):∀(m:Nat) (t:Tm) (u:Nat),t.wt<m->t.stl->t.sc (k0+u)->k0+u+2 * t.wt<=900000->∃f,AC f s 0 t (ER 0 u)=some (t.val u,s,0):=by
 intro m
 induction m with
 | zero=>intro t u h;omega
 | succ m ih =>
  intro t u hw hst hsc hb;obtain ⟨op,n,ks⟩:=t;rw [Tm.stl] at hst;rw [Tm.sc] at hsc;simp only [Tm.wt] at hw hb;by_cases h1o:op=1
  ·subst h1o;rw [if_pos rfl] at hsc;refine ⟨1,?_⟩;rw [AC,if_neg (by simp),if_neg (by rw [CC];omega),if_pos rfl,Tm.val,if_pos rfl,CC];by_cases hn:n<u
   ·rw [if_pos hn,if_pos hsc.2.1.1,Qc _ _ _ (by omega)];simp only [Ah2,AhZ,Ah0,and_true];congr 1;omega
   ·rw [if_neg hn,if_pos (by omega)]
  ·rw [if_neg h1o] at hsc;obtain ⟨f,hf⟩:=NF (s:=s) (u:=u) rfl op ks 0 (fun j t a b=>by
    rw [Nat.zero_add] at b;have hwt:=Ix a
    have:=Hu hsc.2.2 a
    rw [Nat.zero_add,b,Nat.add_zero] at this;exact ih t u (by omega) (Jk hst.2 (List.mem_of_getElem? a)) this (by omega))
   have har:=QX hsc.1;refine ⟨f+10+1,?_⟩;rw [AC,if_neg (by simp),if_neg (by rw [CC];omega),if_neg h1o,if_neg (by omega),if_neg (by omega)];rw [Dt (ev:=fun s e t=>AC f s e t (ER 0 u)) (fun s e t r h=>B4 (by omega) h) op (ER 0 u) ks 0 s 0 _ hf];simp only;rw [Qd (show 1<=f+10 by omega) (d8 h0 h1 hsc.1 hst.1 u),Tm.val,if_neg h1o]
theorem Vw (u b:Nat):ER 0 u++ER (u:Int) b=ER 0 (u+b):=by
 induction b with
 | zero=>simp [ER]
 | succ b ih =>rw [J6,<- List.append_assoc,ih,<- Nat.add_assoc,J6];congr 2;simp
theorem M9 {s:Int} {u:Nat} {d:Int} (op:Int):∀(l:List Tm) (i:Nat) (nd:Int),0<=nd->u<=800000 ->
  (∀(j:Nat) t,l[j]?=some t->∀nd:Int,0<=nd->nd+t.wt<=3000->∃f,(0<Al op (i+j)->AC f s 0 t (ER 0 (u+Al op (i+j)))=some (t.val (u+Al op (i+j)),s,0))/\AT f s nd 0 (t.val (u+Al op (i+j))) ((u:Int)+Al op (i+j)) d=some (t,s,nd+t.wt,0)) ->
  nd+Tm.wtL l<=3000->∃f,Bd (fun s nd e k u=>AT f s nd e k u d) f op u i (Tm.valL op i l u) s nd 0=some (l,s,nd+Tm.wtL l,0)
 | [],i,nd,_,_,_,_=>⟨0,by simp [Tm.valL,Bd,Tm.wtL]⟩
 | t::l,i,nd,hnd,hu,h,hw=>by
  simp only [Tm.wtL] at hw;obtain ⟨g,hg1,hg2⟩:=h 0 t rfl nd hnd (by omega);rw [Nat.add_zero] at hg1 hg2;obtain ⟨f,hf⟩:=M9 (s:=s) (u:=u) (d:=d) op l (i+1) (nd+t.wt) (by omega) hu (fun j t a nd b c=>by
   obtain ⟨f,q1,q2⟩:=h (j+1) t (by simpa using a) nd b c;rw [show i+(j+1)=i+1+j by omega] at q1 q2
   exact ⟨f,q1,q2⟩) (by omega)
  refine ⟨f+g,?_⟩;rw [Tm.valL,Bd];have hbn:=A0 op i;have hr:=DY (show g<=f+g by omega) hg2
  have hk:=Er (f:=f) (g:=f+g) (by omega) (rd:=fun s nd e k u=>AT f s nd e k u d) (rd':=fun s nd e k u=>AT (f+g) s nd e k u d) (fun s nd e k u r h=>DY (by omega) h) op u _ _ _ _ _ _ hf;by_cases hb:0<Al op i
  ·rw [if_pos hb,if_pos hb];rw [show (RV.clo (ER 0 u) t).env=ER 0 u from rfl,show (RV.clo (ER 0 u) t).b=t from rfl]
   rw [if_neg (by rw [CC];omega),Vw,B4 (show g<=f+g by omega) (hg1 hb)]
   simp only;rw [hr];simp only;rw [hk];simp only [Ah2,Tm.wtL,AhZ,Ah0,true_and,and_true];omega
  ·have hb0:Al op i=0:=by omega
   rw [hb0] at hr;rw [if_neg hb,if_neg hb,hb0];simp only;simp only [Nat.add_zero] at hr;rw [hr];simp only;rw [hk];simp only [Ah2,Tm.wtL,AhZ,Ah0,true_and,and_true];omega
theorem Pj:∀{l:List Tm} {j:Nat} {t:Tm},l[j]?=some t->t.dp<=Tm.dpL l
 | [],_,_,h=>by simp at h
 | x::l,0,t,h=>by
  simp only [Aib,AhZ] at h;subst h;simp only [Tm.dpL];omega
 | x::l,j+1,t,h=>by
  simp only [Aic] at h
  have:=Pj h
  simp only [Tm.dpL];omega
theorem YM {s:Int} (h0:0<=s) (h1:s<=1000000) (k0:Nat):∀(m:Nat) (t:Tm) (u:Nat) (nd d:Int),t.wt<m->t.stl->t.sc (k0+u)->k0+u+2 * t.wt<=800000->0<=nd->nd+t.wt<=3000->1<=d->d+t.dp<=121->∃f,AT f s nd 0 (t.val u) u d=some (t,s,nd+t.wt,0):=by
 intro m
 induction m with
 | zero=>intro t u nd d h;omega
 | succ m ih =>
  intro t u nd d hw hst hsc hb hnd hnw hd hdd;obtain ⟨op,n,ks⟩:=t;rw [Tm.stl] at hst;rw [Tm.sc] at hsc;simp only [Tm.wt] at hw hb hnw;simp only [Tm.dp] at hdd;have har:=QX hsc.1;by_cases h1o:op=1
  ·subst h1o;rw [if_pos rfl] at hsc;have hks:ks=[]:=Aia (Option.some.inj hsc.1.symm);subst hks;refine ⟨5,?_⟩;rw [Tm.val,if_pos rfl,AT];rw [show (RV.var ((u:Int) - 1 - n)).n=(u:Int) - 1 - n from rfl,show (RV.var ((u:Int) - 1 - n)).k=[] from rfl,show (RV.var ((u:Int) - 1 - n)).op=1 from rfl,List.length_nil]
   rw [if_neg (by omega)];have hc:(if (0:Int)=0/\(3000<nd+1\/120<d) then (5:Int) else 0)=0:=if_neg (by simp only [Tm.wtL] at hnw;omega);rw [hc,if_neg (by simp),if_pos rfl];simp only [AhZ,Ah0,Tm.mk.injEq,Tm.wt,Tm.wtL,true_and,and_true];omega
  ·rw [if_neg h1o] at hsc;have hnum:=eQ hsc.2.1;obtain ⟨f,hf⟩:=M9 (s:=s) (u:=u) (d:=d+1) op ks 0 (nd+1) (by omega) (by omega) (fun j t a nd b c=>by
    have hwt:=Ix a;have hdt:=Pj a;have hsk:=Hu hsc.2.2 a;have hbn:=A0 op j;rw [Nat.zero_add] at hsk ⊢;have hstl:=Jk hst.2 (List.mem_of_getElem? a);obtain ⟨f1,hf1⟩:=ih t (u+Al op j) nd (d+1) (by omega) hstl (by rw [<- Nat.add_assoc];exact hsk) (by omega) b c (by omega) (by omega);obtain ⟨f2,hf2⟩:=HM h0 h1 k0 (t.wt+1) t (u+Al op j) (by omega) hstl (by rw [<- Nat.add_assoc];exact hsk) (by omega);refine ⟨f1+f2,fun _=>B4 (by omega) hf2,?_⟩
    have:=DY (show f1<=f1+f2 by omega) hf1
    rw [show ((u+Al op j:Nat):Int)=(u:Int)+(Al op j:Int) by omega] at this
    exact this) (by omega)
   refine ⟨f+10+1,?_⟩;rw [Tm.val,if_neg h1o,AT];rw [show (RV.node op n (Tm.valL op 0 ks u)).n=n from rfl,show (RV.node op n (Tm.valL op 0 ks u)).k=Tm.valL op 0 ks u from rfl,show (RV.node op n (Tm.valL op 0 ks u)).op=op from rfl]
   rw [if_neg (by rw [Ry];omega)];have hc:(if (0:Int)=0/\(3000<nd+1\/120<d) then (5:Int) else 0)=0:=if_neg (by omega);rw [hc,if_neg (by simp),if_neg h1o];rw [Er (f:=f) (g:=f+10) (by omega) (rd:=fun s nd e k u=>AT f s nd e k u (d+1)) (rd':=fun s nd e k u=>AT (f+10) s nd e k u (d+1)) (fun s nd e k u r h=>DY (by omega) h) op u _ _ _ _ _ _ hf];simp only [Ah2,AhZ,Ah0,Tm.wt,true_and,and_true];omega
theorem FU {t:Tm} {k:Nat} (hst:t.stl) (hsc:t.sc k) (hk:k<=700000) (hw:t.wt<=3000) (hd:t.dp<=120):∃f,AE f t=some (t,0):=by
 obtain ⟨f1,h1⟩:=HM (s:=0) (by omega) (by omega) k (t.wt+1) t 0 (by omega) hst (by simpa using hsc) (by omega);obtain ⟨f2,h2⟩:=YM (s:=0) (by omega) (by omega) k (t.wt+1) t 0 0 1 (by omega) hst (by simpa using hsc) (by omega) (by omega) (by omega) (by omega) (by omega);refine ⟨f1+f2,?_⟩;have e0:ER 0 0=[]:=rfl;rw [e0] at h1
 have:=DY (show f2<=f1+f2 by omega) h2
 rw [AE,B4 (show f1<=f1+f2 by omega) h1]
 simp only;rw [show ((0:Nat):Int)=0 from rfl] at this
 rw [this];simp
theorem LZ {f g:Nat} (hfg:f<=g) {t:Tm} {r:Tm×Int} (h:AE f t=some r):AE g t=some r:=by
 rw [AE] at h ⊢;split at h
 ·cases h
 rename_i v s e he;rw [B4 hfg he];split at h
 ·cases h
 rename_i w s2 nd2 e2 hr;rw [<- h];simp only;rw [DY hfg hr]
theorem CA {f g:Nat} {t:Tm} {r r':Tm×Int} (h:AE f t=some r) (h':AE g t=some r'):r=r':=by
 have h1:=LZ (show f<=f+g by omega) h
 have h2:=LZ (show g<=f+g by omega) h'
 rw [h1] at h2;exact Option.some.inj h2
mutual
def Tm.vb:Tm->Prop
 | .mk op n ks=>(op=1->n<=4000000000000000000)/\Tm.vbL ks
def Tm.vbL:List Tm->Prop
 | []=>True
 | t::l=>t.vb/\Tm.vbL l
end
mutual
theorem Ij:∀(t:Tm) (k:Nat),t.sc k->k+2 * t.wt<=4000000000000000000->t.vb
 | .mk op n ks,k,h,hk=>by
  rw [Tm.sc] at h;rw [Tm.wt] at hk;rw [Tm.vb];refine ⟨fun h1=>?_,scL_vb ks op 0 k h.2.2 (by omega)⟩
  have:=h.2.1
  rw [if_pos h1] at this;omega
theorem scL_vb:∀(l:List Tm) (op:Int) (i k:Nat),Tm.scL op i l k->k+2+2 * Tm.wtL l<=4000000000000000000->Tm.vbL l
 | [],_,_,_,_,_=>by rw [Tm.vbL];trivial
 | t::l,op,i,k,h,hk=>by
  rw [Tm.scL] at h;simp only [Tm.wtL] at hk
  have:=A0 op i
  rw [Tm.vbL];exact ⟨Ij t _ h.1 (by omega),scL_vb l op (i+1) k h.2 (by omega)⟩
end
def xD (d:Nat) (env env':List RV):Int:=(d+(env'.length - env.length):Nat)
inductive ShR (d c:Nat):RV->RV->Prop
 | neg (n:Int) (h:n < -(c:Int)):ShR d c (.var n) (.var (n - d))
 | pos (n:Int) (h:-(c:Int)<=n):ShR d c (.var n) (.var n)
 | node (op n:Int) (k k':List RV) (h1:op≠1) (hl:k'.length=k.length)
   (hk:∀(i:Nat) v v',Al op i=0->k[i]?=some v->k'[i]?=some v'->ShR d c v v')
   (hc:∀(i:Nat) (v v':RV),0<Al op i->k[i]?=some v->k'[i]?=some v'->v'.b=v.b.shift (xD d v.env v'.env) (v.env.length+Al op i+c:Nat)/\(v.env.length<=v'.env.length/\(c=0\/v'.env.length=v.env.length))/\v.b.vb)
   (he:∀(i:Nat) (v v':RV) (j:Nat) x x',0<Al op i->k[i]?=some v->k'[i]?=some v'->v.env[j]?=some x->v'.env[j+(v'.env.length - v.env.length)]?=some x'->ShR d c x x'):ShR d c (.node op n k) (.node op n k')
def Qn (d c:Nat) (env env':List RV):Prop:=(env.length<=env'.length/\(c=0\/env'.length=env.length))/\∀(j:Nat) x x',env[j]?=some x->env'[j+(env'.length - env.length)]?=some x'->ShR d c x x'
theorem Tf {d:Nat} {env env' l l':List RV} (hl:l'.length=l.length):xD d (env++l) (env'++l')=xD d env env':=by simp only [xD,List.length_append];omega
theorem Mh {d c:Nat} {env env' l l':List RV} (h:Qn d c env env') (hl:l'.length=l.length) (hx:∀(j:Nat) x x',l[j]?=some x->l'[j]?=some x'->ShR d c x x'):Qn d c (env++l) (env'++l'):=by
 have h1:=h.1;refine ⟨by simp only [List.length_append];omega,?_⟩;intro j x x' a b;rw [List.length_append,List.length_append,show env'.length+l'.length - (env.length+l.length)=env'.length - env.length by omega] at b
 by_cases hj:j<env.length
 ·rw [Ah9 hj] at a;rw [Ah9 (by omega)] at b;exact h.2 j x x' a b
 ·rw [Ah8 (by omega)] at a;rw [Ah8 (by omega),show j+(env'.length - env.length) - env'.length=j - env.length by omega] at b
  exact hx _ x x' a b
theorem HK {d c:Nat} {v v':RV} (h:ShR d c v v'):v'.op=v.op/\(v.op≠1->v'.n=v.n/\v'.k.length=v.k.length/\v=.node v.op v.n v.k/\v'=.node v.op v.n v'.k /\
  (∀(i:Nat) x x',Al v.op i=0->v.k[i]?=some x->v'.k[i]?=some x'->ShR d c x x') /\
  (∀(i:Nat) (x x':RV),0<Al v.op i->v.k[i]?=some x->v'.k[i]?=some x'->(x'.b=x.b.shift (xD d x.env x'.env) (x.env.length+Al v.op i+c:Nat)/\x.b.vb)/\Qn d c x.env x'.env)):=by
 cases h with
 | neg n h=>exact ⟨rfl,fun h=>absurd rfl h⟩
 | pos n h=>exact ⟨rfl,fun h=>absurd rfl h⟩
 | node op n k k' h1 hl hk hc he =>refine ⟨rfl,fun _=>⟨rfl,hl,rfl,rfl,hk,fun i x x' a b c=>?_⟩⟩;obtain ⟨q1,q2,q3⟩:=hc i x x' a b c;exact ⟨⟨q1,q3⟩,q2,fun j y y' p q=>he i x x' j y y' a b c p q⟩
theorem M6 {d c:Nat} {op n:Int} {k k':List RV} (h1:op≠1) (hl:k'.length=k.length) (hk:∀(i:Nat) v v',Al op i=0->k[i]?=some v->k'[i]?=some v'->ShR d c v v')
  (hc:∀(i:Nat) (x x':RV),0<Al op i->k[i]?=some x->k'[i]?=some x'->(x'.b=x.b.shift (xD d x.env x'.env) (x.env.length+Al op i+c:Nat)/\x.b.vb)/\Qn d c x.env x'.env):ShR d c (.node op n k) (.node op n k') :=
 .node op n k k' h1 hl hk (fun i v v' a b c=>⟨(hc i v v' a b c).1.1,(hc i v v' a b c).2.1,(hc i v v' a b c).1.2⟩) (fun i v v' j x x' a b c e f=>(hc i v v' a b c).2.2 j x x' e f)
theorem Cs {l l':List RV} (h:l'.length=l.length) {j:Nat} {x':RV} (hx:l'[j]?=some x'):∃x,l[j]?=some x :=⟨_,Ah6 (by rw [<- h];exact (Ah7.1 hx).1)⟩
theorem Pr {d c:Nat} {env env':List RV} {ev ev':Int->Int->Tm->Option (RV×Int×Int)} (henv:Qn d c env env') (op:Int)
  (hev:∀s e t v' s' e',ev' s e (t.shift (xD d env env') (env.length+c:Nat))=some (v',s',e')->t.vb->∃v,ev s e t=some (v,s',e')/\ShR d c v v') :
  ∀(l:List Tm) (i:Nat) (s e:Int) (vs':List RV) (s' e':Int),A7 ev' op env' i (Tm.shiftL op i l (xD d env env') (env.length+c:Nat)) s e=some (vs',s',e')->Tm.vbL l ->
   ∃vs,A7 ev op env i l s e=some (vs,s',e')/\vs'.length=vs.length/\(∀(j:Nat) v v',Al op (i+j)=0->vs[j]?=some v->vs'[j]?=some v'->ShR d c v v') /\
    (∀(j:Nat) (x x':RV),0<Al op (i+j)->vs[j]?=some x->vs'[j]?=some x'->(x'.b=x.b.shift (xD d x.env x'.env) (x.env.length+Al op (i+j)+c:Nat)/\x.b.vb)/\Qn d c x.env x'.env)
 | [],i,s,e,vs',s',e',h,hv=>by
  simp only [Tm.shiftL,A7,AhZ,Ah0] at h;obtain ⟨rfl,rfl,rfl⟩:=h;exact ⟨[],rfl,rfl,fun j v v' _ h=>by simp at h,fun j v v' _ h=>by simp at h⟩
 | t::l,i,s,e,vs',s',e',h,hv=>by
  rw [Tm.vbL] at hv;rw [Tm.shiftL,A7] at h;by_cases hb:0<Al op i
  ·rw [if_pos hb] at h;cases hk:A7 ev' op env' (i+1) (Tm.shiftL op (i+1) l (xD d env env') (env.length+c:Nat)) s e with
   | none=>rw [hk] at h;cases h
   | some q =>
    obtain ⟨us',s1,e1⟩:=q;rw [hk] at h;simp only [Ah2,AhZ,Ah0] at h;obtain ⟨rfl,rfl,rfl⟩:=h;obtain ⟨us,q1,q2,q3,q4⟩:=Pr henv op hev l (i+1) s e us' s1 e1 hk hv.2;refine ⟨.clo env t::us,by rw [A7,if_pos hb,q1];rfl,by simp [q2],?_,?_⟩
    ·intro j v v' h0 a b;cases j with
     | zero=>rw [Nat.add_zero] at h0;omega
     | succ j =>simp only [Aic] at a b;exact q3 j v v' (by rw [<- h0];congr 1;omega) a b
    ·intro j x x' h0 a b;cases j with
     | zero =>simp only [Aib,AhZ] at a b;subst a b;simp only [Nat.add_zero,RV.clo,RV.b,RV.env];exact ⟨⟨by congr 1;omega,hv.1⟩,henv⟩
     | succ j =>
      simp only [Aic] at a b
      have:=q4 j x x' (by rw [show i+1+j=i+(j+1) by omega];exact h0) a b
      rw [show i+1+j=i+(j+1) by omega] at this
      exact this
  ·rw [if_neg hb] at h;have hb0:Al op i=0:=by omega
   rw [hb0] at h;simp only [Int.ofNat_zero,Int.add_zero] at h;split at h
   ·cases h
   rename_i v0' s1 e1 hv0;obtain ⟨v0,p1,p2⟩:=hev s e t v0' s1 e1 (by simpa using hv0) hv.1;cases hk:A7 ev' op env' (i+1) (Tm.shiftL op (i+1) l (xD d env env') (env.length+c:Nat)) s1 e1 with
   | none=>rw [hk] at h;cases h
   | some q =>
    obtain ⟨us',s2,e2⟩:=q;rw [hk] at h;simp only [Ah2,AhZ,Ah0] at h;obtain ⟨rfl,rfl,rfl⟩:=h;obtain ⟨us,q1,q2,q3,q4⟩:=Pr henv op hev l (i+1) s1 e1 us' s2 e2 hk hv.2;refine ⟨v0::us,by rw [A7,if_neg hb,p1];simp only;rw [q1];rfl,by simp [q2],?_,?_⟩
    ·intro j v v' h0 a b;cases j with
     | zero =>simp only [Aib,AhZ] at a b;subst a b;exact p2
     | succ j =>simp only [Aic] at a b;exact q3 j v v' (by rw [<- h0];congr 1;omega) a b
    ·intro j x x' h0 a b;cases j with
     | zero=>rw [Nat.add_zero] at h0;omega
     | succ j =>
      simp only [Aic] at a b
      have:=q4 j x x' (by rw [show i+1+j=i+(j+1) by omega];exact h0) a b
      rw [show i+1+j=i+(j+1) by omega] at this
      exact this
theorem L3 {d c f:Nat} {s:Int} {v v' w':RV} {s' e':Int} (hb:Al v.op 0=0) (hs:ShR d c v v') (hv1:v.op≠1) (i:Nat) (o:Int) (ho1:o≠1) (hbi:Al o i=0)
  (h:(match v'.k[0]? with
   | none=>none
   | some k0=>if k0.op=o then (if s+1<=1000 then (k0.k[i]?).map fun x=>(x,s+1,(0:Int)) else some (v',s+1,17)) else some (v',s,0))=some (w',s',e')) :
  ∃w,(match v.k[0]? with
   | none=>none
   | some k0=>if k0.op=o then (if s+1<=1000 then (k0.k[i]?).map fun x=>(x,s+1,(0:Int)) else some (v,s+1,17)) else some (v,s,0))=some (w,s',e')/\ShR d c w w':=by
 obtain ⟨_,a2⟩:=HK hs;obtain ⟨a3,a4,a5,a6,a7,a8⟩:=a2 hv1;cases hk:v'.k[0]? with
 | none=>rw [hk] at h;cases h
 | some k0' =>
  rw [hk] at h;obtain ⟨k0,hk0⟩:=Cs a4 hk;have hr:=a7 0 k0 k0' hb hk0 hk;obtain ⟨b1,b2⟩:=HK hr;rw [hk0];simp only at h ⊢;rw [b1] at h;by_cases hop:k0.op=o
  ·rw [if_pos hop] at h ⊢;by_cases hq:s+1<=1000
   ·rw [if_pos hq] at h ⊢;obtain ⟨b3,b4,b5,b6,b7,b8⟩:=b2 (by rw [hop];exact ho1);cases hx:k0'.k[i]? with
    | none=>rw [hx] at h;cases h
    | some x' =>rw [hx] at h;simp only [Ah2,AhZ,Ah0] at h;obtain ⟨rfl,rfl,rfl⟩:=h;obtain ⟨x,hx0⟩:=Cs b4 hx;rw [hx0];exact ⟨x,rfl,b7 i x x' (by rw [hop];exact hbi) hx0 hx⟩
   ·rw [if_neg hq] at h ⊢;simp only [AhZ,Ah0] at h;obtain ⟨rfl,rfl,rfl⟩:=h;exact ⟨v,rfl,hs⟩
  ·rw [if_neg hop] at h ⊢;simp only [AhZ,Ah0] at h;obtain ⟨rfl,rfl,rfl⟩:=h;exact ⟨v,rfl,hs⟩
theorem Z2 {d c:Nat} {env env':List RV} {m s e s' e':Int} {v':RV} (henv:Qn d c env env') (hm:m<(env.length:Int))
  (h:(if m<(env'.length:Int) then (if 0<=m then (env'[((env'.length:Int) - 1 - m).toNat]?).map fun v=>(v,s,e) else none) else if m<=4611686018427387904 then some (RV.var (env'.length - 1 - m),s,e) else none)=some (v',s',e')) :
  ∃v,(if m<(env.length:Int) then (if 0<=m then (env[((env.length:Int) - 1 - m).toNat]?).map fun v=>(v,s,e) else none) else if m<=4611686018427387904 then some (RV.var (env.length - 1 - m),s,e) else none)=some (v,s',e')/\ShR d c v v':=by
 have hle:=henv.1;rw [if_pos (by omega)] at h;rw [if_pos hm];split at h
 ·rename_i h0;rw [if_pos h0];cases hx:env'[((env'.length:Int) - 1 - m).toNat]? with
  | none=>rw [hx] at h;cases h
  | some x' =>rw [hx] at h;simp only [Ah2,AhZ,Ah0] at h;obtain ⟨rfl,rfl,rfl⟩:=h;obtain ⟨x,hx0⟩:∃x,env[((env.length:Int) - 1 - m).toNat]?=some x:=⟨_,Ah6 (by omega)⟩;rw [hx0];exact ⟨x,rfl,henv.2 _ x x' hx0 (by rw [show ((env.length:Int) - 1 - m).toNat+(env'.length - env.length)=((env'.length:Int) - 1 - m).toNat by omega];exact hx)⟩
 ·cases h
theorem Qq (d c:Nat) (hd:d<=1000000):∀f,(∀s e t env env' v' s' e',AC f s e (t.shift (xD d env env') (env.length+c:Nat)) env'=some (v',s',e')->t.vb->Qn d c env env'->∃v,AC f s e t env=some (v,s',e')/\ShR d c v v') /\
  (∀s e v v' w' s' e',headR f s e v'=some (w',s',e')->ShR d c v v'->v.op≠1->∃w,headR f s e v=some (w,s',e')/\ShR d c w w'):=by
 intro f
 induction f with
 | zero=>exact ⟨(by intro s e t env env' v' s' e' h;rw [AC] at h;cases h),(by intro s e v v' w' s' e' h;rw [headR] at h;cases h)⟩
 | succ f ih =>
  refine ⟨?_,?_⟩
  ·intro s e t env env' v' s' e' h hvb henv;obtain ⟨op,m,ks⟩:=t;rw [Tm.vb] at hvb;rw [Tm.shift] at h;obtain ⟨m',hm'⟩:∃m':Int,m'=(if op=1/\((env.length+c:Nat):Int)<=m then BF (m+xD d env env') else m):=⟨_,rfl⟩;have hxD:xD d env env'=(d:Int)+(env'.length - env.length:Nat):=by rw [xD];omega
   have hle:=henv.1;rw [<- hm',AC] at h;rw [AC];by_cases he:e≠0
   ·rw [if_pos he] at h ⊢;simp only [AhZ,Ah0] at h;obtain ⟨rfl,rfl,rfl⟩:=h;exact ⟨_,rfl,M6 (by decide) rfl (fun i v v' _ h=>by simp at h) (fun i v v' _ h=>by simp at h)⟩
   rw [if_neg he] at h ⊢;by_cases hl:900000<env'.length
   ·rw [if_pos hl] at h;cases h
   rw [if_neg hl] at h;rw [if_neg (show ¬ 900000<env.length by omega)]
   by_cases h1:op=1
   ·rw [if_pos h1] at h ⊢;by_cases hm:((env.length+c:Nat):Int)<=m
    ·have hw:BF (m+xD d env env')=m+xD d env env':=by rw [Az (by omega) (by have:=hvb.1 h1;omega)]
     rw [if_pos ⟨h1,hm⟩,hw] at hm';rw [if_neg (by omega)] at h;rw [if_neg (by omega)];split at h
     ·simp only [AhZ,Ah0] at h;obtain ⟨rfl,rfl,rfl⟩:=h;rw [if_pos (by omega),hm'];refine ⟨_,rfl,?_⟩
      have:=ShR.neg (d:=d) (c:=c) ((env.length:Int) - 1 - m) (by omega)
      rw [show (env.length:Int) - 1 - m - d=(env'.length:Int) - 1 - (m+xD d env env') by omega] at this
      exact this
     ·cases h
    ·rw [if_neg (fun h=>hm h.2)] at hm';rw [hm'] at h;by_cases hbd:m<(env.length:Int)
     ·exact Z2 henv hbd h
     rw [if_neg (by omega)] at h;rw [if_neg hbd];split at h
     ·rename_i h0;rw [if_pos h0];simp only [AhZ,Ah0] at h;obtain ⟨rfl,rfl,rfl⟩:=h;refine ⟨_,rfl,?_⟩;rw [show env'.length=env.length by omega]
      exact .pos _ (by omega)
     ·cases h
   ·rw [if_neg h1] at h ⊢;rw [if_neg (fun h=>h1 h.1)] at hm';rw [hm'] at h;rw [Eh] at h;split at h
    ·cases h
    rename_i h2;rw [if_neg h2];split at h
    ·cases h
    rename_i h3;rw [if_neg h3];split at h
    ·cases h
    rename_i vs' s1 e1 hk;obtain ⟨vs,q1,q2,q3,q4⟩:=Pr (ev:=fun s e t=>AC f s e t env) henv op (fun s e t v' s' e' a b=>ih.1 s e t env env' v' s' e' a b henv) ks 0 s e vs' s1 e1 hk hvb.2;rw [q1];simp only;simp only [Nat.zero_add] at q3 q4;exact ih.2 _ _ _ _ _ _ _ h (M6 h1 q2 q3 q4) h1
  ·intro s e v v' w' s' e' h hs hv1;obtain ⟨a1,a2⟩:=HK hs;obtain ⟨a3,a4,a5,a6,a7,a8⟩:=a2 hv1;rw [headR] at h ⊢;rw [a1] at h;by_cases he:e≠0
   ·rw [if_pos he] at h ⊢;simp only [AhZ,Ah0] at h;obtain ⟨rfl,rfl,rfl⟩:=h;exact ⟨v,rfl,hs⟩
   rw [if_neg he] at h ⊢;have he0:e=0:=by omega
   subst he0;split at h
   ·cases h
   rename_i hsb;rw [if_neg hsb];by_cases h5:v.op=5
   ·rw [if_pos h5] at h ⊢;cases hk:v'.k[0]? with
    | none=>rw [hk] at h;cases h
    | some k0' =>
     rw [hk] at h;obtain ⟨k0,hk0⟩:=Cs a4 hk;have hr:=a7 0 k0 k0' (by rw [h5];rfl) hk0 hk;obtain ⟨b1,b2⟩:=HK hr;rw [hk0];simp only at h ⊢;rw [b1] at h;by_cases hop:k0.op=4
     ·rw [if_pos hop] at h ⊢;by_cases hq:s+1<=1000
      ·rw [if_pos hq] at h ⊢;obtain ⟨b3,b4,b5,b6,b7,b8⟩:=b2 (by rw [hop];decide);cases hc:k0'.k[1]? with
       | none=>rw [hc] at h;cases h
       | some c' =>
       cases hx:v'.k[1]? with
       | none=>rw [hc,hx] at h;cases h
       | some x' =>
        rw [hc,hx] at h;obtain ⟨c,hc0⟩:=Cs b4 hc;obtain ⟨x,hx0⟩:=Cs a4 hx;have hxr:=a7 1 x x' (by rw [h5];rfl) hx0 hx;obtain ⟨⟨c1,c2⟩,c3⟩:=b8 1 c c' (by rw [hop];decide) hc0 hc;rw [hc0,hx0];simp only at h ⊢;split at h
        ·cases h
        rename_i hcl;rw [if_neg (by have:=c3.1.1;omega)];rw [hop,show Al 4 1=1 from rfl] at c1
        rw [c1] at h;have henv:=Mh (l:=[x]) (l':=[x']) c3 rfl (fun j y y' a b=>by
         cases j with
         | zero =>simp only [Aib,AhZ] at a b;subst a b;exact hxr
         | succ j=>simp at a)
        exact ih.1 _ _ c.b (c.env++[x]) _ _ _ _ (by rw [Tf (l:=[x]) (l':=[x']) rfl,List.length_append];exact h) c2 henv
      ·rw [if_neg hq] at h ⊢;simp only [AhZ,Ah0] at h;obtain ⟨rfl,rfl,rfl⟩:=h;exact ⟨v,rfl,hs⟩
     ·rw [if_neg hop] at h ⊢;simp only [AhZ,Ah0] at h;obtain ⟨rfl,rfl,rfl⟩:=h;exact ⟨v,rfl,hs⟩
   rw [if_neg h5] at h ⊢;by_cases h89:v.op=8\/v.op=9
   ·rw [if_pos h89] at h ⊢;exact L3 (f:=f) (by rcases h89 with h | h<;>rw [h]<;>rfl) hs hv1 (1+v.op - 8).toNat 7 (by decide) (by simp [Al]) h
   rw [if_neg h89] at h ⊢;by_cases h30:v.op=30
   ·rw [if_pos h30] at h ⊢;exact L3 (f:=f) (by rw [h30];rfl) hs hv1 0 19 (by decide) rfl h
   rw [if_neg h30] at h ⊢;by_cases h19:v.op=19
   ·rw [if_pos h19] at h ⊢;exact L3 (f:=f) (by rw [h19];rfl) hs hv1 0 30 (by decide) rfl h
   rw [if_neg h19] at h ⊢;by_cases h13:v.op=13
   ·rw [if_pos h13] at h ⊢;cases hk0:v'.k[0]? with
    | none=>rw [hk0] at h;cases h
    | some k0' =>
    cases hk1:v'.k[1]? with
    | none=>rw [hk0,hk1] at h;cases h
    | some k1' =>
    cases hk2:v'.k[2]? with
    | none=>rw [hk0,hk1,hk2] at h;cases h
    | some k2' =>
    cases hk3:v'.k[3]? with
    | none=>rw [hk0,hk1,hk2,hk3] at h;cases h
    | some k3' =>
     rw [hk0,hk1,hk2,hk3] at h;obtain ⟨k0,g0⟩:=Cs a4 hk0;obtain ⟨k1,g1⟩:=Cs a4 hk1;obtain ⟨k2,g2⟩:=Cs a4 hk2;obtain ⟨k3,g3⟩:=Cs a4 hk3;rw [g0,g1,g2,g3];simp only at h ⊢;have r1:=a7 1 k1 k1' (by rw [h13];rfl) g1 hk1;have r3:=a7 3 k3 k3' (by rw [h13];rfl) g3 hk3;obtain ⟨b1,b2⟩:=HK r3;rw [b1] at h;split at h
     ·rename_i h11;rw [if_pos h11];split at h
      ·rename_i hq;rw [if_pos hq];simp only [AhZ,Ah0] at h;obtain ⟨rfl,rfl,rfl⟩:=h;exact ⟨k1,rfl,r1⟩
      ·rename_i hq;rw [if_neg hq];simp only [AhZ,Ah0] at h;obtain ⟨rfl,rfl,rfl⟩:=h;exact ⟨v,rfl,hs⟩
     ·rename_i h11;rw [if_neg h11];split at h
      ·rename_i h12;rw [if_pos h12];split at h
       ·rename_i hq;rw [if_pos hq];obtain ⟨b3,b4,b5,b6,b7,b8⟩:=b2 (by rw [h12];decide);cases hx:k3'.k[0]? with
        | none=>rw [hx] at h;cases h
        | some x' =>
         rw [hx] at h;obtain ⟨x,hx0⟩:=Cs b4 hx;have rx:=b7 0 x x' (by rw [h12];rfl) hx0 hx;rw [hx0];simp only at h ⊢;split at h
         ·cases h
         rename_i w2' s5 e5 hw;obtain ⟨⟨c1,c2⟩,c3⟩:=a8 2 k2 k2' (by rw [h13];decide) g2 hk2;have c0:=a8 0 k0 k0' (by rw [h13];decide) g0 hk0;rw [h13] at c0 c1;have hn:ShR d c (.node 13 0 [k0,k1,k2,x]) (.node 13 0 [k0',k1',k2',x']):=by
          refine M6 (by decide) rfl ?_ ?_
          ·intro i y y' hb a b
           match i with
           | 0=>exact absurd hb (by decide)
           | 1=>simp at a b;subst a b;exact r1
           | 2=>exact absurd hb (by decide)
           | 3=>simp at a b;subst a b;exact rx
           | i+4=>simp at a
          ·intro i y y' hb a b
           match i with
           | 0=>simp at a b;subst a b;exact c0
           | 1=>exact absurd hb (by decide)
           | 2=>simp at a b;subst a b;exact ⟨⟨c1,c2⟩,c3⟩
           | 3=>exact absurd hb (by decide)
           | i+4=>simp at a
         obtain ⟨w2,p1,p2⟩:=ih.2 _ _ _ _ _ _ _ hw hn (by simp [RV.node,RV.op]);rw [p1];simp only;split at h
         ·cases h
         rename_i hcl;rw [if_neg (by have:=c3.1.1;omega)];rw [c1] at h;have henv:=Mh (l:=[x,w2]) (l':=[x',w2']) c3 rfl (fun j y y' a b=>by
          match j with
          | 0=>simp at a b;subst a b;exact rx
          | 1=>simp at a b;subst a b;exact p2
          | j+2=>simp at a)
         exact ih.1 _ _ k2.b (k2.env++[x,w2]) _ _ _ _ (by rw [Tf (l:=[x,w2]) (l':=[x',w2']) rfl,List.length_append];exact h) c2 henv
       ·rename_i hq;rw [if_neg hq];simp only [AhZ,Ah0] at h;obtain ⟨rfl,rfl,rfl⟩:=h;exact ⟨v,rfl,hs⟩
      ·rename_i h12;rw [if_neg h12];simp only [AhZ,Ah0] at h;obtain ⟨rfl,rfl,rfl⟩:=h;exact ⟨v,rfl,hs⟩
   rw [if_neg h13] at h ⊢;simp only [AhZ,Ah0] at h;obtain ⟨rfl,rfl,rfl⟩:=h;exact ⟨v,rfl,hs⟩
theorem Rn {d c f:Nat} (hd:d<=1000000) {rd:Int->Int->Int->RV->Int->Option (Tm×Int×Int×Int)} {u:Nat}
  (hrd:∀s nd e v v' (u:Nat) t' s' nd' e',rd s nd e v' u=some (t',s',nd',e')->ShR d c v v'->∃t,rd s nd e v u=some (t,s',nd',e')/\t'=t.shift d (u+c:Nat)) (op:Int) :
  ∀(l l':List RV) (i:Nat) (s nd e:Int) (ts':List Tm) (s' nd' e':Int),Bd rd f op u i l' s nd e=some (ts',s',nd',e')->l'.length=l.length ->
   (∀(j:Nat) v v',Al op (i+j)=0->l[j]?=some v->l'[j]?=some v'->ShR d c v v') ->
   (∀(j:Nat) (x x':RV),0<Al op (i+j)->l[j]?=some x->l'[j]?=some x'->(x'.b=x.b.shift (xD d x.env x'.env) (x.env.length+Al op (i+j)+c:Nat)/\x.b.vb)/\Qn d c x.env x'.env) ->
   ∃ts,Bd rd f op u i l s nd e=some (ts,s',nd',e')/\ts'=Tm.shiftL op i ts d (u+c:Nat)
 | [],[],i,s,nd,e,ts',s',nd',e',h,_,_,_=>by
  simp only [Bd,AhZ,Ah0] at h;obtain ⟨rfl,rfl,rfl,rfl⟩:=h;exact ⟨[],rfl,rfl⟩
 | k::l,k'::l',i,s,nd,e,ts',s',nd',e',h,hl,hk,hc=>by
  simp only [Bd] at h ⊢;split at h
  ·cases h
  rename_i y' s1 e1 hy;split at h
  ·cases h
  rename_i t' s2 nd2 e2 ht;have hkey:∃y,(if 0<Al op i then (if 900000<k.env.length then none else AC f s e k.b (k.env++ER u (Al op i))) else some (k,s,e))=some (y,s1,e1)/\ShR d c y y':=by
   by_cases hb:0<Al op i
   ·rw [if_pos hb] at hy ⊢;obtain ⟨⟨c1,c2⟩,c3⟩:=hc 0 k k' (by rw [Nat.add_zero];exact hb) rfl rfl;split at hy
    ·cases hy
    rename_i hcl;rw [if_neg (by have:=c3.1.1;omega)];rw [c1,Nat.add_zero] at hy;have henv:=Mh (l:=ER u (Al op i)) (l':=ER u (Al op i)) c3 rfl (fun j y y' a b=>by
     have hj:j<Al op i:=by
      have:=(Ah7.1 a).1
      rw [CC] at this;exact this
     rw [Qc _ _ _ hj,AhZ] at a b;subst a b;exact .pos _ (by omega))
    exact (Qq d c hd f).1 _ _ k.b (k.env++ER u (Al op i)) _ _ _ _ (by rw [Tf rfl,List.length_append,CC];exact hy) c2 henv
   ·rw [if_neg hb] at hy ⊢;simp only [AhZ,Ah0] at hy;obtain ⟨rfl,rfl,rfl⟩:=hy;exact ⟨k,rfl,hk 0 k k' (by rw [Nat.add_zero];omega) rfl rfl⟩
  obtain ⟨y,p1,p2⟩:=hkey;rw [p1];simp only;obtain ⟨t,q1,q2⟩:=hrd _ _ _ y y' (u+Al op i) t' s2 nd2 e2 (by rw [show ((u+Al op i:Nat):Int)=(u:Int)+(Al op i:Int) by omega];exact ht) p2
  rw [show ((u+Al op i:Nat):Int)=(u:Int)+(Al op i:Int) by omega] at q1
  rw [q1];simp only;cases hr:Bd rd f op u (i+1) l' s2 nd2 e2 with
  | none=>rw [hr] at h;cases h
  | some q =>
   obtain ⟨us',s3,nd3,e3⟩:=q;rw [hr] at h;simp only [Ah2,AhZ,Ah0] at h;obtain ⟨rfl,rfl,rfl,rfl⟩:=h;obtain ⟨us,r1,r2⟩:=Rn hd hrd op l l' (i+1) s2 nd2 e2 us' s3 nd3 e3 hr (by simpa using hl) (fun j v v' a b c=>hk (j+1) v v' (by rw [<- a];congr 1;omega) (by simpa using b) (by simpa using c)) (fun j x x' a b c=>by
    have:=hc (j+1) x x' (by rw [show i+(j+1)=i+1+j by omega];exact a) (by simpa using b) (by simpa using c)
    rw [show i+(j+1)=i+1+j by omega] at this
    exact this)
   rw [r1];refine ⟨t::us,rfl,?_⟩;rw [Tm.shiftL,r2,q2];rw [show ((u+Al op i+c:Nat):Int)=((u+c:Nat):Int)+(Al op i:Int) by omega]
 | [],_::_,_,_,_,_,_,_,_,_,_,hl,_,_=>by simp at hl
 | _::_,[],_,_,_,_,_,_,_,_,_,hl,_,_=>by simp at hl
theorem UQ (d c:Nat) (hd:d<=1000000):∀f s nd e v v' (u:Nat) dd t' s' nd' e',AT f s nd e v' u dd=some (t',s',nd',e')->ShR d c v v'->∃t,AT f s nd e v u dd=some (t,s',nd',e')/\t'=t.shift d (u+c:Nat):=by
 intro f
 induction f with
 | zero=>intro s nd e v v' u dd t' s' nd' e' h;rw [AT] at h;cases h
 | succ f ih =>
  intro s nd e v v' u dd t' s' nd' e' h hs;rw [AT] at h ⊢;by_cases h1:v.op=1
  ·obtain ⟨n,n',rfl,rfl,hn⟩:∃n n':Int,v=.var n/\v'=.var n'/\(n < -(c:Int)/\n'=n - d∨-(c:Int)<=n/\n'=n):=by
    cases hs with
    | neg n hn=>exact ⟨n,_,rfl,rfl,.inl ⟨hn,rfl⟩⟩
    | pos n hn=>exact ⟨n,n,rfl,rfl,.inr ⟨hn,rfl⟩⟩
    | node op n k k' h1'=>exact absurd h1 h1'
   rw [show (RV.var n').n=n' from rfl,show (RV.var n').k=[] from rfl,show (RV.var n').op=1 from rfl,List.length_nil] at h
   rw [show (RV.var n).n=n from rfl,show (RV.var n).k=[] from rfl,show (RV.var n).op=1 from rfl,List.length_nil]
   by_cases hb:nd<0\/1000000<nd\/(u:Int)<0\/1000000<(u:Int)\/dd<0\/1000000<dd\/n' < -2305843009213693952\/2305843009213693952<n'\/f<=0\/900000<0\/f<=3
   ·rw [if_pos hb] at h;cases h
   rw [if_neg hb] at h;rw [if_neg (by omega)];by_cases hne:(if e=0/\(3000<nd+1\/120<dd) then (5:Int) else e)≠0
   ·rw [if_pos hne] at h ⊢;simp only [AhZ,Ah0] at h;obtain ⟨rfl,rfl,rfl,rfl⟩:=h;exact ⟨_,rfl,rfl⟩
   ·rw [if_neg hne,if_pos rfl] at h ⊢;simp only [AhZ,Ah0] at h;obtain ⟨rfl,rfl,rfl,rfl⟩:=h;refine ⟨_,rfl,?_⟩;rw [Tm.shift,Tm.shiftL];rcases hn with ⟨hn,rfl⟩ | ⟨hn,rfl⟩
    ·rw [if_pos ⟨rfl,by omega⟩,Az (by omega) (by omega)];congr 1;omega
    ·rw [if_neg (by omega)]
  obtain ⟨a1,a2⟩:=HK hs;rw [a1] at h;split at h
  ·cases h
  rename_i hbad
  ·obtain ⟨a3,a4,a5,a6,a7,a8⟩:=a2 h1
   first | rw [if_neg h1] at h | skip
   rw [if_neg h1];rw [a3,a4] at hbad;rw [a3] at h;rw [if_neg hbad];by_cases hne:(if e=0/\(3000<nd+1\/120<dd) then (5:Int) else e)≠0
   ·rw [if_pos hne] at h ⊢;simp only [AhZ,Ah0] at h;obtain ⟨rfl,rfl,rfl,rfl⟩:=h;exact ⟨_,rfl,rfl⟩
   ·rw [if_neg hne] at h ⊢;cases hr:Bd (fun s nd e k u=>AT f s nd e k u (dd+1)) f v.op u 0 v'.k s (nd+1) 0 with
    | none=>rw [hr] at h;cases h
    | some q =>
     obtain ⟨us',s3,nd3,e3⟩:=q;rw [hr] at h;simp only [Ah2,AhZ,Ah0] at h;obtain ⟨rfl,rfl,rfl,rfl⟩:=h;obtain ⟨us,r1,r2⟩:=Rn hd (rd:=fun s nd e k u=>AT f s nd e k u (dd+1)) (fun s nd e v v' u t' s' nd' e' a b=>ih s nd e v v' u (dd+1) t' s' nd' e' a b) v.op v.k v'.k 0 s (nd+1) 0 us' s3 nd3 e3 hr a4 (fun j x x' a b c=>a7 j x x' (by rw [<- a];congr 1;omega) b c) (fun j x x' a b c=>by
      rw [Nat.zero_add] at a ⊢;exact a8 j x x' a b c)
     rw [r1];refine ⟨_,rfl,?_⟩;rw [Tm.shift,if_neg (fun h=>h1 h.1),r2]
theorem Tu {d c:Nat} (hd:d<=1000000) {f:Nat} {t u':Tm} {e':Int} (h:AE f (t.shift d c)=some (u',e')) (hvb:t.vb):∃u,AE f t=some (u,e')/\u'=u.shift d c:=by
 rw [AE] at h ⊢;split at h
 ·cases h
 rename_i v' s e he;obtain ⟨v,p1,p2⟩:=(Qq d c hd f).1 0 0 t [] [] v' s e (by simpa [xD] using he) hvb ⟨⟨Nat.le_refl _,.inr rfl⟩,fun j x x' a=>by simp at a⟩;rw [p1];simp only;split at h
 ·cases h
 rename_i w' s2 nd2 e2 hr;obtain ⟨w,q1,q2⟩:=UQ d c hd f s 0 e v v' 0 1 w' s2 nd2 e2 (by simpa using hr) p2;rw [show ((0:Nat):Int)=0 from rfl] at q1
 rw [Nat.zero_add] at q2;rw [q1];simp only [AhZ] at h ⊢;by_cases h2:e2≠0
 ·rw [if_pos h2] at h ⊢;simp only [Ah0] at h;obtain ⟨rfl,rfl⟩:=h;exact ⟨_,rfl,rfl⟩
 ·rw [if_neg h2] at h ⊢;simp only [Ah0] at h;obtain ⟨rfl,rfl⟩:=h;exact ⟨_,rfl,q2⟩
theorem NM {d:Nat} (hd:d<=1000000) {f:Nat} {t u':Tm} {e':Int} (h:AE f (t.shift d 0)=some (u',e')) (hvb:t.vb):∃u,AE f t=some (u,e')/\u'=u.shift d 0:=Tu (c:=0) hd h hvb
def Hit (g:A8) (st:Int) (a:Tm) (i:Nat):Prop:=i<g.length/\∃T f w,g[g.length - 1 - i]?=some (st,T)/\AE f (T.shift ((i+1:Nat):Int) 0)=some (w,0)/\w.eta=a.eta
inductive Gr:Nat->Nat->A8->Tm->Tm->Prop
 | tnat (e:Nat) (g:A8) (a:Tm):Gr 0 e g a (.mk 10 0 [])
 | tty (e:Nat) (g:A8) (a:Tm):Gr 0 e g a (.mk 14 0 [])
 | tu (e:Nat) (g:A8) (a:Tm):Gr 0 e g a (.mk 2 0 [])
 | tlp (e:Nat) (g:A8) (a r:Tm):Gr 0 e g a (.mk 18 0 [r.plainT 1])
 | tpi (e:Nat) (g:A8) (a x y:Tm) (op:Int) (ho:op=3\/op=6) (h6:6<=e) (hgl:g.length<=60) (hx:AOk g.length x) (h1:Gr 0 (e - 1) g .z x) (h2:Gr 0 (e - 1) (g++[(1,x)]) .z y):Gr 0 e g a (.mk op 0 [x,y])
 | tlift (e:Nat) (g:A8) (a t:Tm) (h6:6<=e) (h1:Gr 1 (e - 1) g (.mk 14 0 []) t):Gr 0 e g a (.mk 18 0 [t])
 | grow (e:Nat) (g:A8) (a0 a t:Tm) (f:Nat) (hn:AE f a0=some (a,0)) (hg:g.length<=60) (ha:NOk g.length a) (h1:Gr 3 e g a t):Gr 1 e g a0 t
 | objc (e:Nat) (g:A8) (a0 a t:Tm) (f:Nat) (hn:AE f a0=some (a,0)) (hg:g.length<=60) (ha:NOk g.length a) (h1:Gr 4 e g a t):Gr 2 e g a0 t
 | var1 (e:Nat) (g:A8) (a:Tm) (i:Nat) (h:Hit g 1 a i):Gr 3 e g a (.mk 1 i [])
 | var0 (e:Nat) (g:A8) (a:Tm) (i:Nat) (h:Hit g 0 a i):Gr 4 e g a (.mk 1 i [])
 | fst (e:Nat) (g:A8) (a b c x:Tm) (h6:6<=e) (hb:AOk g.length b) (h1:Gr 0 6 g .z b) (h2:Gr 1 (e - 2) g b x) (h3:Gr 1 (e - 2) g a c):Gr 3 e g a (.mk 8 0 [.mk 7 0 [.mk 6 0 [a,b.shift 1 0],c,x]])
 | app (e:Nat) (g:A8) (a b c x:Tm) (h6:6<=e) (hb:AOk g.length b) (h1:Gr 0 6 g .z b) (h2:Gr 1 (e - 2) g b x) (h3:Gr 1 (e - 2) (g++[(1,b)]) (a.shift 1 0) c):Gr 3 e g a (.mk 5 0 [.mk 4 0 [b,c],x])
 | recc (e:Nat) (g:A8) (a n z s:Tm) (h6:6<=e) (ha:a.op=10\/a.op=14) (h1:Gr 1 (e - 2) g (.mk 10 0 []) n) (h2:Gr 1 (e - 2) g a z) (h3:Gr 1 (e - 2) (g++[(1,.mk 10 0 [])]++[(1,a.shift 1 0)]) (a.shift 2 0) s):Gr 3 e g a (.mk 13 0 [a.shift 1 0,z,s,n])
 | suc (e:Nat) (g:A8) (a n:Tm) (h6:6<=e) (ha:a.op=10) (h1:Gr 1 (e - 1) g a n):Gr 3 e g a (.mk 12 0 [n])
 | num (e:Nat) (g:A8) (a:Tm) (j:Nat) (ha:a.op=10) (hj:j<=3):Gr 3 e g a (GQ j)
 | tint (e:Nat) (g:A8) (a:Tm) (ha:a.op=14):Gr 3 e g a (.mk 15 0 [])
 | tfun (e:Nat) (g:A8) (a x y:Tm) (op:Int) (ho:op=16\/op=17) (h6:6<=e) (ha:a.op=14) (h1:Gr 1 (e - 1) g a x) (h2:Gr 1 (e - 1) g a y):Gr 3 e g a (.mk op 0 [x,y])
 | uni (e:Nat) (g:A8) (a:Tm) (n:Int) (ha:a.op=2) (hp:0<a.n):Gr 3 e g a (.mk 2 n [])
 | unat (e:Nat) (g:A8) (a:Tm) (ha:a.op=2):Gr 3 e g a (.mk 10 0 [])
 | uty (e:Nat) (g:A8) (a:Tm) (ha:a.op=2):Gr 3 e g a (.mk 14 0 [])
 | ult (e:Nat) (g:A8) (a:Tm) (ha:a.op=2):Gr 3 e g a (.mk 18 0 [.mk 15 0 []])
 | upi (e:Nat) (g:A8) (a x y:Tm) (op:Int) (ho:op=3\/op=6) (h6:6<=e) (ha:a.op=2) (hx:AOk g.length x) (h1:Gr 1 (e - 1) g a x) (h2:Gr 1 (e - 1) (g++[(1,x)]) a y):Gr 3 e g a (.mk op 0 [x,y])
 | lam (e:Nat) (g:A8) (n:Int) (d c x:Tm) (h1:Gr 1 (e - 1) (g++[(1,d)]) c x):Gr 3 e g (.mk 3 n [d,c]) (.mk 4 0 [d,x])
 | pair (e:Nat) (g:A8) (n:Int) (d c x y:Tm) (hx:AOk g.length x) (h1:Gr 1 (e - 1) g d x) (h2:Gr 1 (e - 1) g (c.subst 0 0 x) y):Gr 3 e g (.mk 6 n [d,c]) (.mk 7 0 [.mk 6 n [d,c],x,y])
 | quo (e:Nat) (g:A8) (n:Int) (d x:Tm) (h1:Gr 2 (e - 1) g d x):Gr 3 e g (.mk 18 n [d]) (.mk 19 0 [x])
 | oif (e:Nat) (g:A8) (a c x y:Tm) (h6:6<=e) (h1:Gr 2 (e - 2) g (.mk 15 0 []) c) (h2:Gr 2 (e - 2) g a x) (h3:Gr 2 (e - 2) g a y):Gr 4 e g a (.mk 27 0 [c,x,y])
 | olet (e:Nat) (g:A8) (a r x y:Tm) (h6:6<=e) (h1:Gr 2 (e - 2) g (r.plainT 1) x) (h2:Gr 2 (e - 2) (g++[(0,r.plainT 1)]) (a.shift 1 0) y):Gr 4 e g a (.mk 28 0 [x,y])
 | oapp (e:Nat) (g:A8) (a r x y:Tm) (h6:6<=e) (h1:Gr 2 (e - 2) g (r.plainT 1) x) (h2:Gr 2 (e - 2) (g++[(0,r.plainT 1)]) (a.shift 1 0) y):Gr 4 e g a (.mk 21 0 [.mk 20 0 [r.plainT 1,y],x])
 | ofst (e:Nat) (g:A8) (a x y:Tm) (h6:6<=e) (h1:Gr 2 (e - 2) g a x) (h2:Gr 2 (e - 2) g (.mk 15 0 []) y):Gr 4 e g a (.mk 23 0 [.mk 22 0 [x,y]])
 | ofix (e:Nat) (g:A8) (a x:Tm) (h6:6<=e) (h1:Gr 2 (e - 2) (g++[(0,a)]) (a.shift 1 0) x):Gr 4 e g a (.mk 29 0 [a,x])
 | spl (e:Nat) (g:A8) (a x:Tm) (h6:6<=e) (h1:Gr 1 (e - 1) g (.mk 18 0 [a]) x):Gr 4 e g a (.mk 30 0 [x])
 | oint (e:Nat) (g:A8) (a:Tm) (n:Int) (ha:a.op=15):Gr 4 e g a (.mk 25 n [])
 | oprim (e:Nat) (g:A8) (a p q:Tm) (n:Int) (h6:6<=e) (ha:a.op=15) (h1:Gr 2 (e - 1) g a p) (h2:Gr 2 (e - 1) g a q):Gr 4 e g a (.mk 26 n [p,q])
 | olam (e:Nat) (g:A8) (n:Int) (d c b:Tm) (h1:Gr 2 (e - 1) (g++[(0,d)]) (c.shift 1 0) b):Gr 4 e g (.mk 16 n [d,c]) (.mk 20 0 [d,b])
 | opair (e:Nat) (g:A8) (n:Int) (d c p q:Tm) (h1:Gr 2 (e - 1) g d p) (h2:Gr 2 (e - 1) g c q):Gr 4 e g (.mk 17 n [d,c]) (.mk 22 0 [p,q])
theorem Pa:∀k,(GQ k).wt=k+1:=by
 intro k
 induction k with
 | zero=>rfl
 | succ k ih=>simp only [GQ,Tm.wt,Tm.wtL,ih];omega
def gB (op n:Int) (a:Tm):(Tm.mk op n [a]).dp=1+a.dp:=by simp only [Tm.dp,Tm.dpL];omega
def Ly (op n:Int) (a b:Tm):(Tm.mk op n [a,b]).dp=1+max a.dp b.dp:=by simp only [Tm.dp,Tm.dpL];omega
def dp3 (op n:Int) (a b c:Tm):(Tm.mk op n [a,b,c]).dp=1+max a.dp (max b.dp c.dp):=by simp only [Tm.dp,Tm.dpL];omega
def dp4 (op n:Int) (a b c d:Tm):(Tm.mk op n [a,b,c,d]).dp=1+max a.dp (max b.dp (max c.dp d.dp)):=by simp only [Tm.dp,Tm.dpL];omega
def Ll (op n:Int) (a:Tm):(Tm.mk op n [a]).wt=1+a.wt:=by simp only [Tm.wt,Tm.wtL];omega
def D1 (op n:Int) (a b:Tm):(Tm.mk op n [a,b]).wt=1+a.wt+b.wt:=by simp only [Tm.wt,Tm.wtL];omega
def oB (op n:Int) (a b c:Tm):(Tm.mk op n [a,b,c]).wt=1+a.wt+b.wt+c.wt:=by simp only [Tm.wt,Tm.wtL];omega
def wt4 (op n:Int) (a b c d:Tm):(Tm.mk op n [a,b,c,d]).wt=1+a.wt+b.wt+c.wt+d.wt:=by simp only [Tm.wt,Tm.wtL];omega
def Lc {P0 P1 P2 P3 P4:Prop} (h:P0):(0=0->P0)/\(0=1->P1)/\(0=2->P2)/\(0=3->P3)/\(0=4->P4):=⟨fun _=>h,nofun,nofun,nofun,nofun⟩
def AaL {P0 P1 P2 P3 P4:Prop} (h:P1):(1=0->P0)/\(1=1->P1)/\(1=2->P2)/\(1=3->P3)/\(1=4->P4):=⟨nofun,fun _=>h,nofun,nofun,nofun⟩
def AbA {P0 P1 P2 P3 P4:Prop} (h:P2):(2=0->P0)/\(2=1->P1)/\(2=2->P2)/\(2=3->P3)/\(2=4->P4):=⟨nofun,nofun,fun _=>h,nofun,nofun⟩
def Df {P0 P1 P2 P3 P4:Prop} (h:P3):(3=0->P0)/\(3=1->P1)/\(3=2->P2)/\(3=3->P3)/\(3=4->P4):=⟨nofun,nofun,nofun,fun _=>h,nofun⟩
def FL {P0 P1 P2 P3 P4:Prop} (h:P4):(4=0->P0)/\(4=1->P1)/\(4=2->P2)/\(4=3->P3)/\(4=4->P4):=⟨nofun,nofun,nofun,nofun,fun _=>h⟩
structure CtxT (g:A8) (G:List Nat):Prop where
 len:G.length=g.length
 ok:∀(i:Nat) (st:Int) (T:Tm),i<g.length->g[g.length - 1 - i]?=some (st,T)->∃s,G[i]?=some s/\s<10/\(st=0->s=6)/\(st=1->T.vb/\∀f w,AE f T=some (w,0)->w.op≠4/\w.op≠7/\∀τ,J9 w.op=some τ->s=τ)
def dM:CtxT [] []:=⟨rfl,fun i st T h=>by simp at h⟩
theorem Fc {g:A8} {G:List Nat} (h:CtxT g G) (st:Int) (T:Tm) (s:Nat) (hs:s<10) (h0:st=0->s=6) (h1:st=1->T.vb/\∀f w,AE f T=some (w,0)->w.op≠4/\w.op≠7/\∀τ,J9 w.op=some τ->s=τ):CtxT (g++[(st,T)]) (s::G):=by
 refine ⟨by simp [h.len],?_⟩;intro i st' T' hi hg;rw [List.length_append,Ah3,List.length_nil] at hi hg;cases i with
 | zero =>
  rw [Ah8 (by omega),show g.length+(0+1) - 1 - 0 - g.length=0 by omega] at hg
  simp only [Aib,AhZ,Ah0] at hg;obtain ⟨rfl,rfl⟩:=hg;exact ⟨s,rfl,hs,h0,h1⟩
 | succ i =>
  rw [Ah9 (by omega),show g.length+(0+1) - 1 - (i+1)=g.length - 1 - i by omega] at hg
  rw [Aic];exact h.ok i st' T' (by omega) hg
def Ku {k:Nat} {a:Tm} (h:AOk k a) (hk:k<=1000):a.vb:=Ij a k h.sc (by have:=h.wt;omega)
def d6 {op:Int} {s:Nat} (h:J9 op=some s):op≠4/\op≠7:=by constructor<;>(rintro rfl;simp [J9] at h)
def D6 {g:A8} {G:List Nat} (h:CtxT g G) {T:Tm} {s:Nat} (hT:HasT G T (10+s)) (hv:T.vb):CtxT (g++[(1,T)]) (s::G):=by
 have hs:=(BX hT).2;refine Fc h 1 T s (by omega) (by omega) (fun _=>⟨hv,fun f w hw=>?_⟩)
 have:=(BX (AZ (B3 hw hT))).1
 have hne:=d6 this;exact ⟨hne.1,hne.2,fun τ hτ=>by rw [this] at hτ;exact Option.some.inj hτ⟩
def E9 {g:A8} {G:List Nat} (h:CtxT g G) (T:Tm):CtxT (g++[(0,T)]) (6::G):=Fc h 0 T 6 (by omega) (fun _=>rfl) (by omega)
def Z0 {op:Int} {s:Nat} (h:J9 op=some s):s<6:=by
 unfold J9 at h
 repeat' (split at h)
 all_goals first | (cases h;done) | (simp only [AhZ] at h;omega)
def tI {g:A8} {G:List Nat} (h:CtxT g G) {T:Tm} (hT:HasT G T 2) (hv:T.vb):∃s,s<10/\CtxT (g++[(1,T)]) (s::G):=by
 have hne:∀f w,AE f T=some (w,0)->w.op≠4/\w.op≠7:=by
  intro f w hw
  have:=B3 hw hT
  cases this with
  | var=>simp only [Tm.op];omega
  | node _ op n ks _ sg hr =>simp only [Tm.op];cases hr<;>decide
 by_cases hex:∃f w s,AE f T=some (w,0)/\J9 w.op=some s
 ·obtain ⟨f,w,s,hw,hs⟩:=hex;have hlt:=Z0 hs;refine ⟨s,by omega,Fc h 1 T s (by omega) (by omega) (fun _=>⟨hv,fun f' w' hw'=>⟨(hne f' w' hw').1,(hne f' w' hw').2,fun τ hτ=>?_⟩⟩)⟩
  have:=CA hw hw'
  simp only [Ah0,and_true] at this;subst this;rw [hs] at hτ;exact Option.some.inj hτ
 ·exact ⟨7,by omega,Fc h 1 T 7 (by omega) (by omega) (fun _=>⟨hv,fun f' w' hw'=>⟨(hne f' w' hw').1,(hne f' w' hw').2,fun τ hτ=>absurd ⟨f',w',τ,hw',hτ⟩ hex⟩⟩)⟩
def ZV {t:Tm} (h4:t.op≠4) (h7:t.op≠7):t.eta.op=t.op:=by obtain ⟨op,n,ks⟩:=t;simp only [Tm.op] at h4 h7;rw [Tm.eta,if_neg h4,if_neg h7];rfl
def LX (t:Tm) (d c:Int):(t.shift d c).op=t.op:=by obtain ⟨op,n,ks⟩:=t;rw [Tm.shift];rfl
def Y2 {g:A8} {G:List Nat} (h:CtxT g G) (hl:g.length<=1000) {st:Int} {a:Tm} {i:Nat} (hh:Hit g st a i):(st=0->HasT G (.mk 1 i []) 6)/\(st=1->∀s,J9 a.op=some s->HasT G (.mk 1 i []) s):=by
 obtain ⟨hi,T,f,w,hg,hn,he⟩:=hh;obtain ⟨s,h1,h2,h3,h4⟩:=h.ok i st T hi hg;refine ⟨fun h0=>?_,fun h0 s' hs'=>?_⟩
 ·have:=h3 h0
  subst this;exact .var _ _ _ (by omega) (by simpa using h1) (by omega)
 ·obtain ⟨hv,h5⟩:=h4 h0;obtain ⟨w0,q1,q2⟩:=NM (d:=i+1) (by omega) hn hv;obtain ⟨n4,n7,h6⟩:=h5 f w0 q1;have ha:=d6 hs';have e1:w.op=w0.op:=by rw [q2,LX]
  have e2:w.op=a.op:=by have e3:=ZV (t:=w) (by rw [e1];exact n4) (by rw [e1];exact n7);have e4:=ZV (t:=a) ha.1 ha.2;rw [<- e3,he,e4]
  have:=h6 s' (by rw [<- e1,e2];exact hs')
  subst this;exact .var _ _ _ (by omega) (by simpa using h1) h2
def ht0 {G:List Nat} {op n:Int} {s:Nat} (h:Rule op s []):HasT G (.mk op n []) s:=.node _ _ _ _ _ _ h rfl (fun i t bs s' a=>by simp at a)
theorem gD {G:List Nat} {op n:Int} {s:Nat} {b0:List Nat} {s0:Nat} {x:Tm} (h:Rule op s [(b0,s0)]) (hx:HasT (b0++G) x s0):HasT G (.mk op n [x]) s:=.node _ _ _ _ _ _ h rfl (fun i t bs s' a b=>by
 match i with
 | 0=>simp at a b;obtain ⟨rfl,rfl⟩:=b;subst a;exact hx
 | i+1=>simp at a)
theorem ht2 {G:List Nat} {op n:Int} {s:Nat} {b0 b1:List Nat} {s0 s1:Nat} {x y:Tm} (h:Rule op s [(b0,s0),(b1,s1)]) (hx:HasT (b0++G) x s0) (hy:HasT (b1++G) y s1):HasT G (.mk op n [x,y]) s:=.node _ _ _ _ _ _ h rfl (fun i t bs s' a b=>by
 match i with
 | 0=>simp at a b;obtain ⟨rfl,rfl⟩:=b;subst a;exact hx
 | 1=>simp at a b;obtain ⟨rfl,rfl⟩:=b;subst a;exact hy
 | i+2=>simp at a)
theorem ht3 {G:List Nat} {op n:Int} {s:Nat} {b0 b1 b2:List Nat} {s0 s1 s2:Nat} {x y z:Tm} (h:Rule op s [(b0,s0),(b1,s1),(b2,s2)]) (hx:HasT (b0++G) x s0) (hy:HasT (b1++G) y s1) (hz:HasT (b2++G) z s2):HasT G (.mk op n [x,y,z]) s:=.node _ _ _ _ _ _ h rfl (fun i t bs s' a b=>by
 match i with
 | 0=>simp at a b;obtain ⟨rfl,rfl⟩:=b;subst a;exact hx
 | 1=>simp at a b;obtain ⟨rfl,rfl⟩:=b;subst a;exact hy
 | 2=>simp at a b;obtain ⟨rfl,rfl⟩:=b;subst a;exact hz
 | i+3=>simp at a)
theorem ht4 {G:List Nat} {op n:Int} {s:Nat} {b0 b1 b2 b3:List Nat} {s0 s1 s2 s3:Nat} {x y z w:Tm} (h:Rule op s [(b0,s0),(b1,s1),(b2,s2),(b3,s3)]) (hx:HasT (b0++G) x s0) (hy:HasT (b1++G) y s1) (hz:HasT (b2++G) z s2) (hw:HasT (b3++G) w s3):HasT G (.mk op n [x,y,z,w]) s:=.node _ _ _ _ _ _ h rfl (fun i t bs s' a b=>by
 match i with
 | 0=>simp at a b;obtain ⟨rfl,rfl⟩:=b;subst a;exact hx
 | 1=>simp at a b;obtain ⟨rfl,rfl⟩:=b;subst a;exact hy
 | 2=>simp at a b;obtain ⟨rfl,rfl⟩:=b;subst a;exact hz
 | 3=>simp at a b;obtain ⟨rfl,rfl⟩:=b;subst a;exact hw
 | i+4=>simp at a)
theorem BS (G:List Nat):∀(d:Nat) (r:Tm),HasT G (r.plainT d) 1
 | 0,r=>by rw [Tm.plainT];exact ht0 .tint
 | d+1,r=>by
  have h1:=Int.emod_nonneg r.n (show (4:Int)≠0 by decide)
  have h2:=Int.emod_lt_of_pos r.n (show (0:Int)<4 by decide)
  rw [Tm.plainT];split
  ·exact ht0 .tint
  ·have h3:16+r.n % 4 - 2=16\/16+r.n % 4 - 2=17:=by omega
   rcases h3 with h3 | h3<;>rw [h3]
   ·exact ht2 .tfun (BS _ d _) (BS _ d _)
   ·exact ht2 .tpro (BS _ d _) (BS _ d _)
theorem ZI (G:List Nat):∀j,HasT G (GQ j) 0
 | 0=>ht0 .zero
 | j+1=>gD .suc (ZI G j)
def U7 {G:List Nat} {n:Int} {d c:Tm} {op:Int} (ho:op=3\/op=6) {s:Nat} (h:HasT G (.mk op n [d,c]) (10+s)):(s=4/\op=3\/s=5/\op=6)/\∃a b,a<6/\b<6/\HasT G d (10+a)/\HasT (a::G) c (10+b):=by
 generalize hq:10+s=q at h;rcases ho with rfl | rfl
 ·cases h with
  | node _ _ _ _ _ sg hr hl hk =>
   cases hr with
   | piT a b ha hb=>exact ⟨by omega,a,b,ha,hb,hk 0 d [] (10+a) rfl rfl,hk 1 c [a] (10+b) rfl rfl⟩
   | piU=>omega
 ·cases h with
  | node _ _ _ _ _ sg hr hl hk =>
   cases hr with
   | sigT a b ha hb=>exact ⟨by omega,a,b,ha,hb,hk 0 d [] (10+a) rfl rfl,hk 1 c [a] (10+b) rfl rfl⟩
   | sigU=>omega
theorem U6 {G:List Nat} {n:Int} {d:Tm} {s:Nat} (h:HasT G (.mk 18 n [d]) (10+s)):s=3/\HasT G d 1:=by
 generalize hq:10+s=q at h;cases h with
 | node _ _ _ _ _ sg hr hl hk =>
  cases hr with
  | liftT=>exact ⟨by omega,hk 0 d [] 1 rfl rfl⟩
  | liftU=>omega
def LL {G:List Nat} {n:Int} {d c:Tm} {op:Int} (ho:op=16\/op=17) (h:HasT G (.mk op n [d,c]) 1):HasT G d 1/\HasT G c 1:=by
 rcases ho with rfl | rfl
 ·cases h with
  | node _ _ _ _ _ sg hr hl hk=>cases hr;exact ⟨hk 0 d [] 1 rfl rfl,hk 1 c [] 1 rfl rfl⟩
 ·cases h with
  | node _ _ _ _ _ sg hr hl hk=>cases hr;exact ⟨hk 0 d [] 1 rfl rfl,hk 1 c [] 1 rfl rfl⟩
def tR {g:A8} {G:List Nat} (h:CtxT g G) (hl:g.length<=1000) {t:Tm} {s:Nat} (ht:HasT G t s) (hw:t.wt<=1000000000000000) (x:Nat):HasT (x::G) (t.shift 1 0) s:=EV ht [x] (by rw [h.len];simp only [Ah3,List.length_nil];omega)
def up2 {g:A8} {G:List Nat} (h:CtxT g G) (hl:g.length<=1000) {t:Tm} {s:Nat} (ht:HasT G t s) (hw:t.wt<=1000000000000000) (x y:Nat):HasT (x::y::G) (t.shift 2 0) s:=EV ht [x,y] (by rw [h.len];simp only [Ah3,List.length_nil];omega)
theorem JV {k e:Nat} {g:A8} {a t:Tm} (h:Gr k e g a t):∀G,CtxT g G ->
  (k=0->∃s,s<6/\HasT G t (10+s))/\(k=1->∀s,HasT G a (10+s)->HasT G t s)/\(k=2->HasT G a 1->HasT G t 6) /\
  (k=3->g.length<=60->NOk g.length a->∀s,HasT G a (10+s)->HasT G t s)/\(k=4->g.length<=60->NOk g.length a->HasT G a 1->HasT G t 6):=by
 induction h with
 | tnat e g a=>intro G hG;exact Lc (⟨0,by omega,ht0 .natT⟩)
 | tty e g a=>intro G hG;exact Lc (⟨1,by omega,ht0 .tyT⟩)
 | tu e g a=>intro G hG;exact Lc (⟨2,by omega,ht0 .uT⟩)
 | tlp e g a r=>intro G hG;exact Lc (⟨3,by omega,gD .liftT (BS _ 1 r)⟩)
 | tpi e g a x y op ho h6 hgl hx h1 h2 ih1 ih2 =>
  intro G hG;refine Lc ?_;obtain ⟨s1,q1,q2⟩:=(ih1 G hG).1 rfl;have hvb:x.vb:=by
   have:=hx.wt
   exact Ij x g.length hx.sc (by have:=hG.len;omega)
  obtain ⟨s2,q3,q4⟩:=(ih2 (s1::G) (D6 hG q2 hvb)).1 rfl;rcases ho with rfl | rfl
  ·exact ⟨4,by omega,ht2 (.piT s1 s2 q1 q3) q2 q4⟩
  ·exact ⟨5,by omega,ht2 (.sigT s1 s2 q1 q3) q2 q4⟩
 | tlift e g a t h6 h1 ih =>intro G hG;exact Lc (⟨3,by omega,gD .liftT ((ih G hG).2.1 rfl 1 (ht0 .tyT))⟩)
 | grow e g a0 a t f hn hg ha h1 ih =>intro G hG;exact AaL fun s hs=>(ih G hG).2.2.2.1 rfl hg ha s (AZ (B3 hn hs))
 | objc e g a0 a t f hn hg ha h1 ih =>intro G hG;exact AbA fun hs=>(ih G hG).2.2.2.2 rfl hg ha (AZ (B3 hn hs))
 | var1 e g a i h =>intro G hG;exact Df fun hl ha s hs=>(Y2 hG (by omega) h).2 rfl s (BX hs).1
 | var0 e g a i h =>intro G hG;exact FL fun hl ha hs=>(Y2 hG (by omega) h).1 rfl
 | fst e g a b c x h6 hb h1 h2 h3 ih1 ih2 ih3 =>intro G hG;refine Df fun hl ha s hs=>?_;obtain ⟨s1,q1,q2⟩:=(ih1 G hG).1 rfl;have hx:=(ih2 G hG).2.1 rfl s1 q2;have hc:=(ih3 G hG).2.1 rfl s hs;exact .fst _ _ _ _ _ _ s s1 2 (by have:=(BX hs).2;omega) (ht2 (.sigU 0 (10+s) (10+s1) (by omega) (by omega)) hs (tR hG (by omega) q2 hb.wt 0)) hc hx
 | app e g a b c x h6 hb h1 h2 h3 ih1 ih2 ih3 =>intro G hG;refine Df fun hl ha s hs=>?_;obtain ⟨s1,q1,q2⟩:=(ih1 G hG).1 rfl;have hx:=(ih2 G hG).2.1 rfl s1 q2;have hc:=(ih3 (s1::G) (D6 hG q2 (Ku hb (by omega)))).2.1 rfl s (tR hG (by omega) hs (by have:=ha.wt;omega) s1);exact .app _ _ _ _ _ _ s1 s (10+s1) (by have:=(BX hs).2;omega) (by omega) q2 hc hx
 | recc e g a n z s h6 ha h1 h2 h3 ih1 ih2 ih3 =>
  intro G hG;refine Df fun hl hna σ hs=>?_;have hn:=(ih1 G hG).2.1 rfl 0 (ht0 .natT);have hz:=(ih2 G hG).2.1 rfl σ hs;have hs1:=tR hG (by omega) hs (by have:=hna.wt;omega) 0;have g1:=D6 hG (T:=.mk 10 0 []) (s:=0) (ht0 .natT) (by simp [Tm.vb,Tm.vbL]);have g2:=D6 g1 hs1 (Ij _ (g.length+1) (CG a 1 0 g.length hna.sc (by have:=hna.wt;omega)) (by rw [Bl];have:=hna.wt;omega));have hs3:=(ih3 _ g2).2.1 rfl σ (up2 hG (by omega) hs (by have:=hna.wt;omega) σ 0);have h01:σ=0\/σ=1:=by
   have:=(BX hs).1
   rcases ha with ha | ha<;>rw [ha] at this<;>simp [J9] at this<;>omega
  exact ht4 (.recR σ (by omega)) hs1 hz hs3 hn
 | suc e g a n h6 ha h1 ih =>
  intro G hG;refine Df fun hl hna s hs=>?_;have h0:s=0:=by
   have:=(BX hs).1
   rw [ha] at this;simp [J9] at this;omega
  subst h0;exact gD .suc ((ih G hG).2.1 rfl 0 hs)
 | num e g a j ha hj =>
  intro G hG;refine Df fun hl hna s hs=>?_;have h0:s=0:=by
   have:=(BX hs).1
   rw [ha] at this;simp [J9] at this;omega
  subst h0;exact ZI _ j
 | tint e g a ha =>
  intro G hG;refine Df fun hl hna s hs=>?_;have h0:s=1:=by
   have:=(BX hs).1
   rw [ha] at this;simp [J9] at this;omega
  subst h0;exact ht0 .tint
 | tfun e g a x y op ho h6 ha h1 h2 ih1 ih2 =>
  intro G hG;refine Df fun hl hna s hs=>?_;have h0:s=1:=by
   have:=(BX hs).1
   rw [ha] at this;simp [J9] at this;omega
  subst h0;have q1:=(ih1 G hG).2.1 rfl 1 hs;have q2:=(ih2 G hG).2.1 rfl 1 hs;rcases ho with rfl | rfl
  ·exact ht2 .tfun q1 q2
  ·exact ht2 .tpro q1 q2
 | uni e g a n ha hp =>
  intro G hG;refine Df fun hl hna s hs=>?_;have h0:s=2:=by
   have:=(BX hs).1
   rw [ha] at this;simp [J9] at this;omega
  subst h0;exact ht0 .uU
 | unat e g a ha =>
  intro G hG;refine Df fun hl hna s hs=>?_;have h0:s=2:=by
   have:=(BX hs).1
   rw [ha] at this;simp [J9] at this;omega
  subst h0;exact ht0 .natU
 | uty e g a ha =>
  intro G hG;refine Df fun hl hna s hs=>?_;have h0:s=2:=by
   have:=(BX hs).1
   rw [ha] at this;simp [J9] at this;omega
  subst h0;exact ht0 .tyU
 | ult e g a ha =>
  intro G hG;refine Df fun hl hna s hs=>?_;have h0:s=2:=by
   have:=(BX hs).1
   rw [ha] at this;simp [J9] at this;omega
  subst h0;exact gD .liftU (ht0 .tint)
 | upi e g a x y op ho h6 ha hx h1 h2 ih1 ih2 =>
  intro G hG;refine Df fun hl hna s hs=>?_;have h0:s=2:=by
   have:=(BX hs).1
   rw [ha] at this;simp [J9] at this;omega
  subst h0;have q1:=(ih1 G hG).2.1 rfl 2 hs;obtain ⟨s1,hs1,g1⟩:=tI hG q1 (Ku hx (by omega));have q2:=(ih2 _ g1).2.1 rfl 2 (by
   obtain ⟨oa,na,ka⟩:=a;simp only [Tm.op] at ha;subst ha;have hk:ka=[]:=by
    have:=hna.sc
    rw [Tm.sc] at this;exact Aia (Option.some.inj this.1.symm)
   subst hk;exact ht0 .uT)
  rcases ho with rfl | rfl
  ·exact ht2 (.piU s1 hs1) q1 q2
  ·exact ht2 (.sigU s1 2 2 hs1 (by omega)) q1 q2
 | lam e g n d c x h1 ih =>
  intro G hG;refine Df fun hl hna s hs=>?_;obtain ⟨h4,a1,b1,ha1,hb1,hd,hc⟩:=U7 (.inl rfl) hs;have h0:s=4:=by omega
  subst h0;have hna2:=hna.sc;have hnw:=hna.wt;rw [D1] at hnw;rw [Tm.sc] at hna2;have hvb:=Ij d g.length hna2.2.2.1 (by omega);exact ht2 (.lam a1 b1 (10+a1) (by omega)) hd ((ih _ (D6 hG hd hvb)).2.1 rfl b1 hc)
 | pair e g n d c x y hx h1 h2 ih1 ih2 =>
  intro G hG;refine Df fun hl hna s hs=>?_;obtain ⟨h5,a1,b1,ha1,hb1,hd,hc⟩:=U7 (.inr rfl) hs;have h0:s=5:=by omega
  subst h0;have hnw:=hna.wt;rw [D1] at hnw;have qx:=(ih1 G hG).2.1 rfl a1 hd;have hsub:=Mq hc [] G a1 x rfl qx (by have:=hx.wt;rw [hG.len];simp only [List.length_nil];omega);have qy:=(ih2 G hG).2.1 rfl b1 (by simpa using hsub);exact ht3 (.pair (10+5) a1 b1) hs qx qy
 | quo e g n d x h1 ih =>intro G hG;refine Df fun hl hna s hs=>?_;obtain ⟨h3,hd⟩:=U6 hs;subst h3;exact gD .quo ((ih G hG).2.2.1 rfl hd)
 | oif e g a c x y h6 h1 h2 h3 ih1 ih2 ih3 =>intro G hG;exact FL fun hl hna hs=>ht3 .oif ((ih1 G hG).2.2.1 rfl (ht0 .tint)) ((ih2 G hG).2.2.1 rfl hs) ((ih3 G hG).2.2.1 rfl hs)
 | olet e g a r x y h6 h1 h2 ih1 ih2 =>intro G hG;exact FL fun hl hna hs=>ht2 .olet ((ih1 G hG).2.2.1 rfl (BS _ 1 r)) ((ih2 _ (E9 hG _)).2.2.1 rfl (tR hG (by omega) hs (by have:=hna.wt;omega) 6))
 | oapp e g a r x y h6 h1 h2 ih1 ih2 =>intro G hG;exact FL fun hl hna hs=>ht2 .oapp (ht2 .olam (BS _ 1 r) ((ih2 _ (E9 hG _)).2.2.1 rfl (tR hG (by omega) hs (by have:=hna.wt;omega) 6))) ((ih1 G hG).2.2.1 rfl (BS _ 1 r))
 | ofst e g a x y h6 h1 h2 ih1 ih2 =>intro G hG;exact FL fun hl hna hs=>gD .ofst (ht2 .opair ((ih1 G hG).2.2.1 rfl hs) ((ih2 G hG).2.2.1 rfl (ht0 .tint)))
 | ofix e g a x h6 h1 ih =>intro G hG;exact FL fun hl hna hs=>ht2 .ofix hs ((ih _ (E9 hG _)).2.2.1 rfl (tR hG (by omega) hs (by have:=hna.wt;omega) 6))
 | spl e g a x h6 h1 ih =>intro G hG;exact FL fun hl hna hs=>gD .spl ((ih G hG).2.1 rfl 3 (gD .liftT hs))
 | oint e g a n ha =>intro G hG;exact FL fun hl hna hs=>ht0 .oint
 | oprim e g a p q n h6 ha h1 h2 ih1 ih2 =>intro G hG;exact FL fun hl hna hs=>ht2 .oprim ((ih1 G hG).2.2.1 rfl hs) ((ih2 G hG).2.2.1 rfl hs)
 | olam e g n d c b h1 ih =>intro G hG;refine FL fun hl hna hs=>?_;obtain ⟨hd,hc⟩:=LL (.inl rfl) hs;have hnw:=hna.wt;rw [D1] at hnw;exact ht2 .olam hd ((ih _ (E9 hG _)).2.2.1 rfl (tR hG (by omega) hc (by omega) 6))
 | opair e g n d c p q h1 h2 ih1 ih2 =>intro G hG;refine FL fun hl hna hs=>?_;obtain ⟨hd,hc⟩:=LL (.inr rfl) hs;exact ht2 .opair ((ih1 G hG).2.2.1 rfl hd) ((ih2 G hG).2.2.1 rfl hc)
inductive CtxG:A8->Prop
 | nil:CtxG []
 | ob (g:A8) (t:Tm) (h:CtxG g) (h1:Gr 1 7 g (.mk 14 0 []) t):CtxG (g++[(0,t)])
 | me (g:A8) (a:Tm) (h:CtxG g) (ha:AOk g.length a) (hl:g.length<=60) (h1:Gr 0 7 g .z a):CtxG (g++[(1,a)])
def Gu {k:Nat} {a:Tm} (hk:k<=1000) (h:a.sc k) (hd:a.dp<=20000):∃u e,Ev 24 [.fv a.enc] (.tuple [u.enc,.int .i64 e])/\(e=0/\NOk k u\/(e=5\/e=17)/\u=.z)/\∃f,AE f a=some (u,e):=by
 obtain ⟨f,u,e,h1,h2⟩:=IU (k:=k) (by omega) h (by have:=Xz a;omega);refine ⟨u,e,⟨f+2,fun n hn=>XT f a u e h1 n hn⟩,?_,f,h1⟩;rcases h2 with ⟨h3,h4,h5,h6⟩ | h2
 ·exact .inl ⟨h3,⟨h4,h5,h6⟩⟩
 ·exact .inr h2
structure TG (κ e:Nat) (g:A8) (a t:Tm) (b:Bool):Prop where
 sc:t.sc g.length
 wt:t.wt<=Wg e
 dp:t.dp<=Dg e
 gr:b=true->Gr κ e g a t
def tg {κ e:Nat} {g:A8} {a t:Tm} {b:Bool} (h:TOk g.length e t) (hg:b=true->Gr κ e g a t):TG κ e g a t b:=⟨h.sc,h.wt,h.dp,hg⟩
def bS {κ e:Nat} {g:A8} {a t:Tm} {b:Bool} (h:TG κ e g a t b) (he:e<=10):AOk g.length t:=⟨h.sc,by have:=h.wt;have:=Me he;omega,by have:=h.dp;unfold Dg at this;omega⟩
def cK {κ κ' e:Nat} {g:A8} {a a' t:Tm} {b:Bool} (h:TG κ e g a t b) (hg:Gr κ e g a t->Gr κ' e g a' t):TG κ' e g a' t b:=⟨h.sc,h.wt,h.dp,fun hb=>hg (h.gr hb)⟩
def Ki {p q:Bool} (h:(p && q)=true):p=true:=by cases p<;>simp_all
def IR {p q:Bool} (h:(p && q)=true):q=true:=by cases p<;>simp_all
def vT (i:Nat):Tm:=.mk 1 (i:Int) []
def upR (k:Nat) (ρ:Nat->Nat):Nat->Nat:=fun i=>if i<k then i else ρ (i - k)+k
mutual
def Tm.ren:Tm->(Nat->Nat)->Tm
 | .mk op n ks,ρ=>if op=1 then (if n<0\/ks.isEmpty=false then .mk op n ks else vT (ρ n.toNat)) else .mk op n (Tm.renL op 0 ks ρ)
def Tm.renL:Int->Nat->List Tm->(Nat->Nat)->List Tm
 | _,_,[],_=>[]
 | op,i,t::l,ρ=>t.ren (upR (Al op i) ρ)::Tm.renL op (i+1) l ρ
end
def upS (k:Nat) (σ:Nat->Tm):Nat->Tm:=fun i=>if i<k then vT i else (σ (i - k)).ren (fun j=>j+k)
mutual
def Tm.sub:Tm->(Nat->Tm)->Tm
 | .mk op n ks,σ=>if op=1 then (if n<0\/ks.isEmpty=false then .mk op n ks else σ n.toNat) else .mk op n (Tm.subL op 0 ks σ)
def Tm.subL:Int->Nat->List Tm->(Nat->Tm)->List Tm
 | _,_,[],_=>[]
 | op,i,t::l,σ=>t.sub (upS (Al op i) σ)::Tm.subL op (i+1) l σ
end
def s1 (x:Tm):Nat->Tm
 | 0=>x
 | j+1=>vT j
def s2 (r k:Tm):Nat->Tm
 | 0=>r
 | 1=>k
 | j+2=>vT j
inductive Par:Tm->Tm->Prop
 | var (n:Int) (ks:List Tm):Par (.mk 1 n ks) (.mk 1 n ks)
 | node (op n:Int) (ks ks':List Tm) (h1:op≠1) (hl:ks'.length=ks.length) (hk:∀(i:Nat) a b,ks[i]?=some a->ks'[i]?=some b->Par a b):Par (.mk op n ks) (.mk op n ks')
 | beta (n m:Int) (a b b' x x':Tm) (hb:Par b b') (hx:Par x x'):Par (.mk 5 n [.mk 4 m [a,b],x]) (b'.sub (s1 x'))
 | fst (n m:Int) (a x x' y:Tm) (hx:Par x x'):Par (.mk 8 n [.mk 7 m [a,x,y]]) x'
 | snd (n m:Int) (a x y y':Tm) (hy:Par y y'):Par (.mk 9 n [.mk 7 m [a,x,y]]) y'
 | splq (c c':Tm) (hc:Par c c'):Par (.mk 30 0 [.mk 19 0 [c]]) c'
 | quos (c c':Tm) (hc:Par c c'):Par (.mk 19 0 [.mk 30 0 [c]]) c'
 | recz (n m:Int) (a z z' s:Tm) (l:List Tm) (hz:Par z z'):Par (.mk 13 n [a,z,s,.mk 11 m l]) z'
 | recs (n m:Int) (a a' z z' s s' k k':Tm) (ha:Par a a') (hz:Par z z') (hs:Par s s') (hk:Par k k'):Par (.mk 13 n [a,z,s,.mk 12 m [k]]) (s'.sub (s2 (.mk 13 0 [a',z',s',k']) k'))
inductive Pars:Tm->Tm->Prop
 | refl (t:Tm):Pars t t
 | step {a b c:Tm} (h:Par a b) (hs:Pars b c):Pars a c
mutual
def Tm.wa:Tm->Prop
 | .mk op n ks=>ar op=some ks.length/\((op=1->0<=n)/\(op=19\/op=30->n=0))/\Tm.waL ks
def Tm.waL:List Tm->Prop
 | []=>True
 | t::l=>t.wa/\Tm.waL l
end
inductive Un:Nat->RV->Tm->Prop
 | var (u:Nat) (n:Int) (h:n<u):Un u (.var n) (.mk 1 ((u:Int) - 1 - n) [])
 | node (u:Nat) (op n:Int) (k:List RV) (ts:List Tm) (T:Nat->Nat->Tm) (h1:op≠1) (h9:op=19\/op=30->n=0) (har:ar op=some ts.length) (hl:k.length=ts.length)
   (hk:∀(i:Nat) v t,Al op i=0->k[i]?=some v->ts[i]?=some t->Un u v t)
   (hc:∀(i:Nat) (v:RV) t,0<Al op i->k[i]?=some v->ts[i]?=some t->t=v.b.sub (upS (Al op i) (T i))/\v.b.wa)
   (hf:∀(i:Nat) (v:RV) (j:Nat),0<Al op i->k[i]?=some v->v.env.length<=j->T i j=vT (u+(j - v.env.length)))
   (he:∀(i:Nat) (v:RV) (j:Nat) x,0<Al op i->k[i]?=some v->v.env.reverse[j]?=some x->Un u x (T i j)):Un u (.node op n k) (.mk op n ts)
inductive PT:Tm->Prop
 | int:PT (.mk 15 0 [])
 | bin (op:Int) (a b:Tm) (ho:op=16\/op=17) (ha:PT a) (hb:PT b):PT (.mk op 0 [a,b])
def Ek:Tm:=.mk 15 0 []
inductive OT (m:Nat):List Tm->Tm->Tm->Prop
 | var (g:List Tm) (i:Nat) (P:Tm) (hP:PT P) (hw:P.wt<=m) (hi:i<g.length) (h:g[g.length - 1 - i]?=some P):OT m g (.mk 1 (i:Int) []) P
 | oint (g:List Tm) (n:Int) (hm:1<=m):OT m g (.mk 25 n []) Ek
 | oprim (g:List Tm) (n:Int) (a b:Tm) (ha:OT m g a Ek) (hb:OT m g b Ek):OT m g (.mk 26 n [a,b]) Ek
 | olam (g:List Tm) (a b c:Tm) (ha:PT a) (hw:(Tm.mk 16 0 [a,c]).wt<=m) (hb:OT m (g++[a]) b c):OT m g (.mk 20 0 [a,b]) (.mk 16 0 [a,c])
 | oapp (g:List Tm) (f x a c:Tm) (hf:OT m g f (.mk 16 0 [a,c])) (hx:OT m g x a):OT m g (.mk 21 0 [f,x]) c
 | opair (g:List Tm) (x y a b:Tm) (hw:(Tm.mk 17 0 [a,b]).wt<=m) (hx:OT m g x a) (hy:OT m g y b):OT m g (.mk 22 0 [x,y]) (.mk 17 0 [a,b])
 | ofst (g:List Tm) (x a b:Tm) (hx:OT m g x (.mk 17 0 [a,b])):OT m g (.mk 23 0 [x]) a
 | oif (g:List Tm) (c x y a:Tm) (hc:OT m g c Ek) (hx:OT m g x a) (hy:OT m g y a):OT m g (.mk 27 0 [c,x,y]) a
 | olet (g:List Tm) (x y a b:Tm) (hx:OT m g x a) (hy:OT m (g++[a]) y b):OT m g (.mk 28 0 [x,y]) b
 | ofix (g:List Tm) (a x:Tm) (ha:PT a) (hw:a.wt<=m) (hx:OT m (g++[a]) x a):OT m g (.mk 29 0 [a,x]) a
def mw (P:Tm):Nat:=max P.wt 3+7
def natT:Tm:=.mk 10 0 []
def tyT:Tm:=.mk 14 0 []
def opO (X:Tm):Prop:=X.op=2\/X.op=3\/X.op=6
def Sem (g:List Tm) (A t:Tm):Prop:=(Pars A natT/\∃k,Pars t (GQ k))\/(Pars A tyT/\∃P,PT P/\Pars t P)\/(∃P c,PT P/\Pars A (.mk 18 0 [P])/\Pars t (.mk 19 0 [c])/\OT (mw P) g c P)\/∃X,Pars A X/\opO X
end Idl
end Go.Proofs.YtnenpcghegcnhaaGreat

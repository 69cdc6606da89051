/- Part 11 of a proof. No statement is proved here. -/
import Derived.Test.YtnenpcghegcnhaaGreatKernelShiftK10
set_option linter.all false
set_option maxRecDepth 20000
set_option maxHeartbeats 16000000
noncomputable section
namespace Go.Proofs.YtnenpcghegcnhaaGreat
namespace Idl
section
variable {k0 D:Nat} {L L':Int}
mutual
theorem Pz (h:L<=L'):∀v:RV,RV.ok k0 D L v->RV.ok k0 D L' v
 | .mk op n k env b,hv=>by
  rw [RV.ok] at hv ⊢;by_cases h1:op=1
  ·rw [if_pos h1] at hv ⊢;exact ⟨hv.1,by omega,hv.2.2⟩
  ·rw [if_neg h1] at hv ⊢;exact ⟨hv.1,hv.2.1,okL_mono h k op 0 hv.2.2⟩
theorem okL_mono (h:L<=L'):∀(l:List RV) (op:Int) (i:Nat),RV.okL k0 D L op i l->RV.okL k0 D L' op i l
 | [],op,i,_=>by rw [RV.okL];trivial
 | v::l,op,i,hv=>by
  rw [RV.okL] at hv ⊢;refine ⟨?_,okL_mono h l op (i+1) hv.2⟩;by_cases hb:0<Ak op i
  ·rw [if_pos hb]
   have:=hv.1
   rw [if_pos hb] at this;exact okC_mono h v (Ak op i) this
  ·rw [if_neg hb]
   have:=hv.1
   rw [if_neg hb] at this;exact Pz h v this
theorem okC_mono (h:L<=L'):∀(v:RV) (b:Nat),RV.okC k0 D L b v->RV.okC k0 D L' b v
 | .mk op n k env bd,b,hv=>by
  rw [RV.okC] at hv ⊢;exact ⟨okE_mono h env hv.1,hv.2⟩
theorem okE_mono (h:L<=L'):∀(l:List RV),RV.okE k0 D L l->RV.okE k0 D L' l
 | [],_=>by rw [RV.okE];trivial
 | v::l,hv=>by
  rw [RV.okE] at hv ⊢;exact ⟨Pz h v hv.1,okE_mono h l hv.2⟩
end
theorem ZI (u:Nat):∀b:Nat,RV.okE k0 D ((u+b:Nat):Int) (E6 u b)
 | 0=>by simp only [E6,List.range_zero,Ai4];rw [RV.okE];trivial
 | b+1=>by
  rw [J0];refine Js (okE_mono (by omega) _ (ZI u b)) (Qa ?_);rw [RV.var,RV.ok,if_pos rfl];exact ⟨by omega,by omega,rfl⟩
end
theorem Ej {f g:Nat} (hfg:f<=g) {rd rd':Int->Int->Int->RV->Int->Option (Tm×Int×Int×Int)} (h:∀s nd e k u r,rd s nd e k u=some r->rd' s nd e k u=some r) (op u:Int):∀(l:List RV) (i:Nat) (s nd e:Int) (r:List Tm×Int×Int×Int),
  Bl rd f op u i l s nd e=some r->Bl rd' g op u i l s nd e=some r
 | [],i,s,nd,e,r,hr=>hr
 | k::l,i,s,nd,e,r,hr=>by
  simp only [Bl] at hr ⊢;have key:∀q,(if 0<Ak op i then (if 900000<k.env.length then none else AD f s e k.b (k.env++E6 u (Ak op i))) else some (k,s,e))=some q ->
    (if 0<Ak op i then (if 900000<k.env.length then none else AD g s e k.b (k.env++E6 u (Ak op i))) else some (k,s,e))=some q:=by
   intro q hq;by_cases hb:0<Ak op i
   ·rw [if_pos hb] at hq ⊢;by_cases hl:900000<k.env.length
    ·rw [if_pos hl] at hq;cases hq
    ·rw [if_neg hl] at hq ⊢;exact Cc hfg hq
   ·rw [if_neg hb] at hq ⊢;exact hq
  cases hq:(if 0<Ak op i then (if 900000<k.env.length then none else AD f s e k.b (k.env++E6 u (Ak op i))) else some (k,s,e)) with
  | none=>rw [hq] at hr;cases hr
  | some q =>
   rw [key q hq];rw [hq] at hr;obtain ⟨y,s1,e1⟩:=q;simp only at hr ⊢;cases hd:rd s1 nd e1 y (u+Ak op i) with
   | none=>rw [hd] at hr;cases hr
   | some q =>
    obtain ⟨t,s2,nd2,e2⟩:=q;rw [hd] at hr;rw [h _ _ _ _ _ _ hd];simp only at hr ⊢;cases hk:Bl rd f op u (i+1) l s2 nd2 e2 with
    | none=>rw [hk] at hr;cases hr
    | some q=>rw [hk] at hr;rw [Ej hfg h op u l (i+1) s2 nd2 e2 q hk];exact hr
theorem X4:∀f s nd e v u d r,AV f s nd e v u d=some r->AV (f+1) s nd e v u d=some r:=by
 intro f
 induction f with
 | zero=>intro s nd e v u d r h;rw [AV] at h;cases h
 | succ f ih =>
  intro s nd e v u d r h;rw [AV] at h ⊢;by_cases hbad:nd<0\/1000000<nd\/u<0\/1000000<u\/d<0\/1000000<d\/v.n < -2305843009213693952\/2305843009213693952<v.n\/f<=v.k.length\/900000<v.k.length\/f<=3
  ·rw [if_pos hbad] at h;cases h
  ·rw [if_neg hbad] at h;rw [if_neg (by omega)];generalize (if e=0/\(3000<nd+1\/120<d) then (5:Int) else e)=e1 at h ⊢;by_cases he:e1≠0
   ·rw [if_pos he] at h ⊢;exact h
   ·rw [if_neg he] at h ⊢;by_cases h1:v.op=1
    ·rw [if_pos h1] at h ⊢;exact h
    ·rw [if_neg h1] at h ⊢;cases hk:Bl (fun s nd e k u=>AV f s nd e k u (d+1)) f v.op u 0 v.k s (nd+1) 0 with
     | none=>rw [hk] at h;cases h
     | some q =>rw [hk] at h;rw [Ej (g:=f+1) (rd':=fun s nd e k u=>AV (f+1) s nd e k u (d+1)) (by omega) (fun s nd e k u r hr=>ih _ _ _ _ _ _ _ hr) v.op u v.k 0 s (nd+1) 0 q hk];exact h
theorem DZ {f g:Nat} (hfg:f<=g) {s nd e u d:Int} {v:RV} {r:Tm×Int×Int×Int} (h:AV f s nd e v u d=some r):AV g s nd e v u d=some r:=by
 induction hfg with
 | refl=>exact h
 | step _ ih=>exact X4 _ _ _ _ _ _ _ _ ih
mutual
def Tm.dp:Tm->Nat
 | .mk _ _ ks=>1+Tm.dpL ks
def Tm.dpL:List Tm->Nat
 | []=>0
 | t::l=>max t.dp (Tm.dpL l)
end
def zJ (s e:Int):Prop:=0<=s/\(e=0/\s<=1000\/e=17/\s=1001\/e=5/\s<=1001)
theorem aW {op n:Int} (h:BX op n):-2305843009213693952<=n/\n<=2305843009213693952:=by
 unfold BX at h
 repeat' split at h
 all_goals omega
def Red (k0:Nat) (u d:Nat) (nd:Int) (t:Tm) (s' nd' e':Int):Prop :=zJ s' e'/\(e'=0->nd'<=3000/\t.sc (k0+u)/\(t.wt:Int)=nd' - nd/\t.dp+d<=121)/\nd'<=3001+3 * (121 - (d:Int))/\nd<=nd'
section
variable {k0 D:Nat}
theorem Rk (s nd e u d:Int) (v:RV) (he:e≠0) (h1:0<=nd) (h2:nd<=1000000) (h3:0<=u) (h4:u<=1000000) (h5:0<=d) (h6:d<=1000000) (h7:-2305843009213693952<=v.n) (h8:v.n<=2305843009213693952) (h9:v.k.length<=900000) :
  AV (v.k.length+10) s nd e v u d=some (.z,s,nd+1,e):=by
 rw [show v.k.length+10=(v.k.length+9)+1 by omega,AV,if_neg (by omega)]
 have:(if e=0/\(3000<nd+1\/120<d) then (5:Int) else e)=e:=if_neg (by omega)
 rw [this,if_pos he]
def Abf (k0 D c:Nat):Prop:=∀(v:RV) (s nd:Int) (u d:Nat),RV.ok k0 D u v->0<=s->s<=1000->0<=nd->nd<=3000->3001<=nd+c->u<=2 * d->1<=d->d<=121 ->
 ∃f t s' nd' e',AV f s nd 0 v u d=some (t,s',nd',e')/\Red k0 u d nd t s' nd' e'
theorem Ni {L:Int} {v:RV} (hL:L<=1000000) (hk:k0<=900000) (h:RV.ok k0 D L v):-2305843009213693952<=v.n/\v.n<=2305843009213693952/\v.k.length<=4:=by
 obtain ⟨op,n,k,env,b⟩:=v;rw [RV.ok] at h;by_cases h1:op=1
 ·rw [if_pos h1] at h;refine ⟨?_,?_,?_⟩
  ·show _<=n;omega
  ·show n<=_;omega
  ·show k.length<=4;rw [h.2.2];simp
 ·rw [if_neg h1] at h
  have:=aW h.2.1
  exact ⟨this.1,this.2,RA h.1⟩
theorem N9 (hD:D<=800000) (hk:k0<=800000) {c:Nat} (hr:Abf k0 D c) (op:Int) (u d:Nat) (hu:u<=2 * d) (hd1:1<=d) (hd:d<=120):∀(l:List RV) (i:Nat) (s nd e:Int),RV.okL k0 D u op i l->zJ s e->0<=nd->nd+l.length<=5000->l.length<=4->(e=0->nd<=3000/\3001<=nd+c) ->
  ∃f ts s' nd' e',Bl (fun s nd e k u=>AV f s nd e k u ((d:Int)+1)) f op u i l s nd e=some (ts,s',nd',e')/\zJ s' e'/\nd<=nd' /\
   (e'=0->e=0/\nd'<=3000/\Tm.scL op i ts (k0+u)/\ts.length=l.length/\(Tm.wtL ts:Int)=nd' - nd/\Tm.dpL ts+d+1<=121) /\
   (e=0->nd'<=3000\/nd'+1<=3001+3 * (120 - (d:Int))+l.length)/\(e≠0->nd'=nd+l.length)
 | [],i,s,nd,e,_,hst,h0,h5,_,he=>by
  refine ⟨0,[],s,nd,e,rfl,hst,Int.le_refl _,fun h=>⟨h,(he h).1,by rw [Tm.scL];trivial,rfl,by simp [Tm.wtL],by simp only [Tm.dpL];omega⟩,fun h=>.inl (he h).1,fun _=>by simp⟩
 | k::l,i,s,nd,e,hl,hst,h0,h5,hl4,he=>by
  rw [RV.okL] at hl;simp only [Ai3] at hl4 h5;have hbl:=AW op i;have h1:∃f y s1 e1,(if 0<Ak op i then (if 900000<k.env.length then none else AD f s e k.b (k.env++E6 u (Ak op i))) else some (k,s,e))=some (y,s1,e1)/\RV.ok k0 D ((u+Ak op i:Nat):Int) y/\zJ s1 e1/\(e≠0->e1≠0):=by
   by_cases hb:0<Ak op i
   ·have hc:=hl.1;rw [if_pos hb] at hc;have hce:RV.okE k0 D u k.env/\k.b.sc (k0+k.env.length+Ak op i)/\k.env.length+Ak op i+k.b.bd<=D:=by
     obtain ⟨_,_,_,env,b⟩:=k;rw [RV.okC] at hc;exact hc
    by_cases he0:e=0
    ·subst he0;have hs:s<=1000:=by rcases hst.2 with ⟨_,h⟩ | ⟨h,_⟩ | ⟨h,_⟩<;>omega
     obtain ⟨f,y,s1,e1,hy,hyo,hye⟩:=(tot (k0:=k0) (D:=D) (L:=((u+Ak op i:Nat):Int)) (by omega) (by omega) (by omega) 1000).2 k.b (k.env++E6 u (Ak op i)) s
      (Js (okE_mono (by omega) _ hce.1) (ZI u _)) (by rw [Ajg,CC,<- Nat.add_assoc];exact hce.2.1) (by rw [Ajg,CC];omega) hst.1 hs (by have:=hst.1;omega)
     refine ⟨f,y,s1,e1,?_,hyo,⟨by have:=hye.1;have:=hst.1;omega,?_⟩,fun h=>absurd rfl h⟩
     ·rw [if_pos hb,if_neg (by omega)];exact hy
     ·rcases hye.2 with h | h
      ·exact .inl h
      ·exact .inr (.inl h)
    ·refine ⟨1,.zero,s,e,?_,PI,hst,fun h=>h⟩;rw [if_pos hb,if_neg (by omega),Mf s e he0]
   ·have hc:=hl.1;rw [if_neg hb] at hc;refine ⟨0,k,s,e,by rw [if_neg hb],Pz (by omega) _ hc,hst,fun h=>h⟩
  obtain ⟨f1,y,s1,e1,hy,hyo,hst1,hee⟩:=h1;have hsm:=Ni (by omega) (by omega) hyo;have h2:∃f t s2 nd2 e2,AV f s1 nd e1 y ((u+Ak op i:Nat):Int) ((d:Int)+1)=some (t,s2,nd2,e2)/\zJ s2 e2/\nd<=nd2 /\
    (e2=0->e1=0/\nd2<=3000/\t.sc (k0+u+Ak op i)/\(t.wt:Int)=nd2 - nd/\t.dp+d+1<=121/\nd+1<=nd2)/\(e1=0->nd2<=3001+3 * (120 - (d:Int)))/\(e1≠0->nd2=nd+1):=by
   by_cases he1:e1=0
   ·subst he1;have he0:e=0:=Classical.byContradiction fun h=>hee h rfl;have hn:=he he0;have hs:s1<=1000:=by rcases hst1.2 with ⟨_,h⟩ | ⟨h,_⟩ | ⟨h,_⟩<;>omega
    obtain ⟨f,t,s2,nd2,e2,ht,hR⟩:=hr y s1 nd (u+Ak op i) (d+1) hyo hst1.1 hs h0 hn.1 hn.2 (by omega) (by omega) (by omega);refine ⟨f,t,s2,nd2,e2,by simpa using ht,hR.1,hR.2.2.2,fun h=>?_,fun _=>by have:=hR.2.2.1;omega,fun h=>absurd rfl h⟩
    have:=hR.2.1 h
    have hw:=Ep t;exact ⟨rfl,this.1,by rw [Nat.add_assoc];exact this.2.1,this.2.2.1,by omega,by omega⟩
   ·refine ⟨y.k.length+10,.z,s1,nd+1,e1,Rk s1 nd e1 _ _ y he1 h0 (by omega) (by omega) (by omega) (by omega) (by omega) hsm.1 hsm.2.1 (by omega),hst1,by omega,fun h=>absurd h he1,fun h=>absurd h he1,fun _=>rfl⟩
  obtain ⟨f2,t,s2,nd2,e2,ht,hst2,hle,hok,hbd,her⟩:=h2;obtain ⟨f3,ts,s3,nd3,e3,hk3,hst3,hle3,hok3,hbd3,her3⟩:=N9 hD hk hr op u d hu hd1 hd l (i+1) s2 nd2 e2 hl.2 hst2 (by omega) (by
    by_cases he1:e1=0
    ·have:=hbd he1;omega
    ·have:=her he1
     by_cases he0:e=0
     ·have:=(he he0).1;omega
     ·omega) (by omega) (fun h=>by
    have h2:=hok h;have he0:e=0:=Classical.byContradiction fun h'=>hee h' h2.1
    have:=he he0
    omega)
  refine ⟨f1+f2+f3,t::ts,s3,nd3,e3,?_,hst3,by omega,fun h=>?_,fun h=>?_,fun h=>?_⟩
  ·have hy':(if 0<Ak op i then (if 900000<k.env.length then none else AD (f1+f2+f3) s e k.b (k.env++E6 u (Ak op i))) else some (k,s,e))=some (y,s1,e1):=by
    by_cases hb:0<Ak op i
    ·rw [if_pos hb] at hy ⊢;by_cases hl:900000<k.env.length
     ·rw [if_pos hl] at hy;cases hy
     ·rw [if_neg hl] at hy ⊢;exact Cc (by omega) hy
    ·rw [if_neg hb] at hy ⊢;exact hy
   rw [Bl,hy'];simp only;rw [show (u:Int)+(Ak op i:Int)=((u+Ak op i:Nat):Int) by omega,DZ (show f2<=f1+f2+f3 by omega) ht]
   simp only;rw [Ej (f:=f3) (rd:=fun s nd e k u=>AV f3 s nd e k u ((d:Int)+1)) (by omega) (fun s nd e k u r h=>DZ (by omega) h) op u l (i+1) s2 nd2 e2 _ hk3];rfl
  ·have h3:=hok3 h;have h2:=hok h3.1;have he0:e=0:=Classical.byContradiction fun h'=>hee h' h2.1;refine ⟨he0,h3.2.1,?_,by simp [h3.2.2.2.1],?_,?_⟩
   ·rw [Tm.scL];exact ⟨h2.2.2.1,h3.2.2.1⟩
   ·simp only [Tm.wtL];have:=h2.2.2.2.1;have:=h3.2.2.2.2.1;omega
   ·simp only [Tm.dpL];have:=h2.2.2.2.2.1;have:=h3.2.2.2.2.2;omega
  ·simp only [Ai3];by_cases he1:e1=0
   ·by_cases he2:e2=0
    ·have:=hbd3 he2;omega
    ·have:=her3 he2;have:=hbd he1;omega
   ·have h6:=her he1;have h7:e2≠0:=fun h'=>he1 (hok h').1
    have:=her3 h7
    have:=(he h).1
    omega
  ·simp only [Ai3];have he1:=hee h;have h7:e2≠0:=fun h'=>he1 (hok h').1
   have:=her3 h7
   have:=her he1
   omega
theorem ZJ (hD:D<=800000) (hk:k0<=800000):∀c,Abf k0 D c:=by
 intro c
 induction c with
 | zero=>intro v s nd u d _ _ _ _ h1 h2;omega
 | succ c ih =>
  intro v s nd u d hv h0 hs hn0 hn hc hu hd1 hd;have hsm:=Ni (by omega) (by omega) hv;have hst:zJ s 0:=⟨h0,.inl ⟨rfl,hs⟩⟩;by_cases h3:3000<nd+1\/120<(d:Int)
  ·refine ⟨v.k.length+10,.z,s,nd+1,5,?_,⟨h0,.inr (.inr ⟨rfl,by omega⟩)⟩,(fun h=>absurd h (by decide)),by omega,by omega⟩;rw [show v.k.length+10=(v.k.length+9)+1 by omega,AV,if_neg (by omega)]
   have e5:(if (0:Int)=0/\(3000<nd+1\/120<(d:Int)) then (5:Int) else 0)=5:=if_pos ⟨rfl,h3⟩;rw [e5,if_pos (by decide)]
  ·have e5:(if (0:Int)=0/\(3000<nd+1\/120<(d:Int)) then (5:Int) else 0)=0:=if_neg (fun h=>h3 h.2);by_cases h1:v.op=1
   ·have hvn:-(k0:Int)<=v.n/\v.n<u:=by
     obtain ⟨op,n,k,env,b⟩:=v;have h1':op=1:=h1;rw [RV.ok,if_pos h1'] at hv;exact ⟨hv.1,hv.2.1⟩
    refine ⟨v.k.length+10,.mk 1 (u - 1 - v.n) [],s,nd+1,0,?_,hst,fun _=>⟨by omega,?_,by simp only [Tm.wt,Tm.wtL];omega,by simp only [Tm.dp,Tm.dpL];omega⟩,by omega,by omega⟩
    ·rw [show v.k.length+10=(v.k.length+9)+1 by omega,AV,if_neg (by omega),e5,if_neg (by decide),if_pos h1]
    ·rw [Tm.sc,if_pos rfl,Tm.scL];exact ⟨rfl,by omega,trivial⟩
   ·obtain ⟨ha,hnum,hl⟩:=EW hv h1;obtain ⟨f,ts,s',nd',e',hk2,hst',hle,hok,hbd,_⟩:=N9 hD hk ih v.op u d hu hd1 (by omega) v.k 0 s (nd+1) 0 hl hst (by omega) (by omega) (by omega) (fun _=>by omega);refine ⟨f+v.k.length+10,.mk v.op v.n ts,s',nd',e',?_,hst',fun h=>?_,by have:=hbd rfl;omega,by omega⟩
    ·rw [show f+v.k.length+10=(f+v.k.length+9)+1 by omega,AV,if_neg (by omega),e5,if_neg (by decide),if_neg h1]
     rw [Ej (f:=f) (rd:=fun s nd e k u=>AV f s nd e k u ((d:Int)+1)) (by omega) (fun s nd e k u r h=>DZ (by omega) h) v.op u v.k 0 s (nd+1) 0 _ hk2];rfl
    ·have:=hok h
     refine ⟨this.2.1,?_,?_,?_⟩
     ·rw [Tm.sc,if_neg h1];exact ⟨by rw [this.2.2.2.1];exact ha,hnum,this.2.2.1⟩
     ·simp only [Tm.wt];have:=this.2.2.2.2.1;omega
     ·simp only [Tm.dp];have:=this.2.2.2.2.2;omega
end
theorem GV {k:Nat} (hk:k<=800000) {t:Tm} (hsc:t.sc k) (hb:t.bd<=800000):∃f u e,AF f t=some (u,e)/\(e=0/\u.sc k/\u.wt<=3000/\u.dp<=120\/(e=5\/e=17)/\u=.z):=by
 obtain ⟨f,v,s1,e1,hv,hvo,hve⟩:=(tot (k0:=k) (D:=800000) (L:=0) (by omega) (by omega) (by omega) 1000).2 t [] 0 (by rw [RV.okE];trivial) (by simpa using hsc) (by simp;omega) (by omega) (by omega) (by omega);have hsm:=Ni (by omega) (by omega) hvo;rcases hve.2 with ⟨rfl,hs⟩ | ⟨rfl,hs⟩
 ·obtain ⟨g,u,s2,nd2,e2,hu,hR⟩:=ZJ (k0:=k) (D:=800000) (by omega) hk 3001 v s1 0 0 1 (by simpa using hvo) (by have:=hve.1;omega) hs (by omega) (by omega) (by omega) (by omega) (by omega) (by omega);have hn:AF (f+g) t=some (if e2≠0 then (.z,e2) else (u,0)):=by
   rw [AF,Cc (by omega) hv];simp only;rw [DZ (show g<=f+g by omega) (by simpa using hu)]
  by_cases h2:e2=0
  ·rw [if_neg (by simp [h2])] at hn
   have:=hR.2.1 h2
   exact ⟨_,_,_,hn,.inl ⟨rfl,by simpa using this.2.1,by omega,by omega⟩⟩
  ·rw [if_pos h2] at hn;refine ⟨_,_,_,hn,.inr ⟨?_,rfl⟩⟩;rcases hR.1.2 with ⟨h,_⟩ | ⟨h,_⟩ | ⟨h,_⟩
   ·exact absurd h h2
   ·exact .inr h
   ·exact .inl h
 ·have hn:AF (f+v.k.length+10) t=some (.z,17):=by
   rw [AF,Cc (by omega) hv];simp only;rw [DZ (show v.k.length+10<=f+v.k.length+10 by omega) (Rk s1 0 17 0 1 v (by decide) (by omega) (by omega) (by omega) (by omega) (by omega) (by omega) hsm.1 hsm.2.1 (by omega))]
   rfl
  exact ⟨_,_,_,hn,.inr ⟨.inr rfl,rfl⟩⟩
end Idl
end Go.Proofs.YtnenpcghegcnhaaGreat
namespace Go.Proofs.YtnenpcghegcnhaaGreat
namespace Idl
mutual
theorem CT:∀(t:Tm) (k:Nat),t.sc k->t.wk
 | .mk op n ks,k,h=>by
  rw [Tm.sc] at h;rw [Tm.wk];exact ⟨RA h.1,scL_wk ks op 0 k h.2.2⟩
theorem scL_wk:∀(l:List Tm) (op:Int) (i k:Nat),Tm.scL op i l k->Tm.wkL l
 | [],_,_,_,_=>by rw [Tm.wkL];trivial
 | t::l,op,i,k,h=>by
  rw [Tm.scL] at h;rw [Tm.wkL];exact ⟨CT t _ h.1,scL_wk l op (i+1) k h.2⟩
end
mutual
theorem U8:∀(t:Tm) {k k':Nat},k<=k'->t.sc k->t.sc k'
 | .mk op n ks,k,k',hk,h=>by
  rw [Tm.sc] at h ⊢;refine ⟨h.1,?_,scL_mono ks hk h.2.2⟩;by_cases h1:op=1
  ·have:=h.2.1
   rw [if_pos h1] at this ⊢;omega
  ·have:=h.2.1
   rw [if_neg h1] at this ⊢;exact this
theorem scL_mono:∀(l:List Tm) {op:Int} {i k k':Nat},k<=k'->Tm.scL op i l k->Tm.scL op i l k'
 | [],_,_,_,_,_,_=>by rw [Tm.scL];trivial
 | t::l,op,i,k,k',hk,h=>by
  rw [Tm.scL] at h ⊢;exact ⟨U8 t (by omega) h.1,scL_mono l hk h.2⟩
end
mutual
theorem AH:∀(t:Tm) (d c:Int),(t.shift d c).wt=t.wt
 | .mk op n ks,d,c=>by simp only [Tm.shift,Tm.wt,shiftL_wt ks op 0 d c]
theorem shiftL_wt:∀(l:List Tm) (op:Int) (i:Nat) (d c:Int),Tm.wtL (Tm.shiftL op i l d c)=Tm.wtL l
 | [],_,_,_,_=>rfl
 | t::l,op,i,d,c=>by simp only [Tm.shiftL,Tm.wtL,AH t,shiftL_wt l]
end
mutual
theorem CQ:∀(t:Tm) (d c:Int),(t.shift d c).dp=t.dp
 | .mk op n ks,d,c=>by simp only [Tm.shift,Tm.dp,shiftL_dp ks op 0 d c]
theorem shiftL_dp:∀(l:List Tm) (op:Int) (i:Nat) (d c:Int),Tm.dpL (Tm.shiftL op i l d c)=Tm.dpL l
 | [],_,_,_,_=>rfl
 | t::l,op,i,d,c=>by simp only [Tm.shiftL,Tm.dpL,CQ t,shiftL_dp l]
end
mutual
theorem Bj:∀(t:Tm) (d c k:Nat),t.sc k->k+2 * t.wt+d<=9000000000000000000->(t.shift d c).sc (k+d)
 | .mk op n ks,d,c,k,h,hk=>by
  rw [Tm.sc] at h;rw [Tm.wt] at hk;rw [Tm.shift,Tm.sc,Er];refine ⟨h.1,?_,shiftL_sc ks op 0 d c k h.2.2 (by omega)⟩;by_cases h1:op=1
  ·have:=h.2.1
   rw [if_pos h1] at this ⊢;by_cases h2:(c:Int)<=n
   ·rw [if_pos ⟨h1,h2⟩,Ax (by omega) (by omega)];omega
   ·rw [if_neg (fun h=>h2 h.2)];omega
  ·have:=h.2.1
   rw [if_neg h1] at this ⊢;rw [if_neg (fun h=>h1 h.1)];exact this
theorem shiftL_sc:∀(l:List Tm) (op:Int) (i:Nat) (d c k:Nat),Tm.scL op i l k->k+2+2 * Tm.wtL l+d<=9000000000000000000->Tm.scL op i (Tm.shiftL op i l d c) (k+d)
 | [],_,_,_,_,_,_,_=>by rw [Tm.shiftL,Tm.scL];trivial
 | t::l,op,i,d,c,k,h,hk=>by
  rw [Tm.scL] at h;simp only [Tm.wtL] at hk;rw [Tm.shiftL,Tm.scL];refine ⟨?_,shiftL_sc l op (i+1) d c k h.2 (by omega)⟩;rw [show k+d+Ak op i=(k+Ak op i)+d by omega]
  have:=AW op i
  exact Bj t d (c+Ak op i) (k+Ak op i) h.1 (by omega)
end
mutual
theorem HE:∀(t u:Tm) (j k:Nat),t.sc (k+1+j)->u.sc k->k+j+2 * t.wt+2 * u.wt<=4000000000000000000->(t.subst j j u).sc (k+j)
 | .mk op n ks,u,j,k,h,hu,hk=>by
  rw [Tm.sc] at h;rw [Tm.wt] at hk;rw [Tm.subst];by_cases h1:op=1
  ·rw [if_pos h1];have h2:=h.2.1;rw [if_pos h1] at h2;by_cases h3:n=j
   ·rw [if_pos h3];exact Bj u j 0 k hu (by omega)
   ·rw [if_neg h3];by_cases h4:(j:Int)<n
    ·rw [if_pos h4,Tm.sc,if_pos rfl,Tm.scL,Ax (by omega) (by omega)];exact ⟨rfl,by omega,trivial⟩
    ·rw [if_neg h4,Tm.sc,if_pos h1];have hks:ks=[]:=by
      have:=h.1
      rw [h1] at this;simp [ar] at this;exact Ajr.1 this.symm
     subst hks;exact ⟨h.1,by omega,by rw [Tm.scL];trivial⟩
  ·rw [if_neg h1,Tm.sc,if_neg h1,GH];have h2:=h.2.1;rw [if_neg h1] at h2;exact ⟨h.1,h2,substL_sc ks u op 0 j k h.2.2 hu (by omega)⟩
theorem substL_sc:∀(l:List Tm) (u:Tm) (op:Int) (i j k:Nat),Tm.scL op i l (k+1+j)->u.sc k->k+j+2+2 * Tm.wtL l+2 * u.wt<=4000000000000000000->Tm.scL op i (Tm.substL op i l j j u) (k+j)
 | [],_,_,_,_,_,_,_,_=>by rw [Tm.substL,Tm.scL];trivial
 | t::l,u,op,i,j,k,h,hu,hk=>by
  rw [Tm.scL] at h;simp only [Tm.wtL] at hk;rw [Tm.substL,Tm.scL];refine ⟨?_,substL_sc l u op (i+1) j k h.2 hu (by omega)⟩
  have:=AW op i
  have h1:=HE t u (j+Ak op i) k (by rw [<- Nat.add_assoc];exact h.1) hu (by omega);rw [Nat.add_assoc];exact h1
end
mutual
theorem Ht:∀(t u:Tm) (c d:Int),(t.subst c d u).wt<=t.wt * u.wt
 | .mk op n ks,u,c,d=>by
  have hu:=Ep u;rw [Tm.subst];by_cases h1:op=1
  ·rw [if_pos h1];have key:u.wt<=(Tm.mk op n ks).wt * u.wt:=Nat.le_mul_of_pos_left _ (Ep _);by_cases h3:n=c
   ·rw [if_pos h3,AH];exact key
   ·rw [if_neg h3];by_cases h4:c<n
    ·rw [if_pos h4];simp only [Tm.wt,Tm.wtL] at key ⊢;omega
    ·rw [if_neg h4];exact Nat.le_mul_of_pos_right _ hu
  ·rw [if_neg h1]
   have:=substL_wt ks u op 0 c d
   simp only [Tm.wt];rw [Nat.add_mul];omega
theorem substL_wt:∀(l:List Tm) (u:Tm) (op:Int) (i:Nat) (c d:Int),Tm.wtL (Tm.substL op i l c d u)<=Tm.wtL l * u.wt
 | [],_,_,_,_,_=>by simp [Tm.substL,Tm.wtL]
 | t::l,u,op,i,c,d=>by
  have h1:=Ht t u (c+Ak op i) (d+Ak op i);have h2:=substL_wt l u op (i+1) c d;simp only [Tm.substL,Tm.wtL];rw [Nat.add_mul];omega
end
mutual
theorem M4:∀(t u:Tm) (c d:Int),(t.subst c d u).dp<=t.dp+u.dp
 | .mk op n ks,u,c,d=>by
  rw [Tm.subst];by_cases h1:op=1
  ·rw [if_pos h1];by_cases h3:n=c
   ·rw [if_pos h3,CQ];omega
   ·rw [if_neg h3];by_cases h4:c<n
    ·rw [if_pos h4];simp only [Tm.dp,Tm.dpL];omega
    ·rw [if_neg h4];omega
  ·rw [if_neg h1]
   have:=substL_dp ks u op 0 c d
   simp only [Tm.dp];omega
theorem substL_dp:∀(l:List Tm) (u:Tm) (op:Int) (i:Nat) (c d:Int),Tm.dpL (Tm.substL op i l c d u)<=Tm.dpL l+u.dp
 | [],_,_,_,_,_=>by simp [Tm.substL,Tm.dpL]
 | t::l,u,op,i,c,d=>by
  have h1:=M4 t u (c+Ak op i) (d+Ak op i);have h2:=substL_dp l u op (i+1) c d;simp only [Tm.substL,Tm.dpL];omega
end
mutual
theorem Q2:∀(t:Tm),t.bd<=2 * t.dp
 | .mk op n ks=>by
  have:=bdL_dp ks op 0
  simp only [Tm.bd,Tm.dp];omega
theorem bdL_dp:∀(l:List Tm) (op:Int) (i:Nat),Tm.bdL op i l<=2+2 * Tm.dpL l
 | [],_,_=>by simp [Tm.bdL]
 | t::l,op,i=>by
  have h1:=Q2 t;have h2:=bdL_dp l op (i+1);have h3:=AW op i;simp only [Tm.bdL,Tm.dpL];omega
end
theorem GT:∀{op:Int} {i j:Nat} {ks:List Tm} {k:Nat} {t:Tm},Tm.scL op i ks k->ks[j]?=some t->t.sc (k+Ak op (i+j))
 | op,i,0,x::l,k,t,h,hg=>by
  rw [Tm.scL] at h;simp only [Ajb,AiZ] at hg;subst hg;exact h.1
 | op,i,j+1,x::l,k,t,h,hg=>by
  rw [Tm.scL] at h;rw [Ajc] at hg
  have:=GT h.2 hg
  rwa [show i+1+j=i+(j+1) by omega] at this
 | _,_,_,[],_,_,_,hg=>by simp at hg
def AY:Tm:=.mk 11 0 []
def Y6 (t:Tm):Tm:=match t with
 | .mk _ _ [_,.mk o1 _ [f,.mk o2 n2 _]]=>if o1=5/\o2=1/\n2=0/\f.free 0=false then f.subst 0 0 AY else t
 | _=>t
def Y1 (t:Tm):Tm:=match t with
 | .mk _ _ [_,.mk o1 _ [x],.mk o2 _ [y]]=>if o1=8/\o2=9/\x.same y=true then x else t
 | _=>t
theorem eG {op m:Int} {z b:Tm} (h:b.op≠5):Y6 (.mk op m [z,b])=.mk op m [z,b]:=by
 unfold Y6;split
 ·rename_i h1;simp only [Tm.mk.injEq,List.cons.injEq,and_true] at h1;obtain ⟨_,_,_,rfl⟩:=h1;rw [if_neg (fun h2=>h h2.1)]
 ·rfl
theorem GW (k:Nat):AY.sc k:=by rw [AY,Tm.sc];exact ⟨by decide,by rw [if_neg (by decide),BX,if_neg (by decide),if_neg (by decide),if_neg (by decide)],trivial⟩
theorem Qi {op m:Int} {z a b:Tm} (h:¬ (a.op=8/\b.op=9)):Y1 (.mk op m [z,a,b])=.mk op m [z,a,b]:=by
 unfold Y1;split
 ·rename_i h1;simp only [Tm.mk.injEq,List.cons.injEq,and_true] at h1;obtain ⟨_,_,_,rfl,rfl⟩:=h1;rw [if_neg (fun h2=>h ⟨h2.1,h2.2.1⟩)]
 ·rfl
theorem F9 {t:Tm} {k:Nat} {o:Int} {r:Nat} (h:t.sc k) (ho:t.op=o) (hr:ar o=some r):t.kids.length=r:=by
 obtain ⟨op,m,ks⟩:=t;simp only [Tm.op] at ho;subst ho;rw [Tm.sc,hr] at h
 have:=h.1
 simp only [AiZ] at this;exact this.symm
def NE:List Tm->List Tm
 | []=>[]
 | _::l=>AY::l
mutual
def Tm.eta:Tm->Tm
 | .mk op m ks=>if op=4 then Y6 (.mk 4 m (NE (Tm.etaL ks))) else if op=7 then Y1 (.mk 7 m (NE (Tm.etaL ks))) else .mk op m (Tm.etaL ks)
def Tm.etaL:List Tm->List Tm
 | []=>[]
 | t::l=>t.eta::Tm.etaL l
end
theorem Mt:∀l:List Tm,(Tm.etaL l).length=l.length
 | []=>rfl
 | _::l=>by simp only [Tm.etaL,Ai3,Mt l]
theorem xW {m:Int} {z b:Tm} {k:Nat} (hz:z.sc k) (hb:b.sc (k+1)) (hm:m=0) (hw:k+2 * b.wt<=1000000000):(Y6 (.mk 4 m [z,b])).sc k/\(Y6 (.mk 4 m [z,b])).wt<=1+z.wt+b.wt:=by
 have h0:(Tm.mk 4 m [z,b]).sc k:=by rw [Tm.sc];refine ⟨rfl,?_,hz,hb,trivial⟩;rw [if_neg (by decide),BX,if_neg (by decide),if_neg (by decide),if_neg (by decide)];exact hm
 have h1:(Tm.mk 4 m [z,b]).wt=1+z.wt+b.wt:=by simp only [Tm.wt,Tm.wtL];omega
 unfold Y6;split
 ·rename_i o1 n1 f o2 n2 k2 heq;simp only [Tm.mk.injEq,List.cons.injEq,and_true] at heq;obtain ⟨_,_,rfl,rfl⟩:=heq;split
  ·rename_i hc;obtain ⟨rfl,_,_,_⟩:=hc;rw [Tm.sc] at hb;have hf:f.sc (k+1):=by
    have:=hb.2.2
    rw [Tm.scL] at this;exact this.1
   simp only [Tm.wt,Tm.wtL] at hw h1 ⊢;have hs:=HE f AY 0 k hf (GW k) (by simp only [AY,Tm.wt,Tm.wtL];omega);have hwt:=Ht f AY 0 0;have hz1:AY.wt=1:=rfl;rw [hz1,Nat.mul_one] at hwt;exact ⟨hs,by omega⟩
  ·exact ⟨h0,by rw [h1];exact AjA _⟩
 ·exact ⟨h0,by rw [h1];exact AjA _⟩
theorem uR {m:Int} {z a b:Tm} {k:Nat} (hz:z.sc k) (ha:a.sc k) (hb:b.sc k) (hm:m=0):(Y1 (.mk 7 m [z,a,b])).sc k/\(Y1 (.mk 7 m [z,a,b])).wt<=1+z.wt+a.wt+b.wt:=by
 have h0:(Tm.mk 7 m [z,a,b]).sc k:=by rw [Tm.sc];refine ⟨rfl,?_,hz,ha,hb,trivial⟩;rw [if_neg (by decide),BX,if_neg (by decide),if_neg (by decide),if_neg (by decide)];exact hm
 have h1:(Tm.mk 7 m [z,a,b]).wt=1+z.wt+a.wt+b.wt:=by simp only [Tm.wt,Tm.wtL];omega
 unfold Y1;split
 ·rename_i o1 n1 x o2 n2 y heq;simp only [Tm.mk.injEq,List.cons.injEq,and_true] at heq;obtain ⟨_,_,rfl,rfl,rfl⟩:=heq;split
  ·rename_i hc;obtain ⟨rfl,_,_⟩:=hc;rw [Tm.sc] at ha;have hf:x.sc k:=by
    have:=ha.2.2
    rw [Tm.scL] at this;exact this.1
   simp only [Tm.wt,Tm.wtL] at h1 ⊢;exact ⟨hf,by omega⟩
  ·exact ⟨h0,by rw [h1];exact AjA _⟩
 ·exact ⟨h0,by rw [h1];exact AjA _⟩
mutual
theorem Ms:∀(t:Tm) (k:Nat),t.sc k->k+2 * t.wt<=1000000000->t.eta.sc k/\t.eta.wt<=t.wt
 | .mk op m ks,k,h,hw=>by
  rw [Tm.sc] at h;rw [Tm.wt] at hw;have hl:=etaL_sc op 0 ks k h.2.2 (by omega);have hll:=Mt ks;rw [Tm.eta];by_cases h4:op=4
  ·subst h4;rw [if_pos rfl];have h9:ar 4=some 2:=by decide
   rw [h9,if_neg (by decide),BX,if_neg (by decide),if_neg (by decide),if_neg (by decide)] at h
   match ks,h,hl,hw with
   | [a,b],h,hl,hw =>
    simp only [Tm.etaL,NE];simp only [Tm.etaL,Tm.scL,Tm.wtL] at hl;simp only [Tm.wtL] at hw;have hb1:Ak 4 1=1:=by decide
    have hr:=xW (m:=m) (z:=AY) (b:=b.eta) (k:=k) (GW k) (by have:=hl.1.2.1;rwa [hb1] at this) h.2.1 (by omega);have hz1:AY.wt=1:=rfl;have hp:=Ep a;have hp2:=Ep a.eta;rw [hz1] at hr;simp only [Tm.wt,Tm.wtL];exact ⟨hr.1,by omega⟩
   | [],h,_,_=>simp at h
   | [_],h,_,_=>simp at h
   | _::_::_::_,h,_,_=>simp at h
  ·rw [if_neg h4];by_cases h7:op=7
   ·subst h7;rw [if_pos rfl];have h9:ar 7=some 3:=by decide
    rw [h9,if_neg (by decide),BX,if_neg (by decide),if_neg (by decide),if_neg (by decide)] at h
    match ks,h,hl,hw with
    | [a,b,c],h,hl,hw =>
     simp only [Tm.etaL,NE];simp only [Tm.etaL,Tm.scL,Tm.wtL] at hl;simp only [Tm.wtL] at hw;have hb1:Ak 7 1=0:=by decide
     have hb2:Ak 7 2=0:=by decide
     have hr:=uR (m:=m) (z:=AY) (a:=b.eta) (b:=c.eta) (k:=k) (GW k) (by have:=hl.1.2.1;rwa [hb1] at this) (by have:=hl.1.2.2.1;rwa [hb2] at this) h.2.1;have hz1:AY.wt=1:=rfl;have hp:=Ep a;have hp2:=Ep a.eta;rw [hz1] at hr;simp only [Tm.wt,Tm.wtL];exact ⟨hr.1,by omega⟩
    | [],h,_,_=>simp at h
    | [_],h,_,_=>simp at h
    | [_,_],h,_,_=>simp at h
    | _::_::_::_::_,h,_,_=>simp at h
   ·rw [if_neg h7,Tm.sc];refine ⟨⟨by rw [hll];exact h.1,h.2.1,hl.1⟩,?_⟩;simp only [Tm.wt];omega
theorem etaL_sc:∀(op:Int) (i:Nat) (l:List Tm) (k:Nat),Tm.scL op i l k->k+2+2 * Tm.wtL l<=1000000000->Tm.scL op i (Tm.etaL l) k/\Tm.wtL (Tm.etaL l)<=Tm.wtL l
 | _,_,[],_,_,_=>by simp only [Tm.etaL,Tm.scL,true_and];exact AjA _
 | op,i,t::l,k,h,hw=>by
  rw [Tm.scL] at h;rw [Tm.wtL] at hw;have hb:=AW op i;have h1:=Ms t (k+Ak op i) h.1 (by omega);have h2:=etaL_sc op (i+1) l k h.2 (by omega);rw [Tm.etaL,Tm.scL,Tm.wtL,Tm.wtL];exact ⟨⟨h1.1,h2.1⟩,by omega⟩
end
def mI (o p:Int) (l:List Tm) (s:Nat) (h:Hp) (k:KT (IV×Hp)):Az (Al EE 29 1 [(0,.fv (.agg [.int .i64 o,.int .i64 p,.sl (l.map Tm.enc)]))]) s h k=k (.clip [.agg [.int .i64 o,.int .i64 p,.sl (l.map Tm.enc)]]) h [] []:=by
 have:=Iy (.mk o p l) s h k
 rw [Am] at this;exact this
def Qt (o:Option (IV×Hp)):Bool:=match o with
 | some (.fv (.bool b),⟨_,[]⟩)=>b
 | _=>false
def Ya {o:Option (IV×Hp)} (h:Qt o=true):BE o (.bool true):=by
 unfold Qt at h;split at h
 ·subst h;exact Aw _ _
 ·cases h
def CK (o1 n1 o2 n2:Int) (k1 k2:List FV) (s:Nat) (h:Hp) (k:KT (IV×Hp)):Az (Al EE 29 2 [(0,.fv (.agg [.int .i64 o1,.int .i64 n1,.sl k1])),(1,.fv (.agg [.int .i64 o2,.int .i64 n2,.sl k2]))]) s h k =
  k (.clip [.agg [.int .i64 o1,.int .i64 n1,.sl k1],.agg [.int .i64 o2,.int .i64 n2,.sl k2]]) h [] []:=Cx PH kK (by decide) (cells:=[.int .i64 o1,.int .i64 n1,.sl k1,.int .i64 o2,.int .i64 n2,.sl k2]) rfl k
def Jp (o1 n1 o2 n2 o3 n3:Int) (k1 k2 k3:List FV) (s:Nat) (h:Hp) (k:KT (IV×Hp)):Az (Al EE 29 3 [(0,.fv (.agg [.int .i64 o1,.int .i64 n1,.sl k1])),(1,.fv (.agg [.int .i64 o2,.int .i64 n2,.sl k2])),(2,.fv (.agg [.int .i64 o3,.int .i64 n3,.sl k3]))]) s h k =
  k (.clip [.agg [.int .i64 o1,.int .i64 n1,.sl k1],.agg [.int .i64 o2,.int .i64 n2,.sl k2],.agg [.int .i64 o3,.int .i64 n3,.sl k3]]) h [] []:=Cx PH kK (by decide) (cells:=[.int .i64 o1,.int .i64 n1,.sl k1,.int .i64 o2,.int .i64 n2,.sl k2,.int .i64 o3,.int .i64 n3,.sl k3]) rfl k
def Aba (o1 n1 o2 n2 o3 n3 o4 n4:Int) (k1 k2 k3 k4:List FV) (s:Nat) (h:Hp) (k:KT (IV×Hp)):Az (Al EE 29 4 [(0,.fv (.agg [.int .i64 o1,.int .i64 n1,.sl k1])),(1,.fv (.agg [.int .i64 o2,.int .i64 n2,.sl k2])),(2,.fv (.agg [.int .i64 o3,.int .i64 n3,.sl k3])),(3,.fv (.agg [.int .i64 o4,.int .i64 n4,.sl k4]))]) s h k =
  k (.clip [.agg [.int .i64 o1,.int .i64 n1,.sl k1],.agg [.int .i64 o2,.int .i64 n2,.sl k2],.agg [.int .i64 o3,.int .i64 n3,.sl k3],.agg [.int .i64 o4,.int .i64 n4,.sl k4]]) h [] []:=Cx PH kK (by decide) (cells:=[.int .i64 o1,.int .i64 n1,.sl k1,.int .i64 o2,.int .i64 n2,.sl k2,.int .i64 o3,.int .i64 n3,.sl k3,.int .i64 o4,.int .i64 n4,.sl k4]) rfl k
def Dz (o1 n1:Int) (k1:List FV) (s:Nat) (h:Hp) (k:KT (IV×Hp)):Az (Al EE 29 1 [(0,.fv (.agg [.int .i64 o1,.int .i64 n1,.sl k1]))]) s h k =
  k (.clip [.agg [.int .i64 o1,.int .i64 n1,.sl k1]]) h [] []:=Cx PH kK (by decide) (cells:=[.int .i64 o1,.int .i64 n1,.sl k1]) rfl k
def uD (r:Option (IV×Hp)) (v:FV):Prop:=∃own,r=some (.fv v,⟨own,[]⟩)
def Ts {v:FV} {own:List (Nat×Blk)}:uD (some (.fv v,⟨own,[]⟩)) v:=⟨own,rfl⟩
def GF:Nat->Tm
 | 0=>.mk 11 0 []
 | n+1=>.mk 12 0 [GF n]
def Oa {g:FuncId} (h:EE.pol.inl g=false) (h1:EE.pol.keep g=[]) (h2:EE.pol.split g=false) (h3:EE.pol.raw g=false) (ih:Ah) (xs:List IV) (h0:Hp) (k:KT (IV×Hp)) :
  CN EE ih (.fv (.func (.func g) [] [])) xs h0 k=A5 [] false false ih g xs h0 k:=by
 unfold CN;simp only [callee,h,cond_false,bE,h1,h2,h3,Ai4,Ajo,Ajm]
theorem tM {n:Nat} (k:Nat) (hn:k+3<n) (hk:k<=1000000):BE (SS dt n 90 [iv k] ⟨[],[]⟩) (GF k).enc:=by
 obtain ⟨n,rfl⟩:∃j,n=j+1:=⟨n - 1,by omega⟩;rw [c90];have h0:=AZ (n:=n) (by omega) 11;rw [Am] at h0;simp only [QD,S90,↓XX,XY,↓reduceIte,seval,↓Af h0];refine Ba (Q:=fun r=>BE r _) (fun j V H=>∃(i:Nat),i+j=k/\V=[iv k,.ptr (.own 94371840) 0,.ptr (.own 94372865) 0,iv i] /\
   H=⟨[(94371840,.row [iv 0,iv 0,.nils] false),(94372865,.row [iv (GF i).op,iv (GF i).n,.fv (.sl ((GF i).kids.map Tm.enc))] false)],[]⟩) ?_ n k _ _ (by omega) ⟨0,by omega,rfl,rfl⟩
 rintro j V H rec ⟨i,hi,rfl,rfl⟩ hrec;cases j with
 | zero =>
  have:i=k:=by omega
  subst this;have hno:¬ ((i:Int)<i):=by omega
  generalize GF i=t;obtain ⟨o,p,l⟩:=t;rw [Am];simp only [QD,SZ,S90,↓XX,XY,↓reduceIte,seval,hno,Tm.op,Tm.n,Tm.kids];exact Aw _ _
 | succ j =>
  have hlt:(i:Int)<k:=by omega
  have hw:BC ((i:Int)+1)=((i+1:Nat):Int):=(Ax (by omega) (by omega)).trans (by simp);have ht:=CM (n:=n) (by omega) 12 [GF i];have h9:=hrec j ([iv k,.ptr (.own 94371840) 0,.ptr (.own 94372865) 0,iv (i+1:Nat)]) (⟨[(94371840,.row [iv 0,iv 0,.nils] false),(94372865,.row [iv 12,iv 0,.fv (.sl ([GF i].map Tm.enc))] false)],[]⟩) (by omega) ⟨i+1,by omega,rfl,rfl⟩;generalize GF i=t at *;obtain ⟨o,p,l⟩:=t;simp only [Ai5,Ai4,Am] at ht h9;simp only [QD,SZ,S90,↓XX,XY,↓reduceIte,seval,hlt,Tm.op,Tm.n,Tm.kids,↓mI,↓Af ht,hw];exact h9
section
variable {β:Type}
theorem XS {rm:List Nat} {vals:List IV} {own:List (Nat×Blk)} {ext:List Blk} (hf:AS rm vals own []=true) (hx:∀s,Ref.own s ∉ ext.flatMap Blk.refs) (s:Nat) :
  Ref.own s∈IV.refs.refsL vals++(own.filter fun p=>!rm.contains p.1).flatMap (fun p=>p.2.refs)++ext.flatMap Blk.refs ↔ heldB rm vals own [] s=true:=by
 rw [<- Ry hf s,Ajk];constructor
 ·rintro (h | h)
  ·exact List.mem_append_left _ h
  ·exact absurd h (hx s)
 ·intro h;rcases Ajk.1 h with h | h
  ·exact .inl h
  ·cases h
theorem dA {base rm:List Nat} {vals:List IV} {own:List (Nat×Blk)} {ext:List Blk} (hx:∀s,Ref.own s ∉ ext.flatMap Blk.refs) (hb:rm.any base.contains=false) (hf:AS rm vals own []=true) (k:Hp->Option β) :
  Bm base rm vals ⟨own,ext⟩ k=k ⟨Ho rm vals own [],ext⟩:=by
 have hm:=XS hf hx;have hf0:=hf;simp only [AS,Ajz] at hf0;obtain ⟨g1,g2,g3,g4⟩:=hf0;unfold Bm;rw [hb];simp only [cond_false];rw [Ls];cases ha:(own.all fun p=>!rm.contains p.1) with
 | true =>
  simp only [Bool.not_true,cond_false];congr 2
  symm
  apply List.filter_eq_self.2;intro p hp;rw [Ajl.1 ha p hp];rfl
 | false =>
  simp only [Bool.not_false,cond_true];have slow:(match CR base [] rm ⟨vals,⟨own,ext⟩⟩ with | none=>none | some S=>fH S.hp k)=k ⟨Ho rm vals own [],ext⟩:=by
   have hgone:(rm.filter fun k=>!anyIn [k] (IV.refs.refsL vals++(own.filter fun p=>!rm.contains p.1).flatMap (fun p=>p.2.refs)++ext.flatMap Blk.refs))=rm.filter fun s=>!heldB rm vals own [] s:=by apply List.filter_congr;intro s _;congr 1;exact Bool.eq_iff_iff.2 ((Ia s _).trans (hm s))
   have hown:(own.filter fun p=>!(rm.filter fun s=>!heldB rm vals own [] s).contains p.1)=Ho rm vals own []:=by
    apply List.filter_congr;intro p _;rw [Bool.eq_iff_iff];simp only [Bool.not_eq_true',Bool.or_eq_true,List.contains_eq_mem,decide_eq_false_iff_not,List.mem_filter];constructor
    ·intro h;by_cases h1:p.1∈rm
     ·right;cases hh:heldB rm vals own [] p.1 with
      | true=>rfl
      | false=>exact absurd ⟨h1,hh⟩ h
     ·exact .inl h1
    ·rintro (h | h) ⟨h1,h2⟩
     ·exact h h1
     ·rw [h] at h2;exact absurd h2 (by simp)
   simp only [CR,hb,Ajx,if_false,Be,ha,hgone,hown];have hnone:anyIn (rm.filter fun s=>!heldB rm vals own [] s) (De ⟨vals,⟨Ho rm vals own [],ext⟩⟩)=false:=by
    apply El;intro s hs hmem;obtain ⟨hs1,hs2⟩:=List.mem_filter.1 hs;have hs2:heldB rm vals own [] s=false:=by simpa using hs2
    simp only [De,Ajk] at hmem;rcases hmem with (hmem | hmem) | hmem
    ·have:=(hm s).1 (List.mem_append_left _ (List.mem_append_left _ hmem))
     rw [this] at hs2;cases hs2
    ·obtain ⟨p,hp,hr⟩:=List.mem_flatMap.1 hmem;have hp1:=(List.mem_filter.1 hp).1;have hn:=(En (Ajl.1 g2 p hp1) s).1 hr;have h4:=Ajl.1 g4 p hp1;cases hc:rm.contains p.1 with
     | true =>rw [hc] at h4;have h4:(rm.all fun s=>!Fj s p.2)=true:=h4;have h5:=Ajl.1 h4 s hs1;rw [hn] at h5;cases h5
     | false =>
      have:=(hm s).1 (List.mem_append_left _ (List.mem_append_right _ (List.mem_flatMap.2 ⟨p,List.mem_filter.2 ⟨hp1,by rw [hc];rfl⟩,hr⟩)))
      rw [this] at hs2;cases hs2
    ·exact hx s hmem
   simp only [hnone,Ajx,if_false,In]
  cases hff:(and (Fr rm (CP vals [])) (and (Hv rm own) (Iu rm ext))) with
  | false=>exact slow
  | true =>
   have hff:(Fr rm (CP vals []) && (Hv rm own && Iu rm ext))=true:=hff;simp only [Ajz] at hff;simp only [Hh,cond_true];congr 2;apply List.filter_congr;intro p hp;cases hc:rm.contains p.1 with
   | false=>rfl
   | true =>
    have h1:=Ft hff.1;rw [refsDL_eq,Ajm] at h1;have h2:=Hz hff.2.1
    have:heldB rm vals own [] p.1=false:=by
     cases hh:heldB rm vals own [] p.1 with
     | false=>rfl
     | true =>
      have:=(hm p.1).2 hh
      have hpm:p.1∈rm:=List.contains_iff_mem.1 hc;rcases Ajk.1 this with h | h
      ·rcases Ajk.1 h with h | h
       ·exact absurd h (h1 _ hpm)
       ·exact absurd h (h2 _ hpm)
      ·exact absurd h (hx _)
    rw [this];rfl
structure ExtX (ext ext':List Blk):Prop where
 g:Nt 400 [.ext 0] 0 ext=true
 l:ext'.length=ext.length
 o:Yl ext.length ext'=true
theorem Vk {ks:List Bool} {ih:Ah} {f:FuncId} {args:List IV} {vs:List FV} {w:FV} {u:List (Ref×Blk)} {lg:List Ref} {own own':List (Nat×Blk)} {ext ext':List Blk}
  (hz:∀(e:Option (IV×Hp)) (k:List IV->List Ref->List (Ref×Blk)->List Ref->Option (IV×Hp)),Rc args ks ⟨own,ext⟩ [] e k=k (vs.map .fv) [] u lg) (X:ExtX ext ext')
  (hr:Bz (ih f (.ptr (.ext 0) 0::vs.map .fv) ⟨[],ext⟩) w ext') (hlay:∀k:Hp->Option (IV×Hp),Kt u ⟨own,ext'⟩ k=k ⟨own',ext'⟩) (k:KT (IV×Hp)) :
  A5 (true::ks) false false ih f (.ptr (.ext 0) 0::args) ⟨own,ext⟩ k=k (.fv w) ⟨own',ext'⟩ ((C3 ext.length).reverse++lg) (BB u++C3 ext.length):=by
 rw [Jb,T9,Pj,hz]
 have:=Pn (r1:=.ext 0) (rs1:=[]) hr X.g X.l X.o own (ih f (.ptr (.ext 0) 0::vs.map .fv) ⟨[],[]⟩) u lg (Ea (true::ks) false false ih f (.ptr (.ext 0) 0::args) ⟨own,ext⟩ k) k
 exact this.trans (hlay _)
theorem AaK:∀(cs:List FV),(∀x∈cs,∀l,x≠.agg l)->∀k:List FV->Option β,SH 1 cs.length cs k=k cs
 | [],_,k=>rfl
 | c::cs,h,k=>by
  show (FK (c::cs) 1 fun a=>Fw (c::cs) 1 fun b=>Yd a fun x=>SH 1 cs.length b fun xs=>k (x::xs))=_
  rw [t1,d1]
  have:∀k:FV->Option β,Yd [c] k=k c:=by
   intro k;cases c with
   | agg l=>exact absurd rfl (h _ Aji l)
   | _=>rfl
  rw [this,AaK cs (fun x hx=>h x (Ajj _ hx))]
theorem MR (d:Nat) (h:Hp) (lg:List Ref) (e:Option β):∀(l:List FV) (k:List FV->List (Ref×Blk)->List Ref->Option β),CO (DB (d+1)) (l.map .fv) h lg e k=k l [] lg
 | [],k=>rfl
 | v::l,k=>by
  show (DB (d+1) (.fv v) h lg e fun y u lg=>CO (DB (d+1)) (l.map .fv) h lg e fun ys us lg=>Lf u us fun w=>k (y::ys) w lg)=_
  show (CO (DB (d+1)) (l.map .fv) h lg e fun ys us lg=>Lf [] us fun w=>k (v::ys) w lg)=_
  rw [MR d h lg e l];rfl
theorem cL {d:Nat} {s:Nat} {es:List FV} {ro:Bool} {own:List (Nat×Blk)} {ext:List Blk} (hl:Ap s own=some (.row (es.map .fv) ro)) (hn:es.length<=300) (ha:∀x∈es,∀l,x≠.agg l) (lg:List Ref) (e:Option β)
  (k:FV->List (Ref×Blk)->List Ref->Option β):DB (d+2) (.slc (.own s) 1 es.length) ⟨own,ext⟩ lg e k=k (.sl es) [(.own s,.row (es.map .fv) true)] (.own s::lg):=by
 show (Dq (.own s) ⟨own,ext⟩ fun b=>DY b fun cells=>cond (Nat.ble cells.length 300) (cond (or (Nat.beq 1 0) (not (Nat.ble (es.length * 1) cells.length))) none
  (CO (DB (d+1)) cells ⟨own,ext⟩ (.own s::lg) e fun cs u lg=>SH 1 es.length cs fun els=>k (.sl els) ((.own s,.row cells true)::u) lg)) e)=_
 rw [Jn,BA,hl];simp only [Ajt,HL,Ajw,Nat.mul_one];rw [Bp,decide_eq_true hn,iI,show Nat.ble es.length es.length=true by rw [Bp];exact decide_eq_true (AjA _)]
 simp only [Bool.not_true]
 show (CO (DB (d+1)) (es.map .fv) ⟨own,ext⟩ (.own s::lg) e fun cs u lg=>SH 1 es.length cs fun els=>k (.sl els) ((.own s,.row (es.map .fv) true)::u) lg)=_
 rw [MR,AaK es ha]
theorem Acz {s s2:Nat} {es:List FV} {ro ro2:Bool} {a b c d t x:FV} {own:List (Nat×Blk)} {ext:List Blk} (hl:Ap s own=some (.row [.fv a,.fv b,.slc (.own s2) 1 es.length,.fv c,.fv d,.fv t,.fv x] ro)) (hl2:Ap s2 own=some (.row (es.map .fv) ro2))
  (hn:es.length<=300) (ha:∀x∈es,∀l,x≠.agg l) (lg:List Ref) (e:Option β) (k:FV->List (Ref×Blk)->List Ref->Option β):DB 12 (.ptr (.own s) 0) ⟨own,ext⟩ lg e k =
   k (.fp [a,b,.sl es,c,d,t,x] 0) [(.own s,.row [.fv a,.fv b,.slc (.own s2) 1 es.length,.fv c,.fv d,.fv t,.fv x] true),(.own s2,.row (es.map .fv) true)] (.own s2 :: .own s::lg):=by
 rw [Uf,Jn,BA,hl];simp only [Ajt,HL];rw [Bp,decide_eq_true (by simp),iI];rw [SC,Iw,SC,Iw,SC,cL (d:=9) hl2 hn ha,SC,Iw,SC,Iw,SC,Iw,SC,Iw,xV];rfl
end
theorem E4 (l:List FV):(l.map IV.fv).all FB=true:=by induction l with
 | nil=>rfl
 | cons a l ih=>rw [Ai5,List.all_cons,ih];rfl
theorem DM (s:Nat) (l:List FV):(l.map IV.fv).any (Cw s)=false:=by induction l with
 | nil=>rfl
 | cons a l ih=>rw [Ai5,List.any_cons,ih];rfl
def BJ:List Tm->List FV
 | []=>[]
 | .mk o n k::l=>.int .i64 o :: .int .i64 n :: .sl (k.map Tm.enc)::BJ l
def J1:Nat->List IV
 | 0=>[]
 | n+1=>iv 0::iv 0 :: .nils::J1 n
def BZ (ts:List Tm) (r:Nat):List IV:=(BJ ts).map .fv++J1 r
theorem GI (ts:List Tm):(BJ ts).length=3 * ts.length:=by
 induction ts with
 | nil=>rfl
 | cons t l ih=>obtain ⟨o,n,k⟩:=t;simp only [BJ,Ai3,ih];omega
theorem SU (ts:List Tm) (t:Tm):BJ (ts++[t])=BJ ts++[.int .i64 t.op,.int .i64 t.n,.sl (t.kids.map Tm.enc)]:=by
 induction ts with
 | nil=>obtain ⟨o,n,k⟩:=t;rfl
 | cons a l ih=>obtain ⟨o,n,k⟩:=a;simp only [Ajq,BJ,ih]
theorem Ow {β:Type}:∀(A:List IV) (x y z:IV) (B:List IV) (a b c:FV) (k:List IV->Option β),Ef (A++x::y::z::B) A.length [a,b,c] k=k (A++.fv a :: .fv b :: .fv c::B)
 | [],x,y,z,B,a,b,c,k=>rfl
 | w::A,x,y,z,B,a,b,c,k=>by
  show Ef (A++x::y::z::B) A.length [a,b,c] (fun t=>k (w::t))=_
  rw [Ow A];rfl
def Vy {β:Type} (done:List Tm) (r:Nat) (o n:Int) (ks:List Tm) (k:List IV->Option β):Ef (BZ done (r+1)) (done.length * 3) [.int .i64 o,.int .i64 n,.sl (ks.map Tm.enc)] k=k (BZ (done++[.mk o n ks]) r):=by have h:=Ow (β:=β) ((BJ done).map .fv) (iv 0) (iv 0) .nils (J1 r) (.int .i64 o) (.int .i64 n) (.sl (ks.map Tm.enc)) k;rw [Ajw,GI,Nat.mul_comm] at h;refine h.trans ?_;congr 1;unfold BZ;rw [SU];simp [Tm.op,Tm.n,Tm.kids,iv]
theorem yV {β:Type}:∀(ts:List Tm) (k:List FV->Option β),SH 3 ts.length (BJ ts) k=k (ts.map Tm.enc)
 | [],k=>rfl
 | .mk o n ks::l,k=>by
  show (FK (BJ (.mk o n ks::l)) 3 fun a=>Fw (BJ (.mk o n ks::l)) 3 fun b=>Yd a fun x=>SH 3 l.length b fun xs=>k (x::xs))=_
  rw [BJ,t3,d3]
  show (SH 3 l.length (BJ l) fun xs=>k (.agg [.int .i64 o,.int .i64 n,.sl (ks.map Tm.enc)]::xs))=_
  rw [yV l,Ai5,Am]
theorem AaN (n:Nat):NB n [iv 0,iv 0,.nils]=BZ [] n:=by
 induction n with
 | zero=>rfl
 | succ n ih=>rw [NB,ih];rfl
def y8 {n:Nat} (hn:n<=1000) (s:Nat) (own:List (Nat×Blk)) (ext:List Blk) (k:KT (IV×Hp)) :
  Az (BH EE s 29 (iv n) (iv n)) s ⟨own,ext⟩ k=CS own s (Bc own s (.row (BZ [] n) false) fun own=>k (.slc (.own s) 3 n) ⟨own,ext⟩ [] [.own s]):=by
 have:BH EE s 29 (iv n) (iv n)=.ret { eff:={ val:=.slc (.own s) 3 n },new:=some (.row (BZ [] n) false) }:=by simp only [BH,PH,kK,TS];rw [if_pos ⟨by omega,by omega,by omega,by decide,by decide⟩,Int.toNat_natCast,AaN]
 rw [this];unfold Az;simp only [Rd.runLog,Hf,Cz,Cj];rfl
def Mx {β:Type} {n i:Nat} (h:i<n) (r:Ref) (k:IV->Option β):AQ 3 (.slc r 3 n) (iv i) k=k (.ptr r (i * 3)):=by
 have e1:Nat.ble (Nat.succ i) n=true:=by rw [Bp];exact decide_eq_true h
 show (cond (and (Nat.ble (Nat.succ i) n) (Nat.beq 3 3)) (Ec (i * 3) fun o=>k (.ptr r o)) none)=_
 rw [e1];simp only [Ca];rfl
theorem GC (ts:List Tm) (r:Nat):(BZ ts r).all FB=true:=by
 unfold BZ;rw [List.all_append,E4,Bool.true_and]
 induction r with
 | zero=>rfl
 | succ r ih=>rw [J1,List.all_cons,List.all_cons,List.all_cons,ih];rfl
theorem EX (s:Nat) (ts:List Tm) (r:Nat):(BZ ts r).any (Cw s)=false:=by
 unfold BZ;rw [List.any_append,DM,Bool.false_or]
 induction r with
 | zero=>rfl
 | succ r ih=>rw [J1,List.any_cons,List.any_cons,List.any_cons,ih];rfl
def n9 {s d:Nat} {ts:List Tm} {ro:Bool} {own:List (Nat×Blk)} {ext:List Blk} (hl:Ap s own=some (.row (BZ ts 0) ro)) (hn:ts.length<=100) (lg:List Ref) (e:Option (IV×Hp))
  (k:FV->List (Ref×Blk)->List Ref->Option (IV×Hp)):DB (d+2) (.slc (.own s) 3 ts.length) ⟨own,ext⟩ lg e k=k (.sl (ts.map Tm.enc)) [(.own s,.row (BZ ts 0) true)] (.own s::lg):=by
 have hlen:(BZ ts 0).length=3 * ts.length:=by simp [BZ,J1,GI]
 show (Dq (.own s) ⟨own,ext⟩ fun b=>DY b fun cells=>cond (Nat.ble cells.length 300) (cond (or (Nat.beq 3 0) (not (Nat.ble (ts.length * 3) cells.length))) none
  (CO (DB (d+1)) cells ⟨own,ext⟩ (.own s::lg) e fun cs u lg=>SH 3 ts.length cs fun els=>k (.sl els) ((.own s,.row cells true)::u) lg)) e)=_
 rw [Jn,BA,hl];simp only [Ajt,HL];rw [hlen,Bp,decide_eq_true (by omega),iI,Bp,decide_eq_true (by omega)];simp only [Bool.not_true]
 show (CO (DB (d+1)) (BZ ts 0) ⟨own,ext⟩ (.own s::lg) e fun cs u lg=>SH 3 ts.length cs fun els=>k (.sl els) ((.own s,.row (BZ ts 0) true)::u) lg)=_
 rw [show BZ ts 0=(BJ ts).map .fv by simp [BZ,J1],MR,yV]
def cE {s:Nat} {ts:List Tm} {ro:Bool} {a b:FV} {own:List (Nat×Blk)} {ext:List Blk} (hl:Ap s own=some (.row (BZ ts 0) ro)) (hn:ts.length<=100) (lg:List Ref) (e:Option (IV×Hp))
  (k:FV->List (Ref×Blk)->List Ref->Option (IV×Hp)):DB 12 (.agg [.fv a,.fv b,.slc (.own s) 3 ts.length]) ⟨own,ext⟩ lg e k=k (.agg [a,b,.sl (ts.map Tm.enc)]) [(.own s,.row (BZ ts 0) true)] (.own s::lg):=by
 rw [aF,show Nat.ble [IV.fv a,.fv b,.slc (.own s) 3 ts.length].length 300=true from rfl,iI,SC,Iw,SC,Iw,SC,n9 (d:=9) hl hn,xV]
 rfl
def Eo {β:Type} (o p:Int) (l:List FV) (r:List FV) (k:IV->Option β):AQ 3 (.fv (.sl (.agg [.int .i64 o,.int .i64 p,.sl l]::r))) (iv 0) k=k (.fv (.fp [.int .i64 o,.int .i64 p,.sl l] 0)):=by
 have h:(.agg [.int .i64 o,.int .i64 p,.sl l]::r:List FV)[0]?=some (.agg [.int .i64 o,.int .i64 p,.sl l]):=rfl
 have:=Bq (β:=β) h (Bk _ _ _) k
 rw [B8] at this;exact this
def EH {β:Type} (a:FV) (o p:Int) (l:List FV) (r:List FV) (k:IV->Option β):AQ 3 (.fv (.sl (a :: .agg [.int .i64 o,.int .i64 p,.sl l]::r))) (iv 1) k=k (.fv (.fp [.int .i64 o,.int .i64 p,.sl l] 0)):=by
 have h:(a :: .agg [.int .i64 o,.int .i64 p,.sl l]::r:List FV)[1]?=some (.agg [.int .i64 o,.int .i64 p,.sl l]):=rfl
 have:=Bq (β:=β) h (Bk _ _ _) k
 rw [B8] at this;exact this
def Gd {β:Type} (a b:FV) (o p:Int) (l:List FV) (r:List FV) (k:IV->Option β):AQ 3 (.fv (.sl (a::b :: .agg [.int .i64 o,.int .i64 p,.sl l]::r))) (iv 2) k=k (.fv (.fp [.int .i64 o,.int .i64 p,.sl l] 0)):=by
 have h:(a::b :: .agg [.int .i64 o,.int .i64 p,.sl l]::r:List FV)[2]?=some (.agg [.int .i64 o,.int .i64 p,.sl l]):=rfl
 have:=Bq (β:=β) h (Bk _ _ _) k
 rw [B8] at this;exact this
def CB (w:FV) (own:List (Nat×Blk)):IN (some (.fv w,⟨own,[]⟩)) w:=⟨_,own,rfl,qP w own⟩
def eQ {r:Option (IV×Hp)} {w:FV} (h:IN r w):BE r w:=by obtain ⟨v,own,e,hz⟩:=h;exact ⟨v,own,e,.inl hz⟩
abbrev zP (op m:Int) (ks:List Tm) (K:IV) (tok:List (Nat×Blk)):Hp :=⟨(63963136,.row [iv op,iv m,.fv (.sl (ks.map Tm.enc))] false)::(63963137,.row [iv 0,iv 0,.nils] false)::(63964165,.row [iv op,iv m,K] false)::tok,[]⟩
def Di (op:Int):Nat->List Tm->List Tm
 | _,[]=>[]
 | i,t::l=>(if i=0/\(op=4\/op=7) then AY else t.eta)::Di op (i+1) l
def Uk (o p:Int) (l:List FV) (s:Nat) (own:List (Nat×Blk)) (ext:List Blk) (k:KT (IV×Hp)) :
  Az (AT EE s false .append [29,29] [.nils,.clip [.agg [.int .i64 o,.int .i64 p,.sl l]]]) s ⟨own,ext⟩ k=CS own s (Bc own s (.tok 1 3) fun own=>k (.app (.own s) [.agg [.int .i64 o,.int .i64 p,.sl l]]) ⟨own,ext⟩ [] [.own s]) :=
 HM sTm (.clip _) rfl rfl (by simp) (.inl rfl) s own ext k
theorem On (op:Int) (x:Tm):∀(i:Nat) (l:List Tm),Di op i (l++[x])=Di op i l++[if i+l.length=0/\(op=4\/op=7) then AY else x.eta]
 | i,[]=>by simp [Di]
 | i,t::l=>by
  simp only [Ajq,Di,On op x (i+1) l,Ai3];rw [show i+1+l.length=i+(l.length+1) by omega]
theorem Oq (op:Int):∀(i:Nat) (l:List Tm),(Di op i l).length=l.length
 | _,[]=>rfl
 | i,t::l=>by simp only [Di,Ai3,Oq op (i+1) l]
theorem X3 {n:Nat} {op m:Int} {ks:List Tm} {w:FV} (h4:ks.length<=4) (hn:ks.length+3<n)
  (ih:∀x∈ks,BE (SS dt n 61 [.fv x.enc] ⟨[],[]⟩) x.eta.enc)
  (hend:∀(K:IV) (tok:List (Nat×Blk)) (rec:List IV->Hp->Option (IV×Hp)),((ks=[]/\K=.nils/\tok=[])\/(ks≠[]/\K=.app (.own 63971332) ((Di op 0 ks).map Tm.enc)/\tok=[(63971332,.tok ks.length 3)])) ->
   BE (H8 [.ptr (.own 63963136) 0,.ptr (.own 63963137) 0,.ptr (.own 63964165) 0,iv ks.length] (zP op m ks K tok) (SS dt n) ⟨[],[]⟩ rec) w) :
  BE (SS dt (n+1) 61 [.fv (Tm.mk op m ks).enc] ⟨[],[]⟩) w:=by
 rw [c61,Am];simp only [O8,PO,QF,Px,O2,Pr,Qm,Qu,Qb,OP,S61,↓XX,XY,↓reduceIte,seval,↓AI,XD,heldB,AS,XE];refine Ba (Q:=fun r=>BE r _) (fun j V H=>∃(pre rest:List Tm) (K:IV) (tok:List (Nat×Blk)),ks=pre++rest/\rest.length=j/\V=[.ptr (.own 63963136) 0,.ptr (.own 63963137) 0,.ptr (.own 63964165) 0,iv pre.length]/\H=zP op m ks K tok /\
   ((pre=[]/\K=.nils/\tok=[])\/(pre≠[]/\K=.app (.own 63971332) ((Di op 0 pre).map Tm.enc)/\tok=[(63971332,.tok pre.length 3)])))
  ?_ n ks.length _ _ (by omega) ⟨[],ks,.nils,[],rfl,rfl,rfl,rfl,.inl ⟨rfl,rfl,rfl⟩⟩
 rintro j V H rec ⟨pre,rest,K,tok,hks,hl,rfl,rfl,hK⟩ hrec;have hkl:ks.length=pre.length+rest.length:=by rw [hks];simp
 cases rest with
 | nil =>rw [Ajm] at hks;subst hks;exact hend K tok rec hK
 | cons x rest =>
  have hi:(pre.length:Int)<ks.length:=by rw [hkl];simp;omega
  have hg2:=BY hks;have hc:=ih x (by rw [hks];simp);have hwi:BC ((pre.length:Int)+1)=((pre++[x]).length:Int):=(Ax (by omega) (by omega)).trans (by simp);have h0:=AZ (n:=n) (by omega) 11;have hi0:(0:Int)<ks.length:=by omega
  have hw01:BC (0+1)=1:=by decide
  simp only [Ai3] at hl hkl;rcases hK with ⟨rfl,rfl,rfl⟩ | ⟨hne,rfl,rfl⟩
  ·have hz:∀y,((op=4\/op=7)->y=AY)->(¬ (op=4\/op=7)->y=x.eta)->Di op 0 [x]=[y]:=by
    intro y h1 h2;by_cases h:op=4\/op=7
    ·simp [Di,h,h1 h]
    ·simp [Di,h,h2 h]
   have h9:∀y,Di op 0 [x]=[y]->BE (rec [.ptr (.own 63963136) 0,.ptr (.own 63963137) 0,.ptr (.own 63964165) 0,iv 1] (zP op m ks (.app (.own 63971332) [y.enc]) [(63971332,.tok 1 3)])) w:=by intro y hy;exact hrec rest.length _ _ (by omega) ⟨[x],rest,_,_,by rw [hks];simp,rfl,rfl,rfl,.inr ⟨by simp,by rw [Ajo] at *;rw [hy];rfl,rfl⟩⟩
   by_cases hop:op=4
   ·have h8:=h9 AY (hz _ (fun _=>rfl) (fun h=>absurd (.inl hop) h));subst hop;generalize x.eta=y at hc;obtain ⟨o,p,l⟩:=x;obtain ⟨o2,p2,l2⟩:=y;rw [Am,Am] at hc;rw [Am] at h0;have hze:AY.enc=.agg [.int .i64 11,.int .i64 0,.sl []]:=rfl;rw [hze] at h8;simp only [↓TO,↓XX,XY,↓reduceIte,seval,hi,↓Bq (AN hg2) (Bk _ _ _),↓B8,↓Aq hc,↓Af h0,hi0,hw01,↓Dz,↓Uk,↓AI,XD,heldB,AS,XE];exact h8
   ·by_cases hop7:op=7
    ·have h8:=h9 AY (hz _ (fun _=>rfl) (fun h=>absurd (.inr hop7) h));subst hop7;generalize x.eta=y at hc;obtain ⟨o,p,l⟩:=x;obtain ⟨o2,p2,l2⟩:=y;rw [Am,Am] at hc;rw [Am] at h0;have hze:AY.enc=.agg [.int .i64 11,.int .i64 0,.sl []]:=rfl;rw [hze] at h8;simp only [↓TO,↓XX,XY,↓reduceIte,seval,hi,↓Bq (AN hg2) (Bk _ _ _),↓B8,↓Aq hc,↓Af h0,hi0,hw01,↓Dz,↓Uk,↓AI,XD,heldB,AS,XE];exact h8
    ·have h8:=h9 x.eta (hz _ (fun h=>absurd h (by omega)) (fun _=>rfl));generalize x.eta=y at hc h8;obtain ⟨o,p,l⟩:=x;obtain ⟨o2,p2,l2⟩:=y;rw [Am,Am] at hc;rw [Am] at h8;simp only [↓TO,↓XX,XY,↓reduceIte,seval,hi,hop,hop7,↓Bq (AN hg2) (Bk _ _ _),↓B8,↓Aq hc,hi0,hw01,↓Dz,↓Uk,↓AI,XD,heldB,AS,XE];exact h8
  ·have hp0:¬ (pre.length:Int)=0:=by
    have:=List.length_pos_iff.2 hne
    omega
   have h8:=hrec rest.length _ _ (by omega) ⟨pre++[x],rest,_,_,by rw [hks];simp,rfl,rfl,rfl,.inr ⟨by simp,by rw [On,if_neg (by rintro ⟨h,_⟩;omega)],rfl⟩⟩;have hlen:=Oq op 0 pre;generalize Di op 0 pre=D at h8 hlen;generalize x.eta=y at hc h8;obtain ⟨o,p,l⟩:=x;obtain ⟨o2,p2,l2⟩:=y;have happ:=fun {own:List (Nat×Blk)} {ext:List Blk} (r s:Nat) (k:KT (IV×Hp))=>Lu (es:=D) (by omega) (.mk o2 p2 l2) r s own ext k;rw [hlen] at happ;rw [Am,Am] at hc;simp only [Am] at happ;simp only [↓TO,↓XX,XY,↓reduceIte,seval,hi,hp0,↓Bq (AN hg2) (Bk _ _ _),↓B8,↓Aq hc,hwi,↓Dz,↓happ,↓G4,↓AI,XD,heldB,AS,XE];have e9:(pre++[Tm.mk o p l]).length=pre.length+1:=by simp
   rw [e9] at h8 ⊢;exact h8
def JJ {β:Type} (r:Ref) (es:List FV) (x:IV) (k:IV->Option β):AQ 3 (.app r es) x k=AQ 3 (.fv (.sl es)) x k:=rfl
theorem Xo (op:Int) (h:op=4\/op=7):∀ks:List Tm,Di op 0 ks=NE (Tm.etaL ks)
 | []=>rfl
 | t::l=>by
  have:∀(i:Nat) (l:List Tm),Di op (i+1) l=Tm.etaL l:=by
   intro i l
   induction l generalizing i with
   | nil=>rfl
   | cons a l ih=>rw [Di,if_neg (by omega),ih,Tm.etaL]
  rw [Di,if_pos ⟨rfl,h⟩,this 0,Tm.etaL,NE]
theorem Wz (op:Int) (h:¬ (op=4\/op=7)):∀(i:Nat) (ks:List Tm),Di op i ks=Tm.etaL ks
 | _,[]=>rfl
 | i,t::l=>by rw [Di,if_neg (fun h'=>h h'.2),Wz op h (i+1) l,Tm.etaL]
def Tu {n:Nat} {op m:Int} {ks:List Tm} (h:¬ (op=4\/op=7)) (rec:List IV->Hp->Option (IV×Hp)) {K:IV} {tok:List (Nat×Blk)}
  (hK:(ks=[]/\K=.nils/\tok=[])\/(ks≠[]/\K=.app (.own 63971332) ((Di op 0 ks).map Tm.enc)/\tok=[(63971332,.tok ks.length 3)])) :
  BE (H8 [.ptr (.own 63963136) 0,.ptr (.own 63963137) 0,.ptr (.own 63964165) 0,iv ks.length] (zP op m ks K tok) (SS dt n) ⟨[],[]⟩ rec) (Tm.mk op m (Tm.etaL ks)).enc:=by
 have hno:¬ ((ks.length:Int)<ks.length):=by omega
 have h4:¬ op=4:=fun h'=>h (.inl h');have h7:¬ op=7:=fun h'=>h (.inr h');rw [Am];rcases hK with ⟨rfl,rfl,rfl⟩ | ⟨hne,rfl,rfl⟩
 ·simp only [↓TO,↓XX,XY,↓reduceIte,seval,hno,h4,h7];exact Bo rfl _
 ·rw [Wz op h];simp only [↓TO,↓XX,XY,↓reduceIte,seval,hno,h4,h7];exact Bo rfl _
def tT {n:Nat} {m:Int} {ks:List Tm} {a b:Tm} (rec:List IV->Hp->Option (IV×Hp)) (h3:ks.length=3) (hn:a.wt+10<n) (haw:a.wt<=100000000) (hka:a.op=8->∃x,a.kids=[x]) (hkb:b.op=9->∃y,b.kids=[y]) :
  BE (H8 [.ptr (.own 63963136) 0,.ptr (.own 63963137) 0,.ptr (.own 63964165) 0,iv ks.length] (zP 7 m ks (.app (.own 63971332) ([AY,a,b].map Tm.enc)) [(63971332,.tok ks.length 3)]) (SS dt n) ⟨[],[]⟩ rec) (Y1 (.mk 7 m [AY,a,b])).enc:=by
 have hno:¬ ((ks.length:Int)<ks.length):=by omega
 have hze:AY.enc=.agg [.int .i64 11,.int .i64 0,.sl []]:=rfl;obtain ⟨o1,n1,k1⟩:=a;obtain ⟨o2,n2,k2⟩:=b;by_cases h8:o1=8
 ·by_cases h9:o2=9
  ·subst h8 h9;obtain ⟨x,hx⟩:=hka rfl;obtain ⟨y,hy⟩:=hkb rfl;simp only [Tm.kids] at hx hy;subst hx hy;simp only [Tm.wt,Tm.wtL] at hn haw;have hs:=JW n x y (by omega) (by omega);rw [Y1];generalize x.same y=v at hs;obtain ⟨o3,n3,k3⟩:=x;obtain ⟨o4,n4,k4⟩:=y;simp only [Am] at hs;cases v
   ·rw [if_neg (by simp)];simp only [Am,hze,Ai5,Ai4];simp only [↓TO,↓XX,XY,↓reduceIte,seval,hno,↓JJ,↓Eo,↓EH,↓Gd,↓Af hs];exact Bo rfl _
   ·rw [if_pos ⟨rfl,rfl,rfl⟩];simp only [Am,hze,Ai5,Ai4];simp only [↓TO,↓XX,XY,↓reduceIte,seval,hno,↓JJ,↓Eo,↓EH,↓Gd,↓Af hs];exact Aw _ _
  ·rw [Qi (by simp [Tm.op,h9])];simp only [Am,hze,Ai5,Ai4];simp only [↓TO,↓XX,XY,↓reduceIte,seval,hno,↓JJ,↓Eo,↓EH,↓Gd,h8,h9];exact Bo rfl _
 ·rw [Qi (by simp [Tm.op,h8])];simp only [Am,hze,Ai5,Ai4];simp only [↓TO,↓XX,XY,↓reduceIte,seval,hno,↓JJ,↓Eo,↓EH,↓Gd,h8];exact Bo rfl _
def wG {n:Nat} {m:Int} {ks:List Tm} {b:Tm} {K:Nat} (rec:List IV->Hp->Option (IV×Hp)) (h3:ks.length=2) (hn:b.wt+20<n) (hbw:b.wt<=100000000) (hs:b.sc K) :
  BE (H8 [.ptr (.own 63963136) 0,.ptr (.own 63963137) 0,.ptr (.own 63964165) 0,iv ks.length] (zP 4 m ks (.app (.own 63971332) ([AY,b].map Tm.enc)) [(63971332,.tok ks.length 3)]) (SS dt n) ⟨[],[]⟩ rec) (Y6 (.mk 4 m [AY,b])).enc:=by
 have hno:¬ ((ks.length:Int)<ks.length):=by omega
 have hze:AY.enc=.agg [.int .i64 11,.int .i64 0,.sl []]:=rfl;have hwk:=CT b K hs;obtain ⟨o1,n1,k1⟩:=b;by_cases h5:o1=5
 ·subst h5;have hl2:=F9 hs rfl (show ar 5=some 2 by decide)
  simp only [Tm.kids] at hl2
  match k1,hl2 with
  | [f,x],_ =>
  rw [Tm.sc] at hs;have hsf:=hs.2.2.1;have hsx:=hs.2.2.2.1;simp only [Tm.wt,Tm.wtL] at hn hbw;rw [Tm.wk] at hwk;have hfw:f.wk:=KY hwk.2 (by simp);have hv0:=pP (n:=n) (by omega) 0;have hsame:=JW n x (.mk 1 0 []) (by omega) (by omega);have hfree:=VD n f 0 (by omega) (by omega) (by omega) (by omega);have h0:=AZ (n:=n) (by omega) 11;have hsub:=L8 (n:=n) f AY 0 (by simp [AY,Tm.wk,Tm.wkL]) (by simp [AY,Tm.wt,Tm.wtL]) (by simp only [AY,Tm.wt,Tm.wtL];omega) hfw (by omega) (by omega) (by omega);obtain ⟨o2,n2,k2⟩:=x;have hx:(Tm.mk o2 n2 k2).same (.mk 1 0 [])=(decide (o2=1) && decide (n2=0)):=by
   rw [Tm.same];by_cases h1:o2=1
   ·subst h1;have hk2:k2.length=0:=by
     have:=F9 hsx rfl (show ar 1=some 0 by decide)
     simpa [Tm.kids] using this
    have hk3:k2=[]:=Ajr.1 hk2;subst hk3;simp [Tm.sameL]
   ·simp [h1]
  rw [hx] at hsame;rw [Y6];generalize hr:f.subst 0 0 AY=u at hsub;generalize f.free 0=fr at hfree;obtain ⟨o4,n4,k4⟩:=u;obtain ⟨o3,n3,k3⟩:=f;rw [hze] at hsub;simp only [Am,Ai4] at hfree hsub hv0 hsame h0;by_cases h1:o2=1
  ·by_cases h2:n2=0
   ·rw [h1,h2] at hsame;simp only [decide_true,Bool.and_self] at hsame;cases fr
    ·rw [if_pos ⟨rfl,h1,h2,rfl⟩];simp only [Am,hze,Ai5,Ai4];simp only [↓TO,↓XX,XY,↓reduceIte,seval,hno,↓JJ,↓Eo,↓EH,↓Gd,h1,h2,↓Aq hv0,↓Af hsame,↓Af hfree,↓Af h0,↓Av hsub];exact Aw _ _
    ·rw [if_neg (by simp)];simp only [Am,hze,Ai5,Ai4];simp only [↓TO,↓XX,XY,↓reduceIte,seval,hno,↓JJ,↓Eo,↓EH,↓Gd,h1,h2,↓Aq hv0,↓Af hsame,↓Af hfree];exact Bo rfl _
   ·rw [if_neg (by simp [h2])];rw [h1,decide_eq_true (rfl:(1:Int)=1),decide_eq_false h2,Bool.and_false] at hsame;simp only [Am,hze,Ai5,Ai4];simp only [↓TO,↓XX,XY,↓reduceIte,seval,hno,↓JJ,↓Eo,↓EH,↓Gd,h1,↓Aq hv0,↓Af hsame];exact Bo rfl _
  ·rw [if_neg (by simp [h1])];rw [decide_eq_false h1,Bool.false_and] at hsame;simp only [Am,hze,Ai5,Ai4];simp only [↓TO,↓XX,XY,↓reduceIte,seval,hno,↓JJ,↓Eo,↓EH,↓Gd,↓Aq hv0,↓Af hsame];exact Bo rfl _
 ·rw [eG (by simpa [Tm.op] using h5)];simp only [Am,hze,Ai5,Ai4];simp only [↓TO,↓XX,XY,↓reduceIte,seval,hno,↓JJ,↓Eo,↓EH,↓Gd,h5];exact Bo rfl _
theorem LK:∀(n:Nat) (t:Tm) (k:Nat),t.sc k->2 * t.wt+40<n->k+2 * t.wt<=90000000->BE (SS dt n 61 [.fv t.enc] ⟨[],[]⟩) t.eta.enc:=by
 intro n
 induction n with
 | zero=>intro t k _ h;omega
 | succ n ih =>
  intro t k hs hn hw;have hwk:=CT t k hs;obtain ⟨op,m,ks⟩:=t;rw [Tm.sc] at hs;rw [Tm.wk] at hwk;simp only [Tm.wt] at hn hw;have hlen:=Dp ks;have hkd:=etaL_sc op 0 ks k hs.2.2 (by omega);have hdl:=Mt ks;refine X3 hwk.1 (by omega) (fun x hx=>?_) (fun K tok rec hK=>?_)
  ·have hxw:=Cb hx;obtain ⟨i,hi⟩:=List.getElem?_of_mem hx;have hxs:=GT hs.2.2 hi;have hble:=AW op (0+i);exact ih x _ hxs (by omega) (by omega)
  ·rw [Tm.eta];by_cases h4:op=4
   ·subst h4;rw [if_pos rfl];have h2:ks.length=2:=by have:=hs.1;rw [show ar 4=some 2 by decide] at this;simp only [AiZ] at this;omega
    have hne:ks≠[]:=by intro h;rw [h] at h2;cases h2
    rw [Xo 4 (.inl rfl)] at hK;rcases hK with ⟨h,_⟩ | ⟨_,rfl,rfl⟩
    ·exact absurd h hne
    ·generalize Tm.etaL ks=D at hkd hdl;have hd2:D.length=2:=by omega
     match D,hd2,hkd with
     | [a,b],_,hkd =>simp only [Tm.scL,Tm.wtL] at hkd;exact wG rec h2 (by omega) (by omega) hkd.1.2.1
   ·rw [if_neg h4];by_cases h7:op=7
    ·subst h7;rw [if_pos rfl];have h2:ks.length=3:=by have:=hs.1;rw [show ar 7=some 3 by decide] at this;simp only [AiZ] at this;omega
     have hne:ks≠[]:=by intro h;rw [h] at h2;cases h2
     rw [Xo 7 (.inr rfl)] at hK;rcases hK with ⟨h,_⟩ | ⟨_,rfl,rfl⟩
     ·exact absurd h hne
     ·generalize Tm.etaL ks=D at hkd hdl;have hd2:D.length=3:=by omega
      match D,hd2,hkd with
      | [a,b,c],_,hkd =>
       simp only [Tm.scL,Tm.wtL] at hkd;refine tT rec h2 (by omega) (by omega) (fun h5=>?_) (fun h5=>?_)
       ·have:=F9 hkd.1.2.1 h5 (show ar 8=some 1 by decide)
        match hbk:b.kids,this with
        | [f],_=>exact ⟨f,rfl⟩
       ·have:=F9 hkd.1.2.2.1 h5 (show ar 9=some 1 by decide)
        match hbk:c.kids,this with
        | [f],_=>exact ⟨f,rfl⟩
    ·rw [if_neg h7];exact Tu (by omega) rec hK
mutual
def Tm.count:Tm->Int->Int
 | .mk _ _ l,most=>Tm.countL l 1 most
def Tm.countL:List Tm->Int->Int->Int
 | [],n,_=>n
 | t::l,n,most=>if n<most then Tm.countL l (n+t.count (most - n)) most else n
end
mutual
theorem R8:∀(t:Tm) (m:Int),1<=t.count m/\(1<=m->t.count m<=m)
 | .mk _ _ l,m=>by
  have:=countL_le l 1 m
  simp only [Tm.count];omega
theorem countL_le:∀(l:List Tm) (n m:Int),n<=Tm.countL l n m/\(n<=m->Tm.countL l n m<=m)
 | [],n,m=>by simp only [Tm.countL];omega
 | t::l,n,m=>by
  simp only [Tm.countL];split
  ·have h1:=R8 t (m - n);have h2:=countL_le l (n+t.count (m - n)) m;omega
  ·omega
end
theorem fT:∀(n:Nat) (t:Tm) (most:Int),t.wt<n->most<=4611686018427387904->-4611686018427387904<=most->BE (SS dt n 40 [.fv t.enc,iv most] ⟨[],[]⟩) (.int .i64 (t.count most)):=by
 intro n
 induction n with
 | zero=>intro t most h;omega
 | succ n ih =>
  intro t most h hm hm';obtain ⟨op,m,ks⟩:=t;simp only [Tm.wt] at h;rw [c40,Am];simp only [LS,zL,↓XX,XY,↓reduceIte,seval,Tm.count];refine Ba (Q:=fun r=>BE r _) (fun k V H=>∃rest pre acc,ks=pre++rest/\rest.length=k/\(pre.length:Int)<acc/\(acc<=1\/acc<=most)/\V=[iv most,.ptr (.own 41943040) 0,iv acc,iv pre.length] /\
   H=⟨[(41943040,.row [iv op,iv m,.fv (.sl (ks.map Tm.enc))] false)],[]⟩/\Tm.countL rest acc most=Tm.countL ks 1 most) ?_ n ks.length _ _ (by have:=Dp ks;omega) ⟨ks,[],1,rfl,rfl,by simp,.inl (by omega),rfl,rfl,rfl⟩
  rintro k V H rec ⟨rest,pre,acc,hk,hl,hpre,hacc,rfl,rfl,ht⟩ hrec;have hlen:ks.length=pre.length+rest.length:=by rw [hk];simp
  cases rest with
  | nil =>
   rw [<- ht];simp only [LS,O9,zL,↓XX,XY,↓reduceIte,seval,Ajw,show ¬ ((pre.length:Int)<ks.length) by simp [hlen],Tm.countL]
   exact Aw _ _
  | cons t rest =>
   have hi:(pre.length:Int)<ks.length:=by rw [hlen];simp;omega
   by_cases ha:acc<most
   ·have hg:=BY hk;obtain ⟨o,p,l⟩:=t;have hb:=R8 (.mk o p l) (most - acc);have hc:=ih (.mk o p l) (most - acc) (by have:=Cb (t:=.mk o p l) (l:=ks) (by rw [hk];simp);omega) (by omega) (by omega);rw [Am] at hc;simp only [LS,O9,zL,↓XX,XY,↓reduceIte,seval,Ajw,hi,ha,↓Bq (AN hg) (Bk _ _ _),↓B8,Ax (show -9223372036854775808<=most - acc by omega) (show most - acc<=9223372036854775807 by omega),↓Af hc,
     Ax (show -9223372036854775808<=acc+(Tm.mk o p l).count (most - acc) by omega) (show acc+(Tm.mk o p l).count (most - acc)<=9223372036854775807 by omega),Ax (show -9223372036854775808<=(pre.length:Int)+1 by omega) (show (pre.length:Int)+1<=9223372036854775807 by omega)]
    simp only [Ai3] at hl;refine hrec rest.length _ _ (by omega) ?_;refine ⟨rest,pre++[.mk o p l],acc+(Tm.mk o p l).count (most - acc),by rw [hk];simp,rfl,by simp;omega,.inr (by omega),by simp,rfl,?_⟩;rw [<- ht];simp only [Tm.countL,if_pos ha]
   ·rw [<- ht];simp only [LS,O9,zL,↓XX,XY,↓reduceIte,seval,Ajw,hi,ha,Tm.countL];exact Aw _ _
def TF {n:Nat} (t:Tm) (h:t.wt<n):BE (SS dt (n+1) 13 [.fv t.enc] ⟨[],[]⟩) (.bool (decide (t.count 300<300))):=by rw [c13];have hc:=fT n t 300 h (by omega) (by omega);obtain ⟨op,m,ks⟩:=t;rw [Am] at hc ⊢;simp only [S13,↓XX,XY,↓reduceIte,seval,↓Af hc];exact Aw _ _
def Tm.plainT:Nat->Tm->Tm
 | 0,_=>.mk 15 0 []
 | d+1,r=>if r.n % 4<2 then .mk 15 0 [] else .mk (16+r.n % 4 - 2) 0 [plainT d (r.pick 0),plainT d (r.pick 1)]
theorem Kv:∀(d n:Nat) (r:Tm),d+1<n->d<=1000->BE (SS dt n 41 [.fv r.enc,iv d] ⟨[],[]⟩) (r.plainT d).enc:=by
 intro d
 induction d with
 | zero =>intro n r hn _;obtain ⟨n,rfl⟩:=psc n (by omega);rw [c41];have hw:=Au (n:=n) (by omega) r.n (m:=4) (by omega) (by omega);obtain ⟨op,m,ks⟩:=r;rw [Am];simp only [Tm.n] at hw;simp only [QQ,S41,↓XX,XY,↓reduceIte,seval,↓Af hw,↓Af (AZ (n:=n) (by omega) 15),Tm.plainT,Am];exact Bo rfl _
 | succ d ih =>
  intro n r hn hd;obtain ⟨n,rfl⟩:=psc n (by omega);rw [c41];have hw:=Au (n:=n) (by omega) r.n (m:=4) (by omega) (by omega);have h0:=ih n (r.pick 0) (by omega) (by omega);have h1:=ih n (r.pick 1) (by omega) (by omega);have p0:=AU (n:=n) (by omega) r 0;have p1:=AU (n:=n) (by omega) r 1;have ht:=CM (n:=n) (by omega) (16+r.n % 4 - 2) [(r.pick 0).plainT d,(r.pick 1).plainT d];have hb0:¬ ((d+1:Nat):Int)<=0:=by omega
  have hm:BC (((d+1:Nat):Int) - 1)=d:=by rw [Ax]<;>omega
  have hr:=Int.emod_nonneg r.n (show (4:Int)≠0 by decide)
  have hr2:=Int.emod_lt_of_pos r.n (show (0:Int)<4 by decide)
  have e1:BC (16+r.n % 4)=16+r.n % 4:=by rw [Ax]<;>omega
  have e2:BC (16+r.n % 4 - 2)=16+r.n % 4 - 2:=by rw [Ax]<;>omega
  simp only [Ai5,Ai4] at ht;rw [Tm.plainT];obtain ⟨op,m,ks⟩:=r;rw [Am] at p0 p1 ⊢;simp only [Tm.n] at *;by_cases hk:m % 4<2
  ·simp only [QQ,S41,↓XX,XY,↓reduceIte,seval,↓Af hw,Tm.n,↓Af (AZ (n:=n) (by omega) 15),hb0,hk,Am];exact Bo rfl _
  ·simp only [QQ,S41,↓XX,XY,↓reduceIte,seval,↓Af hw,hb0,hk,e1,e2,hm,↓Af p0,↓Af p1,↓Af h0,↓Af h1,↓vJ,↓Af ht];simp only [↓XX,XY,↓reduceIte,seval,Am];exact Bo rfl _
theorem Fb:∀(d:Nat) (r:Tm),(r.plainT d).wt<=2 ^ (d+1) - 1
 | 0,r=>by simp [Tm.plainT,Tm.wt,Tm.wtL]
 | d+1,r=>by
  have h1:=Fb d (r.pick 0);have h2:=Fb d (r.pick 1);have h3:0<2 ^ (d+1):=Nat.pow_pos (by decide);simp only [Tm.plainT];split
  ·simp only [Tm.wt,Tm.wtL,Nat.pow_succ] at *;omega
  ·simp only [Tm.wt,Tm.wtL,Nat.pow_succ] at *;omega
theorem IT {op n:Int} {k:Nat} (h:ar op=some 0) (h1:op≠1) (hn:BX op n):(Tm.mk op n []).sc k:=by rw [Tm.sc];exact ⟨h,by rw [if_neg h1];exact hn,trivial⟩
theorem rV {op n:Int} {k:Nat} {a:Tm} (h:ar op=some 1) (h1:op≠1) (hn:BX op n) (ha:a.sc (k+Ak op 0)):(Tm.mk op n [a]).sc k:=by rw [Tm.sc];exact ⟨h,by rw [if_neg h1];exact hn,ha,trivial⟩
theorem Z7 {op n:Int} {k:Nat} {a b:Tm} (h:ar op=some 2) (h1:op≠1) (hn:BX op n) (ha:a.sc (k+Ak op 0)) (hb:b.sc (k+Ak op 1)):(Tm.mk op n [a,b]).sc k:=by rw [Tm.sc];exact ⟨h,by rw [if_neg h1];exact hn,ha,hb,trivial⟩
theorem wC {op n:Int} {k:Nat} {a b c:Tm} (h:ar op=some 3) (h1:op≠1) (hn:BX op n) (ha:a.sc (k+Ak op 0)) (hb:b.sc (k+Ak op 1)) (hc:c.sc (k+Ak op 2)):(Tm.mk op n [a,b,c]).sc k:=by rw [Tm.sc];exact ⟨h,by rw [if_neg h1];exact hn,ha,hb,hc,trivial⟩
theorem zF {op n:Int} {k:Nat} {a b c d:Tm} (h:ar op=some 4) (h1:op≠1) (hn:BX op n) (ha:a.sc (k+Ak op 0)) (hb:b.sc (k+Ak op 1)) (hc:c.sc (k+Ak op 2)) (hd:d.sc (k+Ak op 3)):(Tm.mk op n [a,b,c,d]).sc k:=by rw [Tm.sc];exact ⟨h,by rw [if_neg h1];exact hn,ha,hb,hc,hd,trivial⟩
theorem xU {n:Int} {k:Nat} (h:0<=n) (h2:n<k):(Tm.mk 1 n []).sc k:=by rw [Tm.sc];exact ⟨by decide,by rw [if_pos rfl];exact ⟨h,h2⟩,trivial⟩
theorem M6 {op:Int} (h2:op≠2) (h26:op≠26) (h25:op≠25):BX op 0:=by rw [BX,if_neg h2,if_neg h26,if_neg h25]
theorem Da {op:Int} {k:Nat} (h:ar op=some 0/\op≠1/\op≠2/\op≠26/\op≠25:=by decide):(Tm.mk op 0 []).sc k:=IT h.1 h.2.1 (M6 h.2.2.1 h.2.2.2.1 h.2.2.2.2)
theorem FZ {op:Int} {k:Nat} {a:Tm} (ha:a.sc (k+Ak op 0)) (h:ar op=some 1/\op≠1/\op≠2/\op≠26/\op≠25:=by decide):(Tm.mk op 0 [a]).sc k:=rV h.1 h.2.1 (M6 h.2.2.1 h.2.2.2.1 h.2.2.2.2) ha
theorem Db {op:Int} {k:Nat} {a b:Tm} (ha:a.sc (k+Ak op 0)) (hb:b.sc (k+Ak op 1)) (h:ar op=some 2/\op≠1/\op≠2/\op≠26/\op≠25:=by decide):(Tm.mk op 0 [a,b]).sc k:=Z7 h.1 h.2.1 (M6 h.2.2.1 h.2.2.2.1 h.2.2.2.2) ha hb
theorem Ze {op:Int} {k:Nat} {a b c:Tm} (ha:a.sc (k+Ak op 0)) (hb:b.sc (k+Ak op 1)) (hc:c.sc (k+Ak op 2)) (h:ar op=some 3/\op≠1/\op≠2/\op≠26/\op≠25:=by decide):(Tm.mk op 0 [a,b,c]).sc k:=wC h.1 h.2.1 (M6 h.2.2.1 h.2.2.2.1 h.2.2.2.2) ha hb hc
theorem AbY {op:Int} {k:Nat} {a b c d:Tm} (ha:a.sc (k+Ak op 0)) (hb:b.sc (k+Ak op 1)) (hc:c.sc (k+Ak op 2)) (hd:d.sc (k+Ak op 3)) (h:ar op=some 4/\op≠1/\op≠2/\op≠26/\op≠25:=by decide):(Tm.mk op 0 [a,b,c,d]).sc k:=zF h.1 h.2.1 (M6 h.2.2.1 h.2.2.2.1 h.2.2.2.2) ha hb hc hd
theorem sA (k:Nat):Tm.z.sc k:=Da
theorem Zx (k:Nat):∀n,(GF n).sc k
 | 0=>Da
 | n+1=>FZ (Zx _ n)
theorem Gm (k:Nat):∀(d:Nat) (r:Tm),(r.plainT d).sc k
 | 0,r=>by rw [Tm.plainT];exact Da
 | d+1,r=>by
  have h1:=Int.emod_nonneg r.n (show (4:Int)≠0 by decide)
  have h2:=Int.emod_lt_of_pos r.n (show (0:Int)<4 by decide)
  rw [Tm.plainT];split
  ·exact Da
  ·have h3:16+r.n % 4 - 2=16\/16+r.n % 4 - 2=17:=by omega
   rcases h3 with h3 | h3<;>(rw [h3];exact Db (Gm _ d _) (Gm _ d _))
mutual
theorem DG:∀t:Tm,t.dp<=t.wt
 | .mk op n l=>by
  have:=dpL_wt l
  simp only [Tm.dp,Tm.wt];omega
theorem dpL_wt:∀l:List Tm,Tm.dpL l<=Tm.wtL l
 | []=>by simp [Tm.dpL]
 | t::l=>by
  have h1:=DG t;have h2:=dpL_wt l;simp only [Tm.dpL,Tm.wtL];omega
end
abbrev AR:=List (Int×Tm)
def v1 (p:Int×Tm):FV:=.agg [.int .i64 p.1,.int .i64 p.2.op,.int .i64 p.2.n,.sl (p.2.kids.map Tm.enc)]
def AM (g:AR):FV:=.sl (g.map v1)
structure GOk (e:Nat) (g:AR):Prop where
 len:g.length+2 * e<=60
 ok:∀(i:Nat) (p:Int×Tm),g[i]?=some p->p.2.sc i/\p.2.wt<=100000000000/\p.2.dp<=6000
theorem A9 {e e':Nat} {g:AR} (h:e'<=e) (hg:GOk e g):GOk e' g:=⟨by have:=hg.len;omega,hg.ok⟩
theorem Dc {e:Nat} {g:AR} {s:Int} {a:Tm} (hg:GOk (e+1) g) (h1:a.sc g.length) (h2:a.wt<=100000000000) (h3:a.dp<=6000):GOk e (g++[(s,a)]):=by
 refine ⟨by have:=hg.len;simp;omega,?_⟩;intro i p hp;by_cases hi:i<g.length
 ·rw [Ai9 hi] at hp;exact hg.ok i p hp
 ·rw [Ai8 (by omega)] at hp;have hi2:i - g.length=0:=by
   cases h:i - g.length with
   | zero=>rfl
   | succ j=>rw [h] at hp;simp at hp
  rw [hi2] at hp;simp only [Ajb,AiZ] at hp;subst hp;rw [show i=g.length by omega]
  exact ⟨h1,h2,h3⟩
def Wg (e:Nat):Nat:=8000 * 4 ^ e
def Dg (e:Nat):Nat:=200+10 * e
theorem Lh (e:Nat):Wg (e+1)=4 * Wg e:=by unfold Wg;rw [Nat.pow_succ];omega
theorem Lj (e:Nat):8000<=Wg e:=by
 have:1<=4 ^ e:=Nat.one_le_pow _ _ (by decide)
 unfold Wg;omega
theorem PC {e e':Nat} (h:e<=e'):Wg e<=Wg e':=by unfold Wg;exact Nat.mul_le_mul_left _ (Nat.pow_le_pow_right (by decide) h)
theorem Mw {e:Nat} (h:e<=10):Wg e<=21000000000:=Nat.le_trans (PC h) (by decide)
structure TOk (k e:Nat) (t:Tm):Prop where
 sc:t.sc k
 wt:t.wt<=Wg e
 dp:t.dp<=Dg e
theorem RZ {k e e':Nat} {t:Tm} (h:e<=e') (ht:TOk k e t):TOk k e' t:=⟨ht.sc,Nat.le_trans ht.wt (PC h),by have:=ht.dp;unfold Dg at *;omega⟩
structure AOk (k:Nat) (a:Tm):Prop where
 sc:a.sc k
 wt:a.wt<=1000000000000000
 dp:a.dp<=10000
structure NOk (k:Nat) (a:Tm):Prop where
 sc:a.sc k
 wt:a.wt<=3000
 dp:a.dp<=120
theorem BV {k:Nat} {a:Tm} (h:NOk k a):AOk k a:=⟨h.sc,by have:=h.wt;omega,by have:=h.dp;omega⟩
def Tm.badR:Tm->Bool
 | .mk op _ [_,z,_,_]=>decide (op=13) && (decide (z.op=19) || z.badR)
 | _=>false
theorem iM {t:Tm} (h:t.badR=true):t.op=13:=by
 unfold Tm.badR at h;split at h
 ·rename_i he;simp only [Ajz,decide_eq_true_eq] at h;exact h.1
 ·cases h
def Abr (op n:Int) (ks:List Tm):Prop :=
 ar op=some ks.length/\(op=1->0<=n/\n<=1000000)/\(op=13->n=0)/\(op=5->∃m a b x,ks=[.mk 4 m [a,b],x])/\(op=8\/op=9->∃m a x y,ks=[.mk 7 m [a,x,y]]) /\
 (op=19->∀x∈ks,x.op≠19/\x.op≠13)/\(op=30->∀x∈ks,x.op≠30)/\(op=13->∀a b c d,ks=[a,b,c,d]->b.op≠30/\(d.op≠19/\d.op≠30)/\d.badR=false)
mutual
def Tm.good:Tm->Prop
 | .mk op n ks=>Abr op n ks/\Tm.goodL ks
def Tm.goodL:List Tm->Prop
 | []=>True
 | t::l=>t.good/\Tm.goodL l
end
theorem OE:∀{l:List Tm} {t:Tm},Tm.goodL l->t∈l->t.good
 | x::l,t,h,hm=>by
  rw [Tm.goodL] at h;rcases Ajp.1 hm with rfl | hm
  ·exact h.1
  ·exact OE h.2 hm
theorem Hn (ev:Int->Int->Tm->Option (RV×Int×Int)) (hev:∀s e t v s',ev s e t=some (v,s',0)->e=0) (op:Int) (env:List RV):∀(l:List Tm) (i:Nat) (s e:Int) (vs:List RV) (s':Int),Bf ev op env i l s e=some (vs,s',0)->e=0
 | [],i,s,e,vs,s',h=>by
  simp only [Bf,AiZ,Ai0] at h;exact h.2.2
 | t::l,i,s,e,vs,s',h=>by
  simp only [Bf] at h;split at h
  ·cases hk:Bf ev op env (i+1) l s e with
   | none=>rw [hk] at h;cases h
   | some q =>obtain ⟨vs1,s1,e1⟩:=q;rw [hk] at h;simp only [Ai2,AiZ,Ai0] at h;rw [h.2.2] at hk;exact Hn ev hev op env l _ _ _ _ _ hk
  ·split at h
   ·cases h
   ·rename_i v s1 e1 he;cases hk:Bf ev op env (i+1) l s1 e1 with
    | none=>rw [hk] at h;cases h
    | some q =>
     obtain ⟨vs2,s2,e2⟩:=q;rw [hk] at h;simp only [Ai2,AiZ,Ai0] at h;rw [h.2.2] at hk
     have:=Hn ev hev op env l _ _ _ _ _ hk
     rw [this] at he;exact hev _ _ _ _ _ he
theorem CW {f:Nat} {s e:Int} {t:Tm} {env:List RV} {v:RV} {s':Int} (h:AD f s e t env=some (v,s',0)):e=0:=by
 cases f with
 | zero=>rw [AD] at h;cases h
 | succ f =>
  obtain ⟨op,n,ks⟩:=t;rw [AD] at h;by_cases he:e=0
  ·exact he
  ·rw [if_pos he] at h;simp only [AiZ,Ai0] at h;exact h.2.2
theorem Hk {f:Nat} {s e:Int} {w v:RV} {s':Int} (h:headR f s e w=some (v,s',0)):e=0:=by
 cases f with
 | zero=>rw [headR] at h;cases h
 | succ f =>
  rw [headR] at h;by_cases he:e=0
  ·exact he
  ·rw [if_pos he] at h;simp only [AiZ,Ai0] at h;exact h.2.2
theorem Fg {α:Type} {l:List α} (h:l.length=1):∃a,l=[a]:=by
 match l,h with
 | [a],_=>exact ⟨a,rfl⟩
theorem RJ {α:Type} {l:List α} (h:l.length=2):∃a b,l=[a,b]:=by
 match l,h with
 | [a,b],_=>exact ⟨a,b,rfl⟩
theorem Ae1 {α:Type} {l:List α} (h:l.length=3):∃a b c,l=[a,b,c]:=by
 match l,h with
 | [a,b,c],_=>exact ⟨a,b,c,rfl⟩
theorem TY {α:Type} {l:List α} (h:l.length=4):∃a b c d,l=[a,b,c,d]:=by
 match l,h with
 | [a,b,c,d],_=>exact ⟨a,b,c,d,rfl⟩
theorem Wx {f:Nat} {s s2 m:Int} {a b:Tm} {env:List RV} {r:RV} (h:AD f s 0 (.mk 4 m [a,b]) env=some (r,s2,0)):∃va,r=.node 4 m [va,.clo env b]:=by
 cases f with
 | zero=>rw [AD] at h;cases h
 | succ f =>
  rw [AD] at h;rw [if_neg (by simp)] at h;split at h
  ·cases h
  rw [if_neg (by decide)] at h;split at h
  ·cases h
  split at h
  ·cases h
  split at h
  ·cases h
  rename_i vs s1 e1 hk;have he:=Hk h;subst he;simp only [Bf] at hk;rw [if_neg (by decide)] at hk;split at hk
  ·cases hk
  rename_i va s3 e3 hva;rw [if_pos (by decide)] at hk;simp only [Ai2,AiZ,Ai0] at hk;obtain ⟨rfl,rfl,rfl⟩:=hk;cases f with
  | zero=>rw [headR] at h;cases h
  | succ f =>
   rw [headR] at h;rw [if_neg (by simp)] at h;split at h
   ·cases h
   have hop:(RV.node 4 m [va,.clo env b]).op=4:=rfl;rw [hop,if_neg (by decide),if_neg (by decide),if_neg (by decide),if_neg (by decide),if_neg (by decide)] at h;simp only [AiZ,Ai0] at h;exact ⟨va,h.1.symm⟩
theorem fP {f:Nat} {s s2 m:Int} {a x y:Tm} {env:List RV} {r:RV} (h:AD f s 0 (.mk 7 m [a,x,y]) env=some (r,s2,0)):∃va vx vy,r=.node 7 m [va,vx,vy]:=by
 cases f with
 | zero=>rw [AD] at h;cases h
 | succ f =>
  rw [AD] at h;rw [if_neg (by simp)] at h;split at h
  ·cases h
  rw [if_neg (by decide)] at h;split at h
  ·cases h
  split at h
  ·cases h
  split at h
  ·cases h
  rename_i vs s1 e1 hk;have he:=Hk h;subst he;have hl:∃va vx vy,vs=[va,vx,vy]:=by
   simp only [Bf] at hk;rw [if_neg (by decide)] at hk;split at hk
   ·cases hk
   rename_i va s3 e3 hva;rw [if_neg (by decide)] at hk;split at hk
   ·cases hk
   rename_i vx s4 e4 hvx;rw [if_neg (by decide)] at hk;split at hk
   ·cases hk
   rename_i vy s5 e5 hvy;simp only [Ai2,AiZ,Ai0] at hk;exact ⟨va,vx,vy,hk.1.symm⟩
  obtain ⟨va,vx,vy,rfl⟩:=hl;cases f with
  | zero=>rw [headR] at h;cases h
  | succ f =>
   rw [headR] at h;rw [if_neg (by simp)] at h;split at h
   ·cases h
   have hop:(RV.node 7 m [va,vx,vy]).op=7:=rfl;rw [hop,if_neg (by decide),if_neg (by decide),if_neg (by decide),if_neg (by decide),if_neg (by decide)] at h;simp only [AiZ,Ai0] at h;exact ⟨va,vx,vy,h.1.symm⟩
theorem Fq {f:Nat} {s nd e:Int} {v:RV} {u d:Int} {t:Tm} {s' nd':Int} (h:AV f s nd e v u d=some (t,s',nd',0)):e=0:=by
 cases f with
 | zero=>rw [AV] at h;cases h
 | succ f =>
  rw [AV] at h;split at h
  ·cases h
  by_cases he:e=0
  ·exact he
  ·rw [if_neg (show ¬ (e=0/\(3000<nd+1\/120<d)) from fun h=>he h.1),if_pos he] at h
   simp only [AiZ,Ai0] at h;exact h.2.2.2
abbrev KD:=List (List Nat×Nat)
inductive Rule:Int->Nat->KD->Prop
 | natT:Rule 10 10 []
 | natU:Rule 10 2 []
 | tyT:Rule 14 11 []
 | tyU:Rule 14 2 []
 | uT:Rule 2 12 []
 | uU:Rule 2 2 []
 | liftT:Rule 18 13 [([],1)]
 | liftU:Rule 18 2 [([],1)]
 | piT (a b:Nat) (ha:a<6) (hb:b<6):Rule 3 14 [([],10+a),([a],10+b)]
 | piU (a:Nat) (ha:a<10):Rule 3 2 [([],2),([a],2)]
 | sigT (a b:Nat) (ha:a<6) (hb:b<6):Rule 6 15 [([],10+a),([a],10+b)]
 | sigU (a s0 s1:Nat) (ha:a<10) (hs:s0=2/\s1=2\/10<=s0/\10<=s1):Rule 6 2 [([],s0),([a],s1)]
 | lam (a s s0:Nat) (ha:a<10):Rule 4 4 [([],s0),([a],s)]
 | pair (s0 s1 s2:Nat):Rule 7 5 [([],s0),([],s1),([],s2)]
 | zero:Rule 11 0 []
 | suc:Rule 12 0 [([],0)]
 | recR (s:Nat) (hs:s<6):Rule 13 s [([0],10+s),([],s),([s,0],s),([],0)]
 | tint:Rule 15 1 []
 | tfun:Rule 16 1 [([],1),([],1)]
 | tpro:Rule 17 1 [([],1),([],1)]
 | quo:Rule 19 3 [([],6)]
 | spl:Rule 30 6 [([],3)]
 | olam:Rule 20 6 [([],1),([6],6)]
 | oapp:Rule 21 6 [([],6),([],6)]
 | opair:Rule 22 6 [([],6),([],6)]
 | ofst:Rule 23 6 [([],6)]
 | osnd:Rule 24 6 [([],6)]
 | oint:Rule 25 6 []
 | oprim:Rule 26 6 [([],6),([],6)]
 | oif:Rule 27 6 [([],6),([],6),([],6)]
 | olet:Rule 28 6 [([],6),([6],6)]
 | ofix:Rule 29 6 [([],1),([6],6)]
def DX {op:Int} {s:Nat} {sg:KD} (h:Rule op s sg):op≠1/\op≠5/\op≠8/\op≠9:=by cases h<;>decide
def Fa {op:Int} {s:Nat} {sg:KD} (h:Rule op s sg) {i:Nat} {bs:List Nat} {s':Nat} (hi:sg[i]?=some (bs,s')):bs.length=Ak op i/\∀x∈bs,x<10:=by
 have hlt:=(Ai7.1 hi).1;have h4:i<4:=by cases h<;>simp only [Ai3,Ajh] at hlt<;>omega
 have hi4:i=0\/i=1\/i=2\/i=3:=by omega
 cases h<;>rcases hi4 with rfl | rfl | rfl | rfl<;>simp only [Ajb,Ajc,List.getElem?_nil,AiZ,Ai0,reduceCtorEq] at hi<;>(obtain ⟨rfl,rfl⟩:=hi;refine ⟨rfl,?_⟩;simp;try omega)
inductive HasT:List Nat->Tm->Nat->Prop
 | var (G:List Nat) (n:Int) (s:Nat) (h0:0<=n) (h:G[n.toNat]?=some s) (hs:s<10):HasT G (.mk 1 n []) s
 | node (G:List Nat) (op n:Int) (ks:List Tm) (s:Nat) (sg:KD) (hr:Rule op s sg) (hl:ks.length=sg.length) (hk:∀(i:Nat) t bs s',ks[i]?=some t->sg[i]?=some (bs,s')->HasT (bs++G) t s'):HasT G (.mk op n ks) s
 | app (G:List Nat) (n m:Int) (a b x:Tm) (y s s0:Nat) (hs:s<10) (hy:y<10) (ha:HasT G a s0) (hb:HasT (y::G) b s) (hx:HasT G x y):HasT G (.mk 5 n [.mk 4 m [a,b],x]) s
 | fst (G:List Nat) (n m:Int) (a x y:Tm) (s s1 s0:Nat) (hs:s<10) (ha:HasT G a s0) (hx:HasT G x s) (hy:HasT G y s1):HasT G (.mk 8 n [.mk 7 m [a,x,y]]) s
 | snd (G:List Nat) (n m:Int) (a x y:Tm) (s s1 s0:Nat) (hs:s<10) (ha:HasT G a s0) (hx:HasT G x s1) (hy:HasT G y s):HasT G (.mk 9 n [.mk 7 m [a,x,y]]) s
theorem IS (op d c:Int):∀(l:List Tm) (i j:Nat),(Tm.shiftL op i l d c)[j]?=(l[j]?).map fun t=>t.shift d (c+Ak op (i+j))
 | [],_,_=>by simp [Tm.shiftL]
 | t::l,i,0=>by simp [Tm.shiftL]
 | t::l,i,j+1=>by
  simp only [Tm.shiftL,Ajc];rw [IS op d c l (i+1) j,show i+1+j=i+(j+1) by omega]
theorem My (op n d:Int) (u:Tm):∀(l:List Tm) (i j:Nat),(Tm.substL op i l n d u)[j]?=(l[j]?).map fun t=>t.subst (n+Ak op (i+j)) (d+Ak op (i+j)) u
 | [],_,_=>by simp [Tm.substL]
 | t::l,i,0=>by simp [Tm.substL]
 | t::l,i,j+1=>by
  simp only [Tm.substL,Ajc];rw [My op n d u l (i+1) j,show i+1+j=i+(j+1) by omega]
theorem IL:∀{l:List Tm} {j:Nat} {t:Tm},l[j]?=some t->t.wt<=Tm.wtL l
 | [],_,_,h=>by simp at h
 | x::l,0,t,h=>by
  simp only [Ajb,AiZ] at h;subst h;simp only [Tm.wtL];omega
 | x::l,j+1,t,h=>by
  simp only [Ajc] at h
  have:=IL h
  simp only [Tm.wtL];omega
def l8 {G1 D G2:List Nat} {n:Nat} (h:G1.length<=n):(G1++D++G2)[n+D.length]?=(G1++G2)[n]?:=by rw [Ajs,Ai8 (by omega),Ai8 (by omega),Ai8 h];congr 1;omega
def nC {G1 D G2:List Nat} {n:Nat} (h:n<G1.length):(G1++D++G2)[n]?=(G1++G2)[n]?:=by rw [Ajs,Ai9 h,Ai9 h]
theorem L3 {G:List Nat} {t:Tm} {s:Nat} (h:HasT G t s):∀(G1 D G2:List Nat),G=G1++G2->G1.length+G2.length+D.length+2 * t.wt<=9000000000000000000->HasT (G1++D++G2) (t.shift D.length G1.length) s:=by
 induction h with
 | var G n s h0 h hs =>
  intro G1 D G2 hG hb;subst hG;have hn:n.toNat<(G1++G2).length:=(Ai7.1 h).1;rw [Ajg] at hn;rw [Tm.shift,Tm.shiftL];by_cases hc:(G1.length:Int)<=n
  ·rw [if_pos ⟨rfl,hc⟩,Ax (by omega) (by omega)];refine HasT.var _ _ _ (by omega) ?_ hs;rw [show (n+(D.length:Int)).toNat=n.toNat+D.length by omega,l8 (by omega)]
   exact h
  ·rw [if_neg (fun h=>hc h.2)];refine HasT.var _ _ _ h0 ?_ hs;rw [nC (by omega)];exact h
 | node G op n ks s sg hr hl hk ih =>
  intro G1 D G2 hG hb;rw [Tm.shift,if_neg (fun h=>(DX hr).1 h.1)];refine HasT.node _ _ _ _ _ sg hr (by rw [Er];exact hl) ?_;intro i t bs s' ht hs;rw [IS,Ajy] at ht;cases hx:ks[i]? with
  | none=>rw [hx] at ht;cases ht
  | some x =>
   rw [hx] at ht;simp only [Ai2,AiZ] at ht;subst ht;have h1:=Fa hr hs;have h2:=AW op i;have h3:=IL hx;simp only [Tm.wt] at hb
   have:=ih i x bs s' hx hs (bs++G1) D G2 (by rw [hG,Ajs]) (by rw [Ajg];omega)
   rw [Ajg,h1.1] at this;rw [show (G1.length:Int)+(Ak op i:Int)=((Ak op i+G1.length:Nat):Int) by omega]
   simpa using this
 | app G n m a b x y s s0 hs hy ha hb hx iha ihb ihx =>
  intro G1 D G2 hG hbd;simp only [Tm.wt,Tm.wtL] at hbd;have h1:=iha G1 D G2 hG (by omega);have h2:=ihb (y::G1) D G2 (by rw [hG];rfl) (by simp only [Ai3];omega);have h3:=ihx G1 D G2 hG (by omega);simp only [Tm.shift,Tm.shiftL];rw [if_neg (by omega),if_neg (by omega)];refine HasT.app _ _ _ _ _ _ y s s0 hs hy ?_ ?_ ?_
  ·simpa [Ak] using h1
  ·simpa [Ak] using h2
  ·simpa [Ak] using h3
 | fst G n m a x y s s1 s0 hs ha hx hy iha ihx ihy =>
  intro G1 D G2 hG hbd;simp only [Tm.wt,Tm.wtL] at hbd;have h1:=iha G1 D G2 hG (by omega);have h2:=ihx G1 D G2 hG (by omega);have h3:=ihy G1 D G2 hG (by omega);simp only [Tm.shift,Tm.shiftL];rw [if_neg (by omega),if_neg (by omega)];refine HasT.fst _ _ _ _ _ _ s s1 s0 hs ?_ ?_ ?_
  ·simpa [Ak] using h1
  ·simpa [Ak] using h2
  ·simpa [Ak] using h3
 | snd G n m a x y s s1 s0 hs ha hx hy iha ihx ihy =>
  intro G1 D G2 hG hbd;simp only [Tm.wt,Tm.wtL] at hbd;have h1:=iha G1 D G2 hG (by omega);have h2:=ihx G1 D G2 hG (by omega);have h3:=ihy G1 D G2 hG (by omega);simp only [Tm.shift,Tm.shiftL];rw [if_neg (by omega),if_neg (by omega)];refine HasT.snd _ _ _ _ _ _ s s1 s0 hs ?_ ?_ ?_
  ·simpa [Ak] using h1
  ·simpa [Ak] using h2
  ·simpa [Ak] using h3
def EZ {G:List Nat} {t:Tm} {s:Nat} (h:HasT G t s) (D:List Nat) (hb:G.length+D.length+2 * t.wt<=9000000000000000000):HasT (D++G) (t.shift D.length 0) s:=by
 have:=L3 h [] D G rfl (by simp only [Ajh];omega)
 simpa using this
theorem Na {G:List Nat} {t:Tm} {s:Nat} (h:HasT G t s):∀(G1 G2:List Nat) (y:Nat) (u:Tm),G=G1++y::G2->HasT G2 u y->G1.length+G2.length+2 * t.wt+2 * u.wt<=4000000000000000000->HasT (G1++G2) (t.subst G1.length G1.length u) s:=by
 induction h with
 | var G n s h0 h hs =>
  intro G1 G2 y u hG hu hb;subst hG;have hn:n.toNat<(G1++y::G2).length:=(Ai7.1 h).1;simp only [Ajg,Ai3] at hn;rw [Tm.subst,if_pos rfl];by_cases h1:n=(G1.length:Int)
  ·rw [if_pos h1];rw [show n.toNat=G1.length by omega,Ai8 (AjA _),Nat.sub_self] at h
   simp only [Ajb,AiZ] at h;subst h
   have:=EZ hu G1 (by omega)
   exact this
  ·rw [if_neg h1];by_cases h2:(G1.length:Int)<n
   ·rw [if_pos h2,Ax (by omega) (by omega)];refine HasT.var _ _ _ (by omega) ?_ hs;rw [Ai8 (by omega)] at h ⊢;rw [show n.toNat - G1.length=((n - 1).toNat - G1.length)+1 by omega,Ajc] at h
    exact h
   ·rw [if_neg h2];refine HasT.var _ _ _ h0 ?_ hs;rw [Ai9 (by omega)] at h ⊢;exact h
 | node G op n ks s sg hr hl hk ih =>
  intro G1 G2 y u hG hu hb;rw [Tm.subst,if_neg (DX hr).1];refine HasT.node _ _ _ _ _ sg hr (by rw [GH];exact hl) ?_;intro i t bs s' ht hs;rw [My,Ajy] at ht;cases hx:ks[i]? with
  | none=>rw [hx] at ht;cases ht
  | some x =>
   rw [hx] at ht;simp only [Ai2,AiZ] at ht;subst ht;have h1:=Fa hr hs;have h2:=AW op i;have h3:=IL hx;simp only [Tm.wt] at hb
   have:=ih i x bs s' hx hs (bs++G1) G2 y u (by rw [hG,Ajs]) hu (by rw [Ajg];omega)
   rw [Ajg,h1.1] at this;rw [show (G1.length:Int)+(Ak op i:Int)=((Ak op i+G1.length:Nat):Int) by omega]
   simpa using this
 | app G n m a b x y s s0 hs hy ha hb hx iha ihb ihx =>
  intro G1 G2 z u hG hu hbd;simp only [Tm.wt,Tm.wtL] at hbd;have h1:=iha G1 G2 z u hG hu (by omega);have h2:=ihb (y::G1) G2 z u (by rw [hG];rfl) hu (by simp only [Ai3];omega);have h3:=ihx G1 G2 z u hG hu (by omega);simp only [Tm.subst,Tm.substL];rw [if_neg (by omega),if_neg (by omega)];refine HasT.app _ _ _ _ _ _ y s s0 hs hy ?_ ?_ ?_
  ·simpa [Ak] using h1
  ·simpa [Ak] using h2
  ·simpa [Ak] using h3
 | fst G n m a x y s s1 s0 hs ha hx hy iha ihx ihy =>
  intro G1 G2 z u hG hu hbd;simp only [Tm.wt,Tm.wtL] at hbd;have h1:=iha G1 G2 z u hG hu (by omega);have h2:=ihx G1 G2 z u hG hu (by omega);have h3:=ihy G1 G2 z u hG hu (by omega);simp only [Tm.subst,Tm.substL];rw [if_neg (by omega),if_neg (by omega)];refine HasT.fst _ _ _ _ _ _ s s1 s0 hs ?_ ?_ ?_
  ·simpa [Ak] using h1
  ·simpa [Ak] using h2
  ·simpa [Ak] using h3
 | snd G n m a x y s s1 s0 hs ha hx hy iha ihx ihy =>
  intro G1 G2 z u hG hu hbd;simp only [Tm.wt,Tm.wtL] at hbd;have h1:=iha G1 G2 z u hG hu (by omega);have h2:=ihx G1 G2 z u hG hu (by omega);have h3:=ihy G1 G2 z u hG hu (by omega);simp only [Tm.subst,Tm.substL];rw [if_neg (by omega),if_neg (by omega)];refine HasT.snd _ _ _ _ _ _ s s1 s0 hs ?_ ?_ ?_
  ·simpa [Ak] using h1
  ·simpa [Ak] using h2
  ·simpa [Ak] using h3
def Kf (op:Int):Option Nat:=if op=10 then some 0 else if op=14 then some 1 else if op=2 then some 2 else if op=18 then some 3 else if op=3 then some 4 else if op=6 then some 5 else none
def jU {op:Int} {s:Nat} {sg:KD} (h:Rule op s sg) (hs:10<=s):Kf op=some (s - 10)/\s<16:=by cases h<;>first | omega | exact ⟨rfl,by omega⟩
theorem BW {G:List Nat} {t:Tm} {s:Nat} (h:HasT G t (10+s)):Kf t.op=some s/\s<6:=by
 generalize hq:10+s=q at h;cases h with
 | node _ op n ks _ sg hr hl hk =>
  have:=jU hr (by omega)
  rw [Tm.op,this.1];exact ⟨by congr 1;omega,by omega⟩
 | _=>omega
theorem J4 {G:List Nat} {t:Tm} {s:Nat} (h:HasT G t s):(s≠3->t.op≠19)/\(s≠6->t.op≠30):=by
 cases h with
 | var=>simp only [Tm.op];omega
 | node _ op n ks _ sg hr hl hk =>simp only [Tm.op];cases hr<;>refine ⟨?_,?_⟩<;>intro h1<;>first | decide | exact absurd rfl h1
 | app=>simp only [Tm.op];omega
 | fst=>simp only [Tm.op];omega
 | snd=>simp only [Tm.op];omega
theorem Rj:∀{l:List Tm},(∀(i:Nat) t,l[i]?=some t->t.good)->Tm.goodL l
 | [],_=>by rw [Tm.goodL];trivial
 | x::l,h=>by
  rw [Tm.goodL];exact ⟨h 0 x rfl,Rj fun i t hi=>h (i+1) t (by simpa using hi)⟩
def Ph {α:Type} {l:List α} {x:α} (h:x∈l):∃i:Nat,l[i]?=some x:=by obtain ⟨i,hi,he⟩:=List.mem_iff_getElem.1 h;exact ⟨i,by rw [Ai6 hi,he]⟩
theorem Zw {G:List Nat} {t:Tm} {s:Nat} (h:HasT G t s):t.op=13->s<6:=by
 intro ho;cases h with
 | var=>simp [Tm.op] at ho
 | node _ op n ks _ sg hr hl hk =>
  simp only [Tm.op] at ho;subst ho;cases hr with
  | recR s hs=>exact hs
 | app=>simp [Tm.op] at ho
 | fst=>simp [Tm.op] at ho
 | snd=>simp [Tm.op] at ho
theorem jN {G:List Nat} {t:Tm} {s:Nat} (h:HasT G t s):t.badR=true->s=3:=by
 induction h with
 | var=>intro h;simp [Tm.badR] at h
 | node G op n ks s sg hr hl hk ih =>
  intro hb;unfold Tm.badR at hb;split at hb
  ·rename_i o n' a z c d he;simp only [Tm.mk.injEq] at he;obtain ⟨rfl,rfl,rfl⟩:=he;simp only [Ajz,Bool.or_eq_true,decide_eq_true_eq] at hb;obtain ⟨rfl,hb⟩:=hb;cases hr with
   | recR s hs =>
    rcases hb with hb | hb
    ·have:=(J4 (hk 1 z [] s rfl rfl)).1
     exact Decidable.byContradiction fun h=>this h hb
    ·exact ih 1 z [] s rfl rfl hb
  ·cases hb
 | app=>intro h;simp [Tm.badR] at h
 | fst=>intro h;simp [Tm.badR] at h
 | snd=>intro h;simp [Tm.badR] at h
theorem YH {G:List Nat} {t:Tm} {s:Nat} (h:HasT G t s):∀k,t.sc k->k+2 * t.wt<=1000000->t.good:=by
 induction h with
 | var G n s h0 h hs =>intro k hsc hk;rw [Tm.sc,if_pos rfl] at hsc;rw [Tm.good,Tm.goodL];refine ⟨⟨rfl,fun _=>⟨h0,by simp only [Tm.wt,Tm.wtL] at hk;omega⟩,?_⟩,trivial⟩;exact ⟨by omega,by omega,by omega,by omega,by omega,by omega⟩
 | node G op n ks s sg hr hl hk ih =>
  intro k hsc hb;have h0:=hsc;rw [Tm.sc,if_neg (DX hr).1] at hsc;obtain ⟨h1,h2,h3⟩:=hsc;obtain ⟨o1,o5,o8,o9⟩:=DX hr;have hkid:∀(i:Nat) t,ks[i]?=some t->∃bs s',sg[i]?=some (bs,s'):=by
   intro i t hi
   have:i<sg.length:=by rw [<- hl];exact (Ai7.1 hi).1
   exact ⟨_,_,Ai6 this⟩
  rw [Tm.good];refine ⟨⟨h1,fun h=>absurd h o1,?_,fun h=>absurd h o5,fun h=>by omega,?_,?_,?_⟩,Rj ?_⟩
  ·rintro rfl;simpa [BX] using h2
  ·rintro rfl x hx;obtain ⟨i,hi⟩:=Ph hx;cases hr;have hi0:i=0:=by
    have:=(Ai7.1 hi).1
    simp only [Ai3,Ajh] at hl;omega
   subst hi0;have hx:=hk 0 x [] 6 hi rfl;exact ⟨(J4 hx).1 (by decide),fun h=>by have:=Zw hx h;omega⟩
  ·rintro rfl x hx;obtain ⟨i,hi⟩:=Ph hx;cases hr;have hi0:i=0:=by
    have:=(Ai7.1 hi).1
    simp only [Ai3,Ajh] at hl;omega
   subst hi0;exact (J4 (hk 0 x [] 3 hi rfl)).2 (by decide)
  ·rintro rfl a b c d rfl;cases hr with
   | recR s hs =>
    have hb:=J4 (hk 1 b [] s rfl rfl);have hd:=J4 (hk 3 d [] 0 rfl rfl);refine ⟨hb.2 (by omega),⟨hd.1 (by decide),hd.2 (by decide)⟩,?_⟩;cases hbd:d.badR
    ·rfl
    ·have:=jN (hk 3 d [] 0 rfl rfl) hbd
     omega
  ·intro i t hi;obtain ⟨bs,s',hs⟩:=hkid i t hi;have hw:=IL hi;have hbn:=AW op i;simp only [Tm.wt] at hb
   have:=GT h3 hi
   rw [Ajy] at this;exact ih i t bs s' hi hs _ this (by omega)
 | app G n m a b x y s s0 hs hy ha hb hx iha ihb ihx =>
  intro k hsc hbd;simp only [Tm.wt,Tm.wtL] at hbd;simp only [Tm.sc,Tm.scL] at hsc;obtain ⟨q1,q2,⟨q3,q4,q5,q6,_⟩,q7,_⟩:=hsc;simp only [show Ak 5 0=0 from rfl,show Ak 5 1=0 from rfl,show Ak 4 0=0 from rfl,show Ak 4 1=1 from rfl,Ajy] at q5 q6 q7
  have g1:=iha _ q5 (by omega);have g2:=ihb _ q6 (by omega);have g3:=ihx _ q7 (by omega);simp only [Tm.good,Tm.goodL];refine ⟨⟨rfl,by omega,by omega,fun _=>⟨m,a,b,x,rfl⟩,by omega,by omega,by omega,by omega⟩,⟨⟨rfl,by omega,by omega,by omega,by omega,by omega,by omega,by omega⟩,g1,g2,trivial⟩,g3,trivial⟩
 | fst G n m a x y s s1 s0 hs ha hx hy iha ihx ihy =>
  intro k hsc hbd;simp only [Tm.wt,Tm.wtL] at hbd;simp only [Tm.sc,Tm.scL] at hsc;obtain ⟨q1,q2,⟨q3,q4,q5,q6,q7,_⟩,_⟩:=hsc;simp only [show Ak 8 0=0 from rfl,show Ak 7 0=0 from rfl,show Ak 7 (0+1)=0 from rfl,show Ak 7 (0+1+1)=0 from rfl] at q5 q6 q7
  have g1:=iha _ q5 (by omega);have g2:=ihx _ q6 (by omega);have g3:=ihy _ q7 (by omega);simp only [Tm.good,Tm.goodL];refine ⟨⟨rfl,by omega,by omega,by omega,fun _=>⟨m,a,x,y,rfl⟩,by omega,by omega,by omega⟩,⟨⟨rfl,by omega,by omega,by omega,by omega,by omega,by omega,by omega⟩,g1,g2,g3,trivial⟩,trivial⟩
 | snd G n m a x y s s1 s0 hs ha hx hy iha ihx ihy =>
  intro k hsc hbd;simp only [Tm.wt,Tm.wtL] at hbd;simp only [Tm.sc,Tm.scL] at hsc;obtain ⟨q1,q2,⟨q3,q4,q5,q6,q7,_⟩,_⟩:=hsc;simp only [show Ak 9 0=0 from rfl,show Ak 7 0=0 from rfl,show Ak 7 (0+1)=0 from rfl,show Ak 7 (0+1+1)=0 from rfl] at q5 q6 q7
  have g1:=iha _ q5 (by omega);have g2:=ihx _ q6 (by omega);have g3:=ihy _ q7 (by omega);simp only [Tm.good,Tm.goodL];refine ⟨⟨rfl,by omega,by omega,by omega,fun _=>⟨m,a,x,y,rfl⟩,by omega,by omega,by omega⟩,⟨⟨rfl,by omega,by omega,by omega,by omega,by omega,by omega,by omega⟩,g1,g2,g3,trivial⟩,trivial⟩
def Uq (op:Int) (k:List RV):Prop:=(op=30->∀k0,k[0]?=some k0->k0.op≠19)/\(op=19->∀k0,k[0]?=some k0->k0.op≠30)/\(op=13->∀k3,k[3]?=some k3->k3.op≠11/\k3.op≠12)
def aG (op:Int) (k:List Tm):Prop:=(op=30->∀k0,k[0]?=some k0->k0.op≠19)/\(op=19->∀k0,k[0]?=some k0->k0.op≠30)/\(op=13->∀k3,k[3]?=some k3->k3.op≠11/\k3.op≠12)
inductive VT (G0:List Nat):List Nat->RV->Nat->Prop
 | var (L:List Nat) (n:Int) (s:Nat) (env:List RV) (b:Tm) (h:0<=n/\L[n.toNat]?=some s\/n<0/\G0[(-1 - n).toNat]?=some s) (hs:s<10):VT G0 L (.mk 1 n [] env b) s
 | node (L:List Nat) (op n:Int) (k env:List RV) (b:Tm) (s:Nat) (sg:KD) (D:Nat->List Nat) (hr:Rule op s sg) (hl:k.length=sg.length) (hst:Uq op k)
   (hk:∀(i:Nat) v s',k[i]?=some v->sg[i]?=some ([],s')->VT G0 L v s')
   (hc:∀(i:Nat) (v:RV) bs s',k[i]?=some v->sg[i]?=some (bs,s')->bs≠[]->(D i).length=v.env.length/\HasT (bs++(D i++G0)) v.b s')
   (he:∀(i:Nat) (v:RV) bs s' (j:Nat) x y,k[i]?=some v->sg[i]?=some (bs,s')->bs≠[]->v.env.reverse[j]?=some x->(D i)[j]?=some y->VT G0 L x y):VT G0 L (.mk op n k env b) s
structure NodeT (G0 L:List Nat) (op:Int) (k:List RV) (s:Nat) (sg:KD) (D:Nat->List Nat):Prop where
 hr:Rule op s sg
 hl:k.length=sg.length
 hk:∀(i:Nat) v s',k[i]?=some v->sg[i]?=some ([],s')->VT G0 L v s'
 hc:∀(i:Nat) (v:RV) bs s',k[i]?=some v->sg[i]?=some (bs,s')->bs≠[]->(D i).length=v.env.length/\HasT (bs++(D i++G0)) v.b s'
 he:∀(i:Nat) (v:RV) bs s' (j:Nat) x y,k[i]?=some v->sg[i]?=some (bs,s')->bs≠[]->v.env.reverse[j]?=some x->(D i)[j]?=some y->VT G0 L x y
def LM {G0 L:List Nat} {op n:Int} {k:List RV} {s:Nat} {sg:KD} {D:Nat->List Nat} (h:NodeT G0 L op k s sg D) (hst:Uq op k):VT G0 L (.node op n k) s :=.node _ _ _ _ _ _ _ _ _ h.hr h.hl hst h.hk h.hc h.he
theorem Tt {G0 L:List Nat} {v:RV} {s:Nat} (h:VT G0 L v s) (h1:v.op≠1):Uq v.op v.k/\∃sg D,NodeT G0 L v.op v.k s sg D:=by
 cases h with
 | var=>exact absurd rfl h1
 | node op n k env b s sg D hr hl hst hk hc he=>exact ⟨hst,sg,D,hr,hl,hk,hc,he⟩
theorem kX {G0 L:List Nat} {v:RV} {s:Nat} (h:VT G0 L v s):∀M,VT G0 (L++M) v s:=by
 induction h with
 | var n s env b h hs =>
  intro M;refine .var _ _ _ _ _ ?_ hs;rcases h with ⟨h1,h2⟩ | h
  ·exact .inl ⟨h1,by rw [Ai9 (Ai7.1 h2).1];exact h2⟩
  ·exact .inr h
 | node op n k env b s sg D hr hl hst hk hc he ihk ihe =>intro M;exact .node _ _ _ _ _ _ _ sg D hr hl hst (fun i v s' a b=>ihk i v s' a b M) hc (fun i v bs s' j x y a b c d e=>ihe i v bs s' j x y a b c d e M)
def Pu (G0 L:List Nat) (env:List RV) (D:List Nat):Prop:=D.length=env.length/\∀(j:Nat) x y,env.reverse[j]?=some x->D[j]?=some y->VT G0 L x y
def Sg {G0 L D bs:List Nat} {env l:List RV} (h:Pu G0 L env D) (hl:bs.length=l.length) (hx:∀(j:Nat) x y,l.reverse[j]?=some x->bs[j]?=some y->VT G0 L x y):Pu G0 L (env++l) (bs++D):=by
 refine ⟨by simp only [Ajg,h.1,hl];omega,?_⟩;intro j x y h1 h2;rw [List.reverse_append] at h1;by_cases hj:j<bs.length
 ·rw [Ai9 (by rw [List.length_reverse];omega)] at h1;rw [Ai9 hj] at h2;exact hx j x y h1 h2
 ·rw [Ai8 (by rw [List.length_reverse];omega),List.length_reverse] at h1;rw [Ai8 (by omega),hl] at h2;exact h.2 _ x y h1 h2
theorem U5 {ev:Int->Int->Tm->Option (RV×Int×Int)} {G0 L D:List Nat} {env:List RV} (hev:∀s t v s' σ,ev s 0 t=some (v,s',0)->HasT (D++G0) t σ->VT G0 L v σ) (herr:∀s e t v s',ev s e t=some (v,s',0)->e=0) (op:Int) :
  ∀(l:List Tm) (i:Nat) (sg:KD) (s:Int) (vs:List RV) (s':Int),Bf ev op env i l s 0=some (vs,s',0)->l.length=sg.length->(∀(j:Nat) bs s1,sg[j]?=some (bs,s1)->bs.length=Ak op (i+j)) ->
   (∀(j:Nat) t bs s1,l[j]?=some t->sg[j]?=some (bs,s1)->HasT (bs++(D++G0)) t s1) ->
   vs.length=l.length/\∀(j:Nat) (v:RV) bs s1,vs[j]?=some v->sg[j]?=some (bs,s1)->(bs=[]->VT G0 L v s1)/\(bs≠[]->v.env=env/\HasT (bs++(D++G0)) v.b s1)
 | [],i,sg,s,vs,s',h,hl,hb,ht=>by
  simp only [Bf,AiZ,Ai0] at h;obtain ⟨rfl,_,_⟩:=h;exact ⟨rfl,fun j v bs s1 h=>by simp at h⟩
 | t::l,i,[],s,vs,s',h,hl,hb,ht=>by simp at hl
 | t::l,i,(b0,σ0)::sg,s,vs,s',h,hl,hb,ht=>by
  have hb0:=hb 0 b0 σ0 rfl;have ht0:=ht 0 t b0 σ0 rfl rfl;rw [AjB] at hb0;have next:=fun (s:Int) (vs:List RV) (h:Bf ev op env (i+1) l s 0=some (vs,s',0))=>U5 hev herr op l (i+1) sg s vs s' h (by simpa using hl) (fun j bs s1 hj=>by rw [hb (j+1) bs s1 (by simpa using hj)];congr 1;omega) (fun j t bs s1 h1 h2=>ht (j+1) t bs s1 (by simpa using h1) (by simpa using h2));simp only [Bf] at h;by_cases hc:0<Ak op i
  ·rw [if_pos hc] at h;cases hk:Bf ev op env (i+1) l s 0 with
   | none=>rw [hk] at h;cases h
   | some q =>
    obtain ⟨us,s2,e2⟩:=q;rw [hk] at h;simp only [Ai2,AiZ,Ai0] at h;obtain ⟨rfl,rfl,rfl⟩:=h;obtain ⟨n1,n2⟩:=next s us hk;refine ⟨by simp [n1],?_⟩;intro j v bs s1 h1 h2;cases j with
    | zero =>simp only [Ajb,AiZ,Ai0] at h1 h2;obtain ⟨rfl,rfl⟩:=h2;subst h1;exact ⟨fun h=>by rw [h] at hb0;simp at hb0;omega,fun _=>⟨rfl,ht0⟩⟩
    | succ j =>simp only [Ajc] at h1 h2;exact n2 j v bs s1 h1 h2
  ·rw [if_neg hc] at h;have hbe:b0=[]:=Aja (by omega);subst hbe;split at h
   ·cases h
   rename_i v0 s1 e1 hv;cases hk:Bf ev op env (i+1) l s1 e1 with
   | none=>rw [hk] at h;cases h
   | some q =>
    obtain ⟨us,s2,e2⟩:=q;rw [hk] at h;simp only [Ai2,AiZ,Ai0] at h;obtain ⟨rfl,rfl,rfl⟩:=h;have he1:=Hn ev herr op env l _ _ _ _ _ hk;subst he1;obtain ⟨n1,n2⟩:=next s1 us hk;refine ⟨by simp [n1],?_⟩;intro j v bs s3 h1 h2;cases j with
    | zero =>simp only [Ajb,AiZ,Ai0] at h1 h2;obtain ⟨rfl,rfl⟩:=h2;subst h1;exact ⟨fun _=>hev _ _ _ _ _ hv (by simpa using ht0),fun h=>absurd rfl h⟩
    | succ j =>simp only [Ajc] at h1 h2;exact n2 j v bs s3 h1 h2
def JX {f:Nat} {s:Int} {op n:Int} {ks:List Tm} {env:List RV} {v:RV} {s':Int} (h:AD (f+1) s 0 (.mk op n ks) env=some (v,s',0)) (h1:op≠1) :
  ∃vs s1,Bf (fun s e t=>AD f s e t env) op env 0 ks s 0=some (vs,s1,0)/\headR f s1 0 (.node op n vs)=some (v,s',0):=by
 rw [AD] at h;rw [if_neg (by simp)] at h;split at h
 ·cases h
 first | rw [if_neg h1] at h | skip
 split at h
 ·cases h
 split at h
 ·cases h
 split at h
 ·cases h
 rename_i vs s1 e1 hk;have he:=Hk h;subst he;exact ⟨vs,s1,hk,h⟩
theorem Mo {f:Nat} {s:Int} {op n:Int} {k:List RV} {v:RV} {s':Int} (h:headR f s 0 (.node op n k)=some (v,s',0)) (h0:¬ (op=5\/op=8\/op=9\/op=13\/op=19\/op=30)):v=.node op n k/\s'=s:=by
 cases f with
 | zero=>rw [headR] at h;cases h
 | succ f =>
  rw [headR] at h;rw [if_neg (by simp)] at h;split at h
  ·cases h
  have hop:(RV.node op n k).op=op:=rfl;rw [hop,if_neg (by omega),if_neg (by omega),if_neg (by omega),if_neg (by omega),if_neg (by omega)] at h;simp only [AiZ,Ai0] at h;exact ⟨h.1.symm,h.2.1.symm⟩
def Kp {f:Nat} {G0 L D:List Nat} {env:List RV} (ih:∀s t v s' σ,AD f s 0 t env=some (v,s',0)->HasT (D++G0) t σ->VT G0 L v σ) (henv:Pu G0 L env D) {op:Int} {ks:List Tm} {σ:Nat} {sg:KD} {s s1:Int} {vs:List RV}
  (hr:Rule op σ sg) (hl:ks.length=sg.length) (hk:∀(i:Nat) t bs s',ks[i]?=some t->sg[i]?=some (bs,s')->HasT (bs++(D++G0)) t s') (h:Bf (fun s e t=>AD f s e t env) op env 0 ks s 0=some (vs,s1,0)):NodeT G0 L op vs σ sg (fun _=>D):=by
 obtain ⟨n1,n2⟩:=U5 (G0:=G0) (L:=L) (D:=D) ih (fun s e t v s' h=>CW h) op ks 0 sg s vs s1 h hl (fun j bs s1 hj=>by rw [Ajy];exact (Fa hr hj).1) hk;refine ⟨hr,by rw [n1];exact hl,?_,?_,?_⟩
 ·intro i v s' a b;exact (n2 i v [] s' a b).1 rfl
 ·intro i v bs s' a b c;obtain ⟨q1,q2⟩:=(n2 i v bs s' a b).2 c;exact ⟨by rw [q1];exact henv.1,q2⟩
 ·intro i v bs s' j x y a b c d e;obtain ⟨q1,q2⟩:=(n2 i v bs s' a b).2 c;rw [q1] at d;exact henv.2 j x y d e
def ZE {f:Nat} {s n m:Int} {va x:RV} {env:List RV} {b:Tm} {v:RV} {s':Int} (h:headR (f+1) s 0 (.node 5 n [.node 4 m [va,.clo env b],x])=some (v,s',0)):AD f (s+1) 0 b (env++[x])=some (v,s',0):=by
 rw [headR,if_neg (by simp)] at h;by_cases hs:s<0\/1000000<s
 ·rw [if_pos hs] at h;cases h
 rw [if_neg hs,if_pos (show RV.op (.node 5 n [.node 4 m [va,.clo env b],x])=5 from rfl)] at h
 simp only [RV.node,RV.k,Ajb] at h;rw [if_pos (show RV.op (.mk 4 m [va,.clo env b] [] .z)=4 from rfl)] at h
 by_cases h1:s+1<=1000
 ·rw [if_pos h1] at h;simp only [Ajb,Ajc] at h;rw [show (RV.clo env b).env=env from rfl,show (RV.clo env b).b=b from rfl] at h
  by_cases h2:900000<env.length
  ·rw [if_pos h2] at h;cases h
  ·rw [if_neg h2] at h;exact h
 ·rw [if_neg h1] at h;simp at h
def Yr {f:Nat} {s op n m:Int} {ws:List RV} {v:RV} {s':Int} (ho:op=8\/op=9) (h:headR (f+1) s 0 (.node op n [.node 7 m ws])=some (v,s',0)):ws[(1+op - 8).toNat]?=some v:=by
 rw [headR,if_neg (by simp)] at h;by_cases hs:s<0\/1000000<s
 ·rw [if_pos hs] at h;cases h
 have hop:RV.op (.node op n [.node 7 m ws])=op:=rfl;rw [if_neg hs,hop,if_neg (by omega),if_pos ho] at h;simp only [RV.node,RV.k,Ajb] at h;rw [if_pos (show RV.op (.mk 7 m ws [] .z)=7 from rfl)] at h
 by_cases h1:s+1<=1000
 ·rw [if_pos h1] at h;cases hw:ws[(1+op - 8).toNat]? with
  | none=>rw [hw] at h;cases h
  | some w =>rw [hw] at h;simp only [Ai2,AiZ,Ai0] at h;rw [h.1]
 ·rw [if_neg h1] at h;simp at h
def fF {f:Nat} {s n:Int} {k0 v:RV} {s':Int} (h:headR (f+1) s 0 (.node 30 n [k0])=some (v,s',0)):k0.op=19/\k0.k[0]?=some v\/k0.op≠19/\v=.node 30 n [k0]:=by
 rw [headR,if_neg (by simp)] at h;by_cases hs:s<0\/1000000<s
 ·rw [if_pos hs] at h;cases h
 have hop:RV.op (.node 30 n [k0])=30:=rfl;rw [if_neg hs,hop,if_neg (by decide),if_neg (by decide),if_pos rfl,show RV.k (.node 30 n [k0])=[k0] from rfl] at h
 simp only [Ajb] at h;by_cases h0:k0.op=19
 ·rw [if_pos h0] at h;by_cases h1:s+1<=1000
  ·rw [if_pos h1] at h;cases hw:k0.k[0]? with
   | none=>rw [hw] at h;cases h
   | some w =>rw [hw] at h;simp only [Ai2,AiZ,Ai0] at h;rw [<- h.1];exact .inl ⟨h0,rfl⟩
  ·rw [if_neg h1] at h;simp at h
 ·rw [if_neg h0] at h;simp only [AiZ,Ai0] at h;exact .inr ⟨h0,h.1.symm⟩
def eB {f:Nat} {s n:Int} {k0 v:RV} {s':Int} (h:headR (f+1) s 0 (.node 19 n [k0])=some (v,s',0)):k0.op=30/\k0.k[0]?=some v\/k0.op≠30/\v=.node 19 n [k0]:=by
 rw [headR,if_neg (by simp)] at h;by_cases hs:s<0\/1000000<s
 ·rw [if_pos hs] at h;cases h
 have hop:RV.op (.node 19 n [k0])=19:=rfl;rw [if_neg hs,hop,if_neg (by decide),if_neg (by decide),if_neg (by decide),if_pos rfl,show RV.k (.node 19 n [k0])=[k0] from rfl] at h
 simp only [Ajb] at h;by_cases h0:k0.op=30
 ·rw [if_pos h0] at h;by_cases h1:s+1<=1000
  ·rw [if_pos h1] at h;cases hw:k0.k[0]? with
   | none=>rw [hw] at h;cases h
   | some w =>rw [hw] at h;simp only [Ai2,AiZ,Ai0] at h;rw [<- h.1];exact .inl ⟨h0,rfl⟩
  ·rw [if_neg h1] at h;simp at h
 ·rw [if_neg h0] at h;simp only [AiZ,Ai0] at h;exact .inr ⟨h0,h.1.symm⟩
def dK {f:Nat} {s n:Int} {k0 k1 k2 k3 v:RV} {s':Int} (h:headR (f+1) s 0 (.node 13 n [k0,k1,k2,k3])=some (v,s',0)) :
  k3.op=11/\v=k1\/k3.op=12/\(∃x w s1,k3.k[0]?=some x/\headR f (s+1) 0 (.node 13 0 [k0,k1,k2,x])=some (w,s1,0)/\AD f s1 0 k2.b (k2.env++[x,w])=some (v,s',0))\/(k3.op≠11/\k3.op≠12)/\v=.node 13 n [k0,k1,k2,k3]:=by
 rw [headR,if_neg (by simp)] at h;by_cases hs:s<0\/1000000<s
 ·rw [if_pos hs] at h;cases h
 have hop:RV.op (.node 13 n [k0,k1,k2,k3])=13:=rfl;have hk:RV.k (.node 13 n [k0,k1,k2,k3])=[k0,k1,k2,k3]:=rfl;rw [if_neg hs,hop,if_neg (by decide),if_neg (by decide),if_neg (by decide),if_neg (by decide),if_pos rfl,hk] at h;simp only [Ajb,Ajc] at h;by_cases h11:k3.op=11
 ·rw [if_pos h11] at h;by_cases h1:s+1<=1000
  ·rw [if_pos h1] at h;simp only [AiZ,Ai0] at h;exact .inl ⟨h11,h.1.symm⟩
  ·rw [if_neg h1] at h;simp at h
 rw [if_neg h11] at h;by_cases h12:k3.op=12
 ·rw [if_pos h12] at h;by_cases h1:s+1<=1000
  ·rw [if_pos h1] at h;cases hx:k3.k[0]? with
   | none=>rw [hx] at h;cases h
   | some x =>
    rw [hx] at h;simp only at h;cases hw:headR f (s+1) 0 (.node 13 0 [k0,k1,k2,x]) with
    | none=>rw [hw] at h;cases h
    | some q =>
     obtain ⟨w,s1,e1⟩:=q;rw [hw] at h;simp only at h;by_cases h2:900000<k2.env.length
     ·rw [if_pos h2] at h;cases h
     ·rw [if_neg h2] at h;have he:=CW h;subst he;exact .inr (.inl ⟨h12,x,w,s1,rfl,hw,h⟩)
  ·rw [if_neg h1] at h;simp at h
 ·rw [if_neg h12] at h;simp only [AiZ,Ai0] at h;exact .inr (.inr ⟨⟨h11,h12⟩,h.1.symm⟩)
def pE {f:Nat} {s n:Int} {ks:List Tm} {env:List RV} {v:RV} {s':Int} (h:AD (f+1) s 0 (.mk 1 n ks) env=some (v,s',0)) (h0:0<=n):(n<env.length/\env.reverse[n.toNat]?=some v\/¬ n<env.length/\v=.var (env.length - 1 - n))/\s'=s:=by
 rw [AD,if_neg (by simp)] at h;by_cases h9:900000<env.length
 ·rw [if_pos h9] at h;cases h
 rw [if_neg h9,if_pos rfl] at h;by_cases hm:n<env.length
 ·rw [if_pos hm,if_pos h0] at h;cases hx:env[((env.length:Int) - 1 - n).toNat]? with
  | none=>rw [hx] at h;cases h
  | some x =>
   rw [hx] at h;simp only [Ai2,AiZ,Ai0] at h;obtain ⟨rfl,rfl,_⟩:=h;refine ⟨.inl ⟨hm,?_⟩,rfl⟩;rw [List.getElem?_reverse (by omega),show env.length - 1 - n.toNat=((env.length:Int) - 1 - n).toNat by omega]
   exact hx
 ·rw [if_neg hm] at h;by_cases h4:n<=4611686018427387904
  ·rw [if_pos h4] at h;simp only [AiZ,Ai0] at h;exact ⟨.inr ⟨hm,h.1.symm⟩,h.2.1.symm⟩
  ·rw [if_neg h4] at h;cases h
theorem nI {f:Nat} {s n m:Int} {a b x:Tm} {env:List RV} {v:RV} {s':Int} (h:AD (f+1) s 0 (.mk 5 n [.mk 4 m [a,b],x]) env=some (v,s',0)):∃f' s1 s2 vx,f'<=f/\AD f s1 0 x env=some (vx,s2,0)/\AD f' (s2+1) 0 b (env++[vx])=some (v,s',0):=by
 obtain ⟨vs,s2,h1,h2⟩:=JX h (by decide);simp only [Bf] at h1;rw [if_neg (by decide)] at h1;cases hv0:AD f s 0 (.mk 4 m [a,b]) env with
 | none=>rw [hv0] at h1;cases h1
 | some q =>
  obtain ⟨v0,s3,e3⟩:=q;rw [hv0] at h1;simp only at h1;rw [if_neg (by decide)] at h1;cases hv1:AD f s3 e3 x env with
  | none=>rw [hv1] at h1;cases h1
  | some q =>
   obtain ⟨v1,s4,e4⟩:=q;rw [hv1] at h1;simp only [Ai2,AiZ,Ai0] at h1;obtain ⟨rfl,rfl,rfl⟩:=h1;have e3:=CW hv1;subst e3;obtain ⟨va,rfl⟩:=Wx hv0;cases f with
   | zero=>rw [headR] at h2;cases h2
   | succ f=>exact ⟨f,s3,s4,v1,by omega,hv1,ZE h2⟩
theorem Sw {f:Nat} {s op n m:Int} {a x y:Tm} {env:List RV} {v:RV} {s':Int} (ho:op=8\/op=9) (h:AD (f+1) s 0 (.mk op n [.mk 7 m [a,x,y]]) env=some (v,s',0)):∃f' ws s1,f'<=f/\Bf (fun s e t=>AD f' s e t env) 7 env 0 [a,x,y] s 0=some (ws,s1,0)/\ws[(1+op - 8).toNat]?=some v:=by
 obtain ⟨vs,s2,h1,h2⟩:=JX h (by omega);have hb:Ak op 0=0:=by rcases ho with rfl | rfl<;>rfl
 simp only [Bf] at h1;rw [if_neg (by omega)] at h1;cases hv0:AD f s 0 (.mk 7 m [a,x,y]) env with
 | none=>rw [hv0] at h1;cases h1
 | some q =>
  obtain ⟨v0,s3,e3⟩:=q;rw [hv0] at h1;simp only [Ai2,AiZ,Ai0] at h1;obtain ⟨rfl,rfl,rfl⟩:=h1;cases f with
  | zero=>rw [headR] at h2;cases h2
  | succ f =>obtain ⟨ws,s4,q1,q2⟩:=JX hv0 (by decide);obtain ⟨rfl,rfl⟩:=Mo q2 (by decide);exact ⟨f,ws,s3,by omega,q1,Yr ho h2⟩
def dL {f:Nat} {s nd u d:Int} {v:RV} {t:Tm} {s' nd':Int} (h:AV (f+1) s nd 0 v u d=some (t,s',nd',0)) :
  v.op=1/\t=.mk 1 (u - 1 - v.n) []\/v.op≠1/\∃ts,Bl (fun s nd e k u=>AV f s nd e k u (d+1)) f v.op u 0 v.k s (nd+1) 0=some (ts,s',nd',0)/\t=.mk v.op v.n ts:=by
 rw [AV] at h;by_cases hb:nd<0\/1000000<nd\/u<0\/1000000<u\/d<0\/1000000<d\/v.n < -2305843009213693952\/2305843009213693952<v.n\/f<=v.k.length\/900000<v.k.length\/f<=3
 ·rw [if_pos hb] at h;cases h
 rw [if_neg hb] at h;by_cases h3:(0:Int)=0/\(3000<nd+1\/120<d)
 ·rw [if_pos h3,if_pos (by decide)] at h;simp at h
 rw [if_neg h3,if_neg (by simp)] at h;by_cases h1:v.op=1
 ·rw [if_pos h1] at h;simp only [AiZ,Ai0] at h;exact .inl ⟨h1,h.1.symm⟩
 ·rw [if_neg h1] at h;cases hrk:Bl (fun s nd e k u=>AV f s nd e k u (d+1)) f v.op u 0 v.k s (nd+1) 0 with
  | none=>rw [hrk] at h;cases h
  | some q =>obtain ⟨ts,s1,nd1,e1⟩:=q;rw [hrk] at h;simp only [Ai2,AiZ,Ai0] at h;obtain ⟨rfl,rfl,rfl,rfl⟩:=h;exact .inr ⟨h1,ts,rfl,rfl⟩
def EvT (G0 L:List Nat) (f:Nat):Prop:=∀s t env v s' D σ,AD f s 0 t env=some (v,s',0)->HasT (D++G0) t σ->Pu G0 L env D->VT G0 L v σ
def HdT (G0 L:List Nat) (f:Nat):Prop:=∀s op n k v s' σ sg D,headR f s 0 (.node op n k)=some (v,s',0)->NodeT G0 L op k σ sg D->VT G0 L v σ
theorem rZ {G0 L D:List Nat} {env:List RV} (h:Pu G0 L env D) {x:RV} {y:Nat} (hx:VT G0 L x y):Pu G0 L (env++[x]) (y::D):=by
 refine Sg (bs:=[y]) h rfl ?_;intro j x' y' a b;cases j with
 | zero =>simp only [List.reverse_cons,List.reverse_nil,Ajo,Ajb,AiZ] at a b;subst a b;exact hx
 | succ j=>simp at a
def Adz {G0 L D:List Nat} {env:List RV} (h:Pu G0 L env D) {x w:RV} {y z:Nat} (hx:VT G0 L x y) (hw:VT G0 L w z):Pu G0 L (env++[x,w]) (z::y::D):=by
 have:=rZ (rZ h hx) hw
 rw [Ajs] at this;exact this
theorem qQ {G:List Nat} {a x y:Tm} {s0 s1 s2:Nat} (ha:HasT G a s0) (hx:HasT G x s1) (hy:HasT G y s2):∀(i:Nat) t bs s',[a,x,y][i]?=some t->[(([]:List Nat),s0),([],s1),([],s2)][i]?=some (bs,s')->HasT (bs++G) t s':=by
 intro i t bs s' a1 a2
 match i with
 | 0=>simp at a1 a2;obtain ⟨rfl,rfl⟩:=a2;subst a1;exact ha
 | 1=>simp at a1 a2;obtain ⟨rfl,rfl⟩:=a2;subst a1;exact hx
 | 2=>simp at a1 a2;obtain ⟨rfl,rfl⟩:=a2;subst a1;exact hy
 | i+3=>simp at a1
theorem Aa7 {G0 L:List Nat} {f:Nat} (ihE:∀g,g<=f->EvT G0 L g) (ihH:HdT G0 L f):EvT G0 L (f+1):=by
 intro s t env v s' D σ h ht henv;generalize hG:D++G0=G at ht;cases ht with
 | var _ n _ h0 hg hs =>
  subst hG;rcases (pE h h0).1 with ⟨h1,h2⟩ | ⟨h1,rfl⟩
  ·refine henv.2 n.toNat v σ h2 ?_;rw [Ai9 (by have:=henv.1;omega)] at hg;exact hg
  ·refine .var _ _ _ _ _ (.inr ⟨by omega,?_⟩) hs;rw [Ai8 (by have:=henv.1;omega),henv.1] at hg;rw [show (-1 - ((env.length:Int) - 1 - n)).toNat=n.toNat - env.length by omega]
   exact hg
 | node _ op n ks _ sg hr hl hk =>subst hG;obtain ⟨vs,s1,h1,h2⟩:=JX h (DX hr).1;exact ihH _ _ _ _ _ _ _ _ _ h2 (Kp (fun s t v s' σ a b=>ihE f (AjA _) s t env v s' D σ a b henv) henv hr hl hk h1)
 | app _ n m a b x y _ s1 hs hy ha hb hx =>subst hG;obtain ⟨f',s1,s2,vx,hf,h1,h2⟩:=nI h;exact ihE f' hf _ _ _ _ _ (y::D) σ h2 hb (rZ henv (ihE f (AjA _) _ _ _ _ _ D y h1 hx henv))
 | fst _ n m a x y _ s1 s0 hs ha hx hy =>subst hG;obtain ⟨f',ws,s2,hf,h1,h2⟩:=Sw (.inl rfl) h;have hn:=Kp (fun s t v s' σ a b=>ihE f' hf s t env v s' D σ a b henv) henv (Rule.pair s0 σ s1) rfl (qQ ha hx hy) h1;exact hn.hk 1 v σ h2 rfl
 | snd _ n m a x y _ s1 s0 hs ha hx hy =>subst hG;obtain ⟨f',ws,s2,hf,h1,h2⟩:=Sw (.inr rfl) h;have hn:=Kp (fun s t v s' σ a b=>ihE f' hf s t env v s' D σ a b henv) henv (Rule.pair s0 s1 σ) rfl (qQ ha hx hy) h1;exact hn.hk 2 v σ h2 rfl
def dS {G0 L:List Nat} {k0 k1 k2 k3 x:RV} {σ s0:Nat} {D:Nat->List Nat} (hn:NodeT G0 L 13 [k0,k1,k2,k3] σ [([0],s0),([],σ),([σ,0],σ),([],0)] D) (hx:VT G0 L x 0):NodeT G0 L 13 [k0,k1,k2,x] σ [([0],s0),([],σ),([σ,0],σ),([],0)] D:=by
 refine ⟨hn.hr,rfl,?_,?_,?_⟩
 ·intro i v s' a b
  match i with
  | 0=>exact hn.hk 0 v s' a b
  | 1=>exact hn.hk 1 v s' a b
  | 2=>exact hn.hk 2 v s' a b
  | 3 =>simp at a b;subst a b;exact hx
  | i+4=>simp at a
 ·intro i v bs s' a b c
  match i with
  | 0=>exact hn.hc 0 v bs s' a b c
  | 1=>exact hn.hc 1 v bs s' a b c
  | 2=>exact hn.hc 2 v bs s' a b c
  | 3=>simp at b;exact absurd b.1 c
  | i+4=>simp at a
 ·intro i v bs s' j x' y' a b c d e
  match i with
  | 0=>exact hn.he 0 v bs s' j x' y' a b c d e
  | 1=>exact hn.he 1 v bs s' j x' y' a b c d e
  | 2=>exact hn.he 2 v bs s' j x' y' a b c d e
  | 3=>simp at b;exact absurd b.1 c
  | i+4=>simp at a
def Acp {G0 L:List Nat} {f:Nat} (ihE:EvT G0 L f) (ihH:HdT G0 L f):HdT G0 L (f+1):=by
 intro s op n k v s' σ sg D h hn;obtain ⟨o1,o5,o8,o9⟩:=DX hn.hr;by_cases h30:op=30
 ·subst h30;have hr:=hn.hr;cases hr;obtain ⟨k0,rfl⟩:=Fg hn.hl;have hk0:=hn.hk 0 k0 3 rfl rfl;rcases fF h with ⟨h19,hx⟩ | ⟨h19,rfl⟩
  ·obtain ⟨_,sg2,D2,hn2⟩:=Tt hk0 (by omega);rw [h19] at hn2;have hr2:=hn2.hr;cases hr2;exact hn2.hk 0 v 6 hx rfl
  ·refine LM hn ⟨fun _ k1 hk1=>?_,by omega,by omega⟩;simp only [Ajb,AiZ] at hk1;subst hk1;exact h19
 by_cases h19:op=19
 ·subst h19;have hr:=hn.hr;cases hr;obtain ⟨k0,rfl⟩:=Fg hn.hl;have hk0:=hn.hk 0 k0 6 rfl rfl;rcases eB h with ⟨h19,hx⟩ | ⟨h19,rfl⟩
  ·obtain ⟨_,sg2,D2,hn2⟩:=Tt hk0 (by omega);rw [h19] at hn2;have hr2:=hn2.hr;cases hr2;exact hn2.hk 0 v 3 hx rfl
  ·refine LM hn ⟨by omega,fun _ k1 hk1=>?_,by omega⟩;simp only [Ajb,AiZ] at hk1;subst hk1;exact h19
 by_cases h13:op=13
 ·subst h13;have hr:=hn.hr;cases hr with
  | recR _ hs =>
  obtain ⟨k0,k1,k2,k3,rfl⟩:=TY hn.hl;have hk1:=hn.hk 1 k1 σ rfl rfl;have hk3:=hn.hk 3 k3 0 rfl rfl;have hc2:=hn.hc 2 k2 [σ,0] σ rfl rfl (by simp);have he2:=fun (j:Nat) x y=>hn.he 2 k2 [σ,0] σ j x y rfl rfl (by simp);rcases dK h with ⟨h11,rfl⟩ | ⟨h12,x,w,s1,hx,hw,hv⟩ | ⟨h3,rfl⟩
  ·exact hk1
  ·obtain ⟨_,sg2,D2,hn2⟩:=Tt hk3 (by omega);rw [h12] at hn2;have hr2:=hn2.hr;cases hr2;have hxv:=hn2.hk 0 x 0 hx rfl;have hwv:=ihH _ _ _ _ _ _ _ _ _ hw (dS hn hxv);exact ihE _ _ _ _ _ (σ::0::D 2) σ hv hc2.2 (Adz ⟨hc2.1,he2⟩ hxv hwv)
  ·refine LM hn ⟨by omega,by omega,fun _ q hq=>?_⟩;simp at hq;subst hq;exact h3
 obtain ⟨rfl,_⟩:=Mo h (by omega);exact LM hn ⟨by omega,by omega,by omega⟩
theorem VY (G0 L:List Nat):∀f,EvT G0 L f/\HdT G0 L f:=by
 intro f
 induction f using Nat.strongRecOn with
 | _ f ih =>
 cases f with
 | zero=>exact ⟨(by intro s t env v s' D σ h;rw [AD] at h;cases h),(by intro s op n k v s' σ sg D h;rw [headR] at h;cases h)⟩
 | succ f=>exact ⟨Aa7 (fun g hg=>(ih g (by omega)).1) (ih f (by omega)).2,Acp (ih f (by omega)).1 (ih f (by omega)).2⟩
inductive NfT:List Nat->Tm->Nat->Prop
 | var (G:List Nat) (n:Int) (s:Nat) (h0:0<=n) (h:G[n.toNat]?=some s) (hs:s<10):NfT G (.mk 1 n []) s
 | node (G:List Nat) (op n:Int) (ks:List Tm) (s:Nat) (sg:KD) (hr:Rule op s sg) (hl:ks.length=sg.length) (hst:aG op ks) (hk:∀(i:Nat) t bs s',ks[i]?=some t->sg[i]?=some (bs,s')->NfT (bs++G) t s'):NfT G (.mk op n ks) s
theorem AX {G:List Nat} {t:Tm} {s:Nat} (h:NfT G t s):HasT G t s:=by
 induction h with
 | var G n s h0 h hs=>exact .var _ _ _ h0 h hs
 | node G op n ks s sg hr hl hst hk ih=>exact .node _ _ _ _ _ sg hr hl ih
theorem OK {rd:Int->Int->Int->RV->Int->Option (Tm×Int×Int×Int)} {f:Nat} (herr:∀s nd e v u t s' nd',rd s nd e v u=some (t,s',nd',0)->e=0) (op u:Int) :
  ∀(l:List RV) (i:Nat) (s nd e:Int) (ts:List Tm) (s' nd':Int),Bl rd f op u i l s nd e=some (ts,s',nd',0)->ts.length=l.length/\∀(j:Nat) k t,l[j]?=some k->ts[j]?=some t ->
   ∃s1 nd1 k' s2 nd2,((0<Ak op (i+j)->∃s0,AD f s0 0 k.b (k.env++E6 u (Ak op (i+j)))=some (k',s1,0))/\(Ak op (i+j)=0->k'=k))/\rd s1 nd1 0 k' (u+Ak op (i+j))=some (t,s2,nd2,0)
 | [],i,s,nd,e,ts,s',nd',h=>by
  simp only [Bl,AiZ,Ai0] at h;obtain ⟨rfl,_⟩:=h;exact ⟨rfl,fun j k t h=>by simp at h⟩
 | k::l,i,s,nd,e,ts,s',nd',h=>by
  simp only [Bl] at h;split at h
  ·cases h
  rename_i k' s1 e1 hk;split at h
  ·cases h
  rename_i t s2 nd2 e2 ht;cases hr:Bl rd f op u (i+1) l s2 nd2 e2 with
  | none=>rw [hr] at h;cases h
  | some q =>
   obtain ⟨us,s3,nd3,e3⟩:=q;rw [hr] at h;simp only [Ai2,AiZ,Ai0] at h;obtain ⟨rfl,rfl,rfl,rfl⟩:=h;have he2:e2=0:=by
    cases l with
    | nil=>simp only [Bl,AiZ,Ai0] at hr;exact hr.2.2.2
    | cons k2 l2 =>
     simp only [Bl] at hr;split at hr
     ·cases hr
     rename_i k2' s5 e5 hk2;split at hr
     ·cases hr
     rename_i t2 s6 nd6 e6 ht2;cases hr2:Bl rd f op u (i+1+1) l2 s6 nd6 e6 with
     | none=>rw [hr2] at hr;cases hr
     | some q =>
      obtain ⟨ws,s7,nd7,e7⟩:=q;rw [hr2] at hr;simp only [Ai2,AiZ,Ai0] at hr;obtain ⟨_,_,_,rfl⟩:=hr;have h6:e6=0:=readK_err herr op u l2 _ _ _ _ _ _ _ hr2;subst h6;have h5:=herr _ _ _ _ _ _ _ _ ht2;subst h5;split at hk2
      ·split at hk2
       ·cases hk2
       exact CW hk2
      ·simp only [AiZ,Ai0] at hk2;exact hk2.2.2
   subst he2;have he1:=herr _ _ _ _ _ _ _ _ ht;subst he1;obtain ⟨n1,n2⟩:=OK herr op u l (i+1) s2 nd2 0 us s3 nd3 hr;refine ⟨by simp [n1],?_⟩;intro j k2 t2 a b;cases j with
   | zero =>
    simp only [Ajb,AiZ] at a b;subst a b;rw [AjB];refine ⟨s1,nd,k',s2,nd2,⟨fun hb=>?_,fun hb=>?_⟩,ht⟩
    ·rw [if_pos hb] at hk;split at hk
     ·cases hk
     have:=CW hk
     subst this;exact ⟨s,hk⟩
    ·rw [if_neg (by omega)] at hk;simp only [AiZ,Ai0] at hk;exact hk.1.symm
   | succ j =>
    simp only [Ajc] at a b
    have:=n2 j k2 t2 a b
    rw [show i+1+j=i+(j+1) by omega] at this
    exact this
where
 readK_err {rd:Int->Int->Int->RV->Int->Option (Tm×Int×Int×Int)} {f:Nat} (herr:∀s nd e v u t s' nd',rd s nd e v u=some (t,s',nd',0)->e=0) (op u:Int) :
   ∀(l:List RV) (i:Nat) (s nd e:Int) (ts:List Tm) (s' nd':Int),Bl rd f op u i l s nd e=some (ts,s',nd',0)->e=0
  | [],i,s,nd,e,ts,s',nd',h=>by
   simp only [Bl,AiZ,Ai0] at h;exact h.2.2.2
  | k::l,i,s,nd,e,ts,s',nd',hr=>by
   simp only [Bl] at hr;split at hr
   ·cases hr
   rename_i k2' s5 e5 hk2;split at hr
   ·cases hr
   rename_i t2 s6 nd6 e6 ht2;cases hr2:Bl rd f op u (i+1) l s6 nd6 e6 with
   | none=>rw [hr2] at hr;cases hr
   | some q =>
    obtain ⟨ws,s7,nd7,e7⟩:=q;rw [hr2] at hr;simp only [Ai2,AiZ,Ai0] at hr;obtain ⟨_,_,_,rfl⟩:=hr;have h6:e6=0:=readK_err herr op u l _ _ _ _ _ _ _ hr2;subst h6;have h5:=herr _ _ _ _ _ _ _ _ ht2;subst h5;split at hk2
    ·split at hk2
     ·cases hk2
     exact CW hk2
    ·simp only [AiZ,Ai0] at hk2;exact hk2.2.2
def O0 (u:Int) (b j:Nat) (h:j<b):(E6 u b)[j]?=some (.var (u+j)):=by simp [E6,h]
def jP (u:Int) (b j:Nat) {x:RV} (h:(E6 u b).reverse[j]?=some x):j<b/\x=.var (u+((b - 1 - j:Nat):Int)):=by
 have hj:j<b:=by
  have:=(Ai7.1 h).1
  rw [List.length_reverse,CC] at this;exact this
 rw [List.getElem?_reverse (by rw [CC];exact hj),CC,O0 _ _ _ (by omega),AiZ] at h;exact ⟨hj,h.symm⟩
theorem jS (G0:List Nat):∀(f:Nat) (L:List Nat) (s nd:Int) (v:RV) (d:Int) (t:Tm) (s' nd':Int) (σ:Nat),AV f s nd 0 v L.length d=some (t,s',nd',0)->VT G0 L v σ->NfT (L.reverse++G0) t σ/\t.op=v.op:=by
 intro f
 induction f with
 | zero=>intro L s nd v d t s' nd' σ h;rw [AV] at h;cases h
 | succ f ih =>
  intro L s nd v d t s' nd' σ h hv;have hri:=dL h;cases hv with
  | var n _ env b h1 hs =>
   rcases hri with ⟨_,rfl⟩ | ⟨hne,_⟩
   case inr=>exact absurd rfl hne
   refine ⟨.var _ _ _ ?_ ?_ hs,rfl⟩
   ·rcases h1 with ⟨h1,h2⟩ | ⟨h1,h2⟩
    ·have:=(Ai7.1 h2).1
     simp only [RV.n];omega
    ·simp only [RV.n];omega
   ·simp only [RV.n];rcases h1 with ⟨h1,h2⟩ | ⟨h1,h2⟩
    ·have hlt:=(Ai7.1 h2).1;rw [Ai9 (by rw [List.length_reverse];omega),List.getElem?_reverse (by omega)];rw [show L.length - 1 - ((L.length:Int) - 1 - n).toNat=n.toNat by omega]
     exact h2
    ·rw [Ai8 (by rw [List.length_reverse];omega),List.length_reverse];rw [show ((L.length:Int) - 1 - n).toNat - L.length=(-1 - n).toNat by omega]
     exact h2
  | node op n k env b _ sg D hr hl hst hk hc he =>
   rcases hri with ⟨he1,_⟩ | ⟨_,ts,hrk,rfl⟩
   case inl=>exact absurd he1 (DX hr).1
   ·simp only [RV.op,RV.n,RV.k] at hrk ⊢;obtain ⟨n1,n2⟩:=OK (fun s nd e v u t s' nd' h=>Fq h) op L.length k 0 s (nd+1) 0 ts s' nd' hrk;have key:∀(i:Nat) t bs s',ts[i]?=some t->sg[i]?=some (bs,s')->NfT (bs++(L.reverse++G0)) t s'/\(bs=[]->∀kv,k[i]?=some kv->t.op=kv.op):=by
     intro i t bs s' a b;have hi:i<k.length:=by rw [<- n1];exact (Ai7.1 a).1
     have hki:=Ai6 hi;obtain ⟨q1,q2,k',q3,q4,⟨q5,q6⟩,q7⟩:=n2 i _ t hki a;rw [Ajy] at q5 q6 q7;have hbn:=(Fa hr b).1;cases bs with
     | nil =>
      simp only [Ajh] at hbn;rw [<- hbn] at q6 q7
      have:=q6 rfl
      subst this;simp only [Int.ofNat_zero,Int.add_zero] at q7;have hv:=hk i _ s' hki b;have h3:=ih L _ _ _ _ _ _ _ _ q7 hv;refine ⟨by simpa using h3.1,fun _ kv hkv=>?_⟩;rw [hki,AiZ] at hkv;rw [<- hkv];exact h3.2
     | cons b0 bs =>
      have hlb:=hbn;rw [Ai3] at hbn;obtain ⟨s0,hev⟩:=q5 (by omega);obtain ⟨c1,c2⟩:=hc i _ _ s' hki b (by simp);have henv:Pu G0 (L++(b0::bs).reverse) (k[i].env++E6 L.length (Ak op i)) ((b0::bs)++D i):=by
       refine Sg ⟨c1,fun j x y p q=>kX (he i _ _ s' j x y hki b (by simp) p q) _⟩ (by rw [CC];exact hlb) ?_;intro j x y p q;obtain ⟨hj,rfl⟩:=jP _ _ _ p;have hjl:j<(b0::bs).length:=by rw [hlb];exact hj
       refine .var _ _ _ _ _ (.inl ⟨by omega,?_⟩) ?_
       ·rw [show ((L.length:Int)+((Ak op i - 1 - j:Nat):Int)).toNat=L.length+(Ak op i - 1 - j) by omega]
        rw [Ai8 (by omega),Nat.add_sub_cancel_left,<- hlb,List.getElem?_reverse (by omega)];rw [show (b0::bs).length - 1 - ((b0::bs).length - 1 - j)=j by omega]
        exact q
       ·exact (Fa hr b).2 y (Aje q)
      have hvt:=(VY G0 (L++(b0::bs).reverse) f).1 _ _ _ _ _ _ _ hev (by rw [Ajs];exact c2) henv;rw [<- hlb] at q7;have hlen:((L.length:Int)+((b0::bs).length:Int))=((L++(b0::bs).reverse).length:Int):=by rw [Ajg,List.length_reverse];omega
      rw [hlen] at q7;have h3:=ih _ _ _ _ _ _ _ _ _ q7 hvt;refine ⟨?_,fun h=>by cases h⟩
      have:=h3.1
      rw [List.reverse_append,List.reverse_reverse,Ajs] at this;exact this
    refine ⟨.node _ _ _ _ _ sg hr (by rw [n1];exact hl) ?_ (fun i t bs s' a b=>(key i t bs s' a b).1),rfl⟩;refine ⟨fun ho k0 hk0=>?_,fun ho k0 hk0=>?_,fun ho k3 hk3=>?_⟩
    ·subst ho;cases hr;obtain ⟨w,hw⟩:=Fg hl
     have:=(key 0 k0 [] 3 hk0 rfl).2 rfl w (by rw [hw];rfl)
     rw [this];exact hst.1 rfl w (by rw [hw];rfl)
    ·subst ho;cases hr;obtain ⟨w,hw⟩:=Fg hl
     have:=(key 0 k0 [] 6 hk0 rfl).2 rfl w (by rw [hw];rfl)
     rw [this];exact hst.2.1 rfl w (by rw [hw];rfl)
    ·subst ho;cases hr;obtain ⟨w0,w1,w2,w3,hw⟩:=TY hl
     have:=(key 3 k3 [] 0 hk3 rfl).2 rfl w3 (by rw [hw];rfl)
     rw [this];exact hst.2.2 rfl w3 (by rw [hw];rfl)
def Cl {f:Nat} {t u:Tm} {G:List Nat} {s:Nat} (h:AF f t=some (u,0)) (ht:HasT G t s):NfT G u s:=by
 rw [AF] at h;split at h
 ·cases h
 rename_i v s1 e1 he;split at h
 ·cases h
 rename_i w s2 nd2 e2 hr;simp only [AiZ] at h;by_cases h2:e2=0
 ·subst h2;rw [if_neg (by simp)] at h;simp only [Ai0,and_true] at h;subst h;have h1:=Fq hr;subst h1;have hv:=(VY G [] f).1 0 t [] v s1 [] s he ht ⟨rfl,fun j x y a=>by simp at a⟩
  have:=jS G f [] s1 0 v 1 w s2 nd2 s hr hv
  simpa using this.1
 ·rw [if_pos h2] at h;simp only [Ai0] at h;exact absurd h.2 h2
def jV (op:Int) (ks:List Tm):Prop:=aG op ks/\(op=5->∀k0,ks[0]?=some k0->k0.op≠4)/\(op=8\/op=9->∀k0,ks[0]?=some k0->k0.op≠7)
mutual
def Tm.stl:Tm->Prop
 | .mk op _ ks=>jV op ks/\Tm.stlL ks
def Tm.stlL:List Tm->Prop
 | []=>True
 | t::l=>t.stl/\Tm.stlL l
end
theorem Vq:∀{l:List Tm},(∀(i:Nat) t,l[i]?=some t->t.stl)->Tm.stlL l
 | [],_=>by rw [Tm.stlL];trivial
 | x::l,h=>by
  rw [Tm.stlL];exact ⟨h 0 x rfl,Vq fun i t hi=>h (i+1) t (by simpa using hi)⟩
theorem Kb:∀{l:List Tm} {t:Tm},Tm.stlL l->t∈l->t.stl
 | x::l,t,h,hm=>by
  rw [Tm.stlL] at h;rcases Ajp.1 hm with rfl | hm
  ·exact h.1
  ·exact Kb h.2 hm
theorem BP {G:List Nat} {t:Tm} {s:Nat} (h:NfT G t s):t.stl:=by
 induction h with
 | var G n s h0 h hs =>rw [Tm.stl,Tm.stlL];exact ⟨⟨⟨by omega,by omega,by omega⟩,by omega,by omega⟩,trivial⟩
 | node G op n ks s sg hr hl hst hk ih =>
  rw [Tm.stl];obtain ⟨o1,o5,o8,o9⟩:=DX hr;refine ⟨⟨hst,fun h=>absurd h o5,by omega⟩,Vq fun i t hi=>?_⟩
  have:i<sg.length:=by rw [<- hl];exact (Ai7.1 hi).1
  exact ih i t _ _ hi (Ai6 this)
mutual
def Tm.val:Tm->Nat->RV
 | .mk op n ks,u=>if op=1 then .var ((u:Int) - 1 - n) else .node op n (Tm.valL op 0 ks u)
def Tm.valL:Int->Nat->List Tm->Nat->List RV
 | _,_,[],_=>[]
 | op,i,t::l,u=>(if 0<Ak op i then .clo (E6 0 u) t else t.val u)::Tm.valL op (i+1) l u
end
theorem MO (t:Tm) (u:Nat):(t.val u).op=t.op:=by
 obtain ⟨op,n,ks⟩:=t;rw [Tm.val];split
 ·rename_i h;subst h;rfl
 ·rfl
theorem Sp (op:Int) (u:Nat):∀(l:List Tm) (i:Nat),(Tm.valL op i l u).length=l.length
 | [],_=>rfl
 | t::l,i=>by simp only [Tm.valL,Ai3,Sp op u l]
theorem RY (op:Int) (u:Nat):∀(l:List Tm) (i j:Nat),(Tm.valL op i l u)[j]?=(l[j]?).map fun t=>if 0<Ak op (i+j) then .clo (E6 0 u) t else t.val u
 | [],_,_=>by simp [Tm.valL]
 | t::l,i,0=>by simp [Tm.valL]
 | t::l,i,j+1=>by
  simp only [Tm.valL,Ajc];rw [RY op u l (i+1) j,show i+1+j=i+(j+1) by omega]
theorem bV {s:Int} (h0:0<=s) (h1:s<=1000000) {op n:Int} {ks:List Tm} (har:ar op=some ks.length) (hst:jV op ks) (u:Nat):headR 1 s 0 (.node op n (Tm.valL op 0 ks u))=some (.node op n (Tm.valL op 0 ks u),s,0):=by
 obtain ⟨⟨a1,a2,a3⟩,a4,a5⟩:=hst;have kid:∀(j:Nat) k,ks[j]?=some k->Ak op j=0->(Tm.valL op 0 ks u)[j]?=some (k.val u):=by intro j k hk hb;rw [RY,hk,Ajy,hb];rfl
 rw [headR,if_neg (by simp),if_neg (by omega)];have hop:(RV.node op n (Tm.valL op 0 ks u)).op=op:=rfl;have hk:(RV.node op n (Tm.valL op 0 ks u)).k=Tm.valL op 0 ks u:=rfl;rw [hop,hk];by_cases h5:op=5
 ·subst h5;obtain ⟨x,y,rfl⟩:=RJ (Ajn har.symm:ks.length=2);rw [if_pos rfl,kid 0 x rfl rfl];simp only;rw [if_neg (by rw [MO];exact a4 rfl x rfl)]
 rw [if_neg h5];by_cases h89:op=8\/op=9
 ·have hl:ks.length=1:=by
   rcases h89 with rfl | rfl<;>exact (Ajn har.symm)
  obtain ⟨x,rfl⟩:=Fg hl;rw [if_pos h89,kid 0 x rfl (by rcases h89 with rfl | rfl<;>rfl)];simp only;rw [if_neg (by rw [MO];exact a5 h89 x rfl)]
 rw [if_neg h89];by_cases h30:op=30
 ·subst h30;obtain ⟨x,rfl⟩:=Fg (Ajn har.symm:ks.length=1);rw [if_pos rfl,kid 0 x rfl rfl];simp only;rw [if_neg (by rw [MO];exact a1 rfl x rfl)]
 rw [if_neg h30];by_cases h19:op=19
 ·subst h19;obtain ⟨x,rfl⟩:=Fg (Ajn har.symm:ks.length=1);rw [if_pos rfl,kid 0 x rfl rfl];simp only;rw [if_neg (by rw [MO];exact a2 rfl x rfl)]
 rw [if_neg h19];by_cases h13:op=13
 ·subst h13;obtain ⟨x,y,z,w,rfl⟩:=TY (Ajn har.symm:ks.length=4);rw [if_pos rfl];have q:=a3 rfl w rfl;simp only [Tm.valL,Ajb,Ajc,show Ak 13 0=1 from rfl,show Ak 13 (0+1)=0 from rfl,show Ak 13 (0+1+1)=2 from rfl,show Ak 13 (0+1+1+1)=0 from rfl,Nat.lt_irrefl,if_false,MO]
  rw [if_neg q.1,if_neg q.2]
 rw [if_neg h13]
theorem NO {s:Int} {env:List RV} {u:Nat} (henv:env=E6 0 u) (op:Int):∀(l:List Tm) (i:Nat),(∀(j:Nat) t,l[j]?=some t->Ak op (i+j)=0->∃f,AD f s 0 t env=some (t.val u,s,0))->∃f,Bf (fun s e t=>AD f s e t env) op env i l s 0=some (Tm.valL op i l u,s,0)
 | [],i,_=>⟨0,rfl⟩
 | t::l,i,h=>by
  obtain ⟨f,hf⟩:=NO henv op l (i+1) (fun j t a b=>h (j+1) t (by simpa using a) (by rw [<- b];congr 1;omega));by_cases hb:0<Ak op i
  ·refine ⟨f,?_⟩;rw [Bf,if_pos hb,hf,Tm.valL,if_pos hb,henv];rfl
  ·obtain ⟨g,hg⟩:=h 0 t rfl (by rw [AjB];omega);refine ⟨f+g,?_⟩;rw [Bf,if_neg hb];simp only [Cc (show g<=f+g by omega) hg]
   rw [Du (ev:=fun s e t=>AD f s e t env) (fun s e t r h=>Cc (by omega) h) op env l (i+1) s 0 _ hf,Tm.valL,if_neg hb];rfl
theorem H3 {s:Int} (h0:0<=s) (h1:s<=1000000) (k0:Nat):∀(m:Nat) (t:Tm) (u:Nat),t.wt<m->t.stl->t.sc (k0+u)->k0+u+2 * t.wt<=900000->∃f,AD f s 0 t (E6 0 u)=some (t.val u,s,0):=by
 intro m
 induction m with
 | zero=>intro t u h;omega
 | succ m ih =>
  intro t u hw hst hsc hb;obtain ⟨op,n,ks⟩:=t;rw [Tm.stl] at hst;rw [Tm.sc] at hsc;simp only [Tm.wt] at hw hb;by_cases h1o:op=1
  ·subst h1o;rw [if_pos rfl] at hsc;refine ⟨1,?_⟩;rw [AD,if_neg (by simp),if_neg (by rw [CC];omega),if_pos rfl,Tm.val,if_pos rfl,CC];by_cases hn:n<u
   ·rw [if_pos hn,if_pos hsc.2.1.1,O0 _ _ _ (by omega)];simp only [Ai2,AiZ,Ai0,and_true];congr 1;omega
   ·rw [if_neg hn,if_pos (by omega)]
  ·rw [if_neg h1o] at hsc;obtain ⟨f,hf⟩:=NO (s:=s) (u:=u) rfl op ks 0 (fun j t a b=>by
    rw [Ajy] at b;have hwt:=IL a
    have:=GT hsc.2.2 a
    rw [Ajy,b,AjB] at this;exact ih t u (by omega) (Kb hst.2 (Aje a)) this (by omega))
   have har:=RA hsc.1;refine ⟨f+10+1,?_⟩;rw [AD,if_neg (by simp),if_neg (by rw [CC];omega),if_neg h1o,if_neg (by omega),if_neg (by omega)];rw [Du (ev:=fun s e t=>AD f s e t (E6 0 u)) (fun s e t r h=>Cc (by omega) h) op (E6 0 u) ks 0 s 0 _ hf];simp only;rw [OW (show 1<=f+10 by omega) (bV h0 h1 hsc.1 hst.1 u),Tm.val,if_neg h1o]
theorem WF (u b:Nat):E6 0 u++E6 (u:Int) b=E6 0 (u+b):=by
 induction b with
 | zero=>simp [E6]
 | succ b ih =>rw [J0,<- Ajs,ih,<- Nat.add_assoc,J0];congr 2;simp
theorem Mq {s:Int} {u:Nat} {d:Int} (op:Int):∀(l:List Tm) (i:Nat) (nd:Int),0<=nd->u<=800000 ->
  (∀(j:Nat) t,l[j]?=some t->∀nd:Int,0<=nd->nd+t.wt<=3000->∃f,(0<Ak op (i+j)->AD f s 0 t (E6 0 (u+Ak op (i+j)))=some (t.val (u+Ak op (i+j)),s,0))/\AV f s nd 0 (t.val (u+Ak op (i+j))) ((u:Int)+Ak op (i+j)) d=some (t,s,nd+t.wt,0)) ->
  nd+Tm.wtL l<=3000->∃f,Bl (fun s nd e k u=>AV f s nd e k u d) f op u i (Tm.valL op i l u) s nd 0=some (l,s,nd+Tm.wtL l,0)
 | [],i,nd,_,_,_,_=>⟨0,by simp [Tm.valL,Bl,Tm.wtL]⟩
 | t::l,i,nd,hnd,hu,h,hw=>by
  simp only [Tm.wtL] at hw;obtain ⟨g,hg1,hg2⟩:=h 0 t rfl nd hnd (by omega);rw [AjB] at hg1 hg2;obtain ⟨f,hf⟩:=Mq (s:=s) (u:=u) (d:=d) op l (i+1) (nd+t.wt) (by omega) hu (fun j t a nd b c=>by
   obtain ⟨f,q1,q2⟩:=h (j+1) t (by simpa using a) nd b c;rw [show i+(j+1)=i+1+j by omega] at q1 q2
   exact ⟨f,q1,q2⟩) (by omega)
  refine ⟨f+g,?_⟩;rw [Tm.valL,Bl];have hbn:=AW op i;have hr:=DZ (show g<=f+g by omega) hg2
  have hk:=Ej (f:=f) (g:=f+g) (by omega) (rd:=fun s nd e k u=>AV f s nd e k u d) (rd':=fun s nd e k u=>AV (f+g) s nd e k u d) (fun s nd e k u r h=>DZ (by omega) h) op u _ _ _ _ _ _ hf;by_cases hb:0<Ak op i
  ·rw [if_pos hb,if_pos hb];rw [show (RV.clo (E6 0 u) t).env=E6 0 u from rfl,show (RV.clo (E6 0 u) t).b=t from rfl]
   rw [if_neg (by rw [CC];omega),WF,Cc (show g<=f+g by omega) (hg1 hb)]
   simp only;rw [hr];simp only;rw [hk];simp only [Ai2,Tm.wtL,AiZ,Ai0,true_and,and_true];omega
  ·have hb0:Ak op i=0:=by omega
   rw [hb0] at hr;rw [if_neg hb,if_neg hb,hb0];simp only;simp only [AjB] at hr;rw [hr];simp only;rw [hk];simp only [Ai2,Tm.wtL,AiZ,Ai0,true_and,and_true];omega
theorem Pq:∀{l:List Tm} {j:Nat} {t:Tm},l[j]?=some t->t.dp<=Tm.dpL l
 | [],_,_,h=>by simp at h
 | x::l,0,t,h=>by
  simp only [Ajb,AiZ] at h;subst h;simp only [Tm.dpL];omega
 | x::l,j+1,t,h=>by
  simp only [Ajc] at h
  have:=Pq h
  simp only [Tm.dpL];omega
theorem X6 {s:Int} (h0:0<=s) (h1:s<=1000000) (k0:Nat):∀(m:Nat) (t:Tm) (u:Nat) (nd d:Int),t.wt<m->t.stl->t.sc (k0+u)->k0+u+2 * t.wt<=800000->0<=nd->nd+t.wt<=3000->1<=d->d+t.dp<=121->∃f,AV f s nd 0 (t.val u) u d=some (t,s,nd+t.wt,0):=by
 intro m
 induction m with
 | zero=>intro t u nd d h;omega
 | succ m ih =>
  intro t u nd d hw hst hsc hb hnd hnw hd hdd;obtain ⟨op,n,ks⟩:=t;rw [Tm.stl] at hst;rw [Tm.sc] at hsc;simp only [Tm.wt] at hw hb hnw;simp only [Tm.dp] at hdd;have har:=RA hsc.1;by_cases h1o:op=1
  ·subst h1o;rw [if_pos rfl] at hsc;have hks:ks=[]:=Aja (Ajn hsc.1.symm);subst hks;refine ⟨5,?_⟩;rw [Tm.val,if_pos rfl,AV];rw [show (RV.var ((u:Int) - 1 - n)).n=(u:Int) - 1 - n from rfl,show (RV.var ((u:Int) - 1 - n)).k=[] from rfl,show (RV.var ((u:Int) - 1 - n)).op=1 from rfl,Ajh]
   rw [if_neg (by omega)];have hc:(if (0:Int)=0/\(3000<nd+1\/120<d) then (5:Int) else 0)=0:=if_neg (by simp only [Tm.wtL] at hnw;omega);rw [hc,if_neg (by simp),if_pos rfl];simp only [AiZ,Ai0,Tm.mk.injEq,Tm.wt,Tm.wtL,true_and,and_true];omega
  ·rw [if_neg h1o] at hsc;have hnum:=aW hsc.2.1;obtain ⟨f,hf⟩:=Mq (s:=s) (u:=u) (d:=d+1) op ks 0 (nd+1) (by omega) (by omega) (fun j t a nd b c=>by
    have hwt:=IL a;have hdt:=Pq a;have hsk:=GT hsc.2.2 a;have hbn:=AW op j;rw [Ajy] at hsk ⊢;have hstl:=Kb hst.2 (Aje a);obtain ⟨f1,hf1⟩:=ih t (u+Ak op j) nd (d+1) (by omega) hstl (by rw [<- Nat.add_assoc];exact hsk) (by omega) b c (by omega) (by omega);obtain ⟨f2,hf2⟩:=H3 h0 h1 k0 (t.wt+1) t (u+Ak op j) (by omega) hstl (by rw [<- Nat.add_assoc];exact hsk) (by omega);refine ⟨f1+f2,fun _=>Cc (by omega) hf2,?_⟩
    have:=DZ (show f1<=f1+f2 by omega) hf1
    rw [show ((u+Ak op j:Nat):Int)=(u:Int)+(Ak op j:Int) by omega] at this
    exact this) (by omega)
   refine ⟨f+10+1,?_⟩;rw [Tm.val,if_neg h1o,AV];rw [show (RV.node op n (Tm.valL op 0 ks u)).n=n from rfl,show (RV.node op n (Tm.valL op 0 ks u)).k=Tm.valL op 0 ks u from rfl,show (RV.node op n (Tm.valL op 0 ks u)).op=op from rfl]
   rw [if_neg (by rw [Sp];omega)];have hc:(if (0:Int)=0/\(3000<nd+1\/120<d) then (5:Int) else 0)=0:=if_neg (by omega);rw [hc,if_neg (by simp),if_neg h1o];rw [Ej (f:=f) (g:=f+10) (by omega) (rd:=fun s nd e k u=>AV f s nd e k u (d+1)) (rd':=fun s nd e k u=>AV (f+10) s nd e k u (d+1)) (fun s nd e k u r h=>DZ (by omega) h) op u _ _ _ _ _ _ hf];simp only [Ai2,AiZ,Ai0,Tm.wt,true_and,and_true];omega
theorem FX {t:Tm} {k:Nat} (hst:t.stl) (hsc:t.sc k) (hk:k<=700000) (hw:t.wt<=3000) (hd:t.dp<=120):∃f,AF f t=some (t,0):=by
 obtain ⟨f1,h1⟩:=H3 (s:=0) (by omega) (by omega) k (t.wt+1) t 0 (by omega) hst (by simpa using hsc) (by omega);obtain ⟨f2,h2⟩:=X6 (s:=0) (by omega) (by omega) k (t.wt+1) t 0 0 1 (by omega) hst (by simpa using hsc) (by omega) (by omega) (by omega) (by omega) (by omega);refine ⟨f1+f2,?_⟩;have e0:E6 0 0=[]:=rfl;rw [e0] at h1
 have:=DZ (show f2<=f1+f2 by omega) h2
 rw [AF,Cc (show f1<=f1+f2 by omega) h1]
 simp only;rw [show ((0:Nat):Int)=0 from rfl] at this
 rw [this];simp
theorem Ma {f g:Nat} (hfg:f<=g) {t:Tm} {r:Tm×Int} (h:AF f t=some r):AF g t=some r:=by
 rw [AF] at h ⊢;split at h
 ·cases h
 rename_i v s e he;rw [Cc hfg he];split at h
 ·cases h
 rename_i w s2 nd2 e2 hr;rw [<- h];simp only;rw [DZ hfg hr]
theorem Cy {f g:Nat} {t:Tm} {r r':Tm×Int} (h:AF f t=some r) (h':AF g t=some r'):r=r':=by
 have h1:=Ma (show f<=f+g by omega) h
 have h2:=Ma (show g<=f+g by omega) h'
 rw [h1] at h2;exact Ajn h2
mutual
def Tm.vb:Tm->Prop
 | .mk op n ks=>(op=1->n<=4000000000000000000)/\Tm.vbL ks
def Tm.vbL:List Tm->Prop
 | []=>True
 | t::l=>t.vb/\Tm.vbL l
end
mutual
theorem Ip:∀(t:Tm) (k:Nat),t.sc k->k+2 * t.wt<=4000000000000000000->t.vb
 | .mk op n ks,k,h,hk=>by
  rw [Tm.sc] at h;rw [Tm.wt] at hk;rw [Tm.vb];refine ⟨fun h1=>?_,scL_vb ks op 0 k h.2.2 (by omega)⟩
  have:=h.2.1
  rw [if_pos h1] at this;omega
theorem scL_vb:∀(l:List Tm) (op:Int) (i k:Nat),Tm.scL op i l k->k+2+2 * Tm.wtL l<=4000000000000000000->Tm.vbL l
 | [],_,_,_,_,_=>by rw [Tm.vbL];trivial
 | t::l,op,i,k,h,hk=>by
  rw [Tm.scL] at h;simp only [Tm.wtL] at hk
  have:=AW op i
  rw [Tm.vbL];exact ⟨Ip t _ h.1 (by omega),scL_vb l op (i+1) k h.2 (by omega)⟩
end
def xD (d:Nat) (env env':List RV):Int:=(d+(env'.length - env.length):Nat)
inductive ShR (d c:Nat):RV->RV->Prop
 | neg (n:Int) (h:n < -(c:Int)):ShR d c (.var n) (.var (n - d))
 | pos (n:Int) (h:-(c:Int)<=n):ShR d c (.var n) (.var n)
 | node (op n:Int) (k k':List RV) (h1:op≠1) (hl:k'.length=k.length)
   (hk:∀(i:Nat) v v',Ak op i=0->k[i]?=some v->k'[i]?=some v'->ShR d c v v')
   (hc:∀(i:Nat) (v v':RV),0<Ak op i->k[i]?=some v->k'[i]?=some v'->v'.b=v.b.shift (xD d v.env v'.env) (v.env.length+Ak op i+c:Nat)/\(v.env.length<=v'.env.length/\(c=0\/v'.env.length=v.env.length))/\v.b.vb)
   (he:∀(i:Nat) (v v':RV) (j:Nat) x x',0<Ak op i->k[i]?=some v->k'[i]?=some v'->v.env[j]?=some x->v'.env[j+(v'.env.length - v.env.length)]?=some x'->ShR d c x x'):ShR d c (.node op n k) (.node op n k')
def PL (d c:Nat) (env env':List RV):Prop:=(env.length<=env'.length/\(c=0\/env'.length=env.length))/\∀(j:Nat) x x',env[j]?=some x->env'[j+(env'.length - env.length)]?=some x'->ShR d c x x'
theorem TM {d:Nat} {env env' l l':List RV} (hl:l'.length=l.length):xD d (env++l) (env'++l')=xD d env env':=by simp only [xD,Ajg];omega
theorem MJ {d c:Nat} {env env' l l':List RV} (h:PL d c env env') (hl:l'.length=l.length) (hx:∀(j:Nat) x x',l[j]?=some x->l'[j]?=some x'->ShR d c x x'):PL d c (env++l) (env'++l'):=by
 have h1:=h.1;refine ⟨by simp only [Ajg];omega,?_⟩;intro j x x' a b;rw [Ajg,Ajg,show env'.length+l'.length - (env.length+l.length)=env'.length - env.length by omega] at b
 by_cases hj:j<env.length
 ·rw [Ai9 hj] at a;rw [Ai9 (by omega)] at b;exact h.2 j x x' a b
 ·rw [Ai8 (by omega)] at a;rw [Ai8 (by omega),show j+(env'.length - env.length) - env'.length=j - env.length by omega] at b
  exact hx _ x x' a b
theorem H0 {d c:Nat} {v v':RV} (h:ShR d c v v'):v'.op=v.op/\(v.op≠1->v'.n=v.n/\v'.k.length=v.k.length/\v=.node v.op v.n v.k/\v'=.node v.op v.n v'.k /\
  (∀(i:Nat) x x',Ak v.op i=0->v.k[i]?=some x->v'.k[i]?=some x'->ShR d c x x') /\
  (∀(i:Nat) (x x':RV),0<Ak v.op i->v.k[i]?=some x->v'.k[i]?=some x'->(x'.b=x.b.shift (xD d x.env x'.env) (x.env.length+Ak v.op i+c:Nat)/\x.b.vb)/\PL d c x.env x'.env)):=by
 cases h with
 | neg n h=>exact ⟨rfl,fun h=>absurd rfl h⟩
 | pos n h=>exact ⟨rfl,fun h=>absurd rfl h⟩
 | node op n k k' h1 hl hk hc he =>refine ⟨rfl,fun _=>⟨rfl,hl,rfl,rfl,hk,fun i x x' a b c=>?_⟩⟩;obtain ⟨q1,q2,q3⟩:=hc i x x' a b c;exact ⟨⟨q1,q3⟩,q2,fun j y y' p q=>he i x x' j y y' a b c p q⟩
theorem MW {d c:Nat} {op n:Int} {k k':List RV} (h1:op≠1) (hl:k'.length=k.length) (hk:∀(i:Nat) v v',Ak op i=0->k[i]?=some v->k'[i]?=some v'->ShR d c v v')
  (hc:∀(i:Nat) (x x':RV),0<Ak op i->k[i]?=some x->k'[i]?=some x'->(x'.b=x.b.shift (xD d x.env x'.env) (x.env.length+Ak op i+c:Nat)/\x.b.vb)/\PL d c x.env x'.env):ShR d c (.node op n k) (.node op n k') :=
 .node op n k k' h1 hl hk (fun i v v' a b c=>⟨(hc i v v' a b c).1.1,(hc i v v' a b c).2.1,(hc i v v' a b c).1.2⟩) (fun i v v' j x x' a b c e f=>(hc i v v' a b c).2.2 j x x' e f)
theorem Cp {l l':List RV} (h:l'.length=l.length) {j:Nat} {x':RV} (hx:l'[j]?=some x'):∃x,l[j]?=some x :=⟨_,Ai6 (by rw [<- h];exact (Ai7.1 hx).1)⟩
theorem Qq {d c:Nat} {env env':List RV} {ev ev':Int->Int->Tm->Option (RV×Int×Int)} (henv:PL d c env env') (op:Int)
  (hev:∀s e t v' s' e',ev' s e (t.shift (xD d env env') (env.length+c:Nat))=some (v',s',e')->t.vb->∃v,ev s e t=some (v,s',e')/\ShR d c v v') :
  ∀(l:List Tm) (i:Nat) (s e:Int) (vs':List RV) (s' e':Int),Bf ev' op env' i (Tm.shiftL op i l (xD d env env') (env.length+c:Nat)) s e=some (vs',s',e')->Tm.vbL l ->
   ∃vs,Bf ev op env i l s e=some (vs,s',e')/\vs'.length=vs.length/\(∀(j:Nat) v v',Ak op (i+j)=0->vs[j]?=some v->vs'[j]?=some v'->ShR d c v v') /\
    (∀(j:Nat) (x x':RV),0<Ak op (i+j)->vs[j]?=some x->vs'[j]?=some x'->(x'.b=x.b.shift (xD d x.env x'.env) (x.env.length+Ak op (i+j)+c:Nat)/\x.b.vb)/\PL d c x.env x'.env)
 | [],i,s,e,vs',s',e',h,hv=>by
  simp only [Tm.shiftL,Bf,AiZ,Ai0] at h;obtain ⟨rfl,rfl,rfl⟩:=h;exact ⟨[],rfl,rfl,fun j v v' _ h=>by simp at h,fun j v v' _ h=>by simp at h⟩
 | t::l,i,s,e,vs',s',e',h,hv=>by
  rw [Tm.vbL] at hv;rw [Tm.shiftL,Bf] at h;by_cases hb:0<Ak op i
  ·rw [if_pos hb] at h;cases hk:Bf ev' op env' (i+1) (Tm.shiftL op (i+1) l (xD d env env') (env.length+c:Nat)) s e with
   | none=>rw [hk] at h;cases h
   | some q =>
    obtain ⟨us',s1,e1⟩:=q;rw [hk] at h;simp only [Ai2,AiZ,Ai0] at h;obtain ⟨rfl,rfl,rfl⟩:=h;obtain ⟨us,q1,q2,q3,q4⟩:=Qq henv op hev l (i+1) s e us' s1 e1 hk hv.2;refine ⟨.clo env t::us,by rw [Bf,if_pos hb,q1];rfl,by simp [q2],?_,?_⟩
    ·intro j v v' h0 a b;cases j with
     | zero=>rw [AjB] at h0;omega
     | succ j =>simp only [Ajc] at a b;exact q3 j v v' (by rw [<- h0];congr 1;omega) a b
    ·intro j x x' h0 a b;cases j with
     | zero =>simp only [Ajb,AiZ] at a b;subst a b;simp only [AjB,RV.clo,RV.b,RV.env];exact ⟨⟨by congr 1;omega,hv.1⟩,henv⟩
     | succ j =>
      simp only [Ajc] at a b
      have:=q4 j x x' (by rw [show i+1+j=i+(j+1) by omega];exact h0) a b
      rw [show i+1+j=i+(j+1) by omega] at this
      exact this
  ·rw [if_neg hb] at h;have hb0:Ak op i=0:=by omega
   rw [hb0] at h;simp only [Int.ofNat_zero,Int.add_zero] at h;split at h
   ·cases h
   rename_i v0' s1 e1 hv0;obtain ⟨v0,p1,p2⟩:=hev s e t v0' s1 e1 (by simpa using hv0) hv.1;cases hk:Bf ev' op env' (i+1) (Tm.shiftL op (i+1) l (xD d env env') (env.length+c:Nat)) s1 e1 with
   | none=>rw [hk] at h;cases h
   | some q =>
    obtain ⟨us',s2,e2⟩:=q;rw [hk] at h;simp only [Ai2,AiZ,Ai0] at h;obtain ⟨rfl,rfl,rfl⟩:=h;obtain ⟨us,q1,q2,q3,q4⟩:=Qq henv op hev l (i+1) s1 e1 us' s2 e2 hk hv.2;refine ⟨v0::us,by rw [Bf,if_neg hb,p1];simp only;rw [q1];rfl,by simp [q2],?_,?_⟩
    ·intro j v v' h0 a b;cases j with
     | zero =>simp only [Ajb,AiZ] at a b;subst a b;exact p2
     | succ j =>simp only [Ajc] at a b;exact q3 j v v' (by rw [<- h0];congr 1;omega) a b
    ·intro j x x' h0 a b;cases j with
     | zero=>rw [AjB] at h0;omega
     | succ j =>
      simp only [Ajc] at a b
      have:=q4 j x x' (by rw [show i+1+j=i+(j+1) by omega];exact h0) a b
      rw [show i+1+j=i+(j+1) by omega] at this
      exact this
theorem Ng {d c f:Nat} {s:Int} {v v' w':RV} {s' e':Int} (hb:Ak v.op 0=0) (hs:ShR d c v v') (hv1:v.op≠1) (i:Nat) (o:Int) (ho1:o≠1) (hbi:Ak o i=0)
  (h:(match v'.k[0]? with
   | none=>none
   | some k0=>if k0.op=o then (if s+1<=1000 then (k0.k[i]?).map fun x=>(x,s+1,(0:Int)) else some (v',s+1,17)) else some (v',s,0))=some (w',s',e')) :
  ∃w,(match v.k[0]? with
   | none=>none
   | some k0=>if k0.op=o then (if s+1<=1000 then (k0.k[i]?).map fun x=>(x,s+1,(0:Int)) else some (v,s+1,17)) else some (v,s,0))=some (w,s',e')/\ShR d c w w':=by
 obtain ⟨_,a2⟩:=H0 hs;obtain ⟨a3,a4,a5,a6,a7,a8⟩:=a2 hv1;cases hk:v'.k[0]? with
 | none=>rw [hk] at h;cases h
 | some k0' =>
  rw [hk] at h;obtain ⟨k0,hk0⟩:=Cp a4 hk;have hr:=a7 0 k0 k0' hb hk0 hk;obtain ⟨b1,b2⟩:=H0 hr;rw [hk0];simp only at h ⊢;rw [b1] at h;by_cases hop:k0.op=o
  ·rw [if_pos hop] at h ⊢;by_cases hq:s+1<=1000
   ·rw [if_pos hq] at h ⊢;obtain ⟨b3,b4,b5,b6,b7,b8⟩:=b2 (by rw [hop];exact ho1);cases hx:k0'.k[i]? with
    | none=>rw [hx] at h;cases h
    | some x' =>rw [hx] at h;simp only [Ai2,AiZ,Ai0] at h;obtain ⟨rfl,rfl,rfl⟩:=h;obtain ⟨x,hx0⟩:=Cp b4 hx;rw [hx0];exact ⟨x,rfl,b7 i x x' (by rw [hop];exact hbi) hx0 hx⟩
   ·rw [if_neg hq] at h ⊢;simp only [AiZ,Ai0] at h;obtain ⟨rfl,rfl,rfl⟩:=h;exact ⟨v,rfl,hs⟩
  ·rw [if_neg hop] at h ⊢;simp only [AiZ,Ai0] at h;obtain ⟨rfl,rfl,rfl⟩:=h;exact ⟨v,rfl,hs⟩
theorem d5 {d c:Nat} {env env':List RV} {m s e s' e':Int} {v':RV} (henv:PL d c env env') (hm:m<(env.length:Int))
  (h:(if m<(env'.length:Int) then (if 0<=m then (env'[((env'.length:Int) - 1 - m).toNat]?).map fun v=>(v,s,e) else none) else if m<=4611686018427387904 then some (RV.var (env'.length - 1 - m),s,e) else none)=some (v',s',e')) :
  ∃v,(if m<(env.length:Int) then (if 0<=m then (env[((env.length:Int) - 1 - m).toNat]?).map fun v=>(v,s,e) else none) else if m<=4611686018427387904 then some (RV.var (env.length - 1 - m),s,e) else none)=some (v,s',e')/\ShR d c v v':=by
 have hle:=henv.1;rw [if_pos (by omega)] at h;rw [if_pos hm];split at h
 ·rename_i h0;rw [if_pos h0];cases hx:env'[((env'.length:Int) - 1 - m).toNat]? with
  | none=>rw [hx] at h;cases h
  | some x' =>rw [hx] at h;simp only [Ai2,AiZ,Ai0] at h;obtain ⟨rfl,rfl,rfl⟩:=h;obtain ⟨x,hx0⟩:∃x,env[((env.length:Int) - 1 - m).toNat]?=some x:=⟨_,Ai6 (by omega)⟩;rw [hx0];exact ⟨x,rfl,henv.2 _ x x' hx0 (by rw [show ((env.length:Int) - 1 - m).toNat+(env'.length - env.length)=((env'.length:Int) - 1 - m).toNat by omega];exact hx)⟩
 ·cases h
theorem WC (d c:Nat) (hd:d<=1000000):∀f,(∀s e t env env' v' s' e',AD f s e (t.shift (xD d env env') (env.length+c:Nat)) env'=some (v',s',e')->t.vb->PL d c env env'->∃v,AD f s e t env=some (v,s',e')/\ShR d c v v') /\
  (∀s e v v' w' s' e',headR f s e v'=some (w',s',e')->ShR d c v v'->v.op≠1->∃w,headR f s e v=some (w,s',e')/\ShR d c w w'):=by
 intro f
 induction f with
 | zero=>exact ⟨(by intro s e t env env' v' s' e' h;rw [AD] at h;cases h),(by intro s e v v' w' s' e' h;rw [headR] at h;cases h)⟩
 | succ f ih =>
  refine ⟨?_,?_⟩
  ·intro s e t env env' v' s' e' h hvb henv;obtain ⟨op,m,ks⟩:=t;rw [Tm.vb] at hvb;rw [Tm.shift] at h;obtain ⟨m',hm'⟩:∃m':Int,m'=(if op=1/\((env.length+c:Nat):Int)<=m then BC (m+xD d env env') else m):=⟨_,rfl⟩;have hxD:xD d env env'=(d:Int)+(env'.length - env.length:Nat):=by rw [xD];omega
   have hle:=henv.1;rw [<- hm',AD] at h;rw [AD];by_cases he:e≠0
   ·rw [if_pos he] at h ⊢;simp only [AiZ,Ai0] at h;obtain ⟨rfl,rfl,rfl⟩:=h;exact ⟨_,rfl,MW (by decide) rfl (fun i v v' _ h=>by simp at h) (fun i v v' _ h=>by simp at h)⟩
   rw [if_neg he] at h ⊢;by_cases hl:900000<env'.length
   ·rw [if_pos hl] at h;cases h
   rw [if_neg hl] at h;rw [if_neg (show ¬ 900000<env.length by omega)]
   by_cases h1:op=1
   ·rw [if_pos h1] at h ⊢;by_cases hm:((env.length+c:Nat):Int)<=m
    ·have hw:BC (m+xD d env env')=m+xD d env env':=by rw [Ax (by omega) (by have:=hvb.1 h1;omega)]
     rw [if_pos ⟨h1,hm⟩,hw] at hm';rw [if_neg (by omega)] at h;rw [if_neg (by omega)];split at h
     ·simp only [AiZ,Ai0] at h;obtain ⟨rfl,rfl,rfl⟩:=h;rw [if_pos (by omega),hm'];refine ⟨_,rfl,?_⟩
      have:=ShR.neg (d:=d) (c:=c) ((env.length:Int) - 1 - m) (by omega)
      rw [show (env.length:Int) - 1 - m - d=(env'.length:Int) - 1 - (m+xD d env env') by omega] at this
      exact this
     ·cases h
    ·rw [if_neg (fun h=>hm h.2)] at hm';rw [hm'] at h;by_cases hbd:m<(env.length:Int)
     ·exact d5 henv hbd h
     rw [if_neg (by omega)] at h;rw [if_neg hbd];split at h
     ·rename_i h0;rw [if_pos h0];simp only [AiZ,Ai0] at h;obtain ⟨rfl,rfl,rfl⟩:=h;refine ⟨_,rfl,?_⟩;rw [show env'.length=env.length by omega]
      exact .pos _ (by omega)
     ·cases h
   ·rw [if_neg h1] at h ⊢;rw [if_neg (fun h=>h1 h.1)] at hm';rw [hm'] at h;rw [Er] at h;split at h
    ·cases h
    rename_i h2;rw [if_neg h2];split at h
    ·cases h
    rename_i h3;rw [if_neg h3];split at h
    ·cases h
    rename_i vs' s1 e1 hk;obtain ⟨vs,q1,q2,q3,q4⟩:=Qq (ev:=fun s e t=>AD f s e t env) henv op (fun s e t v' s' e' a b=>ih.1 s e t env env' v' s' e' a b henv) ks 0 s e vs' s1 e1 hk hvb.2;rw [q1];simp only;simp only [Ajy] at q3 q4;exact ih.2 _ _ _ _ _ _ _ h (MW h1 q2 q3 q4) h1
  ·intro s e v v' w' s' e' h hs hv1;obtain ⟨a1,a2⟩:=H0 hs;obtain ⟨a3,a4,a5,a6,a7,a8⟩:=a2 hv1;rw [headR] at h ⊢;rw [a1] at h;by_cases he:e≠0
   ·rw [if_pos he] at h ⊢;simp only [AiZ,Ai0] at h;obtain ⟨rfl,rfl,rfl⟩:=h;exact ⟨v,rfl,hs⟩
   rw [if_neg he] at h ⊢;have he0:e=0:=by omega
   subst he0;split at h
   ·cases h
   rename_i hsb;rw [if_neg hsb];by_cases h5:v.op=5
   ·rw [if_pos h5] at h ⊢;cases hk:v'.k[0]? with
    | none=>rw [hk] at h;cases h
    | some k0' =>
     rw [hk] at h;obtain ⟨k0,hk0⟩:=Cp a4 hk;have hr:=a7 0 k0 k0' (by rw [h5];rfl) hk0 hk;obtain ⟨b1,b2⟩:=H0 hr;rw [hk0];simp only at h ⊢;rw [b1] at h;by_cases hop:k0.op=4
     ·rw [if_pos hop] at h ⊢;by_cases hq:s+1<=1000
      ·rw [if_pos hq] at h ⊢;obtain ⟨b3,b4,b5,b6,b7,b8⟩:=b2 (by rw [hop];decide);cases hc:k0'.k[1]? with
       | none=>rw [hc] at h;cases h
       | some c' =>
       cases hx:v'.k[1]? with
       | none=>rw [hc,hx] at h;cases h
       | some x' =>
        rw [hc,hx] at h;obtain ⟨c,hc0⟩:=Cp b4 hc;obtain ⟨x,hx0⟩:=Cp a4 hx;have hxr:=a7 1 x x' (by rw [h5];rfl) hx0 hx;obtain ⟨⟨c1,c2⟩,c3⟩:=b8 1 c c' (by rw [hop];decide) hc0 hc;rw [hc0,hx0];simp only at h ⊢;split at h
        ·cases h
        rename_i hcl;rw [if_neg (by have:=c3.1.1;omega)];rw [hop,show Ak 4 1=1 from rfl] at c1
        rw [c1] at h;have henv:=MJ (l:=[x]) (l':=[x']) c3 rfl (fun j y y' a b=>by
         cases j with
         | zero =>simp only [Ajb,AiZ] at a b;subst a b;exact hxr
         | succ j=>simp at a)
        exact ih.1 _ _ c.b (c.env++[x]) _ _ _ _ (by rw [TM (l:=[x]) (l':=[x']) rfl,Ajg];exact h) c2 henv
      ·rw [if_neg hq] at h ⊢;simp only [AiZ,Ai0] at h;obtain ⟨rfl,rfl,rfl⟩:=h;exact ⟨v,rfl,hs⟩
     ·rw [if_neg hop] at h ⊢;simp only [AiZ,Ai0] at h;obtain ⟨rfl,rfl,rfl⟩:=h;exact ⟨v,rfl,hs⟩
   rw [if_neg h5] at h ⊢;by_cases h89:v.op=8\/v.op=9
   ·rw [if_pos h89] at h ⊢;exact Ng (f:=f) (by rcases h89 with h | h<;>rw [h]<;>rfl) hs hv1 (1+v.op - 8).toNat 7 (by decide) (by simp [Ak]) h
   rw [if_neg h89] at h ⊢;by_cases h30:v.op=30
   ·rw [if_pos h30] at h ⊢;exact Ng (f:=f) (by rw [h30];rfl) hs hv1 0 19 (by decide) rfl h
   rw [if_neg h30] at h ⊢;by_cases h19:v.op=19
   ·rw [if_pos h19] at h ⊢;exact Ng (f:=f) (by rw [h19];rfl) hs hv1 0 30 (by decide) rfl h
   rw [if_neg h19] at h ⊢;by_cases h13:v.op=13
   ·rw [if_pos h13] at h ⊢;cases hk0:v'.k[0]? with
    | none=>rw [hk0] at h;cases h
    | some k0' =>
    cases hk1:v'.k[1]? with
    | none=>rw [hk0,hk1] at h;cases h
    | some k1' =>
    cases hk2:v'.k[2]? with
    | none=>rw [hk0,hk1,hk2] at h;cases h
    | some k2' =>
    cases hk3:v'.k[3]? with
    | none=>rw [hk0,hk1,hk2,hk3] at h;cases h
    | some k3' =>
     rw [hk0,hk1,hk2,hk3] at h;obtain ⟨k0,g0⟩:=Cp a4 hk0;obtain ⟨k1,g1⟩:=Cp a4 hk1;obtain ⟨k2,g2⟩:=Cp a4 hk2;obtain ⟨k3,g3⟩:=Cp a4 hk3;rw [g0,g1,g2,g3];simp only at h ⊢;have r1:=a7 1 k1 k1' (by rw [h13];rfl) g1 hk1;have r3:=a7 3 k3 k3' (by rw [h13];rfl) g3 hk3;obtain ⟨b1,b2⟩:=H0 r3;rw [b1] at h;split at h
     ·rename_i h11;rw [if_pos h11];split at h
      ·rename_i hq;rw [if_pos hq];simp only [AiZ,Ai0] at h;obtain ⟨rfl,rfl,rfl⟩:=h;exact ⟨k1,rfl,r1⟩
      ·rename_i hq;rw [if_neg hq];simp only [AiZ,Ai0] at h;obtain ⟨rfl,rfl,rfl⟩:=h;exact ⟨v,rfl,hs⟩
     ·rename_i h11;rw [if_neg h11];split at h
      ·rename_i h12;rw [if_pos h12];split at h
       ·rename_i hq;rw [if_pos hq];obtain ⟨b3,b4,b5,b6,b7,b8⟩:=b2 (by rw [h12];decide);cases hx:k3'.k[0]? with
        | none=>rw [hx] at h;cases h
        | some x' =>
         rw [hx] at h;obtain ⟨x,hx0⟩:=Cp b4 hx;have rx:=b7 0 x x' (by rw [h12];rfl) hx0 hx;rw [hx0];simp only at h ⊢;split at h
         ·cases h
         rename_i w2' s5 e5 hw;obtain ⟨⟨c1,c2⟩,c3⟩:=a8 2 k2 k2' (by rw [h13];decide) g2 hk2;have c0:=a8 0 k0 k0' (by rw [h13];decide) g0 hk0;rw [h13] at c0 c1;have hn:ShR d c (.node 13 0 [k0,k1,k2,x]) (.node 13 0 [k0',k1',k2',x']):=by
          refine MW (by decide) rfl ?_ ?_
          ·intro i y y' hb a b
           match i with
           | 0=>exact absurd hb (by decide)
           | 1=>simp at a b;subst a b;exact r1
           | 2=>exact absurd hb (by decide)
           | 3=>simp at a b;subst a b;exact rx
           | i+4=>simp at a
          ·intro i y y' hb a b
           match i with
           | 0=>simp at a b;subst a b;exact c0
           | 1=>exact absurd hb (by decide)
           | 2=>simp at a b;subst a b;exact ⟨⟨c1,c2⟩,c3⟩
           | 3=>exact absurd hb (by decide)
           | i+4=>simp at a
         obtain ⟨w2,p1,p2⟩:=ih.2 _ _ _ _ _ _ _ hw hn (by simp [RV.node,RV.op]);rw [p1];simp only;split at h
         ·cases h
         rename_i hcl;rw [if_neg (by have:=c3.1.1;omega)];rw [c1] at h;have henv:=MJ (l:=[x,w2]) (l':=[x',w2']) c3 rfl (fun j y y' a b=>by
          match j with
          | 0=>simp at a b;subst a b;exact rx
          | 1=>simp at a b;subst a b;exact p2
          | j+2=>simp at a)
         exact ih.1 _ _ k2.b (k2.env++[x,w2]) _ _ _ _ (by rw [TM (l:=[x,w2]) (l':=[x',w2']) rfl,Ajg];exact h) c2 henv
       ·rename_i hq;rw [if_neg hq];simp only [AiZ,Ai0] at h;obtain ⟨rfl,rfl,rfl⟩:=h;exact ⟨v,rfl,hs⟩
      ·rename_i h12;rw [if_neg h12];simp only [AiZ,Ai0] at h;obtain ⟨rfl,rfl,rfl⟩:=h;exact ⟨v,rfl,hs⟩
   rw [if_neg h13] at h ⊢;simp only [AiZ,Ai0] at h;obtain ⟨rfl,rfl,rfl⟩:=h;exact ⟨v,rfl,hs⟩
theorem RB {d c f:Nat} (hd:d<=1000000) {rd:Int->Int->Int->RV->Int->Option (Tm×Int×Int×Int)} {u:Nat}
  (hrd:∀s nd e v v' (u:Nat) t' s' nd' e',rd s nd e v' u=some (t',s',nd',e')->ShR d c v v'->∃t,rd s nd e v u=some (t,s',nd',e')/\t'=t.shift d (u+c:Nat)) (op:Int) :
  ∀(l l':List RV) (i:Nat) (s nd e:Int) (ts':List Tm) (s' nd' e':Int),Bl rd f op u i l' s nd e=some (ts',s',nd',e')->l'.length=l.length ->
   (∀(j:Nat) v v',Ak op (i+j)=0->l[j]?=some v->l'[j]?=some v'->ShR d c v v') ->
   (∀(j:Nat) (x x':RV),0<Ak op (i+j)->l[j]?=some x->l'[j]?=some x'->(x'.b=x.b.shift (xD d x.env x'.env) (x.env.length+Ak op (i+j)+c:Nat)/\x.b.vb)/\PL d c x.env x'.env) ->
   ∃ts,Bl rd f op u i l s nd e=some (ts,s',nd',e')/\ts'=Tm.shiftL op i ts d (u+c:Nat)
 | [],[],i,s,nd,e,ts',s',nd',e',h,_,_,_=>by
  simp only [Bl,AiZ,Ai0] at h;obtain ⟨rfl,rfl,rfl,rfl⟩:=h;exact ⟨[],rfl,rfl⟩
 | k::l,k'::l',i,s,nd,e,ts',s',nd',e',h,hl,hk,hc=>by
  simp only [Bl] at h ⊢;split at h
  ·cases h
  rename_i y' s1 e1 hy;split at h
  ·cases h
  rename_i t' s2 nd2 e2 ht;have hkey:∃y,(if 0<Ak op i then (if 900000<k.env.length then none else AD f s e k.b (k.env++E6 u (Ak op i))) else some (k,s,e))=some (y,s1,e1)/\ShR d c y y':=by
   by_cases hb:0<Ak op i
   ·rw [if_pos hb] at hy ⊢;obtain ⟨⟨c1,c2⟩,c3⟩:=hc 0 k k' (by rw [AjB];exact hb) rfl rfl;split at hy
    ·cases hy
    rename_i hcl;rw [if_neg (by have:=c3.1.1;omega)];rw [c1,AjB] at hy;have henv:=MJ (l:=E6 u (Ak op i)) (l':=E6 u (Ak op i)) c3 rfl (fun j y y' a b=>by
     have hj:j<Ak op i:=by
      have:=(Ai7.1 a).1
      rw [CC] at this;exact this
     rw [O0 _ _ _ hj,AiZ] at a b;subst a b;exact .pos _ (by omega))
    exact (WC d c hd f).1 _ _ k.b (k.env++E6 u (Ak op i)) _ _ _ _ (by rw [TM rfl,Ajg,CC];exact hy) c2 henv
   ·rw [if_neg hb] at hy ⊢;simp only [AiZ,Ai0] at hy;obtain ⟨rfl,rfl,rfl⟩:=hy;exact ⟨k,rfl,hk 0 k k' (by rw [AjB];omega) rfl rfl⟩
  obtain ⟨y,p1,p2⟩:=hkey;rw [p1];simp only;obtain ⟨t,q1,q2⟩:=hrd _ _ _ y y' (u+Ak op i) t' s2 nd2 e2 (by rw [show ((u+Ak op i:Nat):Int)=(u:Int)+(Ak op i:Int) by omega];exact ht) p2
  rw [show ((u+Ak op i:Nat):Int)=(u:Int)+(Ak op i:Int) by omega] at q1
  rw [q1];simp only;cases hr:Bl rd f op u (i+1) l' s2 nd2 e2 with
  | none=>rw [hr] at h;cases h
  | some q =>
   obtain ⟨us',s3,nd3,e3⟩:=q;rw [hr] at h;simp only [Ai2,AiZ,Ai0] at h;obtain ⟨rfl,rfl,rfl,rfl⟩:=h;obtain ⟨us,r1,r2⟩:=RB hd hrd op l l' (i+1) s2 nd2 e2 us' s3 nd3 e3 hr (by simpa using hl) (fun j v v' a b c=>hk (j+1) v v' (by rw [<- a];congr 1;omega) (by simpa using b) (by simpa using c)) (fun j x x' a b c=>by
    have:=hc (j+1) x x' (by rw [show i+(j+1)=i+1+j by omega];exact a) (by simpa using b) (by simpa using c)
    rw [show i+(j+1)=i+1+j by omega] at this
    exact this)
   rw [r1];refine ⟨t::us,rfl,?_⟩;rw [Tm.shiftL,r2,q2];rw [show ((u+Ak op i+c:Nat):Int)=((u+c:Nat):Int)+(Ak op i:Int) by omega]
 | [],_::_,_,_,_,_,_,_,_,_,_,hl,_,_=>by simp at hl
 | _::_,[],_,_,_,_,_,_,_,_,_,hl,_,_=>by simp at hl
theorem kB (d c:Nat) (hd:d<=1000000):∀f s nd e v v' (u:Nat) dd t' s' nd' e',AV f s nd e v' u dd=some (t',s',nd',e')->ShR d c v v'->∃t,AV f s nd e v u dd=some (t,s',nd',e')/\t'=t.shift d (u+c:Nat):=by
 intro f
 induction f with
 | zero=>intro s nd e v v' u dd t' s' nd' e' h;rw [AV] at h;cases h
 | succ f ih =>
  intro s nd e v v' u dd t' s' nd' e' h hs;rw [AV] at h ⊢;by_cases h1:v.op=1
  ·obtain ⟨n,n',rfl,rfl,hn⟩:∃n n':Int,v=.var n/\v'=.var n'/\(n < -(c:Int)/\n'=n - d∨-(c:Int)<=n/\n'=n):=by
    cases hs with
    | neg n hn=>exact ⟨n,_,rfl,rfl,.inl ⟨hn,rfl⟩⟩
    | pos n hn=>exact ⟨n,n,rfl,rfl,.inr ⟨hn,rfl⟩⟩
    | node op n k k' h1'=>exact absurd h1 h1'
   rw [show (RV.var n').n=n' from rfl,show (RV.var n').k=[] from rfl,show (RV.var n').op=1 from rfl,Ajh] at h
   rw [show (RV.var n).n=n from rfl,show (RV.var n).k=[] from rfl,show (RV.var n).op=1 from rfl,Ajh]
   by_cases hb:nd<0\/1000000<nd\/(u:Int)<0\/1000000<(u:Int)\/dd<0\/1000000<dd\/n' < -2305843009213693952\/2305843009213693952<n'\/f<=0\/900000<0\/f<=3
   ·rw [if_pos hb] at h;cases h
   rw [if_neg hb] at h;rw [if_neg (by omega)];by_cases hne:(if e=0/\(3000<nd+1\/120<dd) then (5:Int) else e)≠0
   ·rw [if_pos hne] at h ⊢;simp only [AiZ,Ai0] at h;obtain ⟨rfl,rfl,rfl,rfl⟩:=h;exact ⟨_,rfl,rfl⟩
   ·rw [if_neg hne,if_pos rfl] at h ⊢;simp only [AiZ,Ai0] at h;obtain ⟨rfl,rfl,rfl,rfl⟩:=h;refine ⟨_,rfl,?_⟩;rw [Tm.shift,Tm.shiftL];rcases hn with ⟨hn,rfl⟩ | ⟨hn,rfl⟩
    ·rw [if_pos ⟨rfl,by omega⟩,Ax (by omega) (by omega)];congr 1;omega
    ·rw [if_neg (by omega)]
  obtain ⟨a1,a2⟩:=H0 hs;rw [a1] at h;split at h
  ·cases h
  rename_i hbad
  ·obtain ⟨a3,a4,a5,a6,a7,a8⟩:=a2 h1
   first | rw [if_neg h1] at h | skip
   rw [if_neg h1];rw [a3,a4] at hbad;rw [a3] at h;rw [if_neg hbad];by_cases hne:(if e=0/\(3000<nd+1\/120<dd) then (5:Int) else e)≠0
   ·rw [if_pos hne] at h ⊢;simp only [AiZ,Ai0] at h;obtain ⟨rfl,rfl,rfl,rfl⟩:=h;exact ⟨_,rfl,rfl⟩
   ·rw [if_neg hne] at h ⊢;cases hr:Bl (fun s nd e k u=>AV f s nd e k u (dd+1)) f v.op u 0 v'.k s (nd+1) 0 with
    | none=>rw [hr] at h;cases h
    | some q =>
     obtain ⟨us',s3,nd3,e3⟩:=q;rw [hr] at h;simp only [Ai2,AiZ,Ai0] at h;obtain ⟨rfl,rfl,rfl,rfl⟩:=h;obtain ⟨us,r1,r2⟩:=RB hd (rd:=fun s nd e k u=>AV f s nd e k u (dd+1)) (fun s nd e v v' u t' s' nd' e' a b=>ih s nd e v v' u (dd+1) t' s' nd' e' a b) v.op v.k v'.k 0 s (nd+1) 0 us' s3 nd3 e3 hr a4 (fun j x x' a b c=>a7 j x x' (by rw [<- a];congr 1;omega) b c) (fun j x x' a b c=>by
      rw [Ajy] at a ⊢;exact a8 j x x' a b c)
     rw [r1];refine ⟨_,rfl,?_⟩;rw [Tm.shift,if_neg (fun h=>h1 h.1),r2]
theorem LY {d c:Nat} (hd:d<=1000000) {f:Nat} {t u':Tm} {e':Int} (h:AF f (t.shift d c)=some (u',e')) (hvb:t.vb):∃u,AF f t=some (u,e')/\u'=u.shift d c:=by
 rw [AF] at h ⊢;split at h
 ·cases h
 rename_i v' s e he;obtain ⟨v,p1,p2⟩:=(WC d c hd f).1 0 0 t [] [] v' s e (by simpa [xD] using he) hvb ⟨⟨AjA _,.inr rfl⟩,fun j x x' a=>by simp at a⟩;rw [p1];simp only;split at h
 ·cases h
 rename_i w' s2 nd2 e2 hr;obtain ⟨w,q1,q2⟩:=kB d c hd f s 0 e v v' 0 1 w' s2 nd2 e2 (by simpa using hr) p2;rw [show ((0:Nat):Int)=0 from rfl] at q1
 rw [Ajy] at q2;rw [q1];simp only [AiZ] at h ⊢;by_cases h2:e2≠0
 ·rw [if_pos h2] at h ⊢;simp only [Ai0] at h;obtain ⟨rfl,rfl⟩:=h;exact ⟨_,rfl,rfl⟩
 ·rw [if_neg h2] at h ⊢;simp only [Ai0] at h;obtain ⟨rfl,rfl⟩:=h;exact ⟨_,rfl,q2⟩
theorem OL {d:Nat} (hd:d<=1000000) {f:Nat} {t u':Tm} {e':Int} (h:AF f (t.shift d 0)=some (u',e')) (hvb:t.vb):∃u,AF f t=some (u,e')/\u'=u.shift d 0:=LY (c:=0) hd h hvb
def Hit (g:AR) (st:Int) (a:Tm) (i:Nat):Prop:=i<g.length/\∃T f w,g[g.length - 1 - i]?=some (st,T)/\AF f (T.shift ((i+1:Nat):Int) 0)=some (w,0)/\w.eta=a.eta
inductive Gr:Nat->Nat->AR->Tm->Tm->Prop
 | tnat (e:Nat) (g:AR) (a:Tm):Gr 0 e g a (.mk 10 0 [])
 | tty (e:Nat) (g:AR) (a:Tm):Gr 0 e g a (.mk 14 0 [])
 | tu (e:Nat) (g:AR) (a:Tm):Gr 0 e g a (.mk 2 0 [])
 | tlp (e:Nat) (g:AR) (a r:Tm):Gr 0 e g a (.mk 18 0 [r.plainT 1])
 | tpi (e:Nat) (g:AR) (a x y:Tm) (op:Int) (ho:op=3\/op=6) (h6:6<=e) (hgl:g.length<=60) (hx:AOk g.length x) (h1:Gr 0 (e - 1) g .z x) (h2:Gr 0 (e - 1) (g++[(1,x)]) .z y):Gr 0 e g a (.mk op 0 [x,y])
 | tlift (e:Nat) (g:AR) (a t:Tm) (h6:6<=e) (h1:Gr 1 (e - 1) g (.mk 14 0 []) t):Gr 0 e g a (.mk 18 0 [t])
 | grow (e:Nat) (g:AR) (a0 a t:Tm) (f:Nat) (hn:AF f a0=some (a,0)) (hg:g.length<=60) (ha:NOk g.length a) (h1:Gr 3 e g a t):Gr 1 e g a0 t
 | objc (e:Nat) (g:AR) (a0 a t:Tm) (f:Nat) (hn:AF f a0=some (a,0)) (hg:g.length<=60) (ha:NOk g.length a) (h1:Gr 4 e g a t):Gr 2 e g a0 t
 | var1 (e:Nat) (g:AR) (a:Tm) (i:Nat) (h:Hit g 1 a i):Gr 3 e g a (.mk 1 i [])
 | var0 (e:Nat) (g:AR) (a:Tm) (i:Nat) (h:Hit g 0 a i):Gr 4 e g a (.mk 1 i [])
 | fst (e:Nat) (g:AR) (a b c x:Tm) (h6:6<=e) (hb:AOk g.length b) (h1:Gr 0 6 g .z b) (h2:Gr 1 (e - 2) g b x) (h3:Gr 1 (e - 2) g a c):Gr 3 e g a (.mk 8 0 [.mk 7 0 [.mk 6 0 [a,b.shift 1 0],c,x]])
 | app (e:Nat) (g:AR) (a b c x:Tm) (h6:6<=e) (hb:AOk g.length b) (h1:Gr 0 6 g .z b) (h2:Gr 1 (e - 2) g b x) (h3:Gr 1 (e - 2) (g++[(1,b)]) (a.shift 1 0) c):Gr 3 e g a (.mk 5 0 [.mk 4 0 [b,c],x])
 | recc (e:Nat) (g:AR) (a n z s:Tm) (h6:6<=e) (ha:a.op=10\/a.op=14) (h1:Gr 1 (e - 2) g (.mk 10 0 []) n) (h2:Gr 1 (e - 2) g a z) (h3:Gr 1 (e - 2) (g++[(1,.mk 10 0 [])]++[(1,a.shift 1 0)]) (a.shift 2 0) s):Gr 3 e g a (.mk 13 0 [a.shift 1 0,z,s,n])
 | suc (e:Nat) (g:AR) (a n:Tm) (h6:6<=e) (ha:a.op=10) (h1:Gr 1 (e - 1) g a n):Gr 3 e g a (.mk 12 0 [n])
 | num (e:Nat) (g:AR) (a:Tm) (j:Nat) (ha:a.op=10) (hj:j<=3):Gr 3 e g a (GF j)
 | tint (e:Nat) (g:AR) (a:Tm) (ha:a.op=14):Gr 3 e g a (.mk 15 0 [])
 | tfun (e:Nat) (g:AR) (a x y:Tm) (op:Int) (ho:op=16\/op=17) (h6:6<=e) (ha:a.op=14) (h1:Gr 1 (e - 1) g a x) (h2:Gr 1 (e - 1) g a y):Gr 3 e g a (.mk op 0 [x,y])
 | uni (e:Nat) (g:AR) (a:Tm) (n:Int) (ha:a.op=2) (hp:0<a.n):Gr 3 e g a (.mk 2 n [])
 | unat (e:Nat) (g:AR) (a:Tm) (ha:a.op=2):Gr 3 e g a (.mk 10 0 [])
 | uty (e:Nat) (g:AR) (a:Tm) (ha:a.op=2):Gr 3 e g a (.mk 14 0 [])
 | ult (e:Nat) (g:AR) (a:Tm) (ha:a.op=2):Gr 3 e g a (.mk 18 0 [.mk 15 0 []])
 | upi (e:Nat) (g:AR) (a x y:Tm) (op:Int) (ho:op=3\/op=6) (h6:6<=e) (ha:a.op=2) (hx:AOk g.length x) (h1:Gr 1 (e - 1) g a x) (h2:Gr 1 (e - 1) (g++[(1,x)]) a y):Gr 3 e g a (.mk op 0 [x,y])
 | lam (e:Nat) (g:AR) (n:Int) (d c x:Tm) (h1:Gr 1 (e - 1) (g++[(1,d)]) c x):Gr 3 e g (.mk 3 n [d,c]) (.mk 4 0 [d,x])
 | pair (e:Nat) (g:AR) (n:Int) (d c x y:Tm) (hx:AOk g.length x) (h1:Gr 1 (e - 1) g d x) (h2:Gr 1 (e - 1) g (c.subst 0 0 x) y):Gr 3 e g (.mk 6 n [d,c]) (.mk 7 0 [.mk 6 n [d,c],x,y])
 | quo (e:Nat) (g:AR) (n:Int) (d x:Tm) (h1:Gr 2 (e - 1) g d x):Gr 3 e g (.mk 18 n [d]) (.mk 19 0 [x])
 | oif (e:Nat) (g:AR) (a c x y:Tm) (h6:6<=e) (h1:Gr 2 (e - 2) g (.mk 15 0 []) c) (h2:Gr 2 (e - 2) g a x) (h3:Gr 2 (e - 2) g a y):Gr 4 e g a (.mk 27 0 [c,x,y])
 | olet (e:Nat) (g:AR) (a r x y:Tm) (h6:6<=e) (h1:Gr 2 (e - 2) g (r.plainT 1) x) (h2:Gr 2 (e - 2) (g++[(0,r.plainT 1)]) (a.shift 1 0) y):Gr 4 e g a (.mk 28 0 [x,y])
 | oapp (e:Nat) (g:AR) (a r x y:Tm) (h6:6<=e) (h1:Gr 2 (e - 2) g (r.plainT 1) x) (h2:Gr 2 (e - 2) (g++[(0,r.plainT 1)]) (a.shift 1 0) y):Gr 4 e g a (.mk 21 0 [.mk 20 0 [r.plainT 1,y],x])
 | ofst (e:Nat) (g:AR) (a x y:Tm) (h6:6<=e) (h1:Gr 2 (e - 2) g a x) (h2:Gr 2 (e - 2) g (.mk 15 0 []) y):Gr 4 e g a (.mk 23 0 [.mk 22 0 [x,y]])
 | ofix (e:Nat) (g:AR) (a x:Tm) (h6:6<=e) (h1:Gr 2 (e - 2) (g++[(0,a)]) (a.shift 1 0) x):Gr 4 e g a (.mk 29 0 [a,x])
 | spl (e:Nat) (g:AR) (a x:Tm) (h6:6<=e) (h1:Gr 1 (e - 1) g (.mk 18 0 [a]) x):Gr 4 e g a (.mk 30 0 [x])
 | oint (e:Nat) (g:AR) (a:Tm) (n:Int) (ha:a.op=15):Gr 4 e g a (.mk 25 n [])
 | oprim (e:Nat) (g:AR) (a p q:Tm) (n:Int) (h6:6<=e) (ha:a.op=15) (h1:Gr 2 (e - 1) g a p) (h2:Gr 2 (e - 1) g a q):Gr 4 e g a (.mk 26 n [p,q])
 | olam (e:Nat) (g:AR) (n:Int) (d c b:Tm) (h1:Gr 2 (e - 1) (g++[(0,d)]) (c.shift 1 0) b):Gr 4 e g (.mk 16 n [d,c]) (.mk 20 0 [d,b])
 | opair (e:Nat) (g:AR) (n:Int) (d c p q:Tm) (h1:Gr 2 (e - 1) g d p) (h2:Gr 2 (e - 1) g c q):Gr 4 e g (.mk 17 n [d,c]) (.mk 22 0 [p,q])
theorem QO:∀k,(GF k).wt=k+1:=by
 intro k
 induction k with
 | zero=>rfl
 | succ k ih=>simp only [GF,Tm.wt,Tm.wtL,ih];omega
def iG (op n:Int) (a:Tm):(Tm.mk op n [a]).dp=1+a.dp:=by simp only [Tm.dp,Tm.dpL];omega
def Ns (op n:Int) (a b:Tm):(Tm.mk op n [a,b]).dp=1+max a.dp b.dp:=by simp only [Tm.dp,Tm.dpL];omega
def dp3 (op n:Int) (a b c:Tm):(Tm.mk op n [a,b,c]).dp=1+max a.dp (max b.dp c.dp):=by simp only [Tm.dp,Tm.dpL];omega
def dp4 (op n:Int) (a b c d:Tm):(Tm.mk op n [a,b,c,d]).dp=1+max a.dp (max b.dp (max c.dp d.dp)):=by simp only [Tm.dp,Tm.dpL];omega
def LF (op n:Int) (a:Tm):(Tm.mk op n [a]).wt=1+a.wt:=by simp only [Tm.wt,Tm.wtL];omega
def Ee (op n:Int) (a b:Tm):(Tm.mk op n [a,b]).wt=1+a.wt+b.wt:=by simp only [Tm.wt,Tm.wtL];omega
def qT (op n:Int) (a b c:Tm):(Tm.mk op n [a,b,c]).wt=1+a.wt+b.wt+c.wt:=by simp only [Tm.wt,Tm.wtL];omega
def wt4 (op n:Int) (a b c d:Tm):(Tm.mk op n [a,b,c,d]).wt=1+a.wt+b.wt+c.wt+d.wt:=by simp only [Tm.wt,Tm.wtL];omega
def Lk {P0 P1 P2 P3 P4:Prop} (h:P0):(0=0->P0)/\(0=1->P1)/\(0=2->P2)/\(0=3->P3)/\(0=4->P4):=⟨fun _=>h,nofun,nofun,nofun,nofun⟩
def AaC {P0 P1 P2 P3 P4:Prop} (h:P1):(1=0->P0)/\(1=1->P1)/\(1=2->P2)/\(1=3->P3)/\(1=4->P4):=⟨nofun,fun _=>h,nofun,nofun,nofun⟩
def Aae {P0 P1 P2 P3 P4:Prop} (h:P2):(2=0->P0)/\(2=1->P1)/\(2=2->P2)/\(2=3->P3)/\(2=4->P4):=⟨nofun,nofun,fun _=>h,nofun,nofun⟩
def Df {P0 P1 P2 P3 P4:Prop} (h:P3):(3=0->P0)/\(3=1->P1)/\(3=2->P2)/\(3=3->P3)/\(3=4->P4):=⟨nofun,nofun,nofun,fun _=>h,nofun⟩
def FI {P0 P1 P2 P3 P4:Prop} (h:P4):(4=0->P0)/\(4=1->P1)/\(4=2->P2)/\(4=3->P3)/\(4=4->P4):=⟨nofun,nofun,nofun,nofun,fun _=>h⟩
structure CtxT (g:AR) (G:List Nat):Prop where
 len:G.length=g.length
 ok:∀(i:Nat) (st:Int) (T:Tm),i<g.length->g[g.length - 1 - i]?=some (st,T)->∃s,G[i]?=some s/\s<10/\(st=0->s=6)/\(st=1->T.vb/\∀f w,AF f T=some (w,0)->w.op≠4/\w.op≠7/\∀τ,Kf w.op=some τ->s=τ)
def eC:CtxT [] []:=⟨rfl,fun i st T h=>by simp at h⟩
theorem Fd {g:AR} {G:List Nat} (h:CtxT g G) (st:Int) (T:Tm) (s:Nat) (hs:s<10) (h0:st=0->s=6) (h1:st=1->T.vb/\∀f w,AF f T=some (w,0)->w.op≠4/\w.op≠7/\∀τ,Kf w.op=some τ->s=τ):CtxT (g++[(st,T)]) (s::G):=by
 refine ⟨by simp [h.len],?_⟩;intro i st' T' hi hg;rw [Ajg,Ai3,Ajh] at hi hg;cases i with
 | zero =>
  rw [Ai8 (by omega),show g.length+(0+1) - 1 - 0 - g.length=0 by omega] at hg
  simp only [Ajb,AiZ,Ai0] at hg;obtain ⟨rfl,rfl⟩:=hg;exact ⟨s,rfl,hs,h0,h1⟩
 | succ i =>
  rw [Ai9 (by omega),show g.length+(0+1) - 1 - (i+1)=g.length - 1 - i by omega] at hg
  rw [Ajc];exact h.ok i st' T' (by omega) hg
def KK {k:Nat} {a:Tm} (h:AOk k a) (hk:k<=1000):a.vb:=Ip a k h.sc (by have:=h.wt;omega)
def aN {op:Int} {s:Nat} (h:Kf op=some s):op≠4/\op≠7:=by constructor<;>(rintro rfl;simp [Kf] at h)
def DL {g:AR} {G:List Nat} (h:CtxT g G) {T:Tm} {s:Nat} (hT:HasT G T (10+s)) (hv:T.vb):CtxT (g++[(1,T)]) (s::G):=by
 have hs:=(BW hT).2;refine Fd h 1 T s (by omega) (by omega) (fun _=>⟨hv,fun f w hw=>?_⟩)
 have:=(BW (AX (Cl hw hT))).1
 have hne:=aN this;exact ⟨hne.1,hne.2,fun τ hτ=>by rw [this] at hτ;exact Ajn hτ⟩
def E5 {g:AR} {G:List Nat} (h:CtxT g G) (T:Tm):CtxT (g++[(0,T)]) (6::G):=Fd h 0 T 6 (by omega) (fun _=>rfl) (by omega)
def dH {op:Int} {s:Nat} (h:Kf op=some s):s<6:=by
 unfold Kf at h
 repeat' (split at h)
 all_goals first | (cases h;done) | (simp only [AiZ] at h;omega)
def uY {g:AR} {G:List Nat} (h:CtxT g G) {T:Tm} (hT:HasT G T 2) (hv:T.vb):∃s,s<10/\CtxT (g++[(1,T)]) (s::G):=by
 have hne:∀f w,AF f T=some (w,0)->w.op≠4/\w.op≠7:=by
  intro f w hw
  have:=Cl hw hT
  cases this with
  | var=>simp only [Tm.op];omega
  | node _ op n ks _ sg hr =>simp only [Tm.op];cases hr<;>decide
 by_cases hex:∃f w s,AF f T=some (w,0)/\Kf w.op=some s
 ·obtain ⟨f,w,s,hw,hs⟩:=hex;have hlt:=dH hs;refine ⟨s,by omega,Fd h 1 T s (by omega) (by omega) (fun _=>⟨hv,fun f' w' hw'=>⟨(hne f' w' hw').1,(hne f' w' hw').2,fun τ hτ=>?_⟩⟩)⟩
  have:=Cy hw hw'
  simp only [Ai0,and_true] at this;subst this;rw [hs] at hτ;exact Ajn hτ
 ·exact ⟨7,by omega,Fd h 1 T 7 (by omega) (by omega) (fun _=>⟨hv,fun f' w' hw'=>⟨(hne f' w' hw').1,(hne f' w' hw').2,fun τ hτ=>absurd ⟨f',w',τ,hw',hτ⟩ hex⟩⟩)⟩
def bW {t:Tm} (h4:t.op≠4) (h7:t.op≠7):t.eta.op=t.op:=by obtain ⟨op,n,ks⟩:=t;simp only [Tm.op] at h4 h7;rw [Tm.eta,if_neg h4,if_neg h7];rfl
def MP (t:Tm) (d c:Int):(t.shift d c).op=t.op:=by obtain ⟨op,n,ks⟩:=t;rw [Tm.shift];rfl
def aE {g:AR} {G:List Nat} (h:CtxT g G) (hl:g.length<=1000) {st:Int} {a:Tm} {i:Nat} (hh:Hit g st a i):(st=0->HasT G (.mk 1 i []) 6)/\(st=1->∀s,Kf a.op=some s->HasT G (.mk 1 i []) s):=by
 obtain ⟨hi,T,f,w,hg,hn,he⟩:=hh;obtain ⟨s,h1,h2,h3,h4⟩:=h.ok i st T hi hg;refine ⟨fun h0=>?_,fun h0 s' hs'=>?_⟩
 ·have:=h3 h0
  subst this;exact .var _ _ _ (by omega) (by simpa using h1) (by omega)
 ·obtain ⟨hv,h5⟩:=h4 h0;obtain ⟨w0,q1,q2⟩:=OL (d:=i+1) (by omega) hn hv;obtain ⟨n4,n7,h6⟩:=h5 f w0 q1;have ha:=aN hs';have e1:w.op=w0.op:=by rw [q2,MP]
  have e2:w.op=a.op:=by have e3:=bW (t:=w) (by rw [e1];exact n4) (by rw [e1];exact n7);have e4:=bW (t:=a) ha.1 ha.2;rw [<- e3,he,e4]
  have:=h6 s' (by rw [<- e1,e2];exact hs')
  subst this;exact .var _ _ _ (by omega) (by simpa using h1) h2
def ht0 {G:List Nat} {op n:Int} {s:Nat} (h:Rule op s []):HasT G (.mk op n []) s:=.node _ _ _ _ _ _ h rfl (fun i t bs s' a=>by simp at a)
theorem iJ {G:List Nat} {op n:Int} {s:Nat} {b0:List Nat} {s0:Nat} {x:Tm} (h:Rule op s [(b0,s0)]) (hx:HasT (b0++G) x s0):HasT G (.mk op n [x]) s:=.node _ _ _ _ _ _ h rfl (fun i t bs s' a b=>by
 match i with
 | 0=>simp at a b;obtain ⟨rfl,rfl⟩:=b;subst a;exact hx
 | i+1=>simp at a)
theorem ht2 {G:List Nat} {op n:Int} {s:Nat} {b0 b1:List Nat} {s0 s1:Nat} {x y:Tm} (h:Rule op s [(b0,s0),(b1,s1)]) (hx:HasT (b0++G) x s0) (hy:HasT (b1++G) y s1):HasT G (.mk op n [x,y]) s:=.node _ _ _ _ _ _ h rfl (fun i t bs s' a b=>by
 match i with
 | 0=>simp at a b;obtain ⟨rfl,rfl⟩:=b;subst a;exact hx
 | 1=>simp at a b;obtain ⟨rfl,rfl⟩:=b;subst a;exact hy
 | i+2=>simp at a)
theorem ht3 {G:List Nat} {op n:Int} {s:Nat} {b0 b1 b2:List Nat} {s0 s1 s2:Nat} {x y z:Tm} (h:Rule op s [(b0,s0),(b1,s1),(b2,s2)]) (hx:HasT (b0++G) x s0) (hy:HasT (b1++G) y s1) (hz:HasT (b2++G) z s2):HasT G (.mk op n [x,y,z]) s:=.node _ _ _ _ _ _ h rfl (fun i t bs s' a b=>by
 match i with
 | 0=>simp at a b;obtain ⟨rfl,rfl⟩:=b;subst a;exact hx
 | 1=>simp at a b;obtain ⟨rfl,rfl⟩:=b;subst a;exact hy
 | 2=>simp at a b;obtain ⟨rfl,rfl⟩:=b;subst a;exact hz
 | i+3=>simp at a)
theorem ht4 {G:List Nat} {op n:Int} {s:Nat} {b0 b1 b2 b3:List Nat} {s0 s1 s2 s3:Nat} {x y z w:Tm} (h:Rule op s [(b0,s0),(b1,s1),(b2,s2),(b3,s3)]) (hx:HasT (b0++G) x s0) (hy:HasT (b1++G) y s1) (hz:HasT (b2++G) z s2) (hw:HasT (b3++G) w s3):HasT G (.mk op n [x,y,z,w]) s:=.node _ _ _ _ _ _ h rfl (fun i t bs s' a b=>by
 match i with
 | 0=>simp at a b;obtain ⟨rfl,rfl⟩:=b;subst a;exact hx
 | 1=>simp at a b;obtain ⟨rfl,rfl⟩:=b;subst a;exact hy
 | 2=>simp at a b;obtain ⟨rfl,rfl⟩:=b;subst a;exact hz
 | 3=>simp at a b;obtain ⟨rfl,rfl⟩:=b;subst a;exact hw
 | i+4=>simp at a)
theorem BD (G:List Nat):∀(d:Nat) (r:Tm),HasT G (r.plainT d) 1
 | 0,r=>by rw [Tm.plainT];exact ht0 .tint
 | d+1,r=>by
  have h1:=Int.emod_nonneg r.n (show (4:Int)≠0 by decide)
  have h2:=Int.emod_lt_of_pos r.n (show (0:Int)<4 by decide)
  rw [Tm.plainT];split
  ·exact ht0 .tint
  ·have h3:16+r.n % 4 - 2=16\/16+r.n % 4 - 2=17:=by omega
   rcases h3 with h3 | h3<;>rw [h3]
   ·exact ht2 .tfun (BD _ d _) (BD _ d _)
   ·exact ht2 .tpro (BD _ d _) (BD _ d _)
theorem ZG (G:List Nat):∀j,HasT G (GF j) 0
 | 0=>ht0 .zero
 | j+1=>iJ .suc (ZG G j)
def Xb {G:List Nat} {n:Int} {d c:Tm} {op:Int} (ho:op=3\/op=6) {s:Nat} (h:HasT G (.mk op n [d,c]) (10+s)):(s=4/\op=3\/s=5/\op=6)/\∃a b,a<6/\b<6/\HasT G d (10+a)/\HasT (a::G) c (10+b):=by
 generalize hq:10+s=q at h;rcases ho with rfl | rfl
 ·cases h with
  | node _ _ _ _ _ sg hr hl hk =>
   cases hr with
   | piT a b ha hb=>exact ⟨by omega,a,b,ha,hb,hk 0 d [] (10+a) rfl rfl,hk 1 c [a] (10+b) rfl rfl⟩
   | piU=>omega
 ·cases h with
  | node _ _ _ _ _ sg hr hl hk =>
   cases hr with
   | sigT a b ha hb=>exact ⟨by omega,a,b,ha,hb,hk 0 d [] (10+a) rfl rfl,hk 1 c [a] (10+b) rfl rfl⟩
   | sigU=>omega
theorem UZ {G:List Nat} {n:Int} {d:Tm} {s:Nat} (h:HasT G (.mk 18 n [d]) (10+s)):s=3/\HasT G d 1:=by
 generalize hq:10+s=q at h;cases h with
 | node _ _ _ _ _ sg hr hl hk =>
  cases hr with
  | liftT=>exact ⟨by omega,hk 0 d [] 1 rfl rfl⟩
  | liftU=>omega
def Lv {G:List Nat} {n:Int} {d c:Tm} {op:Int} (ho:op=16\/op=17) (h:HasT G (.mk op n [d,c]) 1):HasT G d 1/\HasT G c 1:=by
 rcases ho with rfl | rfl
 ·cases h with
  | node _ _ _ _ _ sg hr hl hk=>cases hr;exact ⟨hk 0 d [] 1 rfl rfl,hk 1 c [] 1 rfl rfl⟩
 ·cases h with
  | node _ _ _ _ _ sg hr hl hk=>cases hr;exact ⟨hk 0 d [] 1 rfl rfl,hk 1 c [] 1 rfl rfl⟩
def rQ {g:AR} {G:List Nat} (h:CtxT g G) (hl:g.length<=1000) {t:Tm} {s:Nat} (ht:HasT G t s) (hw:t.wt<=1000000000000000) (x:Nat):HasT (x::G) (t.shift 1 0) s:=EZ ht [x] (by rw [h.len];simp only [Ai3,Ajh];omega)
def up2 {g:AR} {G:List Nat} (h:CtxT g G) (hl:g.length<=1000) {t:Tm} {s:Nat} (ht:HasT G t s) (hw:t.wt<=1000000000000000) (x y:Nat):HasT (x::y::G) (t.shift 2 0) s:=EZ ht [x,y] (by rw [h.len];simp only [Ai3,Ajh];omega)
theorem Hb {k e:Nat} {g:AR} {a t:Tm} (h:Gr k e g a t):∀G,CtxT g G ->
  (k=0->∃s,s<6/\HasT G t (10+s))/\(k=1->∀s,HasT G a (10+s)->HasT G t s)/\(k=2->HasT G a 1->HasT G t 6) /\
  (k=3->g.length<=60->NOk g.length a->∀s,HasT G a (10+s)->HasT G t s)/\(k=4->g.length<=60->NOk g.length a->HasT G a 1->HasT G t 6):=by
 induction h with
 | tnat e g a=>intro G hG;exact Lk (⟨0,by omega,ht0 .natT⟩)
 | tty e g a=>intro G hG;exact Lk (⟨1,by omega,ht0 .tyT⟩)
 | tu e g a=>intro G hG;exact Lk (⟨2,by omega,ht0 .uT⟩)
 | tlp e g a r=>intro G hG;exact Lk (⟨3,by omega,iJ .liftT (BD _ 1 r)⟩)
 | tpi e g a x y op ho h6 hgl hx h1 h2 ih1 ih2 =>
  intro G hG;refine Lk ?_;obtain ⟨s1,q1,q2⟩:=(ih1 G hG).1 rfl;have hvb:x.vb:=by
   have:=hx.wt
   exact Ip x g.length hx.sc (by have:=hG.len;omega)
  obtain ⟨s2,q3,q4⟩:=(ih2 (s1::G) (DL hG q2 hvb)).1 rfl;rcases ho with rfl | rfl
  ·exact ⟨4,by omega,ht2 (.piT s1 s2 q1 q3) q2 q4⟩
  ·exact ⟨5,by omega,ht2 (.sigT s1 s2 q1 q3) q2 q4⟩
 | tlift e g a t h6 h1 ih =>intro G hG;exact Lk (⟨3,by omega,iJ .liftT ((ih G hG).2.1 rfl 1 (ht0 .tyT))⟩)
 | grow e g a0 a t f hn hg ha h1 ih =>intro G hG;exact AaC fun s hs=>(ih G hG).2.2.2.1 rfl hg ha s (AX (Cl hn hs))
 | objc e g a0 a t f hn hg ha h1 ih =>intro G hG;exact Aae fun hs=>(ih G hG).2.2.2.2 rfl hg ha (AX (Cl hn hs))
 | var1 e g a i h =>intro G hG;exact Df fun hl ha s hs=>(aE hG (by omega) h).2 rfl s (BW hs).1
 | var0 e g a i h =>intro G hG;exact FI fun hl ha hs=>(aE hG (by omega) h).1 rfl
 | fst e g a b c x h6 hb h1 h2 h3 ih1 ih2 ih3 =>intro G hG;refine Df fun hl ha s hs=>?_;obtain ⟨s1,q1,q2⟩:=(ih1 G hG).1 rfl;have hx:=(ih2 G hG).2.1 rfl s1 q2;have hc:=(ih3 G hG).2.1 rfl s hs;exact .fst _ _ _ _ _ _ s s1 2 (by have:=(BW hs).2;omega) (ht2 (.sigU 0 (10+s) (10+s1) (by omega) (by omega)) hs (rQ hG (by omega) q2 hb.wt 0)) hc hx
 | app e g a b c x h6 hb h1 h2 h3 ih1 ih2 ih3 =>intro G hG;refine Df fun hl ha s hs=>?_;obtain ⟨s1,q1,q2⟩:=(ih1 G hG).1 rfl;have hx:=(ih2 G hG).2.1 rfl s1 q2;have hc:=(ih3 (s1::G) (DL hG q2 (KK hb (by omega)))).2.1 rfl s (rQ hG (by omega) hs (by have:=ha.wt;omega) s1);exact .app _ _ _ _ _ _ s1 s (10+s1) (by have:=(BW hs).2;omega) (by omega) q2 hc hx
 | recc e g a n z s h6 ha h1 h2 h3 ih1 ih2 ih3 =>
  intro G hG;refine Df fun hl hna σ hs=>?_;have hn:=(ih1 G hG).2.1 rfl 0 (ht0 .natT);have hz:=(ih2 G hG).2.1 rfl σ hs;have hs1:=rQ hG (by omega) hs (by have:=hna.wt;omega) 0;have g1:=DL hG (T:=.mk 10 0 []) (s:=0) (ht0 .natT) (by simp [Tm.vb,Tm.vbL]);have g2:=DL g1 hs1 (Ip _ (g.length+1) (Bj a 1 0 g.length hna.sc (by have:=hna.wt;omega)) (by rw [AH];have:=hna.wt;omega));have hs3:=(ih3 _ g2).2.1 rfl σ (up2 hG (by omega) hs (by have:=hna.wt;omega) σ 0);have h01:σ=0\/σ=1:=by
   have:=(BW hs).1
   rcases ha with ha | ha<;>rw [ha] at this<;>simp [Kf] at this<;>omega
  exact ht4 (.recR σ (by omega)) hs1 hz hs3 hn
 | suc e g a n h6 ha h1 ih =>
  intro G hG;refine Df fun hl hna s hs=>?_;have h0:s=0:=by
   have:=(BW hs).1
   rw [ha] at this;simp [Kf] at this;omega
  subst h0;exact iJ .suc ((ih G hG).2.1 rfl 0 hs)
 | num e g a j ha hj =>
  intro G hG;refine Df fun hl hna s hs=>?_;have h0:s=0:=by
   have:=(BW hs).1
   rw [ha] at this;simp [Kf] at this;omega
  subst h0;exact ZG _ j
 | tint e g a ha =>
  intro G hG;refine Df fun hl hna s hs=>?_;have h0:s=1:=by
   have:=(BW hs).1
   rw [ha] at this;simp [Kf] at this;omega
  subst h0;exact ht0 .tint
 | tfun e g a x y op ho h6 ha h1 h2 ih1 ih2 =>
  intro G hG;refine Df fun hl hna s hs=>?_;have h0:s=1:=by
   have:=(BW hs).1
   rw [ha] at this;simp [Kf] at this;omega
  subst h0;have q1:=(ih1 G hG).2.1 rfl 1 hs;have q2:=(ih2 G hG).2.1 rfl 1 hs;rcases ho with rfl | rfl
  ·exact ht2 .tfun q1 q2
  ·exact ht2 .tpro q1 q2
 | uni e g a n ha hp =>
  intro G hG;refine Df fun hl hna s hs=>?_;have h0:s=2:=by
   have:=(BW hs).1
   rw [ha] at this;simp [Kf] at this;omega
  subst h0;exact ht0 .uU
 | unat e g a ha =>
  intro G hG;refine Df fun hl hna s hs=>?_;have h0:s=2:=by
   have:=(BW hs).1
   rw [ha] at this;simp [Kf] at this;omega
  subst h0;exact ht0 .natU
 | uty e g a ha =>
  intro G hG;refine Df fun hl hna s hs=>?_;have h0:s=2:=by
   have:=(BW hs).1
   rw [ha] at this;simp [Kf] at this;omega
  subst h0;exact ht0 .tyU
 | ult e g a ha =>
  intro G hG;refine Df fun hl hna s hs=>?_;have h0:s=2:=by
   have:=(BW hs).1
   rw [ha] at this;simp [Kf] at this;omega
  subst h0;exact iJ .liftU (ht0 .tint)
 | upi e g a x y op ho h6 ha hx h1 h2 ih1 ih2 =>
  intro G hG;refine Df fun hl hna s hs=>?_;have h0:s=2:=by
   have:=(BW hs).1
   rw [ha] at this;simp [Kf] at this;omega
  subst h0;have q1:=(ih1 G hG).2.1 rfl 2 hs;obtain ⟨s1,hs1,g1⟩:=uY hG q1 (KK hx (by omega));have q2:=(ih2 _ g1).2.1 rfl 2 (by
   obtain ⟨oa,na,ka⟩:=a;simp only [Tm.op] at ha;subst ha;have hk:ka=[]:=by
    have:=hna.sc
    rw [Tm.sc] at this;exact Aja (Ajn this.1.symm)
   subst hk;exact ht0 .uT)
  rcases ho with rfl | rfl
  ·exact ht2 (.piU s1 hs1) q1 q2
  ·exact ht2 (.sigU s1 2 2 hs1 (by omega)) q1 q2
 | lam e g n d c x h1 ih =>
  intro G hG;refine Df fun hl hna s hs=>?_;obtain ⟨h4,a1,b1,ha1,hb1,hd,hc⟩:=Xb (.inl rfl) hs;have h0:s=4:=by omega
  subst h0;have hna2:=hna.sc;have hnw:=hna.wt;rw [Ee] at hnw;rw [Tm.sc] at hna2;have hvb:=Ip d g.length hna2.2.2.1 (by omega);exact ht2 (.lam a1 b1 (10+a1) (by omega)) hd ((ih _ (DL hG hd hvb)).2.1 rfl b1 hc)
 | pair e g n d c x y hx h1 h2 ih1 ih2 =>
  intro G hG;refine Df fun hl hna s hs=>?_;obtain ⟨h5,a1,b1,ha1,hb1,hd,hc⟩:=Xb (.inr rfl) hs;have h0:s=5:=by omega
  subst h0;have hnw:=hna.wt;rw [Ee] at hnw;have qx:=(ih1 G hG).2.1 rfl a1 hd;have hsub:=Na hc [] G a1 x rfl qx (by have:=hx.wt;rw [hG.len];simp only [Ajh];omega);have qy:=(ih2 G hG).2.1 rfl b1 (by simpa using hsub);exact ht3 (.pair (10+5) a1 b1) hs qx qy
 | quo e g n d x h1 ih =>intro G hG;refine Df fun hl hna s hs=>?_;obtain ⟨h3,hd⟩:=UZ hs;subst h3;exact iJ .quo ((ih G hG).2.2.1 rfl hd)
 | oif e g a c x y h6 h1 h2 h3 ih1 ih2 ih3 =>intro G hG;exact FI fun hl hna hs=>ht3 .oif ((ih1 G hG).2.2.1 rfl (ht0 .tint)) ((ih2 G hG).2.2.1 rfl hs) ((ih3 G hG).2.2.1 rfl hs)
 | olet e g a r x y h6 h1 h2 ih1 ih2 =>intro G hG;exact FI fun hl hna hs=>ht2 .olet ((ih1 G hG).2.2.1 rfl (BD _ 1 r)) ((ih2 _ (E5 hG _)).2.2.1 rfl (rQ hG (by omega) hs (by have:=hna.wt;omega) 6))
 | oapp e g a r x y h6 h1 h2 ih1 ih2 =>intro G hG;exact FI fun hl hna hs=>ht2 .oapp (ht2 .olam (BD _ 1 r) ((ih2 _ (E5 hG _)).2.2.1 rfl (rQ hG (by omega) hs (by have:=hna.wt;omega) 6))) ((ih1 G hG).2.2.1 rfl (BD _ 1 r))
 | ofst e g a x y h6 h1 h2 ih1 ih2 =>intro G hG;exact FI fun hl hna hs=>iJ .ofst (ht2 .opair ((ih1 G hG).2.2.1 rfl hs) ((ih2 G hG).2.2.1 rfl (ht0 .tint)))
 | ofix e g a x h6 h1 ih =>intro G hG;exact FI fun hl hna hs=>ht2 .ofix hs ((ih _ (E5 hG _)).2.2.1 rfl (rQ hG (by omega) hs (by have:=hna.wt;omega) 6))
 | spl e g a x h6 h1 ih =>intro G hG;exact FI fun hl hna hs=>iJ .spl ((ih G hG).2.1 rfl 3 (iJ .liftT hs))
 | oint e g a n ha =>intro G hG;exact FI fun hl hna hs=>ht0 .oint
 | oprim e g a p q n h6 ha h1 h2 ih1 ih2 =>intro G hG;exact FI fun hl hna hs=>ht2 .oprim ((ih1 G hG).2.2.1 rfl hs) ((ih2 G hG).2.2.1 rfl hs)
 | olam e g n d c b h1 ih =>intro G hG;refine FI fun hl hna hs=>?_;obtain ⟨hd,hc⟩:=Lv (.inl rfl) hs;have hnw:=hna.wt;rw [Ee] at hnw;exact ht2 .olam hd ((ih _ (E5 hG _)).2.2.1 rfl (rQ hG (by omega) hc (by omega) 6))
 | opair e g n d c p q h1 h2 ih1 ih2 =>intro G hG;refine FI fun hl hna hs=>?_;obtain ⟨hd,hc⟩:=Lv (.inr rfl) hs;exact ht2 .opair ((ih1 G hG).2.2.1 rfl hd) ((ih2 G hG).2.2.1 rfl hc)
inductive CtxG:AR->Prop
 | nil:CtxG []
 | ob (g:AR) (t:Tm) (h:CtxG g) (h1:Gr 1 7 g (.mk 14 0 []) t):CtxG (g++[(0,t)])
 | me (g:AR) (a:Tm) (h:CtxG g) (ha:AOk g.length a) (hl:g.length<=60) (h1:Gr 0 7 g .z a):CtxG (g++[(1,a)])
def Gs {k:Nat} {a:Tm} (hk:k<=1000) (h:a.sc k) (hd:a.dp<=20000):∃u e,Ev 24 [.fv a.enc] (.tuple [u.enc,.int .i64 e])/\(e=0/\NOk k u\/(e=5\/e=17)/\u=.z)/\∃f,AF f a=some (u,e):=by
 obtain ⟨f,u,e,h1,h2⟩:=GV (k:=k) (by omega) h (by have:=Q2 a;omega);refine ⟨u,e,⟨f+2,fun n hn=>YB f a u e h1 n hn⟩,?_,f,h1⟩;rcases h2 with ⟨h3,h4,h5,h6⟩ | h2
 ·exact .inl ⟨h3,⟨h4,h5,h6⟩⟩
 ·exact .inr h2
structure TG (κ e:Nat) (g:AR) (a t:Tm) (b:Bool):Prop where
 sc:t.sc g.length
 wt:t.wt<=Wg e
 dp:t.dp<=Dg e
 gr:b=true->Gr κ e g a t
def tg {κ e:Nat} {g:AR} {a t:Tm} {b:Bool} (h:TOk g.length e t) (hg:b=true->Gr κ e g a t):TG κ e g a t b:=⟨h.sc,h.wt,h.dp,hg⟩
def cX {κ e:Nat} {g:AR} {a t:Tm} {b:Bool} (h:TG κ e g a t b) (he:e<=10):AOk g.length t:=⟨h.sc,by have:=h.wt;have:=Mw he;omega,by have:=h.dp;unfold Dg at this;omega⟩
def Zj {κ κ' e:Nat} {g:AR} {a a' t:Tm} {b:Bool} (h:TG κ e g a t b) (hg:Gr κ e g a t->Gr κ' e g a' t):TG κ' e g a' t b:=⟨h.sc,h.wt,h.dp,fun hb=>hg (h.gr hb)⟩
def Ki {p q:Bool} (h:(p && q)=true):p=true:=by cases p<;>simp_all
def IK {p q:Bool} (h:(p && q)=true):q=true:=by cases p<;>simp_all
end Idl
end Go.Proofs.YtnenpcghegcnhaaGreat

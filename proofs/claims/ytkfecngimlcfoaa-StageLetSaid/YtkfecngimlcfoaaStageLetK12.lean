/-
  Texts of a proof, part 12: an ideal semantics of the program, its functions in shallow form, contracts of them. No statement of the seat is proved here.
-/
import Derived.Test.YtkfecngimlcfoaaStageLetK11
set_option linter.all false
set_option maxRecDepth 20000
set_option maxHeartbeats 16000000
noncomputable section
namespace Go.Proofs.Ytkfecngimlcfoaa
namespace Idl
def Hit (g:Bb) (st:Int) (a:Tm) (i:Nat):Prop:=i<g.length/\∃T f w,g[g.length - 1 - i]?=some (st,T)/\AF f (T.shift ((i+1:Nat):Int) 0)=some (w,0)/\w.eta=a.eta
inductive Gr:Nat->Nat->Bb->Tm->Tm->Prop
 | tnat (e:Nat) (g:Bb) (a:Tm):Gr 0 e g a (.mk 10 0 [])
 | tty (e:Nat) (g:Bb) (a:Tm):Gr 0 e g a (.mk 14 0 [])
 | tu (e:Nat) (g:Bb) (a:Tm):Gr 0 e g a (.mk 2 0 [])
 | tlp (e:Nat) (g:Bb) (a r:Tm):Gr 0 e g a (.mk 18 0 [r.plainT 1])
 | tpi (e:Nat) (g:Bb) (a x y:Tm) (op:Int) (ho:op=3\/op=6) (h6:6<=e) (hgl:g.length<=60) (hx:AOk g.length x) (h1:Gr 0 (e - 1) g .z x) (h2:Gr 0 (e - 1) (g++[(1,x)]) .z y):Gr 0 e g a (.mk op 0 [x,y])
 | tlift (e:Nat) (g:Bb) (a t:Tm) (h6:6<=e) (h1:Gr 1 (e - 1) g (.mk 14 0 []) t):Gr 0 e g a (.mk 18 0 [t])
 | grow (e:Nat) (g:Bb) (a0 a t:Tm) (f:Nat) (hn:AF f a0=some (a,0)) (hg:g.length<=60) (ha:NOk g.length a) (h1:Gr 3 e g a t):Gr 1 e g a0 t
 | objc (e:Nat) (g:Bb) (a0 a t:Tm) (f:Nat) (hn:AF f a0=some (a,0)) (hg:g.length<=60) (ha:NOk g.length a) (h1:Gr 4 e g a t):Gr 2 e g a0 t
 | var1 (e:Nat) (g:Bb) (a:Tm) (i:Nat) (h:Hit g 1 a i):Gr 3 e g a (.mk 1 i [])
 | var0 (e:Nat) (g:Bb) (a:Tm) (i:Nat) (h:Hit g 0 a i):Gr 4 e g a (.mk 1 i [])
 | fst (e:Nat) (g:Bb) (a b c x:Tm) (h6:6<=e) (hb:AOk g.length b) (h1:Gr 0 6 g .z b) (h2:Gr 1 (e - 2) g b x) (h3:Gr 1 (e - 2) g a c):Gr 3 e g a (.mk 8 0 [.mk 7 0 [.mk 6 0 [a,b.shift 1 0],c,x]])
 | app (e:Nat) (g:Bb) (a b c x:Tm) (h6:6<=e) (hb:AOk g.length b) (h1:Gr 0 6 g .z b) (h2:Gr 1 (e - 2) g b x) (h3:Gr 1 (e - 2) (g++[(1,b)]) (a.shift 1 0) c):Gr 3 e g a (.mk 5 0 [.mk 4 0 [b,c],x])
 | recc (e:Nat) (g:Bb) (a n z s:Tm) (h6:6<=e) (ha:a.op=10\/a.op=14) (h1:Gr 1 (e - 2) g (.mk 10 0 []) n) (h2:Gr 1 (e - 2) g a z) (h3:Gr 1 (e - 2) (g++[(1,.mk 10 0 [])]++[(1,a.shift 1 0)]) (a.shift 2 0) s):Gr 3 e g a (.mk 13 0 [a.shift 1 0,z,s,n])
 | suc (e:Nat) (g:Bb) (a n:Tm) (h6:6<=e) (ha:a.op=10) (h1:Gr 1 (e - 1) g a n):Gr 3 e g a (.mk 12 0 [n])
 | num (e:Nat) (g:Bb) (a:Tm) (j:Nat) (ha:a.op=10) (hj:j<=3):Gr 3 e g a (HH j)
 | tint (e:Nat) (g:Bb) (a:Tm) (ha:a.op=14):Gr 3 e g a (.mk 15 0 [])
 | tfun (e:Nat) (g:Bb) (a x y:Tm) (op:Int) (ho:op=16\/op=17) (h6:6<=e) (ha:a.op=14) (h1:Gr 1 (e - 1) g a x) (h2:Gr 1 (e - 1) g a y):Gr 3 e g a (.mk op 0 [x,y])
 | uni (e:Nat) (g:Bb) (a:Tm) (n:Int) (ha:a.op=2) (hp:0<a.n):Gr 3 e g a (.mk 2 n [])
 | unat (e:Nat) (g:Bb) (a:Tm) (ha:a.op=2):Gr 3 e g a (.mk 10 0 [])
 | uty (e:Nat) (g:Bb) (a:Tm) (ha:a.op=2):Gr 3 e g a (.mk 14 0 [])
 | ult (e:Nat) (g:Bb) (a:Tm) (ha:a.op=2):Gr 3 e g a (.mk 18 0 [.mk 15 0 []])
 | upi (e:Nat) (g:Bb) (a x y:Tm) (op:Int) (ho:op=3\/op=6) (h6:6<=e) (ha:a.op=2) (hx:AOk g.length x) (h1:Gr 1 (e - 1) g a x) (h2:Gr 1 (e - 1) (g++[(1,x)]) a y):Gr 3 e g a (.mk op 0 [x,y])
 | lam (e:Nat) (g:Bb) (n:Int) (d c x:Tm) (h1:Gr 1 (e - 1) (g++[(1,d)]) c x):Gr 3 e g (.mk 3 n [d,c]) (.mk 4 0 [d,x])
 | pair (e:Nat) (g:Bb) (n:Int) (d c x y:Tm) (hx:AOk g.length x) (h1:Gr 1 (e - 1) g d x) (h2:Gr 1 (e - 1) g (c.subst 0 0 x) y):Gr 3 e g (.mk 6 n [d,c]) (.mk 7 0 [.mk 6 n [d,c],x,y])
 | quo (e:Nat) (g:Bb) (n:Int) (d x:Tm) (h1:Gr 2 (e - 1) g d x):Gr 3 e g (.mk 18 n [d]) (.mk 19 0 [x])
 | oif (e:Nat) (g:Bb) (a c x y:Tm) (h6:6<=e) (h1:Gr 2 (e - 2) g (.mk 15 0 []) c) (h2:Gr 2 (e - 2) g a x) (h3:Gr 2 (e - 2) g a y):Gr 4 e g a (.mk 27 0 [c,x,y])
 | olet (e:Nat) (g:Bb) (a r x y:Tm) (h6:6<=e) (h1:Gr 2 (e - 2) g (r.plainT 1) x) (h2:Gr 2 (e - 2) (g++[(0,r.plainT 1)]) (a.shift 1 0) y):Gr 4 e g a (.mk 28 0 [x,y])
 | oapp (e:Nat) (g:Bb) (a r x y:Tm) (h6:6<=e) (h1:Gr 2 (e - 2) g (r.plainT 1) x) (h2:Gr 2 (e - 2) (g++[(0,r.plainT 1)]) (a.shift 1 0) y):Gr 4 e g a (.mk 21 0 [.mk 20 0 [r.plainT 1,y],x])
 | ofst (e:Nat) (g:Bb) (a x y:Tm) (h6:6<=e) (h1:Gr 2 (e - 2) g a x) (h2:Gr 2 (e - 2) g (.mk 15 0 []) y):Gr 4 e g a (.mk 23 0 [.mk 22 0 [x,y]])
 | ofix (e:Nat) (g:Bb) (a x:Tm) (h6:6<=e) (h1:Gr 2 (e - 2) (g++[(0,a)]) (a.shift 1 0) x):Gr 4 e g a (.mk 29 0 [a,x])
 | spl (e:Nat) (g:Bb) (a x:Tm) (h6:6<=e) (h1:Gr 1 (e - 1) g (.mk 18 0 [a]) x):Gr 4 e g a (.mk 30 0 [x])
 | oint (e:Nat) (g:Bb) (a:Tm) (n:Int) (ha:a.op=15):Gr 4 e g a (.mk 25 n [])
 | oprim (e:Nat) (g:Bb) (a p q:Tm) (n:Int) (h6:6<=e) (ha:a.op=15) (h1:Gr 2 (e - 1) g a p) (h2:Gr 2 (e - 1) g a q):Gr 4 e g a (.mk 26 n [p,q])
 | olam (e:Nat) (g:Bb) (n:Int) (d c b:Tm) (h1:Gr 2 (e - 1) (g++[(0,d)]) (c.shift 1 0) b):Gr 4 e g (.mk 16 n [d,c]) (.mk 20 0 [d,b])
 | opair (e:Nat) (g:Bb) (n:Int) (d c p q:Tm) (h1:Gr 2 (e - 1) g d p) (h2:Gr 2 (e - 1) g c q):Gr 4 e g (.mk 17 n [d,c]) (.mk 22 0 [p,q])
theorem ZY:∀k,(HH k).wt=k+1:=by
 intro k
 induction k with
 | zero=>rfl
 | succ k ih=>simp only [HH,Tm.wt,Tm.wtL,ih];omega
def dp1 (op n:Int) (a:Tm):(Tm.mk op n [a]).dp=1+a.dp:=by simp only [Tm.dp,Tm.dpL];omega
def Qx (op n:Int) (a b:Tm):(Tm.mk op n [a,b]).dp=1+max a.dp b.dp:=by simp only [Tm.dp,Tm.dpL];omega
def dp3 (op n:Int) (a b c:Tm):(Tm.mk op n [a,b,c]).dp=1+max a.dp (max b.dp c.dp):=by simp only [Tm.dp,Tm.dpL];omega
def dp4 (op n:Int) (a b c d:Tm):(Tm.mk op n [a,b,c,d]).dp=1+max a.dp (max b.dp (max c.dp d.dp)):=by simp only [Tm.dp,Tm.dpL];omega
def QM (op n:Int) (a:Tm):(Tm.mk op n [a]).wt=1+a.wt:=by simp only [Tm.wt,Tm.wtL];omega
def Fi (op n:Int) (a b:Tm):(Tm.mk op n [a,b]).wt=1+a.wt+b.wt:=by simp only [Tm.wt,Tm.wtL];omega
def wt3 (op n:Int) (a b c:Tm):(Tm.mk op n [a,b,c]).wt=1+a.wt+b.wt+c.wt:=by simp only [Tm.wt,Tm.wtL];omega
def wt4 (op n:Int) (a b c d:Tm):(Tm.mk op n [a,b,c,d]).wt=1+a.wt+b.wt+c.wt+d.wt:=by simp only [Tm.wt,Tm.wtL];omega
structure CtxT (g:Bb) (G:List Nat):Prop where
 len:G.length=g.length
 ok:∀(i:Nat) (st:Int) (T:Tm),i<g.length->g[g.length - 1 - i]?=some (st,T)->∃s,G[i]?=some s/\s<10/\(st=0->s=6)/\(st=1->T.vb/\∀f w,AF f T=some (w,0)->w.op≠4/\w.op≠7/\∀τ,Mb w.op=some τ->s=τ)
def Wl:CtxT [] []:=⟨rfl,fun i st T h=>by simp at h⟩
theorem FH {g:Bb} {G:List Nat} (h:CtxT g G) (st:Int) (T:Tm) (s:Nat) (hs:s<10) (h0:st=0->s=6) (h1:st=1->T.vb/\∀f w,AF f T=some (w,0)->w.op≠4/\w.op≠7/\∀τ,Mb w.op=some τ->s=τ):CtxT (g++[(st,T)]) (s::G):=by
 refine ⟨by simp [h.len],?_⟩;intro i st' T' hi hg;rw [List.length_append,AB9,List.length_nil] at hi hg;cases i with
 | zero =>
  rw [List.getElem?_append_right (by omega),show g.length+(0+1) - 1 - 0 - g.length=0 by omega] at hg
  simp only [List.getElem?_cons_zero,AB5,AB6] at hg;obtain ⟨rfl,rfl⟩:=hg;exact ⟨s,rfl,hs,h0,h1⟩
 | succ i =>
  rw [List.getElem?_append_left (by omega),show g.length+(0+1) - 1 - (i+1)=g.length - 1 - i by omega] at hg
  rw [List.getElem?_cons_succ];exact h.ok i st' T' (by omega) hg
def PI {k:Nat} {a:Tm} (h:AOk k a) (hk:k<=1000):a.vb:=Le a k h.sc (by have:=h.wt;omega)
def Alc {op:Int} {s:Nat} (h:Mb op=some s):op≠4/\op≠7:=by
 constructor<;>(rintro rfl;simp [Mb] at h)
def EO {g:Bb} {G:List Nat} (h:CtxT g G) {T:Tm} {s:Nat} (hT:HasT G T (10+s)) (hv:T.vb):CtxT (g++[(1,T)]) (s::G):=by
 have hs:=(BF hT).2;refine FH h 1 T s (by omega) (by omega) (fun _=>⟨hv,fun f w hw=>?_⟩)
 have:=(BF (AN (BU hw hT))).1
 have hne:=Alc this;exact ⟨hne.1,hne.2,fun τ hτ=>by rw [this] at hτ;exact Option.some.inj hτ⟩
def Gy {g:Bb} {G:List Nat} (h:CtxT g G) (T:Tm):CtxT (g++[(0,T)]) (6::G):=FH h 0 T 6 (by omega) (fun _=>rfl) (by omega)
def Ak4 {op:Int} {s:Nat} (h:Mb op=some s):s<6:=by
 unfold Mb at h
 repeat' (split at h)
 all_goals first | (cases h;done) | (simp only [AB5] at h;omega)
def Atm {g:Bb} {G:List Nat} (h:CtxT g G) {T:Tm} (hT:HasT G T 2) (hv:T.vb):∃s,s<10/\CtxT (g++[(1,T)]) (s::G):=by
 have hne:∀f w,AF f T=some (w,0)->w.op≠4/\w.op≠7:=by
  intro f w hw
  have:=BU hw hT
  cases this with
  | var=>simp only [Tm.op];omega
  | node _ op n ks _ sg hr =>
   simp only [Tm.op];cases hr<;>decide
 by_cases hex:∃f w s,AF f T=some (w,0)/\Mb w.op=some s
 ·obtain ⟨f,w,s,hw,hs⟩:=hex;have hlt:=Ak4 hs;refine ⟨s,by omega,FH h 1 T s (by omega) (by omega) (fun _=>⟨hv,fun f' w' hw'=>⟨(hne f' w' hw').1,(hne f' w' hw').2,fun τ hτ=>?_⟩⟩)⟩
  have:=CJ hw hw'
  simp only [AB6,and_true] at this;subst this;rw [hs] at hτ;exact Option.some.inj hτ
 ·exact ⟨7,by omega,FH h 1 T 7 (by omega) (by omega) (fun _=>⟨hv,fun f' w' hw'=>⟨(hne f' w' hw').1,(hne f' w' hw').2,fun τ hτ=>absurd ⟨f',w',τ,hw',hτ⟩ hex⟩⟩)⟩
def AjW {t:Tm} (h4:t.op≠4) (h7:t.op≠7):t.eta.op=t.op:=by
 obtain ⟨op,n,ks⟩:=t;simp only [Tm.op] at h4 h7;rw [Tm.eta,if_neg h4,if_neg h7];rfl
def Pc (t:Tm) (d c:Int):(t.shift d c).op=t.op:=by
 obtain ⟨op,n,ks⟩:=t;rw [Tm.shift];rfl
def AlP {g:Bb} {G:List Nat} (h:CtxT g G) (hl:g.length<=1000) {st:Int} {a:Tm} {i:Nat} (hh:Hit g st a i):(st=0->HasT G (.mk 1 i []) 6)/\(st=1->∀s,Mb a.op=some s->HasT G (.mk 1 i []) s):=by
 obtain ⟨hi,T,f,w,hg,hn,he⟩:=hh;obtain ⟨s,h1,h2,h3,h4⟩:=h.ok i st T hi hg;refine ⟨fun h0=>?_,fun h0 s' hs'=>?_⟩
 ·have:=h3 h0
  subst this;exact .var _ _ _ (by omega) (by simpa using h1) (by omega)
 ·obtain ⟨hv,h5⟩:=h4 h0;obtain ⟨w0,q1,q2⟩:=Rs (d:=i+1) (by omega) hn hv;obtain ⟨n4,n7,h6⟩:=h5 f w0 q1;have ha:=Alc hs';have e1:w.op=w0.op:=by rw [q2,Pc]
  have e2:w.op=a.op:=by
   have e3:=AjW (t:=w) (by rw [e1];exact n4) (by rw [e1];exact n7);have e4:=AjW (t:=a) ha.1 ha.2;rw [<- e3,he,e4]
  have:=h6 s' (by rw [<- e1,e2];exact hs')
  subst this;exact .var _ _ _ (by omega) (by simpa using h1) h2
def ht0 {G:List Nat} {op n:Int} {s:Nat} (h:Rule op s []):HasT G (.mk op n []) s:=.node _ _ _ _ _ _ h rfl (fun i t bs s' a=>by simp at a)
theorem ht1 {G:List Nat} {op n:Int} {s:Nat} {b0:List Nat} {s0:Nat} {x:Tm} (h:Rule op s [(b0,s0)]) (hx:HasT (b0++G) x s0):HasT G (.mk op n [x]) s:=.node _ _ _ _ _ _ h rfl (fun i t bs s' a b=>by
 match i with
 | 0=>simp at a b;obtain ⟨rfl,rfl⟩:=b;subst a;exact hx
 | i+1=>simp at a)
theorem ht2 {G:List Nat} {op n:Int} {s:Nat} {b0 b1:List Nat} {s0 s1:Nat} {x y:Tm} (h:Rule op s [(b0,s0),(b1,s1)]) (hx:HasT (b0++G) x s0) (hy:HasT (b1++G) y s1):HasT G (.mk op n [x,y]) s:=.node _ _ _ _ _ _ h rfl (fun i t bs s' a b=>by
 match i with
 | 0=>simp at a b;obtain ⟨rfl,rfl⟩:=b;subst a;exact hx
 | 1=>simp at a b;obtain ⟨rfl,rfl⟩:=b;subst a;exact hy
 | i+2=>simp at a)
theorem ht3 {G:List Nat} {op n:Int} {s:Nat} {b0 b1 b2:List Nat} {s0 s1 s2:Nat} {x y z:Tm} (h:Rule op s [(b0,s0),(b1,s1),(b2,s2)]) (hx:HasT (b0++G) x s0) (hy:HasT (b1++G) y s1) (hz:HasT (b2++G) z s2):HasT G (.mk op n [x,y,z]) s:=.node _ _ _ _ _ _ h rfl (fun i t bs s' a b=>by
 match i with
 | 0=>simp at a b;obtain ⟨rfl,rfl⟩:=b;subst a;exact hx
 | 1=>simp at a b;obtain ⟨rfl,rfl⟩:=b;subst a;exact hy
 | 2=>simp at a b;obtain ⟨rfl,rfl⟩:=b;subst a;exact hz
 | i+3=>simp at a)
theorem ht4 {G:List Nat} {op n:Int} {s:Nat} {b0 b1 b2 b3:List Nat} {s0 s1 s2 s3:Nat} {x y z w:Tm} (h:Rule op s [(b0,s0),(b1,s1),(b2,s2),(b3,s3)]) (hx:HasT (b0++G) x s0) (hy:HasT (b1++G) y s1) (hz:HasT (b2++G) z s2) (hw:HasT (b3++G) w s3):HasT G (.mk op n [x,y,z,w]) s:=.node _ _ _ _ _ _ h rfl (fun i t bs s' a b=>by
 match i with
 | 0=>simp at a b;obtain ⟨rfl,rfl⟩:=b;subst a;exact hx
 | 1=>simp at a b;obtain ⟨rfl,rfl⟩:=b;subst a;exact hy
 | 2=>simp at a b;obtain ⟨rfl,rfl⟩:=b;subst a;exact hz
 | 3=>simp at a b;obtain ⟨rfl,rfl⟩:=b;subst a;exact hw
 | i+4=>simp at a)
theorem BH (G:List Nat):∀(d:Nat) (r:Tm),HasT G (r.plainT d) 1
 | 0,r=>by rw [Tm.plainT];exact ht0 .tint
 | d+1,r=>by
  have h1:=Int.emod_nonneg r.n (show (4:Int)≠0 by decide)
  have h2:=Int.emod_lt_of_pos r.n (show (0:Int)<4 by decide)
  rw [Tm.plainT];split
  ·exact ht0 .tint
  ·have h3:16+r.n % 4 - 2=16\/16+r.n % 4 - 2=17:=by omega
   rcases h3 with h3 | h3<;>rw [h3]
   ·exact ht2 .tfun (BH _ d _) (BH _ d _)
   ·exact ht2 .tpro (BH _ d _) (BH _ d _)
theorem AjS (G:List Nat):∀j,HasT G (HH j) 0
 | 0=>ht0 .zero
 | j+1=>ht1 .suc (AjS G j)
def Ads {G:List Nat} {n:Int} {d c:Tm} {op:Int} (ho:op=3\/op=6) {s:Nat} (h:HasT G (.mk op n [d,c]) (10+s)):(s=4/\op=3\/s=5/\op=6)/\∃a b,a<6/\b<6/\HasT G d (10+a)/\HasT (a::G) c (10+b):=by
 generalize hq:10+s=q at h;rcases ho with rfl | rfl
 ·cases h with
  | node _ _ _ _ _ sg hr hl hk =>
   cases hr with
   | piT a b ha hb=>exact ⟨by omega,a,b,ha,hb,hk 0 d [] (10+a) rfl rfl,hk 1 c [a] (10+b) rfl rfl⟩
   | piU=>omega
 ·cases h with
  | node _ _ _ _ _ sg hr hl hk =>
   cases hr with
   | sigT a b ha hb=>exact ⟨by omega,a,b,ha,hb,hk 0 d [] (10+a) rfl rfl,hk 1 c [a] (10+b) rfl rfl⟩
   | sigU=>omega
theorem AeI {G:List Nat} {n:Int} {d:Tm} {s:Nat} (h:HasT G (.mk 18 n [d]) (10+s)):s=3/\HasT G d 1:=by
 generalize hq:10+s=q at h;cases h with
 | node _ _ _ _ _ sg hr hl hk =>
  cases hr with
  | liftT=>exact ⟨by omega,hk 0 d [] 1 rfl rfl⟩
  | liftU=>omega
def Np {G:List Nat} {n:Int} {d c:Tm} {op:Int} (ho:op=16\/op=17) (h:HasT G (.mk op n [d,c]) 1):HasT G d 1/\HasT G c 1:=by
 rcases ho with rfl | rfl
 ·cases h with
  | node _ _ _ _ _ sg hr hl hk=>cases hr;exact ⟨hk 0 d [] 1 rfl rfl,hk 1 c [] 1 rfl rfl⟩
 ·cases h with
  | node _ _ _ _ _ sg hr hl hk=>cases hr;exact ⟨hk 0 d [] 1 rfl rfl,hk 1 c [] 1 rfl rfl⟩
def up1 {g:Bb} {G:List Nat} (h:CtxT g G) (hl:g.length<=1000) {t:Tm} {s:Nat} (ht:HasT G t s) (hw:t.wt<=1000000000000000) (x:Nat):HasT (x::G) (t.shift 1 0) s:=Gt ht [x] (by rw [h.len];simp only [AB9,List.length_nil];omega)
def up2 {g:Bb} {G:List Nat} (h:CtxT g G) (hl:g.length<=1000) {t:Tm} {s:Nat} (ht:HasT G t s) (hw:t.wt<=1000000000000000) (x y:Nat):HasT (x::y::G) (t.shift 2 0) s:=Gt ht [x,y] (by rw [h.len];simp only [AB9,List.length_nil];omega)
theorem Rh {k e:Nat} {g:Bb} {a t:Tm} (h:Gr k e g a t):∀G,CtxT g G ->
  (k=0->∃s,s<6/\HasT G t (10+s))/\(k=1->∀s,HasT G a (10+s)->HasT G t s)/\(k=2->HasT G a 1->HasT G t 6) /\
  (k=3->g.length<=60->NOk g.length a->∀s,HasT G a (10+s)->HasT G t s)/\(k=4->g.length<=60->NOk g.length a->HasT G a 1->HasT G t 6):=by
 induction h with
 | tnat e g a=>intro G hG;exact ⟨fun _=>⟨0,by omega,ht0 .natT⟩,by omega,by omega,by omega,by omega⟩
 | tty e g a=>intro G hG;exact ⟨fun _=>⟨1,by omega,ht0 .tyT⟩,by omega,by omega,by omega,by omega⟩
 | tu e g a=>intro G hG;exact ⟨fun _=>⟨2,by omega,ht0 .uT⟩,by omega,by omega,by omega,by omega⟩
 | tlp e g a r=>intro G hG;exact ⟨fun _=>⟨3,by omega,ht1 .liftT (BH _ 1 r)⟩,by omega,by omega,by omega,by omega⟩
 | tpi e g a x y op ho h6 hgl hx h1 h2 ih1 ih2 =>
  intro G hG;refine ⟨fun _=>?_,by omega,by omega,by omega,by omega⟩;obtain ⟨s1,q1,q2⟩:=(ih1 G hG).1 rfl;have hvb:x.vb:=by
   have:=hx.wt
   exact Le x g.length hx.sc (by have:=hG.len;omega)
  obtain ⟨s2,q3,q4⟩:=(ih2 (s1::G) (EO hG q2 hvb)).1 rfl;rcases ho with rfl | rfl
  ·exact ⟨4,by omega,ht2 (.piT s1 s2 q1 q3) q2 q4⟩
  ·exact ⟨5,by omega,ht2 (.sigT s1 s2 q1 q3) q2 q4⟩
 | tlift e g a t h6 h1 ih =>
  intro G hG;exact ⟨fun _=>⟨3,by omega,ht1 .liftT ((ih G hG).2.1 rfl 1 (ht0 .tyT))⟩,by omega,by omega,by omega,by omega⟩
 | grow e g a0 a t f hn hg ha h1 ih =>
  intro G hG;exact ⟨by omega,fun _ s hs=>(ih G hG).2.2.2.1 rfl hg ha s (AN (BU hn hs)),by omega,by omega,by omega⟩
 | objc e g a0 a t f hn hg ha h1 ih =>
  intro G hG;exact ⟨by omega,by omega,fun _ hs=>(ih G hG).2.2.2.2 rfl hg ha (AN (BU hn hs)),by omega,by omega⟩
 | var1 e g a i h =>
  intro G hG;exact ⟨by omega,by omega,by omega,fun _ hl ha s hs=>(AlP hG (by omega) h).2 rfl s (BF hs).1,by omega⟩
 | var0 e g a i h =>
  intro G hG;exact ⟨by omega,by omega,by omega,by omega,fun _ hl ha hs=>(AlP hG (by omega) h).1 rfl⟩
 | fst e g a b c x h6 hb h1 h2 h3 ih1 ih2 ih3 =>
  intro G hG;refine ⟨by omega,by omega,by omega,fun _ hl ha s hs=>?_,by omega⟩;obtain ⟨s1,q1,q2⟩:=(ih1 G hG).1 rfl;have hx:=(ih2 G hG).2.1 rfl s1 q2;have hc:=(ih3 G hG).2.1 rfl s hs;exact .fst _ _ _ _ _ _ s s1 2 (by have:=(BF hs).2;omega) (ht2 (.sigU 0 (10+s) (10+s1) (by omega) (by omega)) hs (up1 hG (by omega) q2 hb.wt 0)) hc hx
 | app e g a b c x h6 hb h1 h2 h3 ih1 ih2 ih3 =>
  intro G hG;refine ⟨by omega,by omega,by omega,fun _ hl ha s hs=>?_,by omega⟩;obtain ⟨s1,q1,q2⟩:=(ih1 G hG).1 rfl;have hx:=(ih2 G hG).2.1 rfl s1 q2;have hc:=(ih3 (s1::G) (EO hG q2 (PI hb (by omega)))).2.1 rfl s (up1 hG (by omega) hs (by have:=ha.wt;omega) s1);exact .app _ _ _ _ _ _ s1 s (10+s1) (by have:=(BF hs).2;omega) (by omega) q2 hc hx
 | recc e g a n z s h6 ha h1 h2 h3 ih1 ih2 ih3 =>
  intro G hG;refine ⟨by omega,by omega,by omega,fun _ hl hna σ hs=>?_,by omega⟩;have hn:=(ih1 G hG).2.1 rfl 0 (ht0 .natT);have hz:=(ih2 G hG).2.1 rfl σ hs;have hs1:=up1 hG (by omega) hs (by have:=hna.wt;omega) 0;have g1:=EO hG (T:=.mk 10 0 []) (s:=0) (ht0 .natT) (by simp [Tm.vb,Tm.vbL]);have g2:=EO g1 hs1 (Le _ (g.length+1) (C3 a 1 0 g.length hna.sc (by have:=hna.wt;omega)) (by rw [Bk];have:=hna.wt;omega));have hs3:=(ih3 _ g2).2.1 rfl σ (up2 hG (by omega) hs (by have:=hna.wt;omega) σ 0);have h01:σ=0\/σ=1:=by
   have:=(BF hs).1
   rcases ha with ha | ha<;>rw [ha] at this<;>simp [Mb] at this<;>omega
  exact ht4 (.recR σ (by omega)) hs1 hz hs3 hn
 | suc e g a n h6 ha h1 ih =>
  intro G hG;refine ⟨by omega,by omega,by omega,fun _ hl hna s hs=>?_,by omega⟩;have h0:s=0:=by
   have:=(BF hs).1
   rw [ha] at this;simp [Mb] at this;omega
  subst h0;exact ht1 .suc ((ih G hG).2.1 rfl 0 hs)
 | num e g a j ha hj =>
  intro G hG;refine ⟨by omega,by omega,by omega,fun _ hl hna s hs=>?_,by omega⟩;have h0:s=0:=by
   have:=(BF hs).1
   rw [ha] at this;simp [Mb] at this;omega
  subst h0;exact AjS _ j
 | tint e g a ha =>
  intro G hG;refine ⟨by omega,by omega,by omega,fun _ hl hna s hs=>?_,by omega⟩;have h0:s=1:=by
   have:=(BF hs).1
   rw [ha] at this;simp [Mb] at this;omega
  subst h0;exact ht0 .tint
 | tfun e g a x y op ho h6 ha h1 h2 ih1 ih2 =>
  intro G hG;refine ⟨by omega,by omega,by omega,fun _ hl hna s hs=>?_,by omega⟩;have h0:s=1:=by
   have:=(BF hs).1
   rw [ha] at this;simp [Mb] at this;omega
  subst h0;have q1:=(ih1 G hG).2.1 rfl 1 hs;have q2:=(ih2 G hG).2.1 rfl 1 hs;rcases ho with rfl | rfl
  ·exact ht2 .tfun q1 q2
  ·exact ht2 .tpro q1 q2
 | uni e g a n ha hp =>
  intro G hG;refine ⟨by omega,by omega,by omega,fun _ hl hna s hs=>?_,by omega⟩;have h0:s=2:=by
   have:=(BF hs).1
   rw [ha] at this;simp [Mb] at this;omega
  subst h0;exact ht0 .uU
 | unat e g a ha =>
  intro G hG;refine ⟨by omega,by omega,by omega,fun _ hl hna s hs=>?_,by omega⟩;have h0:s=2:=by
   have:=(BF hs).1
   rw [ha] at this;simp [Mb] at this;omega
  subst h0;exact ht0 .natU
 | uty e g a ha =>
  intro G hG;refine ⟨by omega,by omega,by omega,fun _ hl hna s hs=>?_,by omega⟩;have h0:s=2:=by
   have:=(BF hs).1
   rw [ha] at this;simp [Mb] at this;omega
  subst h0;exact ht0 .tyU
 | ult e g a ha =>
  intro G hG;refine ⟨by omega,by omega,by omega,fun _ hl hna s hs=>?_,by omega⟩;have h0:s=2:=by
   have:=(BF hs).1
   rw [ha] at this;simp [Mb] at this;omega
  subst h0;exact ht1 .liftU (ht0 .tint)
 | upi e g a x y op ho h6 ha hx h1 h2 ih1 ih2 =>
  intro G hG;refine ⟨by omega,by omega,by omega,fun _ hl hna s hs=>?_,by omega⟩;have h0:s=2:=by
   have:=(BF hs).1
   rw [ha] at this;simp [Mb] at this;omega
  subst h0;have q1:=(ih1 G hG).2.1 rfl 2 hs;obtain ⟨s1,hs1,g1⟩:=Atm hG q1 (PI hx (by omega));have q2:=(ih2 _ g1).2.1 rfl 2 (by
   obtain ⟨oa,na,ka⟩:=a;simp only [Tm.op] at ha;subst ha;have hk:ka=[]:=by
    have:=hna.sc
    rw [Tm.sc] at this;exact List.eq_nil_of_length_eq_zero (Option.some.inj this.1.symm)
   subst hk;exact ht0 .uT)
  rcases ho with rfl | rfl
  ·exact ht2 (.piU s1 hs1) q1 q2
  ·exact ht2 (.sigU s1 2 2 hs1 (by omega)) q1 q2
 | lam e g n d c x h1 ih =>
  intro G hG;refine ⟨by omega,by omega,by omega,fun _ hl hna s hs=>?_,by omega⟩;obtain ⟨h4,a1,b1,ha1,hb1,hd,hc⟩:=Ads (.inl rfl) hs;have h0:s=4:=by omega
  subst h0;have hna2:=hna.sc;have hnw:=hna.wt;rw [Fi] at hnw;rw [Tm.sc] at hna2;have hvb:=Le d g.length hna2.2.2.1 (by omega);exact ht2 (.lam a1 b1 (10+a1) (by omega)) hd ((ih _ (EO hG hd hvb)).2.1 rfl b1 hc)
 | pair e g n d c x y hx h1 h2 ih1 ih2 =>
  intro G hG;refine ⟨by omega,by omega,by omega,fun _ hl hna s hs=>?_,by omega⟩;obtain ⟨h5,a1,b1,ha1,hb1,hd,hc⟩:=Ads (.inr rfl) hs;have h0:s=5:=by omega
  subst h0;have hnw:=hna.wt;rw [Fi] at hnw;have qx:=(ih1 G hG).2.1 rfl a1 hd;have hsub:=Qi hc [] G a1 x rfl qx (by have:=hx.wt;rw [hG.len];simp only [List.length_nil];omega);have qy:=(ih2 G hG).2.1 rfl b1 (by simpa using hsub);exact ht3 (.pair (10+5) a1 b1) hs qx qy
 | quo e g n d x h1 ih =>
  intro G hG;refine ⟨by omega,by omega,by omega,fun _ hl hna s hs=>?_,by omega⟩;obtain ⟨h3,hd⟩:=AeI hs;subst h3;exact ht1 .quo ((ih G hG).2.2.1 rfl hd)
 | oif e g a c x y h6 h1 h2 h3 ih1 ih2 ih3 =>
  intro G hG;exact ⟨by omega,by omega,by omega,by omega,fun _ hl hna hs=>ht3 .oif ((ih1 G hG).2.2.1 rfl (ht0 .tint)) ((ih2 G hG).2.2.1 rfl hs) ((ih3 G hG).2.2.1 rfl hs)⟩
 | olet e g a r x y h6 h1 h2 ih1 ih2 =>
  intro G hG;exact ⟨by omega,by omega,by omega,by omega,fun _ hl hna hs=>ht2 .olet ((ih1 G hG).2.2.1 rfl (BH _ 1 r)) ((ih2 _ (Gy hG _)).2.2.1 rfl (up1 hG (by omega) hs (by have:=hna.wt;omega) 6))⟩
 | oapp e g a r x y h6 h1 h2 ih1 ih2 =>
  intro G hG;exact ⟨by omega,by omega,by omega,by omega,fun _ hl hna hs=>ht2 .oapp (ht2 .olam (BH _ 1 r) ((ih2 _ (Gy hG _)).2.2.1 rfl (up1 hG (by omega) hs (by have:=hna.wt;omega) 6))) ((ih1 G hG).2.2.1 rfl (BH _ 1 r))⟩
 | ofst e g a x y h6 h1 h2 ih1 ih2 =>
  intro G hG;exact ⟨by omega,by omega,by omega,by omega,fun _ hl hna hs=>ht1 .ofst (ht2 .opair ((ih1 G hG).2.2.1 rfl hs) ((ih2 G hG).2.2.1 rfl (ht0 .tint)))⟩
 | ofix e g a x h6 h1 ih =>
  intro G hG;exact ⟨by omega,by omega,by omega,by omega,fun _ hl hna hs=>ht2 .ofix hs ((ih _ (Gy hG _)).2.2.1 rfl (up1 hG (by omega) hs (by have:=hna.wt;omega) 6))⟩
 | spl e g a x h6 h1 ih =>
  intro G hG;exact ⟨by omega,by omega,by omega,by omega,fun _ hl hna hs=>ht1 .spl ((ih G hG).2.1 rfl 3 (ht1 .liftT hs))⟩
 | oint e g a n ha =>
  intro G hG;exact ⟨by omega,by omega,by omega,by omega,fun _ hl hna hs=>ht0 .oint⟩
 | oprim e g a p q n h6 ha h1 h2 ih1 ih2 =>
  intro G hG;exact ⟨by omega,by omega,by omega,by omega,fun _ hl hna hs=>ht2 .oprim ((ih1 G hG).2.2.1 rfl hs) ((ih2 G hG).2.2.1 rfl hs)⟩
 | olam e g n d c b h1 ih =>
  intro G hG;refine ⟨by omega,by omega,by omega,by omega,fun _ hl hna hs=>?_⟩;obtain ⟨hd,hc⟩:=Np (.inl rfl) hs;have hnw:=hna.wt;rw [Fi] at hnw;exact ht2 .olam hd ((ih _ (Gy hG _)).2.2.1 rfl (up1 hG (by omega) hc (by omega) 6))
 | opair e g n d c p q h1 h2 ih1 ih2 =>
  intro G hG;refine ⟨by omega,by omega,by omega,by omega,fun _ hl hna hs=>?_⟩;obtain ⟨hd,hc⟩:=Np (.inr rfl) hs;exact ht2 .opair ((ih1 G hG).2.2.1 rfl hd) ((ih2 G hG).2.2.1 rfl hc)
inductive CtxG:Bb->Prop
 | nil:CtxG []
 | ob (g:Bb) (t:Tm) (h:CtxG g) (h1:Gr 1 7 g (.mk 14 0 []) t):CtxG (g++[(0,t)])
 | me (g:Bb) (a:Tm) (h:CtxG g) (ha:AOk g.length a) (hl:g.length<=60) (h1:Gr 0 7 g .z a):CtxG (g++[(1,a)])
def Fa {k:Nat} {a:Tm} (hk:k<=1000) (h:a.sc k) (hd:a.dp<=20000):∃u e,Ev 34 [.fv a.enc] (.tuple [u.enc,.int .i64 e])/\(e=0/\NOk k u\/(e=5\/e=17)/\u=.z)/\∃f,AF f a=some (u,e):=by
 obtain ⟨f,u,e,h1,h2⟩:=Kp (k:=k) (by omega) h (by have:=Abv a;omega);refine ⟨u,e,⟨f+2,fun n hn=>AiS f a u e h1 n hn⟩,?_,f,h1⟩;rcases h2 with ⟨h3,h4,h5,h6⟩ | h2
 ·exact .inl ⟨h3,⟨h4,h5,h6⟩⟩
 ·exact .inr h2
structure TG (κ e:Nat) (g:Bb) (a t:Tm) (b:Bool):Prop where
 sc:t.sc g.length
 wt:t.wt<=Wg e
 dp:t.dp<=Dg e
 gr:b=true->Gr κ e g a t
def tg {κ e:Nat} {g:Bb} {a t:Tm} {b:Bool} (h:TOk g.length e t) (hg:b=true->Gr κ e g a t):TG κ e g a t b:=⟨h.sc,h.wt,h.dp,hg⟩
def AmY {κ e:Nat} {g:Bb} {a t:Tm} {b:Bool} (h:TG κ e g a t b) (he:e<=10):AOk g.length t:=⟨h.sc,by have:=h.wt;have:=O3 he;omega,by have:=h.dp;unfold Dg at this;omega⟩
def Am2 {κ κ' e:Nat} {g:Bb} {a a' t:Tm} {b:Bool} (h:TG κ e g a t b) (hg:Gr κ e g a t->Gr κ' e g a' t):TG κ' e g a' t b:=⟨h.sc,h.wt,h.dp,fun hb=>hg (h.gr hb)⟩
def Mm {p q:Bool} (h:(p && q)=true):p=true:=by cases p<;>simp_all
def Kf {p q:Bool} (h:(p && q)=true):q=true:=by cases p<;>simp_all
inductive PV where
 | nil
 | mk (op n:Int) (k:List PV) (t:Tm) (e:List PV)
def PV.enc:PV->FV
 | .nil=>.nilp
 | .mk op n k (.mk to tn tk) e=>.fp [.int .i64 op,.int .i64 n,.sl (encL k),.int .i64 to,.int .i64 tn,.sl (tk.map Tm.enc),encE e] 0
where
 encL:List PV->List FV
  | []=>[]
  | v::l=>v.enc::encL l
 encE:List PV->FV
  | []=>.nilp
  | v::l=>.fp [v.enc,encE l] 0
def PV.encEnv:List PV->FV
 | []=>.nilp
 | v::l=>.fp [v.enc,encEnv l] 0
theorem Ank (l:List PV):PV.enc.encL l=l.map PV.enc:=by
 induction l with
 | nil=>rfl
 | cons t l ih=>simp [PV.enc.encL,ih]
theorem AmU (l:List PV):PV.enc.encE l=PV.encEnv l:=by
 induction l with
 | nil=>rfl
 | cons t l ih=>simp [PV.enc.encE,PV.encEnv,ih]
theorem G6:PV.nil.enc=.nilp:=rfl
theorem AX (op n:Int) (k:List PV) (bo bn:Int) (bk:List Tm) (e:List PV):(PV.mk op n k (.mk bo bn bk) e).enc =
  .fp [.int .i64 op,.int .i64 n,.sl (k.map PV.enc),.int .i64 bo,.int .i64 bn,.sl (bk.map Tm.enc),PV.encEnv e] 0:=by simp only [PV.enc,Ank,AmU]
theorem WH:PV.encEnv []=.nilp:=rfl
theorem QU (v:PV) (l:List PV):PV.encEnv (v::l)=.fp [v.enc,PV.encEnv l] 0:=rfl
def PV.var (n:Int):PV:=.mk 1 n [] .z []
theorem Vu (n:Int):(PV.var n).enc=.fp [.int .i64 1,.int .i64 n,.sl [],.int .i64 0,.int .i64 0,.sl [],.nilp] 0:=by rw [PV.var,Tm.z,AX];rfl
theorem Qp (v:PV):∀l,v.enc≠.agg l:=by
 intro l h;cases v with
 | nil=>cases h
 | mk op n k t e=>obtain ⟨bo,bn,bk⟩:=t;rw [AX] at h;cases h
theorem AkL (v:PV):Il v.enc=true:=by
 cases v with
 | nil=>rfl
 | mk op n k t e=>obtain ⟨bo,bn,bk⟩:=t;rw [AX];rfl
theorem EC (v:PV):v.enc.cells=[v.enc]:=by
 cases v with
 | nil=>rfl
 | mk op n k t e=>obtain ⟨bo,bn,bk⟩:=t;rw [AX];rfl
theorem Atc {β:Type} {l:List PV} {i:Nat} {v:PV} (h:l[i]?=some v) (k:IV->Option β):AU 1 (.fv (.sl (l.map PV.enc))) (iv i) k=k (.fv (.fp [v.enc] 0)):=by
 have h1:(l.map PV.enc)[i]?=some v.enc:=by rw [List.getElem?_map,h];rfl
 rw [BS h1 (by rw [EC];rfl),EC]
theorem tPs:EE.T 127=some ⟨1,24,.slice 96,[.nils]⟩:=by kernel_rfl
theorem tPp:EE.T 96=some ⟨1,8,.ptr,[.fv .nilp]⟩:=by kernel_rfl
theorem AwH (a:PV) (s:Nat) (h:Hp) (k:KT (IV×Hp)):Ay (Aj EE 127 1 [(0,.fv a.enc)]) s h k=k (.clip [a.enc]) h [] []:=by
 cases a with
 | nil=>exact CD tPs tPp (by decide) (cells:=[.nilp]) rfl k
 | mk op n kk t e =>
  obtain ⟨bo,bn,bk⟩:=t;rw [AX];exact CD tPs tPp (by decide) (cells:=[.fp [.int .i64 op,.int .i64 n,.sl (kk.map PV.enc),.int .i64 bo,.int .i64 bn,.sl (bk.map Tm.enc),PV.encEnv e] 0]) rfl k
theorem NR (a:PV):a.enc=.nilp\/∃l,a.enc=.fp l 0:=by
 cases a with
 | nil=>exact .inl rfl
 | mk op n kk t e=>obtain ⟨bo,bn,bk⟩:=t;exact .inr ⟨_,AX ..⟩
theorem AxI (a b:PV) (s:Nat) (h:Hp) (k:KT (IV×Hp)):Ay (Aj EE 127 2 [(0,.fv a.enc),(1,.fv b.enc)]) s h k=k (.clip [a.enc,b.enc]) h [] []:=by
 have key:∀x y:FV,(x=.nilp\/∃l,x=.fp l 0)->(y=.nilp\/∃l,y=.fp l 0)->Ay (Aj EE 127 2 [(0,.fv x),(1,.fv y)]) s h k=k (.clip [x,y]) h [] []:=by
  rintro x y (rfl | ⟨la,rfl⟩) (rfl | ⟨lb,rfl⟩)
  ·exact CD (len:=2) tPs tPp (by decide) (cells:=[.nilp,.nilp]) rfl k
  ·exact CD (len:=2) tPs tPp (by decide) (cells:=[.nilp,.fp lb 0]) rfl k
  ·exact CD (len:=2) tPs tPp (by decide) (cells:=[.fp la 0,.nilp]) rfl k
  ·exact CD (len:=2) tPs tPp (by decide) (cells:=[.fp la 0,.fp lb 0]) rfl k
 exact key _ _ (NR a) (NR b)
theorem Awd (b d:PV) (s:Nat) (h:Hp) (k:KT (IV×Hp)):Ay (Aj EE 127 4 [(0,.fv .nilp),(1,.fv b.enc),(2,.fv .nilp),(3,.fv d.enc)]) s h k=k (.clip [.nilp,b.enc,.nilp,d.enc]) h [] []:=by
 have key:∀x y:FV,(x=.nilp\/∃l,x=.fp l 0)->(y=.nilp\/∃l,y=.fp l 0)->Ay (Aj EE 127 4 [(0,.fv .nilp),(1,.fv x),(2,.fv .nilp),(3,.fv y)]) s h k=k (.clip [.nilp,x,.nilp,y]) h [] []:=by
  rintro x y (rfl | ⟨la,rfl⟩) (rfl | ⟨lb,rfl⟩)
  ·exact CD (len:=4) tPs tPp (by decide) (cells:=[.nilp,.nilp,.nilp,.nilp]) rfl k
  ·exact CD (len:=4) tPs tPp (by decide) (cells:=[.nilp,.nilp,.nilp,.fp lb 0]) rfl k
  ·exact CD (len:=4) tPs tPp (by decide) (cells:=[.nilp,.fp la 0,.nilp,.nilp]) rfl k
  ·exact CD (len:=4) tPs tPp (by decide) (cells:=[.nilp,.fp la 0,.nilp,.fp lb 0]) rfl k
 exact key _ _ (NR b) (NR d)
theorem Avx {β:Type} (v:PV) (z:List IV) (o:Nat) (k:List IV->Option β):HO z o 1 (.fv v.enc) k=G9 z o (.fv v.enc) k:=by
 unfold HO;rw [Ale,AkL];rfl
theorem AlL {β:Type} (l:List PV) (z:List IV) (o:Nat) (k:List IV->Option β):HO z o 1 (.fv (PV.encEnv l)) k=G9 z o (.fv (PV.encEnv l)) k:=by
 unfold HO;rw [Ale,show Il (PV.encEnv l)=true by cases l<;>rfl]
 rfl
abbrev C4 (f:FuncId):IV:=.agg [.func (.func f) [.ptr (.ext 0) 0] []]
abbrev AuR:Blk:=.map [(5,C4 94),(8,C4 95),(9,C4 95),(13,C4 96),(30,C4 97),(19,C4 98)]
abbrev MX (s w r e:Int):List Blk:=[.row [iv s,iv w,iv r,iv e,.mapr (.ext 1)] false,AuR]
theorem Aom (s w r e:Int):∀j,Ref.own j ∉ (MX s w r e).flatMap Blk.refs:=by
 intro j h;simp only [MX,List.flatMap_cons,List.flatMap_nil,Blk.refs,IV.refs.refsL,IV.refs,ACb,ACa,List.append_nil,List.nil_append,List.cons_append,List.mem_cons,List.not_mem_nil,or_false,reduceCtorEq] at h
theorem AoO (s w r e s' w' r' e':Int):ExtX (MX s w r e) (MX s' w' r' e'):=⟨rfl,rfl,rfl⟩
section
variable {ih:Al} {f:FuncId} {w:FV} {s u r e s' u' r' e':Int} (own:List (Nat×Blk)) (k:KT (IV×Hp))
theorem AcY (args:List IV) (ks:List Bool) (hks:∀b∈ks,b=false) {vs:List FV} (hz:BK args=some vs) (hr:Bq (ih f (.ptr (.ext 0) 0::vs.map .fv) ⟨[],MX s u r e⟩) w (MX s' u' r' e')) :
  A4 (true::ks) false false ih f (.ptr (.ext 0) 0::args) ⟨own,MX s u r e⟩ k=k (.fv w) ⟨own,MX s' u' r' e'⟩ [.ext 1,.ext 0] [.ext 0,.ext 1] :=
 AdH (fun e k=>O8 0 args _ _ e k ks hks hz) (AoO ..) hr (fun _=>rfl) k
theorem F6 (hr:Bq (ih f [.ptr (.ext 0) 0] ⟨[],MX s u r e⟩) w (MX s' u' r' e')):A4 [true] false false ih f [.ptr (.ext 0) 0] ⟨own,MX s u r e⟩ k=k (.fv w) ⟨own,MX s' u' r' e'⟩ [.ext 1,.ext 0] [.ext 0,.ext 1]:=AcY own k [] [] (by simp) rfl hr
theorem RJ {a:IV} {x:FV} (hr:Bq (ih f [.ptr (.ext 0) 0,.fv x] ⟨[],MX s u r e⟩) w (MX s' u' r' e')) (ha:Bg a=some x):A4 [true,false] false false ih f [.ptr (.ext 0) 0,a] ⟨own,MX s u r e⟩ k=k (.fv w) ⟨own,MX s' u' r' e'⟩ [.ext 1,.ext 0] [.ext 0,.ext 1] :=
 AcY own k [a] [false] (by simp) (AjX ha) hr
theorem Amm {a b:IV} {x y:FV} (hr:Bq (ih f [.ptr (.ext 0) 0,.fv x,.fv y] ⟨[],MX s u r e⟩) w (MX s' u' r' e')) (ha:Bg a=some x) (hb:Bg b=some y):A4 [true,false,false] false false ih f [.ptr (.ext 0) 0,a,b] ⟨own,MX s u r e⟩ k=k (.fv w) ⟨own,MX s' u' r' e'⟩ [.ext 1,.ext 0] [.ext 0,.ext 1] :=
 AcY own k [a,b] [false,false] (by simp) (Xo ha hb) hr
theorem Tn {a b c:IV} {x y z:FV} (hr:Bq (ih f [.ptr (.ext 0) 0,.fv x,.fv y,.fv z] ⟨[],MX s u r e⟩) w (MX s' u' r' e')) (ha:Bg a=some x) (hb:Bg b=some y) (hc:Bg c=some z) :
  A4 [true,false,false,false] false false ih f [.ptr (.ext 0) 0,a,b,c] ⟨own,MX s u r e⟩ k=k (.fv w) ⟨own,MX s' u' r' e'⟩ [.ext 1,.ext 0] [.ext 0,.ext 1] :=
 AcY own k [a,b,c] [false,false,false] (by simp) (Ai6 ha hb hc) hr
end
theorem AnW {ih:Al} {f:FuncId} {w:FV} {s0:Nat} {s u r e s' u' r' e':Int} {own:List (Nat×Blk)} {cells:List IV} {ro:Bool} {fc:List FV} (hr:Bq (ih f [.ptr (.ext 0) 0,.fv (.fp fc 0)] ⟨[],MX s u r e⟩) w (MX s' u' r' e'))
  (hl:An s0 own=some (.row cells ro)) (hz:Di cells=some fc) (hn:cells.length<=300) (k:KT (IV×Hp)) :
  A4 [true,false] false false ih f [.ptr (.ext 0) 0,.ptr (.own s0) 0] ⟨own,MX s u r e⟩ k=k (.fv w) ⟨AP s0 (.row cells true) own,MX s' u' r' e'⟩ [.ext 1,.ext 0,.own s0] [.own s0,.ext 0,.ext 1]:=by
 refine AdH (ks:=[false]) (vs:=[.fp fc 0]) (u:=[(.own s0,.row cells true)]) (lg:=[.own s0]) ?_ (AoO ..) hr ?_ k
 ·intro e k;rw [Vh,YB,MY,BL,hl];simp only [Option.bind_some,J2];rw [Br,decide_eq_true hn,c_t,Aid 10 _ _ _ cells _ hz,fz0];rfl
 ·intro k
  show (GV own s0 fun _=>A9 own s0 (.row cells true) fun own=>k ⟨own,_⟩)=_
  rw [BL,hl,Option.bind_some,Ce]
theorem Aoh {ih:Al} {f:FuncId} {w:FV} {s0 s2 len:Nat} {s u r e s' u' r' e':Int} {own own':List (Nat×Blk)} {es:List FV} {ro ro2:Bool} {a b c d t x:FV} (hr:Bq (ih f [.ptr (.ext 0) 0,.fv (.fp [a,b,.sl es,c,d,t,x] 0)] ⟨[],MX s u r e⟩) w (MX s' u' r' e'))
  (hl:An s0 own=some (.row [.fv a,.fv b,.slc (.own s2) 1 len,.fv c,.fv d,.fv t,.fv x] ro)) (hl2:An s2 own=some (.row (es.map .fv) ro2)) (hlen:es.length=len) (hne:s2≠s0) (hn:es.length<=300) (ha:∀x∈es,∀l,x≠.agg l)
  (ho:AP s2 (.row (es.map .fv) true) (AP s0 (.row [.fv a,.fv b,.slc (.own s2) 1 len,.fv c,.fv d,.fv t,.fv x] true) own)=own') (k:KT (IV×Hp)) :
  A4 [true,false] false false ih f [.ptr (.ext 0) 0,.ptr (.own s0) 0] ⟨own,MX s u r e⟩ k=k (.fv w) ⟨own',MX s' u' r' e'⟩ [.ext 1,.ext 0,.own s2,.own s0] [.own s0,.own s2,.ext 0,.ext 1]:=by
 subst ho hlen;refine AdH (ks:=[false]) (vs:=[.fp [a,b,.sl es,c,d,t,x] 0]) (u:=[(.own s0,.row [.fv a,.fv b,.slc (.own s2) 1 es.length,.fv c,.fv d,.fv t,.fv x] true),(.own s2,.row (es.map .fv) true)]) (lg:=[.own s2,.own s0]) ?_ (AoO ..) hr ?_ k
 ·intro e k;rw [Vh,Avh hl hl2 hn ha,fz0];rfl
 ·intro k;have h2:∀(own:List (Nat×Blk)) (b:Blk),An s2 (AP s0 b own)=An s2 own:=by
   intro own b
   induction own with
   | nil=>simp only [AP,An,if_neg hne]
   | cons p l ih =>
    obtain ⟨j,c⟩:=p;simp only [AP];split
    ·rename_i h;subst h;simp only [An,if_neg hne]
    ·simp only [An,ih]
  show (GV own s0 fun _=>A9 own s0 _ fun own=>GV own s2 fun _=>A9 own s2 _ fun own=>k ⟨own,_⟩)=_
  rw [BL,hl,Option.bind_some,Ce,BL,h2,hl2,Option.bind_some,Ce]
theorem Av2 (e:List PV) (l:List FV):DI (PV.encEnv e::l)=DI l:=V8 (by cases e<;>rfl) l
structure M3 where
 s:Int
 w:Int
 e:Int
def Ia (m:M3):Option M3:=if m.w < -1000000000\/1000000000<m.w then none else some ⟨m.s,m.w - 1,if m.w - 1<0/\m.e=0 then 17 else m.e⟩
theorem Uv {m m':M3} (h:Ia m=some m') (r:Int) {n:Nat} (hn:0<n):Bq (SS dt n 99 [.ptr (.ext 0) 0] ⟨[],MX m.s m.w r m.e⟩) (.tuple []) (MX m'.s m'.w r m'.e):=by
 obtain ⟨n,rfl⟩:=psc n (by omega);rw [c99];unfold Ia at h;split at h
 ·cases h
 ·cases h;have hw:BM (m.w - 1)=m.w - 1:=by rw [Av]<;>omega
  by_cases h1:m.w - 1<0
  ·by_cases h2:m.e=0
   ·simp only [Sf,U1,SW,UN,S99,↓XX,XY,↓reduceIte,seval,hw,h1,h2,true_and,and_true,if_true];exact AG _ _ _
   ·simp only [Sf,U1,SW,UN,S99,↓XX,XY,↓reduceIte,seval,hw,h1,h2,and_false,if_false];exact AG _ _ _
  ·simp only [Sf,U1,SW,UN,S99,↓XX,XY,↓reduceIte,seval,hw,h1,false_and,if_false];exact AG _ _ _
def GH (env:List PV) (m:Int):PV:=if m<env.length then env.getD m.toNat .nil else .var (env.length - 1 - m)
theorem VZ:∀(env:List PV) (m:Int),0<=m->m<=2305843009213693952->∀n,env.length<n->BW (BQ n (fun q3 l4 h5=>Kz l4 h5 q3) [.fv (PV.encEnv env),iv m] ⟨[],[]⟩) (GH env m).enc:=by
 intro env m h0 h1 n hn;refine Bd (Q:=fun r=>BW r _) (fun k V H=>∃(rest:List PV) (j:Int),rest.length=k/\0<=j+env.length/\j<=m/\V=[.fv (PV.encEnv rest),iv j]/\H=⟨[],[]⟩/\GH rest j=GH env m/\0<=j) ?_ n env.length _ _ hn ⟨env,m,rfl,by omega,Int.le_refl _,rfl,rfl,rfl,h0⟩;rintro k V H rec ⟨rest,j,hl,hj,hjm,rfl,rfl,hlk,hj0⟩ hrec;have hw:BM (-1 - j)=-1 - j:=by rw [Av]<;>omega
 have hw2:BM (j - 1)=j - 1:=by rw [Av]<;>omega
 cases rest with
 | nil =>
  have:GH ([]:List PV) j=.var (-1 - j):=by
   unfold GH;rw [if_neg (by simp<;>omega)];rfl
  rw [<- hlk,this,Vu];simp only [Ob,Nl,OC,Ow,Kz,AiP,WH,↓XX,XY,↓reduceIte,seval,hw];exact ⟨_,_,rfl,.inl ⟨_,_,fun _ _=>rfl⟩⟩
 | cons v rest =>
  by_cases hz:j=0
  ·subst hz
   have:GH (v::rest) 0=v:=by
    unfold GH;rw [if_pos (by simp<;>omega)];rfl
   rw [<- hlk,this];simp only [Ob,Nl,OC,Ow,Kz,AiP,QU,↓XX,XY,↓reduceIte,seval];exact Aw _ _
  ·simp only [Ob,Nl,OC,Ow,Kz,AiP,QU,↓XX,XY,↓reduceIte,seval,hz,hw2];simp only [AB9] at hl;refine hrec rest.length _ _ (by omega) ⟨rest,j - 1,rfl,by omega,by omega,rfl,rfl,?_,by omega⟩;rw [<- hlk];unfold GH;simp only [AB9,Int.natCast_add,Int.natCast_one];by_cases h:j<rest.length+1
   ·rw [if_pos h,if_pos (by omega)];obtain ⟨i,rfl⟩:∃i:Nat,j=i+1:=⟨(j - 1).toNat,by omega⟩;rw [show ((i:Int)+1 - 1).toNat=i by omega,show ((i:Int)+1).toNat=i+1 by omega]
    rfl
   ·rw [if_neg h,if_neg (by omega)];congr 1;omega
theorem XA {n:Nat} (env:List PV) (m:Int) (h0:0<=m) (h1:m<=2305843009213693952) (hn:env.length+1<n):BW (SS dt n 100 [.fv (PV.encEnv env),iv m] ⟨[],[]⟩) (GH env m).enc:=by
 obtain ⟨n,rfl⟩:=psc n (by omega);rw [Azi];exact VZ env m h0 h1 n (by omega)
theorem ArL {n:Nat} (env l:List PV) (hl:l.length<=10) (hn:l.length+1<n):BW (SS dt n 111 [.fv (PV.encEnv env),.fv (.sl (l.map PV.enc))] ⟨[],[]⟩) (PV.encEnv (l.reverse++env)):=by
 obtain ⟨n,rfl⟩:=psc n (by omega);rw [Ayj];simp only [Nu,Ns,AjB,↓XX,XY,↓reduceIte,seval,↓AM,XD,heldB,AV,XE];refine Bd (Q:=fun r=>BW r _) (fun k V H=>∃(pre rest:List PV),l=pre++rest/\rest.length=k/\V=[.fv (PV.encEnv (pre.reverse++env)),.fv (.sl (l.map PV.enc)),iv l.length,iv pre.length]/\H=⟨[],[]⟩) ?_ n l.length _ _ (by omega) ⟨[],l,rfl,rfl,rfl,rfl⟩;rintro k V H rec ⟨pre,rest,hk,hl2,rfl,rfl⟩ hrec;have hkl:l.length=pre.length+rest.length:=by rw [hk];simp
 cases rest with
 | nil =>
  have hno:¬ ((pre.length:Int)<l.length):=by rw [hkl];simp
  rw [List.append_nil] at hk;subst hk;simp only [Nu,Ns,RW,AjB,↓XX,XY,↓reduceIte,seval,hno];exact Aw _ _
 | cons x rest =>
  have hi:(pre.length:Int)<l.length:=by rw [hkl];simp;omega
  have hg:=Cr hk;have hwi:BM ((pre.length:Int)+1)=((pre++[x]).length:Int):=(Av (by omega) (by omega)).trans (by simp);simp only [AB9] at hl2;simp only [Nu,Ns,RW,AjB,↓XX,XY,↓reduceIte,seval,hi,↓Atc hg,↓Avx,↓AlL,hwi,↓AM,XD,heldB,AV,XE];refine hrec rest.length _ _ (by omega) ⟨pre++[x],rest,by rw [hk];simp,rfl,?_,rfl⟩;simp [PV.encEnv]
def PV.op:PV->Int
 | .nil=>0
 | .mk op _ _ _ _=>op
def Tb (ev:Tm->M3->Option (PV×M3)) (op:Int):Nat->List Tm->M3->Option (List PV×M3)
 | _,[],m=>some ([],m)
 | i,t::l,m=>if 0<Ae op i then (Tb ev op (i+1) l m).map fun (vs,m)=>(.nil::vs,m) else
  match ev t m with
  | none=>none
  | some (v,m)=>(Tb ev op (i+1) l m).map fun (vs,m)=>(v::vs,m)
def CX (op:Int):Bool:=op == 5 || (op == 8 || (op == 9 || (op == 13 || (op == 30 || op == 19))))
mutual
def RL:Nat->List PV->Tm->M3->Option (PV×M3)
 | 0,_,_,_=>none
 | f+1,env,.mk op n ks,m=>match Ia m with
  | none=>none
  | some m=>if op=1 then (if 0<=n/\n<=2305843009213693952/\env.length+1<f then some (GH env n,m) else none)
   else if f<=ks.length\/300<ks.length\/f=0 then none
   else if m.e≠0 then some (.mk op n (List.replicate ks.length .nil) (.mk op n ks) env,m)
   else match Tb (fun t m=>RL f env t m) op 0 ks m with
    | none=>none
    | some (vs,m)=>if m.e≠0 then some (.mk op n vs (.mk op n ks) env,m) else ctP f (.mk op n vs (.mk op n ks) env) m
def ctP:Nat->PV->M3->Option (PV×M3)
 | 0,_,_=>none
 | f+1,v,m=>match v with
  | .nil=>none
  | .mk op n k t e=>if CX op then (if m.e≠0 then some (.mk op n k t e,m) else if f=0 then none else match Ia m with
    | none=>none
    | some m=>if m.e≠0 then some (.mk op n k t e,m) else match stP f (.mk op n k t e) m with
     | none=>none
     | some (.nil,m)=>some (.mk op n k t e,m)
     | some (u,m)=>if m.e≠0 then some (.mk op n k t e,m) else if m.s < -1000000000\/1000000000<m.s then none else
      some (u,⟨m.s - 1,m.w,if m.s - 1<0 then 17 else 0⟩))
   else some (.mk op n k t e,m)
def stP:Nat->PV->M3->Option (PV×M3)
 | 0,_,_=>none
 | f+1,v,m=>match v with
  | .nil=>none
  | .mk op n k t e=>if op=5 then (match k with
    | [.mk o0 n0 k0 t0 e0,x]=>if o0=4 then opP f (.mk o0 n0 k0 t0 e0) 1 [x] m else some (.nil,m)
    | _=>none)
   else if op=8\/op=9 then (match k with
    | [.mk o0 n0 k0 t0 e0]=>if o0=7 then (match k0 with
      | [_,x,y]=>some (if op=8 then x else y,m)
      | _=>none) else some (.nil,m)
    | _=>none)
   else if op=13 then (match k with
    | [_,z,_,.mk o3 n3 k3 t3 e3]=>if o3=11 then some (z,m) else if o3=12 then (match k3 with
      | [x]=>(match ctP f (.mk op n [.nil,z,.nil,x] t e) m with
       | none=>none
       | some (h,m)=>opP f (.mk op n k t e) 2 [x,h] m)
      | _=>none) else some (.nil,m)
    | _=>none)
   else (
      match k with
    | [.mk o0 n0 k0 t0 e0]=>if o0=(if op=30 then 19 else 30) then (match k0 with
      | [x]=>some (x,m)
      | _=>none) else some (.nil,m)
    | _=>none)
def opP:Nat->PV->Nat->List PV->M3->Option (PV×M3)
 | 0,_,_,_,_=>none
 | f+1,v,i,l,m=>match v with
  | .nil=>none
  | .mk _ _ _ (.mk _ _ tk) e=>if f<=l.length+1\/10<l.length then none else match tk[i]? with
   | none=>none
   | some b=>RL f (l.reverse++e) b m
end
theorem tMk:(EE.T 98).map (·.kind)=some (.map 3 124):=by kernel_rfl
theorem tIk:(EE.T 3).map (·.kind)=some (.int .i64):=by kernel_rfl
theorem tRz:(EE.T 124).bind TJ=some (.fv (.agg [.nilf])):=by kernel_rfl
def K0:List (Int×IV):=[(5,C4 94),(8,C4 95),(9,C4 95),(13,C4 96),(30,C4 97),(19,C4 98)]
theorem Axj (op:Int) (own:List (Nat×Blk)) (s w r e:Int):(G7 EE 98 (.mapr (.ext 1)) (iv op) true).runLog ⟨own,MX s w r e⟩ [] =
  some ((match C9 op K0 with
   | some v=>({ eff:={ val:=CC [v,.fv (.bool true)] } }:Made)
   | none=>{ eff:={ val:=CC [.fv (.agg [.nilf]),.fv (.bool false)] } }),[.ext 1]):=by
 have h1:=tMk;have h2:=tIk;have h3:=tRz;cases hm:EE.T 98 with
 | none=>rw [hm] at h1;cases h1
 | some ti =>
  cases hi:EE.T 3 with
  | none=>rw [hi] at h2;cases h2
  | some ii =>
   cases hr:EE.T 124 with
   | none=>rw [hr] at h3;cases h3
   | some ri =>
    rw [hm] at h1;rw [hi] at h2;rw [hr] at h3;obtain ⟨a,b,kd,z⟩:=ti;obtain ⟨a2,b2,kd2,z2⟩:=ii;simp only [AB8,AB5] at h1 h2;simp only [Option.bind_some] at h3;subst h1 h2;simp only [G7,hm,hi,hr,YF,Rd.runLog,Hp.get,MX,List.getElem?_cons_succ,List.getElem?_cons_zero]
    show (match C9 op K0 with | some v=>val (CC [v,.fv (.bool true)]) | none=>_).runLog _ _=_
    cases C9 op K0 with
    | some v=>rfl
    | none=>simp only [h3];rfl
theorem Mk {op:Int} {g:FuncId} (hg:C9 op K0=some (C4 g)) (s0:Nat) (own:List (Nat×Blk)) (s w r e:Int) (k:KT (IV×Hp)) :
  Ay (G7 EE 98 (.mapr (.ext 1)) (iv op) true) s0 ⟨own,MX s w r e⟩ k=k (.tuple [C4 g,.fv (.bool true)]) ⟨own,MX s w r e⟩ [.ext 1] []:=by
 unfold Ay;rw [Axj,hg];simp only [J1,Cw];rfl
theorem Ap7 {op:Int} (hg:C9 op K0=none) (s0:Nat) (own:List (Nat×Blk)) (s w r e:Int) (k:KT (IV×Hp)) :
  Ay (G7 EE 98 (.mapr (.ext 1)) (iv op) true) s0 ⟨own,MX s w r e⟩ k=k (.fv (.tuple [.agg [.nilf],.bool false])) ⟨own,MX s w r e⟩ [.ext 1] []:=by
 unfold Ay;rw [Axj,hg];simp only [J1,Cw];rfl
theorem Ag7 (op:Int):C9 op K0=if op=5 then some (C4 94) else if op=8\/op=9 then some (C4 95) else if op=13 then some (C4 96) else
  if op=30 then some (C4 97) else if op=19 then some (C4 98) else none:=by
 simp only [K0,C9];split
 ·rfl
 ·split
  ·rename_i h;rw [if_pos (.inl h)]
  ·split
   ·rename_i h;rw [if_pos (.inr h)]
   ·rename_i h1 h2;simp only [h1,h2,or_self,if_false]
theorem VX {g:FuncId} (h:EE.pol.inl g=false) (h1:EE.pol.keep g=[true,false]) (h2:EE.pol.split g=false) (h3:EE.pol.raw g=false) (ih:Al) (x:IV) (h0:Hp) (k:KT (IV×Hp)) :
  FW EE ih (.func (.func g) [.ptr (.ext 0) 0] []) [x] h0 k=A4 [true,false] false false ih g [.ptr (.ext 0) 0,x] h0 k:=by
 unfold FW;simp only [callee,h,cond_false,Ama,h1,h2,h3];rfl
theorem Asw (ih:Al) (x:IV) (h0:Hp) (k:KT (IV×Hp)):FW EE ih (.func (.func 94) [.ptr (.ext 0) 0] []) [x] h0 k=A4 [true,false] false false ih 94 [.ptr (.ext 0) 0,x] h0 k :=
 VX (by kernel_rfl) (by kernel_rfl) (by kernel_rfl) (by kernel_rfl) ..
theorem AdB (ih:Al) (x:IV) (h0:Hp) (k:KT (IV×Hp)):FW EE ih (.func (.func 95) [.ptr (.ext 0) 0] []) [x] h0 k=A4 [true,false] false false ih 95 [.ptr (.ext 0) 0,x] h0 k :=
 VX (by kernel_rfl) (by kernel_rfl) (by kernel_rfl) (by kernel_rfl) ..
theorem AsE (ih:Al) (x:IV) (h0:Hp) (k:KT (IV×Hp)):FW EE ih (.func (.func 96) [.ptr (.ext 0) 0] []) [x] h0 k=A4 [true,false] false false ih 96 [.ptr (.ext 0) 0,x] h0 k :=
 VX (by kernel_rfl) (by kernel_rfl) (by kernel_rfl) (by kernel_rfl) ..
theorem Aq1 (ih:Al) (x:IV) (h0:Hp) (k:KT (IV×Hp)):FW EE ih (.func (.func 97) [.ptr (.ext 0) 0] []) [x] h0 k=A4 [true,false] false false ih 97 [.ptr (.ext 0) 0,x] h0 k :=
 VX (by kernel_rfl) (by kernel_rfl) (by kernel_rfl) (by kernel_rfl) ..
theorem AtT (ih:Al) (x:IV) (h0:Hp) (k:KT (IV×Hp)):FW EE ih (.func (.func 98) [.ptr (.ext 0) 0] []) [x] h0 k=A4 [true,false] false false ih 98 [.ptr (.ext 0) 0,x] h0 k :=
 VX (by kernel_rfl) (by kernel_rfl) (by kernel_rfl) (by kernel_rfl) ..
theorem Ad9 (cs:List FV) (o:Nat) (k:IV->Option (IV×Hp)):AS EE 96 (.fv (.fp cs o)) (.fv .nilp) k=k (.fv (.bool false)):=by
 have:FP EE .eql 96 (.fv (.fp cs o)) (.fv .nilp)=some (.fv (.bool false)):=by
  simp only [FP,tPp];rfl
 show Eh (FP EE .eql 96 (.fv (.fp cs o)) (.fv .nilp)) k=_
 rw [this];rfl
theorem AfJ (k:IV->Option (IV×Hp)):AS EE 96 (.fv .nilp) (.fv .nilp) k=k (.fv (.bool true)):=by
 have:FP EE .eql 96 (.fv .nilp) (.fv .nilp)=some (.fv (.bool true)):=by
  simp only [FP,tPp];rfl
 show Eh (FP EE .eql 96 (.fv .nilp) (.fv .nilp)) k=_
 rw [this];rfl
theorem IT (g:FuncId) (s0:Nat) (ext:List Blk) (k:Hp->List Ref->List Ref->Option (IV×Hp)):Ah 1 (.ptr (.own s0) 0) (C4 g) ⟨[(s0,.row [.fv .nilf] false)],ext⟩ k=k ⟨[(s0,.row [.func (.func g) [.ptr (.ext 0) 0] []] false)],ext⟩ [.own s0] [.own s0]:=by
 simp only [Ah,Yr,SN,MY,AqJ,Ahg];rw [if_pos ⟨rfl,rfl,by simp,rfl,rfl⟩,Ama]
 show Gi (.own s0) (.row [.func (.func g) [.ptr (.ext 0) 0] []] false) _ _=_
 rw [AcJ,AqO]
def Apu (f:Nat):Prop:=∀(env:List PV) (t:Tm) (m m':M3) (v:PV),RL f env t m=some (v,m')->∀(r:Int) (n:Nat),f+1<=n ->
 Bq (SS dt n 71 [.ptr (.ext 0) 0,.fv (PV.encEnv env),.fv t.enc] ⟨[],MX m.s m.w r m.e⟩) v.enc (MX m'.s m'.w r m'.e)
def Aqe (f:Nat):Prop:=∀(v u:PV) (m m':M3),ctP f v m=some (u,m')->∀(r:Int) (n:Nat),f+1<=n ->
 Bq (SS dt n 102 [.ptr (.ext 0) 0,.fv v.enc] ⟨[],MX m.s m.w r m.e⟩) u.enc (MX m'.s m'.w r m'.e)
def JZ (op:Int):FuncId:=if op=5 then 94 else if op=8\/op=9 then 95 else if op=13 then 96 else if op=30 then 97 else 98
def AtF (f:Nat):Prop:=∀(v u:PV) (m m':M3),CX v.op=true->stP f v m=some (u,m')->∀(r:Int) (n:Nat),f+1<=n ->
 Bq (SS dt n (JZ v.op) [.ptr (.ext 0) 0,.fv v.enc] ⟨[],MX m.s m.w r m.e⟩) u.enc (MX m'.s m'.w r m'.e)
def AkZ (f:Nat):Prop:=∀(v u:PV) (i:Nat) (l:List PV) (m m':M3),opP f v i l m=some (u,m')->∀(r:Int) (n:Nat),f+1<=n ->
 Bq (SS dt n 103 [.ptr (.ext 0) 0,.fv v.enc,iv i,.fv (.sl (l.map PV.enc))] ⟨[],MX m.s m.w r m.e⟩) u.enc (MX m'.s m'.w r m'.e)
def Hj {op:Int} (h:CX op=true):C9 op K0=some (C4 (JZ op)):=by
 rw [Ag7];unfold JZ;simp only [CX,Bool.or_eq_true,beq_iff_eq] at h;rcases h with h | h | h | h | h | h<;>subst h<;>rfl
def Ai1 {op:Int} (h:CX op=false):C9 op K0=none:=by
 rw [Ag7];simp only [CX,Bool.or_eq_false_iff,beq_eq_false_iff_ne,ne_eq] at h;obtain ⟨h1,h2,h3,h4,h5,h6⟩:=h;simp only [h1,h2,h3,h4,h5,h6,or_self,if_false]
def Nj {op:Int} (h:CX op=true) (ih:Al) (x:IV) (h0:Hp) (k:KT (IV×Hp)) :
  FW EE ih (.func (.func (JZ op)) [.ptr (.ext 0) 0] []) [x] h0 k=A4 [true,false] false false ih (JZ op) [.ptr (.ext 0) 0,x] h0 k:=by
 simp only [CX,Bool.or_eq_true,beq_iff_eq] at h;rcases h with h | h | h | h | h | h<;>subst h
 ·exact Asw ..
 ·exact AdB ..
 ·exact AdB ..
 ·exact AsE ..
 ·exact Aq1 ..
 ·exact AtT ..
theorem Apq {f:Nat} (hs:AtF f):Aqe (f+1):=by
 intro v u m m' hev r n hn;obtain ⟨n,rfl⟩:=psc n (by omega);rw [Azp];cases v with
 | nil=>rw [ctP] at hev;cases hev
 | mk op nn k t e =>
 rw [ctP] at hev;have hs:=hs (.mk op nn k t e);obtain ⟨bo,bn,bk⟩:=t;rw [AX] at hs ⊢;cases hr:CX op with
 | false =>
  simp only [hr,Bool.false_eq_true,if_false,AB5,AB6] at hev;obtain ⟨rfl,rfl⟩:=hev;rw [AX];simp only [↓X9,↓XX,XY,↓reduceIte,seval,↓Ap7 (Ai1 hr)];exact AG _ _ _
 | true =>
  simp only [hr,if_true] at hev;by_cases h0:m.e≠0
  ·rw [if_pos h0] at hev;simp only [AB5,AB6] at hev;obtain ⟨rfl,rfl⟩:=hev;rw [AX];simp only [↓X9,↓XX,XY,↓reduceIte,seval,↓Mk (Hj hr),↓IT,h0];exact AG _ _ _
  ·rw [if_neg h0] at hev;have h0:m.e=0:=by simpa using h0
   split at hev
   ·cases hev
   ·rename_i hf0;cases ht:Ia m with
    | none=>rw [ht] at hev;cases hev
    | some m1 =>
     rw [ht] at hev;simp only at hev;have hc1:=Uv ht r (n:=n) (by omega);by_cases h1:m1.e≠0
     ·rw [if_pos h1] at hev;simp only [AB5,AB6] at hev;obtain ⟨rfl,rfl⟩:=hev;rw [AX];simp only [h0] at hc1;simp only [↓X9,↓XX,XY,↓reduceIte,seval,↓Mk (Hj hr),↓IT,h0,↓F6 _ _ hc1,h1];exact AG _ _ _
     ·rw [if_neg h1] at hev;have h1:m1.e=0:=by simpa using h1
      cases hst:stP f (.mk op nn k (.mk bo bn bk) e) m1 with
      | none=>rw [hst] at hev;cases hev
      | some q =>
       obtain ⟨x,m2⟩:=q;rw [hst] at hev;have hc2:=hs x m1 m2 hr hst r n (by omega);simp only [PV.op] at hc2;simp only [h0] at hc1;simp only [h1] at hc1 hc2;cases x with
       | nil =>
        simp only [AB5,AB6] at hev;obtain ⟨rfl,rfl⟩:=hev;rw [AX];rw [G6] at hc2;simp only [↓X9,↓XX,XY,↓reduceIte,seval,↓Mk (Hj hr),↓IT,h0,↓F6 _ _ hc1,h1,↓Nj hr,↓RJ _ _ hc2,↓Ad9,↓AfJ];exact AG _ _ _
       | mk op2 nn2 k2 t2 e2 =>
        simp only at hev;obtain ⟨bo2,bn2,bk2⟩:=t2;by_cases h2:m2.e≠0
        ·rw [if_pos h2] at hev;simp only [AB5,AB6] at hev;obtain ⟨rfl,rfl⟩:=hev;rw [AX] at hc2 ⊢;simp only [↓X9,↓XX,XY,↓reduceIte,seval,↓Mk (Hj hr),↓IT,h0,↓F6 _ _ hc1,h1,↓Nj hr,↓RJ _ _ hc2,↓Ad9,↓AfJ,h2];exact AG _ _ _
        ·rw [if_neg h2] at hev;have h2:m2.e=0:=by simpa using h2
         split at hev
         ·cases hev
         ·simp only [AB5,AB6] at hev;obtain ⟨rfl,rfl⟩:=hev;have hw:BM (m2.s - 1)=m2.s - 1:=by rw [Av]<;>omega
          rw [AX] at hc2 ⊢;simp only [h2] at hc2;by_cases h3:m2.s - 1<0
          ·simp only [↓X9,↓XX,XY,↓reduceIte,seval,↓Mk (Hj hr),↓IT,h0,↓F6 _ _ hc1,h1,↓Nj hr,↓RJ _ _ hc2,↓Ad9,↓AfJ,h2,hw,h3];exact AG _ _ _
          ·simp only [↓X9,↓XX,XY,↓reduceIte,seval,↓Mk (Hj hr),↓IT,h0,↓F6 _ _ hc1,h1,↓Nj hr,↓RJ _ _ hc2,↓Ad9,↓AfJ,h2,hw,h3];exact AG _ _ _
theorem ixg {β:Type} {l:List FV} {i:Nat} {x:FV} (h:l[i]?=some x) (hx:x.cells=[x]) (k:IV->Option β):AU 1 (.fv (.sl l)) (iv i) k=k (.fv (.fp [x] 0)):=by
 rw [BS h (by rw [hx];rfl),hx]
section
variable {β:Type} (a b c:FV) (l:List FV) (cs:List FV) (o:Nat) (v:PV) (k:IV->Option β)
theorem Ay6:AU 1 (.fv (.sl (.fp cs o::l))) (iv 0) k=k (.fv (.fp [.fp cs o] 0)):=ixg (i:=0) rfl rfl k
theorem Azz:AU 1 (.fv (.sl (v.enc::l))) (iv 0) k=k (.fv (.fp [v.enc] 0)):=ixg (i:=0) rfl (EC v) k
theorem Ayp:AU 1 (.fv (.sl (a :: .fp cs o::l))) (iv 1) k=k (.fv (.fp [.fp cs o] 0)):=ixg (i:=1) rfl rfl k
theorem AyK:AU 1 (.fv (.sl (a::v.enc::l))) (iv 1) k=k (.fv (.fp [v.enc] 0)):=ixg (i:=1) rfl (EC v) k
theorem AzI:AU 1 (.fv (.sl (a::b :: .fp cs o::l))) (iv 2) k=k (.fv (.fp [.fp cs o] 0)):=ixg (i:=2) rfl rfl k
theorem Azw:AU 1 (.fv (.sl (a::b::v.enc::l))) (iv 2) k=k (.fv (.fp [v.enc] 0)):=ixg (i:=2) rfl (EC v) k
theorem AyU:AU 1 (.fv (.sl (a::b::c :: .fp cs o::l))) (iv 3) k=k (.fv (.fp [.fp cs o] 0)):=ixg (i:=3) rfl rfl k
theorem AzD:AU 1 (.fv (.sl (a::b::c::v.enc::l))) (iv 3) k=k (.fv (.fp [v.enc] 0)):=ixg (i:=3) rfl (EC v) k
end
def XI:=AB4 @Ay6<|AB4 @Ayp<|AB4 @AzI<|AB4 @AyU<|AB4 @Azz<|AB4 @AyK<|AB4 @Azw @AzD
theorem Awx {β:Type} (o p:Nat) (cs:List FV) (k:IV->Option β):Ab o (.fv (.fp cs p)) k=k (.fv (.fp cs (p+o))):=by rw [QY]
theorem AuM (s:Nat) (b:Blk) (l:List (Nat×Blk)):An s ((s,b)::l)=some b:=by simp only [An,if_true]
theorem Aph {f:Nat} (he:Apu f):AkZ (f+1):=by
 intro v u i l m m' hev r n hn;obtain ⟨n,rfl⟩:=psc n (by omega);rw [AzQ];cases v with
 | nil=>rw [opP] at hev;cases hev
 | mk op nn k t e =>
 obtain ⟨bo,bn,bk⟩:=t;rw [opP] at hev;split at hev
 ·cases hev
 ·rename_i hf;cases hb:bk[i]? with
  | none=>rw [hb] at hev;cases hev
  | some b =>
   rw [hb] at hev;simp only at hev;have hw:=ArL (n:=n) e l (by omega) (by omega);have hc:=he _ _ _ _ _ hev r n (by omega);rw [AX];obtain ⟨b1,b2,b3⟩:=b;have hg:=AY hb;rw [Ag] at hc;simp only [Agd,Ad3,Apt,↓XX,XY,↓reduceIte,seval,↓Ad hw,↓BS hg (BA _ _ _),↓CB,↓Awx,↓Amm _ _ hc];exact AG _ _ _
theorem Wa {n:Nat} (hn:0<n) (op nn:Int) (o0 n0:Int) (k0:List PV) (t0:Tm) (e0:List PV) (t:Tm) (e:List PV) (want:Int) (hk:o0=want->∃x,k0=[x]) :
  BW (SS dt n 109 [.fv (PV.mk op nn [.mk o0 n0 k0 t0 e0] t e).enc,iv want] ⟨[],[]⟩) (if o0=want then k0.headD .nil else .nil).enc:=by
 obtain ⟨n,rfl⟩:=psc n (by omega);rw [AyY];obtain ⟨bo,bn,bk⟩:=t;obtain ⟨co,cn,ck⟩:=t0;rw [AX,ACb,ACa,AX];by_cases h:o0=want
 ·obtain ⟨x,rfl⟩:=hk h;rw [if_pos h];simp only [UO,UH,Sa,AlD,↓XX,XY,↓reduceIte,seval,↓XI,h,List.headD_cons];exact Aw _ _
 ·rw [if_neg h,G6];simp only [UO,UH,Sa,AlD,↓XX,XY,↓reduceIte,seval,↓XI,h];exact Aw _ _
theorem Aoc {f:Nat} (hc:Aqe f) (ho:AkZ f):AtF (f+1):=by
 intro v u m m' hr hev r n hn;obtain ⟨n,rfl⟩:=psc n (by omega);cases v with
 | nil=>rw [stP] at hev;cases hev
 | mk op nn k t e =>
 obtain ⟨bo,bn,bk⟩:=t;rw [stP.eq_def] at hev;simp only at hev;simp only [PV.op] at hr ⊢;by_cases h5:op=5
 ·subst h5;rw [if_pos rfl] at hev;rw [show JZ 5=94 from rfl,c94]
  match k,hev with
  | [.mk o0 n0 k0 t0 e0,x],hev =>
   simp only at hev;obtain ⟨co,cn,ck⟩:=t0;by_cases h4:o0=4
   ·subst h4;rw [if_pos rfl] at hev;have hq:=ho _ _ _ _ _ _ hev r n (by omega);rw [AX] at hq ⊢;simp only [ACb,ACa,AX] at hq ⊢;simp only [YC,XQ,YV,S94,↓XX,XY,↓reduceIte,seval,↓XI,↓AwH,↓Tn _ _ hq];exact AG _ _ _
   ·rw [if_neg h4] at hev;simp only [AB5,AB6] at hev;obtain ⟨rfl,rfl⟩:=hev;rw [AX];simp only [ACb,ACa,AX,G6];simp only [YC,XQ,YV,S94,↓XX,XY,↓reduceIte,seval,↓XI,h4];exact AG _ _ _
 ·rw [if_neg h5] at hev;by_cases h8:op=8\/op=9
  ·rw [if_pos h8] at hev;rw [show JZ op=95 by rcases h8 with rfl | rfl<;>rfl,c95]
   match k,hev with
   | [.mk o0 n0 k0 t0 e0],hev =>
    simp only at hev;obtain ⟨co,cn,ck⟩:=t0;by_cases h7:o0=7
    ·subst h7;rw [if_pos rfl] at hev
     match k0,hev with
     | [w,x,y],hev =>
      simp only [AB5,AB6] at hev;obtain ⟨rfl,rfl⟩:=hev;rw [AX];simp only [ACb,ACa,AX];rcases h8 with rfl | rfl
      ·simp only [R2,SC,UZ,TO,S95,↓XX,XY,↓reduceIte,seval,↓XI];exact AG _ _ _
      ·simp only [R2,SC,UZ,TO,S95,↓XX,XY,↓reduceIte,seval,↓XI];exact AG _ _ _
    ·rw [if_neg h7] at hev;simp only [AB5,AB6] at hev;obtain ⟨rfl,rfl⟩:=hev;rw [AX];simp only [ACb,ACa,AX,G6];simp only [R2,SC,UZ,TO,S95,↓XX,XY,↓reduceIte,seval,↓XI,h7];exact AG _ _ _
  ·rw [if_neg h8] at hev;by_cases h13:op=13
   ·subst h13;rw [if_pos rfl] at hev;rw [show JZ 13=96 from rfl,c96]
    match k,hev with
    | [p0,z,p2,.mk o3 n3 k3 t3 e3],hev =>
     simp only at hev;obtain ⟨co,cn,ck⟩:=t3;by_cases h11:o3=11
     ·subst h11;rw [if_pos rfl] at hev;simp only [AB5,AB6] at hev;obtain ⟨rfl,rfl⟩:=hev;rw [AX];simp only [ACb,ACa,AX];simp only [TZ,To,S7,Uh,SE,TS,Tg,SP,UG,Sd,S96,↓XX,XY,↓reduceIte,seval,↓XI];exact AG _ _ _
     ·rw [if_neg h11] at hev;by_cases h12:o3=12
      ·subst h12;rw [if_pos rfl] at hev
       match k3,hev with
       | [x],hev =>
        simp only at hev;cases hcc:ctP f (.mk 13 nn [.nil,z,.nil,x] (.mk bo bn bk) e) m with
        | none=>rw [hcc] at hev;cases hev
        | some q =>
         obtain ⟨h,m1⟩:=q;rw [hcc] at hev;have hq1:=hc _ _ _ _ hcc r n (by omega);have hq2:=ho _ _ _ _ _ _ hev r n (by omega);rw [AX] at hq1 hq2 ⊢;simp only [ACb,ACa,AX,G6] at hq1 hq2 ⊢;simp only [TZ,To,S7,Uh,SE,TS,Tg,SP,UG,Sd,S96,↓XX,XY,↓reduceIte,seval,↓XI,↓Awd,↓Av2]
         (try unfold is0);rw [AnW hq1 (s0:=100669443) (AuM ..) rfl (by simp)]
         simp only [↓XX,XY,↓reduceIte,seval,↓AxI,↓Tn _ _ hq2];exact AG _ _ _
      ·rw [if_neg h12] at hev;simp only [AB5,AB6] at hev;obtain ⟨rfl,rfl⟩:=hev;rw [AX];simp only [ACb,ACa,AX,G6];simp only [TZ,To,S7,Uh,SE,TS,Tg,SP,UG,Sd,S96,↓XX,XY,↓reduceIte,seval,↓XI,h11,h12];exact AG _ _ _
   ·rw [if_neg h13] at hev
    match k,hev with
    | [.mk o0 n0 k0 t0 e0],hev =>
     simp only at hev;have h30:op=30\/op=19:=by
      simp only [CX,Bool.or_eq_true,beq_iff_eq] at hr;omega
     have hu:((o0=(if op=30 then 19 else 30)->∃x,k0=[x])/\(if o0=(if op=30 then 19 else 30) then k0.headD .nil else .nil)=u/\m=m'):=by
      by_cases ho0:o0=(if op=30 then 19 else 30)
      ·rw [if_pos ho0] at hev
       match k0,hev with
       | [x],hev =>
        simp only [AB5,AB6] at hev;obtain ⟨rfl,rfl⟩:=hev;exact ⟨fun _=>⟨_,rfl⟩,by rw [if_pos ho0];rfl,rfl⟩
      ·rw [if_neg ho0] at hev;simp only [AB5,AB6] at hev;obtain ⟨rfl,rfl⟩:=hev;exact ⟨fun h=>absurd h ho0,by rw [if_neg ho0],rfl⟩
     obtain ⟨hu1,rfl,rfl⟩:=hu;rcases h30 with rfl | rfl
     ·rw [show JZ 30=97 from rfl,c97]
      rw [show (if (30:Int)=30 then (19:Int) else 30)=19 from rfl] at hu1 ⊢
      have hw:=Wa (n:=n) (by omega) 30 nn o0 n0 k0 t0 e0 (.mk bo bn bk) e 19 hu1;simp only [S97,↓XX,XY,↓reduceIte,seval,↓Ad hw];exact AG _ _ _
     ·rw [show JZ 19=98 from rfl,c98]
      rw [show (if (19:Int)=30 then (19:Int) else 30)=30 from rfl] at hu1 ⊢
      have hw:=Wa (n:=n) (by omega) 19 nn o0 n0 k0 t0 e0 (.mk bo bn bk) e 30 hu1;simp only [S98,↓XX,XY,↓reduceIte,seval,↓Ad hw];exact AG _ _ _
def AoF (ih:Al) (xs:List IV) (h0:Hp) (k:KT (IV×Hp)):FW EE ih (.fv (.func (.func 110) [] [])) xs h0 k=A4 [] false false ih 110 xs h0 k :=
 Aw9 (by kernel_rfl) (by kernel_rfl) (by kernel_rfl) (by kernel_rfl) ..
def Ajn {n:Nat} (hn:0<n) (op:Int) (i:Nat):BW (SS dt n 110 [iv op,iv i] ⟨[],[]⟩) (.int .i64 (Ae op i)):=by
 obtain ⟨n,rfl⟩:=psc n (by omega);rw [AyW];unfold Ae;by_cases h:op=3\/op=4\/op=6\/op=20\/op=28\/op=29
 ·rw [if_pos h];by_cases hi:i=1
  ·subst hi;rcases h with rfl | rfl | rfl | rfl | rfl | rfl<;>(simp only [↓AjC,↓XX,XY,↓reduceIte,seval];exact Aw _ _)
  ·have hi':¬ (i:Int)=1:=by omega
   rcases h with rfl | rfl | rfl | rfl | rfl | rfl<;>(simp only [↓AjC,↓XX,XY,↓reduceIte,seval,hi',hi];exact Aw _ _)
 ·rw [if_neg h];have h3:¬ op=3:=fun e=>h (by simp [e]);have h4:¬ op=4:=fun e=>h (by simp [e]);have h6:¬ op=6:=fun e=>h (by simp [e]);have h20:¬ op=20:=fun e=>h (by simp [e]);have h28:¬ op=28:=fun e=>h (by simp [e]);have h29:¬ op=29:=fun e=>h (by simp [e]);by_cases h13:op=13
  ·subst h13;by_cases h0:i=0
   ·subst h0;simp only [↓AjC,↓XX,XY,↓reduceIte,seval];exact Aw _ _
   ·have h0':¬ (i:Int)=0:=by omega
    by_cases h2:i=2
    ·subst h2;simp only [↓AjC,↓XX,XY,↓reduceIte,seval];exact Aw _ _
    ·have h2':¬ (i:Int)=2:=by omega
     simp only [↓AjC,↓XX,XY,↓reduceIte,seval,h0,h0',h2,h2'];exact Aw _ _
  ·simp only [↓AjC,↓XX,XY,↓reduceIte,seval,h3,h4,h6,h20,h28,h29,h13];exact Aw _ _
def V1 {n:Nat} (hn:1<n) (op:Int) (i:Nat):BW (SS dt n 101 [iv op,iv i] ⟨[],[]⟩) (.int .i64 (Ae op i)):=by
 obtain ⟨n,rfl⟩:=psc n (by omega);rw [AzH];have h:=Ajn (n:=n) (by omega) op i;simp only [Ao2,↓XX,XY,↓reduceIte,seval,↓AoF,↓Ad h];exact Aw _ _
theorem AmX {β:Type}:∀(l:List IV) (i:Nat) (x:IV) (k:List IV->Option β),i<l.length->G9 l i x k=k (l.set i x)
 | [],i,x,k,h=>absurd h (by simp)
 | y::l,0,x,k,_=>rfl
 | y::l,i+1,x,k,h=>by
  show G9 l i x (fun t=>k (y::t))=_
  rw [AmX l i x _ (by simpa using h)];rfl
def nils (n:Nat):List PV:=List.replicate n .nil
theorem Apm (n:Nat):QN n [IV.fv .nilp]=((nils n).map PV.enc).map IV.fv:=by
 induction n with
 | zero=>rfl
 | succ n ih=>rw [QN,ih];rfl
def AsR {n:Nat} (hn:n<=1000) (s:Nat) (own:List (Nat×Blk)) (ext:List Blk) (k:KT (IV×Hp)) :
  Ay (B6 EE s 127 (iv n) (iv n)) s ⟨own,ext⟩ k=CW own s (A9 own s (.row (((nils n).map PV.enc).map IV.fv) false) fun own=>k (.slc (.own s) 1 n) ⟨own,ext⟩ [] [.own s]):=by
 have:B6 EE s 127 (iv n) (iv n)=.ret { eff:={ val:=.slc (.own s) 1 n },new:=some (.row (((nils n).map PV.enc).map IV.fv) false) }:=by
  simp only [B6,tPs,tPp,YF];rw [if_pos ⟨by omega,by omega,by omega,by decide,by decide⟩,Int.toNat_natCast,Apm]
 rw [this];unfold Ay;simp only [Rd.runLog,J1,CY,Cw];rfl
theorem Ash (v:PV):IV.one (.fv v.enc)=true:=by
 cases v with
 | nil=>rfl
 | mk op n k t e=>obtain ⟨bo,bn,bk⟩:=t;rw [AX];rfl
def Aqt {β:Type} {n i:Nat} (h:i<n) (r:Ref) (k:IV->Option β):AU 1 (.slc r 1 n) (iv i) k=k (.ptr r i):=by
 have e1:Nat.ble (Nat.succ i) n=true:=by rw [Br];exact decide_eq_true h
 show (AiR (iv i) fun n'=>cond (and (Nat.ble (Nat.succ n') n) (Nat.beq 1 1)) (Ej (n' * 1) fun o=>k (.ptr r o)) none)=_
 show (cond (and (Nat.ble (Nat.succ i) n) (Nat.beq 1 1)) (Ej (i * 1) fun o=>k (.ptr r o)) none)=_
 rw [e1];simp only [B4,Nat.mul_one];rfl
def AqG {done:List PV} {r:Nat} {β:Type} (v:PV) (k:List IV->Option β):G9 (((done++nils (r+1)).map PV.enc).map IV.fv) done.length (.fv v.enc) k=k ((((done++[v])++nils r).map PV.enc).map IV.fv):=by
 rw [AmX _ _ _ _ (by simp [nils])];congr 1;simp only [nils,List.replicate_succ,List.map_append,ACb,List.append_assoc,List.cons_append,List.nil_append,ACa];rw [List.set_append_right _ _ (by simp)];simp
abbrev Hev (op m:Int) (ks:List Tm) (env kk:List PV) (ro:Bool) (s w r e:Int):Hp :=
 ⟨[(74448896,.row [iv op,iv m,.fv (.sl (ks.map Tm.enc))] false),(74452999,.row ((kk.map PV.enc).map .fv) ro),(74453003,.row [iv op,iv m,.slc (.own 74452999) 1 ks.length,iv op,iv m,.fv (.sl (ks.map Tm.enc)),.fv (PV.encEnv env)] ro)],MX s w r e⟩
def GT {base rm:List Nat} {vals:List IV} {own:List (Nat×Blk)} {s w r e:Int} (hb:rm.any base.contains=false) (hf:AV rm vals own []=true) (k:Hp->Option (IV×Hp)) :
  BO base rm vals ⟨own,MX s w r e⟩ k=k ⟨HY rm vals own [],MX s w r e⟩:=Alp (fun j=>Aom s w r e j) hb hf k
def AkO {op m:Int} {ks:List Tm} {env kk:List PV} {s w r e:Int} (hl:kk.length=ks.length) (h3:ks.length<=300):Bq (some (.ptr (.own 74453003) 0,Hev op m ks env kk false s w r e)) (PV.mk op m kk (.mk op m ks) env).enc (MX s w r e):=by
 rw [AX];have hl':ks.length=(kk.map PV.enc).length:=by simp [hl]
 have:=fun (e0:Option (IV×Hp)) (K:FV->List (Ref×Blk)->List Ref->Option (IV×Hp))=>Avh (s:=74453003) (s2:=74452999) (own:=(Hev op m ks env kk false s w r e).own) (ext:=MX s w r e) (es:=kk.map PV.enc) (ro:=false) (ro2:=false) (a:=.int .i64 op) (b:=.int .i64 m) (c:=.int .i64 op) (d:=.int .i64 m) (t:=.sl (ks.map Tm.enc)) (x:=PV.encEnv env)
  (by rw [<- hl'];rfl) (by rfl) (by simp [hl];omega) (by simp only [List.mem_map];rintro x ⟨v,_,rfl⟩;exact Qp v) [] e0 K
 exact ⟨_,_,rfl,_,_,this⟩
theorem SF {ev:Tm->M3->Option (PV×M3)} {op:Int}:∀{i:Nat} {l:List Tm} {m:M3} {vs:List PV} {m':M3},Tb ev op i l m=some (vs,m')->vs.length=l.length
 | _,[],m,vs,m',h=>by simp only [Tb,AB5,AB6] at h;rw [<- h.1];rfl
 | i,t::l,m,vs,m',h=>by
  rw [Tb] at h;split at h
  ·cases hk:Tb ev op (i+1) l m with
   | none=>rw [hk] at h;cases h
   | some q =>
    rw [hk] at h;simp only [AB8,AB5,AB6] at h;rw [<- h.1,AB9,AB9,SF (vs:=q.1) (m':=q.2) hk]
  ·split at h
   ·cases h
   ·rename_i v m2 _;cases hk:Tb ev op (i+1) l m2 with
    | none=>rw [hk] at h;cases h
    | some q =>
     rw [hk] at h;simp only [AB8,AB5,AB6] at h;rw [<- h.1,AB9,AB9,SF (vs:=q.1) (m':=q.2) hk]
theorem Apo {f:Nat} (he:Apu f) (hc:Aqe f):Apu (f+1):=by
 intro env t m0 m' v hev r n hn;obtain ⟨n,rfl⟩:=psc n (by omega);rw [c71];obtain ⟨op,m,ks⟩:=t;rw [Ag];rw [RL] at hev;cases ht:Ia m0 with
 | none=>rw [ht] at hev;cases hev
 | some m1 =>
 rw [ht] at hev;simp only at hev;have hc1:=Uv ht r (n:=n) (by omega);by_cases h1:op=1
 ·rw [if_pos h1] at hev;split at hev
  ·rename_i hv;simp only [AB5,AB6] at hev;obtain ⟨rfl,rfl⟩:=hev;have hvar:=XA (n:=n) env m hv.1 hv.2.1 (by omega);simp only [↓Akh,↓XX,XY,↓reduceIte,seval,↓F6 _ _ hc1,h1,↓Ad hvar];exact AG _ _ _
  ·cases hev
 ·rw [if_neg h1] at hev;split at hev
  ·cases hev
  rename_i hb;have hk3:ks.length<=300:=by omega
  by_cases h2:m1.e≠0
  ·rw [if_pos h2] at hev;simp only [AB5,AB6] at hev;obtain ⟨rfl,rfl⟩:=hev;simp only [Nh,Od,Oa,Nz,Om,Ni,Nq,NC,Nk,NU,Nn,NS,Ot,NZ,S71,↓XX,XY,↓reduceIte,seval,↓F6 _ _ hc1,h1,h2,↓AsR (show ks.length<=1000 by omega),↓AlL]
   exact AkO (kk:=nils ks.length) (by simp [nils]) hk3
  ·rw [if_neg h2] at hev;have h2:m1.e=0:=by simpa using h2
   ·
    cases hkk:Tb (fun t m=>RL f env t m) op 0 ks m1 with
    | none=>rw [hkk] at hev;cases hev
    | some q =>
    obtain ⟨vs,m2⟩:=q;rw [hkk] at hev;simp only at hev;simp only [h2] at hc1;simp only [Nh,Od,Oa,Nz,Om,Ni,Nq,NC,Nk,NU,Nn,NS,Ot,NZ,S71,↓XX,XY,↓reduceIte,seval,↓F6 _ _ hc1,h1,h2,↓AsR (show ks.length<=1000 by omega),↓AlL,↓GT,↓AM,XD,heldB,AV,XE,Fv,D4]
    have hlen:=SF hkk;refine Bd (Q:=fun r=>Bq r _ _) (fun k V H=>∃(pre rest:List Tm) (done:List PV) (m3:M3) (us:List PV),ks=pre++rest/\rest.length=k/\done.length=pre.length /\
      V=[.ptr (.ext 0) 0,.fv (PV.encEnv env),.ptr (.own 74448896) 0,.ptr (.own 74453003) 0,.fv (.sl (ks.map Tm.enc)),iv ks.length,iv pre.length] /\
      H=Hev op m ks env (done++nils rest.length) false m3.s m3.w r m3.e /\
      Tb (fun t m=>RL f env t m) op pre.length rest m3=some (us,m2)/\done++us=vs)
     ?_ n ks.length _ _ (by omega) ⟨[],ks,[],m1,vs,rfl,rfl,rfl,rfl,by rw [h2];rfl,hkk,rfl⟩
    rintro k V H rec ⟨pre,rest,done,m3,us,hk,hl,hdl,rfl,rfl,hkids,hvs⟩ hrec;have hkl:ks.length=pre.length+rest.length:=by rw [hk];simp
    cases rest with
    | nil =>
     simp only [Tb,AB5,AB6] at hkids;obtain ⟨rfl,rfl⟩:=hkids;rw [List.append_nil] at hvs;subst hvs;have hno:¬ ((pre.length:Int)<ks.length):=by rw [hkl];simp
     have hz:done++nils ([]:List Tm).length=done:=by simp [nils]
     rw [hz];by_cases h4:m3.e≠0
     ·rw [if_pos h4] at hev;simp only [AB5,AB6] at hev;obtain ⟨rfl,rfl⟩:=hev;simp only [↓Akh,↓XX,XY,↓reduceIte,seval,hno,h4];exact AkO hlen hk3
     ·rw [if_neg h4] at hev;have h4:m3.e=0:=by simpa using h4
      have hcc:=hc _ _ _ _ hev r n (by omega);rw [AX] at hcc;simp only [h4] at hcc;have hlm:(done.map PV.enc).length=ks.length:=by simp [hlen]
      simp only [↓Akh,↓XX,XY,↓reduceIte,seval,hno,h4]
      (try unfold is0);rw [Aoh hcc (s0:=74453003) (s2:=74452999) (own':=(Hev op m ks env done true m3.s m3.w r 0).own) (by rfl) (by rfl) hlm (by decide) (by omega) (by simp only [List.mem_map];rintro x ⟨v,_,rfl⟩;exact Qp v) (by rfl)]
      exact AG _ _ _
    | cons x rest =>
     have hi:(pre.length:Int)<ks.length:=by rw [hkl];simp;omega
     have hg:=Cr hk;have hb:=V1 (n:=n) (by omega) op pre.length;have hwi:BM ((pre.length:Int)+1)=((pre++[x]).length:Int):=(Av (by omega) (by omega)).trans (by simp);simp only [Tb] at hkids;simp only [AB9] at hl;by_cases hbn:0<Ae op pre.length
     ·rw [if_pos hbn] at hkids;have hbn':¬ ((Ae op pre.length:Nat):Int)=0:=by omega
      obtain ⟨o,p,l⟩:=x;simp only [↓Akh,↓XX,XY,↓reduceIte,seval,hi,↓BS (AY hg) (BA _ _ _),↓CB,↓Ad hb,hbn',hwi,↓GT,↓AM,XD,heldB,AV,XE,Fv,D4];cases hkk2:Tb (fun t m=>RL f env t m) op (pre.length+1) rest m3 with
      | none=>rw [hkk2] at hkids;cases hkids
      | some q =>
      obtain ⟨us',m4⟩:=q;rw [hkk2] at hkids;simp only [AB8,AB5,AB6] at hkids;obtain ⟨rfl,rfl⟩:=hkids;refine hrec rest.length _ _ (by omega) ⟨pre++[.mk o p l],rest,done++[.nil],m3,us',by rw [hk];simp,rfl,by simp [hdl],rfl,?_,by simpa using hkk2,by rw [<- hvs];simp⟩;rw [show done++[.nil]++nils rest.length=done++nils (rest.length+1) by simp [nils,List.replicate_succ]]
     ·rw [if_neg hbn] at hkids;have hbn':((Ae op pre.length:Nat):Int)=0:=by omega
      cases hev2:RL f env x m3 with
      | none=>rw [hev2] at hkids;cases hkids
      | some q =>
      obtain ⟨y,m4⟩:=q;rw [hev2] at hkids;simp only at hkids;cases hkk2:Tb (fun t m=>RL f env t m) op (pre.length+1) rest m4 with
      | none=>rw [hkk2] at hkids;cases hkids
      | some q =>
      obtain ⟨us',m5⟩:=q;rw [hkk2] at hkids;simp only [AB8,AB5,AB6] at hkids;obtain ⟨rfl,rfl⟩:=hkids;have hce:=he _ _ _ _ _ hev2 r n (by omega);obtain ⟨o,p,l⟩:=x;rw [Ag] at hce;have hin:pre.length<ks.length:=by omega
      have hoff:=fun {β:Type}=>AqG (done:=done) (r:=rest.length) (β:=β);rw [hdl] at hoff;simp only [↓Akh,↓XX,XY,↓reduceIte,seval,hi,↓BS (AY hg) (BA _ _ _),↓CB,↓Ad hb,hbn',hwi,↓Amm _ _ hce,↓Aqt hin,↓Ash,↓hoff,↓GT,↓AM,XD,heldB,AV,XE,Fv,D4];exact hrec rest.length _ _ (by omega) ⟨pre++[.mk o p l],rest,done++[y],m4,us',by rw [hk];simp,rfl,by simp [hdl],rfl,rfl,by simpa using hkk2,by rw [<- hvs];simp⟩
theorem MM:∀f,Apu f/\Aqe f/\AtF f/\AkZ f
 | 0=>⟨(fun _ _ _ _ _ h=>by rw [RL.eq_def] at h;cases h),(fun _ _ _ _ h=>by rw [ctP.eq_def] at h;cases h),(fun _ _ _ _ _ h=>by rw [stP.eq_def] at h;cases h),(fun _ _ _ _ _ _ h=>by rw [opP.eq_def] at h;cases h)⟩
 | f+1=>⟨Apo (MM f).1 (MM f).2.1,Apq (MM f).2.2.1,Aoc (MM f).2.1 (MM f).2.2.2,Aph (MM f).1⟩
def Vo (below:Int) (b:Nat):List PV:=(List.range b).map fun (j:Nat)=>PV.var (below+(j:Int))
def Akn (u:Int) (b:Nat):Vo u (b+1)=Vo u b++[PV.var (u+b)]:=by simp [Vo,List.range_succ]
def K5 (u:Int) (b:Nat):(Vo u b).length=b:=by simp [Vo]
def bkK (bk:PV->Int->M3->Int->Option (Tm×M3×Int)) (opn:Nat->List PV->M3->Option (PV×M3)) (op below:Int):Nat->List PV->M3->Int->Option (Option (List Tm)×M3×Int)
 | _,[],m,r=>some (some [],m,r)
 | i,x::l,m,r=>match (if 0<Ae op i then opn i (Vo below (Ae op i)) m else some (x,m)) with
  | none=>none
  | some (y,m)=>if m.e≠0 then some (none,m,r) else match bk y (below+Ae op i) m r with
   | none=>none
   | some (t,m,r)=>(bkK bk opn op below (i+1) l m r).map fun (ts,m,r)=>(ts.map (t::·),m,r)
def V6:Nat->PV->Int->Int->M3->Int->Option (Tm×M3×Int)
 | 0,_,_,_,_,_=>none
 | f+1,v,below,deep,m,r =>
  if r<0\/1000000000<r\/below<0\/1000000<below\/deep<0\/1000000<deep then none else
  match Ia ⟨m.s,m.w,if m.e=0/\(3000<r+1\/120<deep) then 5 else m.e⟩ with
  | none=>none
  | some m=>if m.e≠0 then some (.z,m,r+1) else match v with
   | .nil=>none
   | .mk op n k t e=>if op=1 then (if n < -2305843009213693952\/2305843009213693952<n then none else some (.mk 1 (below - 1 - n) [],m,r+1))
    else if f<=k.length+4\/100<k.length then none
    else match bkK (fun v below m r=>V6 f v below (deep+1) m r) (fun i l m=>opP f (.mk op n k t e) i l m) op below 0 k m (r+1) with
     | none=>none
     | some (none,m,r)=>some (.z,m,r)
     | some (some ts,m,r)=>some (.mk op n ts,m,r)
def Aqc (f:Nat):Prop:=∀(v:PV) (below deep:Int) (m:M3) (r:Int) (t:Tm) (m':M3) (r':Int),V6 f v below deep m r=some (t,m',r')->∀n,f+1<=n ->
 Bq (SS dt n 72 [.ptr (.ext 0) 0,.fv v.enc,iv below,iv deep] ⟨[],MX m.s m.w r m.e⟩) t.enc (MX m'.s m'.w r' m'.e)
def Ip (j:Nat) (v:FV):Gf (.ext j) (.fv v)=true:=rfl
def Alb {ih:Al} {n:Nat} {v w:FV} {below deep s u r e e1:Int} {ext:List Blk} (hr:0<=r) (hr2:r<=1000000000) (he1:(if e=0/\(3000<r+1\/120<deep) then (5:Int) else e)=e1)
  (h:Bq (Fu ih ⟨[(75497472,.row [iv 0,iv 0,.nils] false)],MX s u (r+1) e1⟩ (.ptr (.ext 0) 0) (.ptr (.own 75497472) 0) (.fv v) (iv below) ⟨[],MX s u r e⟩ (iv deep) n) w ext) :
  Bq (S72 ih n (.ptr (.ext 0) 0) (.fv v) (iv below) (iv deep) ⟨[],MX s u r e⟩) w ext:=by
 have wr:BM (r+1)=r+1:=by rw [Av]<;>omega
 have key:S72 ih n (.ptr (.ext 0) 0) (.fv v) (iv below) (iv deep) ⟨[],MX s u r e⟩=Fu ih ⟨[(75497472,.row [iv 0,iv 0,.nils] false)],MX s u (r+1) e1⟩ (.ptr (.ext 0) 0) (.ptr (.own 75497472) 0) (.fv v) (iv below) ⟨[],MX s u r e⟩ (iv deep) n:=by
  by_cases h0:e=0
  ·by_cases h3:3000<r+1
   ·rw [if_pos ⟨h0,.inl h3⟩] at he1;subst he1;simp only [Eb,Ee,DL,DV,Ef,Ec,CO,D5,D3,DW,D8,DM,FF,Dp,Ed,DS,Dn,Ds,Ea,DQ,DF,Dv,Fw,Dz,DX,Dw,DG,DR,DY,D6,D7,Dr,S72,↓XX,XY,↓reduceIte,seval,↓Ip,wr,h0,h3]
   ·by_cases h4:120<deep
    ·rw [if_pos ⟨h0,.inr h4⟩] at he1;subst he1;simp only [Eb,Ee,DL,DV,Ef,Ec,CO,D5,D3,DW,D8,DM,FF,Dp,Ed,DS,Dn,Ds,Ea,DQ,DF,Dv,Fw,Dz,DX,Dw,DG,DR,DY,D6,D7,Dr,S72,↓XX,XY,↓reduceIte,seval,↓Ip,wr,h0,h3,h4]
    ·rw [if_neg (by omega)] at he1;subst he1;simp only [Eb,Ee,DL,DV,Ef,Ec,CO,D5,D3,DW,D8,DM,FF,Dp,Ed,DS,Dn,Ds,Ea,DQ,DF,Dv,Fw,Dz,DX,Dw,DG,DR,DY,D6,D7,Dr,S72,↓XX,XY,↓reduceIte,seval,↓Ip,wr,h0,h3,h4]
  ·rw [if_neg (by omega)] at he1;subst he1;simp only [Eb,Ee,DL,DV,Ef,Ec,CO,D5,D3,DW,D8,DM,FF,Dp,Ed,DS,Dn,Ds,Ea,DQ,DF,Dv,Fw,Dz,DX,Dw,DG,DR,DY,D6,D7,Dr,S72,↓XX,XY,↓reduceIte,seval,↓Ip,wr,h0]
 rw [key];exact h
abbrev Hbk (done:List Tm) (rest:Nat) (more:List (Nat×Blk)) (s w r e:Int):Hp :=
 ⟨(75497472,.row [iv 0,iv 0,.nils] false)::(75506693,.row (Cl done rest) false)::more,MX s w r e⟩
def ApV {ih:Al} {f:FuncId} {w x y:FV} {a b:IV} {s0 len:Nat} {s u r e s' u' r' e':Int} {own own':List (Nat×Blk)} {es:List FV} {ro:Bool} (hr:Bq (ih f [.ptr (.ext 0) 0,.fv x,.fv y,.fv (.sl es)] ⟨[],MX s u r e⟩) w (MX s' u' r' e'))
  (ha:Bg a=some x) (hb:Bg b=some y) (hl:An s0 own=some (.row (es.map .fv) ro)) (hlen:es.length=len) (hn:es.length<=300) (hag:∀x∈es,∀l,x≠.agg l) (ho:AP s0 (.row (es.map .fv) true) own=own')
  (k:KT (IV×Hp)) :
  A4 [true,false,false,false] false false ih f [.ptr (.ext 0) 0,a,b,.slc (.own s0) 1 len] ⟨own,MX s u r e⟩ k=k (.fv w) ⟨own',MX s' u' r' e'⟩ [.ext 1,.ext 0,.own s0] [.own s0,.ext 0,.ext 1]:=by
 subst ho hlen;refine AdH (ks:=[false,false,false]) (vs:=[x,y,.sl es]) (u:=[(.own s0,.row (es.map .fv) true)]) (lg:=[.own s0]) ?_ (AoO ..) hr ?_ k
 ·intro e k;rw [Vh,KO _ _ e _ ha,Vh,KO _ _ e _ hb,Vh,AkN (d:=10) hl hn hag,fz0];rfl
 ·intro k
  show (GV own s0 fun _=>A9 own s0 (.row (es.map .fv) true) fun own=>k ⟨own,_⟩)=_
  rw [BL,hl,Option.bind_some,Ce]
def ApM (op n:Int) (done:List Tm):Option (List Tm)->Tm
 | none=>.z
 | some ts=>.mk op n (done++ts)
def AtM {n:Nat} {op nn bo bn below deep:Int} {k e:List PV} {bk:List Tm} {done:List Tm} {s w r er:Int} (h4:Hp) {rec:List IV->Hp->Option (IV×Hp)} (hd:done.length=k.length) (hk:k.length<=100) :
  Bq (Fw [.ptr (.ext 0) 0,.fv (PV.mk op nn k (.mk bo bn bk) e).enc,iv below,iv deep,.ptr (.own 75497472) 0,.slc (.own 75506693) 3 k.length,iv k.length,iv k.length] (Hbk done 0 [] s w r er) (SS dt n) h4 rec n)
   (Tm.mk op nn done).enc (MX s w r er):=by
 rw [AX,Ag];have hno:¬ ((k.length:Int)<k.length):=by omega
 simp only [Eb,Ee,DL,DV,Ef,Ec,CO,D5,D3,DW,D8,DM,FF,Dp,Ed,DS,Dn,Ds,Ea,DQ,DF,Dv,Fw,Dz,DX,Dw,DG,Fu,DR,DY,D6,D7,Dr,S72,↓XX,XY,↓reduceIte,seval,↓Ip,hno];rw [<- hd];exact ⟨_,_,rfl,_,_,fun e0 K=>Avt (by rfl) (by omega) [] e0 K⟩
def Al9 (more:List (Nat×Blk)):Prop:=more=[]\/∃(l:List FV) (ro:Bool),more=[(75512833,.row (l.map .fv) ro)]
def Awl {n:Nat} {v y:FV} {below deep b len i:IV} {done:List Tm} {rest kl:Nat} {more:List (Nat×Blk)} {s w r e:Int} (hM:Al9 more) (h4:Hp) {rec:List IV->Hp->Option (IV×Hp)} (he:e≠0) :
  Bq (CO (.ptr (.ext 0) 0) (Hbk done rest more s w r e) (.ptr (.own 75497472) 0) below b deep (SS dt n) (.fv y) (.slc (.own 75506693) 3 kl) i i h4 (.fv v) len rec) Tm.z.enc (MX s w r e):=by
 rcases hM with rfl | ⟨l,ro,rfl⟩
 ·simp only [↓Yt,↓XX,XY,↓reduceIte,seval,↓Ip,he];exact Ff rfl _ _
 ·simp only [↓Yt,↓XX,XY,↓reduceIte,seval,↓Ip,he];exact Ff rfl _ _
def Axz {f n:Nat} {v:FV} {y:PV} {below deep:Int} {b:Nat} {len:Int} {done:List Tm} {rest kl:Nat} {more:List (Nat×Blk)} {m m5:M3} {r r5:Int} {t5:Tm} {w:FV} {ext:List Blk} (hb:Aqc f) (hn:f+1<=n) (hM:Al9 more) (ext4:List Blk)
  {rec:List IV->Hp->Option (IV×Hp)} (he:m.e=0) (hbk:V6 f y (below+b) (deep+1) m r=some (t5,m5,r5)) (hb1:0<=below) (hb2:below<=1000000) (hb3:b<=10) (hd1:0<=deep) (hd2:deep<=1000000) (hkl:done.length<kl) (hkl2:kl<=100)
  (h:Bq (rec [.ptr (.ext 0) 0,.fv v,iv below,iv deep,.ptr (.own 75497472) 0,.slc (.own 75506693) 3 kl,iv len,iv (done++[t5]).length] (Hbk (done++[t5]) rest [] m5.s m5.w r5 m5.e)) w ext) :
  Bq (CO (.ptr (.ext 0) 0) (Hbk done (rest+1) more m.s m.w r m.e) (.ptr (.own 75497472) 0) (iv below) (iv b) (iv deep) (SS dt n) (.fv y.enc) (.slc (.own 75506693) 3 kl) (iv done.length) (iv done.length) ⟨[],ext4⟩ (.fv v) (iv len) rec) w ext:=by
 have hc:=hb _ _ _ _ _ _ _ _ hbk n hn;have wb:BM (below+b)=below+b:=by rw [Av]<;>omega
 have wd:BM (deep+1)=deep+1:=by rw [Av]<;>omega
 have wi:BM ((done.length:Int)+1)=((done++[t5]).length:Int):=(Av (by omega) (by omega)).trans (by simp);obtain ⟨o,p,ks⟩:=t5;rw [Ag] at hc;simp only [he] at hc ⊢;rcases hM with rfl | ⟨l,ro,rfl⟩
 ·simp only [↓Yt,↓XX,XY,↓reduceIte,seval,↓Ip,wb,wd,↓Tn _ _ hc,↓Any hkl,↓Aq0,wi,↓GT,↓AM,XD,heldB,AV,XE,Fv,D4,OJ,K3];exact h
 ·simp only [↓Yt,↓XX,XY,↓reduceIte,seval,↓Ip,wb,wd,↓Tn _ _ hc,↓Any hkl,↓Aq0,wi,↓GT,↓AM,XD,heldB,AV,XE,Fv,D4,OJ,K3];exact h
theorem AvR {f n:Nat} {v y:PV} {below deep:Int} {i b kl:Nat} {len:Int} {done:List Tm} {rest:Nat} {m m4:M3} {r:Int} {w:FV} {ext:List Blk} (hn:f+1<=n) (h3:3<=n) (ext4:List Blk)
  {j:IV->IV->IV->IV->IV->IV->IV->IV->IV->IV->IV->Hp->Option (IV×Hp)} (hb:b<=2) (hb1:0<=below) (hb2:below<=1000000) (hop:opP f v i (Vo below b) m=some (y,m4))
  (hj:Bq (j (.ptr (.ext 0) 0) (.fv v.enc) (iv below) (iv deep) (.ptr (.own 75497472) 0) (.slc (.own 75506693) 3 kl) (iv i) (.fv y.enc) (iv b) (iv len) (iv i)
   (Hbk done rest [(75512833,.row (((Vo below b).map PV.enc).map .fv) true)] m4.s m4.w r m4.e)) w ext) :
  Bq (BQ n (fun q119 l120 h121=>FF l120 h121 ⟨[],ext4⟩ q119 (SS dt n) j) [.ptr (.ext 0) 0,.fv v.enc,iv below,iv deep,.ptr (.own 75497472) 0,.slc (.own 75506693) 3 kl,iv i,iv b,.slc (.own 75512833) 1 b,iv len,iv i,iv b,iv 0]
   (Hbk done rest [(75512833,.row (((nils b).map PV.enc).map .fv) false)] m.s m.w r m.e)) w ext:=by
 refine Bd (Q:=fun r=>Bq r _ _) (fun t V H=>∃(k:Nat),k+t=b /\
   V=[.ptr (.ext 0) 0,.fv v.enc,iv below,iv deep,.ptr (.own 75497472) 0,.slc (.own 75506693) 3 kl,iv i,iv b,.slc (.own 75512833) 1 b,iv len,iv i,iv b,iv k] /\
   H=Hbk done rest [(75512833,.row (((Vo below k++nils t).map PV.enc).map .fv) false)] m.s m.w r m.e) ?_ n b _ _ (by omega) ⟨0,by omega,rfl,rfl⟩
 rintro t V H rec ⟨k,hkt,rfl,rfl⟩ hrec;cases t with
 | zero =>
  have hkb:k=b:=by omega
  subst hkb;have hno:¬ ((k:Int)<k):=by omega
  have hc:=(MM f).2.2.2 _ _ _ _ _ _ hop r n hn;rw [show Vo below k++nils 0=Vo below k by simp [nils]]
  simp only [Eb,Ee,DL,DV,Ef,Ec,CO,D5,D3,DW,D8,DM,Dp,Ed,DS,Dn,Ds,Ea,DQ,DF,Dv,Dz,DX,Dw,DG,Fu,DR,DY,D6,D7,Dr,S72,FF,↓XX,XY,↓reduceIte,seval,↓Ip,hno]
  (try unfold is0);rw [ApV hc rfl rfl (s0:=75512833) (own':=(Hbk done rest [(75512833,.row (((Vo below k).map PV.enc).map .fv) true)] m4.s m4.w r m4.e).own) (by rfl) (by simp [K5]) (by simp [K5];omega) (by simp only [List.mem_map];rintro x ⟨v,_,rfl⟩;exact Qp v) (by rfl)]
  exact hj
 | succ t =>
  have hlt:(k:Int)<b:=by omega
  have hkb:k<b:=by omega
  have wk:BM ((k:Int)+1)=((k+1:Nat):Int):=(Av (by omega) (by omega)).trans (by simp);have wbk:BM (below+(k:Int))=below+k:=by rw [Av]<;>omega
  have hoff:=fun {β:Type}=>AqG (done:=Vo below k) (r:=t) (β:=β) (PV.var (below+k));rw [K5,Vu] at hoff;simp only [Eb,Ee,DL,DV,Ef,Ec,CO,D5,D3,DW,D8,DM,Dp,Ed,DS,Dn,Ds,Ea,DQ,DF,Dv,Dz,DX,Dw,DG,Fu,DR,DY,D6,D7,Dr,S72,FF,↓XX,XY,↓reduceIte,seval,↓Ip,hlt,wbk];rw [Ae7 (fc:=[.int .i64 1,.int .i64 (below+k),.sl [],.int .i64 0,.int .i64 0,.sl [],.nilp]) rfl (by simp)];simp only [↓XX,XY,↓reduceIte,seval,↓Ip,↓Aqt hkb,↓hoff,wk,↓GT,↓AM,XD,heldB,AV,XE,Fv,D4,OJ,K3];exact hrec t _ _ (by omega) ⟨k+1,by omega,rfl,by rw [Akn]⟩
theorem Ap8 {f:Nat} (hb:Aqc f):Aqc (f+1):=by
 intro v below deep m r t m' r' hev n hn;obtain ⟨n,rfl⟩:=psc n (by omega);rw [c72];rw [V6.eq_def] at hev;simp only at hev;split at hev
 ·cases hev
 rename_i hbad;have wd:BM (deep+1)=deep+1:=by rw [Av]<;>omega
 have wb1:BM (below - 1)=below - 1:=by rw [Av]<;>omega
 generalize he1:(if m.e=0/\(3000<r+1\/120<deep) then (5:Int) else m.e)=e1 at hev;cases ht:Ia ⟨m.s,m.w,e1⟩ with
 | none=>rw [ht] at hev;cases hev
 | some m1 =>
 rw [ht] at hev;simp only at hev;have hc1:=Uv ht (r+1) (n:=n) (by omega);simp only at hc1;refine Alb (by omega) (by omega) he1 ?_;by_cases h1:m1.e≠0
 ·rw [if_pos h1] at hev;simp only [AB5,AB6] at hev;obtain ⟨rfl,rfl,rfl⟩:=hev;simp only [↓Yt,↓XX,XY,↓reduceIte,seval,↓Ip,↓F6 _ _ hc1,h1];exact Ff rfl _ _
 ·rw [if_neg h1] at hev;have h1:m1.e=0:=by simpa using h1
  cases v with
  | nil=>cases hev
  | mk op nn k t0 e =>
  obtain ⟨bo,bn,bk⟩:=t0;simp only at hev;by_cases h2:op=1
  ·rw [if_pos h2] at hev;split at hev
   ·cases hev
   rename_i hnn;simp only [AB5,AB6] at hev;obtain ⟨rfl,rfl,rfl⟩:=hev;have wb2:BM (below - 1 - nn)=below - 1 - nn:=by rw [Av]<;>omega
   rw [AX];simp only [↓Yt,↓XX,XY,↓reduceIte,seval,↓Ip,↓F6 _ _ hc1,h1,h2,wb1,wb2];exact Ff rfl _ _
  ·rw [if_neg h2] at hev;split at hev
   ·cases hev
   rename_i hk100;have hk100:k.length<=100:=by omega
   cases hkk:bkK (fun v below m r=>V6 f v below (deep+1) m r) (fun i l m=>opP f (.mk op nn k (.mk bo bn bk) e) i l m) op below 0 k m1 (r+1) with
   | none=>rw [hkk] at hev;cases hev
   | some q =>
   obtain ⟨res,m2,r2⟩:=q;rw [hkk] at hev;have hres:t=ApM op nn [] res/\m'=m2/\r'=r2:=by
    cases res with
    | none=>simp only [AB5,AB6] at hev;exact ⟨hev.1.symm,hev.2.1.symm,hev.2.2.symm⟩
    | some ts=>simp only [AB5,AB6] at hev;exact ⟨hev.1.symm,hev.2.1.symm,hev.2.2.symm⟩
   obtain ⟨ht5,rfl,rfl⟩:=hres;generalize hV:PV.mk op nn k (.mk bo bn bk) e=V5 at *;have hVe:V5.enc=.fp [.int .i64 op,.int .i64 nn,.sl (k.map PV.enc),.int .i64 bo,.int .i64 bn,.sl (bk.map Tm.enc),PV.encEnv e] 0:=by rw [<- hV,AX]
   rw [hVe];simp only [↓Yt,↓XX,XY,↓reduceIte,seval,↓Ip,↓F6 _ _ hc1,h1,h2,↓AyA (show k.length<=1000 by omega),↓GT,↓AM,XD,heldB,AV,XE,Fv,D4,OJ,K3]
   refine Bd (Q:=fun r=>Bq r _ _) (fun j V H=>∃(pre rest:List PV) (done:List Tm) (m3:M3) (r3:Int) (res3:Option (List Tm)),k=pre++rest/\rest.length=j/\done.length=pre.length /\
     V=[.ptr (.ext 0) 0,.fv V5.enc,iv below,iv deep,.ptr (.own 75497472) 0,.slc (.own 75506693) 3 k.length,iv k.length,iv pre.length] /\
     H=Hbk done rest.length [] m3.s m3.w r3 m3.e /\
     bkK (fun v below m r=>V6 f v below (deep+1) m r) (fun i l m=>opP f V5 i l m) op below pre.length rest m3 r3=some (res3,m',r')/\ApM op nn done res3=t)
    ?_ n k.length _ _ (by omega) ⟨[],k,[],m1,r+1,res,rfl,rfl,rfl,by rw [hVe];rfl,by rw [h1],hkk,ht5.symm⟩
   rintro j V H rec ⟨pre,rest,done,m3,r3,res3,hk,hl,hdl,rfl,rfl,hkids,hts⟩ hrec;have hkl:k.length=pre.length+rest.length:=by rw [hk];simp
   cases rest with
   | nil =>
    simp only [bkK,AB5,AB6] at hkids;obtain ⟨rfl,rfl,rfl⟩:=hkids;rw [List.length_nil,Nat.add_zero] at hkl;rw [<- hts,<- hV,ApM,List.append_nil,<- hkl];exact AtM _ (by omega) hk100
   | cons x rest =>
    have hi:(pre.length:Int)<k.length:=by rw [hkl];simp;omega
    have hg:=Cr hk;have hbn:=V1 (n:=n) (by omega) op pre.length;have hble:=Bo op pre.length;simp only [bkK] at hkids;simp only [AB9] at hl hkl;have behind:∀(y:PV) (m4:M3) (more:List (Nat×Blk)),Al9 more->(if m4.e≠0 then some (none,m4,r3) else match V6 f y (below+Ae op pre.length) (deep+1) m4 r3 with
       | none=>none
       | some (t,m,r)=>(bkK (fun v below m r=>V6 f v below (deep+1) m r) (fun i l m=>opP f V5 i l m) op below (pre.length+1) rest m r).map fun (ts,m,r)=>(ts.map (t::·),m,r))=some (res3,m',r') ->
      Bq (CO (.ptr (.ext 0) 0) (Hbk done (rest.length+1) more m4.s m4.w r3 m4.e) (.ptr (.own 75497472) 0) (iv below) (iv (Ae op pre.length)) (iv deep) (SS dt n) (.fv y.enc) (.slc (.own 75506693) 3 k.length) (iv pre.length) (iv pre.length) ⟨[],MX m.s m.w r m.e⟩ (.fv V5.enc) (iv k.length) rec)
       t.enc (MX m'.s m'.w r' m'.e):=by
     intro y m4 more hM hy;by_cases h4:m4.e≠0
     ·rw [if_pos h4] at hy;simp only [AB5,AB6] at hy;obtain ⟨rfl,rfl,rfl⟩:=hy;rw [<- hts];exact Awl hM _ h4
     ·rw [if_neg h4] at hy;have h4:m4.e=0:=by simpa using h4
      cases hbk:V6 f y (below+Ae op pre.length) (deep+1) m4 r3 with
      | none=>rw [hbk] at hy;cases hy
      | some q =>
      obtain ⟨t5,m5,r5⟩:=q;rw [hbk] at hy;simp only at hy;cases hk2:bkK (fun v below m r=>V6 f v below (deep+1) m r) (fun i l m=>opP f V5 i l m) op below (pre.length+1) rest m5 r5 with
      | none=>rw [hk2] at hy;cases hy
      | some q =>
      obtain ⟨res6,m6,r6⟩:=q;rw [hk2] at hy;simp only [AB8,AB5,AB6] at hy;obtain ⟨rfl,rfl,rfl⟩:=hy;rw [<- hdl];refine Axz hb (by omega) hM _ h4 (by rw [hdl];exact hbk) (by omega) (by omega) (by rw [hdl];omega) (by omega) (by omega) (by omega) hk100 ?_;refine hrec rest.length _ _ (by omega) ⟨pre++[x],rest,done++[t5],m5,r5,res6,by rw [hk];simp,rfl,by simp [hdl],by simp [hdl],rfl,by simpa using hk2,?_⟩;rw [<- hts];cases res6 with
      | none=>rfl
      | some ts=>simp [ApM]
    rw [hVe];by_cases hb0:0<Ae op pre.length
    ·rw [if_pos hb0] at hkids;have hb0':(0:Int)<Ae op pre.length:=by omega
     cases hop:opP f V5 pre.length (Vo below (Ae op pre.length)) m3 with
     | none=>rw [hop] at hkids;cases hkids
     | some q =>
     obtain ⟨y,m4⟩:=q;rw [hop] at hkids;have h9:=behind y m4 [(75512833,.row (((Vo below (Ae op pre.length)).map PV.enc).map .fv) true)] (.inr ⟨_,_,rfl⟩) hkids;have hin:=AvR (f:=f) (n:=n) (v:=V5) (y:=y) (below:=below) (deep:=deep) (i:=pre.length) (b:=Ae op pre.length) (kl:=k.length) (len:=k.length) (done:=done) (rest:=rest.length+1) (m:=m3) (m4:=m4) (r:=r3) (w:=t.enc) (ext:=MX m'.s m'.w r' m'.e) (by omega) (by omega) (MX m.s m.w r m.e)
      (j:=fun x79 x80 x81 x82 x83 x84 x85 x86 x87 x88 x89 h90=>CO x79 h90 x83 x81 x87 x82 (SS dt n) x86 x84 x85 x89 ⟨[],MX m.s m.w r m.e⟩ x80 x88 rec) (by omega) (by omega) (by omega) hop h9
     simp only [Eb,Ee,DL,DV,Ef,Ec,D5,D3,DW,D8,DM,Dp,Ed,DS,Dn,Ds,Ea,DQ,DF,Dv,Fw,Dz,DX,Dw,DG,Fu,DR,DY,D6,D7,Dr,S72,↓XX,XY,↓reduceIte,seval,↓Ip,hi,↓Atc hg,↓Ad hbn,hb0',↓AsR (show Ae op pre.length<=1000 by omega),↓GT,↓AM,XD,heldB,AV,XE,Fv,D4,OJ,K3]
     rw [hVe] at hin;exact hin
    ·rw [if_neg hb0] at hkids;have hb0':¬ (0:Int)<Ae op pre.length:=by omega
     have h9:=behind x m3 [] (.inl rfl) hkids;simp only [Eb,Ee,DL,DV,Ef,Ec,D5,D3,DW,D8,DM,Dp,Ed,DS,Dn,Ds,Ea,DQ,DF,Dv,Fw,Dz,DX,Dw,DG,Fu,DR,DY,D6,D7,Dr,S72,↓XX,XY,↓reduceIte,seval,↓Ip,hi,↓Atc hg,↓Ad hbn,hb0'];rw [hVe] at h9;exact h9
theorem AqD:∀f,Aqc f
 | 0=>(fun _ _ _ _ _ _ _ _ h=>by rw [V6.eq_def] at h;cases h)
 | f+1=>Ap8 (AqD f)
abbrev Fl (mb:Nat) (f:FuncId):IV:=.agg [.func (.func f) [.ptr (.own mb) 0] []]
abbrev Da (mb:Nat):List (Int×IV):=[(5,Fl mb 94),(8,Fl mb 95),(9,Fl mb 95),(13,Fl mb 96),(30,Fl mb 97),(19,Fl mb 98)]
def AnZ (r:Ref):IV.one (.mapr r)=true:=rfl
def Amq {β:Type} (l:List IV) (e:Option β) (k:List FV->Option β):CA (.dead::l) e k=e:=rfl
def of4 {β:Type} (x y z u v b:IV) (l:List IV) (k:List IV->Option β):G9 (x::y::z::u::v::l) 4 b k=k (x::y::z::u::b::l):=rfl
def Ayk (s:Nat) (own:List (Nat×Blk)) (ext:List Blk) (k:KT (IV×Hp)):Ay (Hi s) s ⟨own,ext⟩ k=CW own s (A9 own s (.map []) fun own=>k (.mapr (.own s)) ⟨own,ext⟩ [] [.own s]):=by
 unfold Ay;simp only [Hi,Rd.runLog,J1,CY,Cw];rfl
def AxH (b:Blk) (k:List (Int×IV)->Option (IV×Hp)):Option (IV×Hp):=match b with
 | .map es=>k es
 | _=>none
def Anc (es:List (Int×IV)) (k:List (Int×IV)->Option (IV×Hp)):AxH (.map es) k=k es:=rfl
theorem Ave (m j:Nat) (v:IV) (hv:v.alive=true) (n:Int) (s:Nat) (own:List (Nat×Blk)) (ext:List Blk) (k:KT (IV×Hp)) :
  Ay (Ch EE 98 (.mapr (.own m)) (iv n) v) s ⟨own,ext⟩ k=GV own m fun b=>AxH b fun es=>A9 own m (.map (Cz n v es)) fun own=>k .dead ⟨own,ext⟩ [.own m] [.own m]:=by
 have h1:=tMk;have h2:=tIk;cases hm:EE.T 98 with
 | none=>rw [hm] at h1;cases h1
 | some ti =>
  cases hi:EE.T 3 with
  | none=>rw [hi] at h2;cases h2
  | some ii =>
   rw [hm] at h1;rw [hi] at h2;obtain ⟨a,b,kd,z⟩:=ti;obtain ⟨a2,b2,kd2,z2⟩:=ii;simp only [AB8,AB5] at h1 h2;subst h1 h2;rw [BL];unfold Ay;cases hl:An m own with
   | none=>simp only [Ch,hm,hi,YF,Rd.runLog,Hp.get,hl];rfl
   | some bl =>
    cases bl with
    | row c ro=>simp only [Ch,hm,hi,YF,Rd.runLog,Hp.get,hl];rfl
    | tok a b=>simp only [Ch,hm,hi,YF,Rd.runLog,Hp.get,hl];rfl
    | map es =>
     simp only [Ch,hm,hi,YF,Rd.runLog,Hp.get,hl,Ame,hv,and_self,if_true,Option.bind_some,Anc]
     show (fRf (.own m) fun q=>Dk q ⟨own,ext⟩ fun _=>fBk (.map (Cz n v es)) fun b=>Gi q b ⟨own,ext⟩ fun h=>J1 none s h fun h=>fV 3 .dead fun v=>k v h [.own m] ([.own m]++[]))=_
     simp only [Qb,CY,Cw,J1,Gi,Dk];rw [BL,hl];rfl
def AtE {ks:List Bool} (hks:∀b∈ks,b=false) {ih:Al} {f:FuncId} {args:List IV} {vs:List FV} {w:FV} {mb mp:Nat} {own:List (Nat×Blk)} {s u r e s' u' r' e':Int} (hz:BK args=some vs) (hne:mb≠mp)
  (hl1:An mb own=some (.row [iv s,iv u,iv r,iv e,.mapr (.own mp)] false)) (hl2:An mp own=some (.map (Da mb))) (hr:Bq (ih f (.ptr (.ext 0) 0::vs.map .fv) ⟨[],MX s u r e⟩) w (MX s' u' r' e')) (k:KT (IV×Hp)) :
  A4 (true::ks) false false ih f (.ptr (.own mb) 0::args) ⟨own,[]⟩ k=k (.fv w) ⟨AP mp (.map (Da mb)) (AP mb (.row [iv s',iv u',iv r',iv e',.mapr (.own mp)] false) own),[]⟩ [.own mp,.own mb] [.own mb,.own mp]:=by
 obtain ⟨v,own',e1,hfz⟩:=hr;obtain ⟨uu,hu⟩:=Px hfz;have hD:Fx (true::ks) false false ih f (.ptr (.own mb) 0::args) ⟨own,[]⟩ k=k (.fv w) ⟨AP mp (.map (Da mb)) (AP mb (.row [iv s',iv u',iv r',iv e',.mapr (.own mp)] false) own),[]⟩ [.own mp,.own mb] [.own mb,.own mp]:=by
  have h1:Bs (true::ks) (.ptr (.own mb) 0::args)=.ret (.ptr (.own mb) 0::vs.map .fv,[.own mb],[]):=by
   simp only [Bs,II args ks hks hz,Rd.bind,IV.refs];rfl
  have hn1:¬ (Ref.own mp=Ref.own mb):=by intro h;cases h;exact hne rfl
  have h2:(Cb 4096 [.own mb] []).runLog ⟨own,[]⟩ []=some ([(.own mb,.row [iv s,iv u,iv r,iv e,.mapr (.own mp)] false),(.own mp,.map (Da mb))],[.own mp,.own mb]):=by
   show (Cb (4087+1+1+1+1+1+1+1+1+1) [.own mb] []).runLog ⟨own,[]⟩ []=_
   simp only [Cb,hasRef,Bool.false_eq_true,if_false,Rd.runLog,Hp.get,hl1,hl2,Blk.refs,IV.refs.refsL,IV.refs,List.append_nil,List.nil_append,List.cons_append,ACb,ACa,hn1,decide_false,decide_true,Bool.or_false,Bool.true_or,if_true]
  have p1:DK [(.own mb,.row [iv s,iv u,iv r,iv e,.mapr (.own mp)] false),(.own mp,.map (Da mb))] (.own mb)=some (.ext 0):=by simp [DK,Cn]
  have p2:DK [(.own mb,.row [iv s,iv u,iv r,iv e,.mapr (.own mp)] false),(.own mp,.map (Da mb))] (.own mp)=some (.ext 1):=by simp [DK,Cn,hn1]
  have h3:IV.ren.renL (DK [(.own mb,.row [iv s,iv u,iv r,iv e,.mapr (.own mp)] false),(.own mp,.map (Da mb))]) (.ptr (.own mb) 0::vs.map .fv)=some (.ptr (.ext 0) 0::vs.map .fv):=by
   simp only [IV.ren.renL,IV.ren,p1,AB8,Option.bind_some,FD]
  have h4:A8 (DK [(.own mb,.row [iv s,iv u,iv r,iv e,.mapr (.own mp)] false),(.own mp,.map (Da mb))]) [.row [iv s,iv u,iv r,iv e,.mapr (.own mp)] false,.map (Da mb)]=some (MX s u r e):=by
   simp only [A8,Blk.ren,IV.ren.renL,IV.ren,p1,p2,AB8,Option.bind_some,ACb,ACa,List.zip_cons_cons,List.zip_nil_left]
  have h5:A8 (Cv [(.own mb,.row [iv s,iv u,iv r,iv e,.mapr (.own mp)] false),(.own mp,.map (Da mb))]) (MX s' u' r' e')=some [.row [iv s',iv u',iv r',iv e',.mapr (.own mp)] false,.map (Da mb)]:=by
   simp only [A8,Blk.ren,IV.ren.renL,IV.ren,Cv,List.getElem?_cons_zero,List.getElem?_cons_succ,AB8,Option.bind_some,ACb,ACa,List.zip_cons_cons,List.zip_nil_left]
  unfold Fx;simp only [h1,Rd.runLog,h2,h3,ACb,ACa,h4,DD (Cw 3),DD CY,Kn,Bool.false_eq_true,if_false,e1,hu,AB8,IV.ren,h5,AB9,List.length_nil,Bx,List.all_nil,and_self,if_true,List.nil_append,List.zip_cons_cons,List.zip_nil_left];have hl3:An mp (AP mb (.row [iv s',iv u',iv r',iv e',.mapr (.own mp)] false) own)=some (.map (Da mb)):=by
   rw [<- hl2];clear hl1 hl2 h2 e1 hu hfz
   induction own with
   | nil=>simp only [AP,An,if_neg (fun h=>hne (Eq.symm h))]
   | cons p l ih =>
    obtain ⟨j,c⟩:=p;simp only [AP];split
    ·rename_i h;subst h;simp only [An,if_neg (fun h=>hne (Eq.symm h))]
    ·simp only [An,ih]
  have h6:laid ⟨own,[]⟩ [(.own mb,.row [iv s',iv u',iv r',iv e',.mapr (.own mp)] false),(.own mp,.map (Da mb))]=some ⟨AP mp (.map (Da mb)) (AP mb (.row [iv s',iv u',iv r',iv e',.mapr (.own mp)] false) own),[]⟩:=by
   simp only [laid,Hp.get,hl1,Hp.set,hl3]
  simp only [h6,M0,Cw]
 rw [Kx,XC,SN,O8 0 args _ _ _ _ ks hks hz];simp only [TD,Uj,cond_false];exact hD
def HB (op:Int):Int:=if op=8\/op=9\/op=12\/op=19\/op=30 then 1 else if op=4\/op=5 then 2 else if op=7 then 3 else if op=13 then 4 else -1
theorem ApR {n:Nat} (hn:0<n) (op:Int):BW (SS dt n 93 [iv op] ⟨[],[]⟩) (.int .i64 (HB op)):=by
 obtain ⟨n,rfl⟩:=psc n (by omega);rw [c93];unfold HB;by_cases h:op=8\/op=9\/op=12\/op=19\/op=30
 ·rw [if_pos h];rcases h with rfl | rfl | rfl | rfl | rfl<;>(simp only [↓UU9,↓XX,XY,↓reduceIte,seval];exact Aw _ _)
 ·rw [if_neg h];have h8:¬ op=8:=fun e=>h (by simp [e]);have h9:¬ op=9:=fun e=>h (by simp [e]);have h12:¬ op=12:=fun e=>h (by simp [e]);have h19:¬ op=19:=fun e=>h (by simp [e]);have h30:¬ op=30:=fun e=>h (by simp [e]);by_cases h2:op=4\/op=5
  ·rw [if_pos h2];rcases h2 with rfl | rfl<;>(simp only [↓UU9,↓XX,XY,↓reduceIte,seval];exact Aw _ _)
  ·rw [if_neg h2];have h4:¬ op=4:=fun e=>h2 (by simp [e]);have h5:¬ op=5:=fun e=>h2 (by simp [e]);by_cases h7:op=7
   ·subst h7;simp only [↓UU9,↓XX,XY,↓reduceIte,seval];exact Aw _ _
   ·by_cases h13:op=13
    ·subst h13;simp only [↓UU9,↓XX,XY,↓reduceIte,seval];exact Aw _ _
    ·simp only [↓UU9,↓XX,XY,↓reduceIte,seval,h4,h5,h7,h8,h9,h12,h13,h19,h30];exact Aw _ _
mutual
def Tm.shaped:Tm->Bool
 | .mk op n ks=>!(decide (0<=HB op/\HB op≠ks.length) || decide (op=1/\n<0)) && Tm.shapedL ks
def Tm.shapedL:List Tm->Bool
 | []=>true
 | t::l=>t.shaped && Tm.shapedL l
end
theorem AiZ:∀(n:Nat) (t:Tm),t.wt+1<n->t.wt<=1152921504606846976->BW (SS dt n 69 [.fv t.enc] ⟨[],[]⟩) (.bool t.shaped):=by
 intro n
 induction n with
 | zero=>intro t h;omega
 | succ n ih =>
  intro t h hw;obtain ⟨op,m,ks⟩:=t;simp only [Tm.wt] at h hw;rw [c69,Ag];have hlen:=Fj ks;have hk:=ApR (n:=n) (by omega) op;rw [Tm.shaped];have wl:∀j:Nat,j<=ks.length->BM (j:Int)=j:=fun j hj=>Av (by omega) (by omega);have loop:BW (BQ n (fun q99 l100 h101=>LN l100 h101 (SS dt n) ⟨[],[]⟩ q99) [.fv (.sl (ks.map Tm.enc)),iv ks.length,iv 0] ⟨[(72351744,.row [iv op,iv m,.fv (.sl (ks.map Tm.enc))] false)],[]⟩) (.bool (Tm.shapedL ks)):=by
   refine Bd (Q:=fun r=>BW r _) (fun k V H=>∃pre rest,ks=pre++rest/\rest.length=k/\V=[.fv (.sl (ks.map Tm.enc)),iv ks.length,iv pre.length]/\H=⟨[(72351744,.row [iv op,iv m,.fv (.sl (ks.map Tm.enc))] false)],[]⟩/\Tm.shapedL rest=Tm.shapedL ks)
    ?_ n ks.length _ _ (by omega) ⟨[],ks,rfl,rfl,rfl,rfl,rfl⟩
   rintro k V H rec ⟨pre,rest,hk,hl,rfl,rfl,ht⟩ hrec;have hkl:ks.length=pre.length+rest.length:=by rw [hk];simp
   cases rest with
   | nil =>
    have hno:¬ ((pre.length:Int)<ks.length):=by rw [hkl];simp
    rw [<- ht];simp only [KF,L8,K7,LN,Ky,Lb,L4,K4,S69,↓XX,XY,↓reduceIte,seval,hno,Tm.shapedL];exact Aw _ _
   | cons t rest =>
    have hi:(pre.length:Int)<ks.length:=by rw [hkl];simp;omega
    have hg:=Cr hk;have htw:=CT (t:=t) (l:=ks) (by rw [hk];simp);have hs:=ih t (by omega) (by omega);have hwi:BM ((pre.length:Int)+1)=((pre++[t]).length:Int):=(Av (by omega) (by omega)).trans (by simp);simp only [Tm.shapedL] at ht;generalize t.shaped=v at hs ht;obtain ⟨o,p,l⟩:=t;simp only [AB9] at hl;rw [Ag] at hs;cases v
    ·rw [<- ht];simp only [KF,L8,K7,LN,Ky,Lb,L4,K4,S69,↓XX,XY,↓reduceIte,seval,hi,↓BS (AY hg) (BA _ _ _),↓CB,hwi,↓Ap hs,Bool.false_and];exact Aw _ _
    ·simp only [KF,L8,K7,LN,Ky,Lb,L4,K4,S69,↓XX,XY,↓reduceIte,seval,hi,↓BS (AY hg) (BA _ _ _),↓CB,hwi,↓Ap hs,↓AM,XD,heldB,AV,XE];refine hrec rest.length _ _ (by omega) ?_;exact ⟨pre++[.mk o p l],rest,by rw [hk];simp,rfl,rfl,rfl,by simpa using ht⟩
  by_cases h0:0<=HB op
  ·by_cases h1:HB op=ks.length
   ·by_cases h2:op=1
    ·exfalso;subst h2;revert h0;decide
    ·have e1:(!(decide (0<=HB op/\HB op≠ks.length) || decide (op=1/\m<0)) && Tm.shapedL ks)=Tm.shapedL ks:=by simp [h1,h2]
     rw [e1];have h0':(0:Int)<=ks.length:=by omega
     rw [h1] at hk;simp only [↓Alg,↓XX,XY,↓reduceIte,seval,↓Ap hk,h0',h2,↓AM,XD,heldB,AV,XE];exact loop
   ·have e1:(!(decide (0<=HB op/\HB op≠ks.length) || decide (op=1/\m<0)) && Tm.shapedL ks)=false:=by simp [h0,h1]
    rw [e1];simp only [↓Alg,↓XX,XY,↓reduceIte,seval,↓Ap hk,h0,h1];exact Aw _ _
  ·by_cases h2:op=1
   ·subst h2;by_cases h3:m<0
    ·have e1:(!(decide (0<=HB 1/\HB 1≠ks.length) || decide ((1:Int)=1/\m<0)) && Tm.shapedL ks)=false:=by simp [h3]
     rw [e1];simp only [↓Alg,↓XX,XY,↓reduceIte,seval,↓Ap hk,h0,h3];exact Aw _ _
    ·have e1:(!(decide (0<=HB 1/\HB 1≠ks.length) || decide ((1:Int)=1/\m<0)) && Tm.shapedL ks)=Tm.shapedL ks:=by simp [h0,h3]
     rw [e1];simp only [↓Alg,↓XX,XY,↓reduceIte,seval,↓Ap hk,h0,h3,↓AM,XD,heldB,AV,XE];exact loop
   ·have e1:(!(decide (0<=HB op/\HB op≠ks.length) || decide (op=1/\m<0)) && Tm.shapedL ks)=Tm.shapedL ks:=by simp [h0,h2]
    rw [e1];simp only [↓Alg,↓XX,XY,↓reduceIte,seval,↓Ap hk,h0,h2,↓AM,XD,heldB,AV,XE];exact loop
def W8 (f:Nat) (t:Tm):Option (Tm×Int) :=
 if t.shaped=false then some (.z,1) else match RL f [] t ⟨100000,5000000,0⟩ with
 | none=>none
 | some (v,m)=>if m.e≠0 then some (.z,m.e) else match V6 f v 0 1 m 0 with
  | none=>none
  | some (u,m,_)=>if m.e≠0 then some (.z,m.e) else some (u,0)
theorem Akv {ih:Al} {f:FuncId} {args:List IV} {h h':Hp} {v:IV} (hr:ih f args h=some (v,h')) (k:KT (IV×Hp)):AlE ih f args h k=k v h' [] []:=by
 unfold AlE;rw [hr]
abbrev Hnm (a b:Blk) (s u r e:Int):Hp :=
 ⟨[(42991616,a),(42991617,b),(73401345,.row [iv s,iv u,iv r,iv e,.mapr (.own 73402369)] false),(73402369,.map (Da 73401345))],[]⟩
abbrev Hbg (a b:Blk) (es:List (Int×IV)):Hp :=
 ⟨[(42991616,a),(42991617,b),(73401345,.row [iv 100000,iv 5000000,iv 0,iv 0,.dead] false),(73402369,.map es)],[]⟩
abbrev fnO (g:FuncId):IV:=.func (.func g) [.ptr (.own 73401345) 0] []
theorem QV (a b:Blk) (es:List (Int×IV)) (g:FuncId) (n:Int) (s:Nat) (k:KT (IV×Hp)) :
  Ay (Ch EE 98 (.mapr (.own 73402369)) (iv n) (Fl 73401345 g)) s (Hbg a b es) k=k .dead (Hbg a b (Cz n (Fl 73401345 g) es)) [.own 73402369] [.own 73402369]:=by
 rw [Ave _ 0 _ rfl,BL];rw [show An 73402369 (Hbg a b es).own=some (.map es) from rfl,Option.bind_some,Anc,Ce]
 rfl
theorem Rl (g:FuncId) (k:IV->Option (IV×Hp)):BI [.fv .nilf] [(0,1,fnO g)] k=k (Fl 73401345 g):=rfl
theorem AlF (a b:Blk) (es:List (Int×IV)):S0 (.ptr (.own 73401345) 0) (Hbg a b es) (.mapr (.own 73402369))=some (.ptr (.own 73401345) 0,⟨[(42991616,a),(42991617,b),(73401345,.row [iv 100000,iv 5000000,iv 0,iv 0,.mapr (.own 73402369)] false),(73402369,.map es)],[]⟩):=by
 simp only [S0,↓XX,XY,↓reduceIte,seval,↓AnZ,↓of4]
theorem MC (g:FuncId) (s:Nat) (h:Hp) (k:KT (IV×Hp)):Ay (Idl.val (Db (.func g) [.ptr (.own 73401345) 0] [])) s h k=k (fnO g) h [] []:=gen_val' _ _ _ _
theorem Amx (a b:Blk) (es:List (Int×IV)):Sv (fnO 97) (Hbg a b es) (.mapr (.own 73402369)) (.ptr (.own 73401345) 0) =
  S0 (.ptr (.own 73401345) 0) (Hbg a b (Cz 19 (Fl 73401345 98) (Cz 30 (Fl 73401345 97) es))) (.mapr (.own 73402369)):=by
 unfold Sv;rw [Rl,QV,MC,Rl,QV]
theorem Amn (a b:Blk) (es:List (Int×IV)):R8 (Hbg a b es) (.mapr (.own 73402369)) (Fl 73401345 95) (.ptr (.own 73401345) 0) =
  Sv (fnO 97) (Hbg a b (Cz 13 (Fl 73401345 96) (Cz 9 (Fl 73401345 95) es))) (.mapr (.own 73402369)) (.ptr (.own 73401345) 0):=by
 unfold R8;rw [QV,MC,Rl,QV,MC]
theorem Ams (a b:Blk) (es:List (Int×IV)):XG (Hbg a b es) (.ptr (.own 73401345) 0) (.mapr (.own 73402369)) =
  R8 (Hbg a b (Cz 8 (Fl 73401345 95) es)) (.mapr (.own 73402369)) (Fl 73401345 95) (.ptr (.own 73401345) 0):=by
 unfold XG;rw [MC,Rl,QV,MC,Rl]
theorem Axs (k:IV->Option (IV×Hp)):BI [.fv (.int .i64 0),.fv (.int .i64 0),.fv (.int .i64 0),.fv (.int .i64 0),.dead] [(0,1,.fv (.int .i64 100000)),(1,1,.fv (.int .i64 5000000))] k=k (.agg [iv 100000,iv 5000000,iv 0,iv 0,.dead]):=by
 simp only [↓XX,XY,↓reduceIte,seval,↓Amq]
theorem Tx {n:Nat} (hn:0<n) (a b:Blk):SS dt n 70 [] ⟨[(42991616,a),(42991617,b)],[]⟩=some (.ptr (.own 73401345) 0,Hnm a b 100000 5000000 0 0):=by
 obtain ⟨n,rfl⟩:=psc n (by omega);rw [c70];unfold S70;rw [Axs,Wd];have e1:∀k:KT (IV×Hp),GX 73401345 (.row [iv 100000,iv 5000000,iv 0,iv 0,.dead] false) (.ptr (.own 73401345) 0) ⟨[(42991616,a),(42991617,b)],[]⟩ k =
   k (.ptr (.own 73401345) 0) ⟨[(42991616,a),(42991617,b),(73401345,.row [iv 100000,iv 5000000,iv 0,iv 0,.dead] false)],[]⟩ [] [.own 73401345]:=by
  intro k;simp only [↓XX,XY,↓reduceIte,seval]
 rw [e1];have e2:∀k:KT (IV×Hp),Ay (Hi 73402369) 73402369 ⟨[(42991616,a),(42991617,b),(73401345,.row [iv 100000,iv 5000000,iv 0,iv 0,.dead] false)],[]⟩ k =
   k (.mapr (.own 73402369)) (Hbg a b []) [] [.own 73402369]:=by
  intro k;rw [Ayk];simp only [↓XX,XY,↓reduceIte,seval]
 rw [e2,MC,Rl,QV,Ams,Amn,Amx,AlF];rfl
section
variable {ih:Al} {f:FuncId} {w:FV} {a b:Blk} {s u r e s' u' r' e':Int} (k:KT (IV×Hp))
theorem Aqw (args:List IV) (ks:List Bool) (hks:∀b∈ks,b=false) {vs:List FV} (hz:BK args=some vs) (hr:Bq (ih f (.ptr (.ext 0) 0::vs.map .fv) ⟨[],MX s u r e⟩) w (MX s' u' r' e')) :
  A4 (true::ks) false false ih f (.ptr (.own 73401345) 0::args) (Hnm a b s u r e) k=k (.fv w) (Hnm a b s' u' r' e') [.own 73402369,.own 73401345] [.own 73401345,.own 73402369]:=by
 (try unfold is0);rw [AtE hks hz (mp:=73402369) (by decide) (by rfl) (by rfl) hr]
 rfl
theorem Xi {x y:IV} {vx vy:FV} (hr:Bq (ih f [.ptr (.ext 0) 0,.fv vx,.fv vy] ⟨[],MX s u r e⟩) w (MX s' u' r' e')) (hx:Bg x=some vx) (hy:Bg y=some vy) :
  A4 [true,false,false] false false ih f [.ptr (.own 73401345) 0,x,y] (Hnm a b s u r e) k=k (.fv w) (Hnm a b s' u' r' e') [.own 73402369,.own 73401345] [.own 73401345,.own 73402369] :=
 Aqw k [x,y] [false,false] (by simp) (Xo hx hy) hr
theorem AlN {x y z:IV} {vx vy vz:FV} (hr:Bq (ih f [.ptr (.ext 0) 0,.fv vx,.fv vy,.fv vz] ⟨[],MX s u r e⟩) w (MX s' u' r' e')) (hx:Bg x=some vx) (hy:Bg y=some vy) (hz:Bg z=some vz) :
  A4 [true,false,false,false] false false ih f [.ptr (.own 73401345) 0,x,y,z] (Hnm a b s u r e) k=k (.fv w) (Hnm a b s' u' r' e') [.own 73402369,.own 73401345] [.own 73401345,.own 73402369] :=
 Aqw k [x,y,z] [false,false,false] (by simp) (Ai6 hx hy hz) hr
end
theorem Akk {f n:Nat} {t u:Tm} {e:Int} (h:W8 f t=some (u,e)) (hn:f+3<=n) (hw:t.wt+3<n) (hw2:t.wt<=1152921504606846976):BW (SS dt n 41 [.fv t.enc] ⟨[],[]⟩) (.tuple [u.enc,.int .i64 e]):=by
 obtain ⟨n,rfl⟩:=psc n (by omega);rw [c41];have hs:=AiZ n t (by omega) hw2;unfold W8 at h;obtain ⟨op,m,ks⟩:=t;rw [Ag] at hs ⊢;by_cases h0:(Tm.mk op m ks).shaped=false
 ·rw [if_pos h0] at h;simp only [AB5,AB6] at h;obtain ⟨rfl,rfl⟩:=h;rw [h0] at hs;simp only [Pj,PS,Pm,P1,OM,PR,O9,OY,Pf,Qk,S41,↓XX,XY,↓reduceIte,seval,↓Ap hs];exact V4 rfl (by simp) _
 ·rw [if_neg h0] at h;have h0:(Tm.mk op m ks).shaped=true:=by simpa using h0
  rw [h0] at hs;cases hev:RL f [] (.mk op m ks) ⟨100000,5000000,0⟩ with
  | none=>rw [hev] at h;cases h
  | some q =>
   obtain ⟨v,m1⟩:=q;rw [hev] at h;simp only at h;have hc1:=(MM f).1 _ _ _ _ _ hev 0 n (by omega);rw [Ag,WH] at hc1;by_cases h1:m1.e=0
   ·rw [if_neg (by simpa using h1)] at h;simp only [h1] at hc1;cases hbk:V6 f v 0 1 m1 0 with
    | none=>rw [hbk] at h;cases h
    | some q =>
     obtain ⟨u1,m2,r2⟩:=q;rw [hbk] at h;simp only at h;have hc2:=AqD f _ _ _ _ _ _ _ _ hbk n (by omega);obtain ⟨o1,n1,k1⟩:=u1;rw [Ag] at hc2;simp only [h1] at hc2;by_cases h2:m2.e=0
     ·rw [if_neg (by simpa using h2)] at h;simp only [AB5,AB6] at h;obtain ⟨rfl,rfl⟩:=h;rw [Ag];simp only [Pj,PS,Pm,P1,OM,PR,O9,OY,Pf,Qk,S41,↓XX,XY,↓reduceIte,seval,↓Ap hs,↓Akv (Tx (n:=n) (by omega) _ _),↓Xi _ hc1,↓AlN _ hc2,h1,h2];exact Aw _ _
     ·rw [if_pos h2] at h;simp only [AB5,AB6] at h;obtain ⟨rfl,rfl⟩:=h;simp only [Pj,PS,Pm,P1,OM,PR,O9,OY,Pf,Qk,S41,↓XX,XY,↓reduceIte,seval,↓Ap hs,↓Akv (Tx (n:=n) (by omega) _ _),↓Xi _ hc1,↓AlN _ hc2,h1,h2];exact V4 rfl (by simp) _
   ·rw [if_pos h1] at h;simp only [AB5,AB6] at h;obtain ⟨rfl,rfl⟩:=h;simp only [Pj,PS,Pm,P1,OM,PR,O9,OY,Pf,Qk,S41,↓XX,XY,↓reduceIte,seval,↓Ap hs,↓Akv (Tx (n:=n) (by omega) _ _),↓Xi _ hc1,h1];exact V4 rfl (by simp) _
def gb1 (a:FV):Qz 400 [.ext 0] 0 [.row [.fv a] false]=true:=Si [a]
def ob1 (a:FV):okB 1 [.row [.fv a] false]=true:=UI [a]
def AqH (a a':FV):OneX [.row [.fv a] false] [.row [.fv a'] false]:=⟨gb1 ..,rfl,rfl,ob1 ..⟩
def Atb {ks:List Bool} (hks:∀b∈ks,b=false) {ih:Al} {f:FuncId} {a0:IV} {x0:FV} {args:List IV} {vs:List FV} {w:FV} {ext ext':List Blk} (h0:Bg a0=some x0) (hz:BK args=some vs) (X:OneX ext ext') (hr:Bq (ih f (.fv x0 :: .ptr (.ext 0) 0::vs.map .fv) ⟨[],ext⟩) w ext')
  (own:List (Nat×Blk)) (k:KT (IV×Hp)):A4 (false::true::ks) false false ih f (a0 :: .ptr (.ext 0) 0::args) ⟨own,ext⟩ k=k (.fv w) ⟨own,ext'⟩ [.ext 0] [.ext 0]:=by
 rw [Kx,Vh,KO _ _ _ _ h0,XC,SN,O8 0 args _ _ _ _ ks hks hz]
 have:=Ud (r1:=.ext 0) (rs1:=[]) hr X.g (by rw [X.l,X.l']) (by rw [X.l];exact X.o) own (ih f (.fv x0 :: .ptr (.ext 0) 0::vs.map .fv) ⟨[],[]⟩) [] [] (Fx (false::true::ks) false false ih f (a0 :: .ptr (.ext 0) 0::args) ⟨own,ext⟩ k) k
 refine this.trans ?_;rw [X.l];rfl
def AhS {ih:Al} {f:FuncId} {a b:IV} {x y w:FV} {ext ext':List Blk} (hr:Bq (ih f [.fv x,.ptr (.ext 0) 0,.fv y] ⟨[],ext⟩) w ext') (X:OneX ext ext') (ha:Bg a=some x) (hb:Bg b=some y) (own:List (Nat×Blk))
  (k:KT (IV×Hp)):A4 [false,true,false] false false ih f [a,.ptr (.ext 0) 0,b] ⟨own,ext⟩ k=k (.fv w) ⟨own,ext'⟩ [.ext 0] [.ext 0]:=Atb (ks:=[false]) (by simp) ha (AjX hb) X hr own k
def AuK {ks:List Bool} (hks:∀b∈ks,b=false) {ih:Al} {f:FuncId} {a0:IV} {x0:FV} {args:List IV} {vs:List FV} {w:FV} {s:Nat} {st st':List FV} {own:List (Nat×Blk)} (h0:Bg a0=some x0) (hz:BK args=some vs) (hl:An s own=some (.row (st.map .fv) false))
  (hr:Bq (ih f (.fv x0 :: .ptr (.ext 0) 0::vs.map .fv) ⟨[],[.row (st.map .fv) false]⟩) w [.row (st'.map .fv) false]) (k:KT (IV×Hp)) :
  A4 (false::true::ks) false false ih f (a0 :: .ptr (.own s) 0::args) ⟨own,[]⟩ k=k (.fv w) ⟨AP s (.row (st'.map .fv) false) own,[]⟩ [.own s] [.own s]:=by
 obtain ⟨v,own',e1,hfz⟩:=hr;obtain ⟨u,hu⟩:=Px hfz;have hD:Fx (false::true::ks) false false ih f (a0 :: .ptr (.own s) 0::args) ⟨own,[]⟩ k=k (.fv w) ⟨AP s (.row (st'.map .fv) false) own,[]⟩ [.own s] [.own s]:=by
  have h1:Bs (false::true::ks) (a0 :: .ptr (.own s) 0::args)=.ret (.fv x0 :: .ptr (.own s) 0::vs.map .fv,[.own s],[]):=by
   simp only [Bs,frp 4096 (by omega) h0,II args ks hks hz,Rd.bind,IV.refs];rfl
  have h2:(Cb 4096 [.own s] []).runLog ⟨own,[]⟩ []=some ([(.own s,.row (st.map .fv) false)],[.own s]):=by
   show (Cb (4094+1+1) [.own s] []).runLog ⟨own,[]⟩ []=_
   simp only [Cb,hasRef,Bool.false_eq_true,if_false,Rd.runLog,Hp.get,hl,Blk.refs,Pg,List.append_nil,List.nil_append]
  have h3:IV.ren.renL (DK [(.own s,.row (st.map .fv) false)]) (.fv x0 :: .ptr (.own s) 0::vs.map .fv)=some (.fv x0 :: .ptr (.ext 0) 0::vs.map .fv):=by
   simp only [IV.ren.renL,IV.ren,DK,Cn,if_true,AB8,Option.bind_some,FD]
  have h4:A8 (DK [(.own s,.row (st.map .fv) false)]) [.row (st.map .fv) false]=some [.row (st.map .fv) false]:=by
   simp only [A8,Blk.ren,FD,AB8,Option.bind_some]
  have h5:A8 (Cv [(.own s,.row (st.map .fv) false)]) [.row (st'.map .fv) false]=some [.row (st'.map .fv) false]:=by
   simp only [A8,Blk.ren,FD,AB8,Option.bind_some]
  unfold Fx;simp only [h1,Rd.runLog,h2,h3,ACb,ACa,h4,DD (Cw 3),DD CY,Kn,Bool.false_eq_true,if_false,e1,hu,AB8,IV.ren,h5,AB9,List.length_nil,Bx,List.all_nil,and_self,if_true,List.nil_append,List.zip_cons_cons,List.zip_nil_left];have h6:laid ⟨own,[]⟩ [(.own s,.row (st'.map .fv) false)]=some ⟨AP s (.row (st'.map .fv) false) own,[]⟩:=by
   simp only [laid,Hp.get,hl,Hp.set]
  simp only [h6,M0,Cw]
 rw [Kx,Vh,KO _ _ _ _ h0,XC,SN,O8 0 args _ _ _ _ ks hks hz];simp only [TD,Uj,cond_false];exact hD
def AoV {ih:Al} {f:FuncId} {x y:IV} {vx vy w:FV} {s:Nat} {a a':FV} {own own':List (Nat×Blk)} (hr:Bq (ih f [.fv vx,.ptr (.ext 0) 0,.fv vy] ⟨[],[.row [.fv a] false]⟩) w [.row [.fv a'] false])
  (hx:Bg x=some vx) (hy:Bg y=some vy) (hl:An s own=some (.row [.fv a] false)) (ho:AP s (.row [.fv a'] false) own=own') (k:KT (IV×Hp)) :
  A4 [false,true,false] false false ih f [x,.ptr (.own s) 0,y] ⟨own,[]⟩ k=k (.fv w) ⟨own',[]⟩ [.own s] [.own s]:=by
 subst ho;exact AuK (ks:=[false]) (by simp) (st:=[a]) (st':=[a']) hx (AjX hy) hl hr k
def HM (op:Int):Int:=if op<0 then -1 else ([-1,0,0,2,2,2,2,3,1,1,0,0,1,4,0,0,2,2,1,1,2,2,2,1,1,0,2,3,2,2,1]:List Int).getD op.toNat (-1)
def Qr (op:Int):(0<=op/\op<=30)\/op<0\/30<op:=by omega
def Mh {op:Int} (h:op<0\/30<op):HM op=-1:=by
 unfold HM;split
 ·rfl
 ·rw [List.getD_eq_getElem?_getD,List.getElem?_eq_none (by simp;omega)];rfl
def Amo {P:Int->Prop} (h:∀k:Nat,k<31->P k) {op:Int} (h1:0<=op/\op<=30):P op:=by
 have:=h op.toNat (by omega)
 rwa [Int.toNat_of_nonneg h1.1] at this
def AkR {n:Nat} (hn:0<n) (op:Int):BW (SS dt n 52 [iv op] ⟨[],[]⟩) (.int .i64 (HM op)):=by
 obtain ⟨n,rfl⟩:=psc n (by omega);rw [c52];rcases Qr op with h | h
 ·revert op
  refine fun op h=>Amo (P:=fun op=>BW (S52 (SS dt n) n (iv op) ⟨[],[]⟩) (.int .i64 (HM op))) ?_ h;intro k hk;rcases k with _ | k
  ·simp only [Ve,U5,SM,Uc,Sb,UJ,Ss,R0,Vm,UB,RM,Uw,U8,SL,RU,TP,Tl,SJ,S52,↓XX,XY,↓reduceIte,seval];exact Aw _ _
  iterate 30 (rcases k with _ | k;· simp only [Ve,U5,SM,Uc,Sb,UJ,Ss,R0,Vm,UB,RM,Uw,U8,SL,RU,TP,Tl,SJ,S52,↓XX,XY,↓reduceIte,seval];exact Aw _ _)
  omega
 ·rw [Mh h];have q1:op≠1:=by omega
  have q2:op≠2:=by omega
  have q3:op≠3:=by omega
  have q4:op≠4:=by omega
  have q5:op≠5:=by omega
  have q6:op≠6:=by omega
  have q7:op≠7:=by omega
  have q8:op≠8:=by omega
  have q9:op≠9:=by omega
  have q10:op≠10:=by omega
  have q11:op≠11:=by omega
  have q12:op≠12:=by omega
  have q13:op≠13:=by omega
  have q14:op≠14:=by omega
  have q15:op≠15:=by omega
  have q16:op≠16:=by omega
  have q17:op≠17:=by omega
  have q18:op≠18:=by omega
  have q19:op≠19:=by omega
  have q20:op≠20:=by omega
  have q21:op≠21:=by omega
  have q22:op≠22:=by omega
  have q23:op≠23:=by omega
  have q24:op≠24:=by omega
  have q25:op≠25:=by omega
  have q26:op≠26:=by omega
  have q27:op≠27:=by omega
  have q28:op≠28:=by omega
  have q29:op≠29:=by omega
  have q30:op≠30:=by omega
  simp only [Ve,U5,SM,Uc,Sb,UJ,Ss,R0,Vm,UB,RM,Uw,U8,SL,RU,TP,Tl,SJ,S52,↓XX,XY,↓reduceIte,seval,q1,q2,q3,q4,q5,q6,q7,q8,q9,q10,q11,q12,q13,q14,q15,q16,q17,q18,q19,q20,q21,q22,q23,q24,q25,q26,q27,q28,q29,q30];exact Aw _ _
def Yu (op n:Int):Bool:=if op=1 then decide (0<=n) && decide (n<=3000) else if op=2 then decide (0<=n) && decide (n<=2) else if op=26 then decide (0<=n) && decide (n<=4) else if op=25 then true else decide (n=0)
def AiA {n:Nat} (hn:0<n) (op m:Int):BW (SS dt n 89 [iv op,iv m] ⟨[],[]⟩) (.bool (Yu op m)):=by
 obtain ⟨n,rfl⟩:=psc n (by omega);rw [c89];unfold Yu;by_cases h1:op=1
 ·by_cases h0:0<=m<;>simp only [↓Aml,↓XX,XY,↓reduceIte,seval,h0,h1]<;>exact Aw _ _
 by_cases h2:op=2
 ·by_cases h0:0<=m<;>simp only [↓Aml,↓XX,XY,↓reduceIte,seval,h0,h2]<;>exact Aw _ _
 by_cases h3:op=26
 ·by_cases h0:0<=m<;>simp only [↓Aml,↓XX,XY,↓reduceIte,seval,h0,h3]<;>exact Aw _ _
 by_cases h4:op=25
 ·simp only [↓Aml,↓XX,XY,↓reduceIte,seval,h4];exact Aw _ _
 simp only [↓Aml,↓XX,XY,↓reduceIte,seval,h1,h2,h3,h4];exact Aw _ _
def Xz {n:Nat} (hn:0<n) (op m:Int):BW (SS dt n 92 [iv op,iv m] ⟨[],[]⟩) (.bool (Yu op m)):=by
 obtain ⟨n,rfl⟩:=psc n (by omega);rw [c92];unfold Yu;by_cases h1:op=1
 ·by_cases h0:0<=m<;>simp only [↓AkT,↓XX,XY,↓reduceIte,seval,h0,h1]<;>exact Aw _ _
 by_cases h2:op=2
 ·by_cases h0:0<=m<;>simp only [↓AkT,↓XX,XY,↓reduceIte,seval,h0,h2]<;>exact Aw _ _
 by_cases h3:op=26
 ·by_cases h0:0<=m<;>simp only [↓AkT,↓XX,XY,↓reduceIte,seval,h0,h3]<;>exact Aw _ _
 by_cases h4:op=25
 ·simp only [↓AkT,↓XX,XY,↓reduceIte,seval,h4];exact Aw _ _
 simp only [↓AkT,↓XX,XY,↓reduceIte,seval,h1,h2,h3,h4];exact Aw _ _
mutual
def Tm.chk:Tm->Int->Int->Int×Int
 | .mk op m l,n,d=>if 3000<n+1\/120<d then (n+1,5) else if HM op≠(l.length:Int)\/Yu op m=false then (n+1,1) else Tm.chkL l (n+1) (d+1)
def Tm.chkL:List Tm->Int->Int->Int×Int
 | [],n,_=>(n,0)
 | t::l,n,d=>if (t.chk n d).2=0 then Tm.chkL l (t.chk n d).1 d else t.chk n d
end
mutual
theorem Vq:∀(t:Tm) (n d:Int),n<=3000->n<=(t.chk n d).1/\(t.chk n d).1<=3001/\((t.chk n d).2=0->(t.chk n d).1=n+t.wt/\(t.chk n d).1<=3000/\d<=120)
 | .mk op m l,n,d,hn=>by
  rw [Tm.chk];split
  ·simp;omega
  ·split
   ·simp;omega
   ·have:=chkL_b l (n+1) (d+1) (by omega)
    simp only [Tm.wt];omega
theorem chkL_b:∀(l:List Tm) (n d:Int),n<=3000->n<=(Tm.chkL l n d).1/\(Tm.chkL l n d).1<=3001/\((Tm.chkL l n d).2=0->(Tm.chkL l n d).1=n+Tm.wtL l/\(Tm.chkL l n d).1<=3000)
 | [],n,d,hn=>by simp [Tm.chkL,Tm.wtL];omega
 | t::l,n,d,hn=>by
  have h1:=Vq t n d hn;rw [Tm.chkL];split
  ·rename_i h0;have h2:=chkL_b l (t.chk n d).1 d (by omega);simp only [Tm.wtL];omega
  ·rename_i h0;simp only [Tm.wtL];omega
end
abbrev HW (op m:Int) (ks:List Tm) (N E:Int):Hp:=⟨[(66060288,.row [iv op,iv m,.fv (.sl (ks.map Tm.enc))] false)],[.row [iv N,iv E] false]⟩
theorem VE (op:Int):HM op<=4:=by
 rcases Qr op with h | h
 ·exact Amo (P:=fun op=>HM op<=4) (by
                         intro k hk;have:∀k:Fin 31,HM (k.val:Int)<=4:=by decide
                         exact this ⟨k,hk⟩) h
 ·rw [Mh h];omega
theorem AnU:∀(n:Nat) (t:Tm) (N d:Int),2 * t.wt+2<n->0<=N->N<=3000->0<=d->d<=121 ->
  Bq (SS dt n 63 [.ptr (.ext 0) 0,.fv t.enc,iv d] ⟨[],[.row [iv N,iv 0] false]⟩) (.tuple []) [.row [iv (t.chk N d).1,iv (t.chk N d).2] false]:=by
 intro n
 induction n using Nat.strongRecOn with
 | ind n ih =>
  intro t N d hn h0 hN hd0 hd;obtain ⟨op,m,ks⟩:=t;simp only [Tm.wt] at hn;obtain ⟨n,rfl⟩:=psc n (by omega);rw [c63,Ag];have hlen:=Fj ks;have hw:BM (N+1)=N+1:=by rw [Av]<;>omega
  have hwd:BM (d+1)=d+1:=by rw [Av]<;>omega
  have ha:=AkR (n:=n) (by omega) op;have hb:=AiA (n:=n) (by omega) op m;have hl:∀(N' E':Int) (r:Int×Int),N'<=3000\/E'≠0->0<=N'->(E'=0->ks.length<=4/\r=Tm.chkL ks N' (d+1)/\d<=120)->(E'≠0->r=(N',E')) ->
    Bq (BQ n (fun q20 l21 h22=>KY l21 h22 (SS dt n) q20) [.ptr (.ext 0) 0,iv d,.ptr (.own 66060288) 0,iv 0] (HW op m ks N' E')) (.tuple []) [.row [iv r.1,iv r.2] false]:=by
   intro N' E' r hN' hN0 h1 h2;refine Bd (Q:=fun r'=>Bq r' _ _) (fun k V H=>∃pre rest N2 E2,ks=pre++rest/\rest.length=k/\V=[.ptr (.ext 0) 0,iv d,.ptr (.own 66060288) 0,iv pre.length]/\H=HW op m ks N2 E2 /\
    0<=N2/\(E2=0->N2<=3000/\ks.length<=4/\r=Tm.chkL rest N2 (d+1)/\d<=120)/\(E2≠0->r=(N2,E2))) ?_ n ks.length _ _ (by omega) ⟨[],ks,N',E',rfl,rfl,rfl,rfl,hN0,fun e=>⟨by rcases hN' with h | h;exact h;exact absurd e h,h1 e⟩,h2⟩
   rintro k V H rec ⟨pre,rest,N2,E2,hk,hkl,rfl,rfl,hN2,hok,hbad⟩ hrec;have hkk:ks.length=pre.length+rest.length:=by rw [hk];simp
   cases rest with
   | nil =>
    have hno:¬ ((pre.length:Int)<ks.length):=by rw [hkk];simp
    have:r=(N2,E2):=by
     by_cases he:E2=0
     ·rw [(hok he).2.2.1,he];rfl
     ·exact hbad he
    rw [this];simp only [L0,Kw,Ku,LW,KY,Lj,KA,LR,Lw,K8,Ld,LV,Lh,LX,Lp,S63,↓XX,XY,↓reduceIte,seval,hno];exact Ff rfl _ _
   | cons t rest =>
    have hi:(pre.length:Int)<ks.length:=by rw [hkk];simp;omega
    by_cases he:E2=0
    ·subst he;obtain ⟨hb1,hb2,hr,hd2⟩:=hok rfl;have hg:=Cr hk;have htw:=CT (t:=t) (l:=ks) (by rw [hk];simp);have hc:=ih n (by omega) t N2 (d+1) (by omega) hN2 hb1 (by omega) (by omega);have hcb:=Vq t N2 (d+1) hb1;have hwi:BM ((pre.length:Int)+1)=((pre++[t]).length:Int):=(Av (by omega) (by omega)).trans (by simp);rw [Tm.chkL] at hr;have h9:=hrec rest.length [.ptr (.ext 0) 0,iv d,.ptr (.own 66060288) 0,iv (pre++[t]).length] (HW op m ks (t.chk N2 (d+1)).1 (t.chk N2 (d+1)).2) (by simp only [AB9] at hkl;omega)
      ⟨pre++[t],rest,_,_,by rw [hk];simp,rfl,rfl,rfl,by omega,fun e=>⟨(hcb.2.2 e).2.1,hb2,by rw [hr,if_pos e],hd2⟩,fun e=>by rw [hr,if_neg e]⟩
     generalize t.chk N2 (d+1)=q at hc h9;obtain ⟨o,p,l⟩:=t;rw [Ag] at hc;simp only [L0,Kw,Ku,LW,KY,Lj,KA,LR,Lw,K8,Ld,LV,Lh,LX,Lp,S63,↓XX,XY,↓reduceIte,seval,hi,↓BS (AY hg) (BA _ _ _),↓CB,hwd,↓Kc hc (AwG _ _ _ _),hwi];exact h9
    ·rw [hbad he];simp only [L0,Kw,Ku,LW,KY,Lj,KA,LR,Lw,K8,Ld,LV,Lh,LX,Lp,S63,↓XX,XY,↓reduceIte,seval,hi,he];exact Ff rfl _ _
  rw [Tm.chk];by_cases c1:3000<N+1
  ·have hx:=hl (N+1) 5 (N+1,5) (.inr (by decide)) (by omega) (fun e=>absurd e (by decide)) (fun _=>rfl);rw [if_pos (.inl c1)];simp only [↓Aj3,↓XX,XY,↓reduceIte,seval,hw,c1];exact hx
  ·by_cases c2:120<d
   ·have hx:=hl (N+1) 5 (N+1,5) (.inr (by decide)) (by omega) (fun e=>absurd e (by decide)) (fun _=>rfl);rw [if_pos (.inr c2)];simp only [↓Aj3,↓XX,XY,↓reduceIte,seval,hw,c1,c2];exact hx
   ·rw [if_neg (by omega)];by_cases c3:HM op=(ks.length:Int)
    ·have hx1:=hl (N+1) 1 (N+1,1) (.inr (by decide)) (by omega) (fun e=>absurd e (by decide)) (fun _=>rfl);have hk4:=VE op;have hx0:=hl (N+1) 0 (Tm.chkL ks (N+1) (d+1)) (.inl (by omega)) (by omega) (fun _=>⟨by omega,rfl,by omega⟩) (fun e=>absurd rfl e);cases hnb:Yu op m
     ·rw [hnb] at hb;rw [if_pos (.inr rfl)];simp only [↓Aj3,↓XX,XY,↓reduceIte,seval,hw,c1,c2,↓Ap ha,c3,↓Ad hb];exact hx1
     ·rw [hnb] at hb;rw [if_neg (by simp [c3])];simp only [↓Aj3,↓XX,XY,↓reduceIte,seval,hw,c1,c2,↓Ap ha,c3,↓Ad hb];exact hx0
    ·have hx1:=hl (N+1) 1 (N+1,1) (.inr (by decide)) (by omega) (fun e=>absurd e (by decide)) (fun _=>rfl);rw [if_pos (.inl c3)];simp only [↓Aj3,↓XX,XY,↓reduceIte,seval,hw,c1,c2,↓Ap ha,c3];exact hx1
theorem AkI {n:Nat} (t:Tm) (hn:2 * t.wt+3<n):BW (SS dt n 35 [.fv t.enc] ⟨[],[]⟩) (.int .i64 (t.chk 0 1).2):=by
 obtain ⟨n,rfl⟩:=psc n (by omega);rw [c35];have h:=AnU n t 0 1 (by omega) (by omega) (by omega) (by omega) (by omega);generalize t.chk 0 1=q at h;obtain ⟨op,m,ks⟩:=t;rw [Ag] at h ⊢;have c2:=fun k=>Aoy (k:=k) h (x:=.fv (.agg [.int .i64 op,.int .i64 m,.sl (ks.map Tm.enc)])) (y:=iv 1) (s:=36701185) rfl rfl
  (own:=[(36700160,.row [iv op,iv m,.fv (.sl (ks.map Tm.enc))] false),(36701185,.row [iv 0,iv 0] false)])
  (own':=[(36700160,.row [iv op,iv m,.fv (.sl (ks.map Tm.enc))] false),(36701185,.row [iv q.1,iv q.2] false)]) (by simp [An]) (by simp [AP])
 simp only [AmQ,S35,↓XX,XY,↓reduceIte,seval,↓c2];exact Aw _ _
theorem Vt (s:Nat) (h:Hp) (k:KT (IV×Hp)):Ay (Nw EE 132 [(0,.fv (.int .i64 (-1))),(1,.fv (.int .i64 0)),(2,.fv (.int .i64 0)),(3,.fv (.int .i64 2)),(4,.fv (.int .i64 2)),(5,.fv (.int .i64 2)),(6,.fv (.int .i64 2)),(7,.fv (.int .i64 3)),(8,.fv (.int .i64 1)),(9,.fv (.int .i64 1)),(10,.fv (.int .i64 0)),(11,.fv (.int .i64 0)),(12,.fv (.int .i64 1)),(13,.fv (.int .i64 4)),(14,.fv (.int .i64 0)),(15,.fv (.int .i64 0)),(16,.fv (.int .i64 2)),(17,.fv (.int .i64 2)),(18,.fv (.int .i64 1)),(19,.fv (.int .i64 1)),(20,.fv (.int .i64 2)),(21,.fv (.int .i64 2)),(22,.fv (.int .i64 2)),(23,.fv (.int .i64 1)),(24,.fv (.int .i64 1)),(25,.fv (.int .i64 0)),(26,.fv (.int .i64 2)),(27,.fv (.int .i64 3)),(28,.fv (.int .i64 2)),(29,.fv (.int .i64 2)),(30,.fv (.int .i64 1))]) s h k=k (.fv (.agg [.int .i64 (-1),.int .i64 0,.int .i64 0,.int .i64 2,.int .i64 2,.int .i64 2,.int .i64 2,.int .i64 3,.int .i64 1,.int .i64 1,.int .i64 0,.int .i64 0,.int .i64 1,.int .i64 4,.int .i64 0,.int .i64 0,.int .i64 2,.int .i64 2,.int .i64 1,.int .i64 1,.int .i64 2,.int .i64 2,.int .i64 2,.int .i64 1,.int .i64 1,.int .i64 0,.int .i64 2,.int .i64 3,.int .i64 2,.int .i64 2,.int .i64 1])) h [] []:=by
 have:Nw EE 132 [(0,.fv (.int .i64 (-1))),(1,.fv (.int .i64 0)),(2,.fv (.int .i64 0)),(3,.fv (.int .i64 2)),(4,.fv (.int .i64 2)),(5,.fv (.int .i64 2)),(6,.fv (.int .i64 2)),(7,.fv (.int .i64 3)),(8,.fv (.int .i64 1)),(9,.fv (.int .i64 1)),(10,.fv (.int .i64 0)),(11,.fv (.int .i64 0)),(12,.fv (.int .i64 1)),(13,.fv (.int .i64 4)),(14,.fv (.int .i64 0)),(15,.fv (.int .i64 0)),(16,.fv (.int .i64 2)),(17,.fv (.int .i64 2)),(18,.fv (.int .i64 1)),(19,.fv (.int .i64 1)),(20,.fv (.int .i64 2)),(21,.fv (.int .i64 2)),(22,.fv (.int .i64 2)),(23,.fv (.int .i64 1)),(24,.fv (.int .i64 1)),(25,.fv (.int .i64 0)),(26,.fv (.int .i64 2)),(27,.fv (.int .i64 3)),(28,.fv (.int .i64 2)),(29,.fv (.int .i64 2)),(30,.fv (.int .i64 1))]=Idl.val (.fv (.agg [.int .i64 (-1),.int .i64 0,.int .i64 0,.int .i64 2,.int .i64 2,.int .i64 2,.int .i64 2,.int .i64 3,.int .i64 1,.int .i64 1,.int .i64 0,.int .i64 0,.int .i64 1,.int .i64 4,.int .i64 0,.int .i64 0,.int .i64 2,.int .i64 2,.int .i64 1,.int .i64 1,.int .i64 2,.int .i64 2,.int .i64 2,.int .i64 1,.int .i64 1,.int .i64 0,.int .i64 2,.int .i64 3,.int .i64 2,.int .i64 2,.int .i64 1])):=by kernel_rfl
 rw [this];exact gen_val' _ _ _ _
theorem AlI {n:Nat} {op:Int} (h:op<0\/30<op):BW (SS dt (n+1) 91 [iv op] ⟨[],[]⟩) (.int .i64 (-1)):=by
 rw [c91];by_cases h1:op<0
 ·simp only [YL,S91,↓XX,XY,↓reduceIte,seval,↓Vt,h1];exact Aw _ _
 ·have h2:31<=op:=by omega
  simp only [YL,S91,↓XX,XY,↓reduceIte,seval,↓Vt,h1,h2];exact Aw _ _
def Amr (k:Int) (o:Option (IV×Hp)):Bool:=match o with
 | some (.fv (.int .i64 m),⟨_,[]⟩)=>decide (m=k)
 | _=>false
theorem Al7 {k:Int} {o:Option (IV×Hp)} (h:Amr k o=true):BW o (.int .i64 k):=by
 unfold Amr at h;split at h
 ·have:=of_decide_eq_true h
  subst this;exact Aw _ _
 ·cases h
theorem AmK {n:Nat} (hn:0<n) (op:Int):BW (SS dt n 91 [iv op] ⟨[],[]⟩) (.int .i64 (HM op)):=by
 obtain ⟨n,rfl⟩:=psc n (by omega);rcases Qr op with h | h
 ·revert op
  refine fun op h=>Amo (P:=fun op=>BW (SS dt (n+1) 91 [iv op] ⟨[],[]⟩) (.int .i64 (HM op))) ?_ h;intro k hk
  iterate 31 (rcases k with _ | k;· exact Al7 (by kernel_rfl))
  omega
 ·rw [Mh h];exact AlI h
abbrev HC (op m:Int) (ks:List Tm) (N:Int):Hp:=⟨[(71303168,.row [iv op,iv m,.fv (.sl (ks.map Tm.enc))] false)],[.row [iv N] false]⟩
theorem Ahd {base rm:List Nat} {vals:List IV} {own:List (Nat×Blk)} {a:FV} (hb:rm.any base.contains=false) (hf:AV rm vals own []=true) (k:Hp->Option (IV×Hp)) :
  BO base rm vals ⟨own,[.row [.fv a] false]⟩ k=k ⟨HY rm vals own [],[.row [.fv a] false]⟩:=Alp (by intro s;simp [Blk.refs,IV.refs.refsL,IV.refs]) hb hf k
theorem Ajb:∀(n:Nat) (t:Tm) (N d:Int),2 * t.wt+2<n->0<=N->N<=3000->0<=d->d<=121 ->
  Bq (SS dt n 68 [.fv t.enc,.ptr (.ext 0) 0,iv d] ⟨[],[.row [iv N] false]⟩) (.int .i64 (t.chk N d).2) [.row [iv (t.chk N d).1] false]:=by
 intro n
 induction n using Nat.strongRecOn with
 | ind n ih =>
  intro t N d hn h0 hN hd0 hd;obtain ⟨op,m,ks⟩:=t;simp only [Tm.wt] at hn;obtain ⟨n,rfl⟩:=psc n (by omega);rw [c68,Ag];have hlen:=Fj ks;have hw:BM (N+1)=N+1:=by rw [Av]<;>omega
  have hwd:BM (d+1)=d+1:=by rw [Av]<;>omega
  have ha:=AmK (n:=n) (by omega) op;have hb:=Xz (n:=n) (by omega) op m;rw [Tm.chk];by_cases c1:3000<N+1
  ·rw [if_pos (.inl c1)];simp only [↓XH,↓XX,XY,↓reduceIte,seval,hw,c1];exact AG _ _ _
  by_cases c2:120<d
  ·rw [if_pos (.inr c2)];simp only [↓XH,↓XX,XY,↓reduceIte,seval,hw,c1,c2];exact AG _ _ _
  rw [if_neg (by omega)];by_cases c3:HM op=(ks.length:Int)
  ·cases hnb:Yu op m
   ·rw [hnb] at hb;rw [if_pos (.inr rfl)];simp only [↓XH,↓XX,XY,↓reduceIte,seval,hw,c1,c2,↓Ap ha,c3,↓Ad hb];exact AG _ _ _
   ·rw [hnb] at hb;have hk4:=VE op;rw [if_neg (by simp [c3])];simp only [Sy,RI,S9,SU,Su,Vb,SQ,T5,TW,Ty,S68,↓XX,XY,↓reduceIte,seval,hw,c1,c2,↓Ap ha,c3,↓Ad hb,↓Ahd,↓AM,XD,heldB,AV,XE];refine Bd (Q:=fun r'=>Bq r' _ _) (fun k V H=>∃pre rest N2,ks=pre++rest/\rest.length=k/\V=[.ptr (.ext 0) 0,iv d,.fv (.sl (ks.map Tm.enc)),iv ks.length,iv pre.length]/\H=HC op m ks N2 /\
     0<=N2/\N2<=3000/\Tm.chkL rest N2 (d+1)=Tm.chkL ks (N+1) (d+1)) ?_ n ks.length _ _ (by omega) ⟨[],ks,N+1,rfl,rfl,rfl,rfl,by omega,by omega,rfl⟩
    rintro k V H rec ⟨pre,rest,N2,hk,hkl,rfl,rfl,hN2,hN3,hr⟩ hrec;have hkk:ks.length=pre.length+rest.length:=by rw [hk];simp
    cases rest with
    | nil =>
     have hno:¬ ((pre.length:Int)<ks.length):=by rw [hkk];simp
     rw [<- hr];simp only [↓XH,↓XX,XY,↓reduceIte,seval,hno,Tm.chkL];exact AG _ _ _
    | cons t rest =>
     have hi:(pre.length:Int)<ks.length:=by rw [hkk];simp;omega
     have hg:=Cr hk;have htw:=CT (t:=t) (l:=ks) (by rw [hk];simp);have hc:=ih n (by omega) t N2 (d+1) (by omega) hN2 hN3 (by omega) (by omega);have hcb:=Vq t N2 (d+1) hN3;have hwi:BM ((pre.length:Int)+1)=((pre++[t]).length:Int):=(Av (by omega) (by omega)).trans (by simp);rw [Tm.chkL] at hr;rw [<- hr];have h9:=fun e=>hrec rest.length [.ptr (.ext 0) 0,iv d,.fv (.sl (ks.map Tm.enc)),iv ks.length,iv (pre++[t]).length] (HC op m ks (t.chk N2 (d+1)).1) (by simp only [AB9] at hkl;omega)
      ⟨pre++[t],rest,_,by rw [hk];simp,rfl,rfl,rfl,by omega,(hcb.2.2 e).2.1,by rw [<- hr,if_pos e]⟩
     rw [<- hr] at h9;generalize t.chk N2 (d+1)=q at hc h9 ⊢;obtain ⟨q1,q2⟩:=q;simp only at hc h9 ⊢;obtain ⟨o,p,l⟩:=t;rw [Ag] at hc;by_cases he:q2=0
     ·subst he;simp only [if_true] at h9 ⊢;simp only [↓XH,↓XX,XY,↓reduceIte,seval,hi,↓BS (AY hg) (BA _ _ _),↓CB,hwd,↓AhS hc (AqH _ _),hwi,↓Ahd,↓AM,XD,heldB,AV,XE];exact h9 trivial
     ·rw [if_neg he];simp only [↓XH,↓XX,XY,↓reduceIte,seval,hi,↓BS (AY hg) (BA _ _ _),↓CB,hwd,↓AhS hc (AqH _ _),he];exact AG _ _ _
  ·rw [if_pos (.inl c3)];simp only [↓XH,↓XX,XY,↓reduceIte,seval,hw,c1,c2,↓Ap ha,c3];exact AG _ _ _
theorem Aiz {n:Nat} (t:Tm) (hn:2 * t.wt+3<n):BW (SS dt n 40 [.fv t.enc] ⟨[],[]⟩) (.int .i64 (t.chk 0 1).2):=by
 obtain ⟨n,rfl⟩:=psc n (by omega);rw [c40];have h:=Ajb n t 0 1 (by omega) (by omega) (by omega) (by omega) (by omega);generalize t.chk 0 1=q at h;obtain ⟨op,m,ks⟩:=t;rw [Ag] at h ⊢;have c2:=fun k=>AoV (k:=k) h (x:=.fv (.agg [.int .i64 op,.int .i64 m,.sl (ks.map Tm.enc)])) (y:=iv 1) (s:=41944065) rfl rfl
  (own:=[(41943040,.row [iv op,iv m,.fv (.sl (ks.map Tm.enc))] false),(41944065,.row [iv 0] false)])
  (own':=[(41943040,.row [iv op,iv m,.fv (.sl (ks.map Tm.enc))] false),(41944065,.row [iv q.1] false)]) (by simp [An]) (by simp [AP])
 simp only [S40,↓XX,XY,↓reduceIte,seval,↓c2];exact Aw _ _
def Al0 {f n:Nat} {t u:Tm} (hc:(t.chk 0 1).2=0) (h:W8 f t=some (u,0)) (hp:u.plainP=true) (hn:f+4<=n) (h2:2 * t.wt+4<n) (h3:4 * u.wt+6<n) (h4:u.wt<=900000) :
  BW (SS dt n 16 [.fv t.enc] ⟨[],[]⟩) (.tuple [u.enc,.int .i64 0]):=by
 obtain ⟨n,rfl⟩:=psc n (by omega);rw [c16];have h1:=Aiz (n:=n) t (by omega);have hw:=Vq t 0 1 (by omega);have hN:=Akk (n:=n) h (by omega) (by omega) (by have:=hw.2.2 hc;omega);have hP:=AiG (n:=n) u (by omega) h4;rw [hc] at h1;rw [hp] at hP;obtain ⟨o1,n1,k1⟩:=t;obtain ⟨o2,n2,k2⟩:=u;simp only [Ag] at h1 hN hP ⊢;simp only [Amp,Alm,AmF,Am1,AlB,AkD,AkX,S16,↓XX,XY,↓reduceIte,seval,↓Ap h1,↓Ap hN,↓Ap hP];exact Bi rfl
def Ar3:EE.T 27=some ⟨1,24,.slice 69,[.nils]⟩:=by kernel_rfl
def tV1:EE.T 69=some ⟨4,48,.struct [(0,3),(1,30)],[.fv (.int .i64 0),.fv (.int .i64 0),.fv (.int .i64 0),.nils]⟩:=by kernel_rfl
def sV1:SliceT EE 27 4:=⟨_,_,_,_,_,Ar3,tV1,rfl,by decide,by decide⟩
def Tw (s:Nat) (h:Hp) (k:KT (IV×Hp)):Ay (Aj EE 27 0 []) s h k=k (.clip []) h [] []:=CD Ar3 tV1 (by decide) (cells:=[]) rfl k
def SV (s0 o n:Int) (ks:List FV) (s:Nat) (h:Hp) (k:KT (IV×Hp)):Ay (Aj EE 27 1 [(0,.fv (.agg [.int .i64 s0,.int .i64 o,.int .i64 n,.sl ks]))]) s h k=k (.clip [.agg [.int .i64 s0,.int .i64 o,.int .i64 n,.sl ks]]) h [] [] :=
 CD Ar3 tV1 (by decide) (cells:=[.int .i64 s0,.int .i64 o,.int .i64 n,.sl ks]) rfl k
theorem GE (g:Bb):BN 4 (g.map v1)=true:=by
 cases g with
 | nil=>rfl
 | cons a l=>simp only [ACb,BN,v1,FV.cells,AB9,List.length_nil,beq_self_eq_true]
def AlT (g:Bb):((g.map v1).all fun e=>e.cells.all FV.one)=true:=by
 rw [List.all_map,List.all_eq_true];intro p _;rfl
theorem Fy {n:Nat} (g:Bb) (st:Int) (a:Tm) (hg:g.length<=1000) (hn:0<n):BW (SS dt n 60 [.fv (A6 g),iv st,.fv a.enc] ⟨[],[]⟩) (A6 (g++[(st,a)])):=by
 obtain ⟨n,rfl⟩:=psc n (by omega);rw [c60];rw [A6,A6,List.map_append,ACb,ACa];cases g with
 | nil =>
  have h0:=fun {β:Type}=>AjK (β:=β) (E:=EE) sV1 (.sl []) (s0:=.clip []) (.inr rfl);have happ:=fun {β:Type}=>JT (β:=β) sV1 (.clip [v1 (st,a)]) (GE [(st,a)]) rfl (by simp) (s0:=.clip []) (.inr rfl);obtain ⟨o,p,k⟩:=a;simp only [v1,Tm.op,Tm.n,Tm.kids] at happ ⊢;rw [Ag];simp only [X4,Yx,S60,↓XX,XY,↓reduceIte,seval,↓Tw,↓h0,↓SV,↓happ];exact Bl rfl _
 | cons t g =>
  have h0:=fun {β:Type}=>JT (β:=β) sV1 (.sl ((t::g).map v1)) (GE (t::g)) rfl (by simp at hg ⊢;omega) (s0:=.clip []) (.inr rfl);have happ:=fun {β:Type}=>Re (β:=β) sV1 (es:=(t::g).map v1) (es2:=[v1 (st,a)]) (.clip _) (GE [(st,a)]) (GE (t::g)) (AlT [(st,a)]) (by simp at hg ⊢;omega);obtain ⟨o,p,k⟩:=a;simp only [ACb,List.length_map,AB9,List.length_nil,List.cons_append] at h0 happ ⊢;simp only [v1,Tm.op,Tm.n,Tm.kids] at h0 happ ⊢;rw [Ag];simp only [X4,Yx,S60,↓XX,XY,↓reduceIte,seval,↓Tw,↓h0,↓SV,↓happ,HN];exact Bl rfl _
def OF {n:Nat} (hn:1<n):BW (SS dt n 64 [] ⟨[],[]⟩) (Tm.mk 10 0 []).enc:=by
 obtain ⟨n,rfl⟩:=psc n (by omega);rw [c64];have t:=AO (n:=n) (by omega) 10;rw [Ag] at t ⊢;simp only [S64,↓XX,XY,↓reduceIte,seval,↓Ad t];exact Aw _ _
theorem At9 {P:Nat->Nat->Prop}:∀m,(∀i,i<m->∃N,∀n,N<=n->P i n)->∃N,∀i,i<m->∀n,N<=n->P i n:=by
 intro m
 induction m with
 | zero=>intro _;exact ⟨0,fun i hi=>by omega⟩
 | succ m ih =>
  intro h;obtain ⟨N1,h1⟩:=ih fun i hi=>h i (by omega);obtain ⟨N2,h2⟩:=h m (by omega);refine ⟨N1+N2,fun i hi n hn=>?_⟩;by_cases him:i=m
  ·subst him;exact h2 n (by omega)
  ·exact h1 i (by omega) n (by omega)
def Anx:EE.T 75=some ⟨1,24,.slice 3,[.nils]⟩:=by kernel_rfl
def Asv:EE.T 3=some ⟨1,8,.int .i64,[.fv (.int .i64 0)]⟩:=by kernel_rfl
def AvS:SliceT EE 75 1:=⟨_,_,_,_,_,Anx,Asv,rfl,by decide,by decide⟩
def Aqr (a:Int) (s:Nat) (h:Hp) (k:KT (IV×Hp)):Ay (Aj EE 75 1 [(0,iv a)]) s h k=k (.clip [.int .i64 a]) h [] []:=CD Anx Asv (by decide) (cells:=[.int .i64 a]) rfl k
def iE (l:List Nat):List FV:=l.map fun (i:Nat)=>FV.int .i64 (i:Int)
theorem Yq (l:List Nat):BN 1 (iE l)=true:=by
 cases l with
 | nil=>rfl
 | cons a l=>rfl
def Aww (l:List Nat):((iE l).all fun e=>e.cells.all FV.one)=true:=by
 rw [iE,List.all_map,List.all_eq_true];intro p _;rfl
def lV:List Nat->IV
 | []=>.nils
 | i::l=>.app (.own 60825603) (iE (i::l))
def lH:List Nat->List (Nat×Blk)
 | []=>[]
 | i::l=>[(60825603,.tok (i::l).length 1)]
abbrev PL (o m:Int) (ks:List Tm) (l:List Nat):Hp :=
 ⟨[(60817408,.row [iv o,iv m,.fv (.sl (ks.map Tm.enc))] false),(60817409,.row [iv 0,iv 0,.nils] false)]++lH l,[]⟩
def Ajr (p:Nat->Bool) (i:Nat):(List.range (i+1)).filter p=(List.range i).filter p++(if p i then [i] else []):=by
 rw [List.range_succ,List.filter_append];cases h:p i<;>simp [h]
def MV {e0:Nat} {g:Bb} (hg:GOk e0 g) (st:Int) {a:Tm} (ha:NOk g.length a) (x:Int):∃t b,Ev 58 [.fv (A6 g),iv st,.fv a.enc,iv x] (.tuple [Tm.enc t,.bool b])/\TOk g.length 0 t/\(b=true->∃i:Nat,t=.mk 1 i []/\Hit g st a i):=by
 have hlen:=hg.len;have hc:∀i:Nat,∃(p:Int×Tm) (u:Tm) (e:Int),i<g.length->g[g.length - 1 - i]?=some p/\p.2.wk/\p.2.wt<=100000000000/\Ev 34 [.fv (p.2.shift ((i:Int)+1) 0).enc] (.tuple [u.enc,.int .i64 e])/\(e=0/\NOk g.length u\/(e=5\/e=17)/\u=.z)/\∃f,AF f (p.2.shift ((i:Int)+1) 0)=some (u,e):=by
  intro i;by_cases hi:i<g.length
  ·obtain ⟨p,hp⟩:∃p,g[g.length - 1 - i]?=some p:=⟨_,List.getElem?_eq_getElem (by omega)⟩;obtain ⟨h1,h2,h3⟩:=hg.ok _ _ hp;have h4:=C3 p.2 (i+1) 0 _ h1 (by omega);rw [show g.length - 1 - i+(i+1)=g.length by omega] at h4
   obtain ⟨u,e,h5,h6,h7⟩:=Fa (k:=g.length) (by omega) h4 (by rw [DZ];omega);exact ⟨p,u,e,fun _=>⟨hp,Fp _ _ h1,h2,h5,h6,h7⟩⟩
  ·exact ⟨(0,.z),.z,0,fun h=>absurd h hi⟩
 obtain ⟨P,hP⟩:=Classical.axiomOfChoice hc;obtain ⟨U,hP⟩:=Classical.axiomOfChoice hP;obtain ⟨E,hU⟩:=Classical.axiomOfChoice hP;clear hP hc;obtain ⟨N,hN⟩:=At9 (P:=fun i n=>BW (SS dt n 34 [.fv ((P i).2.shift ((i:Int)+1) 0).enc] ⟨[],[]⟩) (.tuple [(U i).enc,.int .i64 (E i)])) g.length (fun i hi=>(hU i hi).2.2.2.1);obtain ⟨hit,hhit⟩:∃h:Nat->Bool,∀i,h i=(decide ((P i).1=st) && (decide (E i=0) && (U i).eta.same a.eta)):=⟨_,fun _=>rfl⟩;obtain ⟨L,hL⟩:∃L,L=(List.range g.length).filter hit:=⟨_,rfl⟩;obtain ⟨tt,htt⟩:∃tt:Tm,tt=if L=[] then .z else .mk 1 ((L.getD (x % (L.length:Int)).toNat 0:Nat):Int) []:=⟨_,rfl⟩;have hLlt:∀i∈L,i<g.length:=fun i hi=>by
  rw [hL] at hi;exact List.mem_range.1 (List.mem_filter.1 hi).1
 refine ⟨tt,!decide (L=[]),⟨N+200000000000+1,?_⟩,?_,?_⟩
 ·intro n hn;obtain ⟨n,rfl⟩:=psc n (by omega);have hka:=NE n a g.length ha.sc (by have:=ha.wt;omega) (by have:=ha.wt;omega);rw [c58];generalize hae:a.eta=ae at hka hhit;obtain ⟨oa,ma,ka⟩:=a;obtain ⟨oe,me,ke⟩:=ae;simp only [Ag] at hka ⊢;simp only [Vl,TR,R1,U4,R9,SI,SA,U0,T7,Ur,Ui,TE,T8,SH,S58,↓XX,XY,↓reduceIte,seval,A6,↓AM,XD,heldB,AV,XE];refine Bd (Q:=fun r=>BW r _) (fun k V H=>∃i:Nat,i+k=g.length/\∃l:List Nat,l=(List.range i).filter hit/\V=[.fv (.sl (g.map v1)),iv st,iv x,.ptr (.own 60817408) 0,.ptr (.own 60817409) 0,lV l,iv i]/\H=PL oa ma ka l)
   ?_ n g.length _ _ (by omega) ⟨0,by omega,[],rfl,rfl,rfl⟩
  rintro k V H rec ⟨i,hik,l,hl,rfl,rfl⟩ hrec;cases k with
  | zero =>
   have hig:i=g.length:=by omega
   rw [hig] at hl;rw [<- hL] at hl;subst hl;have hno:¬ ((i:Int)<g.length):=by omega
   cases l with
   | nil =>
    rw [htt,if_pos rfl];simp only [lV,Tm.z,Ag];simp only [↓QF,↓XX,XY,↓reduceIte,seval,hno];exact Bi rfl
   | cons i0 l0 =>
    rw [htt,if_neg (by simp)];generalize hl1:i0::l0=l at *;have hlp:0<l.length:=by rw [<- hl1];simp
    have hll:l.length<=100:=by
     have h1:=List.length_filter_le hit (List.range g.length);rw [<- hL,List.length_range] at h1;omega
    have hw:=Ar (n:=n) (by omega) x (m:=(l.length:Int)) (by omega) (by omega);have h1:=Int.emod_nonneg x (show (l.length:Int)≠0 by omega)
    have h2:=Int.emod_lt_of_pos x (show (0:Int)<l.length by omega)
    obtain ⟨j,hj⟩:∃j:Nat,x % (l.length:Int)=j:=⟨(x % (l.length:Int)).toNat,by omega⟩;rw [hj] at hw h2 ⊢;have hjl:j<l.length:=by omega
    have hget:(iE l)[j]?=some (.int .i64 ((l.getD j 0:Nat):Int)):=by
     rw [iE,List.getElem?_map,List.getD_eq_getElem?_getD,List.getElem?_eq_getElem hjl];rfl
    rw [Int.toNat_natCast];have hix:=fun {β:Type}=>BS (β:=β) (size:=1) hget rfl;have hv:=Al8 (n:=n) (by omega) ((l.getD j 0:Nat):Int);generalize ((l.getD j 0:Nat):Int)=q at hix hv ⊢;have hln:¬ ((l.length:Int)=0):=by omega
    have hiel:(iE l).length=l.length:=by rw [iE,List.length_map]
    have hap:∀(β:Type) (x:IV) (k:IV->Option β),AU 1 (.app (.own 60825603) (iE l)) x k=AU 1 (.fv (.sl (iE l))) x k:=fun _ _ _=>rfl;have hlV:lV l=.app (.own 60825603) (iE l):=by rw [<- hl1];rfl
    have hlH:lH l=[(60825603,.tok l.length 1)]:=by rw [<- hl1];rfl
    have hne:decide (l=[])=false:=by rw [<- hl1];simp
    rw [hlV,PL,hlH,hne];simp only [List.cons_append,List.nil_append];simp only [Ag,ACa] at hv ⊢;simp only [↓QF,↓XX,XY,↓reduceIte,seval,hno,hiel,hln,↓Ad hw,↓hap,↓hix,FV.cells,↓Ap hv];exact Bi rfl
  | succ k =>
   have hig:i<g.length:=by omega
   have hlt:(i:Int)<g.length:=by omega
   obtain ⟨hp,hwk,hwt,_,hN',_⟩:=hU i hig;have hget:(g.map v1)[g.length - 1 - i]?=some (v1 (P i)):=by rw [List.getElem?_map,hp];rfl
   have hix:=fun {β:Type}=>BS (β:=β) (size:=4) hget rfl;have w1:BM ((g.length:Int) - 1)=(g.length:Int) - 1:=by rw [Av]<;>omega
   have w2:BM ((g.length:Int) - 1 - i)=((g.length - 1 - i:Nat):Int):=by rw [Av (by omega) (by omega)];omega
   have wi:BM ((i:Int)+1)=(i:Int)+1:=by rw [Av]<;>omega
   have hsh:=C0 n (P i).2 ((i:Int)+1) 0 (by omega) hwk (by omega) (by omega);have hNi:=hN i hig n (by omega);have h9:=fun (l':List Nat) (e:l'=l++if hit i then [i] else [])=>hrec k [.fv (.sl (g.map v1)),iv st,iv x,.ptr (.own 60817408) 0,.ptr (.own 60817409) 0,lV l',iv (i+1:Nat)] (PL oa ma ka l') (by omega)
    ⟨i+1,by omega,l',by rw [Ajr,<- hl,e],rfl,rfl⟩
   have hi1:((i+1:Nat):Int)=(i:Int)+1:=by omega
   rw [hi1] at h9;have hhi:=hhit i;generalize (P i).2.shift ((i:Int)+1) 0=ts at hsh hNi;generalize P i=p at hp hget hix hsh hhi;obtain ⟨sp,tp⟩:=p;by_cases c1:sp=st
   ·by_cases c2:E i=0
    ·have hUi:NOk g.length (U i):=by
      rcases hN' with ⟨_,h⟩ | ⟨h,_⟩
      ·exact h
      ·omega
     have hke:=NE n (U i) g.length hUi.sc (by have:=hUi.wt;omega) (by have:=hUi.wt;omega);have hew:=(TH (U i) g.length hUi.sc (by have:=hUi.wt;omega)).2;have hsm:=I8 n (U i).eta (.mk oe me ke) (by have:=hUi.wt;omega) (by have:=hUi.wt;omega);rw [c2] at hNi;simp only [c1,c2,decide_true,Bool.true_and] at hhi;rw [<- hhi] at hsm;generalize (U i).eta=ue at hke hsm;generalize U i=ui at hNi hke;obtain ⟨o1,n1,k1⟩:=tp;obtain ⟨o2,n2,k2⟩:=ts;obtain ⟨o3,n3,k3⟩:=ui;obtain ⟨o4,n4,k4⟩:=ue;subst c1;simp only [Ag,v1,Tm.op,Tm.n,Tm.kids] at hsh hNi hke hsm hix;cases hb:hit i
     ·rw [hb] at hsm h9;have h9:=h9 l (by simp);cases l with
      | nil =>
       simp only [lV,lH,PL,List.append_nil] at h9 ⊢;simp only [↓QF,↓XX,XY,↓reduceIte,seval,hlt,w1,w2,wi,↓hix,FV.cells,↓AA hsh,↓Ap hNi,↓Ap hke,↓Ap hka,↓Ad hsm,↓AM,XD,heldB,AV,XE];exact h9
      | cons i0 l0 =>
       simp only [lV,lH,PL,List.cons_append,List.nil_append] at h9 ⊢;simp only [↓QF,↓XX,XY,↓reduceIte,seval,hlt,w1,w2,wi,↓hix,FV.cells,↓AA hsh,↓Ap hNi,↓Ap hke,↓Ap hka,↓Ad hsm,↓AM,XD,heldB,AV,XE];exact h9
     ·rw [hb] at hsm h9;have h9:=h9 (l++[i]) (by simp);cases l with
      | nil =>
       have happ:=fun {β:Type}=>JT (β:=β) AvS (.clip [.int .i64 (i:Int)]) (Yq [i]) rfl (by simp) (s0:=.nils) (.inl rfl);simp only [lV,lH,PL,List.cons_append,List.nil_append] at h9 ⊢;simp only [↓QF,↓XX,XY,↓reduceIte,seval,hlt,w1,w2,wi,↓hix,FV.cells,↓AA hsh,↓Ap hNi,↓Ap hke,↓Ap hka,↓Ad hsm,↓Aqr,↓happ,↓AM,XD,heldB,AV,XE];exact h9
      | cons i0 l0 =>
       have hll:(i0::l0).length<=100:=by
        have h1:=List.length_filter_le hit (List.range i);rw [<- hl,List.length_range] at h1;omega
       have happ:=fun {β:Type}=>Re (β:=β) AvS (es:=iE (i0::l0)) (es2:=[.int .i64 (i:Int)]) (.clip _) (Yq [i]) (Yq _) (Aww [i]) (by rw [iE,List.length_map];simp only [AB9,List.length_nil] at hll ⊢;omega);have hil:(iE (i0::l0)).length=(i0::l0).length:=by rw [iE,List.length_map]
       have hia:iE (i0::l0)++[.int .i64 (i:Int)]=iE (i0::(l0++[i])):=by simp [iE]
       have hil2:(i0::(l0++[i])).length=(i0::l0).length+1:=by simp
       simp only [hil,hia,AB9,List.length_nil,Nat.zero_add] at happ;simp only [lV,lH,PL,List.cons_append,List.nil_append,hil2] at h9 ⊢;simp only [AB9] at h9 ⊢;simp only [↓QF,↓XX,XY,↓reduceIte,seval,hlt,w1,w2,wi,↓hix,FV.cells,↓AA hsh,↓Ap hNi,↓Ap hke,↓Ap hka,↓Ad hsm,↓Aqr,↓happ,HN,↓AM,XD,heldB,AV,XE];exact h9
    ·simp only [c2,decide_false,Bool.false_and,Bool.and_false] at hhi;rw [hhi] at h9;have h9:=h9 l (by simp);generalize E i=ei at hNi c2;generalize U i=ui at hNi;obtain ⟨o1,n1,k1⟩:=tp;obtain ⟨o2,n2,k2⟩:=ts;obtain ⟨o3,n3,k3⟩:=ui;subst c1;simp only [Ag,v1,Tm.op,Tm.n,Tm.kids] at hsh hNi hix;cases l with
     | nil =>
      simp only [lV,lH,PL,List.append_nil] at h9 ⊢;simp only [↓QF,↓XX,XY,↓reduceIte,seval,hlt,w1,w2,wi,↓hix,FV.cells,↓AA hsh,↓Ap hNi,c2,↓AM,XD,heldB,AV,XE];exact h9
     | cons i0 l0 =>
      simp only [lV,lH,PL,List.cons_append,List.nil_append] at h9 ⊢;simp only [↓QF,↓XX,XY,↓reduceIte,seval,hlt,w1,w2,wi,↓hix,FV.cells,↓AA hsh,↓Ap hNi,c2,↓AM,XD,heldB,AV,XE];exact h9
   ·simp only [c1,decide_false,Bool.false_and] at hhi;rw [hhi] at h9;have h9:=h9 l (by simp);obtain ⟨o1,n1,k1⟩:=tp;simp only [v1,Tm.op,Tm.n,Tm.kids] at hix;cases l with
    | nil =>
     simp only [lV,lH,PL,List.append_nil] at h9 ⊢;simp only [↓QF,↓XX,XY,↓reduceIte,seval,hlt,w1,w2,wi,↓hix,FV.cells,c1,↓AM,XD,heldB,AV,XE];exact h9
    | cons i0 l0 =>
     simp only [lV,lH,PL,List.cons_append,List.nil_append] at h9 ⊢;simp only [↓QF,↓XX,XY,↓reduceIte,seval,hlt,w1,w2,wi,↓hix,FV.cells,c1,↓AM,XD,heldB,AV,XE];exact h9
 ·rw [htt];split
  ·exact ⟨AsT _,by have:=M5 0;simp [Tm.z,Tm.wt,Tm.wtL];omega,by simp [Tm.z,Tm.dp,Tm.dpL,Dg]⟩
  ·rename_i hne;have h1:=Int.emod_nonneg x (show (L.length:Int)≠0 by
    intro h;exact hne (List.eq_nil_of_length_eq_zero (by omega)))
   have h2:=Int.emod_lt_of_pos x (show (0:Int)<L.length by
    have:L.length≠0:=fun h=>hne (List.eq_nil_of_length_eq_zero h)
    omega)
   have hj:(x % (L.length:Int)).toNat<L.length:=by omega
   have:=hLlt (L.getD (x % (L.length:Int)).toNat 0) (by rw [List.getD_eq_getElem?_getD,List.getElem?_eq_getElem hj];exact List.getElem_mem hj)
   exact ⟨XF (by omega) (by omega),by have:=M5 0;simp [Tm.wt,Tm.wtL];omega,by simp [Tm.dp,Tm.dpL,Dg]⟩
 ·intro hb;have hne:L≠[]:=by simpa using hb
  rw [htt,if_neg hne];have h1:=Int.emod_nonneg x (show (L.length:Int)≠0 by
   intro h;exact hne (List.eq_nil_of_length_eq_zero (by omega)))
  have h2:=Int.emod_lt_of_pos x (show (0:Int)<L.length by
   have:L.length≠0:=fun h=>hne (List.eq_nil_of_length_eq_zero h)
   omega)
  have hj:(x % (L.length:Int)).toNat<L.length:=by omega
  have hm:L.getD (x % (L.length:Int)).toNat 0∈L:=by rw [List.getD_eq_getElem?_getD,List.getElem?_eq_getElem hj];exact List.getElem_mem hj
  generalize L.getD (x % (L.length:Int)).toNat 0=i at hm;refine ⟨i,rfl,hLlt i hm,?_⟩;have hig:=hLlt i hm;rw [hL] at hm;have hh:=(List.mem_filter.1 hm).2;rw [hhit,Bool.and_eq_true,Bool.and_eq_true,decide_eq_true_eq,decide_eq_true_eq] at hh;obtain ⟨hp,_,_,_,_,f,hf⟩:=hU i hig;rw [hh.2.1] at hf;refine ⟨(P i).2,f,U i,by rw [hp,<- hh.1],?_,(Kt _ _).1 hh.2.2⟩;rw [show ((i+1:Nat):Int)=(i:Int)+1 by omega]
  exact hf
def El (F:FuncId) (κ e:Nat):Prop:=∀(g:Bb) (a r:Tm),GOk e g->AOk g.length a->∃t b,Ev F [.fv (A6 g),.fv a.enc,.fv r.enc,iv ((e:Int) - 5)] (.tuple [Tm.enc t,.bool b])/\TG κ e g a t b
def Ro (F:FuncId) (κ e:Nat):Prop:=∀(g:Bb) (a r:Tm),GOk e g->NOk g.length a->∃t b,Ev F [.fv (A6 g),.fv a.enc,.fv r.enc,iv ((e:Int) - 5)] (.tuple [Tm.enc t,.bool b])/\TG κ e g a t b
structure TyOk (g:Bb) (e:Nat) (t:Tm):Prop where
 sc:t.sc g.length
 wt:t.wt<=Wg (e - 1)+10
 dp:t.dp<=Dg (e - 1)+3
 gr:Gr 0 e g .z t
def MO (e:Nat):Prop:=∀(g:Bb) (r:Tm),GOk e g->∃t,Ev 38 [.fv (A6 g),.fv r.enc,iv ((e:Int) - 5)] (Tm.enc t)/\TyOk g e t
def OG {k:Nat} {a:Tm} (h:NOk k a) (hk:k<=1000) (d:Nat) (hd:d<=10):NOk (k+d) (a.shift d 0):=⟨C3 a d 0 k h.sc (by have:=h.wt;omega),by rw [Bk];exact h.wt,by rw [DZ];exact h.dp⟩
def AkE {e:Nat} (h6:6<=e) (he:e<=10) (hT:MO 6) (hG:El 39 1 (e - 2)):Ro 65 3 e:=by
 intro g a r hg ha;have hlen:=hg.len;have hW2:Wg e=16 * Wg (e - 2):=by
  obtain ⟨f,rfl⟩:∃f,e=f+2:=⟨e - 2,by omega⟩;rw [show f+2=(f+1)+1 by omega,Na,Na,show f+1+1 - 2=f by omega];omega
 have hW20:=M5 (e - 2);have hW5:4 * Wg 5<=Wg e:=by rw [<- Na];exact UE (by omega)
 have hW10:=O3 he;have hDe:Dg e=Dg (e - 2)+20:=by unfold Dg;omega
 have hD5:Dg 5+10<=Dg e:=by unfold Dg;omega
 have hD2:200<=Dg (e - 2):=by unfold Dg;omega
 have hDm:Dg e<=300:=by unfold Dg;omega
 obtain ⟨b,⟨N1,h1⟩,tb⟩:=hT g (r.pick 0) (A0 (by omega) hg);have bw:=tb.wt;have bd:=tb.dp;simp only [show 6 - 1=5 from rfl] at bw bd
 have hba:AOk g.length b:=⟨tb.sc,by omega,by omega⟩;have hbm:GOk (e - 2) (g++[(1,b)]):=Du (A0 (by omega) hg) tb.sc (by omega) (by omega);obtain ⟨x,p,⟨N2,h2⟩,tx⟩:=hG g b (r.pick 1) (A0 (by omega) hg) hba;obtain ⟨c,q,⟨N3,h3⟩,tc⟩:=hG g a (r.pick 2) (A0 (by omega) hg) (BG ha);have hsa:=OG ha (by omega) 1 (by omega);obtain ⟨c2,q2,⟨N4,h4⟩,tc2⟩:=hG (g++[(1,b)]) (a.shift 1 0) (r.pick 2) hbm (by simpa using BG hsa);have we:BM ((e:Int) - 5 - 2)=((e - 2:Nat):Int) - 5:=by rw [Av (by omega) (by omega)];omega
 have hd2:(((e - 2:Nat):Int) - 5)=((e - 2:Nat):Int) - 5:=rfl;have aw:=ha.wt;have ad:=ha.dp;have xw:=tx.wt;have cw:=tc.wt;have c2w:=tc2.wt;have xd:=tx.dp;have cd:=tc.dp;have c2d:=tc2.dp;have c2s:c2.sc (g.length+1):=by simpa using tc2.sc
 by_cases h0:r.n % 3=0
 ·refine ⟨.mk 8 0 [.mk 7 0 [.mk 6 0 [a,b.shift 1 0],c,x]],p && q,⟨N1+N2+N3+200000000000+1,?_⟩,?_,?_,?_,fun hb=>.fst e g a b c x h6 hba tb.gr (tx.gr (Mm hb)) (tc.gr (Kf hb))⟩
  ·intro n hn;obtain ⟨n,rfl⟩:=psc n (by omega);have h1:=h1 n (by omega);have h2:=h2 n (by omega);have h3:=h3 n (by omega);rw [<- we] at h2 h3;have p0:=AK (n:=n) (by omega) r 0;have p1:=AK (n:=n) (by omega) r 1;have p2:=AK (n:=n) (by omega) r 2;have hw:=Ar (n:=n) (by omega) r.n (m:=3) (by omega) (by omega);have hsh:=C0 n b 1 0 (by omega) (Fp _ _ tb.sc) (by omega) (by omega);have t6:=Cx (n:=n) (by omega) 6 [a,b.shift 1 0];have t7:=Cx (n:=n) (by omega) 7 [.mk 6 0 [a,b.shift 1 0],c,x];have t8:=Cx (n:=n) (by omega) 8 [.mk 7 0 [.mk 6 0 [a,b.shift 1 0],c,x]];rw [h0] at hw;rw [c65];clear h4 tb tx tc tc2 ha hg hG hT hba hbm hsa aw ad xw cw c2w bw xd cd c2d bd c2s;generalize b.shift 1 0=bs at hsh t6 t7 t8 ⊢;generalize r.pick 0=r0 at p0 h1;generalize r.pick 1=r1 at p1 h2;generalize r.pick 2=r2 at p2 h3;obtain ⟨o1,m1,k1⟩:=a;obtain ⟨o2,m2,k2⟩:=b;obtain ⟨o3,m3,k3⟩:=r;obtain ⟨o4,m4,k4⟩:=bs;obtain ⟨o5,m5,k5⟩:=x;obtain ⟨o6,m6,k6⟩:=c;obtain ⟨o7,m7,k7⟩:=r0;obtain ⟨o8,m8,k8⟩:=r1;obtain ⟨o9,m9,k9⟩:=r2;simp only [Tm.n,A6,ACb,ACa,Ag,Int.reduceSub,Int.cast_ofNat_Int] at h1 h2 h3 p0 p1 p2 hw hsh t6 t7 t8 ⊢;cases p
   ·simp (maxSteps:=1000000) only [La,L2,Ls,K6,Lr,KH,L3,Lm,KM,KV,L7,LG,Lx,Lo,Lv,Lz,Lk,Lf,K9,LP,KD,S65,↓XX,XY,↓reduceIte,seval,↓Ad p0,↓Ad p1,↓Ad p2,↓AA h1,↓Au h2,↓Ad hw,↓Au h3,↓AA hsh,↓Cc,↓Ad t6,↓LA,↓Ad t7,↓De,↓Ad t8];exact Bi rfl
   ·simp (maxSteps:=1000000) only [La,L2,Ls,K6,Lr,KH,L3,Lm,KM,KV,L7,LG,Lx,Lo,Lv,Lz,Lk,Lf,K9,LP,KD,S65,↓XX,XY,↓reduceIte,seval,↓Ad p0,↓Ad p1,↓Ad p2,↓AA h1,↓Au h2,↓Ad hw,↓Au h3,↓AA hsh,↓Cc,↓Ad t6,↓LA,↓Ad t7,↓De,↓Ad t8];exact Bi rfl
  ·exact FK (Anz
    (CQ ha.sc (C3 b 1 0 _ tb.sc (by simp only [show Ae 8 0=0 from rfl,show Ae 7 0=0 from rfl];omega))) tc.sc tx.sc)
  ·rw [QM,wt3,Fi,Bk];omega
  ·rw [dp1,dp3,Qx,DZ];omega
 ·refine ⟨.mk 5 0 [.mk 4 0 [b,c2],x],p && q2,⟨N1+N2+N4+200000000000+1,?_⟩,?_,?_,?_,fun hb=>.app e g a b c2 x h6 hba tb.gr (tx.gr (Mm hb)) (tc2.gr (Kf hb))⟩
  ·intro n hn;obtain ⟨n,rfl⟩:=psc n (by omega);have h1:=h1 n (by omega);have h2:=h2 n (by omega);have h4:=h4 n (by omega);rw [<- we] at h2 h4;have p0:=AK (n:=n) (by omega) r 0;have p1:=AK (n:=n) (by omega) r 1;have p2:=AK (n:=n) (by omega) r 2;have hw:=Ar (n:=n) (by omega) r.n (m:=3) (by omega) (by omega);have hsh:=C0 n a 1 0 (by omega) (Fp _ _ ha.sc) (by omega) (by omega);have hm:=Fy (n:=n) g 1 b (by omega) (by omega);have t4:=Cx (n:=n) (by omega) 4 [b,c2];have t5:=Cx (n:=n) (by omega) 5 [.mk 4 0 [b,c2],x];rw [c65];clear h3 tb tx tc tc2 ha hg hG hT hba hbm hsa aw ad xw cw c2w bw xd cd c2d bd c2s;generalize a.shift 1 0=sa at hsh h4;generalize r.pick 0=r0 at p0 h1;generalize r.pick 1=r1 at p1 h2;generalize r.pick 2=r2 at p2 h4;generalize r.n % 3=w3 at hw h0;obtain ⟨o1,m1,k1⟩:=a;obtain ⟨o2,m2,k2⟩:=b;obtain ⟨o3,m3,k3⟩:=r;obtain ⟨o4,m4,k4⟩:=sa;obtain ⟨o5,m5,k5⟩:=x;obtain ⟨o6,m6,k6⟩:=c2;obtain ⟨o7,m7,k7⟩:=r0;obtain ⟨o8,m8,k8⟩:=r1;obtain ⟨o9,m9,k9⟩:=r2;simp only [Tm.n,A6,ACb,ACa,Ag,Int.reduceSub,Int.cast_ofNat_Int] at h1 h2 h4 p0 p1 p2 hw hsh hm t4 t5 ⊢;cases p
   ·simp (maxSteps:=1000000) only [La,L2,Ls,K6,Lr,KH,L3,Lm,KM,KV,L7,LG,Lx,Lo,Lv,Lz,Lk,Lf,K9,LP,KD,S65,↓XX,XY,↓reduceIte,seval,↓Ad p0,↓Ad p1,↓Ad p2,↓AA h1,↓Au h2,↓Ad hw,h0,↓Au h4,↓AA hsh,↓AA hm,↓Cc,↓Ad t4,↓Ad t5];exact Bi rfl
   ·simp (maxSteps:=1000000) only [La,L2,Ls,K6,Lr,KH,L3,Lm,KM,KV,L7,LG,Lx,Lo,Lv,Lz,Lk,Lf,K9,LP,KD,S65,↓XX,XY,↓reduceIte,seval,↓Ad p0,↓Ad p1,↓Ad p2,↓AA h1,↓Au h2,↓Ad hw,h0,↓Au h4,↓AA hsh,↓AA hm,↓Cc,↓Ad t4,↓Ad t5];exact Bi rfl
  ·exact CQ (CQ tb.sc c2s) tx.sc
  ·rw [Fi,Fi];omega
  ·rw [Qx,Qx];omega
def AoC {e:Nat} (he:e<=10) (hT:6<=e->MO (e - 1)) (hG:6<=e->El 39 1 (e - 1)):MO e:=by
 intro g r hg;have hlen:=hg.len;have hk1:=Int.emod_nonneg r.op (show (9:Int)≠0 by decide)
 have hk2:=Int.emod_lt_of_pos r.op (show (0:Int)<9 by decide)
 have hW0:=M5 (e - 1);have hD0:200<=Dg (e - 1):=by unfold Dg;omega
 have hleaf:∀op n:Int,ar op=some 0->op≠1->BJ op n->Gr 0 e g .z (.mk op n [])->TyOk g e (.mk op n []):=fun op n h1 h2 h3 h4=>⟨MA h1 h2 h3,by simp only [Tm.wt,Tm.wtL];omega,by simp only [Tm.dp,Tm.dpL];omega,h4⟩;have hpl:=Jd 1 r;have hpd:=GG (r.plainT 1);have c0:(r.op % 9=0\/r.op % 9=1\/e<=5/\(r.op % 9=5\/r.op % 9=6))->∃t,Ev 38 [.fv (A6 g),.fv r.enc,iv ((e:Int) - 5)] (Tm.enc t)/\TyOk g e t:=by
  intro hc;refine ⟨.mk 10 0 [],⟨100,fun n hn=>?_⟩,hleaf 10 0 (by decide) (by decide) (OP (by decide) (by decide) (by decide)) (.tnat e g _)⟩;obtain ⟨n,rfl⟩:=psc n (by omega);have hw:=Ar (n:=n) (by omega) r.op (m:=9) (by omega) (by omega);have hn4:=OF (n:=n) (by omega);rw [c38];obtain ⟨o,p,k⟩:=r;simp only [Tm.op] at hw hc;simp only [Ag,ACa] at hn4 ⊢;rcases hc with hc | hc | ⟨he5,hc | hc⟩
  ·rw [hc] at hw;by_cases hd:(e:Int) - 5<=0<;>(simp (maxSteps:=1000000) only [↓KW,↓XX,XY,↓reduceIte,seval,↓Ad hw,hd,↓Ir hn4];first | exact Aw _ _ | exact Bl rfl _)
  ·rw [hc] at hw;by_cases hd:(e:Int) - 5<=0<;>(simp (maxSteps:=1000000) only [↓KW,↓XX,XY,↓reduceIte,seval,↓Ad hw,hd,↓Ir hn4];first | exact Aw _ _ | exact Bl rfl _)
  ·rw [hc] at hw;have hd:(e:Int) - 5<=0:=by omega
   simp (maxSteps:=1000000) only [↓KW,↓XX,XY,↓reduceIte,seval,↓Ad hw,hd,↓PX (show (5:Int)≠0 by decide),show (5:Int).tmod 5=0 from rfl,↓Ir hn4];first | exact Aw _ _ | exact Bl rfl _
  ·rw [hc] at hw;have hd:(e:Int) - 5<=0:=by omega
   simp (maxSteps:=1000000) only [↓KW,↓XX,XY,↓reduceIte,seval,↓Ad hw,hd,↓PX (show (5:Int)≠0 by decide),show (6:Int).tmod 5=1 from rfl,↓Ir hn4];first | exact Aw _ _ | exact Bl rfl _
 have c2:(r.op % 9=2\/e<=5/\r.op % 9=7)->∃t,Ev 38 [.fv (A6 g),.fv r.enc,iv ((e:Int) - 5)] (Tm.enc t)/\TyOk g e t:=by
  intro hc;refine ⟨.mk 14 0 [],⟨100,fun n hn=>?_⟩,hleaf 14 0 (by decide) (by decide) (OP (by decide) (by decide) (by decide)) (.tty e g _)⟩;obtain ⟨n,rfl⟩:=psc n (by omega);have hw:=Ar (n:=n) (by omega) r.op (m:=9) (by omega) (by omega);have hn4:=AO (n:=n) (by omega) 14;rw [c38];obtain ⟨o,p,k⟩:=r;simp only [Tm.op] at hw hc;simp only [Ag,ACa] at hn4 ⊢;rcases hc with hc | ⟨he5,hc⟩
  ·rw [hc] at hw;by_cases hd:(e:Int) - 5<=0<;>(simp (maxSteps:=1000000) only [↓KW,↓XX,XY,↓reduceIte,seval,↓Ad hw,hd,↓Ad hn4];first | exact Aw _ _ | exact Bl rfl _)
  ·rw [hc] at hw;have hd:(e:Int) - 5<=0:=by omega
   simp (maxSteps:=1000000) only [↓KW,↓XX,XY,↓reduceIte,seval,↓Ad hw,hd,↓PX (show (5:Int)≠0 by decide),show (7:Int).tmod 5=2 from rfl,↓Ad hn4];first | exact Aw _ _ | exact Bl rfl _
 have c3:(r.op % 9=3\/e<=5/\r.op % 9=8)->∃t,Ev 38 [.fv (A6 g),.fv r.enc,iv ((e:Int) - 5)] (Tm.enc t)/\TyOk g e t:=by
  intro hc;refine ⟨.mk 18 0 [r.plainT 1],⟨100,fun n hn=>?_⟩,FK (I5 _ 1 r),by rw [QM];omega,by rw [dp1];omega,.tlp e g _ r⟩;obtain ⟨n,rfl⟩:=psc n (by omega);have hw:=Ar (n:=n) (by omega) r.op (m:=9) (by omega) (by omega);have hp:=Rg 1 n r (by omega) (by omega);have ht:=Cx (n:=n) (by omega) 18 [r.plainT 1];rw [c38];generalize r.plainT 1=q at hp ht ⊢;obtain ⟨o,p,k⟩:=r;obtain ⟨o2,p2,k2⟩:=q;simp only [Tm.op] at hw hc;simp only [Ag,ACb,ACa] at hp ht ⊢;rcases hc with hc | ⟨he5,hc⟩
  ·rw [hc] at hw;by_cases hd:(e:Int) - 5<=0<;>(simp (maxSteps:=1000000) only [↓KW,↓XX,XY,↓reduceIte,seval,↓Ad hw,hd,↓Ad hp,↓De,↓Ad ht];first | exact Aw _ _ | exact Bl rfl _)
  ·rw [hc] at hw;have hd:(e:Int) - 5<=0:=by omega
   simp (maxSteps:=1000000) only [↓KW,↓XX,XY,↓reduceIte,seval,↓Ad hw,hd,↓PX (show (5:Int)≠0 by decide),show (8:Int).tmod 5=3 from rfl,↓Ad hp,↓De,↓Ad ht];first | exact Aw _ _ | exact Bl rfl _
 by_cases h4:r.op % 9=4
 ·refine ⟨.mk 2 0 [],⟨100,fun n hn=>?_⟩,hleaf 2 0 (by decide) (by decide) (by rw [BJ,if_pos rfl];omega) (.tu e g _)⟩;obtain ⟨n,rfl⟩:=psc n (by omega);have hw:=Ar (n:=n) (by omega) r.op (m:=9) (by omega) (by omega);have hu:=HX (n:=n) (by omega) 0;rw [c38];obtain ⟨o,p,k⟩:=r;simp only [Tm.op] at hw h4;simp only [Ag,ACa] at hu ⊢;rw [h4] at hw;by_cases hd:(e:Int) - 5<=0<;>(simp (maxSteps:=1000000) only [↓KW,↓XX,XY,↓reduceIte,seval,↓Ad hw,hd,↓Ap hu];first | exact Aw _ _ | exact Bl rfl _)
 by_cases hs:r.op % 9<=3\/e<=5
 ·have h:=hk1;by_cases h0:r.op % 9=0\/r.op % 9=1\/e<=5/\(r.op % 9=5\/r.op % 9=6)
  ·exact c0 h0
  by_cases h2:r.op % 9=2\/e<=5/\r.op % 9=7
  ·exact c2 h2
  exact c3 (by omega)
 have he6:6<=e:=by omega
 have hd:¬ (e:Int) - 5<=0:=by omega
 have we:BM ((e:Int) - 5 - 1)=((e - 1:Nat):Int) - 5:=by rw [Av (by omega) (by omega)];omega
 have hW10:=O3 (e:=e - 1) (by omega);have hW1:Wg (e - 1)=4 * Wg (e - 2):=by
  obtain ⟨f,rfl⟩:∃f,e=f+2:=⟨e - 2,by omega⟩;rw [show f+2 - 1=f+1 by omega,Na,show f+2 - 2=f by omega]
 have hW2:=M5 (e - 2);have hD1:Dg (e - 1)=Dg (e - 2)+10:=by unfold Dg;omega
 have hDm:Dg (e - 1)<=300:=by unfold Dg;omega
 by_cases h8:r.op % 9=8
 ·obtain ⟨t,b,⟨N1,h1⟩,tt⟩:=hG he6 g (.mk 14 0 []) (r.pick 0) (A0 (by omega) hg) ⟨Fe,by simp [Tm.wt,Tm.wtL],by simp [Tm.dp,Tm.dpL]⟩;refine ⟨if b=true then .mk 18 0 [t] else .mk 10 0 [],⟨N1+100,fun n hn=>?_⟩,?_⟩
  ·obtain ⟨n,rfl⟩:=psc n (by omega);have hw:=Ar (n:=n) (by omega) r.op (m:=9) (by omega) (by omega);have h1:=h1 n (by omega);rw [<- we] at h1;have p0:=AK (n:=n) (by omega) r 0;have t14:=AO (n:=n) (by omega) 14;have t18:=Cx (n:=n) (by omega) 18 [t];have hn4:=OF (n:=n) (by omega);rw [c38];rw [h8] at hw;clear hG hT tt c0 c2 c3 hleaf;generalize r.pick 0=r0 at p0 h1;obtain ⟨o,p,k⟩:=r;obtain ⟨o2,p2,k2⟩:=t;obtain ⟨o3,p3,k3⟩:=r0;simp only [Tm.op] at hw;simp only [Ag,A6,ACb,ACa] at h1 p0 t14 t18 hn4 ⊢;cases b
   ·simp only [Bool.false_eq_true,if_false,Ag,ACa];simp (maxSteps:=1000000) only [↓KW,↓XX,XY,↓reduceIte,seval,↓Ad hw,hd,↓Ad t14,↓Ad p0,↓Au h1,↓Ir hn4];first | exact Aw _ _ | exact Bl rfl _
   ·simp only [if_true,Ag,ACa,ACb];simp (maxSteps:=1000000) only [↓KW,↓XX,XY,↓reduceIte,seval,↓Ad hw,hd,↓Ad t14,↓Ad p0,↓Au h1,↓De,↓Ad t18];first | exact Aw _ _ | exact Bl rfl _
  ·split
   ·rename_i hb;exact ⟨FK tt.sc,by have:=tt.wt;rw [QM];omega,by have:=tt.dp;rw [dp1];omega,.tlift e g _ t he6 (tt.gr hb)⟩
   ·exact hleaf 10 0 (by decide) (by decide) (OP (by decide) (by decide) (by decide)) (.tnat e g _)
 ·obtain ⟨a,⟨N1,h1⟩,ta⟩:=hT he6 g (r.pick 0) (A0 (by omega) hg);have aw:=ta.wt;have ad:=ta.dp;rw [show e - 1 - 1=e - 2 by omega] at aw ad
  obtain ⟨b,⟨N2,h2⟩,tb⟩:=hT he6 (g++[(1,a)]) (r.pick 1) (Du (by rw [show e - 1+1=e by omega];exact hg) ta.sc (by omega) (by omega))
  have bw:=tb.wt;have bd:=tb.dp;rw [show e - 1 - 1=e - 2 by omega] at bw bd
  have bs:b.sc (g.length+1):=by simpa using tb.sc
  have hop:∀op:Int,op=3\/op=6->TyOk g e (.mk op 0 [a,b]):=by
   rintro op (rfl | rfl)
   ·exact ⟨CQ ta.sc bs,by rw [Fi];omega,by rw [Qx];omega,.tpi e g _ a b _ (by simp) he6 (by omega) ⟨ta.sc,by omega,by omega⟩ ta.gr tb.gr⟩
   ·exact ⟨CQ ta.sc bs,by rw [Fi];omega,by rw [Qx];omega,.tpi e g _ a b _ (by simp) he6 (by omega) ⟨ta.sc,by omega,by omega⟩ ta.gr tb.gr⟩
  obtain ⟨oo,hoo⟩:∃oo:Int,oo=3/\(r.op % 9=5\/r.op % 9=6)\/oo=6/\r.op % 9=7:=by
   by_cases h7:r.op % 9=7
   ·exact ⟨6,.inr ⟨rfl,h7⟩⟩
   ·exact ⟨3,.inl ⟨rfl,by omega⟩⟩
  refine ⟨.mk oo 0 [a,b],⟨N1+N2+100,fun n hn=>?_⟩,hop oo (by omega)⟩;obtain ⟨n,rfl⟩:=psc n (by omega);have hw:=Ar (n:=n) (by omega) r.op (m:=9) (by omega) (by omega);have h1:=h1 n (by omega);have h2:=h2 n (by omega);rw [<- we] at h1 h2;have p0:=AK (n:=n) (by omega) r 0;have p1:=AK (n:=n) (by omega) r 1;have t3:=Cx (n:=n) (by omega) 3 [a,b];have t6:=Cx (n:=n) (by omega) 6 [a,b];have hm:=Fy (n:=n) g 1 a (by omega) (by omega);rw [c38];clear hG hT c0 c2 c3 hleaf ta tb hop bs aw ad bw bd;generalize r.pick 0=r0 at p0 h1;generalize r.pick 1=r1 at p1 h2;obtain ⟨o,p,k⟩:=r;obtain ⟨o2,p2,k2⟩:=a;obtain ⟨o3,p3,k3⟩:=b;obtain ⟨o4,p4,k4⟩:=r0;obtain ⟨o5,p5,k5⟩:=r1;simp only [Tm.op] at hw hoo;simp only [Ag,A6,ACb,ACa] at h1 h2 p0 p1 t3 t6 hm ⊢;rcases hoo with ⟨rfl,hk | hk⟩ | ⟨rfl,hk⟩
  ·rw [hk] at hw;simp (maxSteps:=1000000) only [↓KW,↓XX,XY,↓reduceIte,seval,↓Ad hw,hd,↓Ad p0,↓Ad p1,↓AA h1,↓AA hm,↓AA h2,↓Cc,↓Ad t3];first | exact Aw _ _ | exact Bl rfl _
  ·rw [hk] at hw;simp (maxSteps:=1000000) only [↓KW,↓XX,XY,↓reduceIte,seval,↓Ad hw,hd,↓Ad p0,↓Ad p1,↓AA h1,↓AA hm,↓AA h2,↓Cc,↓Ad t3];first | exact Aw _ _ | exact Bl rfl _
  ·rw [hk] at hw;simp (maxSteps:=1000000) only [↓KW,↓XX,XY,↓reduceIte,seval,↓Ad hw,hd,↓Ad p0,↓Ad p1,↓AA h1,↓AA hm,↓AA h2,↓Cc,↓Ad t6];first | exact Aw _ _ | exact Bl rfl _
def Aqp (a b:Int) (s:Nat) (h:Hp) (k:KT (IV×Hp)):Ay (Aj EE 75 2 [(0,iv a),(1,iv b)]) s h k=k (.clip [.int .i64 a,.int .i64 b]) h [] []:=CD Anx Asv (by decide) (cells:=[.int .i64 a,.int .i64 b]) rfl k
def WU {β:Type} (z:Nat) (es:List FV) (x:IV) (k:IV->Option β):AU z (.clip es) x k=AU z (.fv (.sl es)) x k:=rfl
def AyL {β:Type} (a:Int) (r:List FV) (k:IV->Option β):AU 1 (.fv (.sl (.int .i64 a::r))) (iv 0) k=k (.fv (.fp [.int .i64 a] 0)):=BS (el:=.int .i64 a) (n:=0) rfl rfl k
def Ayz {β:Type} (a b:Int) (r:List FV) (k:IV->Option β):AU 1 (.fv (.sl (.int .i64 a :: .int .i64 b::r))) (iv 1) k=k (.fv (.fp [.int .i64 b] 0)):=BS (el:=.int .i64 b) (n:=1) rfl rfl k
def Ake (F:FuncId) (κ e:Nat):Prop:=∀(g:Bb) (a r:Tm),GOk e g->NOk g.length a->(a.op=10\/a.op=14\/a.op=2)->∃t b,Ev F [.fv (A6 g),.fv a.enc,.fv r.enc,iv ((e:Int) - 5)] (.tuple [Tm.enc t,.bool b])/\TG κ e g a t b
def AnL {a:Tm} {k:Nat} (h:a.sc k) (ho:a.op=10\/a.op=14\/a.op=2):∃n,a=.mk a.op n []/\(a.op=2->0<=n/\n<=2)/\(a.op≠2->n=0):=by
 obtain ⟨o,n,l⟩:=a;simp only [Tm.op] at ho ⊢;rw [Tm.sc] at h;obtain ⟨h1,h2,_⟩:=h;have h3:ar o=some 0:=by rcases ho with rfl | rfl | rfl<;>decide
 rw [h3] at h1;have hl:l=[]:=List.eq_nil_of_length_eq_zero (Option.some.inj h1).symm;subst hl;rw [if_neg (by omega)] at h2;refine ⟨n,rfl,fun h=>?_,fun h=>?_⟩
 ·subst h;rw [BJ,if_pos rfl] at h2;exact h2
 ·rw [BJ,if_neg h,if_neg (by omega),if_neg (by omega)] at h2;exact h2
def Amd {e:Nat} (h1e:1<=e) (he:e<=10) (hG:El 39 1 (e - 1)) (hG2:6<=e->El 39 1 (e - 2)):Ake 66 3 e:=by
 intro g a r hg ha hop;have hlen:=hg.len;have hW1:Wg e=4 * Wg (e - 1):=by
  obtain ⟨f,rfl⟩:∃f,e=f+1:=⟨e - 1,by omega⟩;rw [Na,Nat.add_sub_cancel]
 have hW0:=M5 (e - 1);have hW10:=O3 he;have hD1:Dg e=Dg (e - 1)+10:=by unfold Dg;omega
 have hD0:200<=Dg (e - 1):=by unfold Dg;omega
 have hDm:Dg e<=300:=by unfold Dg;omega
 obtain ⟨an,hae,hu1,hu2⟩:=AnL ha.sc hop;have we:BM ((e:Int) - 5 - 1)=((e - 1:Nat):Int) - 5:=by rw [Av (by omega) (by omega)];omega
 have hk1:=Int.emod_nonneg r.op (show (5:Int)≠0 by decide)
 have hk2:=Int.emod_lt_of_pos r.op (show (0:Int)<5 by decide)
 have aw:=ha.wt;have ad:=ha.dp;have leafT:∀op n:Int,ar op=some 0->op≠1->BJ op n->TOk g.length e (.mk op n []):=fun op n h1 h2 h3=>⟨MA h1 h2 h3,by simp only [Tm.wt,Tm.wtL];omega,by simp only [Tm.dp,Tm.dpL];omega⟩;have tint:TOk g.length e (.mk 18 0 [.mk 15 0 []]):=⟨FK (Fe),by simp only [Tm.wt,Tm.wtL];omega,by simp only [Tm.dp,Tm.dpL];omega⟩;by_cases hrec:6<=e/\r.op % 5=4/\a.op≠2
 ·obtain ⟨h6,h4,hn2⟩:=hrec;have hW2:Wg e=16 * Wg (e - 2):=by
   obtain ⟨f,rfl⟩:∃f,e=f+2:=⟨e - 2,by omega⟩;rw [show f+2=(f+1)+1 by omega,Na,Na,show f+1+1 - 2=f by omega];omega
  have hD2:Dg e=Dg (e - 2)+20:=by unfold Dg;omega
  have hW20:=M5 (e - 2);have we2:BM ((e:Int) - 5 - 2)=((e - 2:Nat):Int) - 5:=by rw [Av (by omega) (by omega)];omega
  have hnat:∀k,NOk k (.mk 10 0 []):=fun k=>⟨Fe,by simp only [Tm.wt,Tm.wtL];omega,by simp only [Tm.dp,Tm.dpL];omega⟩;have hs1:=OG ha (by omega) 1 (by omega);have hs2:=OG ha (by omega) 2 (by omega);obtain ⟨nn,p,⟨N1,h1⟩,tn⟩:=hG2 h6 g (.mk 10 0 []) (r.pick 0) (A0 (by omega) hg) (BG (hnat _));obtain ⟨z,q,⟨N2,h2⟩,tz⟩:=hG2 h6 g a (r.pick 1) (A0 (by omega) hg) (BG ha);have hg1:GOk (e - 1) (g++[(1,Tm.mk 10 0 [])]):=Du (by rw [show e - 1+1=e by omega];exact hg) (hnat _).sc (by simp only [Tm.wt,Tm.wtL];omega) (by simp only [Tm.dp,Tm.dpL];omega)
  have hg2:GOk (e - 2) ((g++[(1,Tm.mk 10 0 [])])++[(1,a.shift 1 0)]):=Du (by rw [show e - 2+1=e - 1 by omega];exact hg1) (by simpa using hs1.sc) (by rw [Bk];omega) (by rw [DZ];omega)
  obtain ⟨s,f,⟨N3,h3⟩,ts⟩:=hG2 h6 _ (a.shift 2 0) (r.pick 2) hg2 (by simpa using BG hs2);have ss:s.sc (g.length+2):=by simpa using ts.sc
  refine ⟨.mk 13 0 [a.shift 1 0,z,s,nn],p && (q && f),⟨N1+N2+N3+100000,fun n hn=>?_⟩,?_,?_,?_,fun hb=>.recc e g a nn z s h6 (by omega) (tn.gr (Mm hb)) (tz.gr (Mm (Kf hb))) (ts.gr (Kf (Kf hb)))⟩
  ·obtain ⟨n,rfl⟩:=psc n (by omega);have h1:=h1 n (by omega);have h2:=h2 n (by omega);have h3:=h3 n (by omega);rw [<- we2] at h1 h2 h3;have hw:=Ar (n:=n) (by omega) r.op (m:=5) (by omega) (by omega);rw [h4] at hw;have p0:=AK (n:=n) (by omega) r 0;have p1:=AK (n:=n) (by omega) r 1;have p2:=AK (n:=n) (by omega) r 2;have n4:=OF (n:=n) (by omega);have m1:=Fy (n:=n) g 1 (.mk 10 0 []) (by omega) (by omega);have m2:=Fy (n:=n) (g++[(1,Tm.mk 10 0 [])]) 1 (a.shift 1 0) (by simp;omega) (by omega);have s1:=C0 n a 1 0 (by omega) (Fp _ _ ha.sc) (by omega) (by omega);have s2:=C0 n a 2 0 (by omega) (Fp _ _ ha.sc) (by omega) (by omega);have t13:=Cx (n:=n) (by omega) 13 [a.shift 1 0,z,s,nn];have hd0:(0:Int)<(e:Int) - 5:=by omega
   rw [c66];clear hG hG2 tn tz ts hg hg1 hg2 ha hs1 hs2 hnat ss leafT tint hae hu1 hu2;generalize a.shift 1 0=a1 at s1 m2 t13 h3 ⊢;generalize a.shift 2 0=a2 at s2 h3;generalize r.pick 0=r0 at p0 h1;generalize r.pick 1=r1 at p1 h2;generalize r.pick 2=r2 at p2 h3;obtain ⟨o1,x1,k1⟩:=a;obtain ⟨o2,x2,k2⟩:=r;obtain ⟨o3,x3,k3⟩:=a1;obtain ⟨o4,x4,k4⟩:=a2;obtain ⟨o5,x5,k5⟩:=nn;obtain ⟨o6,x6,k6⟩:=z;obtain ⟨o7,x7,k7⟩:=s;obtain ⟨o8,x8,k8⟩:=r0;obtain ⟨o9,x9,k9⟩:=r1;obtain ⟨oa,xa,ka⟩:=r2;simp only [Tm.op] at hw hn2;simp only [A6,ACb,ACa,Ag] at h1 h2 h3 p0 p1 p2 n4 m1 m2 s1 s2 t13 ⊢;cases p<;>cases q<;>(simp (maxSteps:=1000000) only [↓J8,↓XX,XY,↓reduceIte,seval,hd0,↓Ad hw,hn2,↓Ir n4,↓Ad p0,↓Ad p1,↓Ad p2,↓Au h1,↓Au h2,↓AA m1,↓AA m2,↓AA s1,↓AA s2,↓Au h3,↓AwL,↓Ad t13];exact Bi rfl)
  ·exact Avg hs1.sc tz.sc ss tn.sc
  ·have:=tz.wt;have:=ts.wt;have:=tn.wt;rw [wt4,Bk];omega
  ·have:=tz.dp;have:=ts.dp;have:=tn.dp;rw [dp4,DZ];omega
 have hnr:¬ (0:Int)<(e:Int) - 5\/¬ r.op % 5=4\/a.op=2:=by omega
 by_cases o10:a.op=10
 ·have hz:=hu2 (by omega);rw [hz,o10] at hae;by_cases hs:6<=e/\r.op % 2=1
  ·obtain ⟨nn,p,⟨N1,h1⟩,tn⟩:=hG g a (r.pick 0) (A0 (by omega) hg) (BG ha);refine ⟨.mk 12 0 [nn],p,⟨N1+100,fun n hn=>?_⟩,FK tn.sc,by have:=tn.wt;rw [QM];omega,by have:=tn.dp;rw [dp1];omega,fun hb=>.suc e g a nn hs.1 o10 (tn.gr hb)⟩;obtain ⟨n,rfl⟩:=psc n (by omega);have h1:=h1 n (by omega);rw [<- we] at h1;have hw:=Ar (n:=n) (by omega) r.op (m:=5) (by omega) (by omega);have hw2:=Ar (n:=n) (by omega) r.op (m:=2) (by omega) (by omega);rw [hs.2] at hw2;have p0:=AK (n:=n) (by omega) r 0;have t12:=Cx (n:=n) (by omega) 12 [nn];have hd0:(0:Int)<(e:Int) - 5:=by omega
   have h45:¬ r.op % 5=4:=by omega
   rw [c66];rw [hae] at h1 ⊢;clear hG hG2 tn hg ha leafT tint hae hu1 hu2 hop hnr;generalize r.op % 5=w5 at hw h45;generalize r.pick 0=r0 at p0 h1;obtain ⟨o2,x2,k2⟩:=r;obtain ⟨o5,x5,k5⟩:=nn;obtain ⟨o8,x8,k8⟩:=r0;simp only [Tm.op] at hw hw2;simp only [A6,ACb,ACa,Ag] at h1 p0 t12 ⊢;simp (maxSteps:=1000000) only [↓J8,↓XX,XY,↓reduceIte,seval,hd0,↓Ad hw,h45,↓Ad hw2,↓Ad p0,↓Au h1,↓De,↓Ad t12];exact Bi rfl
  ·have hj1:=Int.emod_nonneg r.n (show (4:Int)≠0 by decide)
   have hj2:=Int.emod_lt_of_pos r.n (show (0:Int)<4 by decide)
   obtain ⟨j,hj⟩:∃j:Nat,r.n % 4=j:=⟨(r.n % 4).toNat,by omega⟩;refine ⟨HH j,true,⟨100,fun n hn=>?_⟩,Akp _ j,by rw [ZY];omega,by have:=GG (HH j);rw [ZY] at this;omega,fun _=>.num e g a j o10 (by omega)⟩;obtain ⟨n,rfl⟩:=psc n (by omega);have hw:=Ar (n:=n) (by omega) r.op (m:=5) (by omega) (by omega);have hw2:=Ar (n:=n) (by omega) r.op (m:=2) (by omega) (by omega);have hw4:=Ar (n:=n) (by omega) r.n (m:=4) (by omega) (by omega);rw [hj] at hw4;have hnum:=ArS (n:=n) j (by omega) (by omega);have h45:(0:Int)<(e:Int) - 5->¬ r.op % 5=4:=by omega
   have h21:(0:Int)<(e:Int) - 5->¬ r.op % 2=1:=by omega
   rw [c66];rw [hae];clear hG hG2 hg ha leafT tint hae hu1 hu2 hop hnr hs;generalize r.op % 5=w5 at hw h45;generalize r.op % 2=w2 at hw2 h21;generalize HH j=nm at hnum ⊢;obtain ⟨o2,x2,k2⟩:=r;obtain ⟨o5,x5,k5⟩:=nm;simp only [Tm.op,Tm.n] at hw hw2 hw4;simp only [A6,ACa,Ag] at hnum ⊢;by_cases hd0:(0:Int)<(e:Int) - 5
   ·have h45:=h45 hd0;have h21:=h21 hd0;simp (maxSteps:=1000000) only [↓J8,↓XX,XY,↓reduceIte,seval,hd0,↓Ad hw,h45,↓Ad hw2,h21,↓Ad hw4,↓Ap hnum];exact Bi rfl
   ·simp (maxSteps:=1000000) only [↓J8,↓XX,XY,↓reduceIte,seval,hd0,↓Ad hw4,↓Ap hnum];exact Bi rfl
 by_cases o14:a.op=14
 ·have hz:=hu2 (by omega);rw [hz,o14] at hae;by_cases hs:6<=e/\1<r.op % 5
  ·obtain ⟨x,p,⟨N1,h1⟩,tx⟩:=hG g a (r.pick 0) (A0 (by omega) hg) (BG ha);obtain ⟨y,q,⟨N2,h2⟩,ty⟩:=hG g a (r.pick 1) (A0 (by omega) hg) (BG ha);have hj1:=Int.emod_nonneg r.n (show (2:Int)≠0 by decide)
   have hj2:=Int.emod_lt_of_pos r.n (show (0:Int)<2 by decide)
   obtain ⟨oo,hoo,hoo2⟩:∃oo:Int,oo=16+r.n % 2/\(oo=16\/oo=17):=⟨_,rfl,by omega⟩;have hsc:(Tm.mk oo 0 [x,y]).sc g.length:=by
    rcases hoo2 with rfl | rfl<;>exact CQ tx.sc ty.sc
   refine ⟨.mk oo 0 [x,y],p && q,⟨N1+N2+100,fun n hn=>?_⟩,hsc,by have:=tx.wt;have:=ty.wt;rw [Fi];omega,by have:=tx.dp;have:=ty.dp;rw [Qx];omega,fun hb=>.tfun e g a x y oo hoo2 hs.1 o14 (tx.gr (Mm hb)) (ty.gr (Kf hb))⟩;obtain ⟨n,rfl⟩:=psc n (by omega);have h1:=h1 n (by omega);have h2:=h2 n (by omega);rw [<- we] at h1 h2;have hw:=Ar (n:=n) (by omega) r.op (m:=5) (by omega) (by omega);have hw2:=Ar (n:=n) (by omega) r.n (m:=2) (by omega) (by omega);have wo:BM (16+r.n % 2)=oo:=by rw [Av]<;>omega
   have p0:=AK (n:=n) (by omega) r 0;have p1:=AK (n:=n) (by omega) r 1;have t16:=Cx (n:=n) (by omega) oo [x,y];rw [<- wo] at t16;have hd0:(0:Int)<(e:Int) - 5:=by omega
   have h45:¬ r.op % 5=4:=by omega
   have h15:=hs.2;rw [c66];rw [hae] at h1 h2 ⊢;clear hG hG2 tx ty hg ha leafT tint hae hu1 hu2 hop hnr hs hoo2 hsc;rw [<- wo];clear wo hoo;generalize r.op % 5=w5 at hw h45 h15;generalize r.n % 2=w2 at hw2 t16 ⊢;generalize r.pick 0=r0 at p0 h1;generalize r.pick 1=r1 at p1 h2;obtain ⟨o2,x2,k2⟩:=r;obtain ⟨o5,x5,k5⟩:=x;obtain ⟨o6,x6,k6⟩:=y;obtain ⟨o8,x8,k8⟩:=r0;obtain ⟨o9,x9,k9⟩:=r1;simp only [Tm.op,Tm.n] at hw hw2;simp only [A6,ACb,ACa,Ag] at h1 h2 p0 p1 t16 ⊢;cases p<;>(simp (maxSteps:=1000000) only [↓J8,↓XX,XY,↓reduceIte,seval,hd0,↓Ad hw,h45,h15,↓Ad hw2,↓Ad p0,↓Ad p1,↓Au h1,↓Au h2,↓Cc,↓Ad t16];exact Bi rfl)
  ·refine ⟨.mk 15 0 [],true,⟨100,fun n hn=>?_⟩,tg (leafT 15 0 (by decide) (by decide) (OP (by decide) (by decide) (by decide))) (fun _=>.tint e g a o14)⟩;obtain ⟨n,rfl⟩:=psc n (by omega);have hw:=Ar (n:=n) (by omega) r.op (m:=5) (by omega) (by omega);have t15:=AO (n:=n) (by omega) 15;have h45:(0:Int)<(e:Int) - 5->¬ r.op % 5=4/\¬ 1<r.op % 5:=by omega
   rw [c66];rw [hae];clear hG hG2 hg ha leafT tint hae hu1 hu2 hop hnr hs;generalize r.op % 5=w5 at hw h45;obtain ⟨o2,x2,k2⟩:=r;simp only [Tm.op] at hw;simp only [A6,ACa,Ag] at t15 ⊢;by_cases hd0:(0:Int)<(e:Int) - 5
   ·obtain ⟨h45,h15⟩:=h45 hd0;simp (maxSteps:=1000000) only [↓J8,↓XX,XY,↓reduceIte,seval,hd0,↓Ad hw,h45,h15,↓Ad t15];exact Bi rfl
   ·simp (maxSteps:=1000000) only [↓J8,↓XX,XY,↓reduceIte,seval,hd0,↓Ad t15];exact Bi rfl
 have o2:a.op=2:=by omega
 obtain ⟨hu3,hu4⟩:=hu1 o2;rw [o2] at hae;by_cases hn0:0<an
 ·refine ⟨.mk 2 (an - 1) [],true,⟨100,fun n hn=>?_⟩,tg (leafT 2 (an - 1) (by decide) (by decide) (by rw [BJ,if_pos rfl];omega)) (fun _=>.uni e g a _ o2 (by have e1:a.n=an:=(congrArg Tm.n hae).trans rfl;omega))⟩;obtain ⟨n,rfl⟩:=psc n (by omega);have hw:=Ar (n:=n) (by omega) r.op (m:=5) (by omega) (by omega);have wu:BM (an - 1)=an - 1:=by rw [Av]<;>omega
  have hu:=HX (n:=n) (by omega) (an - 1);rw [<- wu] at hu;rw [c66];rw [hae,<- wu];clear hG hG2 hg ha leafT tint hae hu1 hu2 hop hnr wu;generalize r.op % 5=w5 at hw;obtain ⟨o2,x2,k2⟩:=r;simp only [Tm.op] at hw;simp only [A6,ACa,Ag] at hu ⊢;by_cases hd0:(0:Int)<(e:Int) - 5
  ·by_cases h4:w5=4
   ·simp (maxSteps:=1000000) only [↓J8,↓XX,XY,↓reduceIte,seval,hd0,↓Ad hw,h4,hn0,↓Ap hu];exact Bi rfl
   ·simp (maxSteps:=1000000) only [↓J8,↓XX,XY,↓reduceIte,seval,hd0,↓Ad hw,h4,hn0,↓Ap hu];exact Bi rfl
  ·simp (maxSteps:=1000000) only [↓J8,↓XX,XY,↓reduceIte,seval,hd0,hn0,↓Ap hu];exact Bi rfl
 have han:an=0:=by omega
 subst han;have hq1:=Int.emod_nonneg r.op (show (4:Int)≠0 by decide)
 have hq2:=Int.emod_lt_of_pos r.op (show (0:Int)<4 by decide)
 by_cases hs:6<=e/\1<r.op % 4
 ·obtain ⟨x,p,⟨N1,h1⟩,tx⟩:=hG g a (r.pick 0) (A0 (by omega) hg) (BG ha);have hgx:GOk (e - 1) (g++[(1,x)]):=Du (by rw [show e - 1+1=e by omega];exact hg) tx.sc (by have:=tx.wt;omega) (by have:=tx.dp;omega)
  have hax:AOk (g++[(1,x)]).length a:=⟨by rw [hae];exact MA (by decide) (by decide) (by rw [BJ,if_pos rfl];omega),by omega,by omega⟩;obtain ⟨y,q,⟨N2,h2⟩,ty⟩:=hG (g++[(1,x)]) a (r.pick 1) hgx hax;have ys:y.sc (g.length+1):=by simpa using ty.sc
  obtain ⟨oo,hoo⟩:∃oo:Int,oo=3/\r.op % 4=2\/oo=6/\r.op % 4=3:=by
   by_cases h7:r.op % 4=2
   ·exact ⟨3,.inl ⟨rfl,h7⟩⟩
   ·exact ⟨6,.inr ⟨rfl,by omega⟩⟩
  have hsc:(Tm.mk oo 0 [x,y]).sc g.length:=by
   rcases hoo with ⟨rfl,_⟩ | ⟨rfl,_⟩<;>exact CQ tx.sc ys
  refine ⟨.mk oo 0 [x,y],p && q,⟨N1+N2+100,fun n hn=>?_⟩,hsc,by have:=tx.wt;have:=ty.wt;rw [Fi];omega,by have:=tx.dp;have:=ty.dp;rw [Qx];omega,fun hb=>.upi e g a x y oo (by omega) hs.1 o2 (AmY tx (by omega)) (tx.gr (Mm hb)) (ty.gr (Kf hb))⟩;obtain ⟨n,rfl⟩:=psc n (by omega);have h1:=h1 n (by omega);have h2:=h2 n (by omega);rw [<- we] at h1 h2;have hw:=Ar (n:=n) (by omega) r.op (m:=5) (by omega) (by omega);have hw4:=Ar (n:=n) (by omega) r.op (m:=4) (by omega) (by omega);have p0:=AK (n:=n) (by omega) r 0;have p1:=AK (n:=n) (by omega) r 1;have hm:=Fy (n:=n) g 1 x (by omega) (by omega);have t3:=Cx (n:=n) (by omega) oo [x,y];have hd0:(0:Int)<(e:Int) - 5:=by omega
  have w22:BM (2 - 2)=0:=by rw [Av]<;>omega
  have w32:BM (3 - 2)=1:=by rw [Av]<;>omega
  have w0:BM 0=0:=by rw [Av]<;>omega
  have w1:BM 1=1:=by rw [Av]<;>omega
  rw [c66];rw [hae] at h1 h2 ⊢;clear hG hG2 tx ty hg ha leafT tint hae hu1 hu2 hop hnr hs hsc hgx hax ys;generalize r.op % 5=w5 at hw;generalize r.op % 4=w4 at hw4 hoo;generalize r.pick 0=r0 at p0 h1;generalize r.pick 1=r1 at p1 h2;obtain ⟨o2,x2,k2⟩:=r;obtain ⟨o5,x5,k5⟩:=x;obtain ⟨o6,x6,k6⟩:=y;obtain ⟨o8,x8,k8⟩:=r0;obtain ⟨o9,x9,k9⟩:=r1;simp only [Tm.op] at hw hw4;simp only [A6,ACb,ACa,Ag] at h1 h2 p0 p1 hm t3 ⊢;rcases hoo with ⟨rfl,rfl⟩ | ⟨rfl,rfl⟩
  ·by_cases h4:w5=4<;>cases p<;>(simp (maxSteps:=1000000) only [↓J8,↓XX,XY,↓reduceIte,seval,hd0,↓Ad hw,h4,↓Ad hw4,↓Ad p0,↓Ad p1,↓Au h1,↓AA hm,↓Au h2,↓Cc,↓Aqp,↓WU,w22,w0,Int.reduceSub,↓AyL,↓Ad t3];exact Bi rfl)
  ·by_cases h4:w5=4<;>cases p<;>(simp (maxSteps:=1000000) only [↓J8,↓XX,XY,↓reduceIte,seval,hd0,↓Ad hw,h4,↓Ad hw4,↓Ad p0,↓Ad p1,↓Au h1,↓AA hm,↓Au h2,↓Cc,↓Aqp,↓WU,w32,w1,Int.reduceSub,↓Ayz,↓Ad t3];exact Bi rfl)
 ·have hj1:=Int.emod_nonneg r.n (show (3:Int)≠0 by decide)
  have hj2:=Int.emod_lt_of_pos r.n (show (0:Int)<3 by decide)
  obtain ⟨t,ht,tt⟩:∃t:Tm,(r.n % 3=0/\t=.mk 10 0 []\/r.n % 3=1/\t=.mk 14 0 []\/r.n % 3=2/\t=.mk 18 0 [.mk 15 0 []])/\TG 3 e g a t true:=by
   have h:r.n % 3=0\/r.n % 3=1\/r.n % 3=2:=by omega
   rcases h with h | h | h
   ·exact ⟨_,.inl ⟨h,rfl⟩,tg (leafT 10 0 (by decide) (by decide) (OP (by decide) (by decide) (by decide))) (fun _=>.unat e g a o2)⟩
   ·exact ⟨_,.inr (.inl ⟨h,rfl⟩),tg (leafT 14 0 (by decide) (by decide) (OP (by decide) (by decide) (by decide))) (fun _=>.uty e g a o2)⟩
   ·exact ⟨_,.inr (.inr ⟨h,rfl⟩),tg tint (fun _=>.ult e g a o2)⟩
  refine ⟨t,true,⟨100,fun n hn=>?_⟩,tt⟩;obtain ⟨n,rfl⟩:=psc n (by omega);have hw:=Ar (n:=n) (by omega) r.op (m:=5) (by omega) (by omega);have hw4:=Ar (n:=n) (by omega) r.op (m:=4) (by omega) (by omega);have hw3:=Ar (n:=n) (by omega) r.n (m:=3) (by omega) (by omega);have n4:=OF (n:=n) (by omega);have t14:=AO (n:=n) (by omega) 14;have t15:=AO (n:=n) (by omega) 15;have t18:=Cx (n:=n) (by omega) 18 [.mk 15 0 []];have h41:(0:Int)<(e:Int) - 5->¬ 1<r.op % 4:=by omega
  rw [c66];rw [hae];clear hG hG2 hg ha leafT tint hae hu1 hu2 hop hnr hs tt;generalize r.op % 5=w5 at hw;generalize r.op % 4=w4 at hw4 h41;generalize r.n % 3=w3 at hw3 ht;obtain ⟨o2,x2,k2⟩:=r;simp only [Tm.op,Tm.n] at hw hw4 hw3;simp only [A6,ACb,ACa,Ag] at n4 t14 t15 t18 ⊢;by_cases hd0:(0:Int)<(e:Int) - 5
  ·have h41:=h41 hd0;by_cases h4:w5=4
   ·rcases ht with ⟨rfl,rfl⟩ | ⟨rfl,rfl⟩ | ⟨rfl,rfl⟩<;>(simp (maxSteps:=1000000) only [↓J8,↓XX,XY,↓reduceIte,seval,hd0,↓Ad hw,h4,↓Ad hw4,h41,↓Ir n4,↓Ad t14,↓Ad t15,↓De,↓Ad t18,↓LA,↓Ad hw3,↓WU,↓HT,↓If,↓M9,Ag];exact Bi rfl)
   ·rcases ht with ⟨rfl,rfl⟩ | ⟨rfl,rfl⟩ | ⟨rfl,rfl⟩<;>(simp (maxSteps:=1000000) only [↓J8,↓XX,XY,↓reduceIte,seval,hd0,↓Ad hw,h4,↓Ad hw4,h41,↓Ir n4,↓Ad t14,↓Ad t15,↓De,↓Ad t18,↓LA,↓Ad hw3,↓WU,↓HT,↓If,↓M9,Ag];exact Bi rfl)
  ·rcases ht with ⟨rfl,rfl⟩ | ⟨rfl,rfl⟩ | ⟨rfl,rfl⟩<;>(simp (maxSteps:=1000000) only [↓J8,↓XX,XY,↓reduceIte,seval,hd0,↓Ad hw4,↓Ir n4,↓Ad t14,↓Ad t15,↓De,↓Ad t18,↓LA,↓Ad hw3,↓WU,↓HT,↓If,↓M9,Ag];exact Bi rfl)
end Idl
end Go.Proofs.Ytkfecngimlcfoaa

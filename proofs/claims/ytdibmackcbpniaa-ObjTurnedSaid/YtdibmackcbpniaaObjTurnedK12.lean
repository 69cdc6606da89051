/-
  Texts of a proof, part 12: an ideal semantics of the program, its functions in shallow form, contracts of them. No statement of the seat is proved here.
-/
import Derived.Test.YtdibmackcbpniaaObjTurnedK11
set_option linter.all false
set_option maxRecDepth 20000
set_option maxHeartbeats 16000000
noncomputable section
namespace Go.Proofs.Ytdibmackcbpniaa
namespace Idl
def Hit (g:Ci) (st:Int) (a:Tm) (i:Nat):Prop:=i<g.length/\∃T f w,g[g.length - 1 - i]?=some (st,T)/\A1 f (T.shift ((i+1:Nat):Int) 0)=some (w,0)/\w.eta=a.eta
inductive Gr:Nat->Nat->Ci->Tm->Tm->Prop
 | tnat (e:Nat) (g:Ci) (a:Tm):Gr 0 e g a (.mk 10 0 [])
 | tty (e:Nat) (g:Ci) (a:Tm):Gr 0 e g a (.mk 14 0 [])
 | tu (e:Nat) (g:Ci) (a:Tm):Gr 0 e g a (.mk 2 0 [])
 | tlp (e:Nat) (g:Ci) (a r:Tm):Gr 0 e g a (.mk 18 0 [r.plainT 1])
 | tpi (e:Nat) (g:Ci) (a x y:Tm) (op:Int) (ho:op=3\/op=6) (h6:6<=e) (hgl:g.length<=60) (hx:AOk g.length x) (h1:Gr 0 (e - 1) g .z x) (h2:Gr 0 (e - 1) (g++[(1,x)]) .z y):Gr 0 e g a (.mk op 0 [x,y])
 | tlift (e:Nat) (g:Ci) (a t:Tm) (h6:6<=e) (h1:Gr 1 (e - 1) g (.mk 14 0 []) t):Gr 0 e g a (.mk 18 0 [t])
 | grow (e:Nat) (g:Ci) (a0 a t:Tm) (f:Nat) (hn:A1 f a0=some (a,0)) (hg:g.length<=60) (ha:NOk g.length a) (h1:Gr 3 e g a t):Gr 1 e g a0 t
 | objc (e:Nat) (g:Ci) (a0 a t:Tm) (f:Nat) (hn:A1 f a0=some (a,0)) (hg:g.length<=60) (ha:NOk g.length a) (h1:Gr 4 e g a t):Gr 2 e g a0 t
 | var1 (e:Nat) (g:Ci) (a:Tm) (i:Nat) (h:Hit g 1 a i):Gr 3 e g a (.mk 1 i [])
 | var0 (e:Nat) (g:Ci) (a:Tm) (i:Nat) (h:Hit g 0 a i):Gr 4 e g a (.mk 1 i [])
 | fst (e:Nat) (g:Ci) (a b c x:Tm) (h6:6<=e) (hb:AOk g.length b) (h1:Gr 0 6 g .z b) (h2:Gr 1 (e - 2) g b x) (h3:Gr 1 (e - 2) g a c):Gr 3 e g a (.mk 8 0 [.mk 7 0 [.mk 6 0 [a,b.shift 1 0],c,x]])
 | app (e:Nat) (g:Ci) (a b c x:Tm) (h6:6<=e) (hb:AOk g.length b) (h1:Gr 0 6 g .z b) (h2:Gr 1 (e - 2) g b x) (h3:Gr 1 (e - 2) (g++[(1,b)]) (a.shift 1 0) c):Gr 3 e g a (.mk 5 0 [.mk 4 0 [b,c],x])
 | recc (e:Nat) (g:Ci) (a n z s:Tm) (h6:6<=e) (ha:a.op=10\/a.op=14) (h1:Gr 1 (e - 2) g (.mk 10 0 []) n) (h2:Gr 1 (e - 2) g a z) (h3:Gr 1 (e - 2) (g++[(1,.mk 10 0 [])]++[(1,a.shift 1 0)]) (a.shift 2 0) s):Gr 3 e g a (.mk 13 0 [a.shift 1 0,z,s,n])
 | suc (e:Nat) (g:Ci) (a n:Tm) (h6:6<=e) (ha:a.op=10) (h1:Gr 1 (e - 1) g a n):Gr 3 e g a (.mk 12 0 [n])
 | num (e:Nat) (g:Ci) (a:Tm) (j:Nat) (ha:a.op=10) (hj:j<=3):Gr 3 e g a (CG j)
 | tint (e:Nat) (g:Ci) (a:Tm) (ha:a.op=14):Gr 3 e g a (.mk 15 0 [])
 | tfun (e:Nat) (g:Ci) (a x y:Tm) (op:Int) (ho:op=16\/op=17) (h6:6<=e) (ha:a.op=14) (h1:Gr 1 (e - 1) g a x) (h2:Gr 1 (e - 1) g a y):Gr 3 e g a (.mk op 0 [x,y])
 | uni (e:Nat) (g:Ci) (a:Tm) (n:Int) (ha:a.op=2):Gr 3 e g a (.mk 2 n [])
 | unat (e:Nat) (g:Ci) (a:Tm) (ha:a.op=2):Gr 3 e g a (.mk 10 0 [])
 | uty (e:Nat) (g:Ci) (a:Tm) (ha:a.op=2):Gr 3 e g a (.mk 14 0 [])
 | ult (e:Nat) (g:Ci) (a:Tm) (ha:a.op=2):Gr 3 e g a (.mk 18 0 [.mk 15 0 []])
 | upi (e:Nat) (g:Ci) (a x y:Tm) (op:Int) (ho:op=3\/op=6) (h6:6<=e) (ha:a.op=2) (hx:AOk g.length x) (h1:Gr 1 (e - 1) g a x) (h2:Gr 1 (e - 1) (g++[(1,x)]) a y):Gr 3 e g a (.mk op 0 [x,y])
 | lam (e:Nat) (g:Ci) (n:Int) (d c x:Tm) (h1:Gr 1 (e - 1) (g++[(1,d)]) c x):Gr 3 e g (.mk 3 n [d,c]) (.mk 4 0 [d,x])
 | pair (e:Nat) (g:Ci) (n:Int) (d c x y:Tm) (hx:AOk g.length x) (h1:Gr 1 (e - 1) g d x) (h2:Gr 1 (e - 1) g (c.subst 0 0 x) y):Gr 3 e g (.mk 6 n [d,c]) (.mk 7 0 [.mk 6 n [d,c],x,y])
 | quo (e:Nat) (g:Ci) (n:Int) (d x:Tm) (h1:Gr 2 (e - 1) g d x):Gr 3 e g (.mk 18 n [d]) (.mk 19 0 [x])
 | oif (e:Nat) (g:Ci) (a c x y:Tm) (h6:6<=e) (h1:Gr 2 (e - 2) g (.mk 15 0 []) c) (h2:Gr 2 (e - 2) g a x) (h3:Gr 2 (e - 2) g a y):Gr 4 e g a (.mk 27 0 [c,x,y])
 | olet (e:Nat) (g:Ci) (a r x y:Tm) (h6:6<=e) (h1:Gr 2 (e - 2) g (r.plainT 1) x) (h2:Gr 2 (e - 2) (g++[(0,r.plainT 1)]) (a.shift 1 0) y):Gr 4 e g a (.mk 28 0 [x,y])
 | oapp (e:Nat) (g:Ci) (a r x y:Tm) (h6:6<=e) (h1:Gr 2 (e - 2) g (r.plainT 1) x) (h2:Gr 2 (e - 2) (g++[(0,r.plainT 1)]) (a.shift 1 0) y):Gr 4 e g a (.mk 21 0 [.mk 20 0 [r.plainT 1,y],x])
 | ofst (e:Nat) (g:Ci) (a x y:Tm) (h6:6<=e) (h1:Gr 2 (e - 2) g a x) (h2:Gr 2 (e - 2) g (.mk 15 0 []) y):Gr 4 e g a (.mk 23 0 [.mk 22 0 [x,y]])
 | ofix (e:Nat) (g:Ci) (a x:Tm) (h6:6<=e) (h1:Gr 2 (e - 2) (g++[(0,a)]) (a.shift 1 0) x):Gr 4 e g a (.mk 29 0 [a,x])
 | spl (e:Nat) (g:Ci) (a x:Tm) (h6:6<=e) (h1:Gr 1 (e - 1) g (.mk 18 0 [a]) x):Gr 4 e g a (.mk 30 0 [x])
 | oint (e:Nat) (g:Ci) (a:Tm) (n:Int) (ha:a.op=15):Gr 4 e g a (.mk 25 n [])
 | oprim (e:Nat) (g:Ci) (a p q:Tm) (n:Int) (h6:6<=e) (ha:a.op=15) (h1:Gr 2 (e - 1) g a p) (h2:Gr 2 (e - 1) g a q):Gr 4 e g a (.mk 26 n [p,q])
 | olam (e:Nat) (g:Ci) (n:Int) (d c b:Tm) (h1:Gr 2 (e - 1) (g++[(0,d)]) (c.shift 1 0) b):Gr 4 e g (.mk 16 n [d,c]) (.mk 20 0 [d,b])
 | opair (e:Nat) (g:Ci) (n:Int) (d c p q:Tm) (h1:Gr 2 (e - 1) g d p) (h2:Gr 2 (e - 1) g c q):Gr 4 e g (.mk 17 n [d,c]) (.mk 22 0 [p,q])
theorem Acc:∀k,(CG k).wt=k+1:=by
 intro k
 induction k with
 | zero=>rfl
 | succ k ih=>simp only [CG,Tm.wt,Tm.wtL,ih];omega
theorem dp1 (op n:Int) (a:Tm):(Tm.mk op n [a]).dp=1+a.dp:=by simp only [Tm.dp,Tm.dpL];omega
theorem PK (op n:Int) (a b:Tm):(Tm.mk op n [a,b]).dp=1+max a.dp b.dp:=by simp only [Tm.dp,Tm.dpL];omega
theorem dp3 (op n:Int) (a b c:Tm):(Tm.mk op n [a,b,c]).dp=1+max a.dp (max b.dp c.dp):=by simp only [Tm.dp,Tm.dpL];omega
theorem dp4 (op n:Int) (a b c d:Tm):(Tm.mk op n [a,b,c,d]).dp=1+max a.dp (max b.dp (max c.dp d.dp)):=by simp only [Tm.dp,Tm.dpL];omega
theorem wt1 (op n:Int) (a:Tm):(Tm.mk op n [a]).wt=1+a.wt:=by simp only [Tm.wt,Tm.wtL];omega
theorem Nt (op n:Int) (a b:Tm):(Tm.mk op n [a,b]).wt=1+a.wt+b.wt:=by simp only [Tm.wt,Tm.wtL];omega
theorem wt3 (op n:Int) (a b c:Tm):(Tm.mk op n [a,b,c]).wt=1+a.wt+b.wt+c.wt:=by simp only [Tm.wt,Tm.wtL];omega
theorem wt4 (op n:Int) (a b c d:Tm):(Tm.mk op n [a,b,c,d]).wt=1+a.wt+b.wt+c.wt+d.wt:=by simp only [Tm.wt,Tm.wtL];omega
structure CtxT (g:Ci) (G:List Nat):Prop where
 len:G.length=g.length
 ok:∀(i:Nat) (st:Int) (T:Tm),i<g.length->g[g.length - 1 - i]?=some (st,T)->∃s,G[i]?=some s/\s<10/\(st=0->s=6)/\(st=1->T.vb/\∀f w,A1 f T=some (w,0)->w.op≠4/\w.op≠7/\∀τ,Pr w.op=some τ->s=τ)
theorem Oa:CtxT [] []:=⟨rfl,fun i st T h=>by simp at h⟩
theorem H5 {g:Ci} {G:List Nat} (h:CtxT g G) (st:Int) (T:Tm) (s:Nat) (hs:s<10) (h0:st=0->s=6) (h1:st=1->T.vb/\∀f w,A1 f T=some (w,0)->w.op≠4/\w.op≠7/\∀τ,Pr w.op=some τ->s=τ):CtxT (g++[(st,T)]) (s::G):=by
 refine ⟨by simp [h.len],?_⟩;intro i st' T' hi hg;rw [List.length_append,AzI,List.length_nil] at hi hg;cases i with
 | zero =>
  rw [List.getElem?_append_right (by omega),show g.length+(0+1) - 1 - 0 - g.length=0 by omega] at hg
  simp only [List.getElem?_cons_zero,AzE,AzF] at hg;obtain ⟨rfl,rfl⟩:=hg;exact ⟨s,rfl,hs,h0,h1⟩
 | succ i =>
  rw [List.getElem?_append_left (by omega),show g.length+(0+1) - 1 - (i+1)=g.length - 1 - i by omega] at hg
  rw [List.getElem?_cons_succ];exact h.ok i st' T' (by omega) hg
theorem Xr {k:Nat} {a:Tm} (h:AOk k a) (hk:k<=1000):a.vb:=PD a k h.sc (by have:=h.wt;omega)
theorem Ajb {op:Int} {s:Nat} (h:Pr op=some s):op≠4/\op≠7:=by
 constructor<;>(rintro rfl;simp [Pr] at h)
theorem FP {g:Ci} {G:List Nat} (h:CtxT g G) {T:Tm} {s:Nat} (hT:HasT G T (10+s)) (hv:T.vb):CtxT (g++[(1,T)]) (s::G):=by
 have hs:=(Co hT).2;refine H5 h 1 T s (by omega) (by omega) (fun _=>⟨hv,fun f w hw=>?_⟩)
 have:=(Co (A2 (CQ hw hT))).1
 have hne:=Ajb this;exact ⟨hne.1,hne.2,fun τ hτ=>by rw [this] at hτ;exact Option.some.inj hτ⟩
theorem FC {g:Ci} {G:List Nat} (h:CtxT g G) (T:Tm):CtxT (g++[(0,T)]) (6::G):=H5 h 0 T 6 (by omega) (fun _=>rfl) (by omega)
theorem AqW {op:Int} {s:Nat} (h:Pr op=some s):s<6:=by
 unfold Pr at h
 repeat' (split at h)
 all_goals first | (cases h;done) | (simp only [AzE] at h;omega)
theorem Asa {g:Ci} {G:List Nat} (h:CtxT g G) {T:Tm} (hT:HasT G T 2) (hv:T.vb):∃s,s<10/\CtxT (g++[(1,T)]) (s::G):=by
 have hne:∀f w,A1 f T=some (w,0)->w.op≠4/\w.op≠7:=by
  intro f w hw
  have:=CQ hw hT
  cases this with
  | var=>simp only [Tm.op];omega
  | node _ op n ks _ sg hr =>
   simp only [Tm.op];cases hr<;>decide
 by_cases hex:∃f w s,A1 f T=some (w,0)/\Pr w.op=some s
 ·obtain ⟨f,w,s,hw,hs⟩:=hex;have hlt:=AqW hs;refine ⟨s,by omega,H5 h 1 T s (by omega) (by omega) (fun _=>⟨hv,fun f' w' hw'=>⟨(hne f' w' hw').1,(hne f' w' hw').2,fun τ hτ=>?_⟩⟩)⟩
  have:=Vu hw hw'
  simp only [AzF,and_true] at this;subst this;rw [hs] at hτ;exact Option.some.inj hτ
 ·exact ⟨7,by omega,H5 h 1 T 7 (by omega) (by omega) (fun _=>⟨hv,fun f' w' hw'=>⟨(hne f' w' hw').1,(hne f' w' hw').2,fun τ hτ=>absurd ⟨f',w',τ,hw',hτ⟩ hex⟩⟩)⟩
theorem XB {t:Tm} (h4:t.op≠4) (h7:t.op≠7):t.eta.op=t.op:=by
 obtain ⟨op,n,ks⟩:=t;simp only [Tm.op] at h4 h7;rw [Tm.eta,if_neg h4,if_neg h7];rfl
theorem AiM (t:Tm) (d c:Int):(t.shift d c).op=t.op:=by
 obtain ⟨op,n,ks⟩:=t;rw [Tm.shift];rfl
theorem AiL {g:Ci} {G:List Nat} (h:CtxT g G) (hl:g.length<=1000) {st:Int} {a:Tm} {i:Nat} (hh:Hit g st a i):(st=0->HasT G (.mk 1 i []) 6)/\(st=1->∀s,Pr a.op=some s->HasT G (.mk 1 i []) s):=by
 obtain ⟨hi,T,f,w,hg,hn,he⟩:=hh;obtain ⟨s,h1,h2,h3,h4⟩:=h.ok i st T hi hg;refine ⟨fun h0=>?_,fun h0 s' hs'=>?_⟩
 ·have:=h3 h0
  subst this;exact .var _ _ _ (by omega) (by simpa using h1) (by omega)
 ·obtain ⟨hv,h5⟩:=h4 h0;obtain ⟨w0,q1,q2⟩:=AgG (d:=i+1) (by omega) hn hv;obtain ⟨n4,n7,h6⟩:=h5 f w0 q1;have ha:=Ajb hs';have e1:w.op=w0.op:=by rw [q2,AiM]
  have e2:w.op=a.op:=by
   have e3:=XB (t:=w) (by rw [e1];exact n4) (by rw [e1];exact n7);have e4:=XB (t:=a) ha.1 ha.2;rw [<- e3,he,e4]
  have:=h6 s' (by rw [<- e1,e2];exact hs')
  subst this;exact .var _ _ _ (by omega) (by simpa using h1) h2
theorem ht0 {G:List Nat} {op n:Int} {s:Nat} (h:Rule op s []):HasT G (.mk op n []) s:=.node _ _ _ _ _ _ h rfl (fun i t bs s' a=>by simp at a)
theorem ht1 {G:List Nat} {op n:Int} {s:Nat} {b0:List Nat} {s0:Nat} {x:Tm} (h:Rule op s [(b0,s0)]) (hx:HasT (b0++G) x s0):HasT G (.mk op n [x]) s:=.node _ _ _ _ _ _ h rfl (fun i t bs s' a b=>by
 match i with
 | 0=>simp at a b;obtain ⟨rfl,rfl⟩:=b;subst a;exact hx
 | i+1=>simp at a)
theorem ht2 {G:List Nat} {op n:Int} {s:Nat} {b0 b1:List Nat} {s0 s1:Nat} {x y:Tm} (h:Rule op s [(b0,s0),(b1,s1)]) (hx:HasT (b0++G) x s0) (hy:HasT (b1++G) y s1):HasT G (.mk op n [x,y]) s:=.node _ _ _ _ _ _ h rfl (fun i t bs s' a b=>by
 match i with
 | 0=>simp at a b;obtain ⟨rfl,rfl⟩:=b;subst a;exact hx
 | 1=>simp at a b;obtain ⟨rfl,rfl⟩:=b;subst a;exact hy
 | i+2=>simp at a)
theorem ht3 {G:List Nat} {op n:Int} {s:Nat} {b0 b1 b2:List Nat} {s0 s1 s2:Nat} {x y z:Tm} (h:Rule op s [(b0,s0),(b1,s1),(b2,s2)]) (hx:HasT (b0++G) x s0) (hy:HasT (b1++G) y s1) (hz:HasT (b2++G) z s2):HasT G (.mk op n [x,y,z]) s:=.node _ _ _ _ _ _ h rfl (fun i t bs s' a b=>by
 match i with
 | 0=>simp at a b;obtain ⟨rfl,rfl⟩:=b;subst a;exact hx
 | 1=>simp at a b;obtain ⟨rfl,rfl⟩:=b;subst a;exact hy
 | 2=>simp at a b;obtain ⟨rfl,rfl⟩:=b;subst a;exact hz
 | i+3=>simp at a)
theorem ht4 {G:List Nat} {op n:Int} {s:Nat} {b0 b1 b2 b3:List Nat} {s0 s1 s2 s3:Nat} {x y z w:Tm} (h:Rule op s [(b0,s0),(b1,s1),(b2,s2),(b3,s3)]) (hx:HasT (b0++G) x s0) (hy:HasT (b1++G) y s1) (hz:HasT (b2++G) z s2) (hw:HasT (b3++G) w s3):HasT G (.mk op n [x,y,z,w]) s:=.node _ _ _ _ _ _ h rfl (fun i t bs s' a b=>by
 match i with
 | 0=>simp at a b;obtain ⟨rfl,rfl⟩:=b;subst a;exact hx
 | 1=>simp at a b;obtain ⟨rfl,rfl⟩:=b;subst a;exact hy
 | 2=>simp at a b;obtain ⟨rfl,rfl⟩:=b;subst a;exact hz
 | 3=>simp at a b;obtain ⟨rfl,rfl⟩:=b;subst a;exact hw
 | i+4=>simp at a)
theorem BA (G:List Nat):∀(d:Nat) (r:Tm),HasT G (r.plainT d) 1
 | 0,r=>by rw [Tm.plainT];exact ht0 .tint
 | d+1,r=>by
  have h1:=Int.emod_nonneg r.n (show (4:Int)≠0 by decide)
  have h2:=Int.emod_lt_of_pos r.n (show (0:Int)<4 by decide)
  rw [Tm.plainT];split
  ·exact ht0 .tint
  ·have h3:16+r.n % 4 - 2=16\/16+r.n % 4 - 2=17:=by omega
   rcases h3 with h3 | h3<;>rw [h3]
   ·exact ht2 .tfun (BA _ d _) (BA _ d _)
   ·exact ht2 .tpro (BA _ d _) (BA _ d _)
theorem AiG (G:List Nat):∀j,HasT G (CG j) 0
 | 0=>ht0 .zero
 | j+1=>ht1 .suc (AiG G j)
theorem ApF {G:List Nat} {n:Int} {d c:Tm} {op:Int} (ho:op=3\/op=6) {s:Nat} (h:HasT G (.mk op n [d,c]) (10+s)):(s=4/\op=3\/s=5/\op=6)/\∃a b,a<6/\b<6/\HasT G d (10+a)/\HasT (a::G) c (10+b):=by
 generalize hq:10+s=q at h;rcases ho with rfl | rfl
 ·cases h with
  | node _ _ _ _ _ sg hr hl hk =>
   cases hr with
   | piT a b ha hb=>exact ⟨by omega,a,b,ha,hb,hk 0 d [] (10+a) rfl rfl,hk 1 c [a] (10+b) rfl rfl⟩
   | piU=>omega
 ·cases h with
  | node _ _ _ _ _ sg hr hl hk =>
   cases hr with
   | sigT a b ha hb=>exact ⟨by omega,a,b,ha,hb,hk 0 d [] (10+a) rfl rfl,hk 1 c [a] (10+b) rfl rfl⟩
   | sigU=>omega
theorem AlT {G:List Nat} {n:Int} {d:Tm} {s:Nat} (h:HasT G (.mk 18 n [d]) (10+s)):s=3/\HasT G d 1:=by
 generalize hq:10+s=q at h;cases h with
 | node _ _ _ _ _ sg hr hl hk =>
  cases hr with
  | liftT=>exact ⟨by omega,hk 0 d [] 1 rfl rfl⟩
  | liftU=>omega
theorem Agd {G:List Nat} {n:Int} {d c:Tm} {op:Int} (ho:op=16\/op=17) (h:HasT G (.mk op n [d,c]) 1):HasT G d 1/\HasT G c 1:=by
 rcases ho with rfl | rfl
 ·cases h with
  | node _ _ _ _ _ sg hr hl hk=>cases hr;exact ⟨hk 0 d [] 1 rfl rfl,hk 1 c [] 1 rfl rfl⟩
 ·cases h with
  | node _ _ _ _ _ sg hr hl hk=>cases hr;exact ⟨hk 0 d [] 1 rfl rfl,hk 1 c [] 1 rfl rfl⟩
theorem up1 {g:Ci} {G:List Nat} (h:CtxT g G) (hl:g.length<=1000) {t:Tm} {s:Nat} (ht:HasT G t s) (hw:t.wt<=1000000000000000) (x:Nat):HasT (x::G) (t.shift 1 0) s:=IK ht [x] (by rw [h.len];simp only [AzI,List.length_nil];omega)
theorem up2 {g:Ci} {G:List Nat} (h:CtxT g G) (hl:g.length<=1000) {t:Tm} {s:Nat} (ht:HasT G t s) (hw:t.wt<=1000000000000000) (x y:Nat):HasT (x::y::G) (t.shift 2 0) s:=IK ht [x,y] (by rw [h.len];simp only [AzI,List.length_nil];omega)
theorem Ajc {k e:Nat} {g:Ci} {a t:Tm} (h:Gr k e g a t):∀G,CtxT g G ->
  (k=0->∃s,s<6/\HasT G t (10+s))/\(k=1->∀s,HasT G a (10+s)->HasT G t s)/\(k=2->HasT G a 1->HasT G t 6) /\
  (k=3->g.length<=60->NOk g.length a->∀s,HasT G a (10+s)->HasT G t s)/\(k=4->g.length<=60->NOk g.length a->HasT G a 1->HasT G t 6):=by
 induction h with
 | tnat e g a=>intro G hG;exact ⟨fun _=>⟨0,by omega,ht0 .natT⟩,by omega,by omega,by omega,by omega⟩
 | tty e g a=>intro G hG;exact ⟨fun _=>⟨1,by omega,ht0 .tyT⟩,by omega,by omega,by omega,by omega⟩
 | tu e g a=>intro G hG;exact ⟨fun _=>⟨2,by omega,ht0 .uT⟩,by omega,by omega,by omega,by omega⟩
 | tlp e g a r=>intro G hG;exact ⟨fun _=>⟨3,by omega,ht1 .liftT (BA _ 1 r)⟩,by omega,by omega,by omega,by omega⟩
 | tpi e g a x y op ho h6 hgl hx h1 h2 ih1 ih2 =>
  intro G hG;refine ⟨fun _=>?_,by omega,by omega,by omega,by omega⟩;obtain ⟨s1,q1,q2⟩:=(ih1 G hG).1 rfl;have hvb:x.vb:=by
   have:=hx.wt
   exact PD x g.length hx.sc (by have:=hG.len;omega)
  obtain ⟨s2,q3,q4⟩:=(ih2 (s1::G) (FP hG q2 hvb)).1 rfl;rcases ho with rfl | rfl
  ·exact ⟨4,by omega,ht2 (.piT s1 s2 q1 q3) q2 q4⟩
  ·exact ⟨5,by omega,ht2 (.sigT s1 s2 q1 q3) q2 q4⟩
 | tlift e g a t h6 h1 ih =>
  intro G hG;exact ⟨fun _=>⟨3,by omega,ht1 .liftT ((ih G hG).2.1 rfl 1 (ht0 .tyT))⟩,by omega,by omega,by omega,by omega⟩
 | grow e g a0 a t f hn hg ha h1 ih =>
  intro G hG;exact ⟨by omega,fun _ s hs=>(ih G hG).2.2.2.1 rfl hg ha s (A2 (CQ hn hs)),by omega,by omega,by omega⟩
 | objc e g a0 a t f hn hg ha h1 ih =>
  intro G hG;exact ⟨by omega,by omega,fun _ hs=>(ih G hG).2.2.2.2 rfl hg ha (A2 (CQ hn hs)),by omega,by omega⟩
 | var1 e g a i h =>
  intro G hG;exact ⟨by omega,by omega,by omega,fun _ hl ha s hs=>(AiL hG (by omega) h).2 rfl s (Co hs).1,by omega⟩
 | var0 e g a i h =>
  intro G hG;exact ⟨by omega,by omega,by omega,by omega,fun _ hl ha hs=>(AiL hG (by omega) h).1 rfl⟩
 | fst e g a b c x h6 hb h1 h2 h3 ih1 ih2 ih3 =>
  intro G hG;refine ⟨by omega,by omega,by omega,fun _ hl ha s hs=>?_,by omega⟩;obtain ⟨s1,q1,q2⟩:=(ih1 G hG).1 rfl;have hx:=(ih2 G hG).2.1 rfl s1 q2;have hc:=(ih3 G hG).2.1 rfl s hs;exact .fst _ _ _ _ _ _ s s1 2 (by have:=(Co hs).2;omega) (ht2 (.sigU 0 (10+s) (10+s1) (by omega)) hs (up1 hG (by omega) q2 hb.wt 0)) hc hx
 | app e g a b c x h6 hb h1 h2 h3 ih1 ih2 ih3 =>
  intro G hG;refine ⟨by omega,by omega,by omega,fun _ hl ha s hs=>?_,by omega⟩;obtain ⟨s1,q1,q2⟩:=(ih1 G hG).1 rfl;have hx:=(ih2 G hG).2.1 rfl s1 q2;have hc:=(ih3 (s1::G) (FP hG q2 (Xr hb (by omega)))).2.1 rfl s (up1 hG (by omega) hs (by have:=ha.wt;omega) s1);exact .app _ _ _ _ _ _ s1 s (10+s1) (by have:=(Co hs).2;omega) (by omega) q2 hc hx
 | recc e g a n z s h6 ha h1 h2 h3 ih1 ih2 ih3 =>
  intro G hG;refine ⟨by omega,by omega,by omega,fun _ hl hna σ hs=>?_,by omega⟩;have hn:=(ih1 G hG).2.1 rfl 0 (ht0 .natT);have hz:=(ih2 G hG).2.1 rfl σ hs;have hs1:=up1 hG (by omega) hs (by have:=hna.wt;omega) 0;have g1:=FP hG (T:=.mk 10 0 []) (s:=0) (ht0 .natT) (by simp [Tm.vb,Tm.vbL]);have g2:=FP g1 hs1 (PD _ (g.length+1) (B5 a 1 0 g.length hna.sc (by have:=hna.wt;omega)) (by rw [BG];have:=hna.wt;omega));have hs3:=(ih3 _ g2).2.1 rfl σ (up2 hG (by omega) hs (by have:=hna.wt;omega) σ 0);have h01:σ=0\/σ=1:=by
   have:=(Co hs).1
   rcases ha with ha | ha<;>rw [ha] at this<;>simp [Pr] at this<;>omega
  exact ht4 (.recR σ (by omega)) hs1 hz hs3 hn
 | suc e g a n h6 ha h1 ih =>
  intro G hG;refine ⟨by omega,by omega,by omega,fun _ hl hna s hs=>?_,by omega⟩;have h0:s=0:=by
   have:=(Co hs).1
   rw [ha] at this;simp [Pr] at this;omega
  subst h0;exact ht1 .suc ((ih G hG).2.1 rfl 0 hs)
 | num e g a j ha hj =>
  intro G hG;refine ⟨by omega,by omega,by omega,fun _ hl hna s hs=>?_,by omega⟩;have h0:s=0:=by
   have:=(Co hs).1
   rw [ha] at this;simp [Pr] at this;omega
  subst h0;exact AiG _ j
 | tint e g a ha =>
  intro G hG;refine ⟨by omega,by omega,by omega,fun _ hl hna s hs=>?_,by omega⟩;have h0:s=1:=by
   have:=(Co hs).1
   rw [ha] at this;simp [Pr] at this;omega
  subst h0;exact ht0 .tint
 | tfun e g a x y op ho h6 ha h1 h2 ih1 ih2 =>
  intro G hG;refine ⟨by omega,by omega,by omega,fun _ hl hna s hs=>?_,by omega⟩;have h0:s=1:=by
   have:=(Co hs).1
   rw [ha] at this;simp [Pr] at this;omega
  subst h0;have q1:=(ih1 G hG).2.1 rfl 1 hs;have q2:=(ih2 G hG).2.1 rfl 1 hs;rcases ho with rfl | rfl
  ·exact ht2 .tfun q1 q2
  ·exact ht2 .tpro q1 q2
 | uni e g a n ha =>
  intro G hG;refine ⟨by omega,by omega,by omega,fun _ hl hna s hs=>?_,by omega⟩;have h0:s=2:=by
   have:=(Co hs).1
   rw [ha] at this;simp [Pr] at this;omega
  subst h0;exact ht0 .uU
 | unat e g a ha =>
  intro G hG;refine ⟨by omega,by omega,by omega,fun _ hl hna s hs=>?_,by omega⟩;have h0:s=2:=by
   have:=(Co hs).1
   rw [ha] at this;simp [Pr] at this;omega
  subst h0;exact ht0 .natU
 | uty e g a ha =>
  intro G hG;refine ⟨by omega,by omega,by omega,fun _ hl hna s hs=>?_,by omega⟩;have h0:s=2:=by
   have:=(Co hs).1
   rw [ha] at this;simp [Pr] at this;omega
  subst h0;exact ht0 .tyU
 | ult e g a ha =>
  intro G hG;refine ⟨by omega,by omega,by omega,fun _ hl hna s hs=>?_,by omega⟩;have h0:s=2:=by
   have:=(Co hs).1
   rw [ha] at this;simp [Pr] at this;omega
  subst h0;exact ht1 .liftU (ht0 .tint)
 | upi e g a x y op ho h6 ha hx h1 h2 ih1 ih2 =>
  intro G hG;refine ⟨by omega,by omega,by omega,fun _ hl hna s hs=>?_,by omega⟩;have h0:s=2:=by
   have:=(Co hs).1
   rw [ha] at this;simp [Pr] at this;omega
  subst h0;have q1:=(ih1 G hG).2.1 rfl 2 hs;obtain ⟨s1,hs1,g1⟩:=Asa hG q1 (Xr hx (by omega));have q2:=(ih2 _ g1).2.1 rfl 2 (by
   obtain ⟨oa,na,ka⟩:=a;simp only [Tm.op] at ha;subst ha;have hk:ka=[]:=by
    have:=hna.sc
    rw [Tm.sc] at this;exact List.eq_nil_of_length_eq_zero (Option.some.inj this.1.symm)
   subst hk;exact ht0 .uT)
  rcases ho with rfl | rfl
  ·exact ht2 (.piU s1 hs1) q1 q2
  ·exact ht2 (.sigU s1 2 2 hs1) q1 q2
 | lam e g n d c x h1 ih =>
  intro G hG;refine ⟨by omega,by omega,by omega,fun _ hl hna s hs=>?_,by omega⟩;obtain ⟨h4,a1,b1,ha1,hb1,hd,hc⟩:=ApF (.inl rfl) hs;have h0:s=4:=by omega
  subst h0;have hna2:=hna.sc;have hnw:=hna.wt;rw [Nt] at hnw;rw [Tm.sc] at hna2;have hvb:=PD d g.length hna2.2.2.1 (by omega);exact ht2 (.lam a1 b1 (10+a1) (by omega)) hd ((ih _ (FP hG hd hvb)).2.1 rfl b1 hc)
 | pair e g n d c x y hx h1 h2 ih1 ih2 =>
  intro G hG;refine ⟨by omega,by omega,by omega,fun _ hl hna s hs=>?_,by omega⟩;obtain ⟨h5,a1,b1,ha1,hb1,hd,hc⟩:=ApF (.inr rfl) hs;have h0:s=5:=by omega
  subst h0;have hnw:=hna.wt;rw [Nt] at hnw;have qx:=(ih1 G hG).2.1 rfl a1 hd;have hsub:=Xj hc [] G a1 x rfl qx (by have:=hx.wt;rw [hG.len];simp only [List.length_nil];omega);have qy:=(ih2 G hG).2.1 rfl b1 (by simpa using hsub);exact ht3 (.pair (10+5) a1 b1) hs qx qy
 | quo e g n d x h1 ih =>
  intro G hG;refine ⟨by omega,by omega,by omega,fun _ hl hna s hs=>?_,by omega⟩;obtain ⟨h3,hd⟩:=AlT hs;subst h3;exact ht1 .quo ((ih G hG).2.2.1 rfl hd)
 | oif e g a c x y h6 h1 h2 h3 ih1 ih2 ih3 =>
  intro G hG;exact ⟨by omega,by omega,by omega,by omega,fun _ hl hna hs=>ht3 .oif ((ih1 G hG).2.2.1 rfl (ht0 .tint)) ((ih2 G hG).2.2.1 rfl hs) ((ih3 G hG).2.2.1 rfl hs)⟩
 | olet e g a r x y h6 h1 h2 ih1 ih2 =>
  intro G hG;exact ⟨by omega,by omega,by omega,by omega,fun _ hl hna hs=>ht2 .olet ((ih1 G hG).2.2.1 rfl (BA _ 1 r)) ((ih2 _ (FC hG _)).2.2.1 rfl (up1 hG (by omega) hs (by have:=hna.wt;omega) 6))⟩
 | oapp e g a r x y h6 h1 h2 ih1 ih2 =>
  intro G hG;exact ⟨by omega,by omega,by omega,by omega,fun _ hl hna hs=>ht2 .oapp (ht2 .olam (BA _ 1 r) ((ih2 _ (FC hG _)).2.2.1 rfl (up1 hG (by omega) hs (by have:=hna.wt;omega) 6))) ((ih1 G hG).2.2.1 rfl (BA _ 1 r))⟩
 | ofst e g a x y h6 h1 h2 ih1 ih2 =>
  intro G hG;exact ⟨by omega,by omega,by omega,by omega,fun _ hl hna hs=>ht1 .ofst (ht2 .opair ((ih1 G hG).2.2.1 rfl hs) ((ih2 G hG).2.2.1 rfl (ht0 .tint)))⟩
 | ofix e g a x h6 h1 ih =>
  intro G hG;exact ⟨by omega,by omega,by omega,by omega,fun _ hl hna hs=>ht2 .ofix hs ((ih _ (FC hG _)).2.2.1 rfl (up1 hG (by omega) hs (by have:=hna.wt;omega) 6))⟩
 | spl e g a x h6 h1 ih =>
  intro G hG;exact ⟨by omega,by omega,by omega,by omega,fun _ hl hna hs=>ht1 .spl ((ih G hG).2.1 rfl 3 (ht1 .liftT hs))⟩
 | oint e g a n ha =>
  intro G hG;exact ⟨by omega,by omega,by omega,by omega,fun _ hl hna hs=>ht0 .oint⟩
 | oprim e g a p q n h6 ha h1 h2 ih1 ih2 =>
  intro G hG;exact ⟨by omega,by omega,by omega,by omega,fun _ hl hna hs=>ht2 .oprim ((ih1 G hG).2.2.1 rfl hs) ((ih2 G hG).2.2.1 rfl hs)⟩
 | olam e g n d c b h1 ih =>
  intro G hG;refine ⟨by omega,by omega,by omega,by omega,fun _ hl hna hs=>?_⟩;obtain ⟨hd,hc⟩:=Agd (.inl rfl) hs;have hnw:=hna.wt;rw [Nt] at hnw;exact ht2 .olam hd ((ih _ (FC hG _)).2.2.1 rfl (up1 hG (by omega) hc (by omega) 6))
 | opair e g n d c p q h1 h2 ih1 ih2 =>
  intro G hG;refine ⟨by omega,by omega,by omega,by omega,fun _ hl hna hs=>?_⟩;obtain ⟨hd,hc⟩:=Agd (.inr rfl) hs;exact ht2 .opair ((ih1 G hG).2.2.1 rfl hd) ((ih2 G hG).2.2.1 rfl hc)
inductive CtxG:Ci->Prop
 | nil:CtxG []
 | ob (g:Ci) (t:Tm) (h:CtxG g) (h1:Gr 1 7 g (.mk 14 0 []) t):CtxG (g++[(0,t)])
 | me (g:Ci) (a:Tm) (h:CtxG g) (ha:AOk g.length a) (hl:g.length<=60) (h1:Gr 0 7 g .z a):CtxG (g++[(1,a)])
theorem Kd {k:Nat} {a:Tm} (hk:k<=1000) (h:a.sc k) (hd:a.dp<=20000):∃u e,Ev 58 [.fv a.enc] (.tuple [u.enc,.int .i64 e])/\(e=0/\NOk k u\/(e=5\/e=17)/\u=.z)/\∃f,A1 f a=some (u,e):=by
 obtain ⟨f,u,e,h1,h2⟩:=W9 (k:=k) (by omega) h (by have:=Apj a;omega);refine ⟨u,e,⟨f+2,fun n hn=>Po f a u e h1 n hn⟩,?_,f,h1⟩;rcases h2 with ⟨h3,h4,h5,h6⟩ | h2
 ·exact .inl ⟨h3,⟨h4,h5,h6⟩⟩
 ·exact .inr h2
structure TG (κ e:Nat) (g:Ci) (a t:Tm) (b:Bool):Prop where
 sc:t.sc g.length
 wt:t.wt<=Wg e
 dp:t.dp<=Dg e
 gr:b=true->Gr κ e g a t
theorem tg {κ e:Nat} {g:Ci} {a t:Tm} {b:Bool} (h:TOk g.length e t) (hg:b=true->Gr κ e g a t):TG κ e g a t b:=⟨h.sc,h.wt,h.dp,hg⟩
theorem AjI {κ e:Nat} {g:Ci} {a t:Tm} {b:Bool} (h:TG κ e g a t b) (he:e<=10):AOk g.length t:=⟨h.sc,by have:=h.wt;have:=NV he;omega,by have:=h.dp;unfold Dg at this;omega⟩
theorem AhT {κ κ' e:Nat} {g:Ci} {a a' t:Tm} {b:Bool} (h:TG κ e g a t b) (hg:Gr κ e g a t->Gr κ' e g a' t):TG κ' e g a' t b:=⟨h.sc,h.wt,h.dp,fun hb=>hg (h.gr hb)⟩
theorem Le {p q:Bool} (h:(p && q)=true):p=true:=by cases p<;>simp_all
theorem Jh {p q:Bool} (h:(p && q)=true):q=true:=by cases p<;>simp_all
def vT (i:Nat):Tm:=.mk 1 (i:Int) []
def KL (k:Nat) (ρ:Nat->Nat):Nat->Nat:=fun i=>if i<k then i else ρ (i - k)+k
mutual
def Tm.ren:Tm->(Nat->Nat)->Tm
 | .mk op n ks,ρ=>if op=1 then (if n<0\/ks.isEmpty=false then .mk op n ks else vT (ρ n.toNat)) else .mk op n (Tm.renL op 0 ks ρ)
def Tm.renL:Int->Nat->List Tm->(Nat->Nat)->List Tm
 | _,_,[],_=>[]
 | op,i,t::l,ρ=>t.ren (KL (Am op i) ρ)::Tm.renL op (i+1) l ρ
end
def CX (k:Nat) (σ:Nat->Tm):Nat->Tm:=fun i=>if i<k then vT i else (σ (i - k)).ren (fun j=>j+k)
mutual
def Tm.sub:Tm->(Nat->Tm)->Tm
 | .mk op n ks,σ=>if op=1 then (if n<0\/ks.isEmpty=false then .mk op n ks else σ n.toNat) else .mk op n (Tm.subL op 0 ks σ)
def Tm.subL:Int->Nat->List Tm->(Nat->Tm)->List Tm
 | _,_,[],_=>[]
 | op,i,t::l,σ=>t.sub (CX (Am op i) σ)::Tm.subL op (i+1) l σ
end
theorem AtZ (i:Nat):¬ ((i:Int)<0\/([]:List Tm).isEmpty=false):=by
 rintro (h | h)
 ·omega
 ·cases h
theorem Gm (i:Nat) (ρ:Nat->Nat):(vT i).ren ρ=vT (ρ i):=by
 rw [vT,Tm.ren,if_pos rfl,if_neg (AtZ i)];rfl
theorem Fi (i:Nat) (σ:Nat->Tm):(vT i).sub σ=σ i:=by
 rw [vT,Tm.sub,if_pos rfl,if_neg (AtZ i)];rfl
theorem He (op:Int) (ρ:Nat->Nat):∀(l:List Tm) (i:Nat),(Tm.renL op i l ρ).length=l.length
 | [],_=>rfl
 | _::l,i=>by simp only [Tm.renL,AzI,He op ρ l]
theorem JK (op:Int) (σ:Nat->Tm):∀(l:List Tm) (i:Nat),(Tm.subL op i l σ).length=l.length
 | [],_=>rfl
 | _::l,i=>by simp only [Tm.subL,AzI,JK op σ l]
theorem MF (op:Int) (ρ:Nat->Nat):∀(l:List Tm) (i j:Nat),(Tm.renL op i l ρ)[j]?=(l[j]?).map fun t=>t.ren (KL (Am op (i+j)) ρ)
 | [],_,_=>by simp [Tm.renL]
 | t::l,i,0=>by simp [Tm.renL]
 | t::l,i,j+1=>by
  simp only [Tm.renL,List.getElem?_cons_succ];rw [MF op ρ l (i+1) j,show i+1+j=i+(j+1) by omega]
theorem V3 (op:Int) (σ:Nat->Tm):∀(l:List Tm) (i j:Nat),(Tm.subL op i l σ)[j]?=(l[j]?).map fun t=>t.sub (CX (Am op (i+j)) σ)
 | [],_,_=>by simp [Tm.subL]
 | t::l,i,0=>by simp [Tm.subL]
 | t::l,i,j+1=>by
  simp only [Tm.subL,List.getElem?_cons_succ];rw [V3 op σ l (i+1) j,show i+1+j=i+(j+1) by omega]
theorem HF {k:Nat} {ρ:Nat->Nat} {i:Nat} (h:i<k):KL k ρ i=i:=if_pos h
theorem G4 {k:Nat} {ρ:Nat->Nat} {i:Nat} (h:¬ i<k):KL k ρ i=ρ (i - k)+k:=if_neg h
theorem Gg {k:Nat} {σ:Nat->Tm} {i:Nat} (h:i<k):CX k σ i=vT i:=if_pos h
theorem Fq {k:Nat} {σ:Nat->Tm} {i:Nat} (h:¬ i<k):CX k σ i=(σ (i - k)).ren fun j=>j+k:=if_neg h
theorem Ah5 (k:Nat) (ρ ρ':Nat->Nat):(fun i=>KL k ρ' (KL k ρ i))=KL k (fun i=>ρ' (ρ i)):=by
 funext i
 by_cases h:i<k
 ·rw [HF (ρ:=ρ) h,HF h,HF h]
 ·rw [G4 (ρ:=ρ) h,G4 h,G4 (by omega),Nat.add_sub_cancel]
mutual
theorem JL:∀(t:Tm) (ρ ρ':Nat->Nat),(t.ren ρ).ren ρ'=t.ren (fun i=>ρ' (ρ i))
 | .mk op n ks,ρ,ρ'=>by
  rw [Tm.ren,Tm.ren];by_cases h:op=1
  ·rw [if_pos h,if_pos h];by_cases hn:n<0\/ks.isEmpty=false
   ·rw [if_pos hn,if_pos hn,Tm.ren,if_pos h,if_pos hn]
   ·rw [if_neg hn,if_neg hn,Gm]
  ·rw [if_neg h,if_neg h,Tm.ren,if_neg h,renL_ren ks op 0 ρ ρ']
theorem renL_ren:∀(l:List Tm) (op:Int) (i:Nat) (ρ ρ':Nat->Nat),Tm.renL op i (Tm.renL op i l ρ) ρ'=Tm.renL op i l (fun i=>ρ' (ρ i))
 | [],_,_,_,_=>rfl
 | t::l,op,i,ρ,ρ'=>by simp only [Tm.renL,JL t,Ah5,renL_ren l]
end
theorem AlR (k:Nat) (ρ:Nat->Nat) (σ:Nat->Tm):(fun i=>CX k σ (KL k ρ i))=CX k (fun i=>σ (ρ i)):=by
 funext i
 by_cases h:i<k
 ·rw [HF h,Gg h,Gg h]
 ·rw [G4 h,Fq h,Fq (by omega),Nat.add_sub_cancel]
mutual
theorem GM:∀(t:Tm) (ρ:Nat->Nat) (σ:Nat->Tm),(t.ren ρ).sub σ=t.sub (fun i=>σ (ρ i))
 | .mk op n ks,ρ,σ=>by
  rw [Tm.ren,Tm.sub];by_cases h:op=1
  ·rw [if_pos h,if_pos h];by_cases hn:n<0\/ks.isEmpty=false
   ·rw [if_pos hn,if_pos hn,Tm.sub,if_pos h,if_pos hn]
   ·rw [if_neg hn,if_neg hn,Fi]
  ·rw [if_neg h,if_neg h,Tm.sub,if_neg h,subL_ren ks op 0 ρ σ]
theorem subL_ren:∀(l:List Tm) (op:Int) (i:Nat) (ρ:Nat->Nat) (σ:Nat->Tm),Tm.subL op i (Tm.renL op i l ρ) σ=Tm.subL op i l (fun i=>σ (ρ i))
 | [],_,_,_,_=>rfl
 | t::l,op,i,ρ,σ=>by simp only [Tm.renL,Tm.subL,GM t,AlR,subL_ren l]
end
theorem Zu (k:Nat) (σ:Nat->Tm) (ρ:Nat->Nat):(fun i=>(CX k σ i).ren (KL k ρ))=CX k (fun i=>(σ i).ren ρ):=by
 funext i
 by_cases h:i<k
 ·rw [Gg h,Gg h,Gm,HF h]
 ·rw [Fq h,Fq h,JL,JL];congr 1
  funext j
  rw [G4 (by omega),Nat.add_sub_cancel]
mutual
theorem F9:∀(t:Tm) (σ:Nat->Tm) (ρ:Nat->Nat),(t.sub σ).ren ρ=t.sub (fun i=>(σ i).ren ρ)
 | .mk op n ks,σ,ρ=>by
  rw [Tm.sub,Tm.sub];by_cases h:op=1
  ·rw [if_pos h,if_pos h];by_cases hn:n<0\/ks.isEmpty=false
   ·rw [if_pos hn,if_pos hn,Tm.ren,if_pos h,if_pos hn]
   ·rw [if_neg hn,if_neg hn]
  ·rw [if_neg h,if_neg h,Tm.ren,if_neg h,renL_sub ks op 0 σ ρ]
theorem renL_sub:∀(l:List Tm) (op:Int) (i:Nat) (σ:Nat->Tm) (ρ:Nat->Nat),Tm.renL op i (Tm.subL op i l σ) ρ=Tm.subL op i l (fun i=>(σ i).ren ρ)
 | [],_,_,_,_=>rfl
 | t::l,op,i,σ,ρ=>by simp only [Tm.renL,Tm.subL,F9 t,Zu,renL_sub l]
end
theorem AoZ (k:Nat) (σ τ:Nat->Tm):(fun i=>(CX k σ i).sub (CX k τ))=CX k (fun i=>(σ i).sub τ):=by
 funext i
 by_cases h:i<k
 ·rw [Gg h,Gg h,Fi,Gg h]
 ·rw [Fq h,Fq h,GM,F9];congr 1
  funext j
  rw [Fq (by omega),Nat.add_sub_cancel]
mutual
theorem EV:∀(t:Tm) (σ τ:Nat->Tm),(t.sub σ).sub τ=t.sub (fun i=>(σ i).sub τ)
 | .mk op n ks,σ,τ=>by
  rw [Tm.sub,Tm.sub];by_cases h:op=1
  ·rw [if_pos h,if_pos h];by_cases hn:n<0\/ks.isEmpty=false
   ·rw [if_pos hn,if_pos hn,Tm.sub,if_pos h,if_pos hn]
   ·rw [if_neg hn,if_neg hn]
  ·rw [if_neg h,if_neg h,Tm.sub,if_neg h,subL_sub ks op 0 σ τ]
theorem subL_sub:∀(l:List Tm) (op:Int) (i:Nat) (σ τ:Nat->Tm),Tm.subL op i (Tm.subL op i l σ) τ=Tm.subL op i l (fun i=>(σ i).sub τ)
 | [],_,_,_,_=>rfl
 | t::l,op,i,σ,τ=>by simp only [Tm.subL,EV t,AoZ,subL_sub l]
end
theorem Aul (k:Nat):CX k vT=vT:=by
 funext i
 by_cases h:i<k
 ·rw [Gg h]
 ·rw [Fq h,Gm,show i - k+k=i by omega]
theorem GE:∀(t:Tm) (ρ:Nat->Nat),t.ren ρ=t.sub (fun i=>vT (ρ i)):=by
 intro t ρ;have h:∀(k:Nat) (ρ:Nat->Nat),CX k (fun i=>vT (ρ i))=fun i=>vT (KL k ρ i):=by
  intro k ρ
  funext i
  by_cases h:i<k
  ·rw [Gg h,HF h]
  ·rw [Fq h,G4 h,Gm]
 exact go h t ρ
where
 go (
   h:∀(k:Nat) (ρ:Nat->Nat),CX k (fun i=>vT (ρ i))=fun i=>vT (KL k ρ i)):∀(t:Tm) (ρ:Nat->Nat),t.ren ρ=t.sub (fun i=>vT (ρ i))
  | .mk op n ks,ρ=>by
   rw [Tm.ren,Tm.sub];by_cases ho:op=1
   ·rw [if_pos ho,if_pos ho]
   ·rw [if_neg ho,if_neg ho,goL h ks op 0 ρ]
 goL (h:∀(k:Nat) (ρ:Nat->Nat),CX k (fun i=>vT (ρ i))=fun i=>vT (KL k ρ i)):∀(l:List Tm) (op:Int) (i:Nat) (ρ:Nat->Nat),Tm.renL op i l ρ=Tm.subL op i l (fun i=>vT (ρ i))
  | [],_,_,_=>rfl
  | t::l,op,i,ρ=>by simp only [Tm.renL,Tm.subL,go h t,goL h l,h]
mutual
theorem Ll:∀(t:Tm),t.sub vT=t
 | .mk op n ks=>by
  rw [Tm.sub];by_cases ho:op=1
  ·rw [if_pos ho];by_cases hn:n<0\/ks.isEmpty=false
   ·rw [if_pos hn]
   ·rw [if_neg hn,vT,ho];have hk:ks=[]:=by
     cases ks with
     | nil=>rfl
     | cons a l=>exact absurd (.inr rfl) hn
    rw [hk];congr 1
    have:¬ n<0:=fun h=>hn (.inl h)
    omega
  ·rw [if_neg ho,subL_id ks op 0]
theorem subL_id:∀(l:List Tm) (op:Int) (i:Nat),Tm.subL op i l vT=l
 | [],_,_=>rfl
 | t::l,op,i=>by
  simp only [Tm.subL];rw [Aul,Ll t,subL_id l op (i+1)]
end
mutual
theorem Lh:∀(t:Tm) (d c k:Nat),t.sc k->k+2 * t.wt+d<=9000000000000000000->t.shift d c=t.ren (fun i=>if i<c then i else i+d)
 | .mk op n ks,d,c,k,h,hk=>by
  rw [Tm.sc] at h;rw [Tm.wt] at hk;rw [Tm.shift,Tm.ren];by_cases ho:op=1
  ·subst ho;have h2:=h.2.1;rw [if_pos rfl] at h2;have hks:ks=[]:=List.eq_nil_of_length_eq_zero (Option.some.inj h.1.symm);subst hks;have hv:¬ (n<0\/([]:List Tm).isEmpty=false):=by
    rintro (h | h)
    ·omega
    ·cases h
   rw [if_pos rfl,if_neg hv,vT,Tm.shiftL];by_cases hc:(c:Int)<=n
   ·rw [if_pos ⟨rfl,hc⟩,Az (by omega) (by omega),if_neg (by omega)];congr 1;omega
   ·rw [if_neg (fun h=>hc h.2),if_pos (by omega)];congr 1;omega
  ·rw [if_neg ho,if_neg (fun h=>ho h.1),shiftL_ren ks op 0 d c k h.2.2 (by omega)]
theorem shiftL_ren:∀(l:List Tm) (op:Int) (i d c k:Nat),Tm.scL op i l k->k+2+2 * Tm.wtL l+d<=9000000000000000000->Tm.shiftL op i l d c=Tm.renL op i l (fun i=>if i<c then i else i+d)
 | [],_,_,_,_,_,_,_=>rfl
 | t::l,op,i,d,c,k,h,hk=>by
  rw [Tm.scL] at h;simp only [Tm.wtL] at hk;have hb:=Bm op i;simp only [Tm.shiftL,Tm.renL];have h1:=Lh t d (c+Am op i) (k+Am op i) h.1 (by omega);rw [show ((c+Am op i:Nat):Int)=(c:Int)+(Am op i:Int) by omega] at h1
  rw [h1,shiftL_ren l op (i+1) d c k h.2 (by omega)];congr 2
  funext j
  by_cases h1:j<Am op i
  ·rw [HF h1,if_pos (by omega)]
  ·rw [G4 h1];by_cases h2:j<c+Am op i
   ·rw [if_pos h2,if_pos (by omega)];omega
   ·rw [if_neg h2,if_neg (by omega)];omega
end
def Ai1 (j:Nat) (u:Tm):Nat->Tm:=fun i=>if i<j then vT i else if i=j then u.ren (fun x=>x+j) else vT (i - 1)
mutual
theorem PE:∀(t:Tm) (j k:Nat) (u:Tm),t.sc (k+1+j)->u.sc k->k+j+2 * t.wt+2 * u.wt<=4000000000000000000->t.subst j j u=t.sub (Ai1 j u)
 | .mk op n ks,j,k,u,h,hu,hk=>by
  rw [Tm.sc] at h;rw [Tm.wt] at hk;rw [Tm.subst,Tm.sub];by_cases ho:op=1
  ·subst ho;have h2:=h.2.1;rw [if_pos rfl] at h2;have hks:ks=[]:=List.eq_nil_of_length_eq_zero (Option.some.inj h.1.symm);subst hks;have hv:¬ (n<0\/([]:List Tm).isEmpty=false):=by
    rintro (h | h)
    ·omega
    ·cases h
   rw [if_pos rfl,if_pos rfl,if_neg hv,Ai1];by_cases h3:n=j
   ·rw [if_pos h3,if_neg (by omega),if_pos (by omega)]
    have:=Lh u j 0 k hu (by omega)
    rw [show ((0:Nat):Int)=0 from rfl] at this
    rw [this];congr 1
   ·rw [if_neg h3];by_cases h4:(j:Int)<n
    ·rw [if_pos h4,if_neg (by omega),if_neg (by omega),vT,Az (by omega) (by omega)];congr 1;omega
    ·rw [if_neg h4,if_pos (by omega),vT];congr 1;omega
  ·rw [if_neg ho,if_neg ho,substL_sub ks op 0 j k u h.2.2 hu (by omega)]
theorem substL_sub:∀(l:List Tm) (op:Int) (i j k:Nat) (u:Tm),Tm.scL op i l (k+1+j)->u.sc k->k+j+2+2 * Tm.wtL l+2 * u.wt<=4000000000000000000->Tm.substL op i l j j u=Tm.subL op i l (Ai1 j u)
 | [],_,_,_,_,_,_,_,_=>rfl
 | t::l,op,i,j,k,u,h,hu,hk=>by
  rw [Tm.scL] at h;simp only [Tm.wtL] at hk;have hb:=Bm op i;simp only [Tm.substL,Tm.subL];have h1:=PE t (j+Am op i) k u (by rw [<- Nat.add_assoc];exact h.1) hu (by omega);rw [show ((j+Am op i:Nat):Int)=(j:Int)+(Am op i:Int) by omega] at h1
  rw [h1,substL_sub l op (i+1) j k u h.2 hu (by omega)];congr 2
  funext x
  by_cases h1:x<Am op i
  ·rw [Gg h1,Ai1,if_pos (by omega)]
  ·rw [Fq h1];simp only [Ai1];by_cases h2:x<j+Am op i
   ·rw [if_pos h2,if_pos (show x - Am op i<j by omega),Gm]
    congr 1;omega
   ·rw [if_neg h2,if_neg (show ¬ x - Am op i<j by omega)]
    by_cases h3:x=j+Am op i
    ·rw [if_pos h3,if_pos (show x - Am op i=j by omega),JL]
     congr 1
     funext y
     omega
    ·rw [if_neg h3,if_neg (show ¬ x - Am op i=j by omega),Gm]
     congr 1;omega
end
def s1 (x:Tm):Nat->Tm
 | 0=>x
 | j+1=>vT j
def s2 (r k:Tm):Nat->Tm
 | 0=>r
 | 1=>k
 | j+2=>vT j
inductive Par:Tm->Tm->Prop
 | var (n:Int) (ks:List Tm):Par (.mk 1 n ks) (.mk 1 n ks)
 | node (op n:Int) (ks ks':List Tm) (h1:op≠1) (hl:ks'.length=ks.length) (hk:∀(i:Nat) a b,ks[i]?=some a->ks'[i]?=some b->Par a b):Par (.mk op n ks) (.mk op n ks')
 | beta (n m:Int) (a b b' x x':Tm) (hb:Par b b') (hx:Par x x'):Par (.mk 5 n [.mk 4 m [a,b],x]) (b'.sub (s1 x'))
 | fst (n m:Int) (a x x' y:Tm) (hx:Par x x'):Par (.mk 8 n [.mk 7 m [a,x,y]]) x'
 | snd (n m:Int) (a x y y':Tm) (hy:Par y y'):Par (.mk 9 n [.mk 7 m [a,x,y]]) y'
 | splq (c c':Tm) (hc:Par c c'):Par (.mk 30 0 [.mk 19 0 [c]]) c'
 | quos (c c':Tm) (hc:Par c c'):Par (.mk 19 0 [.mk 30 0 [c]]) c'
 | recz (n m:Int) (a z z' s:Tm) (l:List Tm) (hz:Par z z'):Par (.mk 13 n [a,z,s,.mk 11 m l]) z'
 | recs (n m:Int) (a a' z z' s s' k k':Tm) (ha:Par a a') (hz:Par z z') (hs:Par s s') (hk:Par k k'):Par (.mk 13 n [a,z,s,.mk 12 m [k]]) (s'.sub (s2 (.mk 13 0 [a',z',s',k']) k'))
theorem AiA:∀(m:Nat) (t:Tm),t.wt<m->Par t t:=by
 intro m
 induction m with
 | zero=>intro t h;omega
 | succ m ih =>
  intro t h;obtain ⟨op,n,ks⟩:=t;simp only [Tm.wt] at h;by_cases h1:op=1
  ·subst h1;exact .var n ks
  ·exact .node op n ks ks h1 rfl (fun i a b ha hb=>by
    rw [ha] at hb;cases hb;exact ih a (by have:=Jd ha;omega))
theorem A6 (t:Tm):Par t t:=AiA (t.wt+1) t (by omega)
theorem DH (ρ:Nat->Nat):KL 0 ρ=ρ:=by
 funext i;simp [KL]
theorem CS (σ:Nat->Tm):CX 0 σ=σ:=by
 funext i
 simp only [CX,Nat.not_lt_zero,if_false,Nat.sub_zero];rw [GE];exact Ll _
theorem AqK (x:Tm) (ρ:Nat->Nat):(fun i=>(s1 x i).ren ρ)=fun i=>s1 (x.ren ρ) (KL 1 ρ i):=by
 funext i
 cases i with
 | zero=>simp [s1,KL]
 | succ i=>simp [s1,KL,Gm]
theorem Atf (r k:Tm) (ρ:Nat->Nat):(fun i=>(s2 r k i).ren ρ)=fun i=>s2 (r.ren ρ) (k.ren ρ) (KL 2 ρ i):=by
 funext i
 match i with
 | 0=>simp [s2,KL]
 | 1=>simp [s2,KL]
 | i+2 =>
  show (vT i).ren ρ=s2 _ _ (KL 2 ρ (i+2))
  rw [G4 (by omega),Gm,Nat.add_sub_cancel];rfl
theorem Gp (t:Tm) (k:Nat) (τ:Nat->Tm) (h:∀j,τ (j+k)=vT j):(t.ren fun j=>j+k).sub τ=t:=by
 rw [GM]
 have:(fun i=>τ (i+k))=vT:=funext h
 rw [this,Ll]
theorem ArU (x:Tm) (σ:Nat->Tm):(fun i=>(s1 x i).sub σ)=fun i=>(CX 1 σ i).sub (s1 (x.sub σ)):=by
 funext i
 cases i with
 | zero=>simp [s1,CX,Fi]
 | succ i =>
  simp only [s1,CX,Fi];rw [if_neg (by omega),Nat.add_sub_cancel,Gp _ _ _ (fun j=>rfl)]
theorem AsU (r k:Tm) (σ:Nat->Tm):(fun i=>(s2 r k i).sub σ)=fun i=>(CX 2 σ i).sub (s2 (r.sub σ) (k.sub σ)):=by
 funext i
 match i with
 | 0=>simp [s2,CX,Fi]
 | 1=>simp [s2,CX,Fi]
 | i+2 =>
  simp only [s2,CX,Fi];rw [if_neg (by omega),Nat.add_sub_cancel,Gp _ _ _ (fun j=>rfl)]
theorem AlK {t t':Tm} (h:Par t t'):∀ρ,Par (t.ren ρ) (t'.ren ρ):=by
 induction h with
 | var n ks=>intro ρ;exact A6 _
 | node op n ks ks' h1 hl hk ih =>
  intro ρ;rw [Tm.ren,if_neg h1,Tm.ren,if_neg h1];refine .node _ _ _ _ h1 (by rw [He,He,hl]) (fun i a b ha hb=>?_);rw [MF,Nat.zero_add] at ha hb;cases hx:ks[i]? with
  | none=>rw [hx] at ha;cases ha
  | some x =>
   cases hy:ks'[i]? with
   | none=>rw [hy] at hb;cases hb
   | some y =>
    rw [hx] at ha;rw [hy] at hb;simp only [AzH,AzE] at ha hb;subst ha hb;exact ih i x y hx hy _
 | beta n m a b b' x x' hb hx ihb ihx =>
  intro ρ
  have:=Par.beta n m (a.ren (KL 0 ρ)) _ _ _ _ (ihb (KL 1 ρ)) (ihx ρ)
  rw [F9,AqK,<- GM];simp only [Tm.ren,Tm.renL];rw [if_neg (by omega),if_neg (by omega)];simpa [Am,DH] using this
 | fst n m a x x' y hx ih =>
  intro ρ
  have:=Par.fst n m (a.ren ρ) _ _ (y.ren ρ) (ih ρ)
  simp only [Tm.ren,Tm.renL];rw [if_neg (by omega),if_neg (by omega)];simpa [Am,DH] using this
 | snd n m a x y y' hy ih =>
  intro ρ
  have:=Par.snd n m (a.ren ρ) (x.ren ρ) _ _ (ih ρ)
  simp only [Tm.ren,Tm.renL];rw [if_neg (by omega),if_neg (by omega)];simpa [Am,DH] using this
 | splq c c' hc ih =>
  intro ρ
  have:=Par.splq _ _ (ih ρ)
  simp only [Tm.ren,Tm.renL];rw [if_neg (by omega),if_neg (by omega)];simpa [Am,DH] using this
 | quos c c' hc ih =>
  intro ρ
  have:=Par.quos _ _ (ih ρ)
  simp only [Tm.ren,Tm.renL];rw [if_neg (by omega),if_neg (by omega)];simpa [Am,DH] using this
 | recz n m a z z' s l hz ih =>
  intro ρ
  have:=Par.recz n m (a.ren (KL 1 ρ)) _ _ (s.ren (KL 2 ρ)) (Tm.renL 11 0 l ρ) (ih ρ)
  simp only [Tm.ren,Tm.renL];rw [if_neg (by omega),if_neg (by omega)];simpa [Am,DH] using this
 | recs n m a a' z z' s s' k k' ha hz hs hk iha ihz ihs ihk =>
  intro ρ
  have:=Par.recs n m _ _ _ _ _ _ _ _ (iha (KL 1 ρ)) (ihz ρ) (ihs (KL 2 ρ)) (ihk ρ)
  rw [F9,Atf,<- GM];simp only [Tm.ren,Tm.renL];rw [if_neg (by omega),if_neg (by omega),if_neg (by omega)];simpa [Am,DH] using this
theorem L7 {σ σ':Nat->Tm} (h:∀i,Par (σ i) (σ' i)) (k:Nat):∀i,Par (CX k σ i) (CX k σ' i):=by
 intro i;simp only [CX];by_cases hi:i<k
 ·rw [if_pos hi,if_pos hi];exact A6 _
 ·rw [if_neg hi,if_neg hi];exact AlK (h _) _
theorem Mh {t t':Tm} (h:Par t t'):∀σ σ',(∀i,Par (σ i) (σ' i))->Par (t.sub σ) (t'.sub σ'):=by
 induction h with
 | var n ks =>
  intro σ σ' hσ;rw [Tm.sub,if_pos rfl,Tm.sub,if_pos rfl];by_cases hn:n<0\/ks.isEmpty=false
  ·rw [if_pos hn,if_pos hn];exact A6 _
  ·rw [if_neg hn,if_neg hn];exact hσ _
 | node op n ks ks' h1 hl hk ih =>
  intro σ σ' hσ;rw [Tm.sub,if_neg h1,Tm.sub,if_neg h1];refine .node _ _ _ _ h1 (by rw [JK,JK,hl]) (fun i a b ha hb=>?_);rw [V3,Nat.zero_add] at ha hb;cases hx:ks[i]? with
  | none=>rw [hx] at ha;cases ha
  | some x =>
   cases hy:ks'[i]? with
   | none=>rw [hy] at hb;cases hb
   | some y =>
    rw [hx] at ha;rw [hy] at hb;simp only [AzH,AzE] at ha hb;subst ha hb;exact ih i x y hx hy _ _ (L7 hσ _)
 | beta n m a b b' x x' hb hx ihb ihx =>
  intro σ σ' hσ
  have:=Par.beta n m (a.sub σ) _ _ _ _ (ihb _ _ (L7 hσ 1)) (ihx _ _ hσ)
  rw [EV,ArU,<- EV];simp only [Tm.sub,Tm.subL];rw [if_neg (by omega),if_neg (by omega)];simpa [Am,CS] using this
 | fst n m a x x' y hx ih =>
  intro σ σ' hσ
  have:=Par.fst n m (a.sub σ) _ _ (y.sub σ) (ih _ _ hσ)
  simp only [Tm.sub,Tm.subL];rw [if_neg (by omega),if_neg (by omega)];simpa [Am,CS] using this
 | snd n m a x y y' hy ih =>
  intro σ σ' hσ
  have:=Par.snd n m (a.sub σ) (x.sub σ) _ _ (ih _ _ hσ)
  simp only [Tm.sub,Tm.subL];rw [if_neg (by omega),if_neg (by omega)];simpa [Am,CS] using this
 | splq c c' hc ih =>
  intro σ σ' hσ
  have:=Par.splq _ _ (ih _ _ hσ)
  simp only [Tm.sub,Tm.subL];rw [if_neg (by omega),if_neg (by omega)];simpa [Am,CS] using this
 | quos c c' hc ih =>
  intro σ σ' hσ
  have:=Par.quos _ _ (ih _ _ hσ)
  simp only [Tm.sub,Tm.subL];rw [if_neg (by omega),if_neg (by omega)];simpa [Am,CS] using this
 | recz n m a z z' s l hz ih =>
  intro σ σ' hσ
  have:=Par.recz n m (a.sub (CX 1 σ)) _ _ (s.sub (CX 2 σ)) (Tm.subL 11 0 l σ) (ih _ _ hσ)
  simp only [Tm.sub,Tm.subL];rw [if_neg (by omega),if_neg (by omega)];simpa [Am,CS] using this
 | recs n m a a' z z' s s' k k' ha hz hs hk iha ihz ihs ihk =>
  intro σ σ' hσ
  have:=Par.recs n m _ _ _ _ _ _ _ _ (iha _ _ (L7 hσ 1)) (ihz _ _ hσ) (ihs _ _ (L7 hσ 2)) (ihk _ _ hσ)
  rw [EV,AsU,<- EV];simp only [Tm.sub,Tm.subL];rw [if_neg (by omega),if_neg (by omega),if_neg (by omega)];simpa [Am,CS] using this
theorem AcQ {Q:Tm->Tm->Prop}:∀(ks:List Tm),(∀a∈ks,∃d,Q a d)->∃ds:List Tm,ds.length=ks.length/\∀(i:Nat) a d,ks[i]?=some a->ds[i]?=some d->Q a d
 | [],_=>⟨[],rfl,fun i a d h=>by simp at h⟩
 | a::l,h=>by
  obtain ⟨d,hd⟩:=h a List.mem_cons_self;obtain ⟨ds,h1,h2⟩:=AcQ l (fun a ha=>h a (List.mem_cons_of_mem _ ha));refine ⟨d::ds,by simp [h1],fun i x y hx hy=>?_⟩;cases i with
  | zero=>simp at hx hy;subst hx hy;exact hd
  | succ i=>simp at hx hy;exact h2 i x y hx hy
def Aqk (op n:Int) (ks:List Tm):Prop:=(op=5/\∃m a b x,ks=[.mk 4 m [a,b],x])\/(op=8/\∃m a x y,ks=[.mk 7 m [a,x,y]])\/(op=9/\∃m a x y,ks=[.mk 7 m [a,x,y]])\/(op=30/\n=0/\∃c,ks=[.mk 19 0 [c]])\/(op=19/\n=0/\∃c,ks=[.mk 30 0 [c]]) \/
 (op=13/\∃a z s m l,ks=[a,z,s,.mk 11 m l])\/(op=13/\∃a z s m k,ks=[a,z,s,.mk 12 m [k]])
theorem Apt {n op:Int} {x y:Tm} {t:Tm} (h:Par (.mk op n [x,y]) t) (ho:op≠1/\op≠5):∃x' y',t=.mk op n [x',y']/\Par x x'/\Par y y':=by
 cases h with
 | var=>exact absurd rfl ho.1
 | node _ _ _ ks' h1 hl hk =>
  obtain ⟨x',y',rfl⟩:=AgD hl;exact ⟨x',y',rfl,hk 0 x x' rfl rfl,hk 1 y y' rfl rfl⟩
 | beta=>exact absurd rfl ho.2
theorem ApL {n op:Int} {x y z:Tm} {t:Tm} (h:Par (.mk op n [x,y,z]) t) (ho:op≠1):∃x' y' z',t=.mk op n [x',y',z']/\Par x x'/\Par y y'/\Par z z':=by
 cases h with
 | var=>exact absurd rfl ho
 | node _ _ _ ks' h1 hl hk =>
  obtain ⟨x',y',z',rfl⟩:=AtH hl;exact ⟨x',y',z',rfl,hk 0 x x' rfl rfl,hk 1 y y' rfl rfl,hk 2 z z' rfl rfl⟩
theorem dev:∀(m:Nat) (t:Tm),t.wt<m->∃d,∀t',Par t t'->Par t' d:=by
 intro m
 induction m with
 | zero=>intro t h;omega
 | succ m ih =>
  intro t hw;obtain ⟨op,n,ks⟩:=t;by_cases h1:op=1
  ·subst h1;refine ⟨.mk 1 n ks,fun t' h=>?_⟩;cases h with
   | var=>exact .var n ks
   | node _ _ _ _ h1=>exact absurd rfl h1
  by_cases hr:Aqk op n ks
  ·rcases hr with ⟨rfl,m1,a,b,x,rfl⟩ | ⟨rfl,m1,a,x,y,rfl⟩ | ⟨rfl,m1,a,x,y,rfl⟩ | ⟨rfl,rfl,c,rfl⟩ | ⟨rfl,rfl,c,rfl⟩ | ⟨rfl,a,z,s,m1,l,rfl⟩ | ⟨rfl,a,z,s,m1,k,rfl⟩
   ·simp only [Tm.wt,Tm.wtL] at hw;obtain ⟨db,hb⟩:=ih b (by omega);obtain ⟨dx,hx⟩:=ih x (by omega);refine ⟨db.sub (s1 dx),fun t' h=>?_⟩;cases h with
    | node _ _ _ ks' _ hl hk =>
     obtain ⟨l',x',rfl⟩:=AgD hl;obtain ⟨a',b',rfl,_,q2⟩:=Apt (hk 0 _ l' rfl rfl) (by decide);exact .beta n m1 a' b' db x' dx (hb b' q2) (hx x' (hk 1 x x' rfl rfl))
    | beta _ _ _ _ b' _ x' p1 p2 =>
     refine Mh (hb b' p1) _ _ (fun i=>?_);cases i with
     | zero=>exact hx x' p2
     | succ i=>exact A6 _
   ·simp only [Tm.wt,Tm.wtL] at hw;obtain ⟨dx,hx⟩:=ih x (by omega);refine ⟨dx,fun t' h=>?_⟩;cases h with
    | node _ _ _ ks' _ hl hk =>
     obtain ⟨l',rfl⟩:=ED hl;obtain ⟨a',x',y',rfl,_,q2,_⟩:=ApL (hk 0 _ l' rfl rfl) (by decide);exact .fst n m1 a' x' dx y' (hx x' q2)
    | fst _ _ _ _ _ _ p=>exact hx _ p
   ·simp only [Tm.wt,Tm.wtL] at hw;obtain ⟨dy,hy⟩:=ih y (by omega);refine ⟨dy,fun t' h=>?_⟩;cases h with
    | node _ _ _ ks' _ hl hk =>
     obtain ⟨l',rfl⟩:=ED hl;obtain ⟨a',x',y',rfl,_,_,q3⟩:=ApL (hk 0 _ l' rfl rfl) (by decide);exact .snd n m1 a' x' y' dy (hy y' q3)
    | snd _ _ _ _ _ _ p=>exact hy _ p
   ·simp only [Tm.wt,Tm.wtL] at hw;obtain ⟨dc,hc⟩:=ih c (by omega);refine ⟨dc,fun t' h=>?_⟩;cases h with
    | node _ _ _ ks' _ hl hk =>
     obtain ⟨l',rfl⟩:=ED hl;have hq:=hk 0 _ l' rfl rfl;cases hq with
     | node _ _ _ ks2 _ hl2 hk2 =>
      obtain ⟨c',rfl⟩:=ED hl2;exact .splq c' dc (hc c' (hk2 0 c c' rfl rfl))
     | quos e _ he=>exact hc _ (.node 30 0 [e] [l'] (by decide) rfl (fun i a b ha hb=>by
       cases i with
       | zero=>simp at ha hb;subst ha hb;exact he
       | succ i=>simp at ha))
    | splq _ _ p=>exact hc _ p
   ·simp only [Tm.wt,Tm.wtL] at hw;obtain ⟨dc,hc⟩:=ih c (by omega);refine ⟨dc,fun t' h=>?_⟩;cases h with
    | node _ _ _ ks' _ hl hk =>
     obtain ⟨l',rfl⟩:=ED hl;have hq:=hk 0 _ l' rfl rfl;cases hq with
     | node _ _ _ ks2 _ hl2 hk2 =>
      obtain ⟨c',rfl⟩:=ED hl2;exact .quos c' dc (hc c' (hk2 0 c c' rfl rfl))
     | splq e _ he=>exact hc _ (.node 19 0 [e] [l'] (by decide) rfl (fun i a b ha hb=>by
       cases i with
       | zero=>simp at ha hb;subst ha hb;exact he
       | succ i=>simp at ha))
    | quos _ _ p=>exact hc _ p
   ·simp only [Tm.wt,Tm.wtL] at hw;obtain ⟨dz,hz⟩:=ih z (by omega);refine ⟨dz,fun t' h=>?_⟩;cases h with
    | node _ _ _ ks' _ hl hk =>
     obtain ⟨a',z',s',k',rfl⟩:=Ye hl;have hq:=hk 3 _ k' rfl rfl;cases hq with
     | node _ _ _ l2 _ hl2 hk2=>exact .recz n m1 a' z' dz s' l2 (hz z' (hk 1 z z' rfl rfl))
    | recz _ _ _ _ _ _ _ p=>exact hz _ p
   ·simp only [Tm.wt,Tm.wtL] at hw;obtain ⟨da,ha⟩:=ih a (by omega);obtain ⟨dz,hz⟩:=ih z (by omega);obtain ⟨ds,hs⟩:=ih s (by omega);obtain ⟨dk,hk⟩:=ih k (by omega);refine ⟨ds.sub (s2 (.mk 13 0 [da,dz,ds,dk]) dk),fun t' h=>?_⟩;cases h with
    | node _ _ _ ks' _ hl hkk =>
     obtain ⟨a',z',s',k',rfl⟩:=Ye hl;have hq:=hkk 3 _ k' rfl rfl;cases hq with
     | node _ _ _ l2 _ hl2 hk2 =>
      obtain ⟨k2,rfl⟩:=ED hl2;exact .recs n m1 a' da z' dz s' ds k2 dk (ha a' (hkk 0 a a' rfl rfl)) (hz z' (hkk 1 z z' rfl rfl)) (hs s' (hkk 2 s s' rfl rfl)) (hk k2 (hk2 0 k k2 rfl rfl))
    | recs _ _ _ a' _ z' _ s' _ k' pa pz ps pk =>
     refine Mh (hs s' ps) _ _ (fun i=>?_)
     match i with
     | 0 =>
      refine .node 13 0 _ _ (by decide) rfl (fun i a1 b1 e1 e2=>?_)
      match i with
      | 0=>simp at e1 e2;subst e1 e2;exact ha a' pa
      | 1=>simp at e1 e2;subst e1 e2;exact hz z' pz
      | 2=>simp at e1 e2;subst e1 e2;exact hs s' ps
      | 3=>simp at e1 e2;subst e1 e2;exact hk k' pk
      | i+4=>simp at e1
     | 1=>exact hk k' pk
     | i+2=>exact A6 _
  ·simp only [Tm.wt] at hw;obtain ⟨ds,hd1,hd2⟩:=AcQ (Q:=fun a d=>∀t',Par a t'->Par t' d) ks (fun a ha=>ih a (by have:=CL ha;omega));refine ⟨.mk op n ds,fun t' h=>?_⟩;cases h with
   | var=>exact absurd rfl h1
   | node _ _ _ ks' _ hl hk =>
    refine .node op n ks' ds h1 (by rw [hd1,hl]) (fun i a b ha hb=>?_);have hi:i<ks.length:=by rw [<- hl];exact (List.getElem?_eq_some_iff.1 ha).1
    have hx:=List.getElem?_eq_getElem hi;exact hd2 i _ b hx hb a (hk i _ a hx ha)
   | beta _ m1 a b b' x x'=>exact absurd (.inl ⟨rfl,m1,a,b,x,rfl⟩) hr
   | fst _ m1 a x x' y=>exact absurd (.inr (.inl ⟨rfl,m1,a,x,y,rfl⟩)) hr
   | snd _ m1 a x y y'=>exact absurd (.inr (.inr (.inl ⟨rfl,m1,a,x,y,rfl⟩))) hr
   | splq c c'=>exact absurd (.inr (.inr (.inr (.inl ⟨rfl,rfl,c,rfl⟩)))) hr
   | quos c c'=>exact absurd (.inr (.inr (.inr (.inr (.inl ⟨rfl,rfl,c,rfl⟩))))) hr
   | recz _ m1 a z z' s l=>exact absurd (.inr (.inr (.inr (.inr (.inr (.inl ⟨rfl,a,z,s,m1,l,rfl⟩)))))) hr
   | recs _ m1 a a' z z' s s' k k'=>exact absurd (.inr (.inr (.inr (.inr (.inr (.inr ⟨rfl,a,z,s,m1,k,rfl⟩)))))) hr
inductive Pars:Tm->Tm->Prop
 | refl (t:Tm):Pars t t
 | step {a b c:Tm} (h:Par a b) (hs:Pars b c):Pars a c
theorem C5 {a b:Tm} (h:Par a b):Pars a b:=.step h (.refl _)
theorem Bz {a b c:Tm} (h:Pars a b) (h2:Pars b c):Pars a c:=by
 induction h with
 | refl=>exact h2
 | step h _ ih=>exact .step h (ih h2)
theorem AvK {a c:Tm} (h:Pars a c):∀{b:Tm},Par a b->∃d,Pars b d/\Par c d:=by
 induction h with
 | refl t=>intro b hb;exact ⟨b,.refl _,hb⟩
 | @step a b' c h _ ih =>
  intro b hb;obtain ⟨d,hd⟩:=dev (a.wt+1) a (by omega);obtain ⟨e,h1,h2⟩:=ih (hd _ h);exact ⟨e,.step (hd _ hb) h1,h2⟩
theorem TW {a b:Tm} (h:Pars a b):∀{c:Tm},Pars a c->∃d,Pars b d/\Pars c d:=by
 induction h with
 | refl t=>intro c hc;exact ⟨c,hc,.refl _⟩
 | step h _ ih =>
  intro c hc;obtain ⟨d,h1,h2⟩:=AvK hc h;obtain ⟨e,h3,h4⟩:=ih h1;exact ⟨e,h3,.step h2 h4⟩
theorem Apf {t t':Tm} (h:Par t t'):t.stl->t'=t:=by
 induction h with
 | var=>intro _;rfl
 | node op n ks ks' h1 hl hk ih =>
  intro hs;rw [Tm.stl] at hs;congr 1;apply List.ext_getElem?;intro i;by_cases hi:i<ks.length
  ·have hx:=List.getElem?_eq_getElem hi;have hy:=List.getElem?_eq_getElem (show i<ks'.length by omega)
   rw [hx,hy,ih i _ _ hx hy (Kp hs.2 (List.mem_of_getElem? hx))]
  ·rw [List.getElem?_eq_none (by omega),List.getElem?_eq_none (by omega)]
 | beta n m a b b' x x'=>intro hs;rw [Tm.stl] at hs;exact absurd rfl (hs.1.2.1 rfl _ rfl)
 | fst n m a x x' y=>intro hs;rw [Tm.stl] at hs;exact absurd rfl (hs.1.2.2 (.inl rfl) _ rfl)
 | snd n m a x y y'=>intro hs;rw [Tm.stl] at hs;exact absurd rfl (hs.1.2.2 (.inr rfl) _ rfl)
 | splq c c'=>intro hs;rw [Tm.stl] at hs;exact absurd rfl (hs.1.1.1 rfl _ rfl)
 | quos c c'=>intro hs;rw [Tm.stl] at hs;exact absurd rfl (hs.1.1.2.1 rfl _ rfl)
 | recz n m a z z' s l=>intro hs;rw [Tm.stl] at hs;exact absurd rfl (hs.1.1.2.2 rfl _ rfl).1
 | recs n m a a' z z' s s' k k'=>intro hs;rw [Tm.stl] at hs;exact absurd rfl (hs.1.1.2.2 rfl _ rfl).2
theorem Ct {t t':Tm} (h:Pars t t'):t.stl->t'=t:=by
 induction h with
 | refl=>intro _;rfl
 | step h _ ih =>
  intro hs
  have:=Apf h hs
  subst this;exact ih hs
theorem Aju {t u n m d:Tm} (h1:Pars t n) (h2:Pars u m) (h3:Pars t d) (h4:Pars u d) (hn:n.stl) (hm:m.stl):n=m:=by
 obtain ⟨e,a1,a2⟩:=TW h1 h3;obtain ⟨e',b1,b2⟩:=TW h2 h4
 have:=Ct a1 hn
 subst this
 have:=Ct b1 hm
 subst this;obtain ⟨x,c1,c2⟩:=TW a2 b2;rw [<- Ct c1 hn,Ct c2 hm]
theorem EZ {op n:Int} (h1:op≠1):∀{ks ks':List Tm},ks'.length=ks.length->(∀(i:Nat) a b,ks[i]?=some a->ks'[i]?=some b->Pars a b)->Pars (.mk op n ks) (.mk op n ks'):=by
 have key:∀(
        pre ks ks':List Tm),ks'.length=ks.length->(∀(i:Nat) a b,ks[i]?=some a->ks'[i]?=some b->Pars a b)->Pars (.mk op n (pre++ks)) (.mk op n (pre++ks')):=by
  intro pre ks
  induction ks generalizing pre with
  | nil =>
   intro ks' hl _;rw [List.eq_nil_of_length_eq_zero hl];exact .refl _
  | cons a l ih =>
   intro ks' hl hk;cases ks' with
   | nil=>simp at hl
   | cons b l' =>
    have hab:=hk 0 a b rfl rfl;have hrest:=ih (pre++[b]) l' (by simpa using hl) (fun i x y hx hy=>hk (i+1) x y (by simpa using hx) (by simpa using hy));rw [List.append_assoc,List.append_assoc] at hrest;refine Bz ?_ hrest;have one:∀{x y:Tm},Pars x y->Pars (.mk op n (pre++x::l)) (.mk op n (pre++y::l)):=by
     intro x y h
     induction h with
     | refl=>exact .refl _
     | step h _ ih2 =>
      refine .step (.node op n _ _ h1 (by simp) (fun i p q hp hq=>?_)) ih2;by_cases hi:i<pre.length
      ·rw [List.getElem?_append_left hi] at hp hq;rw [hp] at hq;cases hq;exact A6 _
      ·rw [List.getElem?_append_right (by omega)] at hp hq;cases hd:i - pre.length with
       | zero =>
        rw [hd] at hp hq;simp at hp hq;subst hp hq;exact h
       | succ j =>
        rw [hd] at hp hq;simp at hp hq;rw [hp] at hq;cases hq;exact A6 _
    exact one hab
 intro ks ks' hl hk;exact key [] ks ks' hl hk
theorem KG {t t':Tm} (h:Pars t t') (σ:Nat->Tm):Pars (t.sub σ) (t'.sub σ):=by
 induction h with
 | refl=>exact .refl _
 | step h _ ih=>exact .step (Mh h σ σ (fun i=>A6 _)) ih
theorem Aox (t:Tm) (σ:Nat->Tm) (j:Nat) {x y:Tm} (h:Pars x y):Pars (t.sub fun i=>if i=j then x else σ i) (t.sub fun i=>if i=j then y else σ i):=by
 induction h with
 | refl=>exact .refl _
 | step h _ ih =>
  refine .step (Mh (A6 t) _ _ (fun i=>?_)) ih;by_cases hi:i=j
  ·simp only [hi,if_true];exact h
  ·simp only [hi,if_false];exact A6 _
mutual
def Tm.wa:Tm->Prop
 | .mk op n ks=>ar op=some ks.length/\((op=1->0<=n)/\(op=19\/op=30->n=0))/\Tm.waL ks
def Tm.waL:List Tm->Prop
 | []=>True
 | t::l=>t.wa/\Tm.waL l
end
mutual
theorem ApN:∀(t:Tm) (k:Nat),t.sc k->t.wa
 | .mk op n ks,k,h=>by
  rw [Tm.sc] at h;rw [Tm.wa];refine ⟨h.1,⟨fun h1=>?_,fun h9=>?_⟩,scL_wa ks op 0 k h.2.2⟩
  ·have:=h.2.1
   rw [if_pos h1] at this;exact this.1
  ·have:=h.2.1
   rw [if_neg (by omega)] at this;rcases h9 with rfl | rfl<;>simpa [BK] using this
theorem scL_wa:∀(l:List Tm) (op:Int) (i k:Nat),Tm.scL op i l k->Tm.waL l
 | [],_,_,_,_=>by rw [Tm.waL];trivial
 | t::l,op,i,k,h=>by
  rw [Tm.scL] at h;rw [Tm.waL];exact ⟨ApN t _ h.1,scL_wa l op (i+1) k h.2⟩
end
inductive Un:Nat->RV->Tm->Prop
 | var (u:Nat) (n:Int) (h:n<u):Un u (.var n) (.mk 1 ((u:Int) - 1 - n) [])
 | node (u:Nat) (op n:Int) (k:List RV) (ts:List Tm) (T:Nat->Nat->Tm) (h1:op≠1) (h9:op=19\/op=30->n=0) (har:ar op=some ts.length) (hl:k.length=ts.length)
   (hk:∀(i:Nat) v t,Am op i=0->k[i]?=some v->ts[i]?=some t->Un u v t)
   (hc:∀(i:Nat) (v:RV) t,0<Am op i->k[i]?=some v->ts[i]?=some t->t=v.b.sub (CX (Am op i) (T i))/\v.b.wa)
   (hf:∀(i:Nat) (v:RV) (j:Nat),0<Am op i->k[i]?=some v->v.env.length<=j->T i j=vT (u+(j - v.env.length)))
   (he:∀(i:Nat) (v:RV) (j:Nat) x,0<Am op i->k[i]?=some v->v.env.reverse[j]?=some x->Un u x (T i j)):Un u (.node op n k) (.mk op n ts)
def V1 (u:Nat) (env:List RV) (τ:Nat->Tm):Prop:=(∀(j:Nat) x,env.reverse[j]?=some x->Un u x (τ j))/\∀j,env.length<=j->τ j=vT (u+(j - env.length))
theorem Ho {u:Nat} {v:RV} {t:Tm} (h:Un u v t) (h1:v.op≠1):∃(ts:List Tm) (T:Nat->Nat->Tm),(v.op=19\/v.op=30->v.n=0)/\v=.node v.op v.n v.k/\t=.mk v.op v.n ts/\ar v.op=some ts.length/\v.k.length=ts.length/\(∀(i:Nat) x y,Am v.op i=0->v.k[i]?=some x->ts[i]?=some y->Un u x y) /\
  (∀(i:Nat) (x:RV) y,0<Am v.op i->v.k[i]?=some x->ts[i]?=some y->y=x.b.sub (CX (Am v.op i) (T i))/\x.b.wa/\V1 u x.env (T i)):=by
 cases h with
 | var=>exact absurd rfl h1
 | node op n k ts T h1 h9 har hl hk hc hf he =>
  refine ⟨ts,T,h9,rfl,rfl,har,hl,hk,fun i x y a b c=>?_⟩;obtain ⟨q1,q2⟩:=hc i x y a b c;exact ⟨q1,q2,fun j z hz=>he i x j z a b hz,fun j hj=>hf i x j a b hj⟩
theorem Avg {u:Nat} {v:RV} {t:Tm} (h:Un u v t):∀d:Nat,Un (u+d) v (t.ren fun j=>j+d):=by
 induction h with
 | var n h =>
  intro d;have e:(Tm.mk 1 ((u:Int) - 1 - n) [])=vT ((u:Int) - 1 - n).toNat:=by rw [vT];congr 1;omega
  rw [e,Gm]
  have:=Un.var (u+d) n (by omega)
  have e2:vT (((u:Int) - 1 - n).toNat+d)=.mk 1 (((u+d:Nat):Int) - 1 - n) []:=by rw [vT];congr 1;omega
  rw [e2];exact this
 | node op n k ts T h1 h9 har hl hk hc hf he ihk ihe =>
  intro d;rw [Tm.ren,if_neg h1];refine .node (u+d) op n k _ (fun i j=>(T i j).ren fun x=>x+d) h1 h9 (by rw [He];exact har) (by rw [He];exact hl) ?_ ?_ ?_ ?_
  ·intro i v t hb hv ht;rw [MF,Nat.zero_add] at ht;cases hx:ts[i]? with
   | none=>rw [hx] at ht;cases ht
   | some y =>
    rw [hx,hb,DH] at ht;simp only [AzH,AzE] at ht;subst ht;exact ihk i v y hb hv hx d
  ·intro i v t hb hv ht;rw [MF,Nat.zero_add] at ht;cases hx:ts[i]? with
   | none=>rw [hx] at ht;cases ht
   | some y =>
    rw [hx] at ht;simp only [AzH,AzE] at ht;subst ht;obtain ⟨q1,q2⟩:=hc i v y hb hv hx;refine ⟨?_,q2⟩;rw [q1,F9,Zu]
  ·intro i v j hb hv hj;rw [hf i v j hb hv hj,Gm];congr 1;omega
  ·intro i v j x hb hv hx;exact ihe i v j x hb hv hx d
theorem AiE:V1 0 [] vT:=⟨fun j x h=>by simp at h,fun j _=>by simp⟩
theorem OE {u:Nat} {env:List RV} {τ:Nat->Tm} (h:V1 u env τ) {x:RV} {t:Tm} (hx:Un u x t):V1 u (env++[x]) (fun i=>match i with | 0=>t | j+1=>τ j):=by
 refine ⟨fun j y hy=>?_,fun j hj=>?_⟩
 ·rw [List.reverse_append] at hy;cases j with
  | zero =>
   simp at hy;subst hy;exact hx
  | succ j =>
   simp only [List.reverse_cons,List.reverse_nil,List.nil_append,List.cons_append,List.getElem?_cons_succ] at hy;exact h.1 j y hy
 ·rw [List.length_append,AzI,List.length_nil] at hj ⊢;cases j with
  | zero=>omega
  | succ j =>
   simp only;rw [h.2 j (by omega)];congr 1;omega
theorem Anp {u:Nat} {env:List RV} {τ:Nat->Tm} (h:V1 u env τ) (b:Nat):V1 (u+b) (env++Gf u b) (CX b τ):=by
 refine ⟨fun j y hy=>?_,fun j hj=>?_⟩
 ·rw [List.reverse_append] at hy;by_cases hjb:j<b
  ·rw [List.getElem?_append_left (by rw [List.length_reverse,Ce];exact hjb)] at hy;obtain ⟨_,rfl⟩:=YE _ _ _ hy;simp only [CX,if_pos hjb]
   have:=Un.var (u+b) ((u:Int)+((b - 1 - j:Nat):Int)) (by omega)
   have e:vT j=.mk 1 (((u+b:Nat):Int) - 1 - ((u:Int)+((b - 1 - j:Nat):Int))) []:=by rw [vT];congr 1;omega
   rw [e];exact this
  ·rw [List.getElem?_append_right (by rw [List.length_reverse,Ce];omega),List.length_reverse,Ce] at hy;simp only [CX,if_neg hjb];exact Avg (h.1 _ _ hy) b
 ·rw [List.length_append,Ce] at hj ⊢;simp only [CX];rw [if_neg (by omega),h.2 _ (by omega),Gm];congr 1;omega
theorem AgS {f:Nat} {s n:Int} {k0 x v:RV} {s':Int} (h:headR (f+1) s 0 (.node 5 n [k0,x])=some (v,s',0)):k0.op=4/\(∃c,k0.k[1]?=some c/\AK f (s+1) 0 c.b (c.env++[x])=some (v,s',0))\/k0.op≠4/\v=.node 5 n [k0,x]:=by
 rw [headR,if_neg (by simp)] at h;by_cases hs:s<0\/1000000<s
 ·rw [if_pos hs] at h;cases h
 rw [if_neg hs,if_pos (show RV.op (.node 5 n [k0,x])=5 from rfl),show RV.k (.node 5 n [k0,x])=[k0,x] from rfl] at h
 simp only [List.getElem?_cons_zero,List.getElem?_cons_succ] at h;by_cases h0:k0.op=4
 ·rw [if_pos h0] at h;by_cases h1:s+1<=1000
  ·rw [if_pos h1] at h;cases hc:k0.k[1]? with
   | none=>rw [hc] at h;cases h
   | some c =>
    rw [hc] at h;simp only at h;by_cases h2:900000<c.env.length
    ·rw [if_pos h2] at h;cases h
    ·rw [if_neg h2] at h;exact .inl ⟨h0,c,rfl,h⟩
  ·rw [if_neg h1] at h;simp at h
 ·rw [if_neg h0] at h;simp only [AzE,AzF] at h;exact .inr ⟨h0,h.1.symm⟩
theorem Xg {f:Nat} {s op n:Int} {k0 v:RV} {s':Int} (ho:op=8\/op=9) (h:headR (f+1) s 0 (.node op n [k0])=some (v,s',0)):k0.op=7/\k0.k[(1+op - 8).toNat]?=some v\/k0.op≠7/\v=.node op n [k0]:=by
 rw [headR,if_neg (by simp)] at h;by_cases hs:s<0\/1000000<s
 ·rw [if_pos hs] at h;cases h
 have hop:RV.op (.node op n [k0])=op:=rfl;rw [if_neg hs,hop,if_neg (by omega),if_pos ho,show RV.k (.node op n [k0])=[k0] from rfl] at h
 simp only [List.getElem?_cons_zero] at h;by_cases h0:k0.op=7
 ·rw [if_pos h0] at h;by_cases h1:s+1<=1000
  ·rw [if_pos h1] at h;cases hw:k0.k[(1+op - 8).toNat]? with
   | none=>rw [hw] at h;cases h
   | some w =>
    rw [hw] at h;simp only [AzH,AzE,AzF] at h;rw [<- h.1];exact .inl ⟨h0,rfl⟩
  ·rw [if_neg h1] at h;simp at h
 ·rw [if_neg h0] at h;simp only [AzE,AzF] at h;exact .inr ⟨h0,h.1.symm⟩
theorem QO {ev:Int->Int->Tm->Option (RV×Int×Int)} {u:Nat} {env:List RV} {τ:Nat->Tm} (henv:V1 u env τ) (hev:∀s t v s',ev s 0 t=some (v,s',0)->t.wa->∃w,Un u v w/\Pars (t.sub τ) w) (herr:∀s e t v s',ev s e t=some (v,s',0)->e=0) (op:Int) :
  ∀(l:List Tm) (i:Nat) (s:Int) (vs:List RV) (s':Int),A7 ev op env i l s 0=some (vs,s',0)->Tm.waL l->∃ts:List Tm,ts.length=l.length/\vs.length=l.length/\(∀(j:Nat) a b,(Tm.subL op i l τ)[j]?=some a->ts[j]?=some b->Pars a b) /\
   (∀(j:Nat) v t,Am op (i+j)=0->vs[j]?=some v->ts[j]?=some t->Un u v t)/\(∀(j:Nat) (v:RV) t,0<Am op (i+j)->vs[j]?=some v->ts[j]?=some t->t=v.b.sub (CX (Am op (i+j)) τ)/\v.b.wa/\v.env=env)
 | [],i,s,vs,s',h,hw=>by
  simp only [A7,AzE,AzF] at h;obtain ⟨rfl,_⟩:=h;exact ⟨[],rfl,rfl,fun j a b h=>by simp [Tm.subL] at h,fun j v t _ h=>by simp at h,fun j v t _ h=>by simp at h⟩
 | t::l,i,s,vs,s',h,hw=>by
  rw [Tm.waL] at hw;simp only [A7] at h;by_cases hb:0<Am op i
  ·rw [if_pos hb] at h;cases hk:A7 ev op env (i+1) l s 0 with
   | none=>rw [hk] at h;cases h
   | some q =>
    obtain ⟨us,s1,e1⟩:=q;rw [hk] at h;simp only [AzH,AzE,AzF] at h;obtain ⟨rfl,rfl,rfl⟩:=h;obtain ⟨ts,a1,a2,a3,a4,a5⟩:=QO henv hev herr op l (i+1) s us s1 hk hw.2;refine ⟨t.sub (CX (Am op i) τ)::ts,by simp [a1],by simp [a2],?_,?_,?_⟩
    ·intro j a b ha hb';cases j with
     | zero =>
      simp only [Tm.subL,List.getElem?_cons_zero,AzE] at ha hb';subst ha hb';exact .refl _
     | succ j =>
      simp only [Tm.subL,List.getElem?_cons_succ] at ha hb';exact a3 j a b ha hb'
    ·intro j v x h0 hv hx;cases j with
     | zero=>rw [Nat.add_zero] at h0;omega
     | succ j =>
      simp only [List.getElem?_cons_succ] at hv hx;exact a4 j v x (by rw [<- h0];congr 1;omega) hv hx
    ·intro j v x h0 hv hx;cases j with
     | zero =>
      simp only [List.getElem?_cons_zero,AzE] at hv hx;subst hv hx;exact ⟨rfl,hw.1,rfl⟩
     | succ j =>
      simp only [List.getElem?_cons_succ] at hv hx
      have:=a5 j v x (by rw [show i+1+j=i+(j+1) by omega];exact h0) hv hx
      rw [show i+1+j=i+(j+1) by omega] at this
      exact this
  ·rw [if_neg hb] at h;have hb0:Am op i=0:=by omega
   cases he:ev s 0 t with
   | none=>rw [he] at h;cases h
   | some q =>
    obtain ⟨v0,s1,e1⟩:=q;rw [he] at h;simp only at h;cases hk:A7 ev op env (i+1) l s1 e1 with
    | none=>rw [hk] at h;cases h
    | some q =>
     obtain ⟨us,s3,e3⟩:=q;rw [hk] at h;simp only [AzH,AzE,AzF] at h;obtain ⟨rfl,rfl,rfl⟩:=h;have he1:=J7 ev herr op env l _ _ _ _ _ hk;subst he1;obtain ⟨w,w1,w2⟩:=hev _ _ _ _ he hw.1;obtain ⟨ts,a1,a2,a3,a4,a5⟩:=QO henv hev herr op l (i+1) s1 us s3 hk hw.2;refine ⟨w::ts,by simp [a1],by simp [a2],?_,?_,?_⟩
     ·intro j a b ha hb';cases j with
      | zero =>
       simp only [Tm.subL,List.getElem?_cons_zero,AzE] at ha hb';subst ha hb';rw [hb0,CS];exact w2
      | succ j =>
       simp only [Tm.subL,List.getElem?_cons_succ] at ha hb';exact a3 j a b ha hb'
     ·intro j v x h0 hv hx;cases j with
      | zero =>
       simp only [List.getElem?_cons_zero,AzE] at hv hx;subst hv hx;exact w1
      | succ j =>
       simp only [List.getElem?_cons_succ] at hv hx;exact a4 j v x (by rw [<- h0];congr 1;omega) hv hx
     ·intro j v x h0 hv hx;cases j with
      | zero=>rw [Nat.add_zero] at h0;omega
      | succ j =>
       simp only [List.getElem?_cons_succ] at hv hx
       have:=a5 j v x (by rw [show i+1+j=i+(j+1) by omega];exact h0) hv hx
       rw [show i+1+j=i+(j+1) by omega] at this
       exact this
def EvU (f:Nat):Prop:=∀s t env v s' u τ,AK f s 0 t env=some (v,s',0)->t.wa->V1 u env τ->∃w,Un u v w/\Pars (t.sub τ) w
def HdU (f:Nat):Prop:=∀s op n k v s' u ts,headR f s 0 (.node op n k)=some (v,s',0)->op≠1->Un u (.node op n k) (.mk op n ts)->∃w,Un u v w/\Pars (.mk op n ts) w
theorem Aua {f:Nat} (ihE:EvU f) (ihH:HdU f):EvU (f+1):=by
 intro s t env v s' u τ h hw henv;obtain ⟨op,m,ks⟩:=t;rw [Tm.wa] at hw;by_cases h1:op=1
 ·subst h1;have hks:ks=[]:=List.eq_nil_of_length_eq_zero (Option.some.inj hw.1.symm);subst hks;have hm:=hw.2.1.1 rfl;have hv:¬ (m<0\/([]:List Tm).isEmpty=false):=by
   rintro (h | h)
   ·omega
   ·cases h
  rw [Tm.sub,if_pos rfl,if_neg hv];rcases (Aah h hm).1 with ⟨a1,a2⟩ | ⟨a1,rfl⟩
  ·exact ⟨_,henv.1 _ _ a2,.refl _⟩
  ·refine ⟨_,?_,.refl _⟩;rw [henv.2 _ (by omega)]
   have:=Un.var u ((env.length:Int) - 1 - m) (by omega)
   have e:vT (u+(m.toNat - env.length))=.mk 1 ((u:Int) - 1 - ((env.length:Int) - 1 - m)) []:=by rw [vT];congr 1;omega
   rw [e];exact this
 ·obtain ⟨vs,s1,q1,q2⟩:=Hq h h1;obtain ⟨ts,a1,a2,a3,a4,a5⟩:=QO henv (fun s t v s' a b=>ihE s t env v s' u τ a b henv) (fun s e t v s' a=>E6 a) op ks 0 s vs s1 q1 hw.2.2;simp only [Nat.zero_add] at a4 a5;have hun:Un u (.node op m vs) (.mk op m ts):=by
   refine .node u op m vs ts (fun _=>τ) h1 hw.2.1.2 (by rw [a1];exact hw.1) (by rw [a1,a2]) a4 (fun i v t b c d=>⟨(a5 i v t b c d).1,(a5 i v t b c d).2.1⟩) ?_ ?_
   ·intro i v j b c hj;have hi:i<ts.length:=by rw [a1,<- a2];exact (List.getElem?_eq_some_iff.1 c).1
    have:=(a5 i v _ b c (List.getElem?_eq_getElem hi)).2.2
    rw [this] at hj ⊢;exact henv.2 j hj
   ·intro i v j x b c hx;have hi:i<ts.length:=by rw [a1,<- a2];exact (List.getElem?_eq_some_iff.1 c).1
    have:=(a5 i v _ b c (List.getElem?_eq_getElem hi)).2.2
    rw [this] at hx;exact henv.1 j x hx
  obtain ⟨w,w1,w2⟩:=ihH _ _ _ _ _ _ u ts q2 h1 hun;refine ⟨w,w1,?_⟩;rw [Tm.sub,if_neg h1];exact Bz (EZ h1 (by rw [JK,a1]) a3) w2
theorem AuB {f:Nat} (ihE:EvU f) (ihH:HdU f):HdU (f+1):=by
 intro s op n k v s' u ts h h1 hun;obtain ⟨ts',T,hn9,_,e2,har,hl,hk,hc⟩:=Ho hun h1;simp only [RV.node,RV.op,RV.n,RV.k,Tm.mk.injEq,true_and] at e2 har hl hk hc hn9;subst e2;by_cases h5:op=5
 ·subst h5;obtain ⟨t0,tx,rfl⟩:=AgD (Option.some.inj har.symm:ts.length=2);obtain ⟨k0,x,rfl⟩:=AgD (hl.trans rfl:k.length=2);have u0:=hk 0 k0 t0 rfl rfl rfl;have ux:=hk 1 x tx rfl rfl rfl;rcases AgS h with ⟨h4,c,hcc,hev⟩ | ⟨_,rfl⟩
  ·obtain ⟨us,T0,n0,e0,rfl,O5,l0,_,c0⟩:=Ho u0 (by omega);rw [h4] at O5 c0 ⊢;obtain ⟨ta,tb,rfl⟩:=AgD (Option.some.inj O5.symm:us.length=2);obtain ⟨rfl,hwa,henv⟩:=c0 1 c tb (by decide) hcc rfl;obtain ⟨w,w1,w2⟩:=ihE _ _ _ _ _ u _ hev hwa (OE henv ux);refine ⟨w,w1,.step (.beta n k0.n ta _ _ tx tx (A6 _) (A6 _)) ?_⟩;rw [EV]
   have:(fun i=>(CX (Am 4 1) (T0 1) i).sub (s1 tx))=fun i=>match i with | 0=>tx | j+1=>T0 1 j:=by
    funext i
    cases i with
    | zero=>simp [CX,Fi,s1,show Am 4 1=1 from rfl]
    | succ i =>
     simp only [CX,show Am 4 1=1 from rfl]
     rw [if_neg (by omega),Nat.add_sub_cancel,Gp _ _ _ (fun j=>rfl)]
   rw [this];exact w2
  ·exact ⟨_,hun,.refl _⟩
 by_cases h89:op=8\/op=9
 ·have hl1:ts.length=1:=by rcases h89 with rfl | rfl<;>exact Option.some.inj har.symm
  obtain ⟨t0,rfl⟩:=ED hl1;obtain ⟨k0,rfl⟩:=ED (hl.trans rfl:k.length=1);have u0:=hk 0 k0 t0 (by rcases h89 with rfl | rfl<;>rfl) rfl rfl;rcases Xg h89 h with ⟨h7,hx⟩ | ⟨_,rfl⟩
  ·obtain ⟨us,T0,n0,e0,rfl,O5,l0,hk0,_⟩:=Ho u0 (by omega);rw [h7] at O5 hk0 ⊢;obtain ⟨ta,tb,tc,rfl⟩:=AtH (Option.some.inj O5.symm:us.length=3);rcases h89 with rfl | rfl
   ·exact ⟨tb,hk0 1 v tb rfl hx rfl,C5 (.fst n k0.n ta tb tb tc (A6 _))⟩
   ·exact ⟨tc,hk0 2 v tc rfl hx rfl,C5 (.snd n k0.n ta tb tc tc (A6 _))⟩
  ·exact ⟨_,hun,.refl _⟩
 by_cases h30:op=30
 ·subst h30;obtain ⟨t0,rfl⟩:=ED (Option.some.inj har.symm:ts.length=1);obtain ⟨k0,rfl⟩:=ED (hl.trans rfl:k.length=1);have u0:=hk 0 k0 t0 rfl rfl rfl;rcases Tu h with ⟨h7,hx⟩ | ⟨_,rfl⟩
  ·obtain ⟨us,T0,n0,e0,rfl,O5,l0,hk0,_⟩:=Ho u0 (by omega);rw [h7] at O5 hk0 ⊢;obtain ⟨ta,rfl⟩:=ED (Option.some.inj O5.symm:us.length=1);exact ⟨ta,hk0 0 v ta rfl hx rfl,by rw [hn9 (.inr rfl),n0 (.inl h7)];exact C5 (.splq ta ta (A6 _))⟩
  ·exact ⟨_,hun,.refl _⟩
 by_cases h19:op=19
 ·subst h19;obtain ⟨t0,rfl⟩:=ED (Option.some.inj har.symm:ts.length=1);obtain ⟨k0,rfl⟩:=ED (hl.trans rfl:k.length=1);have u0:=hk 0 k0 t0 rfl rfl rfl;rcases SJ h with ⟨h7,hx⟩ | ⟨_,rfl⟩
  ·obtain ⟨us,T0,n0,e0,rfl,O5,l0,hk0,_⟩:=Ho u0 (by omega);rw [h7] at O5 hk0 ⊢;obtain ⟨ta,rfl⟩:=ED (Option.some.inj O5.symm:us.length=1);exact ⟨ta,hk0 0 v ta rfl hx rfl,by rw [hn9 (.inl rfl),n0 (.inr h7)];exact C5 (.quos ta ta (A6 _))⟩
  ·exact ⟨_,hun,.refl _⟩
 by_cases h13:op=13
 ·subst h13;obtain ⟨t0,t1,t2,t3,rfl⟩:=Ye (Option.some.inj har.symm:ts.length=4);obtain ⟨k0,k1,k2,k3,rfl⟩:=Ye (hl.trans rfl:k.length=4);have u1:=hk 1 k1 t1 rfl rfl rfl;have u3:=hk 3 k3 t3 rfl rfl rfl;rcases S7 h with ⟨h11,rfl⟩ | ⟨h12,x,w,s1',hx,hw,hv⟩ | ⟨_,rfl⟩
  ·obtain ⟨us,T0,n0,e0,rfl,O5,l0,hk0,_⟩:=Ho u3 (by omega);rw [h11];exact ⟨t1,u1,C5 (.recz n k3.n t0 t1 t1 t2 us (A6 _))⟩
  ·obtain ⟨us,T0,n0,e0,rfl,O5,l0,hk0,_⟩:=Ho u3 (by omega);rw [h12] at O5 hk0 ⊢;obtain ⟨tk,rfl⟩:=ED (Option.some.inj O5.symm:us.length=1);have ux:=hk0 0 x tk rfl hx rfl;obtain ⟨c2,hwa2,henv2⟩:=hc 2 k2 t2 (by decide) rfl rfl;have hun2:Un u (.node 13 0 [k0,k1,k2,x]) (.mk 13 0 [t0,t1,t2,tk]):=by
    refine .node u 13 0 _ _ T (by decide) (by omega) rfl rfl ?_ ?_ ?_ ?_
    ·intro i v t hb a b
     match i with
     | 0=>exact absurd hb (by decide)
     | 1=>simp at a b;subst a b;exact u1
     | 2=>exact absurd hb (by decide)
     | 3=>simp at a b;subst a b;exact ux
     | i+4=>simp at a
    ·intro i v t hb a b
     match i with
     | 0=>simp at a b;subst a b;exact ⟨(hc 0 k0 t0 hb rfl rfl).1,(hc 0 k0 t0 hb rfl rfl).2.1⟩
     | 1=>exact absurd hb (by decide)
     | 2=>simp at a b;subst a b;exact ⟨(hc 2 k2 t2 hb rfl rfl).1,(hc 2 k2 t2 hb rfl rfl).2.1⟩
     | 3=>exact absurd hb (by decide)
     | i+4=>simp at a
    ·intro i v j hb a hj
     match i with
     | 0=>simp at a;subst a;exact (hc 0 k0 t0 hb rfl rfl).2.2.2 j hj
     | 1=>exact absurd hb (by decide)
     | 2=>simp at a;subst a;exact (hc 2 k2 t2 hb rfl rfl).2.2.2 j hj
     | 3=>exact absurd hb (by decide)
     | i+4=>simp at a
    ·intro i v j y hb a hy
     match i with
     | 0=>simp at a;subst a;exact (hc 0 k0 t0 hb rfl rfl).2.2.1 j y hy
     | 1=>exact absurd hb (by decide)
     | 2=>simp at a;subst a;exact (hc 2 k2 t2 hb rfl rfl).2.2.1 j y hy
     | 3=>exact absurd hb (by decide)
     | i+4=>simp at a
   obtain ⟨tw,w1,w2⟩:=ihH _ _ _ _ _ _ u _ hw (by decide) hun2;have henv3:=OE (OE henv2 ux) w1;rw [List.append_assoc] at henv3;obtain ⟨tv,v1,v2⟩:=ihE _ _ _ _ _ u _ hv hwa2 henv3;refine ⟨tv,v1,.step (.recs n k3.n t0 t0 t1 t1 t2 t2 tk tk (A6 _) (A6 _) (A6 _) (A6 _)) ?_⟩;have e2:t2=k2.b.sub (CX 2 (T 2)):=c2;have e3:∀r:Tm,t2.sub (s2 r tk)=k2.b.sub (fun i=>if i=0 then r else (fun i=>match i with | 0=>tw | j+1=>(fun i=>match i with | 0=>tk | j+1=>T 2 j) j) i):=by
    intro r;rw [e2,EV];congr 1
    funext i
    match i with
    | 0=>simp [CX,Fi,s2]
    | 1=>simp [CX,Fi,s2]
    | i+2 =>
     simp only [CX];rw [if_neg (by omega),if_neg (by omega),Nat.add_sub_cancel,Gp _ _ _ (fun j=>rfl)]
   rw [e3];refine Bz (Aox k2.b _ 0 w2) ?_;have e4:(fun i=>if i=0 then tw else (fun i=>match i with | 0=>tw | j+1=>(fun i=>match i with | 0=>tk | j+1=>T 2 j) j) i)=(fun i=>match i with | 0=>tw | j+1=>(fun i=>match i with | 0=>tk | j+1=>T 2 j) j:Nat->Tm):=by
    funext i
    cases i with
    | zero=>simp
    | succ i=>simp
   rw [e4];exact v2
  ·exact ⟨_,hun,.refl _⟩
 obtain ⟨rfl,_⟩:=Ji h (by omega);exact ⟨_,hun,.refl _⟩
theorem Zx:∀f,EvU f/\HdU f:=by
 intro f
 induction f with
 | zero=>exact ⟨(by intro s t env v s' u τ h;rw [AK] at h;cases h),(by intro s op n k v s' u ts h;rw [headR] at h;cases h)⟩
 | succ f ih=>exact ⟨Aua ih.1 ih.2,AuB ih.1 ih.2⟩
theorem AoF:∀(f:Nat) (s nd:Int) (v:RV) (u:Nat) (d:Int) (t:Tm) (s' nd':Int) (w:Tm),AW f s nd 0 v u d=some (t,s',nd',0)->Un u v w->Pars w t:=by
 intro f
 induction f with
 | zero=>intro s nd v u d t s' nd' w h;rw [AW] at h;cases h
 | succ f ih =>
  intro s nd v u d t s' nd' w h hun;rcases Vj h with ⟨h1,rfl⟩ | ⟨h1,ts,hrk,rfl⟩
  ·cases hun with
   | var=>exact .refl _
   | node op n k us T h2=>exact absurd h1 h2
  ·obtain ⟨us,T,_,e1,rfl,har,hl,hk,hc⟩:=Ho hun h1;obtain ⟨n1,n2⟩:=K5 (fun s nd e v u t s' nd' h=>Ks h) v.op u v.k 0 s (nd+1) 0 ts s' nd' hrk;refine EZ h1 (by rw [n1,hl]) (fun i a b ha hb=>?_);have hi:i<v.k.length:=by rw [hl];exact (List.getElem?_eq_some_iff.1 ha).1
   have hki:=List.getElem?_eq_getElem hi;obtain ⟨q1,q2,k',q3,q4,⟨q5,q6⟩,q7⟩:=n2 i _ b hki hb;rw [Nat.zero_add] at q5 q6 q7;by_cases hb0:Am v.op i=0
   ·have:=q6 hb0
    subst this;rw [hb0] at q7;simp only [Int.ofNat_zero,Int.add_zero] at q7;exact ih _ _ _ u _ _ _ _ a (by simpa using q7) (hk i _ a hb0 hki ha)
   ·have hbp:0<Am v.op i:=by omega
    obtain ⟨s0,hev⟩:=q5 hbp;obtain ⟨rfl,hwa,henv⟩:=hc i _ a hbp hki ha;obtain ⟨w',w1,w2⟩:=(Zx f).1 _ _ _ _ _ (u+Am v.op i) _ hev hwa (Anp henv _);rw [show (u:Int)+(Am v.op i:Int)=((u+Am v.op i:Nat):Int) by omega] at q7
    exact Bz w2 (ih q1 q2 k' (u+Am v.op i) (d+1) b q3 q4 w' q7 w1)
theorem GR {f:Nat} {t n:Tm} {k:Nat} (h:A1 f t=some (n,0)) (ht:t.sc k):Pars t n:=by
 rw [A1] at h;cases he:AK f 0 0 t [] with
 | none=>rw [he] at h;cases h
 | some q =>
  obtain ⟨v,s,e⟩:=q;rw [he] at h;simp only at h;cases hr:AW f s 0 e v 0 1 with
  | none=>rw [hr] at h;cases h
  | some q =>
   obtain ⟨w,s2,nd2,e2⟩:=q;rw [hr] at h;simp only [AzE] at h;by_cases h2:e2≠0
   ·rw [if_pos h2] at h;simp only [AzF] at h;exact absurd h.2 h2
   rw [if_neg h2] at h;simp only [AzF,and_true] at h;subst h;have he2:e2=0:=by omega
   subst he2;have he0:=Ks hr;subst he0;obtain ⟨x,x1,x2⟩:=(Zx f).1 _ _ _ _ _ 0 vT he (ApN t k ht) AiE;rw [Ll] at x2;exact Bz x2 (AoF f s 0 v 0 1 w s2 nd2 x (by simpa using hr) x1)
inductive PT:Tm->Prop
 | int:PT (.mk 15 0 [])
 | bin (op:Int) (a b:Tm) (ho:op=16\/op=17) (ha:PT a) (hb:PT b):PT (.mk op 0 [a,b])
theorem CH {op n:Int} {ks:List Tm} {σ:Nat->Tm} (h:op≠1):(Tm.mk op n ks).sub σ=.mk op n (Tm.subL op 0 ks σ):=by rw [Tm.sub,if_neg h]
theorem Cc {op n:Int} {ks:List Tm} {ρ:Nat->Nat} (h:op≠1):(Tm.mk op n ks).ren ρ=.mk op n (Tm.renL op 0 ks ρ):=by rw [Tm.ren,if_neg h]
theorem Yd {p:Tm} (h:PT p):∀σ,p.sub σ=p:=by
 induction h with
 | int=>intro σ;rw [CH (by decide)];rfl
 | bin op a b ho ha hb iha ihb =>
  intro σ;rw [CH (by omega)];simp only [Tm.subL,iha,ihb]
theorem Ht {p:Tm} (h:PT p) (ρ:Nat->Nat):p.ren ρ=p:=by rw [GE];exact Yd h _
theorem Jj {op n:Int} {ks:List Tm} (h:op≠30/\op≠19/\op≠13/\op≠5/\op≠8/\op≠9) (hk:Tm.stlL ks):(Tm.mk op n ks).stl:=by
 rw [Tm.stl];exact ⟨⟨⟨by omega,by omega,by omega⟩,by omega,by omega⟩,hk⟩
theorem Gi {p:Tm} (h:PT p):p.stl:=by
 induction h with
 | int=>exact Jj (by decide) trivial
 | bin op a b ho ha hb iha ihb=>exact Jj (by omega) ⟨iha,ihb,trivial⟩
theorem Y4 {p x:Tm} (h:PT p) (hp:Pars p x):x=p:=Ct hp (Gi h)
theorem Akp {A p q:Tm} (hp:PT p) (hq:PT q) (h1:Pars A p) (h2:Pars A q):p=q:=Aju h1 h2 (.refl A) (.refl A) (Gi hp) (Gi hq)
theorem Cu:∀(d:Nat) (r:Tm),PT (r.plainT d)
 | 0,r=>by rw [Tm.plainT];exact .int
 | d+1,r=>by
  rw [Tm.plainT];split
  ·exact .int
  ·exact .bin _ _ _ (by omega) (Cu d _) (Cu d _)
theorem Afe {T X:Tm} (h:Pars T X):∀op n x y,T=.mk op n [x,y]->op≠1/\op≠5->∃x' y',X=.mk op n [x',y']/\Pars x x'/\Pars y y':=by
 induction h with
 | refl t=>rintro op n x y rfl ho;exact ⟨x,y,rfl,.refl _,.refl _⟩
 | step h hs ih =>
  rintro op n x y rfl ho;obtain ⟨x1,y1,rfl,h1,h2⟩:=Apt h ho;obtain ⟨x2,y2,rfl,h3,h4⟩:=ih _ _ _ _ rfl ho;exact ⟨x2,y2,rfl,.step h1 h3,.step h2 h4⟩
theorem Asy {n:Int} {x t:Tm} (h:Par (.mk 18 n [x]) t):∃x',t=.mk 18 n [x']/\Par x x':=by
 cases h with
 | node _ _ _ ks' h1 hl hk =>
  obtain ⟨x',rfl⟩:=ED hl;exact ⟨x',rfl,hk 0 x x' rfl rfl⟩
theorem Am2 {T X:Tm} (h:Pars T X):∀n x,T=.mk 18 n [x]->∃x',X=.mk 18 n [x']/\Pars x x':=by
 induction h with
 | refl t=>rintro n x rfl;exact ⟨x,rfl,.refl _⟩
 | step h hs ih =>
  rintro n x rfl;obtain ⟨x1,rfl,h1⟩:=Asy h;obtain ⟨x2,rfl,h3⟩:=ih _ _ rfl;exact ⟨x2,rfl,.step h1 h3⟩
theorem ArY {x x':Tm} (h:Par x x'):(x.op=2\/x.op=3\/x.op=6)->x'.op=x.op:=by
 cases h with
 | var=>intro _;rfl
 | node=>intro _;rfl
 | _=>intro h;simp [Tm.op] at h
theorem Aml {x x':Tm} (h:Pars x x'):(x.op=2\/x.op=3\/x.op=6)->x'.op=x.op:=by
 induction h with
 | refl=>intro _;rfl
 | step h hs ih=>intro ho;have:=ArY h ho;rw [<- this];exact ih (by omega)
theorem ps2 {op n:Int} {a a' b b':Tm} (h1:op≠1) (ha:Pars a a') (hb:Pars b b'):Pars (.mk op n [a,b]) (.mk op n [a',b']):=by
 refine EZ h1 rfl fun i x y hx hy=>?_
 match i with
 | 0=>simp only [List.getElem?_cons_zero,AzE] at hx hy;subst hx;subst hy;exact ha
 | 1=>simp only [List.getElem?_cons_succ,List.getElem?_cons_zero,AzE] at hx hy;subst hx;subst hy;exact hb
 | i+2=>simp at hx
theorem ps1 {op n:Int} {a a':Tm} (h1:op≠1) (ha:Pars a a'):Pars (.mk op n [a]) (.mk op n [a']):=by
 refine EZ h1 rfl fun i x y hx hy=>?_
 match i with
 | 0=>simp only [List.getElem?_cons_zero,AzE] at hx hy;subst hx;subst hy;exact ha
 | i+1=>simp at hx
theorem ps3 {op n:Int} {a a' b b' c c':Tm} (h1:op≠1) (ha:Pars a a') (hb:Pars b b') (hc:Pars c c'):Pars (.mk op n [a,b,c]) (.mk op n [a',b',c']):=by
 refine EZ h1 rfl fun i x y hx hy=>?_
 match i with
 | 0=>simp only [List.getElem?_cons_zero,AzE] at hx hy;subst hx;subst hy;exact ha
 | 1=>simp only [List.getElem?_cons_succ,List.getElem?_cons_zero,AzE] at hx hy;subst hx;subst hy;exact hb
 | 2=>simp only [List.getElem?_cons_succ,List.getElem?_cons_zero,AzE] at hx hy;subst hx;subst hy;exact hc
 | i+3=>simp at hx
theorem ps4 {n:Int} {a b c d d':Tm} (hd:Pars d d'):Pars (.mk 13 n [a,b,c,d]) (.mk 13 n [a,b,c,d']):=by
 refine EZ (by decide) rfl fun i x y hx hy=>?_
 match i with
 | 0 | 1 | 2=>simp only [List.getElem?_cons_succ,List.getElem?_cons_zero,AzE] at hx hy;subst hx;subst hy;exact .refl _
 | 3=>simp only [List.getElem?_cons_succ,List.getElem?_cons_zero,AzE] at hx hy;subst hx;subst hy;exact hd
 | i+4=>simp at hx
theorem C6 {t t':Tm} (h:Pars t t') (ρ:Nat->Nat):Pars (t.ren ρ) (t'.ren ρ):=by rw [GE,GE];exact KG h _
def G9:Tm:=.mk 15 0 []
inductive OT (m:Nat):List Tm->Tm->Tm->Prop
 | var (g:List Tm) (i:Nat) (P:Tm) (hP:PT P) (hw:P.wt<=m) (hi:i<g.length) (h:g[g.length - 1 - i]?=some P):OT m g (.mk 1 (i:Int) []) P
 | oint (g:List Tm) (n:Int) (hm:1<=m):OT m g (.mk 25 n []) G9
 | oprim (g:List Tm) (n:Int) (a b:Tm) (ha:OT m g a G9) (hb:OT m g b G9):OT m g (.mk 26 n [a,b]) G9
 | olam (g:List Tm) (a b c:Tm) (ha:PT a) (hw:(Tm.mk 16 0 [a,c]).wt<=m) (hb:OT m (g++[a]) b c):OT m g (.mk 20 0 [a,b]) (.mk 16 0 [a,c])
 | oapp (g:List Tm) (f x a c:Tm) (hf:OT m g f (.mk 16 0 [a,c])) (hx:OT m g x a):OT m g (.mk 21 0 [f,x]) c
 | opair (g:List Tm) (x y a b:Tm) (hw:(Tm.mk 17 0 [a,b]).wt<=m) (hx:OT m g x a) (hy:OT m g y b):OT m g (.mk 22 0 [x,y]) (.mk 17 0 [a,b])
 | ofst (g:List Tm) (x a b:Tm) (hx:OT m g x (.mk 17 0 [a,b])):OT m g (.mk 23 0 [x]) a
 | oif (g:List Tm) (c x y a:Tm) (hc:OT m g c G9) (hx:OT m g x a) (hy:OT m g y a):OT m g (.mk 27 0 [c,x,y]) a
 | olet (g:List Tm) (x y a b:Tm) (hx:OT m g x a) (hy:OT m (g++[a]) y b):OT m g (.mk 28 0 [x,y]) b
 | ofix (g:List Tm) (a x:Tm) (ha:PT a) (hw:a.wt<=m) (hx:OT m (g++[a]) x a):OT m g (.mk 29 0 [a,x]) a
theorem WL {op n:Int} {a b:Tm} (h:PT (.mk op n [a,b])):PT a/\PT b/\n=0:=by cases h with | bin _ _ _ _ ha hb=>exact ⟨ha,hb,rfl⟩
theorem FZ {m m':Nat} (hm:m<=m') {g:List Tm} {c P:Tm} (h:OT m g c P):OT m' g c P:=by
 induction h with
 | var g i P hP hw hi h=>exact .var g i P hP (by omega) hi h
 | oint g n hm=>exact .oint g n (by omega)
 | oprim g n a b ha hb iha ihb=>exact .oprim g n a b iha ihb
 | olam g a b c ha hw hb ih=>exact .olam g a b c ha (by omega) ih
 | oapp g f x a c hf hx ihf ihx=>exact .oapp g f x a c ihf ihx
 | opair g x y a b hw hx hy ihx ihy=>exact .opair g x y a b (by omega) ihx ihy
 | ofst g x a b hx ih=>exact .ofst g x a b ih
 | oif g c x y a hc hx hy i1 i2 i3=>exact .oif g c x y a i1 i2 i3
 | olet g x y a b hx hy i1 i2=>exact .olet g x y a b i1 i2
 | ofix g a x ha hw hx ih=>exact .ofix g a x ha (by omega) ih
def AfQ (g g':List Tm) (ρ:Nat->Nat):Prop:=∀i Q,i<g.length->g[g.length - 1 - i]?=some Q->ρ i<g'.length/\g'[g'.length - 1 - ρ i]?=some Q
theorem M5 {g g':List Tm} {ρ:Nat->Nat} (h:AfQ g g' ρ) (a:Tm):AfQ (g++[a]) (g'++[a]) (KL 1 ρ):=by
 intro i Q hi hQ;simp only [List.length_append,AzI,List.length_nil] at hi hQ ⊢;by_cases h0:i=0
 ·subst h0;rw [HF (by omega)];rw [List.getElem?_append_right (by omega),show g.length+(0+1) - 1 - 0 - g.length=0 by omega] at hQ
  rw [List.getElem?_append_right (by omega),show g'.length+(0+1) - 1 - 0 - g'.length=0 by omega]
  exact ⟨by omega,hQ⟩
 ·rw [G4 (by omega)];rw [List.getElem?_append_left (by omega),show g.length+(0+1) - 1 - i=g.length - 1 - (i - 1) by omega] at hQ
  obtain ⟨q1,q2⟩:=h (i - 1) Q (by omega) hQ;rw [List.getElem?_append_left (by omega),show g'.length+(0+1) - 1 - (ρ (i - 1)+1)=g'.length - 1 - ρ (i - 1) by omega]
  exact ⟨by omega,q2⟩
theorem ApR {m:Nat} {g:List Tm} {c P:Tm} (h:OT m g c P):∀g' ρ,AfQ g g' ρ->OT m g' (c.ren ρ) P:=by
 induction h with
 | var g i P hP hw hi h =>
  intro g' ρ hr;obtain ⟨q1,q2⟩:=hr i P hi h
  have:=Gm i ρ
  rw [vT] at this;rw [this];exact .var g' (ρ i) P hP hw q1 q2
 | oint g n hm=>intro g' ρ hr;rw [Cc (by decide)];exact .oint g' n hm
 | oprim g n a b ha hb iha ihb=>intro g' ρ hr;rw [Cc (by decide)];simp only [Tm.renL,show Am 26 0=0 from rfl,show Am 26 (0+1)=0 from rfl,DH];exact .oprim g' n _ _ (iha _ _ hr) (ihb _ _ hr)
 | olam g a b c ha hw hb ih=>intro g' ρ hr;rw [Cc (by decide)];simp only [Tm.renL,show Am 20 0=0 from rfl,show Am 20 (0+1)=1 from rfl,DH,Ht ha];exact .olam g' a _ c ha hw (ih _ _ (M5 hr a))
 | oapp g f x a c hf hx ihf ihx=>intro g' ρ hr;rw [Cc (by decide)];simp only [Tm.renL,show Am 21 0=0 from rfl,show Am 21 (0+1)=0 from rfl,DH];exact .oapp g' _ _ a c (ihf _ _ hr) (ihx _ _ hr)
 | opair g x y a b hw hx hy ihx ihy=>intro g' ρ hr;rw [Cc (by decide)];simp only [Tm.renL,show Am 22 0=0 from rfl,show Am 22 (0+1)=0 from rfl,DH];exact .opair g' _ _ a b hw (ihx _ _ hr) (ihy _ _ hr)
 | ofst g x a b hx ih=>intro g' ρ hr;rw [Cc (by decide)];simp only [Tm.renL,show Am 23 0=0 from rfl,DH];exact .ofst g' _ a b (ih _ _ hr)
 | oif g c x y a hc hx hy i1 i2 i3=>intro g' ρ hr;rw [Cc (by decide)];simp only [Tm.renL,show Am 27 0=0 from rfl,show Am 27 (0+1)=0 from rfl,show Am 27 (0+1+1)=0 from rfl,DH];exact .oif g' _ _ _ a (i1 _ _ hr) (i2 _ _ hr) (i3 _ _ hr)
 | olet g x y a b hx hy i1 i2=>intro g' ρ hr;rw [Cc (by decide)];simp only [Tm.renL,show Am 28 0=0 from rfl,show Am 28 (0+1)=1 from rfl,DH];exact .olet g' _ _ a b (i1 _ _ hr) (i2 _ _ (M5 hr a))
 | ofix g a x ha hw hx ih=>intro g' ρ hr;rw [Cc (by decide)];simp only [Tm.renL,show Am 29 0=0 from rfl,show Am 29 (0+1)=1 from rfl,DH,Ht ha];exact .ofix g' a _ ha hw (ih _ _ (M5 hr a))
theorem Aoh (g:List Tm) (a:Tm):AfQ g (g++[a]) (fun x=>x+1):=by
 intro i Q hi hQ;simp only [List.length_append,AzI,List.length_nil];rw [List.getElem?_append_left (by omega),show g.length+(0+1) - 1 - (i+1)=g.length - 1 - i by omega]
 exact ⟨by omega,hQ⟩
def mw (P:Tm):Nat:=max P.wt 3+7
def natT:Tm:=.mk 10 0 []
def tyT:Tm:=.mk 14 0 []
def Pf (X:Tm):Prop:=X.op=2\/X.op=3\/X.op=6
def WFT (A:Tm):Prop:=Pars A natT\/Pars A tyT\/(∃P,PT P/\Pars A (.mk 18 0 [P]))\/∃X,Pars A X/\Pf X
def Sem (g:List Tm) (A t:Tm):Prop:=(Pars A natT/\∃k,Pars t (CG k))\/(Pars A tyT/\∃P,PT P/\Pars t P)\/(∃P c,PT P/\Pars A (.mk 18 0 [P])/\Pars t (.mk 19 0 [c])/\OT (mw P) g c P)\/∃X,Pars A X/\Pf X
def Avq (g:List Tm) (P t:Tm):Prop:=∃c,Pars t c/\OT (mw P) g c P
theorem Hd:natT.stl:=Jj (by decide) trivial
theorem Iy:tyT.stl:=Jj (by decide) trivial
theorem Tc {P:Tm} (h:PT P):(Tm.mk 18 0 [P]).stl:=Jj (by decide) ⟨Gi h,trivial⟩
theorem LB {A A' N:Tm} (h:Pars A N) (hN:N.stl) (h2:Pars A A'):Pars A' N:=by
 obtain ⟨d,q1,q2⟩:=TW h h2;rw [Ct q1 hN] at q2;exact q2
theorem ApJ {A A' X:Tm} (h:Pars A X) (hX:Pf X) (h2:Pars A A'):∃d,Pars A' d/\Pf d:=by
 obtain ⟨d,q1,q2⟩:=TW h h2;refine ⟨d,q2,?_⟩;unfold Pf at hX ⊢;rw [Aml q1 hX];exact hX
theorem AkR {A A':Tm} (h:WFT A) (h2:Pars A A'):WFT A':=by
 rcases h with h | h | ⟨P,hP,h⟩ | ⟨X,h,hX⟩
 ·exact .inl (LB h Hd h2)
 ·exact .inr (.inl (LB h Iy h2))
 ·exact .inr (.inr (.inl ⟨P,hP,LB h (Tc hP) h2⟩))
 ·exact .inr (.inr (.inr (ApJ h hX h2)))
theorem Akf {g:List Tm} {A A' t:Tm} (h:Sem g A t) (h2:Pars A A'):Sem g A' t:=by
 rcases h with ⟨h,ht⟩ | ⟨h,ht⟩ | ⟨P,c,hP,h,ht⟩ | ⟨X,h,hX⟩
 ·exact .inl ⟨LB h Hd h2,ht⟩
 ·exact .inr (.inl ⟨LB h Iy h2,ht⟩)
 ·exact .inr (.inr (.inl ⟨P,c,hP,LB h (Tc hP) h2,ht⟩))
 ·exact .inr (.inr (.inr (ApJ h hX h2)))
theorem Akt {g:List Tm} {A A' t:Tm} (h:Sem g A' t) (h2:Pars A A'):Sem g A t:=by
 rcases h with ⟨h,ht⟩ | ⟨h,ht⟩ | ⟨P,c,hP,h,ht⟩ | ⟨X,h,hX⟩
 ·exact .inl ⟨Bz h2 h,ht⟩
 ·exact .inr (.inl ⟨Bz h2 h,ht⟩)
 ·exact .inr (.inr (.inl ⟨P,c,hP,Bz h2 h,ht⟩))
 ·exact .inr (.inr (.inr ⟨X,Bz h2 h,hX⟩))
theorem Kv {g:List Tm} {A t t':Tm} (h:Sem g A t') (h2:Pars t t'):Sem g A t:=by
 rcases h with ⟨h,k,ht⟩ | ⟨h,P,hP,ht⟩ | ⟨P,c,hP,h,ht,ho⟩ | h
 ·exact .inl ⟨h,k,Bz h2 ht⟩
 ·exact .inr (.inl ⟨h,P,hP,Bz h2 ht⟩)
 ·exact .inr (.inr (.inl ⟨P,c,hP,h,Bz h2 ht,ho⟩))
 ·exact .inr (.inr (.inr h))
theorem ArH {X:Tm} (ρ:Nat->Nat) (h:Pf X):Pf (X.ren ρ):=by
 obtain ⟨op,n,ks⟩:=X;unfold Pf at h ⊢;simp only [Tm.op] at h;rw [Cc (by omega)];exact h
theorem Wp (ρ:Nat->Nat):∀k,(CG k).ren ρ=CG k
 | 0=>by rw [CG,Cc (by decide)];rfl
 | k+1=>by rw [CG,Cc (by decide)];simp only [Tm.renL,show Am 12 0=0 from rfl,DH,Wp ρ k]
theorem V6 (σ:Nat->Tm):∀k,(CG k).sub σ=CG k
 | 0=>by rw [CG,CH (by decide)];rfl
 | k+1=>by rw [CG,CH (by decide)];simp only [Tm.subL,show Am 12 0=0 from rfl,CS,V6 σ k]
theorem Pd {op n:Int} {a:Tm} {σ:Nat->Tm} (h:op≠1) (h0:Am op 0=0):(Tm.mk op n [a]).sub σ=.mk op n [a.sub σ]:=by
 rw [CH h];simp only [Tm.subL,h0,CS]
theorem KZ {op n:Int} {a b:Tm} {σ:Nat->Tm} (h:op≠1) (h0:Am op 0=0):(Tm.mk op n [a,b]).sub σ=.mk op n [a.sub σ,b.sub (CX (Am op 1) σ)]:=by
 rw [CH h];simp only [Tm.subL,h0,CS,Nat.zero_add]
theorem Avd {op n:Int} {a:Tm} {ρ:Nat->Nat} (h:op≠1) (h0:Am op 0=0):(Tm.mk op n [a]).ren ρ=.mk op n [a.ren ρ]:=by
 rw [Cc h];simp only [Tm.renL,h0,DH]
theorem J2 {op n:Int} {σ:Nat->Tm} (h:op≠1):(Tm.mk op n []).sub σ=.mk op n []:=by rw [CH h];rfl
theorem VG {op n:Int} {ρ:Nat->Nat} (h:op≠1):(Tm.mk op n []).ren ρ=.mk op n []:=by rw [Cc h];rfl
theorem Auf {g:List Tm} {A t:Tm} (h:Sem g A t) (a:Tm):Sem (g++[a]) (A.ren fun x=>x+1) (t.ren fun x=>x+1):=by
 rcases h with ⟨h,k,ht⟩ | ⟨h,P,hP,ht⟩ | ⟨P,c,hP,h,ht,ho⟩ | ⟨X,h,hX⟩
 ·refine .inl ⟨?_,k,?_⟩
  ·have:=C6 h fun x=>x+1
   rwa [natT,VG (by decide)] at this
  ·have:=C6 ht fun x=>x+1
   rwa [Wp] at this
 ·refine .inr (.inl ⟨?_,P,hP,?_⟩)
  ·have:=C6 h fun x=>x+1
   rwa [tyT,VG (by decide)] at this
  ·have:=C6 ht fun x=>x+1
   rwa [Ht hP] at this
 ·refine .inr (.inr (.inl ⟨P,c.ren fun x=>x+1,hP,?_,?_,ApR ho _ _ (Aoh g a)⟩))
  ·have:=C6 h fun x=>x+1
   rwa [Avd (by decide) rfl,Ht hP] at this
  ·have:=C6 ht fun x=>x+1
   rwa [Avd (by decide) rfl] at this
 ·exact .inr (.inr (.inr ⟨_,C6 h _,ArH _ hX⟩))
theorem Ey {m:Int} {B X:Tm} (h:Pars (.mk 18 m [B]) X):∃B',X=.mk 18 m [B']/\Pars B B':=Am2 h m B rfl
theorem ZZ {g:List Tm} {t:Tm} (h:Sem g natT t):∃k,Pars t (CG k):=by
 rcases h with ⟨_,ht⟩ | ⟨h,_⟩ | ⟨P,c,hP,h,_⟩ | ⟨X,h,hX⟩
 ·exact ht
 ·have:=Ct h Hd;simp [tyT,natT] at this
 ·have:=Ct h Hd;simp [natT] at this
 ·rw [Ct h Hd] at hX;simp [Pf,natT,Tm.op] at hX
theorem XA {g:List Tm} {t:Tm} (h:Sem g tyT t):∃P,PT P/\Pars t P:=by
 rcases h with ⟨h,_⟩ | ⟨_,ht⟩ | ⟨P,c,hP,h,_⟩ | ⟨X,h,hX⟩
 ·have:=Ct h Iy;simp [tyT,natT] at this
 ·exact ht
 ·have:=Ct h Iy;simp [tyT] at this
 ·rw [Ct h Iy] at hX;simp [Pf,tyT,Tm.op] at hX
theorem AjX {g:List Tm} {m:Int} {B t:Tm} (h:Sem g (.mk 18 m [B]) t):∃P c,PT P/\Pars B P/\Pars t (.mk 19 0 [c])/\OT (mw P) g c P:=by
 rcases h with ⟨h,_⟩ | ⟨h,_⟩ | ⟨P,c,hP,h,ht,ho⟩ | ⟨X,h,hX⟩
 ·obtain ⟨B',e,_⟩:=Ey h;simp [natT] at e
 ·obtain ⟨B',e,_⟩:=Ey h;simp [tyT] at e
 ·obtain ⟨B',e,q⟩:=Ey h;simp only [Tm.mk.injEq,List.cons.injEq,and_true,true_and] at e;rw [<- e.2] at q;exact ⟨P,c,hP,q,ht,ho⟩
 ·obtain ⟨B',rfl,_⟩:=Ey h;simp [Pf,Tm.op] at hX
theorem Ajs {m:Int} {B:Tm} (h:WFT (.mk 18 m [B])):∃P,PT P/\Pars B P:=by
 rcases h with h | h | ⟨P,hP,h⟩ | ⟨X,h,hX⟩
 ·obtain ⟨B',e,_⟩:=Ey h;simp [natT] at e
 ·obtain ⟨B',e,_⟩:=Ey h;simp [tyT] at e
 ·obtain ⟨B',e,q⟩:=Ey h;simp only [Tm.mk.injEq,List.cons.injEq,and_true,true_and] at e;rw [<- e.2] at q;exact ⟨P,hP,q⟩
 ·obtain ⟨B',rfl,_⟩:=Ey h;simp [Pf,Tm.op] at hX
theorem Agn:∀{l:List Tm},(∀t∈l,t.eta=t)->Tm.etaL l=l
 | [],_=>rfl
 | a::l,h=>by rw [Tm.etaL,h a (by simp),Agn fun t ht=>h t (by simp [ht])]
theorem Gq {op n:Int} {l:List Tm} (h:op≠4/\op≠7) (hl:∀t∈l,t.eta=t):(Tm.mk op n l).eta=.mk op n l:=by
 rw [Tm.eta,if_neg h.1,if_neg h.2,Agn hl]
theorem OJ {G:List Nat} {t:Tm} {s:Nat} (h:NfT G t s):(s=0\/s=1\/s=10\/s=11)->t.eta=t:=by
 induction h with
 | var G n s h0 h hs=>intro _;exact Gq (by decide) (by simp)
 | node G op n ks s sg hr hl hst hk ih =>
  intro hs;have kid:∀(i:Nat) t bs s',ks[i]?=some t->sg[i]?=some (bs,s')->(s'=0\/s'=1\/s'=10\/s'=11)->t.eta=t:=fun i t bs s' a b c=>ih i t bs s' a b c;have all:(op≠4/\op≠7)->(∀(i:Nat) bs s',sg[i]?=some (bs,s')->(s'=0\/s'=1\/s'=10\/s'=11))->(Tm.mk op n ks).eta=.mk op n ks:=by
   intro ho hall;refine Gq ho fun t ht=>?_;obtain ⟨i,hi,e⟩:=List.mem_iff_getElem.1 ht;have hi2:i<sg.length:=by rw [<- hl];exact hi
   exact kid i t _ _ (by rw [List.getElem?_eq_getElem hi,e]) (List.getElem?_eq_getElem hi2) (hall i _ _ (List.getElem?_eq_getElem hi2))
  cases hr with
  | natT=>exact all (by decide) (fun i bs s' h=>by simp at h)
  | tyT=>exact all (by decide) (fun i bs s' h=>by simp at h)
  | zero=>exact all (by decide) (fun i bs s' h=>by simp at h)
  | tint=>exact all (by decide) (fun i bs s' h=>by simp at h)
  | suc =>
   refine all (by decide) (fun i bs s' h=>?_)
   match i with
   | 0=>simp at h;omega
   | i+1=>simp at h
  | tfun =>
   refine all (by decide) (fun i bs s' h=>?_)
   match i with
   | 0 | 1=>simp at h;omega
   | i+2=>simp at h
  | tpro =>
   refine all (by decide) (fun i bs s' h=>?_)
   match i with
   | 0 | 1=>simp at h;omega
   | i+2=>simp at h
  | recR s hs6 =>
   refine all (by decide) (fun i bs s' h=>?_)
   match i with
   | 0 | 1 | 2 | 3=>simp at h;omega
   | i+4=>simp at h
  | _=>omega
def cns (u:Tm) (σ:Nat->Tm):Nat->Tm
 | 0=>u
 | i+1=>σ i
theorem Aqs (u:Tm) (σ:Nat->Tm):(fun i=>(CX 1 σ i).sub (s1 u))=cns u σ:=by
 funext i
 cases i with
 | zero=>simp [CX,Fi,s1,cns]
 | succ i =>
  simp only [CX,cns];rw [if_neg (by omega),Nat.add_sub_cancel,Gp _ _ _ (fun j=>rfl)]
theorem Am7 (r k:Tm) (σ:Nat->Tm):(fun i=>(CX 2 σ i).sub (s2 r k))=cns r (cns k σ):=by
 funext i
 match i with
 | 0=>simp [CX,Fi,s2,cns]
 | 1=>simp [CX,Fi,s2,cns]
 | i+2 =>
  simp only [CX,cns];rw [if_neg (by omega),Nat.add_sub_cancel,Gp _ _ _ (fun j=>rfl)]
theorem Fk {t:Tm} {k:Nat} (h:t.sc k) (d:Nat) (hw:k+2 * t.wt+d<=9000000000000000000):t.shift d 0=t.ren fun x=>x+d:=by
 have:=Lh t d 0 k h hw
 rw [show ((0:Nat):Int)=0 from rfl] at this
 rw [this];congr 1
theorem K8 {t:Tm} {k:Nat} (h:t.sc k) (d:Nat) (hw:k+2 * t.wt+d<=9000000000000000000) (σ:Nat->Tm):(t.shift d 0).sub σ=t.sub fun x=>σ (x+d):=by
 rw [Fk h d hw,GM]
def Bw:Nat:=2000000000000000
structure EnvK (g:Ci) (G:List Nat) (D:List Tm) (σ:Nat->Tm):Prop where
 v1:∀i T,i<g.length->g[g.length - 1 - i]?=some (1,T)->T.sc (g.length - 1 - i)/\T.wt<=Bw/\(∃s,HasT G (T.ren fun x=>x+(i+1)) (10+s))/\Sem D (T.sub fun x=>σ (x+(i+1))) (σ i)
 v0:∀i T,i<g.length->g[g.length - 1 - i]?=some (0,T)->T.sc (g.length - 1 - i)/\T.wt<=Bw/\HasT G (T.ren fun x=>x+(i+1)) 1/\∃P j,PT P/\Pars (T.sub fun x=>σ (x+(i+1))) P/\σ i=vT j/\j<D.length/\D[D.length - 1 - j]?=some P
theorem AjG:EnvK [] [] [] vT:=⟨fun i T h=>by simp at h,fun i T h=>by simp at h⟩
theorem Sb {G:List Nat} {T:Tm} {k i s:Nat} (x:Nat) (hsc:T.sc k) (hw:T.wt<=Bw) (hk:k+i<=100000) (hG:G.length<=1000) (h:HasT G (T.ren fun x=>x+i) s):HasT (x::G) (T.ren fun x=>x+(i+1)) s:=by
 unfold Bw at hw;have e:=Fk hsc i (by omega);rw [<- e] at h;have h1:=IK h [x] (by rw [BG];simp only [AzI,List.length_nil];omega);have hs:=B5 T i 0 k hsc (by omega);rw [show ((0:Nat):Int)=0 from rfl] at hs
 rw [Fk hs _ (by rw [BG];simp only [AzI,List.length_nil];omega),e,JL] at h1;simpa [Nat.add_assoc] using h1
theorem Kj {α:Type} (l:List α) (a:α) (i:Nat) (b:α) (hi:i<(l++[a]).length) (h:(l++[a])[(l++[a]).length - 1 - i]?=some b):i=0/\b=a\/∃j,i=j+1/\j<l.length/\l[l.length - 1 - j]?=some b:=by
 simp only [List.length_append,AzI,List.length_nil] at hi h;cases i with
 | zero =>
  rw [List.getElem?_append_right (by omega),show l.length+(0+1) - 1 - 0 - l.length=0 by omega] at h
  simp only [List.getElem?_cons_zero,AzE] at h;exact .inl ⟨rfl,h.symm⟩
 | succ j =>
  rw [List.getElem?_append_left (by omega),show l.length+(0+1) - 1 - (j+1)=l.length - 1 - j by omega] at h
  exact .inr ⟨j,rfl,by omega,h⟩
theorem Xo {g:Ci} {G:List Nat} {D:List Tm} {σ:Nat->Tm} (h:EnvK g G D σ) (hG:G.length=g.length) (hg:g.length<=500) {b u:Tm} {s:Nat} (bsc:b.sc g.length) (bw:b.wt<=Bw) (hb:HasT G b (10+s)) (hu:Sem D (b.sub σ) u):EnvK (g++[(1,b)]) (s::G) D (cns u σ):=by
 have hbw:=bw;unfold Bw at hbw;refine ⟨fun i T hi hT=>?_,fun i T hi hT=>?_⟩
 ·rcases Kj _ _ _ _ hi hT with ⟨rfl,e⟩ | ⟨j,rfl,hj,hT⟩
  ·simp only [AzF,true_and] at e;subst e;refine ⟨by simpa using bsc,bw,⟨s,?_⟩,hu⟩
   have:=IK hb [s] (by simp only [AzI,List.length_nil];omega)
   rw [Fk bsc _ (by simp only [AzI,List.length_nil];omega)] at this;exact this
  ·obtain ⟨q1,q2,⟨s',q3⟩,q4⟩:=h.v1 j T hj hT;refine ⟨?_,q2,⟨s',Sb s q1 q2 (by omega) (by omega) q3⟩,q4⟩;have e:(g++[((1:Int),b)]).length - 1 - (j+1)=g.length - 1 - j:=by simp only [List.length_append,AzI,List.length_nil];omega
   rw [e];exact q1
 ·rcases Kj _ _ _ _ hi hT with ⟨rfl,e⟩ | ⟨j,rfl,hj,hT⟩
  ·simp at e
  ·obtain ⟨q1,q2,q3,q4⟩:=h.v0 j T hj hT;refine ⟨?_,q2,Sb s q1 q2 (by omega) (by omega) q3,q4⟩;have e:(g++[((1:Int),b)]).length - 1 - (j+1)=g.length - 1 - j:=by simp only [List.length_append,AzI,List.length_nil];omega
   rw [e];exact q1
theorem Aie (T:Tm) (σ:Nat->Tm) (j:Nat):(T.sub fun x=>CX 1 σ (x+(j+1+1)))=(T.sub fun x=>σ (x+(j+1))).ren fun x=>x+1:=by
 rw [F9];congr 1
theorem R6 {g:Ci} {G:List Nat} {D:List Tm} {σ:Nat->Tm} (h:EnvK g G D σ) (hG:G.length=g.length) (hg:g.length<=500) {d P:Tm} (dsc:d.sc g.length) (dw:d.wt<=Bw) (hd:HasT G d 1) (hP:PT P) (hp:Pars (d.sub σ) P):EnvK (g++[(0,d)]) (6::G) (D++[P]) (CX 1 σ):=by
 have hdw:=dw;unfold Bw at hdw;refine ⟨fun i T hi hT=>?_,fun i T hi hT=>?_⟩
 ·rcases Kj _ _ _ _ hi hT with ⟨rfl,e⟩ | ⟨j,rfl,hj,hT⟩
  ·simp at e
  ·obtain ⟨q1,q2,⟨s',q3⟩,q4⟩:=h.v1 j T hj hT;refine ⟨?_,q2,⟨s',Sb 6 q1 q2 (by omega) (by omega) q3⟩,?_⟩
   ·have e:(g++[((0:Int),d)]).length - 1 - (j+1)=g.length - 1 - j:=by simp only [List.length_append,AzI,List.length_nil];omega
    rw [e];exact q1
   ·rw [Aie];exact Auf q4 P
 ·rcases Kj _ _ _ _ hi hT with ⟨rfl,e⟩ | ⟨j,rfl,hj,hT⟩
  ·simp only [AzF,true_and] at e;subst e;refine ⟨by simpa using dsc,dw,?_,P,0,hP,?_,rfl,by simp,by simp⟩
   ·have:=IK hd [6] (by simp only [AzI,List.length_nil];omega)
    rw [Fk dsc _ (by simp only [AzI,List.length_nil];omega)] at this;exact this
   ·have:=C6 hp fun x=>x+1
    rw [Ht hP,F9] at this;exact this
  ·obtain ⟨q1,q2,q3,P',k,q4,q5,q6,q7,q8⟩:=h.v0 j T hj hT;refine ⟨?_,q2,Sb 6 q1 q2 (by omega) (by omega) q3,P',k+1,q4,?_,?_,?_,?_⟩
   ·have e:(g++[((0:Int),d)]).length - 1 - (j+1)=g.length - 1 - j:=by simp only [List.length_append,AzI,List.length_nil];omega
    rw [e];exact q1
   ·rw [Aie]
    have:=C6 q5 fun x=>x+1
    rwa [Ht q4] at this
   ·show CX 1 σ (j+1)=vT (k+1)
    rw [Fq (by omega),Nat.add_sub_cancel,q6,Gm]
   ·simp only [List.length_append,AzI,List.length_nil];omega
   ·have e:(D++[P]).length - 1 - (k+1)=D.length - 1 - k:=by simp only [List.length_append,AzI,List.length_nil];omega
    rw [e,List.getElem?_append_left (by omega)];exact q8
theorem Ajy {G:List Nat} {i:Nat} {T a w:Tm} {k f s s':Nat} (hsc:T.sc k) (hw:T.wt<=Bw) (hk:k+i<=1000) (hT:HasT G (T.ren fun x=>x+(i+1)) s') (hn:A1 f (T.shift ((i+1:Nat):Int) 0)=some (w,0)) (ha:NfT G a s) (he:w.eta=a.eta)
  (hs:s=1/\s'=1\/10<=s/\10<=s'):∀σ:Nat->Tm,Pars (T.sub fun x=>σ (x+(i+1))) (w.sub σ)/\(s=1->w=a)/\(w=a\/Pf a):=by
 have hbw:=hw;unfold Bw at hbw;intro σ;have e:=Fk hsc (i+1) (by omega);have hts:=B5 T (i+1) 0 k hsc (by omega);rw [show ((0:Nat):Int)=0 from rfl] at hts
 have hr:=KG (GR hn hts) σ;rw [e,GM] at hr;refine ⟨hr,?_⟩;rw [<- e] at hT;have hwn:=CQ hn hT;rcases hs with ⟨rfl,rfl⟩ | ⟨h1,h2⟩
 ·rw [OJ hwn (by omega),OJ ha (by omega)] at he;exact ⟨fun _=>he,.inl he⟩
 refine ⟨fun h=>by omega,?_⟩;have key:∀{x:Tm} {s:Nat},NfT G x s->10<=s->x.eta=x/\(x.op=10\/x.op=14\/x.op=18)\/Pf x:=by
  intro x s hx hs;cases hx with
  | var=>omega
  | node _ op n ks _ sg hr hl hst hk =>
   cases hr with
   | natT=>exact .inl ⟨OJ (.node _ _ _ _ _ _ .natT hl hst hk) (by omega),.inl rfl⟩
   | tyT=>exact .inl ⟨OJ (.node _ _ _ _ _ _ .tyT hl hst hk) (by omega),.inr (.inl rfl)⟩
   | liftT =>
    obtain ⟨y,rfl⟩:=ED hl;refine .inl ⟨Gq (by decide) fun t ht=>?_,.inr (.inr rfl)⟩;rw [List.mem_singleton.1 ht];exact OJ (hk 0 y [] 1 rfl rfl) (by omega)
   | uT=>exact .inr (.inl rfl)
   | piT=>exact .inr (.inr (.inl rfl))
   | sigT=>exact .inr (.inr (.inr rfl))
   | _=>omega
 rcases key ha h1 with ⟨ea,oa⟩ | oa
 ·rw [ea] at he;rcases key hwn h2 with ⟨ew,_⟩ | ow
  ·rw [ew] at he;exact .inl he
  ·have:=XB (t:=w) (by unfold Pf at ow;omega) (by unfold Pf at ow;omega)
   rw [he] at this;unfold Pf at ow;omega
 ·exact .inr oa
def P0 (p:Tm):Prop:=p=.mk 15 0 []\/∃op:Int,(op=16\/op=17)/\p=.mk op 0 [.mk 15 0 [],.mk 15 0 []]
theorem AkM (r:Tm):P0 (r.plainT 1):=by
 have h1:=Int.emod_nonneg r.n (show (4:Int)≠0 by decide)
 have h2:=Int.emod_lt_of_pos r.n (show (0:Int)<4 by decide)
 rw [Tm.plainT];split
 ·exact .inl rfl
 ·exact .inr ⟨_,by omega,rfl⟩
theorem Aqa (k:Nat):(Tm.mk 15 0 []).sc k:=Ch (by decide) (by decide) (BC (by decide) (by decide) (by decide))
theorem AvI {p:Tm} (h:P0 p) (k:Nat):p.sc k:=by
 rcases h with rfl | ⟨op,ho,rfl⟩
 ·exact Aqa k
 ·rcases ho with rfl | rfl<;>exact Cp (by decide) (by decide) (BC (by decide) (by decide) (by decide)) (Aqa _) (Aqa _)
theorem Gh {X:Tm} (σ:Nat->Tm) (h:Pf X):Pf (X.sub σ):=by
 obtain ⟨op,n,ks⟩:=X;unfold Pf at h ⊢;simp only [Tm.op] at h;rw [CH (by omega)];exact h
theorem Mj {op m:Int} {ks:List Tm} {k:Nat} (h:(Tm.mk op m ks).sc k) (h1:op≠1) (h2:op≠2) (h26:op≠26) (h25:op≠25):m=0:=by
 rw [Tm.sc,if_neg h1] at h
 have:=h.2.1
 unfold BK at this;rw [if_neg h2,if_neg h26,if_neg h25] at this;exact this
theorem IJ {a:Tm} {o:Int} {k:Nat} (h:a.sc k) (ho:a.op=o) (har:ar o=some 0) (h1:o≠1) (h2:o≠2) (h26:o≠26) (h25:o≠25):a=.mk o 0 []:=by
 obtain ⟨op,m,ks⟩:=a;simp only [Tm.op] at ho;subst ho;have hm:=Mj h h1 h2 h26 h25;rw [Tm.sc,har] at h;have hl:ks=[]:=List.eq_nil_of_length_eq_zero (Option.some.inj h.1).symm;rw [hm,hl]
theorem ZP {G:List Nat} {op n:Int} {x y:Tm} (h:NfT G (.mk op n [x,y]) 1) (ho:op=16\/op=17):NfT G x 1/\NfT G y 1:=by
 cases h with
 | node _ _ _ _ _ sg hr hl hst hk =>
  cases hr with
  | tfun=>exact ⟨hk 0 x [] 1 rfl rfl,hk 1 y [] 1 rfl rfl⟩
  | tpro=>exact ⟨hk 0 x [] 1 rfl rfl,hk 1 y [] 1 rfl rfl⟩
  | _=>omega
theorem Aj6 {G:List Nat} {n:Int} {x:Tm} {s:Nat} (h:NfT G (.mk 18 n [x]) (10+s)):NfT G x 1:=by
 generalize hq:10+s=q at h;cases h with
 | node _ _ _ _ _ sg hr hl hst hk =>
  cases hr with
  | liftT=>exact hk 0 x [] 1 rfl rfl
  | liftU=>omega
theorem sc2 {op n:Int} {x y:Tm} {k:Nat} (h:(Tm.mk op n [x,y]).sc k) (h1:op≠1) (b0:Am op 0=0) (b1:Am op 1=0):x.sc k/\y.sc k:=by
 rw [Tm.sc,if_neg h1] at h;simp only [Tm.scL,b0,b1,Nat.zero_add,Nat.add_zero,and_true] at h;exact ⟨h.2.2.1,h.2.2.2⟩
theorem sc1 {op n:Int} {x:Tm} {k:Nat} (h:(Tm.mk op n [x]).sc k) (h1:op≠1) (b0:Am op 0=0):x.sc k:=by
 rw [Tm.sc,if_neg h1] at h;simp only [Tm.scL,b0,Nat.add_zero,and_true] at h;exact h.2.2
theorem Alc {t:Tm} {k:Nat} (h:t.sc k) (hw:k+2 * t.wt+1<=9000000000000000000) (u:Tm) (σ:Nat->Tm):(t.shift 1 0).sub (cns u σ)=t.sub σ:=K8 h 1 hw _
theorem Asf {t:Tm} {k:Nat} (h:t.sc k) (hw:k+2 * t.wt+2<=9000000000000000000) (u v:Tm) (σ:Nat->Tm):(t.shift 2 0).sub (cns u (cns v σ))=t.sub σ:=K8 h 2 hw _
theorem AvO {t:Tm} {k:Nat} (h:t.sc k) (hw:k+2 * t.wt+1<=9000000000000000000) (σ:Nat->Tm):(t.shift 1 0).sub (CX 1 σ)=(t.sub σ).ren fun x=>x+1:=by
 have:=K8 h 1 hw (CX 1 σ)
 rw [show ((1:Nat):Int)=1 from rfl] at this
 rw [this,F9];congr 1
theorem AfU {t P:Tm} {k:Nat} (h:t.sc k) (hw:k+2 * t.wt+1<=9000000000000000000) {σ:Nat->Tm} (hP:PT P) (hp:Pars (t.sub σ) P):Pars ((t.shift 1 0).sub (CX 1 σ)) P:=by
 rw [AvO h hw]
 have:=C6 hp fun x=>x+1
 rwa [Ht hP] at this
theorem MG {P Q:Tm} (h:P.wt<=max Q.wt 3):mw P<=mw Q:=by unfold mw;omega
theorem fl {k e:Nat} {g:Ci} {a t:Tm} (h:Gr k e g a t):∀(G:List Nat) (D:List Tm) (σ:Nat->Tm),CtxT g G->EnvK g G D σ ->
  (k=0->WFT (t.sub σ))/\(k=1->a.sc g.length->a.wt<=Bw->∀s,HasT G a (10+s)->WFT (a.sub σ)->Sem D (a.sub σ) (t.sub σ)) /\
  (k=2->a.sc g.length->a.wt<=Bw->HasT G a 1->∀P,PT P->Pars (a.sub σ) P->Avq D P (t.sub σ)) /\
  (k=3->g.length<=60->NOk g.length a->∀s,NfT G a (10+s)->WFT (a.sub σ)->Sem D (a.sub σ) (t.sub σ)) /\
  (k=4->g.length<=60->NOk g.length a->NfT G a 1->∀P,PT P->Pars (a.sub σ) P->Avq D P (t.sub σ)):=by
 have nsc:∀k,(Tm.mk 10 0 []).sc k:=fun k=>Ch (by decide) (by decide) (BC (by decide) (by decide) (by decide));have tsc:∀k,(Tm.mk 14 0 []).sc k:=fun k=>Ch (by decide) (by decide) (BC (by decide) (by decide) (by decide));have isc:∀k,(Tm.mk 15 0 []).sc k:=fun k=>Ch (by decide) (by decide) (BC (by decide) (by decide) (by decide));have small:∀{op n:Int},(Tm.mk op n []).wt<=Bw:=fun {op n}=>by simp [Tm.wt,Tm.wtL,Bw]
 have w3:∀{x:Tm},x.wt<=3000->x.wt<=Bw:=fun {x} h=>by unfold Bw;omega
 have plw:∀r:Tm,(r.plainT 1).wt<=3:=fun r=>by have:=DP 1 r;omega
 have plp:∀(r:Tm) (σ:Nat->Tm),Pars ((r.plainT 1).sub σ) (r.plainT 1):=fun r σ=>by rw [Yd (Cu 1 r)];exact .refl _
 have pls:∀(r:Tm) (k:Nat),(r.plainT 1).sc k:=fun r k=>AvI (AkM r) k;have nfN:∀(G:List Nat),HasT G (.mk 10 0 []) (10+0):=fun G=>ht0 .natT;have sN:∀σ:Nat->Tm,(Tm.mk 10 0 []).sub σ=natT:=fun σ=>J2 (by decide);have sT:∀σ:Nat->Tm,(Tm.mk 14 0 []).sub σ=tyT:=fun σ=>J2 (by decide);have sI:∀σ:Nat->Tm,(Tm.mk 15 0 []).sub σ=G9:=fun σ=>J2 (by decide)
 induction h with
 | tnat e g a=>intro G D σ hG hE;exact ⟨fun _=>by rw [sN];exact .inl (.refl _),by omega,by omega,by omega,by omega⟩
 | tty e g a=>intro G D σ hG hE;exact ⟨fun _=>by rw [sT];exact .inr (.inl (.refl _)),by omega,by omega,by omega,by omega⟩
 | tu e g a=>intro G D σ hG hE;exact ⟨fun _=>.inr (.inr (.inr ⟨_,.refl _,Gh σ (.inl rfl)⟩)),by omega,by omega,by omega,by omega⟩
 | tlp e g a r=>intro G D σ hG hE;exact ⟨fun _=>.inr (.inr (.inl ⟨r.plainT 1,Cu 1 r,by rw [Pd (by decide) rfl];exact ps1 (by decide) (plp r σ)⟩)),by omega,by omega,by omega,by omega⟩
 | tpi e g a x y op ho h6 hgl hx h1 h2 ih1 ih2 =>
  intro G D σ hG hE;exact ⟨fun _=>.inr (.inr (.inr ⟨_,.refl _,Gh σ (by unfold Pf;simp only [Tm.op];omega)⟩)),by omega,by omega,by omega,by omega⟩
 | tlift e g a t h6 h1 ih =>
  intro G D σ hG hE;refine ⟨fun _=>?_,by omega,by omega,by omega,by omega⟩
  have:=(ih G D σ hG hE).2.1 rfl (tsc _) small 1 (ht0 .tyT) (by rw [sT];exact .inr (.inl (.refl _)))
  rw [sT] at this;obtain ⟨P,hP,hp⟩:=XA this;exact .inr (.inr (.inl ⟨P,hP,by rw [Pd (by decide) rfl];exact ps1 (by decide) hp⟩))
 | grow e g a0 a t f hn hg ha h1 ih =>
  intro G D σ hG hE;refine ⟨by omega,fun _ asc aw s hs hw=>?_,by omega,by omega,by omega⟩;have hr:=KG (GR hn asc) σ;exact Akt ((ih G D σ hG hE).2.2.2.1 rfl hg ha s (CQ hn hs) (AkR hw hr)) hr
 | objc e g a0 a t f hn hg ha h1 ih =>
  intro G D σ hG hE;refine ⟨by omega,by omega,fun _ asc aw hs P hP hp=>?_,by omega,by omega⟩;have hr:=KG (GR hn asc) σ;exact (ih G D σ hG hE).2.2.2.2 rfl hg ha (CQ hn hs) P hP (LB hp (Gi hP) hr)
 | var1 e g a i h =>
  intro G D σ hG hE;refine ⟨by omega,by omega,by omega,fun _ hl ha s hs hw=>?_,by omega⟩;obtain ⟨hi,T,f,w,hg,hn,he⟩:=h;obtain ⟨q1,q2,⟨s',q3⟩,q4⟩:=hE.v1 i T hi hg;obtain ⟨r1,_,r2⟩:=Ajy q1 q2 (by omega) q3 hn hs he (.inr ⟨by omega,by omega⟩) σ;have ev:(Tm.mk 1 (i:Int) []).sub σ=σ i:=Fi i σ;rw [ev];rcases r2 with rfl | r2
  ·exact Akf q4 r1
  ·exact .inr (.inr (.inr ⟨_,.refl _,Gh σ r2⟩))
 | var0 e g a i h =>
  intro G D σ hG hE;refine ⟨by omega,by omega,by omega,by omega,fun _ hl ha hs P hP hp=>?_⟩;obtain ⟨hi,T,f,w,hg,hn,he⟩:=h;obtain ⟨q1,q2,q3,P',j,q4,q5,q6,q7,q8⟩:=hE.v0 i T hi hg;obtain ⟨r1,r2,_⟩:=Ajy q1 q2 (by omega) q3 hn hs he (.inl ⟨rfl,rfl⟩) σ;have ew:=r2 rfl;subst ew;have ev:(Tm.mk 1 (i:Int) []).sub σ=σ i:=Fi i σ;rw [ev,q6];have eP:=Akp q4 hP (LB q5 (Gi q4) r1) hp;subst eP;exact ⟨_,.refl _,.var D j _ q4 (by unfold mw;omega) q7 q8⟩
 | fst e g a b c x h6 hb h1 h2 h3 ih1 ih2 ih3 =>
  intro G D σ hG hE;refine ⟨by omega,by omega,by omega,fun _ hl ha s hs hw=>?_,by omega⟩;have hc:=(ih3 G D σ hG hE).2.1 rfl ha.sc (w3 ha.wt) s (A2 hs) hw;refine Kv hc ?_;rw [Pd (by decide) rfl,CH (by decide)];simp only [Tm.subL,show Am 7 0=0 from rfl,show Am 7 (0+1)=0 from rfl,show Am 7 (0+1+1)=0 from rfl,CS]
  exact C5 (.fst 0 0 _ _ _ _ (A6 _))
 | app e g a b c x h6 hb h1 h2 h3 ih1 ih2 ih3 =>
  intro G D σ hG hE;refine ⟨by omega,by omega,by omega,fun _ hl ha s hs hw=>?_,by omega⟩;have aw:=ha.wt;have bw:=hb.wt;obtain ⟨s1,p1,p2⟩:=(Ajc h1 G hG).1 rfl;have wb:=(ih1 G D σ hG hE).1 rfl;have hx:=(ih2 G D σ hG hE).2.1 rfl hb.sc (by unfold Bw;omega) s1 p2 wb;have e1:=Alc ha.sc (by omega) (x.sub σ) σ;have hc:=(ih3 (s1::G) D (cns (x.sub σ) σ) (FP hG p2 (Xr hb (by omega))) (Xo hE hG.len (by omega) hb.sc (by unfold Bw;omega) p2 hx)).2.1 rfl (by have:=B5 a 1 0 g.length ha.sc (by omega);simpa using this) (by rw [BG];exact w3 aw) s (up1 hG (by omega) (A2 hs) (by omega) s1) (by rw [e1];exact hw);rw [e1] at hc;refine Kv hc ?_;rw [KZ (by decide) rfl,KZ (by decide) rfl,show Am 4 1=1 from rfl,show Am 5 1=0 from rfl,CS]
  have:=Par.beta 0 0 (b.sub σ) _ _ _ _ (A6 (c.sub (CX 1 σ))) (A6 (x.sub σ))
  rw [EV,Aqs] at this;exact C5 this
 | recc e g a n z s h6 ha h1 h2 h3 ih1 ih2 ih3 =>
  intro G D σ hG hE;refine ⟨by omega,by omega,by omega,fun _ hl hna τ hs hw=>?_,by omega⟩;have aw:=hna.wt;have hn:=(ih1 G D σ hG hE).2.1 rfl (nsc _) small 0 (nfN _) (by rw [sN];exact .inl (.refl _));rw [sN] at hn;obtain ⟨k,hk⟩:=ZZ hn;have hz:=(ih2 G D σ hG hE).2.1 rfl hna.sc (w3 aw) τ (A2 hs) hw;have hs1:=up1 hG (by omega) (A2 hs) (by omega) 0;have g1:=FP hG (T:=.mk 10 0 []) (s:=0) (ht0 .natT) (by simp [Tm.vb,Tm.vbL]);have a1sc:(a.shift 1 0).sc (g.length+1):=by have:=B5 a 1 0 g.length hna.sc (by omega);simpa using this
  have a2sc:(a.shift 2 0).sc (g.length+2):=by have:=B5 a 2 0 g.length hna.sc (by omega);simpa using this
  have g2:=FP g1 hs1 (PD _ (g.length+1) a1sc (by rw [BG];omega));have hs2:=up2 hG (by omega) (A2 hs) (by omega) τ 0;obtain ⟨R,hR⟩:∃R:Tm->Tm,R=fun q=>.mk 13 0 [(a.shift 1 0).sub (CX 1 σ),z.sub σ,s.sub (CX 2 σ),q]:=⟨_,rfl⟩;have et:(Tm.mk 13 0 [a.shift 1 0,z,s,n]).sub σ=R (n.sub σ):=by
   rw [hR,CH (by decide)];simp only [Tm.subL,show Am 13 0=1 from rfl,show Am 13 (0+1)=0 from rfl,show Am 13 (0+1+1)=2 from rfl,show Am 13 (0+1+1+1)=0 from rfl,CS]
  rw [et];have hp:Pars (R (n.sub σ)) (R (CG k)):=by rw [hR];exact ps4 hk
  refine Kv ?_ hp;clear hp hk hn et
  induction k with
  | zero=>exact Kv hz (by rw [hR];exact C5 (.recz 0 0 _ _ _ _ [] (A6 _)))
  | succ k ihk =>
   have e1:=Alc hna.sc (by omega) (CG k) σ;have e2:=Asf hna.sc (by omega) (R (CG k)) (CG k) σ;have E1:=Xo (u:=CG k) hE hG.len (by omega) (nsc _) small (nfN G) (by rw [sN];exact .inl ⟨.refl _,k,.refl _⟩);have E2:=Xo (u:=R (CG k)) E1 g1.len (by simp only [List.length_append,AzI,List.length_nil];omega) (by simpa using a1sc) (by rw [BG];exact w3 aw) hs1 (by rw [e1];exact ihk)
   have:=(ih3 _ D _ g2 E2).2.1 rfl (by simpa using a2sc) (by rw [BG];exact w3 aw) τ hs2 (by rw [e2];exact hw)
   rw [e2] at this;refine Kv this ?_;have q:=Par.recs 0 0 _ _ _ _ _ _ _ _ (A6 ((a.shift 1 0).sub (CX 1 σ))) (A6 (z.sub σ)) (A6 (s.sub (CX 2 σ))) (A6 (CG k));rw [EV,Am7] at q;rw [hR];exact C5 q
 | suc e g a n h6 ha h1 ih =>
  intro G D σ hG hE;refine ⟨by omega,by omega,by omega,fun _ hl hna s hs hw=>?_,by omega⟩;have hn:=(ih G D σ hG hE).2.1 rfl hna.sc (w3 hna.wt) s (A2 hs) hw;have ea:=IJ hna.sc ha rfl (by decide) (by decide) (by decide) (by decide);subst ea;rw [sN] at hn ⊢;obtain ⟨k,hk⟩:=ZZ hn;exact .inl ⟨.refl _,k+1,by rw [Pd (by decide) rfl,CG];exact ps1 (by decide) hk⟩
 | num e g a j ha hj =>
  intro G D σ hG hE;refine ⟨by omega,by omega,by omega,fun _ hl hna s hs hw=>?_,by omega⟩;have ea:=IJ hna.sc ha rfl (by decide) (by decide) (by decide) (by decide);subst ea;rw [sN,V6];exact .inl ⟨.refl _,j,.refl _⟩
 | tint e g a ha =>
  intro G D σ hG hE;refine ⟨by omega,by omega,by omega,fun _ hl hna s hs hw=>?_,by omega⟩;have ea:=IJ hna.sc ha rfl (by decide) (by decide) (by decide) (by decide);subst ea;rw [sT,sI];exact .inr (.inl ⟨.refl _,G9,.int,.refl _⟩)
 | tfun e g a x y op ho h6 ha h1 h2 ih1 ih2 =>
  intro G D σ hG hE;refine ⟨by omega,by omega,by omega,fun _ hl hna s hs hw=>?_,by omega⟩;have q1:=(ih1 G D σ hG hE).2.1 rfl hna.sc (w3 hna.wt) s (A2 hs) hw;have q2:=(ih2 G D σ hG hE).2.1 rfl hna.sc (w3 hna.wt) s (A2 hs) hw;have ea:=IJ hna.sc ha rfl (by decide) (by decide) (by decide) (by decide);subst ea;rw [sT] at q1 q2 ⊢;obtain ⟨P,hP,hp⟩:=XA q1;obtain ⟨Q,hQ,hq⟩:=XA q2;have b0:Am op 0=0:=by rcases ho with rfl | rfl<;>rfl
  have b1:Am op 1=0:=by rcases ho with rfl | rfl<;>rfl
  exact .inr (.inl ⟨.refl _,.mk op 0 [P,Q],.bin op P Q ho hP hQ,by rw [KZ (by omega) b0,b1,CS];exact ps2 (by omega) hp hq⟩)
 | uni e g a n ha =>
  intro G D σ hG hE;exact ⟨by omega,by omega,by omega,fun _ hl hna s hs hw=>.inr (.inr (.inr ⟨_,.refl _,Gh σ (.inl ha)⟩)),by omega⟩
 | unat e g a ha =>
  intro G D σ hG hE;exact ⟨by omega,by omega,by omega,fun _ hl hna s hs hw=>.inr (.inr (.inr ⟨_,.refl _,Gh σ (.inl ha)⟩)),by omega⟩
 | uty e g a ha =>
  intro G D σ hG hE;exact ⟨by omega,by omega,by omega,fun _ hl hna s hs hw=>.inr (.inr (.inr ⟨_,.refl _,Gh σ (.inl ha)⟩)),by omega⟩
 | ult e g a ha =>
  intro G D σ hG hE;exact ⟨by omega,by omega,by omega,fun _ hl hna s hs hw=>.inr (.inr (.inr ⟨_,.refl _,Gh σ (.inl ha)⟩)),by omega⟩
 | upi e g a x y op ho h6 ha hx h1 h2 ih1 ih2 =>
  intro G D σ hG hE;exact ⟨by omega,by omega,by omega,fun _ hl hna s hs hw=>.inr (.inr (.inr ⟨_,.refl _,Gh σ (.inl ha)⟩)),by omega⟩
 | lam e g n d c x h1 ih =>
  intro G D σ hG hE;exact ⟨by omega,by omega,by omega,fun _ hl hna s hs hw=>.inr (.inr (.inr ⟨_,.refl _,Gh σ (.inr (.inl rfl))⟩)),by omega⟩
 | pair e g n d c x y hx h1 h2 ih1 ih2 =>
  intro G D σ hG hE;exact ⟨by omega,by omega,by omega,fun _ hl hna s hs hw=>.inr (.inr (.inr ⟨_,.refl _,Gh σ (.inr (.inr rfl))⟩)),by omega⟩
 | quo e g n d x h1 ih =>
  intro G D σ hG hE;refine ⟨by omega,by omega,by omega,fun _ hl hna s hs hw=>?_,by omega⟩;have hn0:=Mj hna.sc (by decide) (by decide) (by decide) (by decide);subst hn0;have hw':=hna.wt;simp only [Tm.wt,Tm.wtL] at hw';rw [Pd (by decide) rfl] at hw ⊢;obtain ⟨P,hP,hp⟩:=Ajs hw;obtain ⟨c,q1,q2⟩:=(ih G D σ hG hE).2.2.1 rfl (sc1 hna.sc (by decide) rfl) (w3 (by omega)) (A2 (Aj6 hs)) P hP hp;rw [Pd (by decide) rfl];exact .inr (.inr (.inl ⟨P,c,hP,ps1 (by decide) hp,ps1 (by decide) q1,q2⟩))
 | oif e g a c x y h6 h1 h2 h3 ih1 ih2 ih3 =>
  intro G D σ hG hE;refine ⟨by omega,by omega,by omega,by omega,fun _ hl ha hs P hP hp=>?_⟩;obtain ⟨c1,q1,q2⟩:=(ih1 G D σ hG hE).2.2.1 rfl (isc _) small (ht0 .tint) G9 .int (by rw [sI];exact .refl _);obtain ⟨c2,q3,q4⟩:=(ih2 G D σ hG hE).2.2.1 rfl ha.sc (w3 ha.wt) (A2 hs) P hP hp;obtain ⟨c3,q5,q6⟩:=(ih3 G D σ hG hE).2.2.1 rfl ha.sc (w3 ha.wt) (A2 hs) P hP hp;refine ⟨.mk 27 0 [c1,c2,c3],?_,.oif D c1 c2 c3 P (FZ (MG (by simp [G9,Tm.wt,Tm.wtL];omega)) q2) q4 q6⟩;rw [CH (by decide)];simp only [Tm.subL,show Am 27 0=0 from rfl,show Am 27 (0+1)=0 from rfl,show Am 27 (0+1+1)=0 from rfl,CS]
  exact ps3 (by decide) q1 q3 q5
 | olet e g a r x y h6 h1 h2 ih1 ih2 =>
  intro G D σ hG hE;refine ⟨by omega,by omega,by omega,by omega,fun _ hl ha hs P hP hp=>?_⟩;have aw:=ha.wt;have rw':=plw r;have a1sc:(a.shift 1 0).sc (g.length+1):=by have:=B5 a 1 0 g.length ha.sc (by omega);simpa using this
  obtain ⟨c1,q1,q2⟩:=(ih1 G D σ hG hE).2.2.1 rfl (pls r _) (w3 (by omega)) (BA G 1 r) (r.plainT 1) (Cu 1 r) (plp r σ);obtain ⟨c2,q3,q4⟩:=(ih2 (6::G) (D++[r.plainT 1]) (CX 1 σ) (FC hG _) (R6 hE hG.len (by omega) (pls r _) (w3 (by omega)) (BA G 1 r) (Cu 1 r) (plp r σ))).2.2.1 rfl (by simpa using a1sc) (by rw [BG];exact w3 aw) (up1 hG (by omega) (A2 hs) (by omega) 6) P hP (AfU ha.sc (by omega) hP hp);refine ⟨.mk 28 0 [c1,c2],?_,.olet D c1 c2 (r.plainT 1) P (FZ (MG (by omega)) q2) q4⟩;rw [KZ (by decide) rfl,show Am 28 1=1 from rfl]
  exact ps2 (by decide) q1 q3
 | oapp e g a r x y h6 h1 h2 ih1 ih2 =>
  intro G D σ hG hE;refine ⟨by omega,by omega,by omega,by omega,fun _ hl ha hs P hP hp=>?_⟩;have aw:=ha.wt;have rw':=plw r;have a1sc:(a.shift 1 0).sc (g.length+1):=by have:=B5 a 1 0 g.length ha.sc (by omega);simpa using this
  obtain ⟨c1,q1,q2⟩:=(ih1 G D σ hG hE).2.2.1 rfl (pls r _) (w3 (by omega)) (BA G 1 r) (r.plainT 1) (Cu 1 r) (plp r σ);obtain ⟨c2,q3,q4⟩:=(ih2 (6::G) (D++[r.plainT 1]) (CX 1 σ) (FC hG _) (R6 hE hG.len (by omega) (pls r _) (w3 (by omega)) (BA G 1 r) (Cu 1 r) (plp r σ))).2.2.1 rfl (by simpa using a1sc) (by rw [BG];exact w3 aw) (up1 hG (by omega) (A2 hs) (by omega) 6) P hP (AfU ha.sc (by omega) hP hp);refine ⟨.mk 21 0 [.mk 20 0 [r.plainT 1,c2],c1],?_,.oapp D _ c1 (r.plainT 1) P (.olam D (r.plainT 1) c2 P (Cu 1 r) (by unfold mw;simp only [Tm.wt,Tm.wtL];omega) q4) (FZ (MG (by omega)) q2)⟩;rw [KZ (by decide) rfl,KZ (by decide) rfl,show Am 20 1=1 from rfl,show Am 21 1=0 from rfl,CS]
  exact ps2 (by decide) (ps2 (by decide) (plp r σ) q3) q1
 | ofst e g a x y h6 h1 h2 ih1 ih2 =>
  intro G D σ hG hE;refine ⟨by omega,by omega,by omega,by omega,fun _ hl ha hs P hP hp=>?_⟩;obtain ⟨c1,q1,q2⟩:=(ih1 G D σ hG hE).2.2.1 rfl ha.sc (w3 ha.wt) (A2 hs) P hP hp;obtain ⟨c2,q3,q4⟩:=(ih2 G D σ hG hE).2.2.1 rfl (isc _) small (ht0 .tint) G9 .int (by rw [sI];exact .refl _);refine ⟨.mk 23 0 [.mk 22 0 [c1,c2]],?_,.ofst D _ P G9 (.opair D c1 c2 P G9 (by unfold mw;simp only [G9,Tm.wt,Tm.wtL];omega) q2 (FZ (MG (by simp [G9,Tm.wt,Tm.wtL];omega)) q4))⟩;rw [Pd (by decide) rfl,KZ (by decide) rfl,show Am 22 1=0 from rfl,CS]
  exact ps1 (by decide) (ps2 (by decide) q1 q3)
 | ofix e g a x h6 h1 ih =>
  intro G D σ hG hE;refine ⟨by omega,by omega,by omega,by omega,fun _ hl ha hs P hP hp=>?_⟩;have aw:=ha.wt;have a1sc:(a.shift 1 0).sc (g.length+1):=by have:=B5 a 1 0 g.length ha.sc (by omega);simpa using this
  obtain ⟨c2,q3,q4⟩:=(ih (6::G) (D++[P]) (CX 1 σ) (FC hG _) (R6 hE hG.len (by omega) ha.sc (w3 aw) (A2 hs) hP hp)).2.2.1 rfl (by simpa using a1sc) (by rw [BG];exact w3 aw) (up1 hG (by omega) (A2 hs) (by omega) 6) P hP (AfU ha.sc (by omega) hP hp);refine ⟨.mk 29 0 [P,c2],?_,.ofix D P c2 hP (by unfold mw;omega) q4⟩;rw [KZ (by decide) rfl,show Am 29 1=1 from rfl]
  exact ps2 (by decide) hp q3
 | spl e g a x h6 h1 ih =>
  intro G D σ hG hE;refine ⟨by omega,by omega,by omega,by omega,fun _ hl ha hs P hP hp=>?_⟩;have aw:=ha.wt;have hx:=(ih G D σ hG hE).2.1 rfl (Fm rfl (by decide) (BC (by decide) (by decide) (by decide)) ha.sc) (by simp only [Tm.wt,Tm.wtL];unfold Bw;omega) 3 (ht1 .liftT (A2 hs)) (by rw [Pd (by decide) rfl];exact .inr (.inr (.inl ⟨P,hP,ps1 (by decide) hp⟩)));rw [Pd (by decide) rfl] at hx;obtain ⟨P',c,q1,q2,q3,q4⟩:=AjX hx;have eP:=Akp q1 hP q2 hp;subst eP;refine ⟨c,?_,q4⟩;rw [Pd (by decide) rfl];exact Bz (ps1 (by decide) q3) (C5 (.splq c c (A6 c)))
 | oint e g a n ha =>
  intro G D σ hG hE;refine ⟨by omega,by omega,by omega,by omega,fun _ hl hna hs P hP hp=>?_⟩;have ea:=IJ hna.sc ha rfl (by decide) (by decide) (by decide) (by decide);subst ea;rw [sI] at hp
  have:=Y4 .int hp
  subst this;rw [J2 (by decide)];exact ⟨_,.refl _,.oint D n (by unfold mw;omega)⟩
 | oprim e g a p q n h6 ha h1 h2 ih1 ih2 =>
  intro G D σ hG hE;refine ⟨by omega,by omega,by omega,by omega,fun _ hl hna hs P hP hp=>?_⟩;obtain ⟨c1,q1,q2⟩:=(ih1 G D σ hG hE).2.2.1 rfl hna.sc (w3 hna.wt) (A2 hs) P hP hp;obtain ⟨c2,q3,q4⟩:=(ih2 G D σ hG hE).2.2.1 rfl hna.sc (w3 hna.wt) (A2 hs) P hP hp;have ea:=IJ hna.sc ha rfl (by decide) (by decide) (by decide) (by decide);subst ea;rw [sI] at hp
  have:=Y4 .int hp
  subst this;refine ⟨.mk 26 n [c1,c2],?_,.oprim D n c1 c2 q2 q4⟩;rw [KZ (by decide) rfl,show Am 26 1=0 from rfl,CS]
  exact ps2 (by decide) q1 q3
 | olam e g n d c b h1 ih =>
  intro G D σ hG hE;refine ⟨by omega,by omega,by omega,by omega,fun _ hl ha hs P hP hp=>?_⟩;have aw:=ha.wt;simp only [Tm.wt,Tm.wtL] at aw;have hn0:=Mj ha.sc (by decide) (by decide) (by decide) (by decide);subst hn0;obtain ⟨dsc,csc⟩:=sc2 ha.sc (by decide) rfl rfl;obtain ⟨hd,hc⟩:=ZP hs (.inl rfl);rw [KZ (by decide) rfl,show Am 16 1=0 from rfl,CS] at hp
  obtain ⟨P1,P2,rfl,r1,r2⟩:=Afe hp _ _ _ _ rfl (by decide);obtain ⟨p1,p2,_⟩:=WL hP;have c1sc:(c.shift 1 0).sc (g.length+1):=by have:=B5 c 1 0 g.length csc (by omega);simpa using this
  obtain ⟨c2,q3,q4⟩:=(ih (6::G) (D++[P1]) (CX 1 σ) (FC hG _) (R6 hE hG.len (by omega) dsc (w3 (by omega)) (A2 hd) p1 r1)).2.2.1 rfl (by simpa using c1sc) (by rw [BG];exact w3 (by omega)) (up1 hG (by omega) (A2 hc) (by omega) 6) P2 p2 (AfU csc (by omega) p2 r2);refine ⟨.mk 20 0 [P1,c2],?_,.olam D P1 c2 P2 p1 (by unfold mw;omega) (FZ (MG (by simp only [Tm.wt,Tm.wtL];omega)) q4)⟩;rw [KZ (by decide) rfl,show Am 20 1=1 from rfl]
  exact ps2 (by decide) r1 q3
 | opair e g n d c p q h1 h2 ih1 ih2 =>
  intro G D σ hG hE;refine ⟨by omega,by omega,by omega,by omega,fun _ hl ha hs P hP hp=>?_⟩;have aw:=ha.wt;simp only [Tm.wt,Tm.wtL] at aw;have hn0:=Mj ha.sc (by decide) (by decide) (by decide) (by decide);subst hn0;obtain ⟨dsc,csc⟩:=sc2 ha.sc (by decide) rfl rfl;obtain ⟨hd,hc⟩:=ZP hs (.inr rfl);rw [KZ (by decide) rfl,show Am 17 1=0 from rfl,CS] at hp
  obtain ⟨P1,P2,rfl,r1,r2⟩:=Afe hp _ _ _ _ rfl (by decide);obtain ⟨p1,p2,_⟩:=WL hP;obtain ⟨c1,q1,q2⟩:=(ih1 G D σ hG hE).2.2.1 rfl dsc (w3 (by omega)) (A2 hd) P1 p1 r1;obtain ⟨c2,q3,q4⟩:=(ih2 G D σ hG hE).2.2.1 rfl csc (w3 (by omega)) (A2 hc) P2 p2 r2;refine ⟨.mk 22 0 [c1,c2],?_,.opair D c1 c2 P1 P2 (by unfold mw;omega) (FZ (MG (by simp only [Tm.wt,Tm.wtL];omega)) q2) (FZ (MG (by simp only [Tm.wt,Tm.wtL];omega)) q4)⟩;rw [KZ (by decide) rfl,show Am 22 1=0 from rfl,CS]
  exact ps2 (by decide) q1 q3
theorem gb1 (a:FV):OZ 400 [.ext 0] 0 [.row [.fv a] false]=true:=P9 [a]
theorem ob1 (a:FV):okB 1 [.row [.fv a] false]=true:=Qn [a]
theorem Apq (a a':FV):OneX [.row [.fv a] false] [.row [.fv a'] false]:=⟨gb1 ..,rfl,rfl,ob1 ..⟩
theorem AqM {ks:List Bool} (hks:∀b∈ks,b=false) {ih:Aa} {f:FuncId} {a0:IV} {x0:FV} {args:List IV} {vs:List FV} {w:FV} {ext ext':List Blk} (h0:Bo a0=some x0) (hz:B4 args=some vs) (X:OneX ext ext') (hr:C7 (ih f (.fv x0 :: .ptr (.ext 0) 0::vs.map .fv) ⟨[],ext⟩) w ext')
  (own:List (Nat×Blk)) (k:IV->Hp->List Ref->List Ref->Option (IV×Hp)):Ai (false::true::ks) false false ih f (a0 :: .ptr (.ext 0) 0::args) ⟨own,ext⟩ k=k (.fv w) ⟨own,ext'⟩ [.ext 0] [.ext 0]:=by
 rw [Pp,AnS,Np _ _ _ _ h0,AiU,AgX,UC 0 args _ _ _ _ ks hks hz]
 have:=Xv (r1:=.ext 0) (rs1:=[]) hr X.g (by rw [X.l,X.l']) (by rw [X.l];exact X.o) own (ih f (.fv x0 :: .ptr (.ext 0) 0::vs.map .fv) ⟨[],[]⟩) [] [] (EF (false::true::ks) false false ih f (a0 :: .ptr (.ext 0) 0::args) ⟨own,ext⟩ k) k
 refine this.trans ?_;rw [X.l];rfl
theorem ZW {ih:Aa} {f:FuncId} {a b:IV} {x y w:FV} {ext ext':List Blk} (hr:C7 (ih f [.fv x,.ptr (.ext 0) 0,.fv y] ⟨[],ext⟩) w ext') (X:OneX ext ext') (ha:Bo a=some x) (hb:Bo b=some y) (own:List (Nat×Blk))
  (k:IV->Hp->List Ref->List Ref->Option (IV×Hp)):Ai [false,true,false] false false ih f [a,.ptr (.ext 0) 0,b] ⟨own,ext⟩ k=k (.fv w) ⟨own,ext'⟩ [.ext 0] [.ext 0]:=AqM (ks:=[false]) (by simp) ha (AhF hb) X hr own k
theorem Aqb {ks:List Bool} (hks:∀b∈ks,b=false) {ih:Aa} {f:FuncId} {a0:IV} {x0:FV} {args:List IV} {vs:List FV} {w:FV} {s:Nat} {st st':List FV} {own:List (Nat×Blk)} (h0:Bo a0=some x0) (hz:B4 args=some vs) (hl:Aw s own=some (.row (st.map .fv) false))
  (hr:C7 (ih f (.fv x0 :: .ptr (.ext 0) 0::vs.map .fv) ⟨[],[.row (st.map .fv) false]⟩) w [.row (st'.map .fv) false]) (k:IV->Hp->List Ref->List Ref->Option (IV×Hp)) :
  Ai (false::true::ks) false false ih f (a0 :: .ptr (.own s) 0::args) ⟨own,[]⟩ k=k (.fv w) ⟨Bf s (.row (st'.map .fv) false) own,[]⟩ [.own s] [.own s]:=by
 obtain ⟨v,own',e1,hfz⟩:=hr;obtain ⟨u,hu⟩:=M4 hfz;have hD:EF (false::true::ks) false false ih f (a0 :: .ptr (.own s) 0::args) ⟨own,[]⟩ k=k (.fv w) ⟨Bf s (.row (st'.map .fv) false) own,[]⟩ [.own s] [.own s]:=by
  have h1:Br (false::true::ks) (a0 :: .ptr (.own s) 0::args)=.ret (.fv x0 :: .ptr (.own s) 0::vs.map .fv,[.own s],[]):=by
   simp only [Br,frp 4096 (by omega) h0,Lr args ks hks hz,Rd.bind,IV.refs];rfl
  have h2:(Cb 4096 [.own s] []).runLog ⟨own,[]⟩ []=some ([(.own s,.row (st.map .fv) false)],[.own s]):=by
   show (Cb (4094+1+1) [.own s] []).runLog ⟨own,[]⟩ []=_
   simp only [Cb,hasRef,Bool.false_eq_true,if_false,Rd.runLog,Hp.get,hl,Blk.refs,NQ,List.append_nil,List.nil_append]
  have h3:IV.ren.renL (Ff [(.own s,.row (st.map .fv) false)]) (.fv x0 :: .ptr (.own s) 0::vs.map .fv)=some (.fv x0 :: .ptr (.ext 0) 0::vs.map .fv):=by
   simp only [IV.ren.renL,IV.ren,Ff,Cy,if_true,AzH,Option.bind_some,Ed]
  have h4:A9 (Ff [(.own s,.row (st.map .fv) false)]) [.row (st.map .fv) false]=some [.row (st.map .fv) false]:=by
   simp only [A9,Blk.ren,Ed,AzH,Option.bind_some]
  have h5:A9 (CD [(.own s,.row (st.map .fv) false)]) [.row (st'.map .fv) false]=some [.row (st'.map .fv) false]:=by
   simp only [A9,Blk.ren,Ed,AzH,Option.bind_some]
  unfold EF;simp only [h1,Rd.runLog,h2,h3,AzK,AzJ,h4,C9 (Cx 3),C9 CW,EG,Bool.false_eq_true,if_false,e1,hu,AzH,IV.ren,h5,AzI,List.length_nil,Bp,List.all_nil,and_self,if_true,List.nil_append,List.zip_cons_cons,List.zip_nil_left];have h6:laid ⟨own,[]⟩ [(.own s,.row (st'.map .fv) false)]=some ⟨Bf s (.row (st'.map .fv) false) own,[]⟩:=by
   simp only [laid,Hp.get,hl,Hp.set]
  simp only [h6,KK,Cx]
 rw [Pp,AnS,Np _ _ _ _ h0,AiU,AgX,UC 0 args _ _ _ _ ks hks hz];simp only [AgJ,Adn,cond_false];exact hD
theorem AnX {ih:Aa} {f:FuncId} {x y:IV} {vx vy w:FV} {s:Nat} {a a':FV} {own own':List (Nat×Blk)} (hr:C7 (ih f [.fv vx,.ptr (.ext 0) 0,.fv vy] ⟨[],[.row [.fv a] false]⟩) w [.row [.fv a'] false])
  (hx:Bo x=some vx) (hy:Bo y=some vy) (hl:Aw s own=some (.row [.fv a] false)) (ho:Bf s (.row [.fv a'] false) own=own') (k:IV->Hp->List Ref->List Ref->Option (IV×Hp)) :
  Ai [false,true,false] false false ih f [x,.ptr (.own s) 0,y] ⟨own,[]⟩ k=k (.fv w) ⟨own',[]⟩ [.own s] [.own s]:=by
 subst ho;exact Aqb (ks:=[false]) (by simp) (st:=[a]) (st':=[a']) hx (AhF hy) hl hr k
def AY (op:Int):Int:=if op<0 then -1 else ([-1,0,0,2,2,2,2,3,1,1,0,0,1,4,0,0,2,2,1,1,2,2,2,1,1,0,2,3,2,2,1]:List Int).getD op.toNat (-1)
theorem Ng (op:Int):(0<=op/\op<=30)\/op<0\/30<op:=by omega
theorem Lm {op:Int} (h:op<0\/30<op):AY op=-1:=by
 unfold AY;split
 ·rfl
 ·rw [List.getD_eq_getElem?_getD,List.getElem?_eq_none (by simp;omega)];rfl
theorem V5 {P:Int->Prop} (h:∀k:Nat,k<31->P k) {op:Int} (h1:0<=op/\op<=30):P op:=by
 have:=h op.toNat (by omega)
 rwa [Int.toNat_of_nonneg h1.1] at this
theorem Nx {n:Nat} (hn:0<n) (op:Int):AS (SS dt n 46 [iv op] ⟨[],[]⟩) (.int .i64 (AY op)):=by
 obtain ⟨n,rfl⟩:∃k,n=k+1:=⟨n - 1,by omega⟩;rw [c46];rcases Ng op with h | h
 ·revert op
  refine fun op h=>V5 (P:=fun op=>AS (S46 (SS dt n) n (iv op) ⟨[],[]⟩) (.int .i64 (AY op))) ?_ h;intro k hk;rcases k with _ | k
  ·simp only [QA,Qk,RP,Q1,Rm,Rw,SC,R9,RU,QP,Qb,Qu,Qx,QW,Q4,Rb,Rc,Se,S46,↓XX,XY,↓reduceIte,Nat.reduceBEq,Nat.reduceAdd,Int.reduceEq,Int.reduceLT,Int.reduceLE];exact Al _ _
  iterate 30 (rcases k with _ | k;· simp only [QA,Qk,RP,Q1,Rm,Rw,SC,R9,RU,QP,Qb,Qu,Qx,QW,Q4,Rb,Rc,Se,S46,↓XX,XY,↓reduceIte,Nat.reduceBEq,Nat.reduceAdd,Int.reduceEq,Int.reduceLT,Int.reduceLE];exact Al _ _)
  omega
 ·rw [Lm h];have q1:op≠1:=by omega
  have q2:op≠2:=by omega
  have q3:op≠3:=by omega
  have q4:op≠4:=by omega
  have q5:op≠5:=by omega
  have q6:op≠6:=by omega
  have q7:op≠7:=by omega
  have q8:op≠8:=by omega
  have q9:op≠9:=by omega
  have q10:op≠10:=by omega
  have q11:op≠11:=by omega
  have q12:op≠12:=by omega
  have q13:op≠13:=by omega
  have q14:op≠14:=by omega
  have q15:op≠15:=by omega
  have q16:op≠16:=by omega
  have q17:op≠17:=by omega
  have q18:op≠18:=by omega
  have q19:op≠19:=by omega
  have q20:op≠20:=by omega
  have q21:op≠21:=by omega
  have q22:op≠22:=by omega
  have q23:op≠23:=by omega
  have q24:op≠24:=by omega
  have q25:op≠25:=by omega
  have q26:op≠26:=by omega
  have q27:op≠27:=by omega
  have q28:op≠28:=by omega
  have q29:op≠29:=by omega
  have q30:op≠30:=by omega
  simp only [QA,Qk,RP,Q1,Rm,Rw,SC,R9,RU,QP,Qb,Qu,Qx,QW,Q4,Rb,Rc,Se,S46,↓XX,XY,↓reduceIte,Nat.reduceBEq,Nat.reduceAdd,Int.reduceEq,Int.reduceLT,Int.reduceLE,q1,q2,q3,q4,q5,q6,q7,q8,q9,q10,q11,q12,q13,q14,q15,q16,q17,q18,q19,q20,q21,q22,q23,q24,q25,q26,q27,q28,q29,q30];exact Al _ _
def Fc (op n:Int):Bool:=if op=1 then decide (0<=n) && decide (n<=3000) else if op=2 then decide (0<=n) && decide (n<=2) else if op=26 then decide (0<=n) && decide (n<=4) else if op=25 then true else decide (n=0)
theorem Ahy {n:Nat} (hn:0<n) (op m:Int):AS (SS dt n 80 [iv op,iv m] ⟨[],[]⟩) (.bool (Fc op m)):=by
 obtain ⟨n,rfl⟩:∃k,n=k+1:=⟨n - 1,by omega⟩;rw [c80];unfold Fc;by_cases h1:op=1
 ·by_cases h0:0<=m<;>simp only [↓AkB,↓XX,XY,↓reduceIte,Nat.reduceBEq,Nat.reduceAdd,Int.reduceEq,Int.reduceLT,Int.reduceLE,h0,h1]<;>exact Al _ _
 by_cases h2:op=2
 ·by_cases h0:0<=m<;>simp only [↓AkB,↓XX,XY,↓reduceIte,Nat.reduceBEq,Nat.reduceAdd,Int.reduceEq,Int.reduceLT,Int.reduceLE,h0,h2]<;>exact Al _ _
 by_cases h3:op=26
 ·by_cases h0:0<=m<;>simp only [↓AkB,↓XX,XY,↓reduceIte,Nat.reduceBEq,Nat.reduceAdd,Int.reduceEq,Int.reduceLT,Int.reduceLE,h0,h3]<;>exact Al _ _
 by_cases h4:op=25
 ·simp only [↓AkB,↓XX,XY,↓reduceIte,Nat.reduceBEq,Nat.reduceAdd,Int.reduceEq,Int.reduceLT,Int.reduceLE,h4];exact Al _ _
 simp only [↓AkB,↓XX,XY,↓reduceIte,Nat.reduceBEq,Nat.reduceAdd,Int.reduceEq,Int.reduceLT,Int.reduceLE,h1,h2,h3,h4];exact Al _ _
theorem W1 {n:Nat} (hn:0<n) (op m:Int):AS (SS dt n 103 [iv op,iv m] ⟨[],[]⟩) (.bool (Fc op m)):=by
 obtain ⟨n,rfl⟩:∃k,n=k+1:=⟨n - 1,by omega⟩;rw [AwB];unfold Fc;by_cases h1:op=1
 ·by_cases h0:0<=m<;>simp only [↓Ajj,↓XX,XY,↓reduceIte,Nat.reduceBEq,Nat.reduceAdd,Int.reduceEq,Int.reduceLT,Int.reduceLE,h0,h1]<;>exact Al _ _
 by_cases h2:op=2
 ·by_cases h0:0<=m<;>simp only [↓Ajj,↓XX,XY,↓reduceIte,Nat.reduceBEq,Nat.reduceAdd,Int.reduceEq,Int.reduceLT,Int.reduceLE,h0,h2]<;>exact Al _ _
 by_cases h3:op=26
 ·by_cases h0:0<=m<;>simp only [↓Ajj,↓XX,XY,↓reduceIte,Nat.reduceBEq,Nat.reduceAdd,Int.reduceEq,Int.reduceLT,Int.reduceLE,h0,h3]<;>exact Al _ _
 by_cases h4:op=25
 ·simp only [↓Ajj,↓XX,XY,↓reduceIte,Nat.reduceBEq,Nat.reduceAdd,Int.reduceEq,Int.reduceLT,Int.reduceLE,h4];exact Al _ _
 simp only [↓Ajj,↓XX,XY,↓reduceIte,Nat.reduceBEq,Nat.reduceAdd,Int.reduceEq,Int.reduceLT,Int.reduceLE,h1,h2,h3,h4];exact Al _ _
mutual
def Tm.chk:Tm->Int->Int->Int×Int
 | .mk op m l,n,d=>if 3000<n+1\/120<d then (n+1,5) else if AY op≠(l.length:Int)\/Fc op m=false then (n+1,1) else Tm.chkL l (n+1) (d+1)
def Tm.chkL:List Tm->Int->Int->Int×Int
 | [],n,_=>(n,0)
 | t::l,n,d=>if (t.chk n d).2=0 then Tm.chkL l (t.chk n d).1 d else t.chk n d
end
mutual
theorem Aad:∀(t:Tm) (n d:Int),n<=3000->n<=(t.chk n d).1/\(t.chk n d).1<=3001/\((t.chk n d).2=0->(t.chk n d).1=n+t.wt/\(t.chk n d).1<=3000/\d<=120)
 | .mk op m l,n,d,hn=>by
  rw [Tm.chk];split
  ·simp;omega
  ·split
   ·simp;omega
   ·have:=chkL_b l (n+1) (d+1) (by omega)
    simp only [Tm.wt];omega
theorem chkL_b:∀(l:List Tm) (n d:Int),n<=3000->n<=(Tm.chkL l n d).1/\(Tm.chkL l n d).1<=3001/\((Tm.chkL l n d).2=0->(Tm.chkL l n d).1=n+Tm.wtL l/\(Tm.chkL l n d).1<=3000)
 | [],n,d,hn=>by simp [Tm.chkL,Tm.wtL];omega
 | t::l,n,d,hn=>by
  have h1:=Aad t n d hn;rw [Tm.chkL];split
  ·rename_i h0;have h2:=chkL_b l (t.chk n d).1 d (by omega);simp only [Tm.wtL];omega
  ·rename_i h0;simp only [Tm.wtL];omega
end
abbrev HW (op m:Int) (ks:List Tm) (N E:Int):Hp:=⟨[(58720256,.row [iv op,iv m,.fv (.sl (ks.map Tm.enc))] false)],[.row [iv N,iv E] false]⟩
theorem Gy (op:Int):AY op<=4:=by
 rcases Ng op with h | h
 ·exact V5 (P:=fun op=>AY op<=4) (by
                         intro k hk;have:∀k:Fin 31,AY (k.val:Int)<=4:=by decide
                         exact this ⟨k,hk⟩) h
 ·rw [Lm h];omega
theorem AlI:∀(n:Nat) (t:Tm) (N d:Int),2 * t.wt+2<n->0<=N->N<=3000->0<=d->d<=121 ->
  C7 (SS dt n 56 [.ptr (.ext 0) 0,.fv t.enc,iv d] ⟨[],[.row [iv N,iv 0] false]⟩) (.tuple []) [.row [iv (t.chk N d).1,iv (t.chk N d).2] false]:=by
 intro n
 induction n using Nat.strongRecOn with
 | ind n ih =>
  intro t N d hn h0 hN hd0 hd;obtain ⟨op,m,ks⟩:=t;simp only [Tm.wt] at hn;obtain ⟨n,rfl⟩:∃k,n=k+1:=⟨n - 1,by omega⟩;rw [c56,Ah];have hlen:=DB ks;have hw:BD (N+1)=N+1:=by rw [Az]<;>omega
  have hwd:BD (d+1)=d+1:=by rw [Az]<;>omega
  have ha:=Nx (n:=n) (by omega) op;have hb:=Ahy (n:=n) (by omega) op m;have hl:∀(N' E':Int) (r:Int×Int),N'<=3000\/E'≠0->0<=N'->(E'=0->ks.length<=4/\r=Tm.chkL ks N' (d+1)/\d<=120)->(E'≠0->r=(N',E')) ->
    C7 (BY n (fun q20 l21 h22=>JV l21 h22 (SS dt n) q20) [.ptr (.ext 0) 0,iv d,.ptr (.own 58720256) 0,iv 0] (HW op m ks N' E')) (.tuple []) [.row [iv r.1,iv r.2] false]:=by
   intro N' E' r hN' hN0 h1 h2;refine Bc (Q:=fun r'=>C7 r' _ _) (fun k V H=>∃pre rest N2 E2,ks=pre++rest/\rest.length=k/\V=[.ptr (.ext 0) 0,iv d,.ptr (.own 58720256) 0,iv pre.length]/\H=HW op m ks N2 E2 /\
    0<=N2/\(E2=0->N2<=3000/\ks.length<=4/\r=Tm.chkL rest N2 (d+1)/\d<=120)/\(E2≠0->r=(N2,E2))) ?_ n ks.length _ _ (by omega) ⟨[],ks,N',E',rfl,rfl,rfl,rfl,hN0,fun e=>⟨by rcases hN' with h | h;exact h;exact absurd e h,h1 e⟩,h2⟩
   rintro k V H rec ⟨pre,rest,N2,E2,hk,hkl,rfl,rfl,hN2,hok,hbad⟩ hrec;have hkk:ks.length=pre.length+rest.length:=by rw [hk];simp
   cases rest with
   | nil =>
    have hno:¬ ((pre.length:Int)<ks.length):=by rw [hkk];simp
    have:r=(N2,E2):=by
     by_cases he:E2=0
     ·rw [(hok he).2.2.1,he];rfl
     ·exact hbad he
    rw [this];simp only [JD,KI,KF,JZ,JV,Jx,JT,KB,KD,KC,J8,JX,Ky,J9,J5,S56,↓XX,XY,↓reduceIte,Nat.reduceBEq,Nat.reduceAdd,Int.reduceEq,Int.reduceLT,Int.reduceLE,hno];exact HJ rfl _ _
   | cons t rest =>
    have hi:(pre.length:Int)<ks.length:=by rw [hkk];simp;omega
    by_cases he:E2=0
    ·subst he;obtain ⟨hb1,hb2,hr,hd2⟩:=hok rfl;have hg:=Cw hk;have htw:=CL (t:=t) (l:=ks) (by rw [hk];simp);have hc:=ih n (by omega) t N2 (d+1) (by omega) hN2 hb1 (by omega) (by omega);have hcb:=Aad t N2 (d+1) hb1;have hwi:BD ((pre.length:Int)+1)=((pre++[t]).length:Int):=(Az (by omega) (by omega)).trans (by simp);rw [Tm.chkL] at hr;have h9:=hrec rest.length [.ptr (.ext 0) 0,iv d,.ptr (.own 58720256) 0,iv (pre++[t]).length] (HW op m ks (t.chk N2 (d+1)).1 (t.chk N2 (d+1)).2) (by simp only [AzI] at hkl;omega)
      ⟨pre++[t],rest,_,_,by rw [hk];simp,rfl,rfl,rfl,by omega,fun e=>⟨(hcb.2.2 e).2.1,hb2,by rw [hr,if_pos e],hd2⟩,fun e=>by rw [hr,if_neg e]⟩
     generalize t.chk N2 (d+1)=q at hc h9;obtain ⟨o,p,l⟩:=t;rw [Ah] at hc;simp only [JD,KI,KF,JZ,JV,Jx,JT,KB,KD,KC,J8,JX,Ky,J9,J5,S56,↓XX,XY,↓reduceIte,Nat.reduceBEq,Nat.reduceAdd,Int.reduceEq,Int.reduceLT,Int.reduceLE,hi,↓Bs (AN hg) (Bb _ _ _),↓Cg,hwd,↓Jg hc (Au8 _ _ _ _),hwi];exact h9
    ·rw [hbad he];simp only [JD,KI,KF,JZ,JV,Jx,JT,KB,KD,KC,J8,JX,Ky,J9,J5,S56,↓XX,XY,↓reduceIte,Nat.reduceBEq,Nat.reduceAdd,Int.reduceEq,Int.reduceLT,Int.reduceLE,hi,he];exact HJ rfl _ _
  rw [Tm.chk];by_cases c1:3000<N+1
  ·have hx:=hl (N+1) 5 (N+1,5) (.inr (by decide)) (by omega) (fun e=>absurd e (by decide)) (fun _=>rfl);rw [if_pos (.inl c1)];simp only [↓UU9,↓XX,XY,↓reduceIte,Nat.reduceBEq,Nat.reduceAdd,Int.reduceEq,Int.reduceLT,Int.reduceLE,hw,c1];exact hx
  ·by_cases c2:120<d
   ·have hx:=hl (N+1) 5 (N+1,5) (.inr (by decide)) (by omega) (fun e=>absurd e (by decide)) (fun _=>rfl);rw [if_pos (.inr c2)];simp only [↓UU9,↓XX,XY,↓reduceIte,Nat.reduceBEq,Nat.reduceAdd,Int.reduceEq,Int.reduceLT,Int.reduceLE,hw,c1,c2];exact hx
   ·rw [if_neg (by omega)];by_cases c3:AY op=(ks.length:Int)
    ·have hx1:=hl (N+1) 1 (N+1,1) (.inr (by decide)) (by omega) (fun e=>absurd e (by decide)) (fun _=>rfl);have hk4:=Gy op;have hx0:=hl (N+1) 0 (Tm.chkL ks (N+1) (d+1)) (.inl (by omega)) (by omega) (fun _=>⟨by omega,rfl,by omega⟩) (fun e=>absurd rfl e);cases hnb:Fc op m
     ·rw [hnb] at hb;rw [if_pos (.inr rfl)];simp only [↓UU9,↓XX,XY,↓reduceIte,Nat.reduceBEq,Nat.reduceAdd,Int.reduceEq,Int.reduceLT,Int.reduceLE,hw,c1,c2,↓Av ha,c3,↓Ag hb];exact hx1
     ·rw [hnb] at hb;rw [if_neg (by simp [c3])];simp only [↓UU9,↓XX,XY,↓reduceIte,Nat.reduceBEq,Nat.reduceAdd,Int.reduceEq,Int.reduceLT,Int.reduceLE,hw,c1,c2,↓Av ha,c3,↓Ag hb];exact hx0
    ·have hx1:=hl (N+1) 1 (N+1,1) (.inr (by decide)) (by omega) (fun e=>absurd e (by decide)) (fun _=>rfl);rw [if_pos (.inl c3)];simp only [↓UU9,↓XX,XY,↓reduceIte,Nat.reduceBEq,Nat.reduceAdd,Int.reduceEq,Int.reduceLT,Int.reduceLE,hw,c1,c2,↓Av ha,c3];exact hx1
theorem KA {n:Nat} (t:Tm) (hn:2 * t.wt+3<n):AS (SS dt n 25 [.fv t.enc] ⟨[],[]⟩) (.int .i64 (t.chk 0 1).2):=by
 obtain ⟨n,rfl⟩:∃k,n=k+1:=⟨n - 1,by omega⟩;rw [c25];have h:=AlI n t 0 1 (by omega) (by omega) (by omega) (by omega) (by omega);generalize t.chk 0 1=q at h;obtain ⟨op,m,ks⟩:=t;rw [Ah] at h ⊢;have c2:=fun k=>Amv (k:=k) h (x:=.fv (.agg [.int .i64 op,.int .i64 m,.sl (ks.map Tm.enc)])) (y:=iv 1) (s:=26215425) rfl rfl
  (own:=[(26214400,.row [iv op,iv m,.fv (.sl (ks.map Tm.enc))] false),(26215425,.row [iv 0,iv 0] false)])
  (own':=[(26214400,.row [iv op,iv m,.fv (.sl (ks.map Tm.enc))] false),(26215425,.row [iv q.1,iv q.2] false)]) (by simp [Aw]) (by simp [Bf])
 simp only [AhI,S25,↓XX,XY,↓reduceIte,Nat.reduceBEq,Nat.reduceAdd,Int.reduceEq,Int.reduceLT,Int.reduceLE,↓c2];exact Al _ _
theorem UW (s:Nat) (h:Hp) (k:IV->Hp->List Ref->List Ref->Option (IV×Hp)):AE (L9 EE 136 [(0,.fv (.int .i64 (-1))),(1,.fv (.int .i64 0)),(2,.fv (.int .i64 0)),(3,.fv (.int .i64 2)),(4,.fv (.int .i64 2)),(5,.fv (.int .i64 2)),(6,.fv (.int .i64 2)),(7,.fv (.int .i64 3)),(8,.fv (.int .i64 1)),(9,.fv (.int .i64 1)),(10,.fv (.int .i64 0)),(11,.fv (.int .i64 0)),(12,.fv (.int .i64 1)),(13,.fv (.int .i64 4)),(14,.fv (.int .i64 0)),(15,.fv (.int .i64 0)),(16,.fv (.int .i64 2)),(17,.fv (.int .i64 2)),(18,.fv (.int .i64 1)),(19,.fv (.int .i64 1)),(20,.fv (.int .i64 2)),(21,.fv (.int .i64 2)),(22,.fv (.int .i64 2)),(23,.fv (.int .i64 1)),(24,.fv (.int .i64 1)),(25,.fv (.int .i64 0)),(26,.fv (.int .i64 2)),(27,.fv (.int .i64 3)),(28,.fv (.int .i64 2)),(29,.fv (.int .i64 2)),(30,.fv (.int .i64 1))]) s h k=k (.fv (.agg [.int .i64 (-1),.int .i64 0,.int .i64 0,.int .i64 2,.int .i64 2,.int .i64 2,.int .i64 2,.int .i64 3,.int .i64 1,.int .i64 1,.int .i64 0,.int .i64 0,.int .i64 1,.int .i64 4,.int .i64 0,.int .i64 0,.int .i64 2,.int .i64 2,.int .i64 1,.int .i64 1,.int .i64 2,.int .i64 2,.int .i64 2,.int .i64 1,.int .i64 1,.int .i64 0,.int .i64 2,.int .i64 3,.int .i64 2,.int .i64 2,.int .i64 1])) h [] []:=by
 have:L9 EE 136 [(0,.fv (.int .i64 (-1))),(1,.fv (.int .i64 0)),(2,.fv (.int .i64 0)),(3,.fv (.int .i64 2)),(4,.fv (.int .i64 2)),(5,.fv (.int .i64 2)),(6,.fv (.int .i64 2)),(7,.fv (.int .i64 3)),(8,.fv (.int .i64 1)),(9,.fv (.int .i64 1)),(10,.fv (.int .i64 0)),(11,.fv (.int .i64 0)),(12,.fv (.int .i64 1)),(13,.fv (.int .i64 4)),(14,.fv (.int .i64 0)),(15,.fv (.int .i64 0)),(16,.fv (.int .i64 2)),(17,.fv (.int .i64 2)),(18,.fv (.int .i64 1)),(19,.fv (.int .i64 1)),(20,.fv (.int .i64 2)),(21,.fv (.int .i64 2)),(22,.fv (.int .i64 2)),(23,.fv (.int .i64 1)),(24,.fv (.int .i64 1)),(25,.fv (.int .i64 0)),(26,.fv (.int .i64 2)),(27,.fv (.int .i64 3)),(28,.fv (.int .i64 2)),(29,.fv (.int .i64 2)),(30,.fv (.int .i64 1))]=Idl.val (.fv (.agg [.int .i64 (-1),.int .i64 0,.int .i64 0,.int .i64 2,.int .i64 2,.int .i64 2,.int .i64 2,.int .i64 3,.int .i64 1,.int .i64 1,.int .i64 0,.int .i64 0,.int .i64 1,.int .i64 4,.int .i64 0,.int .i64 0,.int .i64 2,.int .i64 2,.int .i64 1,.int .i64 1,.int .i64 2,.int .i64 2,.int .i64 2,.int .i64 1,.int .i64 1,.int .i64 0,.int .i64 2,.int .i64 3,.int .i64 2,.int .i64 2,.int .i64 1])):=by kernel_rfl
 rw [this];exact gen_val' _ _ _ _
theorem Akz {n:Nat} {op:Int} (h:op<0\/30<op):AS (SS dt (n+1) 102 [iv op] ⟨[],[]⟩) (.int .i64 (-1)):=by
 rw [AwS];by_cases h1:op<0
 ·simp only [Sx,AgO,↓XX,XY,↓reduceIte,Nat.reduceBEq,Nat.reduceAdd,Int.reduceEq,Int.reduceLT,Int.reduceLE,↓UW,h1];exact Al _ _
 ·have h2:31<=op:=by omega
  simp only [Sx,AgO,↓XX,XY,↓reduceIte,Nat.reduceBEq,Nat.reduceAdd,Int.reduceEq,Int.reduceLT,Int.reduceLE,↓UW,h1,h2];exact Al _ _
def AiC (k:Int) (o:Option (IV×Hp)):Bool:=match o with
 | some (.fv (.int .i64 m),⟨_,[]⟩)=>decide (m=k)
 | _=>false
theorem AhL {k:Int} {o:Option (IV×Hp)} (h:AiC k o=true):AS o (.int .i64 k):=by
 unfold AiC at h;split at h
 ·have:=of_decide_eq_true h
  subst this;exact Al _ _
 ·cases h
theorem Aid {n:Nat} (hn:0<n) (op:Int):AS (SS dt n 102 [iv op] ⟨[],[]⟩) (.int .i64 (AY op)):=by
 obtain ⟨n,rfl⟩:∃k,n=k+1:=⟨n - 1,by omega⟩;rcases Ng op with h | h
 ·revert op
  refine fun op h=>V5 (P:=fun op=>AS (SS dt (n+1) 102 [iv op] ⟨[],[]⟩) (.int .i64 (AY op))) ?_ h;intro k hk
  iterate 31 (rcases k with _ | k;· exact AhL (by kernel_rfl))
  omega
 ·rw [Lm h];exact Akz h
abbrev HC (op m:Int) (ks:List Tm) (N:Int):Hp:=⟨[(74448896,.row [iv op,iv m,.fv (.sl (ks.map Tm.enc))] false)],[.row [iv N] false]⟩
theorem AaD {base rm:List Nat} {vals:List IV} {own:List (Nat×Blk)} {a:FV} (hb:rm.any base.contains=false) (hf:AT rm vals own []=true) (k:Hp->Option (IV×Hp)) :
  BZ base rm vals ⟨own,[.row [.fv a] false]⟩ k=k ⟨I6 rm vals own [],[.row [.fv a] false]⟩:=Aq6 (by intro s;simp [Blk.refs,IV.refs.refsL,IV.refs]) hb hf k
theorem Ahk:∀(n:Nat) (t:Tm) (N d:Int),2 * t.wt+2<n->0<=N->N<=3000->0<=d->d<=121 ->
  C7 (SS dt n 71 [.fv t.enc,.ptr (.ext 0) 0,iv d] ⟨[],[.row [iv N] false]⟩) (.int .i64 (t.chk N d).2) [.row [iv (t.chk N d).1] false]:=by
 intro n
 induction n using Nat.strongRecOn with
 | ind n ih =>
  intro t N d hn h0 hN hd0 hd;obtain ⟨op,m,ks⟩:=t;simp only [Tm.wt] at hn;obtain ⟨n,rfl⟩:∃k,n=k+1:=⟨n - 1,by omega⟩;rw [c71,Ah];have hlen:=DB ks;have hw:BD (N+1)=N+1:=by rw [Az]<;>omega
  have hwd:BD (d+1)=d+1:=by rw [Az]<;>omega
  have ha:=Aid (n:=n) (by omega) op;have hb:=W1 (n:=n) (by omega) op m;rw [Tm.chk];by_cases c1:3000<N+1
  ·rw [if_pos (.inl c1)];simp only [↓X0,↓XX,XY,↓reduceIte,Nat.reduceBEq,Nat.reduceAdd,Int.reduceEq,Int.reduceLT,Int.reduceLE,hw,c1];exact AX _ _ _
  by_cases c2:120<d
  ·rw [if_pos (.inr c2)];simp only [↓X0,↓XX,XY,↓reduceIte,Nat.reduceBEq,Nat.reduceAdd,Int.reduceEq,Int.reduceLT,Int.reduceLE,hw,c1,c2];exact AX _ _ _
  rw [if_neg (by omega)];by_cases c3:AY op=(ks.length:Int)
  ·cases hnb:Fc op m
   ·rw [hnb] at hb;rw [if_pos (.inr rfl)];simp only [↓X0,↓XX,XY,↓reduceIte,Nat.reduceBEq,Nat.reduceAdd,Int.reduceEq,Int.reduceLT,Int.reduceLE,hw,c1,c2,↓Av ha,c3,↓Ag hb];exact AX _ _ _
   ·rw [hnb] at hb;have hk4:=Gy op;rw [if_neg (by simp [c3])];simp only [Qo,RN,RO,R4,Re,Sc,Qa,RK,Sq,Sm,S71,↓XX,XY,↓reduceIte,Nat.reduceBEq,Nat.reduceAdd,Int.reduceEq,Int.reduceLT,Int.reduceLE,hw,c1,c2,↓Av ha,c3,↓Ag hb,↓AaD,↓AL,XD,heldB,AT,XE];refine Bc (Q:=fun r'=>C7 r' _ _) (fun k V H=>∃pre rest N2,ks=pre++rest/\rest.length=k/\V=[.ptr (.ext 0) 0,iv d,.fv (.sl (ks.map Tm.enc)),iv ks.length,iv pre.length]/\H=HC op m ks N2 /\
     0<=N2/\N2<=3000/\Tm.chkL rest N2 (d+1)=Tm.chkL ks (N+1) (d+1)) ?_ n ks.length _ _ (by omega) ⟨[],ks,N+1,rfl,rfl,rfl,rfl,by omega,by omega,rfl⟩
    rintro k V H rec ⟨pre,rest,N2,hk,hkl,rfl,rfl,hN2,hN3,hr⟩ hrec;have hkk:ks.length=pre.length+rest.length:=by rw [hk];simp
    cases rest with
    | nil =>
     have hno:¬ ((pre.length:Int)<ks.length):=by rw [hkk];simp
     rw [<- hr];simp only [↓X0,↓XX,XY,↓reduceIte,Nat.reduceBEq,Nat.reduceAdd,Int.reduceEq,Int.reduceLT,Int.reduceLE,hno,Tm.chkL];exact AX _ _ _
    | cons t rest =>
     have hi:(pre.length:Int)<ks.length:=by rw [hkk];simp;omega
     have hg:=Cw hk;have htw:=CL (t:=t) (l:=ks) (by rw [hk];simp);have hc:=ih n (by omega) t N2 (d+1) (by omega) hN2 hN3 (by omega) (by omega);have hcb:=Aad t N2 (d+1) hN3;have hwi:BD ((pre.length:Int)+1)=((pre++[t]).length:Int):=(Az (by omega) (by omega)).trans (by simp);rw [Tm.chkL] at hr;rw [<- hr];have h9:=fun e=>hrec rest.length [.ptr (.ext 0) 0,iv d,.fv (.sl (ks.map Tm.enc)),iv ks.length,iv (pre++[t]).length] (HC op m ks (t.chk N2 (d+1)).1) (by simp only [AzI] at hkl;omega)
      ⟨pre++[t],rest,_,by rw [hk];simp,rfl,rfl,rfl,by omega,(hcb.2.2 e).2.1,by rw [<- hr,if_pos e]⟩
     rw [<- hr] at h9;generalize t.chk N2 (d+1)=q at hc h9 ⊢;obtain ⟨q1,q2⟩:=q;simp only at hc h9 ⊢;obtain ⟨o,p,l⟩:=t;rw [Ah] at hc;by_cases he:q2=0
     ·subst he;simp only [if_true] at h9 ⊢;simp only [↓X0,↓XX,XY,↓reduceIte,Nat.reduceBEq,Nat.reduceAdd,Int.reduceEq,Int.reduceLT,Int.reduceLE,hi,↓Bs (AN hg) (Bb _ _ _),↓Cg,hwd,↓ZW hc (Apq _ _),hwi,↓AaD,↓AL,XD,heldB,AT,XE];exact h9 trivial
     ·rw [if_neg he];simp only [↓X0,↓XX,XY,↓reduceIte,Nat.reduceBEq,Nat.reduceAdd,Int.reduceEq,Int.reduceLT,Int.reduceLE,hi,↓Bs (AN hg) (Bb _ _ _),↓Cg,hwd,↓ZW hc (Apq _ _),he];exact AX _ _ _
  ·rw [if_pos (.inl c3)];simp only [↓X0,↓XX,XY,↓reduceIte,Nat.reduceBEq,Nat.reduceAdd,Int.reduceEq,Int.reduceLT,Int.reduceLE,hw,c1,c2,↓Av ha,c3];exact AX _ _ _
theorem Pm {n:Nat} (t:Tm) (hn:2 * t.wt+3<n):AS (SS dt n 49 [.fv t.enc] ⟨[],[]⟩) (.int .i64 (t.chk 0 1).2):=by
 obtain ⟨n,rfl⟩:∃k,n=k+1:=⟨n - 1,by omega⟩;rw [c49];have h:=Ahk n t 0 1 (by omega) (by omega) (by omega) (by omega) (by omega);generalize t.chk 0 1=q at h;obtain ⟨op,m,ks⟩:=t;rw [Ah] at h ⊢;have c2:=fun k=>AnX (k:=k) h (x:=.fv (.agg [.int .i64 op,.int .i64 m,.sl (ks.map Tm.enc)])) (y:=iv 1) (s:=51381249) rfl rfl
  (own:=[(51380224,.row [iv op,iv m,.fv (.sl (ks.map Tm.enc))] false),(51381249,.row [iv 0] false)])
  (own':=[(51380224,.row [iv op,iv m,.fv (.sl (ks.map Tm.enc))] false),(51381249,.row [iv q.1] false)]) (by simp [Aw]) (by simp [Bf])
 simp only [S49,↓XX,XY,↓reduceIte,Nat.reduceBEq,Nat.reduceAdd,Int.reduceEq,Int.reduceLT,Int.reduceLE,↓c2];exact Al _ _
def tI:Tm:=.mk 15 0 []
def CB (r:Int×Tm) (a:Tm):Int:=if r.1=0 then (if a.same r.2 then 0 else 11) else r.1
def G5 (op:Int) (a:Tm) (r:Int×Tm):Int×Tm:=if r.1=0 then (((Tm.mk op 0 [a,r.2]).chk 0 1).2,.mk op 0 [a,r.2]) else (r.1,.z)
def Tm.kid (t:Tm) (i:Nat):Tm:=t.kids.getD i .z
def Tm.inf:Tm->List Tm->Int×Tm
 | .mk op n [],g=>if op=1 then (if (g.length:Int)<=n then (8,.z) else (0,g.getD (g.length - 1 - n.toNat) .z)) else if op=25 then (0,tI) else (10,.z)
 | .mk op _ [a],g=>if op=23 then (if (a.inf g).1=0 then (if (a.inf g).2.op=17 then (0,(a.inf g).2.kid 0) else (12,.z)) else ((a.inf g).1,.z))
  else if op=24 then (if (a.inf g).1=0 then (if (a.inf g).2.op=17 then (0,(a.inf g).2.kid 1) else (12,.z)) else ((a.inf g).1,.z)) else (10,.z)
 | .mk op _ [a,b],g =>
  if op=26 then (if CB (a.inf g) tI=0 then (CB (b.inf g) tI,tI) else (CB (a.inf g) tI,.z))
  else if op=20 then (if a.typed then G5 16 a (b.inf (g++[a])) else (10,.z))
  else if op=29 then (if a.typed then (CB (b.inf (g++[a])) a,a) else (10,.z))
  else if op=28 then (if (a.inf g).1=0 then b.inf (g++[(a.inf g).2]) else ((a.inf g).1,.z))
  else if op=22 then (if (a.inf g).1=0 then G5 17 (a.inf g).2 (b.inf g) else ((a.inf g).1,.z))
  else if op=21 then (if (a.inf g).1=0 then (if (a.inf g).2.op=16 then (CB (b.inf g) ((a.inf g).2.kid 0),(a.inf g).2.kid 1) else (12,.z)) else ((a.inf g).1,.z))
  else (10,.z)
 | .mk op _ [a,b,c],g=>if op=27 then (if CB (a.inf g) tI=0 then (if (b.inf g).1=0 then (CB (c.inf g) (b.inf g).2,(b.inf g).2) else ((b.inf g).1,.z)) else (CB (a.inf g) tI,.z)) else (10,.z)
 | _,_=>(10,.z)
mutual
def Tm.shp:Tm->Prop
 | .mk op n l=>(l.length:Int)=AY op/\(op=1->0<=n)/\Tm.shpL l
def Tm.shpL:List Tm->Prop
 | []=>True
 | t::l=>t.shp/\Tm.shpL l
end
mutual
theorem If:∀(t:Tm) (n d:Int),(t.chk n d).2=0->t.shp
 | .mk op m l,n,d,h=>by
  rw [Tm.chk] at h;split at h
  ·cases h
  ·split at h
   ·cases h
   ·rename_i h1 h2;rw [Tm.shp];have h3:AY op=(l.length:Int):=Classical.byContradiction fun e=>h2 (.inl e);have h4:Fc op m=true:=by cases hb:Fc op m with
     | true=>rfl
     | false=>exact absurd (.inr hb) h2
    refine ⟨h3.symm,?_,chkL_shp l _ _ h⟩;rintro rfl;simp [Fc] at h4;exact h4.1
theorem chkL_shp:∀(l:List Tm) (n d:Int),(Tm.chkL l n d).2=0->Tm.shpL l
 | [],_,_,_=>trivial
 | t::l,n,d,h=>by
  rw [Tm.chkL] at h;split at h
  ·rename_i h1;exact ⟨If t _ _ h1,chkL_shp l _ _ h⟩
  ·rename_i h1;exact absurd h h1
end
theorem Dw {t:Tm} (h:(t.chk 0 1).2=0):t.wt<=3000:=by
 have:=(Aad t 0 1 (by omega)).2.2 h
 omega
theorem J0 {t:Tm} (h:t.typed=true):(t.op=15/\t.kids=[])\/((t.op=16\/t.op=17)/\∃a b,t.kids=[a,b]/\a.typed=true/\b.typed=true):=by
 obtain ⟨op,m,l⟩:=t
 match l,h with
 | [],h=>exact .inl ⟨by simpa [Tm.typed,Tm.op] using h,rfl⟩
 | [_],h=>rw [KP] at h;cases h
 | x::y::z::l,h=>rw [Ls] at h;cases h
 | [a,b],h =>
  simp only [Tm.typed,Bool.and_eq_true,Bool.or_eq_true,decide_eq_true_eq] at h;exact .inr ⟨h.1,a,b,rfl,h.2.1,h.2.2⟩
theorem VH:tI.typed=true:=by simp [tI,Tm.typed]
theorem Ap8 {r:Int×Tm} {a:Tm} (h:CB r a=0):r.1=0/\a=r.2:=by
 unfold CB at h;split at h
 ·rename_i h1;split at h
  ·rename_i h2;exact ⟨h1,(Ik _ _).1 h2⟩
  ·cases h
 ·rename_i h1;exact absurd h h1
theorem GB (M:Nat) (hM:3000<=M):∀(n:Nat) (t:Tm) (g:List Tm),t.wt<n->t.wt<=M->(∀x∈g,x.typed=true/\x.wt<=M)->t.shp->(t.inf g).1=0->(t.inf g).2.typed=true/\(t.inf g).2.wt<=M:=by
 intro n
 induction n with
 | zero=>intro t g h;omega
 | succ n ih =>
  intro t g hn hw hg hs h;obtain ⟨op,m,l⟩:=t;simp only [Tm.wt] at hn hw;have hp:∀{x a:Tm},x∈g++[a]->a.typed=true/\a.wt<=M->x.typed=true/\x.wt<=M:=by
   intro x a hx ha;rcases List.mem_append.1 hx with h | h
   ·exact hg x h
   ·rw [List.mem_singleton.1 h];exact ha
  rw [Tm.shp] at hs;obtain ⟨_,hv,hs⟩:=hs
  match l,hs with
  | [],_ =>
   unfold Tm.inf at h ⊢;by_cases h1:op=1
   ·rw [if_pos h1] at h ⊢;by_cases h2:(g.length:Int)<=m
    ·rw [if_pos h2] at h;cases h
    ·rw [if_neg h2]
     have:=hv h1
     have hlt:g.length - 1 - m.toNat<g.length:=by omega
     rw [List.getD_eq_getElem?_getD,List.getElem?_eq_getElem hlt];exact hg _ (List.getElem_mem hlt)
   ·rw [if_neg h1] at h ⊢;by_cases h2:op=25
    ·rw [if_pos h2];exact ⟨VH,by simp [tI,Tm.wt,Tm.wtL];omega⟩
    ·rw [if_neg h2] at h;cases h
  | [a],hs =>
   simp only [Tm.wtL] at hn hw;have key:(a.inf g).1=0->(a.inf g).2.op=17->∀i,i<2->((a.inf g).2.kid i).typed=true/\((a.inf g).2.kid i).wt<=M:=by
    intro h1 h2 i hi;obtain ⟨h3,h4⟩:=ih a g (by omega) (by omega) hg hs.1 h1;rcases J0 h3 with ⟨h5,_⟩ | ⟨_,x,y,h6,h7,h8⟩
    ·omega
    ·generalize (a.inf g).2=r at *;obtain ⟨o,p,k⟩:=r;simp only [Tm.kids] at h6;subst h6;simp only [Tm.wt,Tm.wtL] at h4
     match i,hi with
     | 0,_=>exact ⟨h7,by show x.wt<=M;omega⟩
     | 1,_=>exact ⟨h8,by show y.wt<=M;omega⟩
   unfold Tm.inf at h ⊢;by_cases h1:op=23
   ·rw [if_pos h1] at h ⊢;by_cases h2:(a.inf g).1=0
    ·rw [if_pos h2] at h ⊢;by_cases h3:(a.inf g).2.op=17
     ·rw [if_pos h3];exact key h2 h3 0 (by decide)
     ·rw [if_neg h3] at h;cases h
    ·rw [if_neg h2] at h;exact absurd h h2
   ·rw [if_neg h1] at h ⊢;by_cases h1:op=24
    ·rw [if_pos h1] at h ⊢;by_cases h2:(a.inf g).1=0
     ·rw [if_pos h2] at h ⊢;by_cases h3:(a.inf g).2.op=17
      ·rw [if_pos h3];exact key h2 h3 1 (by decide)
      ·rw [if_neg h3] at h;cases h
     ·rw [if_neg h2] at h;exact absurd h h2
    ·rw [if_neg h1] at h;cases h
  | [a,b],hs =>
   simp only [Tm.wtL] at hn hw;have hmade:∀(o:Int) (x:Tm) (r:Int×Tm),(o=16\/o=17)->x.typed=true->(r.1=0->r.2.typed=true)->(G5 o x r).1=0->(G5 o x r).2.typed=true/\(G5 o x r).2.wt<=M:=by
    intro o x r ho hx hr hz;unfold G5 at hz ⊢;by_cases h1:r.1=0
    ·rw [if_pos h1] at hz ⊢;refine ⟨?_,Nat.le_trans (Dw hz) hM⟩;simp only [Tm.typed,hx,hr h1,Bool.and_true,Bool.or_eq_true,decide_eq_true_eq];exact ho
    ·rw [if_neg h1] at hz;exact absurd hz h1
   unfold Tm.inf at h ⊢;by_cases h1:op=26
   ·rw [if_pos h1] at h ⊢;by_cases h2:CB (a.inf g) tI=0
    ·rw [if_pos h2];exact ⟨VH,by simp [tI,Tm.wt,Tm.wtL];omega⟩
    ·rw [if_neg h2] at h;exact absurd h h2
   rw [if_neg h1] at h ⊢;by_cases h1:op=20
   ·rw [if_pos h1] at h ⊢;by_cases h2:a.typed=true
    ·rw [if_pos h2] at h ⊢;exact hmade 16 a _ (.inl rfl) h2 (fun e=>(ih b (g++[a]) (by omega) (by omega) (fun x hx=>hp hx ⟨h2,by omega⟩) hs.2.1 e).1) h
    ·rw [if_neg h2] at h;cases h
   rw [if_neg h1] at h ⊢;by_cases h1:op=29
   ·rw [if_pos h1] at h ⊢;by_cases h2:a.typed=true
    ·rw [if_pos h2];exact ⟨h2,by show a.wt<=M;omega⟩
    ·rw [if_neg h2] at h;cases h
   rw [if_neg h1] at h ⊢;by_cases h1:op=28
   ·rw [if_pos h1] at h ⊢;by_cases h2:(a.inf g).1=0
    ·rw [if_pos h2] at h ⊢;have ha:=ih a g (by omega) (by omega) hg hs.1 h2;exact ih b _ (by omega) (by omega) (fun x hx=>hp hx ha) hs.2.1 h
    ·rw [if_neg h2] at h;exact absurd h h2
   rw [if_neg h1] at h ⊢;by_cases h1:op=22
   ·rw [if_pos h1] at h ⊢;by_cases h2:(a.inf g).1=0
    ·rw [if_pos h2] at h ⊢;exact hmade 17 _ _ (.inr rfl) (ih a g (by omega) (by omega) hg hs.1 h2).1 (fun e=>(ih b g (by omega) (by omega) hg hs.2.1 e).1) h
    ·rw [if_neg h2] at h;exact absurd h h2
   rw [if_neg h1] at h ⊢;by_cases h1:op=21
   ·rw [if_pos h1] at h ⊢;by_cases h2:(a.inf g).1=0
    ·rw [if_pos h2] at h ⊢;by_cases h3:(a.inf g).2.op=16
     ·rw [if_pos h3];obtain ⟨h5,h4⟩:=ih a g (by omega) (by omega) hg hs.1 h2;rcases J0 h5 with ⟨h5,_⟩ | ⟨_,x,y,h6,h7,h8⟩
      ·omega
      ·generalize (a.inf g).2=r at *;obtain ⟨o,p,k⟩:=r;simp only [Tm.kids] at h6;subst h6;simp only [Tm.wt,Tm.wtL] at h4;exact ⟨h8,by show y.wt<=M;omega⟩
     ·rw [if_neg h3] at h;cases h
    ·rw [if_neg h2] at h;exact absurd h h2
   ·rw [if_neg h1] at h;cases h
  | [a,b,c],hs =>
   simp only [Tm.wtL] at hn hw;unfold Tm.inf at h ⊢;by_cases h1:op=27
   ·rw [if_pos h1] at h ⊢;by_cases h2:CB (a.inf g) tI=0
    ·rw [if_pos h2] at h ⊢;by_cases h3:(b.inf g).1=0
     ·rw [if_pos h3];exact ih b g (by omega) (by omega) hg hs.2.1 h3
     ·rw [if_neg h3] at h;exact absurd h h3
    ·rw [if_neg h2] at h;exact absurd h h2
   ·rw [if_neg h1] at h;cases h
  | a::b::c::d::l,_ =>
   rw [Tm.inf] at h
   ·cases h
   all_goals simp
def Hk (r:Option (IV×Hp)) (q:Int×Tm):Prop:=∃u,AS r (.tuple [Tm.enc u,.int .i64 q.1])/\(q.1=0->u=q.2)
theorem Je {r:Option (IV×Hp)} {e:Int} {u:Tm} (h:AS r (.tuple [u.enc,.int .i64 e])):Hk r (e,u):=⟨u,h,fun _=>rfl⟩
theorem C2 {r:Option (IV×Hp)} {e:Int} {u v:Tm} (h:AS r (.tuple [u.enc,.int .i64 e])) (he:e≠0):Hk r (e,v):=⟨u,h,fun h=>absurd h he⟩
theorem PC {op m:Int} {l:List Tm} {g:List Tm} (h:op≠1/\op≠25/\op≠23/\op≠24/\op≠26/\op≠20/\op≠29/\op≠28/\op≠22/\op≠21/\op≠27):(Tm.mk op m l).inf g=(10,.z):=by
 obtain ⟨h1,h2,h3,h4,h5,h6,h7,h8,h9,h10,h11⟩:=h
 match l with
 | []=>rw [Tm.inf,if_neg h1,if_neg h2]
 | [_]=>rw [Tm.inf,if_neg h3,if_neg h4]
 | [_,_]=>rw [Tm.inf,if_neg h5,if_neg h6,if_neg h7,if_neg h8,if_neg h9,if_neg h10]
 | [_,_,_]=>rw [Tm.inf,if_neg h11]
 | a::b::c::d::l =>
  rw [Tm.inf]
  all_goals simp
theorem AiB {l:List Tm} (h:(l.length:Int)=0):l=[]:=List.eq_nil_of_length_eq_zero (by omega)
theorem AuV {l:List Tm} (h:(l.length:Int)=1):∃a,l=[a]:=by
 match l,h with
 | [a],_=>exact ⟨a,rfl⟩
 | [],h=>simp at h
 | a::b::l,h=>simp only [AzI] at h;omega
theorem NS {l:List Tm} (h:(l.length:Int)=2):∃a b,l=[a,b]:=by
 match l,h with
 | [a,b],_=>exact ⟨a,b,rfl⟩
 | [],h=>simp at h
 | [_],h=>simp at h
 | a::b::c::l,h=>simp only [AzI] at h;omega
theorem Avl {l:List Tm} (h:(l.length:Int)=3):∃a b c,l=[a,b,c]:=by
 match l,h with
 | [a,b,c],_=>exact ⟨a,b,c,rfl⟩
 | [],h=>simp at h
 | [_],h=>simp at h
 | [_,_],h=>simp at h
 | a::b::c::d::l,h=>simp only [AzI] at h;omega
theorem Gx {op:Int} (ho:op=16\/op=17) {t:Tm} (h:t.typed=true) (h1:t.op=op):∃x y,t.kids=[x,y]:=by
 rcases J0 h with ⟨h2,_⟩ | ⟨_,a,b,h2,_⟩
 ·omega
 ·exact ⟨a,b,h2⟩
theorem Ad1 {t x y:Tm} (h:t.kids=[x,y]):(t.kid 0).wt<t.wt:=by
 obtain ⟨o,p,k⟩:=t;simp only [Tm.kids] at h;subst h
 show x.wt<_
 simp only [Tm.wt,Tm.wtL];omega
mutual
theorem Lb:∀(t:Tm),t.typed=true->t.shp
 | .mk op m [],h=>by
  have h1:op=15:=by simpa [Tm.typed] using h
  subst h1;rw [Tm.shp];exact ⟨rfl,(fun h=>by cases h),trivial⟩
 | .mk op m [_],h=>by rw [KP] at h;cases h
 | .mk op m (_::_::_::_),h=>by rw [Ls] at h;cases h
 | .mk op m [a,b],h=>by
  simp only [Tm.typed,Bool.and_eq_true,Bool.or_eq_true,decide_eq_true_eq] at h;rw [Tm.shp];exact ⟨(by rcases h.1 with rfl | rfl<;>rfl),(fun h1=>by omega),Lb a h.2.1,Lb b h.2.2,trivial⟩
end
mutual
def Tm.okn:Tm->Bool
 | .mk op m l=>decide (AY op=(l.length:Int)) && (Fc op m && Tm.oknL l)
def Tm.oknL:List Tm->Bool
 | []=>true
 | t::l=>t.okn && Tm.oknL l
end
theorem Ath {m:Nat} {g:List Tm} {c P:Tm} (h:OT m g c P):c.stl:=by
 induction h with
 | var=>exact Jj (by decide) trivial
 | oint=>exact Jj (by decide) trivial
 | oprim g n a b ha hb iha ihb=>exact Jj (by decide) ⟨iha,ihb,trivial⟩
 | olam g a b c ha hw hb ih=>exact Jj (by decide) ⟨Gi ha,ih,trivial⟩
 | oapp g f x a c hf hx ihf ihx=>exact Jj (by decide) ⟨ihf,ihx,trivial⟩
 | opair g x y a b hw hx hy ihx ihy=>exact Jj (by decide) ⟨ihx,ihy,trivial⟩
 | ofst g x a b hx ih=>exact Jj (by decide) ⟨ih,trivial⟩
 | oif g c x y a hc hx hy i1 i2 i3=>exact Jj (by decide) ⟨i1,i2,i3,trivial⟩
 | olet g x y a b hx hy i1 i2=>exact Jj (by decide) ⟨i1,i2,trivial⟩
 | ofix g a x ha hw hx ih=>exact Jj (by decide) ⟨Gi ha,ih,trivial⟩
theorem AnO {q t c:Tm} {f:Nat} (h:Gr 2 10 [] (q.plainT 2) t) (tsc:t.sc 0) (hn:A1 f t=some (c,0)):OT 14 [] c (q.plainT 2):=by
 have aw:(q.plainT 2).wt<=7:=by have:=DP 2 q;omega
 have hP:=Cu 2 q;have hT:=(Ajc h [] Oa).2.2.1 rfl (BA [] 2 q);obtain ⟨c',q1,q2⟩:=(fl h [] [] vT Oa AjG).2.2.1 rfl (E3 0 2 q) (by unfold Bw;omega) (BA [] 2 q) (q.plainT 2) hP (by rw [Ll];exact .refl _);rw [Ll] at q1;have e:=Aju (GR hn tsc) q1 (.refl t) (.refl t) (Amq (CQ hn hT)) (Ath q2);subst e;exact FZ (by unfold mw;omega) q2
theorem AgH {op:Int} {s:Nat} {sg:LM} (h:Rule op s sg):AY op=(sg.length:Int):=by cases h<;>rfl
theorem Xh {op n:Int} (h1:op≠1) (h:BK op n):Fc op n=true:=by
 unfold BK at h;unfold Fc;rw [if_neg h1];by_cases h2:op=2
 ·rw [if_pos h2] at h ⊢;simp [h]
 rw [if_neg h2] at h ⊢;by_cases h26:op=26
 ·rw [if_pos h26] at h ⊢;simp [h]
 rw [if_neg h26] at h ⊢;by_cases h25:op=25
 ·rw [if_pos h25]
 rw [if_neg h25] at h ⊢;simp [h]
theorem Tp {d:Int}:∀(l:List Tm) (n:Int),(∀(i:Nat) t,l[i]?=some t->∀n:Int,n+t.wt<=3000->t.chk n d=(n+t.wt,0))->n+Tm.wtL l<=3000->Tm.chkL l n d=(n+Tm.wtL l,0)
 | [],n,_,_=>by simp [Tm.chkL,Tm.wtL]
 | t::l,n,h,hw=>by
  simp only [Tm.wtL] at hw;have h1:=h 0 t rfl n (by omega);rw [Tm.chkL,h1];simp only [if_true];rw [Tp l (n+t.wt) (fun i t a=>h (i+1) t (by simpa using a)) (by omega)];simp only [Tm.wtL,AzF,and_true];omega
theorem Asl {G:List Nat} {t:Tm} {s:Nat} (h:NfT G t s):∀(k:Nat) (n d:Int),t.sc k->k+2 * t.dp<=3000->n+t.wt<=3000->d+t.dp<=121->t.chk n d=(n+t.wt,0):=by
 induction h with
 | var G m s h0 h hs =>
  intro k n d hsc hk hw hd;simp only [Tm.wt,Tm.wtL] at hw;simp only [Tm.dp,Tm.dpL] at hd hk;rw [Tm.sc,if_pos rfl] at hsc;rw [Tm.chk,if_neg (by omega),if_neg (by simp [AY,Fc];omega),Tm.chkL];simp [Tm.wt,Tm.wtL]
 | node G op m ks s sg hr hl hst hk ih =>
  intro k n d hsc hkk hw hd;simp only [Tm.wt] at hw;simp only [Tm.dp] at hd hkk;rw [Tm.sc,if_neg (FQ hr).1] at hsc;have hc:¬ (AY op≠(ks.length:Int)\/Fc op m=false):=by
   rw [AgH hr,hl,Xh (FQ hr).1 hsc.2.1];simp
  rw [Tm.chk,if_neg (by omega),if_neg hc];rw [Tp ks (n+1) (fun i t a n' hn'=>by
   have hi:i<sg.length:=by rw [<- hl];exact (List.getElem?_eq_some_iff.1 a).1
   have hwt:=Jd a;have hdt:=QR a;have hbn:=Bm op i;have hs:=Nc hsc.2.2 a;rw [Nat.zero_add] at hs;exact ih i t _ _ a (List.getElem?_eq_getElem hi) (k+Am op i) n' (d+1) hs (by omega) hn' (by omega)) (by omega)]
  simp only [Tm.wt,AzF,and_true];omega
theorem As5:EE.T 71=some ⟨1,24,.slice 87,[.nils]⟩:=by kernel_rfl
theorem tV1:EE.T 87=some ⟨4,48,.struct [(0,3),(1,30)],[.fv (.int .i64 0),.fv (.int .i64 0),.fv (.int .i64 0),.nils]⟩:=by kernel_rfl
theorem sV1:SliceT EE 71 4:=⟨_,_,_,_,_,As5,tV1,rfl,by decide,by decide⟩
theorem RD (s:Nat) (h:Hp) (k:IV->Hp->List Ref->List Ref->Option (IV×Hp)):AE (An EE 71 0 []) s h k=k (.clip []) h [] []:=Dr As5 tV1 (by decide) (cells:=[]) rfl k
theorem QS (s0 o n:Int) (ks:List FV) (s:Nat) (h:Hp) (k:IV->Hp->List Ref->List Ref->Option (IV×Hp)):AE (An EE 71 1 [(0,.fv (.agg [.int .i64 s0,.int .i64 o,.int .i64 n,.sl ks]))]) s h k=k (.clip [.agg [.int .i64 s0,.int .i64 o,.int .i64 n,.sl ks]]) h [] [] :=
 Dr As5 tV1 (by decide) (cells:=[.int .i64 s0,.int .i64 o,.int .i64 n,.sl ks]) rfl k
theorem FJ (g:Ci):Be 4 (g.map v1)=true:=by
 cases g with
 | nil=>rfl
 | cons a l=>simp only [AzK,Be,v1,FV.cells,AzI,List.length_nil,beq_self_eq_true]
theorem Aiz (g:Ci):((g.map v1).all fun e=>e.cells.all FV.one)=true:=by
 rw [List.all_map,List.all_eq_true];intro p _;rfl
theorem Dx {n:Nat} (g:Ci) (st:Int) (a:Tm) (hg:g.length<=1000) (hn:0<n):AS (SS dt n 96 [.fv (A4 g),iv st,.fv a.enc] ⟨[],[]⟩) (A4 (g++[(st,a)])):=by
 obtain ⟨n,rfl⟩:∃k,n=k+1:=⟨n - 1,by omega⟩;rw [c96];rw [A4,A4,List.map_append,AzK,AzJ];cases g with
 | nil =>
  have h0:=fun {β:Type}=>Aca (β:=β) (E:=EE) sV1 (.sl []) (s0:=.clip []) (.inr rfl);have happ:=fun {β:Type}=>F5 (β:=β) sV1 (.clip [v1 (st,a)]) (FJ [(st,a)]) rfl (by simp) (s0:=.clip []) (.inr rfl);obtain ⟨o,p,k⟩:=a;simp only [v1,Tm.op,Tm.n,Tm.kids] at happ ⊢;rw [Ah];simp only [Xz,Ww,S96,↓XX,XY,↓reduceIte,Nat.reduceBEq,Nat.reduceAdd,Int.reduceEq,Int.reduceLT,Int.reduceLE,↓RD,↓h0,↓QS,↓happ];exact A3 rfl _
 | cons t g =>
  have h0:=fun {β:Type}=>F5 (β:=β) sV1 (.sl ((t::g).map v1)) (FJ (t::g)) rfl (by simp at hg ⊢;omega) (s0:=.clip []) (.inr rfl);have happ:=fun {β:Type}=>Nn (β:=β) sV1 (es:=(t::g).map v1) (es2:=[v1 (st,a)]) (.clip _) (FJ [(st,a)]) (FJ (t::g)) (Aiz [(st,a)]) (by simp at hg ⊢;omega);obtain ⟨o,p,k⟩:=a;simp only [AzK,List.length_map,AzI,List.length_nil,List.cons_append] at h0 happ ⊢;simp only [v1,Tm.op,Tm.n,Tm.kids] at h0 happ ⊢;rw [Ah];simp only [Xz,Ww,S96,↓XX,XY,↓reduceIte,Nat.reduceBEq,Nat.reduceAdd,Int.reduceEq,Int.reduceLT,Int.reduceLE,↓RD,↓h0,↓QS,↓happ,FR];exact A3 rfl _
theorem Mb {n:Nat} (hn:1<n):AS (SS dt n 99 [] ⟨[],[]⟩) (Tm.mk 10 0 []).enc:=by
 obtain ⟨n,rfl⟩:∃k,n=k+1:=⟨n - 1,by omega⟩;rw [c99];have t:=BI (n:=n) (by omega) 10;rw [Ah] at t ⊢;simp only [S99,↓XX,XY,↓reduceIte,Nat.reduceBEq,Nat.reduceAdd,Int.reduceEq,Int.reduceLT,Int.reduceLE,↓Ag t];exact Al _ _
theorem AjK {P:Nat->Nat->Prop}:∀m,(∀i,i<m->∃N,∀n,N<=n->P i n)->∃N,∀i,i<m->∀n,N<=n->P i n:=by
 intro m
 induction m with
 | zero=>intro _;exact ⟨0,fun i hi=>by omega⟩
 | succ m ih =>
  intro h;obtain ⟨N1,h1⟩:=ih fun i hi=>h i (by omega);obtain ⟨N2,h2⟩:=h m (by omega);refine ⟨N1+N2,fun i hi n hn=>?_⟩;by_cases him:i=m
  ·subst him;exact h2 n (by omega)
  ·exact h1 i (by omega) n (by omega)
theorem AkT:EE.T 51=some ⟨1,24,.slice 3,[.nils]⟩:=by kernel_rfl
theorem AsE:EE.T 3=some ⟨1,8,.int .i64,[.fv (.int .i64 0)]⟩:=by kernel_rfl
theorem AuJ:SliceT EE 51 1:=⟨_,_,_,_,_,AkT,AsE,rfl,by decide,by decide⟩
theorem Apu (a:Int) (s:Nat) (h:Hp) (k:IV->Hp->List Ref->List Ref->Option (IV×Hp)):AE (An EE 51 1 [(0,iv a)]) s h k=k (.clip [.int .i64 a]) h [] []:=Dr AkT AsE (by decide) (cells:=[.int .i64 a]) rfl k
def iE (l:List Nat):List FV:=l.map fun (i:Nat)=>FV.int .i64 (i:Int)
theorem Xd (l:List Nat):Be 1 (iE l)=true:=by
 cases l with
 | nil=>rfl
 | cons a l=>rfl
theorem AtW (l:List Nat):((iE l).all fun e=>e.cells.all FV.one)=true:=by
 rw [iE,List.all_map,List.all_eq_true];intro p _;rfl
def lV:List Nat->IV
 | []=>.nils
 | i::l=>.app (.own 101720067) (iE (i::l))
def lH:List Nat->List (Nat×Blk)
 | []=>[]
 | i::l=>[(101720067,.tok (i::l).length 1)]
abbrev ON (o m:Int) (ks:List Tm) (l:List Nat):Hp :=
 ⟨[(101711872,.row [iv o,iv m,.fv (.sl (ks.map Tm.enc))] false),(101711873,.row [iv 0,iv 0,.nils] false)]++lH l,[]⟩
theorem AgP (p:Nat->Bool) (i:Nat):(List.range (i+1)).filter p=(List.range i).filter p++(if p i then [i] else []):=by
 rw [List.range_succ,List.filter_append];cases h:p i<;>simp [h]
theorem LI {e0:Nat} {g:Ci} (hg:GOk e0 g) (st:Int) {a:Tm} (ha:NOk g.length a) (x:Int):∃t b,Ev 97 [.fv (A4 g),iv st,.fv a.enc,iv x] (.tuple [Tm.enc t,.bool b])/\TOk g.length 0 t/\(b=true->∃i:Nat,t=.mk 1 i []/\Hit g st a i):=by
 have hlen:=hg.len;have hc:∀i:Nat,∃(p:Int×Tm) (u:Tm) (e:Int),i<g.length->g[g.length - 1 - i]?=some p/\p.2.wk/\p.2.wt<=100000000000/\Ev 58 [.fv (p.2.shift ((i:Int)+1) 0).enc] (.tuple [u.enc,.int .i64 e])/\(e=0/\NOk g.length u\/(e=5\/e=17)/\u=.z)/\∃f,A1 f (p.2.shift ((i:Int)+1) 0)=some (u,e):=by
  intro i;by_cases hi:i<g.length
  ·obtain ⟨p,hp⟩:∃p,g[g.length - 1 - i]?=some p:=⟨_,List.getElem?_eq_getElem (by omega)⟩;obtain ⟨h1,h2,h3⟩:=hg.ok _ _ hp;have h4:=B5 p.2 (i+1) 0 _ h1 (by omega);rw [show g.length - 1 - i+(i+1)=g.length by omega] at h4
   obtain ⟨u,e,h5,h6,h7⟩:=Kd (k:=g.length) (by omega) h4 (by rw [Fj];omega);exact ⟨p,u,e,fun _=>⟨hp,EB _ _ h1,h2,h5,h6,h7⟩⟩
  ·exact ⟨(0,.z),.z,0,fun h=>absurd h hi⟩
 obtain ⟨P,hP⟩:=Classical.axiomOfChoice hc;obtain ⟨U,hP⟩:=Classical.axiomOfChoice hP;obtain ⟨E,hU⟩:=Classical.axiomOfChoice hP;clear hP hc;obtain ⟨N,hN⟩:=AjK (P:=fun i n=>AS (SS dt n 58 [.fv ((P i).2.shift ((i:Int)+1) 0).enc] ⟨[],[]⟩) (.tuple [(U i).enc,.int .i64 (E i)])) g.length (fun i hi=>(hU i hi).2.2.2.1);obtain ⟨hit,hhit⟩:∃h:Nat->Bool,∀i,h i=(decide ((P i).1=st) && (decide (E i=0) && (U i).eta.same a.eta)):=⟨_,fun _=>rfl⟩;obtain ⟨L,hL⟩:∃L,L=(List.range g.length).filter hit:=⟨_,rfl⟩;obtain ⟨tt,htt⟩:∃tt:Tm,tt=if L=[] then .z else .mk 1 ((L.getD (x % (L.length:Int)).toNat 0:Nat):Int) []:=⟨_,rfl⟩;have hLlt:∀i∈L,i<g.length:=fun i hi=>by
  rw [hL] at hi;exact List.mem_range.1 (List.mem_filter.1 hi).1
 refine ⟨tt,!decide (L=[]),⟨N+200000000000+1,?_⟩,?_,?_⟩
 ·intro n hn;obtain ⟨n,rfl⟩:∃k,n=k+1:=⟨n - 1,by omega⟩;have hka:=QB n a g.length ha.sc (by have:=ha.wt;omega) (by have:=ha.wt;omega);rw [c97];generalize hae:a.eta=ae at hka hhit;obtain ⟨oa,ma,ka⟩:=a;obtain ⟨oe,me,ke⟩:=ae;simp only [Ah] at hka ⊢;simp only [Qw,RZ,QT,QN,Ry,Q5,Rj,Rf,RY,QZ,Q7,QG,Rr,Rv,S97,↓XX,XY,↓reduceIte,Nat.reduceBEq,Nat.reduceAdd,Int.reduceEq,Int.reduceLT,Int.reduceLE,A4,↓AL,XD,heldB,AT,XE];refine Bc (Q:=fun r=>AS r _) (fun k V H=>∃i:Nat,i+k=g.length/\∃l:List Nat,l=(List.range i).filter hit/\V=[.fv (.sl (g.map v1)),iv st,iv x,.ptr (.own 101711872) 0,.ptr (.own 101711873) 0,lV l,iv i]/\H=ON oa ma ka l)
   ?_ n g.length _ _ (by omega) ⟨0,by omega,[],rfl,rfl,rfl⟩
  rintro k V H rec ⟨i,hik,l,hl,rfl,rfl⟩ hrec;cases k with
  | zero =>
   have hig:i=g.length:=by omega
   rw [hig] at hl;rw [<- hL] at hl;subst hl;have hno:¬ ((i:Int)<g.length):=by omega
   cases l with
   | nil =>
    rw [htt,if_pos rfl];simp only [lV,Tm.z,Ah];simp only [↓O7,↓XX,XY,↓reduceIte,Nat.reduceBEq,Nat.reduceAdd,Int.reduceEq,Int.reduceLT,Int.reduceLE,hno]
    first | exact Al _ _ | exact Au rfl (by simp) _
   | cons i0 l0 =>
    rw [htt,if_neg (by simp)];generalize hl1:i0::l0=l at *;have hlp:0<l.length:=by rw [<- hl1];simp
    have hll:l.length<=100:=by
     have h1:=List.length_filter_le hit (List.range g.length);rw [<- hL,List.length_range] at h1;omega
    have hw:=As (n:=n) (by omega) x (m:=(l.length:Int)) (by omega) (by omega);have h1:=Int.emod_nonneg x (show (l.length:Int)≠0 by omega)
    have h2:=Int.emod_lt_of_pos x (show (0:Int)<l.length by omega)
    obtain ⟨j,hj⟩:∃j:Nat,x % (l.length:Int)=j:=⟨(x % (l.length:Int)).toNat,by omega⟩;rw [hj] at hw h2 ⊢;have hjl:j<l.length:=by omega
    have hget:(iE l)[j]?=some (.int .i64 ((l.getD j 0:Nat):Int)):=by
     rw [iE,List.getElem?_map,List.getD_eq_getElem?_getD,List.getElem?_eq_getElem hjl];rfl
    rw [Int.toNat_natCast];have hix:=fun {β:Type}=>Bs (β:=β) (size:=1) hget rfl;have hv:=AqP (n:=n) (by omega) ((l.getD j 0:Nat):Int);generalize ((l.getD j 0:Nat):Int)=q at hix hv ⊢;have hln:¬ ((l.length:Int)=0):=by omega
    have hiel:(iE l).length=l.length:=by rw [iE,List.length_map]
    have hap:∀(β:Type) (x:IV) (k:IV->Option β),AP 1 (.app (.own 101720067) (iE l)) x k=AP 1 (.fv (.sl (iE l))) x k:=fun _ _ _=>rfl;have hlV:lV l=.app (.own 101720067) (iE l):=by rw [<- hl1];rfl
    have hlH:lH l=[(101720067,.tok l.length 1)]:=by rw [<- hl1];rfl
    have hne:decide (l=[])=false:=by rw [<- hl1];simp
    rw [hlV,ON,hlH,hne];simp only [List.cons_append,List.nil_append];simp only [Ah,AzJ] at hv ⊢;simp only [↓O7,↓XX,XY,↓reduceIte,Nat.reduceBEq,Nat.reduceAdd,Int.reduceEq,Int.reduceLT,Int.reduceLE,hno,hiel,hln,↓Ag hw,↓hap,↓hix,FV.cells,↓Av hv]
    first | exact Al _ _ | exact Au rfl (by simp) _
  | succ k =>
   have hig:i<g.length:=by omega
   have hlt:(i:Int)<g.length:=by omega
   obtain ⟨hp,hwk,hwt,_,hN',_⟩:=hU i hig;have hget:(g.map v1)[g.length - 1 - i]?=some (v1 (P i)):=by rw [List.getElem?_map,hp];rfl
   have hix:=fun {β:Type}=>Bs (β:=β) (size:=4) hget rfl;have w1:BD ((g.length:Int) - 1)=(g.length:Int) - 1:=by rw [Az]<;>omega
   have w2:BD ((g.length:Int) - 1 - i)=((g.length - 1 - i:Nat):Int):=by rw [Az (by omega) (by omega)];omega
   have wi:BD ((i:Int)+1)=(i:Int)+1:=by rw [Az]<;>omega
   have hsh:=CK n (P i).2 ((i:Int)+1) 0 (by omega) hwk (by omega) (by omega);have hNi:=hN i hig n (by omega);have h9:=fun (l':List Nat) (e:l'=l++if hit i then [i] else [])=>hrec k [.fv (.sl (g.map v1)),iv st,iv x,.ptr (.own 101711872) 0,.ptr (.own 101711873) 0,lV l',iv (i+1:Nat)] (ON oa ma ka l') (by omega)
    ⟨i+1,by omega,l',by rw [AgP,<- hl,e],rfl,rfl⟩
   have hi1:((i+1:Nat):Int)=(i:Int)+1:=by omega
   rw [hi1] at h9;have hhi:=hhit i;generalize (P i).2.shift ((i:Int)+1) 0=ts at hsh hNi;generalize P i=p at hp hget hix hsh hhi;obtain ⟨sp,tp⟩:=p;by_cases c1:sp=st
   ·by_cases c2:E i=0
    ·have hUi:NOk g.length (U i):=by
      rcases hN' with ⟨_,h⟩ | ⟨h,_⟩
      ·exact h
      ·omega
     have hke:=QB n (U i) g.length hUi.sc (by have:=hUi.wt;omega) (by have:=hUi.wt;omega);have hew:=(Ajq (U i) g.length hUi.sc (by have:=hUi.wt;omega)).2;have hsm:=GG n (U i).eta (.mk oe me ke) (by have:=hUi.wt;omega) (by have:=hUi.wt;omega);rw [c2] at hNi;simp only [c1,c2,decide_true,Bool.true_and] at hhi;rw [<- hhi] at hsm;generalize (U i).eta=ue at hke hsm;generalize U i=ui at hNi hke;obtain ⟨o1,n1,k1⟩:=tp;obtain ⟨o2,n2,k2⟩:=ts;obtain ⟨o3,n3,k3⟩:=ui;obtain ⟨o4,n4,k4⟩:=ue;subst c1;simp only [Ah,v1,Tm.op,Tm.n,Tm.kids] at hsh hNi hke hsm hix;cases hb:hit i
     ·rw [hb] at hsm h9;have h9:=h9 l (by simp);cases l with
      | nil =>
       simp only [lV,lH,ON,List.append_nil] at h9 ⊢;simp only [↓O7,↓XX,XY,↓reduceIte,Nat.reduceBEq,Nat.reduceAdd,Int.reduceEq,Int.reduceLT,Int.reduceLE,hlt,w1,w2,wi,↓hix,FV.cells,↓AF hsh,↓Av hNi,↓Av hke,↓Av hka,↓Ag hsm,↓AL,XD,heldB,AT,XE];exact h9
      | cons i0 l0 =>
       simp only [lV,lH,ON,List.cons_append,List.nil_append] at h9 ⊢;simp only [↓O7,↓XX,XY,↓reduceIte,Nat.reduceBEq,Nat.reduceAdd,Int.reduceEq,Int.reduceLT,Int.reduceLE,hlt,w1,w2,wi,↓hix,FV.cells,↓AF hsh,↓Av hNi,↓Av hke,↓Av hka,↓Ag hsm,↓AL,XD,heldB,AT,XE];exact h9
     ·rw [hb] at hsm h9;have h9:=h9 (l++[i]) (by simp);cases l with
      | nil =>
       have happ:=fun {β:Type}=>F5 (β:=β) AuJ (.clip [.int .i64 (i:Int)]) (Xd [i]) rfl (by simp) (s0:=.nils) (.inl rfl);simp only [lV,lH,ON,List.cons_append,List.nil_append] at h9 ⊢;simp only [↓O7,↓XX,XY,↓reduceIte,Nat.reduceBEq,Nat.reduceAdd,Int.reduceEq,Int.reduceLT,Int.reduceLE,hlt,w1,w2,wi,↓hix,FV.cells,↓AF hsh,↓Av hNi,↓Av hke,↓Av hka,↓Ag hsm,↓Apu,↓happ,↓AL,XD,heldB,AT,XE];exact h9
      | cons i0 l0 =>
       have hll:(i0::l0).length<=100:=by
        have h1:=List.length_filter_le hit (List.range i);rw [<- hl,List.length_range] at h1;omega
       have happ:=fun {β:Type}=>Nn (β:=β) AuJ (es:=iE (i0::l0)) (es2:=[.int .i64 (i:Int)]) (.clip _) (Xd [i]) (Xd _) (AtW [i]) (by rw [iE,List.length_map];simp only [AzI,List.length_nil] at hll ⊢;omega);have hil:(iE (i0::l0)).length=(i0::l0).length:=by rw [iE,List.length_map]
       have hia:iE (i0::l0)++[.int .i64 (i:Int)]=iE (i0::(l0++[i])):=by simp [iE]
       have hil2:(i0::(l0++[i])).length=(i0::l0).length+1:=by simp
       simp only [hil,hia,AzI,List.length_nil,Nat.zero_add] at happ;simp only [lV,lH,ON,List.cons_append,List.nil_append,hil2] at h9 ⊢;simp only [AzI] at h9 ⊢;simp only [↓O7,↓XX,XY,↓reduceIte,Nat.reduceBEq,Nat.reduceAdd,Int.reduceEq,Int.reduceLT,Int.reduceLE,hlt,w1,w2,wi,↓hix,FV.cells,↓AF hsh,↓Av hNi,↓Av hke,↓Av hka,↓Ag hsm,↓Apu,↓happ,FR,↓AL,XD,heldB,AT,XE];exact h9
    ·simp only [c2,decide_false,Bool.false_and,Bool.and_false] at hhi;rw [hhi] at h9;have h9:=h9 l (by simp);generalize E i=ei at hNi c2;generalize U i=ui at hNi;obtain ⟨o1,n1,k1⟩:=tp;obtain ⟨o2,n2,k2⟩:=ts;obtain ⟨o3,n3,k3⟩:=ui;subst c1;simp only [Ah,v1,Tm.op,Tm.n,Tm.kids] at hsh hNi hix;cases l with
     | nil =>
      simp only [lV,lH,ON,List.append_nil] at h9 ⊢;simp only [↓O7,↓XX,XY,↓reduceIte,Nat.reduceBEq,Nat.reduceAdd,Int.reduceEq,Int.reduceLT,Int.reduceLE,hlt,w1,w2,wi,↓hix,FV.cells,↓AF hsh,↓Av hNi,c2,↓AL,XD,heldB,AT,XE];exact h9
     | cons i0 l0 =>
      simp only [lV,lH,ON,List.cons_append,List.nil_append] at h9 ⊢;simp only [↓O7,↓XX,XY,↓reduceIte,Nat.reduceBEq,Nat.reduceAdd,Int.reduceEq,Int.reduceLT,Int.reduceLE,hlt,w1,w2,wi,↓hix,FV.cells,↓AF hsh,↓Av hNi,c2,↓AL,XD,heldB,AT,XE];exact h9
   ·simp only [c1,decide_false,Bool.false_and] at hhi;rw [hhi] at h9;have h9:=h9 l (by simp);obtain ⟨o1,n1,k1⟩:=tp;simp only [v1,Tm.op,Tm.n,Tm.kids] at hix;cases l with
    | nil =>
     simp only [lV,lH,ON,List.append_nil] at h9 ⊢;simp only [↓O7,↓XX,XY,↓reduceIte,Nat.reduceBEq,Nat.reduceAdd,Int.reduceEq,Int.reduceLT,Int.reduceLE,hlt,w1,w2,wi,↓hix,FV.cells,c1,↓AL,XD,heldB,AT,XE];exact h9
    | cons i0 l0 =>
     simp only [lV,lH,ON,List.cons_append,List.nil_append] at h9 ⊢;simp only [↓O7,↓XX,XY,↓reduceIte,Nat.reduceBEq,Nat.reduceAdd,Int.reduceEq,Int.reduceLT,Int.reduceLE,hlt,w1,w2,wi,↓hix,FV.cells,c1,↓AL,XD,heldB,AT,XE];exact h9
 ·rw [htt];split
  ·exact ⟨Ass _,by have:=LR 0;simp [Tm.z,Tm.wt,Tm.wtL];omega,by simp [Tm.z,Tm.dp,Tm.dpL,Dg]⟩
  ·rename_i hne;have h1:=Int.emod_nonneg x (show (L.length:Int)≠0 by
    intro h;exact hne (List.eq_nil_of_length_eq_zero (by omega)))
   have h2:=Int.emod_lt_of_pos x (show (0:Int)<L.length by
    have:L.length≠0:=fun h=>hne (List.eq_nil_of_length_eq_zero h)
    omega)
   have hj:(x % (L.length:Int)).toNat<L.length:=by omega
   have:=hLlt (L.getD (x % (L.length:Int)).toNat 0) (by rw [List.getD_eq_getElem?_getD,List.getElem?_eq_getElem hj];exact List.getElem_mem hj)
   exact ⟨As6 (by omega) (by omega),by have:=LR 0;simp [Tm.wt,Tm.wtL];omega,by simp [Tm.dp,Tm.dpL,Dg]⟩
 ·intro hb;have hne:L≠[]:=by simpa using hb
  rw [htt,if_neg hne];have h1:=Int.emod_nonneg x (show (L.length:Int)≠0 by
   intro h;exact hne (List.eq_nil_of_length_eq_zero (by omega)))
  have h2:=Int.emod_lt_of_pos x (show (0:Int)<L.length by
   have:L.length≠0:=fun h=>hne (List.eq_nil_of_length_eq_zero h)
   omega)
  have hj:(x % (L.length:Int)).toNat<L.length:=by omega
  have hm:L.getD (x % (L.length:Int)).toNat 0∈L:=by rw [List.getD_eq_getElem?_getD,List.getElem?_eq_getElem hj];exact List.getElem_mem hj
  generalize L.getD (x % (L.length:Int)).toNat 0=i at hm;refine ⟨i,rfl,hLlt i hm,?_⟩;have hig:=hLlt i hm;rw [hL] at hm;have hh:=(List.mem_filter.1 hm).2;rw [hhit,Bool.and_eq_true,Bool.and_eq_true,decide_eq_true_eq,decide_eq_true_eq] at hh;obtain ⟨hp,_,_,_,_,f,hf⟩:=hU i hig;rw [hh.2.1] at hf;refine ⟨(P i).2,f,U i,by rw [hp,<- hh.1],?_,(Ik _ _).1 hh.2.2⟩;rw [show ((i+1:Nat):Int)=(i:Int)+1 by omega]
  exact hf
def DI (F:FuncId) (κ e:Nat):Prop:=∀(g:Ci) (a r:Tm),GOk e g->AOk g.length a->∃t b,Ev F [.fv (A4 g),.fv a.enc,.fv r.enc,iv ((e:Int) - 5)] (.tuple [Tm.enc t,.bool b])/\TG κ e g a t b
def PI (F:FuncId) (κ e:Nat):Prop:=∀(g:Ci) (a r:Tm),GOk e g->NOk g.length a->∃t b,Ev F [.fv (A4 g),.fv a.enc,.fv r.enc,iv ((e:Int) - 5)] (.tuple [Tm.enc t,.bool b])/\TG κ e g a t b
structure TyOk (g:Ci) (e:Nat) (t:Tm):Prop where
 sc:t.sc g.length
 wt:t.wt<=Wg (e - 1)+10
 dp:t.dp<=Dg (e - 1)+3
 gr:Gr 0 e g .z t
def LJ (e:Nat):Prop:=∀(g:Ci) (r:Tm),GOk e g->∃t,Ev 69 [.fv (A4 g),.fv r.enc,iv ((e:Int) - 5)] (Tm.enc t)/\TyOk g e t
theorem OK {k:Nat} {a:Tm} (h:NOk k a) (hk:k<=1000) (d:Nat) (hd:d<=10):NOk (k+d) (a.shift d 0):=⟨B5 a d 0 k h.sc (by have:=h.wt;omega),by rw [BG];exact h.wt,by rw [Fj];exact h.dp⟩
theorem AkG {e:Nat} (h6:6<=e) (he:e<=10) (hT:LJ 6) (hG:DI 70 1 (e - 2)):PI 100 3 e:=by
 intro g a r hg ha;have hlen:=hg.len;have hW2:Wg e=16 * Wg (e - 2):=by
  obtain ⟨f,rfl⟩:∃f,e=f+2:=⟨e - 2,by omega⟩;rw [show f+2=(f+1)+1 by omega,LP,LP,show f+1+1 - 2=f by omega];omega
 have hW20:=LR (e - 2);have hW5:4 * Wg 5<=Wg e:=by rw [<- LP];exact Rp (by omega)
 have hW10:=NV he;have hDe:Dg e=Dg (e - 2)+20:=by unfold Dg;omega
 have hD5:Dg 5+10<=Dg e:=by unfold Dg;omega
 have hD2:200<=Dg (e - 2):=by unfold Dg;omega
 have hDm:Dg e<=300:=by unfold Dg;omega
 obtain ⟨b,⟨N1,h1⟩,tb⟩:=hT g (r.pick 0) (AU (by omega) hg);have bw:=tb.wt;have bd:=tb.dp;simp only [show 6 - 1=5 from rfl] at bw bd
 have hba:AOk g.length b:=⟨tb.sc,by omega,by omega⟩;have hbm:GOk (e - 2) (g++[(1,b)]):=Da (AU (by omega) hg) tb.sc (by omega) (by omega);obtain ⟨x,p,⟨N2,h2⟩,tx⟩:=hG g b (r.pick 1) (AU (by omega) hg) hba;obtain ⟨c,q,⟨N3,h3⟩,tc⟩:=hG g a (r.pick 2) (AU (by omega) hg) (Bx ha);have hsa:=OK ha (by omega) 1 (by omega);obtain ⟨c2,q2,⟨N4,h4⟩,tc2⟩:=hG (g++[(1,b)]) (a.shift 1 0) (r.pick 2) hbm (by simpa using Bx hsa);have we:BD ((e:Int) - 5 - 2)=((e - 2:Nat):Int) - 5:=by rw [Az (by omega) (by omega)];omega
 have hd2:(((e - 2:Nat):Int) - 5)=((e - 2:Nat):Int) - 5:=rfl;have aw:=ha.wt;have ad:=ha.dp;have xw:=tx.wt;have cw:=tc.wt;have c2w:=tc2.wt;have xd:=tx.dp;have cd:=tc.dp;have c2d:=tc2.dp;have c2s:c2.sc (g.length+1):=by simpa using tc2.sc
 by_cases h0:r.n % 3=0
 ·refine ⟨.mk 8 0 [.mk 7 0 [.mk 6 0 [a,b.shift 1 0],c,x]],p && q,⟨N1+N2+N3+200000000000+1,?_⟩,?_,?_,?_,fun hb=>.fst e g a b c x h6 hba tb.gr (tx.gr (Le hb)) (tc.gr (Jh hb))⟩
  ·intro n hn;obtain ⟨n,rfl⟩:∃k,n=k+1:=⟨n - 1,by omega⟩;have h1:=h1 n (by omega);have h2:=h2 n (by omega);have h3:=h3 n (by omega);rw [<- we] at h2 h3;have p0:=AM (n:=n) (by omega) r 0;have p1:=AM (n:=n) (by omega) r 1;have p2:=AM (n:=n) (by omega) r 2;have hw:=As (n:=n) (by omega) r.n (m:=3) (by omega) (by omega);have hsh:=CK n b 1 0 (by omega) (EB _ _ tb.sc) (by omega) (by omega);have t6:=CP (n:=n) (by omega) 6 [a,b.shift 1 0];have t7:=CP (n:=n) (by omega) 7 [.mk 6 0 [a,b.shift 1 0],c,x];have t8:=CP (n:=n) (by omega) 8 [.mk 7 0 [.mk 6 0 [a,b.shift 1 0],c,x]];rw [h0] at hw;rw [AtT];clear h4 tb tx tc tc2 ha hg hG hT hba hbm hsa aw ad xw cw c2w bw xd cd c2d bd c2s;generalize b.shift 1 0=bs at hsh t6 t7 t8 ⊢;generalize r.pick 0=r0 at p0 h1;generalize r.pick 1=r1 at p1 h2;generalize r.pick 2=r2 at p2 h3;obtain ⟨o1,m1,k1⟩:=a;obtain ⟨o2,m2,k2⟩:=b;obtain ⟨o3,m3,k3⟩:=r;obtain ⟨o4,m4,k4⟩:=bs;obtain ⟨o5,m5,k5⟩:=x;obtain ⟨o6,m6,k6⟩:=c;obtain ⟨o7,m7,k7⟩:=r0;obtain ⟨o8,m8,k8⟩:=r1;obtain ⟨o9,m9,k9⟩:=r2;simp only [Tm.n,A4,AzK,AzJ,Ah,Int.reduceSub,Int.cast_ofNat_Int] at h1 h2 h3 p0 p1 p2 hw hsh t6 t7 t8 ⊢;cases p
   ·simp (maxSteps:=1000000) only [↓AnD,↓XX,XY,↓reduceIte,Nat.reduceBEq,Nat.reduceAdd,Int.reduceEq,Int.reduceLT,Int.reduceLE,↓Ag p0,↓Ag p1,↓Ag p2,↓AF h1,↓AC h2,↓Ag hw,↓AC h3,↓AF hsh,↓CA,↓Ag t6,↓Kc,↓Ag t7,↓Di,↓Ag t8]
    first | exact Al _ _ | exact Au rfl (by simp) _
   ·simp (maxSteps:=1000000) only [↓AnD,↓XX,XY,↓reduceIte,Nat.reduceBEq,Nat.reduceAdd,Int.reduceEq,Int.reduceLT,Int.reduceLE,↓Ag p0,↓Ag p1,↓Ag p2,↓AF h1,↓AC h2,↓Ag hw,↓AC h3,↓AF hsh,↓CA,↓Ag t6,↓Kc,↓Ag t7,↓Di,↓Ag t8]
    first | exact Al _ _ | exact Au rfl (by simp) _
  ·exact Fm (by decide) (by decide) (BC (by decide) (by decide) (by decide)) (XK (by decide) (by decide) (BC (by decide) (by decide) (by decide))
    (Cp (by decide) (by decide) (BC (by decide) (by decide) (by decide)) ha.sc (B5 b 1 0 _ tb.sc (by simp only [show Am 8 0=0 from rfl,show Am 7 0=0 from rfl];omega))) tc.sc tx.sc)
  ·rw [wt1,wt3,Nt,BG];omega
  ·rw [dp1,dp3,PK,Fj];omega
 ·refine ⟨.mk 5 0 [.mk 4 0 [b,c2],x],p && q2,⟨N1+N2+N4+200000000000+1,?_⟩,?_,?_,?_,fun hb=>.app e g a b c2 x h6 hba tb.gr (tx.gr (Le hb)) (tc2.gr (Jh hb))⟩
  ·intro n hn;obtain ⟨n,rfl⟩:∃k,n=k+1:=⟨n - 1,by omega⟩;have h1:=h1 n (by omega);have h2:=h2 n (by omega);have h4:=h4 n (by omega);rw [<- we] at h2 h4;have p0:=AM (n:=n) (by omega) r 0;have p1:=AM (n:=n) (by omega) r 1;have p2:=AM (n:=n) (by omega) r 2;have hw:=As (n:=n) (by omega) r.n (m:=3) (by omega) (by omega);have hsh:=CK n a 1 0 (by omega) (EB _ _ ha.sc) (by omega) (by omega);have hm:=Dx (n:=n) g 1 b (by omega) (by omega);have t4:=CP (n:=n) (by omega) 4 [b,c2];have t5:=CP (n:=n) (by omega) 5 [.mk 4 0 [b,c2],x];rw [AtT];clear h3 tb tx tc tc2 ha hg hG hT hba hbm hsa aw ad xw cw c2w bw xd cd c2d bd c2s;generalize a.shift 1 0=sa at hsh h4;generalize r.pick 0=r0 at p0 h1;generalize r.pick 1=r1 at p1 h2;generalize r.pick 2=r2 at p2 h4;generalize r.n % 3=w3 at hw h0;obtain ⟨o1,m1,k1⟩:=a;obtain ⟨o2,m2,k2⟩:=b;obtain ⟨o3,m3,k3⟩:=r;obtain ⟨o4,m4,k4⟩:=sa;obtain ⟨o5,m5,k5⟩:=x;obtain ⟨o6,m6,k6⟩:=c2;obtain ⟨o7,m7,k7⟩:=r0;obtain ⟨o8,m8,k8⟩:=r1;obtain ⟨o9,m9,k9⟩:=r2;simp only [Tm.n,A4,AzK,AzJ,Ah,Int.reduceSub,Int.cast_ofNat_Int] at h1 h2 h4 p0 p1 p2 hw hsh hm t4 t5 ⊢;cases p
   ·simp (maxSteps:=1000000) only [↓AnD,↓XX,XY,↓reduceIte,Nat.reduceBEq,Nat.reduceAdd,Int.reduceEq,Int.reduceLT,Int.reduceLE,↓Ag p0,↓Ag p1,↓Ag p2,↓AF h1,↓AC h2,↓Ag hw,h0,↓AC h4,↓AF hsh,↓AF hm,↓CA,↓Ag t4,↓Ag t5]
    first | exact Al _ _ | exact Au rfl (by simp) _
   ·simp (maxSteps:=1000000) only [↓AnD,↓XX,XY,↓reduceIte,Nat.reduceBEq,Nat.reduceAdd,Int.reduceEq,Int.reduceLT,Int.reduceLE,↓Ag p0,↓Ag p1,↓Ag p2,↓AF h1,↓AC h2,↓Ag hw,h0,↓AC h4,↓AF hsh,↓AF hm,↓CA,↓Ag t4,↓Ag t5]
    first | exact Al _ _ | exact Au rfl (by simp) _
  ·exact Cp (by decide) (by decide) (BC (by decide) (by decide) (by decide)) (Cp (by decide) (by decide) (BC (by decide) (by decide) (by decide)) tb.sc c2s) tx.sc
  ·rw [Nt,Nt];omega
  ·rw [PK,PK];omega
end Idl
end Go.Proofs.Ytdibmackcbpniaa

/-
  Texts of a proof, part 12: an ideal semantics of the program, its functions in shallow form, contracts of them. No statement of the seat is proved here.
-/
import Derived.Test.YtaifgaidaglblaaEqualEtaK11
set_option linter.all false
noncomputable section
namespace Go.Proofs.Ytaifgaidaglblaa
namespace Idl
def Hit (g:Ci) (st:Int) (a:Tm) (i:Nat):Prop:=i<g.length∧∃T f w,g[g.length - 1 - i]?=some (st,T)∧AI f (T.shift ((i+1:Nat):Int) 0)=some (w,0)∧w.eta=a.eta
inductive Gr:Nat→Nat→Ci→Tm→Tm→Prop
 | tnat (e:Nat) (g:Ci) (a:Tm):Gr 0 e g a (.mk 10 0 [])
 | tty (e:Nat) (g:Ci) (a:Tm):Gr 0 e g a (.mk 14 0 [])
 | tu (e:Nat) (g:Ci) (a:Tm):Gr 0 e g a (.mk 2 0 [])
 | tlp (e:Nat) (g:Ci) (a r:Tm):Gr 0 e g a (.mk 18 0 [r.plainT 1])
 | tpi (e:Nat) (g:Ci) (a x y:Tm) (op:Int) (ho:op=3∨op=6) (h6:6≤e) (hgl:g.length≤60) (hx:AOk g.length x) (h1:Gr 0 (e - 1) g .z x) (h2:Gr 0 (e - 1) (g++[(1,x)]) .z y):Gr 0 e g a (.mk op 0 [x,y])
 | tlift (e:Nat) (g:Ci) (a t:Tm) (h6:6≤e) (h1:Gr 1 (e - 1) g (.mk 14 0 []) t):Gr 0 e g a (.mk 18 0 [t])
 | grow (e:Nat) (g:Ci) (a0 a t:Tm) (f:Nat) (hn:AI f a0=some (a,0)) (hg:g.length≤60) (ha:NOk g.length a) (h1:Gr 3 e g a t):Gr 1 e g a0 t
 | objc (e:Nat) (g:Ci) (a0 a t:Tm) (f:Nat) (hn:AI f a0=some (a,0)) (hg:g.length≤60) (ha:NOk g.length a) (h1:Gr 4 e g a t):Gr 2 e g a0 t
 | var1 (e:Nat) (g:Ci) (a:Tm) (i:Nat) (h:Hit g 1 a i):Gr 3 e g a (.mk 1 i [])
 | var0 (e:Nat) (g:Ci) (a:Tm) (i:Nat) (h:Hit g 0 a i):Gr 4 e g a (.mk 1 i [])
 | fst (e:Nat) (g:Ci) (a b c x:Tm) (h6:6≤e) (hb:AOk g.length b) (h1:Gr 0 6 g .z b) (h2:Gr 1 (e - 2) g b x) (h3:Gr 1 (e - 2) g a c):Gr 3 e g a (.mk 8 0 [.mk 7 0 [.mk 6 0 [a,b.shift 1 0],c,x]])
 | app (e:Nat) (g:Ci) (a b c x:Tm) (h6:6≤e) (hb:AOk g.length b) (h1:Gr 0 6 g .z b) (h2:Gr 1 (e - 2) g b x) (h3:Gr 1 (e - 2) (g++[(1,b)]) (a.shift 1 0) c):Gr 3 e g a (.mk 5 0 [.mk 4 0 [b,c],x])
 | recc (e:Nat) (g:Ci) (a n z s:Tm) (h6:6≤e) (ha:a.op=10∨a.op=14) (h1:Gr 1 (e - 2) g (.mk 10 0 []) n) (h2:Gr 1 (e - 2) g a z) (h3:Gr 1 (e - 2) (g++[(1,.mk 10 0 [])]++[(1,a.shift 1 0)]) (a.shift 2 0) s):Gr 3 e g a (.mk 13 0 [a.shift 1 0,z,s,n])
 | suc (e:Nat) (g:Ci) (a n:Tm) (h6:6≤e) (ha:a.op=10) (h1:Gr 1 (e - 1) g a n):Gr 3 e g a (.mk 12 0 [n])
 | num (e:Nat) (g:Ci) (a:Tm) (j:Nat) (ha:a.op=10) (hj:j≤3):Gr 3 e g a (HN j)
 | tint (e:Nat) (g:Ci) (a:Tm) (ha:a.op=14):Gr 3 e g a (.mk 15 0 [])
 | tfun (e:Nat) (g:Ci) (a x y:Tm) (op:Int) (ho:op=16∨op=17) (h6:6≤e) (ha:a.op=14) (h1:Gr 1 (e - 1) g a x) (h2:Gr 1 (e - 1) g a y):Gr 3 e g a (.mk op 0 [x,y])
 | uni (e:Nat) (g:Ci) (a:Tm) (n:Int) (ha:a.op=2):Gr 3 e g a (.mk 2 n [])
 | unat (e:Nat) (g:Ci) (a:Tm) (ha:a.op=2):Gr 3 e g a (.mk 10 0 [])
 | uty (e:Nat) (g:Ci) (a:Tm) (ha:a.op=2):Gr 3 e g a (.mk 14 0 [])
 | ult (e:Nat) (g:Ci) (a:Tm) (ha:a.op=2):Gr 3 e g a (.mk 18 0 [.mk 15 0 []])
 | upi (e:Nat) (g:Ci) (a x y:Tm) (op:Int) (ho:op=3∨op=6) (h6:6≤e) (ha:a.op=2) (hx:AOk g.length x) (h1:Gr 1 (e - 1) g a x) (h2:Gr 1 (e - 1) (g++[(1,x)]) a y):Gr 3 e g a (.mk op 0 [x,y])
 | lam (e:Nat) (g:Ci) (n:Int) (d c x:Tm) (h1:Gr 1 (e - 1) (g++[(1,d)]) c x):Gr 3 e g (.mk 3 n [d,c]) (.mk 4 0 [d,x])
 | pair (e:Nat) (g:Ci) (n:Int) (d c x y:Tm) (hx:AOk g.length x) (h1:Gr 1 (e - 1) g d x) (h2:Gr 1 (e - 1) g (c.subst 0 0 x) y):Gr 3 e g (.mk 6 n [d,c]) (.mk 7 0 [.mk 6 n [d,c],x,y])
 | quo (e:Nat) (g:Ci) (n:Int) (d x:Tm) (h1:Gr 2 (e - 1) g d x):Gr 3 e g (.mk 18 n [d]) (.mk 19 0 [x])
 | oif (e:Nat) (g:Ci) (a c x y:Tm) (h6:6≤e) (h1:Gr 2 (e - 2) g (.mk 15 0 []) c) (h2:Gr 2 (e - 2) g a x) (h3:Gr 2 (e - 2) g a y):Gr 4 e g a (.mk 27 0 [c,x,y])
 | olet (e:Nat) (g:Ci) (a r x y:Tm) (h6:6≤e) (h1:Gr 2 (e - 2) g (r.plainT 1) x) (h2:Gr 2 (e - 2) (g++[(0,r.plainT 1)]) (a.shift 1 0) y):Gr 4 e g a (.mk 28 0 [x,y])
 | oapp (e:Nat) (g:Ci) (a r x y:Tm) (h6:6≤e) (h1:Gr 2 (e - 2) g (r.plainT 1) x) (h2:Gr 2 (e - 2) (g++[(0,r.plainT 1)]) (a.shift 1 0) y):Gr 4 e g a (.mk 21 0 [.mk 20 0 [r.plainT 1,y],x])
 | ofst (e:Nat) (g:Ci) (a x y:Tm) (h6:6≤e) (h1:Gr 2 (e - 2) g a x) (h2:Gr 2 (e - 2) g (.mk 15 0 []) y):Gr 4 e g a (.mk 23 0 [.mk 22 0 [x,y]])
 | ofix (e:Nat) (g:Ci) (a x:Tm) (h6:6≤e) (h1:Gr 2 (e - 2) (g++[(0,a)]) (a.shift 1 0) x):Gr 4 e g a (.mk 29 0 [a,x])
 | spl (e:Nat) (g:Ci) (a x:Tm) (h6:6≤e) (h1:Gr 1 (e - 1) g (.mk 18 0 [a]) x):Gr 4 e g a (.mk 30 0 [x])
 | oint (e:Nat) (g:Ci) (a:Tm) (n:Int) (ha:a.op=15):Gr 4 e g a (.mk 25 n [])
 | oprim (e:Nat) (g:Ci) (a p q:Tm) (n:Int) (h6:6≤e) (ha:a.op=15) (h1:Gr 2 (e - 1) g a p) (h2:Gr 2 (e - 1) g a q):Gr 4 e g a (.mk 26 n [p,q])
 | olam (e:Nat) (g:Ci) (n:Int) (d c b:Tm) (h1:Gr 2 (e - 1) (g++[(0,d)]) (c.shift 1 0) b):Gr 4 e g (.mk 16 n [d,c]) (.mk 20 0 [d,b])
 | opair (e:Nat) (g:Ci) (n:Int) (d c p q:Tm) (h1:Gr 2 (e - 1) g d p) (h2:Gr 2 (e - 1) g c q):Gr 4 e g (.mk 17 n [d,c]) (.mk 22 0 [p,q])
theorem AdU:∀k,(HN k).wt=k+1:=by
 intro k
 induction k with
 | zero=>rfl
 | succ k ih=>simp only [HN,Tm.wt,Tm.wtL,ih];omega
theorem dp1 (op n:Int) (a:Tm):(Tm.mk op n [a]).dp=1+a.dp:=by simp only [Tm.dp,Tm.dpL];omega
theorem Q8 (op n:Int) (a b:Tm):(Tm.mk op n [a,b]).dp=1+max a.dp b.dp:=by simp only [Tm.dp,Tm.dpL];omega
theorem dp3 (op n:Int) (a b c:Tm):(Tm.mk op n [a,b,c]).dp=1+max a.dp (max b.dp c.dp):=by simp only [Tm.dp,Tm.dpL];omega
theorem dp4 (op n:Int) (a b c d:Tm):(Tm.mk op n [a,b,c,d]).dp=1+max a.dp (max b.dp (max c.dp d.dp)):=by simp only [Tm.dp,Tm.dpL];omega
theorem wt1 (op n:Int) (a:Tm):(Tm.mk op n [a]).wt=1+a.wt:=by simp only [Tm.wt,Tm.wtL];omega
theorem Oi (op n:Int) (a b:Tm):(Tm.mk op n [a,b]).wt=1+a.wt+b.wt:=by simp only [Tm.wt,Tm.wtL];omega
theorem wt3 (op n:Int) (a b c:Tm):(Tm.mk op n [a,b,c]).wt=1+a.wt+b.wt+c.wt:=by simp only [Tm.wt,Tm.wtL];omega
theorem wt4 (op n:Int) (a b c d:Tm):(Tm.mk op n [a,b,c,d]).wt=1+a.wt+b.wt+c.wt+d.wt:=by simp only [Tm.wt,Tm.wtL];omega
structure CtxT (g:Ci) (G:List Nat):Prop where
 len:G.length=g.length
 ok:∀(i:Nat) (st:Int) (T:Tm),i<g.length→g[g.length - 1 - i]?=some (st,T)→∃s,G[i]?=some s∧s<10∧(st=0→s=6)∧(st=1→T.vb∧∀f w,AI f T=some (w,0)→w.op≠4∧w.op≠7∧∀τ,QT w.op=some τ→s=τ)
theorem AgF:CtxT [] []:=⟨rfl,fun i st T h=>by simp at h⟩
theorem Jj {g:Ci} {G:List Nat} (h:CtxT g G) (st:Int) (T:Tm) (s:Nat) (hs:s<10) (h0:st=0→s=6) (h1:st=1→T.vb∧∀f w,AI f T=some (w,0)→w.op≠4∧w.op≠7∧∀τ,QT w.op=some τ→s=τ):CtxT (g++[(st,T)]) (s::G):=by
 refine ⟨by simp [h.len],?_⟩;intro i st' T' hi hg;rw [List.length_append,AwT,List.length_nil] at hi hg;cases i with
 | zero =>
  rw [List.getElem?_append_right (by omega),show g.length+(0+1) - 1 - 0 - g.length=0 by omega] at hg
  simp only [List.getElem?_cons_zero,AwP,AwQ] at hg;obtain ⟨rfl,rfl⟩:=hg;exact ⟨s,rfl,hs,h0,h1⟩
 | succ i =>
  rw [List.getElem?_append_left (by omega),show g.length+(0+1) - 1 - (i+1)=g.length - 1 - i by omega] at hg
  rw [List.getElem?_cons_succ];exact h.ok i st' T' (by omega) hg
theorem WY {k:Nat} {a:Tm} (h:AOk k a) (hk:k≤1000):a.vb:=QI a k h.sc (by have:=h.wt;omega)
theorem Ahw {op:Int} {s:Nat} (h:QT op=some s):op≠4∧op≠7:=by
 constructor<;>(rintro rfl;simp [QT] at h)
theorem Hh {g:Ci} {G:List Nat} (h:CtxT g G) {T:Tm} {s:Nat} (hT:HasT G T (10+s)) (hv:T.vb):CtxT (g++[(1,T)]) (s::G):=by
 have hs:=(Cn hT).2;refine Jj h 1 T s (by omega) (by omega) (fun _=>⟨hv,fun f w hw=>?_⟩)
 have:=(Cn (O3 (Jy hw hT))).1
 have hne:=Ahw this;exact ⟨hne.1,hne.2,fun τ hτ=>by rw [this] at hτ;exact Option.some.inj hτ⟩
theorem LQ {g:Ci} {G:List Nat} (h:CtxT g G) (T:Tm):CtxT (g++[(0,T)]) (6::G):=Jj h 0 T 6 (by omega) (fun _=>rfl) (by omega)
theorem ApC {op:Int} {s:Nat} (h:QT op=some s):s<6:=by
 unfold QT at h
 repeat' (split at h)
 all_goals first | (cases h;done) | (simp only [AwP] at h;omega)
theorem Aoz {g:Ci} {G:List Nat} (h:CtxT g G) {T:Tm} (hT:HasT G T 2) (hv:T.vb):∃s,s<10∧CtxT (g++[(1,T)]) (s::G):=by
 have hne:∀f w,AI f T=some (w,0)→w.op≠4∧w.op≠7:=by
  intro f w hw
  have:=Jy hw hT
  cases this with
  | var=>simp only [Tm.op];omega
  | node _ op n ks _ sg hr =>
   simp only [Tm.op];cases hr<;>decide
 by_cases hex:∃f w s,AI f T=some (w,0)∧QT w.op=some s
 ·obtain ⟨f,w,s,hw,hs⟩:=hex;have hlt:=ApC hs;refine ⟨s,by omega,Jj h 1 T s (by omega) (by omega) (fun _=>⟨hv,fun f' w' hw'=>⟨(hne f' w' hw').1,(hne f' w' hw').2,fun τ hτ=>?_⟩⟩)⟩
  have:=Nl hw hw'
  simp only [AwQ,and_true] at this;subst this;rw [hs] at hτ;exact Option.some.inj hτ
 ·exact ⟨7,by omega,Jj h 1 T 7 (by omega) (by omega) (fun _=>⟨hv,fun f' w' hw'=>⟨(hne f' w' hw').1,(hne f' w' hw').2,fun τ hτ=>absurd ⟨f',w',τ,hw',hτ⟩ hex⟩⟩)⟩
theorem AgK {t:Tm} (h4:t.op≠4) (h7:t.op≠7):t.eta.op=t.op:=by
 obtain ⟨op,n,ks⟩:=t;simp only [Tm.op] at h4 h7;rw [Tm.eta,if_neg h4,if_neg h7];rfl
theorem PO (t:Tm) (d c:Int):(t.shift d c).op=t.op:=by
 obtain ⟨op,n,ks⟩:=t;rw [Tm.shift];rfl
theorem AgR {g:Ci} {G:List Nat} (h:CtxT g G) (hl:g.length≤1000) {st:Int} {a:Tm} {i:Nat} (hh:Hit g st a i):(st=0→HasT G (.mk 1 i []) 6)∧(st=1→∀s,QT a.op=some s→HasT G (.mk 1 i []) s):=by
 obtain ⟨hi,T,f,w,hg,hn,he⟩:=hh;obtain ⟨s,h1,h2,h3,h4⟩:=h.ok i st T hi hg;refine ⟨fun h0=>?_,fun h0 s' hs'=>?_⟩
 ·have:=h3 h0
  subst this;exact .var _ _ _ (by omega) (by simpa using h1) (by omega)
 ·obtain ⟨hv,h5⟩:=h4 h0;obtain ⟨w0,q1,q2⟩:=Afx (d:=i+1) (by omega) hn hv;obtain ⟨n4,n7,h6⟩:=h5 f w0 q1;have ha:=Ahw hs';have e1:w.op=w0.op:=by rw [q2,PO]
  have e2:w.op=a.op:=by
   have e3:=AgK (t:=w) (by rw [e1];exact n4) (by rw [e1];exact n7);have e4:=AgK (t:=a) ha.1 ha.2;rw [← e3,he,e4]
  have:=h6 s' (by rw [← e1,e2];exact hs')
  subst this;exact .var _ _ _ (by omega) (by simpa using h1) h2
theorem ht0 {G:List Nat} {op n:Int} {s:Nat} (h:Rule op s []):HasT G (.mk op n []) s:=.node _ _ _ _ _ _ h rfl (fun i t bs s' a=>by simp at a)
theorem ht1 {G:List Nat} {op n:Int} {s:Nat} {b0:List Nat} {s0:Nat} {x:Tm} (h:Rule op s [(b0,s0)]) (hx:HasT (b0++G) x s0):HasT G (.mk op n [x]) s:=.node _ _ _ _ _ _ h rfl (fun i t bs s' a b=>by
 match i with
 | 0=>simp at a b;obtain ⟨rfl,rfl⟩:=b;subst a;exact hx
 | i+1=>simp at a)
theorem ht2 {G:List Nat} {op n:Int} {s:Nat} {b0 b1:List Nat} {s0 s1:Nat} {x y:Tm} (h:Rule op s [(b0,s0),(b1,s1)]) (hx:HasT (b0++G) x s0) (hy:HasT (b1++G) y s1):HasT G (.mk op n [x,y]) s:=.node _ _ _ _ _ _ h rfl (fun i t bs s' a b=>by
 match i with
 | 0=>simp at a b;obtain ⟨rfl,rfl⟩:=b;subst a;exact hx
 | 1=>simp at a b;obtain ⟨rfl,rfl⟩:=b;subst a;exact hy
 | i+2=>simp at a)
theorem ht3 {G:List Nat} {op n:Int} {s:Nat} {b0 b1 b2:List Nat} {s0 s1 s2:Nat} {x y z:Tm} (h:Rule op s [(b0,s0),(b1,s1),(b2,s2)]) (hx:HasT (b0++G) x s0) (hy:HasT (b1++G) y s1) (hz:HasT (b2++G) z s2):HasT G (.mk op n [x,y,z]) s:=.node _ _ _ _ _ _ h rfl (fun i t bs s' a b=>by
 match i with
 | 0=>simp at a b;obtain ⟨rfl,rfl⟩:=b;subst a;exact hx
 | 1=>simp at a b;obtain ⟨rfl,rfl⟩:=b;subst a;exact hy
 | 2=>simp at a b;obtain ⟨rfl,rfl⟩:=b;subst a;exact hz
 | i+3=>simp at a)
theorem ht4 {G:List Nat} {op n:Int} {s:Nat} {b0 b1 b2 b3:List Nat} {s0 s1 s2 s3:Nat} {x y z w:Tm} (h:Rule op s [(b0,s0),(b1,s1),(b2,s2),(b3,s3)]) (hx:HasT (b0++G) x s0) (hy:HasT (b1++G) y s1) (hz:HasT (b2++G) z s2) (hw:HasT (b3++G) w s3):HasT G (.mk op n [x,y,z,w]) s:=.node _ _ _ _ _ _ h rfl (fun i t bs s' a b=>by
 match i with
 | 0=>simp at a b;obtain ⟨rfl,rfl⟩:=b;subst a;exact hx
 | 1=>simp at a b;obtain ⟨rfl,rfl⟩:=b;subst a;exact hy
 | 2=>simp at a b;obtain ⟨rfl,rfl⟩:=b;subst a;exact hz
 | 3=>simp at a b;obtain ⟨rfl,rfl⟩:=b;subst a;exact hw
 | i+4=>simp at a)
theorem De (G:List Nat):∀(d:Nat) (r:Tm),HasT G (r.plainT d) 1
 | 0,r=>by rw [Tm.plainT];exact ht0 .tint
 | d+1,r=>by
  have h1:=Int.emod_nonneg r.n (show (4:Int)≠0 by decide)
  have h2:=Int.emod_lt_of_pos r.n (show (0:Int)<4 by decide)
  rw [Tm.plainT];split
  ·exact ht0 .tint
  ·have h3:16+r.n % 4 - 2=16∨16+r.n % 4 - 2=17:=by omega
   rcases h3 with h3 | h3<;>rw [h3]
   ·exact ht2 .tfun (De _ d _) (De _ d _)
   ·exact ht2 .tpro (De _ d _) (De _ d _)
theorem AfP (G:List Nat):∀j,HasT G (HN j) 0
 | 0=>ht0 .zero
 | j+1=>ht1 .suc (AfP G j)
theorem Amv {G:List Nat} {n:Int} {d c:Tm} {op:Int} (ho:op=3∨op=6) {s:Nat} (h:HasT G (.mk op n [d,c]) (10+s)):(s=4∧op=3∨s=5∧op=6)∧∃a b,a<6∧b<6∧HasT G d (10+a)∧HasT (a::G) c (10+b):=by
 generalize hq:10+s=q at h;rcases ho with rfl | rfl
 ·cases h with
  | node _ _ _ _ _ sg hr hl hk =>
   cases hr with
   | piT a b ha hb=>exact ⟨by omega,a,b,ha,hb,hk 0 d [] (10+a) rfl rfl,hk 1 c [a] (10+b) rfl rfl⟩
   | piU=>omega
 ·cases h with
  | node _ _ _ _ _ sg hr hl hk =>
   cases hr with
   | sigT a b ha hb=>exact ⟨by omega,a,b,ha,hb,hk 0 d [] (10+a) rfl rfl,hk 1 c [a] (10+b) rfl rfl⟩
   | sigU=>omega
theorem Akg {G:List Nat} {n:Int} {d:Tm} {s:Nat} (h:HasT G (.mk 18 n [d]) (10+s)):s=3∧HasT G d 1:=by
 generalize hq:10+s=q at h;cases h with
 | node _ _ _ _ _ sg hr hl hk =>
  cases hr with
  | liftT=>exact ⟨by omega,hk 0 d [] 1 rfl rfl⟩
  | liftU=>omega
theorem AcH {G:List Nat} {n:Int} {d c:Tm} {op:Int} (ho:op=16∨op=17) (h:HasT G (.mk op n [d,c]) 1):HasT G d 1∧HasT G c 1:=by
 rcases ho with rfl | rfl
 ·cases h with
  | node _ _ _ _ _ sg hr hl hk=>cases hr;exact ⟨hk 0 d [] 1 rfl rfl,hk 1 c [] 1 rfl rfl⟩
 ·cases h with
  | node _ _ _ _ _ sg hr hl hk=>cases hr;exact ⟨hk 0 d [] 1 rfl rfl,hk 1 c [] 1 rfl rfl⟩
theorem up1 {g:Ci} {G:List Nat} (h:CtxT g G) (hl:g.length≤1000) {t:Tm} {s:Nat} (ht:HasT G t s) (hw:t.wt≤1000000000000000) (x:Nat):HasT (x::G) (t.shift 1 0) s:=N9 ht [x] (by rw [h.len];simp only [AwT,List.length_nil];omega)
theorem up2 {g:Ci} {G:List Nat} (h:CtxT g G) (hl:g.length≤1000) {t:Tm} {s:Nat} (ht:HasT G t s) (hw:t.wt≤1000000000000000) (x y:Nat):HasT (x::y::G) (t.shift 2 0) s:=N9 ht [x,y] (by rw [h.len];simp only [AwT,List.length_nil];omega)
theorem We {k e:Nat} {g:Ci} {a t:Tm} (h:Gr k e g a t):∀G,CtxT g G →
  (k=0→∃s,s<6∧HasT G t (10+s))∧(k=1→∀s,HasT G a (10+s)→HasT G t s)∧(k=2→HasT G a 1→HasT G t 6) ∧
  (k=3→g.length≤60→NOk g.length a→∀s,HasT G a (10+s)→HasT G t s)∧(k=4→g.length≤60→NOk g.length a→HasT G a 1→HasT G t 6):=by
 induction h with
 | tnat e g a=>intro G hG;exact ⟨fun _=>⟨0,by omega,ht0 .natT⟩,by omega,by omega,by omega,by omega⟩
 | tty e g a=>intro G hG;exact ⟨fun _=>⟨1,by omega,ht0 .tyT⟩,by omega,by omega,by omega,by omega⟩
 | tu e g a=>intro G hG;exact ⟨fun _=>⟨2,by omega,ht0 .uT⟩,by omega,by omega,by omega,by omega⟩
 | tlp e g a r=>intro G hG;exact ⟨fun _=>⟨3,by omega,ht1 .liftT (De _ 1 r)⟩,by omega,by omega,by omega,by omega⟩
 | tpi e g a x y op ho h6 hgl hx h1 h2 ih1 ih2 =>
  intro G hG;refine ⟨fun _=>?_,by omega,by omega,by omega,by omega⟩;obtain ⟨s1,q1,q2⟩:=(ih1 G hG).1 rfl;have hvb:x.vb:=by
   have:=hx.wt
   exact QI x g.length hx.sc (by have:=hG.len;omega)
  obtain ⟨s2,q3,q4⟩:=(ih2 (s1::G) (Hh hG q2 hvb)).1 rfl;rcases ho with rfl | rfl
  ·exact ⟨4,by omega,ht2 (.piT s1 s2 q1 q3) q2 q4⟩
  ·exact ⟨5,by omega,ht2 (.sigT s1 s2 q1 q3) q2 q4⟩
 | tlift e g a t h6 h1 ih =>
  intro G hG;exact ⟨fun _=>⟨3,by omega,ht1 .liftT ((ih G hG).2.1 rfl 1 (ht0 .tyT))⟩,by omega,by omega,by omega,by omega⟩
 | grow e g a0 a t f hn hg ha h1 ih =>
  intro G hG;exact ⟨by omega,fun _ s hs=>(ih G hG).2.2.2.1 rfl hg ha s (O3 (Jy hn hs)),by omega,by omega,by omega⟩
 | objc e g a0 a t f hn hg ha h1 ih =>
  intro G hG;exact ⟨by omega,by omega,fun _ hs=>(ih G hG).2.2.2.2 rfl hg ha (O3 (Jy hn hs)),by omega,by omega⟩
 | var1 e g a i h =>
  intro G hG;exact ⟨by omega,by omega,by omega,fun _ hl ha s hs=>(AgR hG (by omega) h).2 rfl s (Cn hs).1,by omega⟩
 | var0 e g a i h =>
  intro G hG;exact ⟨by omega,by omega,by omega,by omega,fun _ hl ha hs=>(AgR hG (by omega) h).1 rfl⟩
 | fst e g a b c x h6 hb h1 h2 h3 ih1 ih2 ih3 =>
  intro G hG;refine ⟨by omega,by omega,by omega,fun _ hl ha s hs=>?_,by omega⟩;obtain ⟨s1,q1,q2⟩:=(ih1 G hG).1 rfl;have hx:=(ih2 G hG).2.1 rfl s1 q2;have hc:=(ih3 G hG).2.1 rfl s hs;exact .fst _ _ _ _ _ _ s s1 2 (by have:=(Cn hs).2;omega) (ht2 (.sigU 0 (10+s) (10+s1) (by omega)) hs (up1 hG (by omega) q2 hb.wt 0)) hc hx
 | app e g a b c x h6 hb h1 h2 h3 ih1 ih2 ih3 =>
  intro G hG;refine ⟨by omega,by omega,by omega,fun _ hl ha s hs=>?_,by omega⟩;obtain ⟨s1,q1,q2⟩:=(ih1 G hG).1 rfl;have hx:=(ih2 G hG).2.1 rfl s1 q2;have hc:=(ih3 (s1::G) (Hh hG q2 (WY hb (by omega)))).2.1 rfl s (up1 hG (by omega) hs (by have:=ha.wt;omega) s1);exact .app _ _ _ _ _ _ s1 s (10+s1) (by have:=(Cn hs).2;omega) (by omega) q2 hc hx
 | recc e g a n z s h6 ha h1 h2 h3 ih1 ih2 ih3 =>
  intro G hG;refine ⟨by omega,by omega,by omega,fun _ hl hna σ hs=>?_,by omega⟩;have hn:=(ih1 G hG).2.1 rfl 0 (ht0 .natT);have hz:=(ih2 G hG).2.1 rfl σ hs;have hs1:=up1 hG (by omega) hs (by have:=hna.wt;omega) 0;have g1:=Hh hG (T:=.mk 10 0 []) (s:=0) (ht0 .natT) (by simp [Tm.vb,Tm.vbL]);have g2:=Hh g1 hs1 (QI _ (g.length+1) (CF a 1 0 g.length hna.sc (by have:=hna.wt;omega)) (by rw [Cl];have:=hna.wt;omega));have hs3:=(ih3 _ g2).2.1 rfl σ (up2 hG (by omega) hs (by have:=hna.wt;omega) σ 0);have h01:σ=0∨σ=1:=by
   have:=(Cn hs).1
   rcases ha with ha | ha<;>rw [ha] at this<;>simp [QT] at this<;>omega
  exact ht4 (.recR σ (by omega)) hs1 hz hs3 hn
 | suc e g a n h6 ha h1 ih =>
  intro G hG;refine ⟨by omega,by omega,by omega,fun _ hl hna s hs=>?_,by omega⟩;have h0:s=0:=by
   have:=(Cn hs).1
   rw [ha] at this;simp [QT] at this;omega
  subst h0;exact ht1 .suc ((ih G hG).2.1 rfl 0 hs)
 | num e g a j ha hj =>
  intro G hG;refine ⟨by omega,by omega,by omega,fun _ hl hna s hs=>?_,by omega⟩;have h0:s=0:=by
   have:=(Cn hs).1
   rw [ha] at this;simp [QT] at this;omega
  subst h0;exact AfP _ j
 | tint e g a ha =>
  intro G hG;refine ⟨by omega,by omega,by omega,fun _ hl hna s hs=>?_,by omega⟩;have h0:s=1:=by
   have:=(Cn hs).1
   rw [ha] at this;simp [QT] at this;omega
  subst h0;exact ht0 .tint
 | tfun e g a x y op ho h6 ha h1 h2 ih1 ih2 =>
  intro G hG;refine ⟨by omega,by omega,by omega,fun _ hl hna s hs=>?_,by omega⟩;have h0:s=1:=by
   have:=(Cn hs).1
   rw [ha] at this;simp [QT] at this;omega
  subst h0;have q1:=(ih1 G hG).2.1 rfl 1 hs;have q2:=(ih2 G hG).2.1 rfl 1 hs;rcases ho with rfl | rfl
  ·exact ht2 .tfun q1 q2
  ·exact ht2 .tpro q1 q2
 | uni e g a n ha =>
  intro G hG;refine ⟨by omega,by omega,by omega,fun _ hl hna s hs=>?_,by omega⟩;have h0:s=2:=by
   have:=(Cn hs).1
   rw [ha] at this;simp [QT] at this;omega
  subst h0;exact ht0 .uU
 | unat e g a ha =>
  intro G hG;refine ⟨by omega,by omega,by omega,fun _ hl hna s hs=>?_,by omega⟩;have h0:s=2:=by
   have:=(Cn hs).1
   rw [ha] at this;simp [QT] at this;omega
  subst h0;exact ht0 .natU
 | uty e g a ha =>
  intro G hG;refine ⟨by omega,by omega,by omega,fun _ hl hna s hs=>?_,by omega⟩;have h0:s=2:=by
   have:=(Cn hs).1
   rw [ha] at this;simp [QT] at this;omega
  subst h0;exact ht0 .tyU
 | ult e g a ha =>
  intro G hG;refine ⟨by omega,by omega,by omega,fun _ hl hna s hs=>?_,by omega⟩;have h0:s=2:=by
   have:=(Cn hs).1
   rw [ha] at this;simp [QT] at this;omega
  subst h0;exact ht1 .liftU (ht0 .tint)
 | upi e g a x y op ho h6 ha hx h1 h2 ih1 ih2 =>
  intro G hG;refine ⟨by omega,by omega,by omega,fun _ hl hna s hs=>?_,by omega⟩;have h0:s=2:=by
   have:=(Cn hs).1
   rw [ha] at this;simp [QT] at this;omega
  subst h0;have q1:=(ih1 G hG).2.1 rfl 2 hs;obtain ⟨s1,hs1,g1⟩:=Aoz hG q1 (WY hx (by omega));have q2:=(ih2 _ g1).2.1 rfl 2 (by
   obtain ⟨oa,na,ka⟩:=a;simp only [Tm.op] at ha;subst ha;have hk:ka=[]:=by
    have:=hna.sc
    rw [Tm.sc] at this;exact List.eq_nil_of_length_eq_zero (Option.some.inj this.1.symm)
   subst hk;exact ht0 .uT)
  rcases ho with rfl | rfl
  ·exact ht2 (.piU s1 hs1) q1 q2
  ·exact ht2 (.sigU s1 2 2 hs1) q1 q2
 | lam e g n d c x h1 ih =>
  intro G hG;refine ⟨by omega,by omega,by omega,fun _ hl hna s hs=>?_,by omega⟩;obtain ⟨h4,a1,b1,ha1,hb1,hd,hc⟩:=Amv (.inl rfl) hs;have h0:s=4:=by omega
  subst h0;have hna2:=hna.sc;have hnw:=hna.wt;rw [Oi] at hnw;rw [Tm.sc] at hna2;have hvb:=QI d g.length hna2.2.2.1 (by omega);exact ht2 (.lam a1 b1 (10+a1) (by omega)) hd ((ih _ (Hh hG hd hvb)).2.1 rfl b1 hc)
 | pair e g n d c x y hx h1 h2 ih1 ih2 =>
  intro G hG;refine ⟨by omega,by omega,by omega,fun _ hl hna s hs=>?_,by omega⟩;obtain ⟨h5,a1,b1,ha1,hb1,hd,hc⟩:=Amv (.inr rfl) hs;have h0:s=5:=by omega
  subst h0;have hnw:=hna.wt;rw [Oi] at hnw;have qx:=(ih1 G hG).2.1 rfl a1 hd;have hsub:=W0 hc [] G a1 x rfl qx (by have:=hx.wt;rw [hG.len];simp only [List.length_nil];omega);have qy:=(ih2 G hG).2.1 rfl b1 (by simpa using hsub);exact ht3 (.pair (10+5) a1 b1) hs qx qy
 | quo e g n d x h1 ih =>
  intro G hG;refine ⟨by omega,by omega,by omega,fun _ hl hna s hs=>?_,by omega⟩;obtain ⟨h3,hd⟩:=Akg hs;subst h3;exact ht1 .quo ((ih G hG).2.2.1 rfl hd)
 | oif e g a c x y h6 h1 h2 h3 ih1 ih2 ih3 =>
  intro G hG;exact ⟨by omega,by omega,by omega,by omega,fun _ hl hna hs=>ht3 .oif ((ih1 G hG).2.2.1 rfl (ht0 .tint)) ((ih2 G hG).2.2.1 rfl hs) ((ih3 G hG).2.2.1 rfl hs)⟩
 | olet e g a r x y h6 h1 h2 ih1 ih2 =>
  intro G hG;exact ⟨by omega,by omega,by omega,by omega,fun _ hl hna hs=>ht2 .olet ((ih1 G hG).2.2.1 rfl (De _ 1 r)) ((ih2 _ (LQ hG _)).2.2.1 rfl (up1 hG (by omega) hs (by have:=hna.wt;omega) 6))⟩
 | oapp e g a r x y h6 h1 h2 ih1 ih2 =>
  intro G hG;exact ⟨by omega,by omega,by omega,by omega,fun _ hl hna hs=>ht2 .oapp (ht2 .olam (De _ 1 r) ((ih2 _ (LQ hG _)).2.2.1 rfl (up1 hG (by omega) hs (by have:=hna.wt;omega) 6))) ((ih1 G hG).2.2.1 rfl (De _ 1 r))⟩
 | ofst e g a x y h6 h1 h2 ih1 ih2 =>
  intro G hG;exact ⟨by omega,by omega,by omega,by omega,fun _ hl hna hs=>ht1 .ofst (ht2 .opair ((ih1 G hG).2.2.1 rfl hs) ((ih2 G hG).2.2.1 rfl (ht0 .tint)))⟩
 | ofix e g a x h6 h1 ih =>
  intro G hG;exact ⟨by omega,by omega,by omega,by omega,fun _ hl hna hs=>ht2 .ofix hs ((ih _ (LQ hG _)).2.2.1 rfl (up1 hG (by omega) hs (by have:=hna.wt;omega) 6))⟩
 | spl e g a x h6 h1 ih =>
  intro G hG;exact ⟨by omega,by omega,by omega,by omega,fun _ hl hna hs=>ht1 .spl ((ih G hG).2.1 rfl 3 (ht1 .liftT hs))⟩
 | oint e g a n ha =>
  intro G hG;exact ⟨by omega,by omega,by omega,by omega,fun _ hl hna hs=>ht0 .oint⟩
 | oprim e g a p q n h6 ha h1 h2 ih1 ih2 =>
  intro G hG;exact ⟨by omega,by omega,by omega,by omega,fun _ hl hna hs=>ht2 .oprim ((ih1 G hG).2.2.1 rfl hs) ((ih2 G hG).2.2.1 rfl hs)⟩
 | olam e g n d c b h1 ih =>
  intro G hG;refine ⟨by omega,by omega,by omega,by omega,fun _ hl hna hs=>?_⟩;obtain ⟨hd,hc⟩:=AcH (.inl rfl) hs;have hnw:=hna.wt;rw [Oi] at hnw;exact ht2 .olam hd ((ih _ (LQ hG _)).2.2.1 rfl (up1 hG (by omega) hc (by omega) 6))
 | opair e g n d c p q h1 h2 ih1 ih2 =>
  intro G hG;refine ⟨by omega,by omega,by omega,by omega,fun _ hl hna hs=>?_⟩;obtain ⟨hd,hc⟩:=AcH (.inr rfl) hs;exact ht2 .opair ((ih1 G hG).2.2.1 rfl hd) ((ih2 G hG).2.2.1 rfl hc)
inductive CtxG:Ci→Prop
 | nil:CtxG []
 | ob (g:Ci) (t:Tm) (h:CtxG g) (h1:Gr 1 7 g (.mk 14 0 []) t):CtxG (g++[(0,t)])
 | me (g:Ci) (a:Tm) (h:CtxG g) (ha:AOk g.length a) (hl:g.length≤60) (h1:Gr 0 7 g .z a):CtxG (g++[(1,a)])
theorem Ale {g:Ci} (h:CtxG g):∃G,CtxT g G:=by
 induction h with
 | nil=>exact ⟨[],AgF⟩
 | ob g t h h1 ih =>
  obtain ⟨G,hG⟩:=ih;exact ⟨6::G,LQ hG t⟩
 | me g a h ha hl h1 ih =>
  obtain ⟨G,hG⟩:=ih;obtain ⟨s,_,hs⟩:=(We h1 G hG).1 rfl;exact ⟨s::G,Hh hG hs (WY ha (by omega))⟩
theorem FZ {k:Nat} {a:Tm} (hk:k≤1000) (h:a.sc k) (hd:a.dp≤20000):∃u e,Ev 17 [.fv a.enc] (.tuple [u.enc,.int .i64 e])∧(e=0∧NOk k u∨(e=5∨e=17)∧u=.z)∧∃f,AI f a=some (u,e):=by
 obtain ⟨f,u,e,h1,h2⟩:=WL (k:=k) (by omega) h (by have:=Amt a;omega);refine ⟨u,e,⟨f+2,fun n hn=>Aft f a u e h1 n hn⟩,?_,f,h1⟩;rcases h2 with ⟨h3,h4,h5,h6⟩ | h2
 ·exact .inl ⟨h3,⟨h4,h5,h6⟩⟩
 ·exact .inr h2
structure TG (κ e:Nat) (g:Ci) (a t:Tm) (b:Bool):Prop where
 sc:t.sc g.length
 wt:t.wt≤Wg e
 dp:t.dp≤Dg e
 gr:b=true→Gr κ e g a t
theorem tg {κ e:Nat} {g:Ci} {a t:Tm} {b:Bool} (h:TOk g.length e t) (hg:b=true→Gr κ e g a t):TG κ e g a t b:=⟨h.sc,h.wt,h.dp,hg⟩
theorem Ajp {κ e:Nat} {g:Ci} {a t:Tm} {b:Bool} (h:TG κ e g a t b) (he:e≤10):AOk g.length t:=⟨h.sc,by have:=h.wt;have:=OM he;omega,by have:=h.dp;unfold Dg at this;omega⟩
theorem AfQ {κ κ' e:Nat} {g:Ci} {a a' t:Tm} {b:Bool} (h:TG κ e g a t b) (hg:Gr κ e g a t→Gr κ' e g a' t):TG κ' e g a' t b:=⟨h.sc,h.wt,h.dp,fun hb=>hg (h.gr hb)⟩
theorem Md {p q:Bool} (h:(p && q)=true):p=true:=by cases p<;>simp_all
theorem Kb {p q:Bool} (h:(p && q)=true):q=true:=by cases p<;>simp_all
theorem Any:EE.T 28=some ⟨1,24,.slice 77,[.nils]⟩:=by kernel_rfl
theorem tV1:EE.T 77=some ⟨4,48,.struct [(0,3),(1,31)],[.fv (.int .i64 0),.fv (.int .i64 0),.fv (.int .i64 0),.nils]⟩:=by kernel_rfl
theorem sV1:SliceT EE 28 4:=⟨_,_,_,_,_,Any,tV1,rfl,by decide,by decide⟩
theorem Aic (s:Nat) (h:Hp) (k:IV→Hp→List Ref→List Ref→Option (IV×Hp)):Ay (Ah EE 28 0 []) s h k=k (.clip []) h [] []:=Cy Any tV1 (by decide) (cells:=[]) rfl k
theorem AfW (s0 o n:Int) (ks:List FV) (s:Nat) (h:Hp) (k:IV→Hp→List Ref→List Ref→Option (IV×Hp)):Ay (Ah EE 28 1 [(0,.fv (.agg [.int .i64 s0,.int .i64 o,.int .i64 n,.sl ks]))]) s h k=k (.clip [.agg [.int .i64 s0,.int .i64 o,.int .i64 n,.sl ks]]) h [] [] :=
 Cy Any tV1 (by decide) (cells:=[.int .i64 s0,.int .i64 o,.int .i64 n,.sl ks]) rfl k
theorem NQ (g:Ci):BK 4 (g.map v1)=true:=by
 cases g with
 | nil=>rfl
 | cons a l=>simp only [AwV,BK,v1,FV.cells,AwT,List.length_nil,beq_self_eq_true]
theorem AnF (g:Ci):((g.map v1).all fun e=>e.cells.all FV.one)=true:=by
 rw [List.all_map,List.all_eq_true];intro p _;rfl
theorem C1 {n:Nat} (g:Ci) (st:Int) (a:Tm) (hg:g.length≤1000) (hn:0<n):Bc (SS dt n 22 [.fv (Bm g),iv st,.fv a.enc] ⟨[],[]⟩) (Bm (g++[(st,a)])):=by
 obtain ⟨n,rfl⟩:∃k,n=k+1:=⟨n - 1,by omega⟩;rw [c22];rw [Bm,Bm,List.map_append,AwV,AwU];cases g with
 | nil =>
  have h0:=fun {β:Type}=>Amd (β:=β) (E:=EE) sV1 (.sl []) (s0:=.clip []) (.inr rfl);have happ:=fun {β:Type}=>M8 (β:=β) sV1 (.clip [v1 (st,a)]) (NQ [(st,a)]) rfl (by simp) (s0:=.clip []) (.inr rfl);obtain ⟨o,p,k⟩:=a;simp only [v1,Tm.op,Tm.n,Tm.kids] at happ ⊢;rw [Ai];simp only [Xp,Yi,S22,↓XX,XY,↓reduceIte,Nat.reduceBEq,Nat.reduceAdd,Int.reduceEq,Int.reduceLT,Int.reduceLE,↓Aic,↓h0,↓AfW,↓happ];exact Bh rfl _
 | cons t g =>
  have h0:=fun {β:Type}=>M8 (β:=β) sV1 (.sl ((t::g).map v1)) (NQ (t::g)) rfl (by simp at hg ⊢;omega) (s0:=.clip []) (.inr rfl);have happ:=fun {β:Type}=>VU (β:=β) sV1 (es:=(t::g).map v1) (es2:=[v1 (st,a)]) (.clip _) (NQ [(st,a)]) (NQ (t::g)) (AnF [(st,a)]) (by simp at hg ⊢;omega);obtain ⟨o,p,k⟩:=a;simp only [AwV,List.length_map,AwT,List.length_nil,List.cons_append] at h0 happ ⊢;simp only [v1,Tm.op,Tm.n,Tm.kids] at h0 happ ⊢;rw [Ai];simp only [Xp,Yi,S22,↓XX,XY,↓reduceIte,Nat.reduceBEq,Nat.reduceAdd,Int.reduceEq,Int.reduceLT,Int.reduceLE,↓Aic,↓h0,↓AfW,↓happ,H7];exact Bh rfl _
theorem NJ {n:Nat} (hn:1<n):Bc (SS dt n 44 [] ⟨[],[]⟩) (Tm.mk 10 0 []).enc:=by
 obtain ⟨n,rfl⟩:∃k,n=k+1:=⟨n - 1,by omega⟩;rw [c44];have t:=Fg (n:=n) (by omega) 10;rw [Ai] at t ⊢;simp only [S44,↓XX,XY,↓reduceIte,Nat.reduceBEq,Nat.reduceAdd,Int.reduceEq,Int.reduceLT,Int.reduceLE,↓Ag t];exact Ao _ _
theorem Ag0 {P:Nat→Nat→Prop}:∀m,(∀i,i<m→∃N,∀n,N≤n→P i n)→∃N,∀i,i<m→∀n,N≤n→P i n:=by
 intro m
 induction m with
 | zero=>intro _;exact ⟨0,fun i hi=>by omega⟩
 | succ m ih =>
  intro h;obtain ⟨N1,h1⟩:=ih fun i hi=>h i (by omega);obtain ⟨N2,h2⟩:=h m (by omega);refine ⟨N1+N2,fun i hi n hn=>?_⟩;by_cases him:i=m
  ·subst him;exact h2 n (by omega)
  ·exact h1 i (by omega) n (by omega)
theorem AgI:EE.T 92=some ⟨1,24,.slice 3,[.nils]⟩:=by kernel_rfl
theorem Am5:EE.T 3=some ⟨1,8,.int .i64,[.fv (.int .i64 0)]⟩:=by kernel_rfl
theorem Asp:SliceT EE 92 1:=⟨_,_,_,_,_,AgI,Am5,rfl,by decide,by decide⟩
theorem Amj (a:Int) (s:Nat) (h:Hp) (k:IV→Hp→List Ref→List Ref→Option (IV×Hp)):Ay (Ah EE 92 1 [(0,iv a)]) s h k=k (.clip [.int .i64 a]) h [] []:=Cy AgI Am5 (by decide) (cells:=[.int .i64 a]) rfl k
def iE (l:List Nat):List FV:=l.map fun (i:Nat)=>FV.int .i64 (i:Int)
theorem Ya (l:List Nat):BK 1 (iE l)=true:=by
 cases l with
 | nil=>rfl
 | cons a l=>rfl
theorem Arr (l:List Nat):((iE l).all fun e=>e.cells.all FV.one)=true:=by
 rw [iE,List.all_map,List.all_eq_true];intro p _;rfl
def lV:List Nat→IV
 | []=>.nils
 | i::l=>.app (.own 49291267) (iE (i::l))
def lH:List Nat→List (Nat×Blk)
 | []=>[]
 | i::l=>[(49291267,.tok (i::l).length 1)]
abbrev Pv (o m:Int) (ks:List Tm) (l:List Nat):Hp :=
 ⟨[(49283072,.row [iv o,iv m,.fv (.sl (ks.map Tm.enc))] false),(49283073,.row [iv 0,iv 0,.nils] false)]++lH l,[]⟩
theorem Afl (p:Nat→Bool) (i:Nat):(List.range (i+1)).filter p=(List.range i).filter p++(if p i then [i] else []):=by
 rw [List.range_succ,List.filter_append];cases h:p i<;>simp [h]
set_option maxRecDepth 20000 in
set_option maxHeartbeats 4000000 in
theorem Ni {e0:Nat} {g:Ci} (hg:GOk e0 g) (st:Int) {a:Tm} (ha:NOk g.length a) (x:Int):∃t b,Ev 47 [.fv (Bm g),iv st,.fv a.enc,iv x] (.tuple [Tm.enc t,.bool b])∧TOk g.length 0 t∧(b=true→∃i:Nat,t=.mk 1 i []∧Hit g st a i):=by
 have hlen:=hg.len;have hc:∀i:Nat,∃(p:Int×Tm) (u:Tm) (e:Int),i<g.length→g[g.length - 1 - i]?=some p∧p.2.wk∧p.2.wt≤100000000000∧Ev 17 [.fv (p.2.shift ((i:Int)+1) 0).enc] (.tuple [u.enc,.int .i64 e])∧(e=0∧NOk g.length u∨(e=5∨e=17)∧u=.z)∧∃f,AI f (p.2.shift ((i:Int)+1) 0)=some (u,e):=by
  intro i;by_cases hi:i<g.length
  ·obtain ⟨p,hp⟩:∃p,g[g.length - 1 - i]?=some p:=⟨_,List.getElem?_eq_getElem (by omega)⟩;obtain ⟨h1,h2,h3⟩:=hg.ok _ _ hp;have h4:=CF p.2 (i+1) 0 _ h1 (by omega);rw [show g.length - 1 - i+(i+1)=g.length by omega] at h4
   obtain ⟨u,e,h5,h6,h7⟩:=FZ (k:=g.length) (by omega) h4 (by rw [Fc];omega);exact ⟨p,u,e,fun _=>⟨hp,Fm _ _ h1,h2,h5,h6,h7⟩⟩
  ·exact ⟨(0,.z),.z,0,fun h=>absurd h hi⟩
 obtain ⟨P,hP⟩:=Classical.axiomOfChoice hc;obtain ⟨U,hP⟩:=Classical.axiomOfChoice hP;obtain ⟨E,hU⟩:=Classical.axiomOfChoice hP;clear hP hc;obtain ⟨N,hN⟩:=Ag0 (P:=fun i n=>Bc (SS dt n 17 [.fv ((P i).2.shift ((i:Int)+1) 0).enc] ⟨[],[]⟩) (.tuple [(U i).enc,.int .i64 (E i)])) g.length (fun i hi=>(hU i hi).2.2.2.1);obtain ⟨hit,hhit⟩:∃h:Nat→Bool,∀i,h i=(decide ((P i).1=st) && (decide (E i=0) && (U i).eta.same a.eta)):=⟨_,fun _=>rfl⟩;obtain ⟨L,hL⟩:∃L,L=(List.range g.length).filter hit:=⟨_,rfl⟩;obtain ⟨tt,htt⟩:∃tt:Tm,tt=if L=[] then .z else .mk 1 ((L.getD (x % (L.length:Int)).toNat 0:Nat):Int) []:=⟨_,rfl⟩;have hLlt:∀i∈L,i<g.length:=fun i hi=>by
  rw [hL] at hi;exact List.mem_range.1 (List.mem_filter.1 hi).1
 refine ⟨tt,!decide (L=[]),⟨N+200000000000+1,?_⟩,?_,?_⟩
 ·intro n hn;obtain ⟨n,rfl⟩:∃k,n=k+1:=⟨n - 1,by omega⟩;have hka:=Y1 n a g.length ha.sc (by have:=ha.wt;omega) (by have:=ha.wt;omega);rw [c47];generalize hae:a.eta=ae at hka hhit;obtain ⟨oa,ma,ka⟩:=a;obtain ⟨oe,me,ke⟩:=ae;simp only [Ai] at hka ⊢;simp only [UH,Rc,SQ,RR,Ty,SA,UG,Rw,SW,Rz,Tx,UB,RP,RJ,S47,↓XX,XY,↓reduceIte,Nat.reduceBEq,Nat.reduceAdd,Int.reduceEq,Int.reduceLT,Int.reduceLE,Bm,↓AD,XD,heldB,AL,XE];refine A6 (Q:=fun r=>Bc r _) (fun k V H=>∃i:Nat,i+k=g.length∧∃l:List Nat,l=(List.range i).filter hit∧V=[.fv (.sl (g.map v1)),iv st,iv x,.ptr (.own 49283072) 0,.ptr (.own 49283073) 0,lV l,iv i]∧H=Pv oa ma ka l)
   ?_ n g.length _ _ (by omega) ⟨0,by omega,[],rfl,rfl,rfl⟩
  rintro k V H rec ⟨i,hik,l,hl,rfl,rfl⟩ hrec;cases k with
  | zero =>
   have hig:i=g.length:=by omega
   rw [hig] at hl;rw [← hL] at hl;subst hl;have hno:¬ ((i:Int)<g.length):=by omega
   cases l with
   | nil =>
    rw [htt,if_pos rfl];simp only [lV,Tm.z,Ai];simp only [↓Qh,↓XX,XY,↓reduceIte,Nat.reduceBEq,Nat.reduceAdd,Int.reduceEq,Int.reduceLT,Int.reduceLE,hno]
    first | exact Ao _ _ | exact AX rfl (by simp) _
   | cons i0 l0 =>
    rw [htt,if_neg (by simp)];generalize hl1:i0::l0=l at *;have hlp:0<l.length:=by rw [← hl1];simp
    have hll:l.length≤100:=by
     have h1:=List.length_filter_le hit (List.range g.length);rw [← hL,List.length_range] at h1;omega
    have hw:=Ar (n:=n) (by omega) x (m:=(l.length:Int)) (by omega) (by omega);have h1:=Int.emod_nonneg x (show (l.length:Int)≠0 by omega)
    have h2:=Int.emod_lt_of_pos x (show (0:Int)<l.length by omega)
    obtain ⟨j,hj⟩:∃j:Nat,x % (l.length:Int)=j:=⟨(x % (l.length:Int)).toNat,by omega⟩;rw [hj] at hw h2 ⊢;have hjl:j<l.length:=by omega
    have hget:(iE l)[j]?=some (.int .i64 ((l.getD j 0:Nat):Int)):=by
     rw [iE,List.getElem?_map,List.getD_eq_getElem?_getD,List.getElem?_eq_getElem hjl];rfl
    rw [Int.toNat_natCast];have hix:=fun {β:Type}=>Bq (β:=β) (size:=1) hget rfl;have hv:=AjN (n:=n) (by omega) ((l.getD j 0:Nat):Int);generalize ((l.getD j 0:Nat):Int)=q at hix hv ⊢;have hln:¬ ((l.length:Int)=0):=by omega
    have hiel:(iE l).length=l.length:=by rw [iE,List.length_map]
    have hap:∀(β:Type) (x:IV) (k:IV→Option β),A7 1 (.app (.own 49291267) (iE l)) x k=A7 1 (.fv (.sl (iE l))) x k:=fun _ _ _=>rfl;have hlV:lV l=.app (.own 49291267) (iE l):=by rw [← hl1];rfl
    have hlH:lH l=[(49291267,.tok l.length 1)]:=by rw [← hl1];rfl
    have hne:decide (l=[])=false:=by rw [← hl1];simp
    rw [hlV,Pv,hlH,hne];simp only [List.cons_append,List.nil_append];simp only [Ai,AwU] at hv ⊢;simp only [↓Qh,↓XX,XY,↓reduceIte,Nat.reduceBEq,Nat.reduceAdd,Int.reduceEq,Int.reduceLT,Int.reduceLE,hno,hiel,hln,↓Ag hw,↓hap,↓hix,FV.cells,↓Av hv]
    first | exact Ao _ _ | exact AX rfl (by simp) _
  | succ k =>
   have hig:i<g.length:=by omega
   have hlt:(i:Int)<g.length:=by omega
   obtain ⟨hp,hwk,hwt,_,hN',_⟩:=hU i hig;have hget:(g.map v1)[g.length - 1 - i]?=some (v1 (P i)):=by rw [List.getElem?_map,hp];rfl
   have hix:=fun {β:Type}=>Bq (β:=β) (size:=4) hget rfl;have w1:BI ((g.length:Int) - 1)=(g.length:Int) - 1:=by rw [As]<;>omega
   have w2:BI ((g.length:Int) - 1 - i)=((g.length - 1 - i:Nat):Int):=by rw [As (by omega) (by omega)];omega
   have wi:BI ((i:Int)+1)=(i:Int)+1:=by rw [As]<;>omega
   have hsh:=CW n (P i).2 ((i:Int)+1) 0 (by omega) hwk (by omega) (by omega);have hNi:=hN i hig n (by omega);have h9:=fun (l':List Nat) (e:l'=l++if hit i then [i] else [])=>hrec k [.fv (.sl (g.map v1)),iv st,iv x,.ptr (.own 49283072) 0,.ptr (.own 49283073) 0,lV l',iv (i+1:Nat)] (Pv oa ma ka l') (by omega)
    ⟨i+1,by omega,l',by rw [Afl,← hl,e],rfl,rfl⟩
   have hi1:((i+1:Nat):Int)=(i:Int)+1:=by omega
   rw [hi1] at h9;have hhi:=hhit i;generalize (P i).2.shift ((i:Int)+1) 0=ts at hsh hNi;generalize P i=p at hp hget hix hsh hhi;obtain ⟨sp,tp⟩:=p;by_cases c1:sp=st
   ·by_cases c2:E i=0
    ·have hUi:NOk g.length (U i):=by
      rcases hN' with ⟨_,h⟩ | ⟨h,_⟩
      ·exact h
      ·omega
     have hke:=Y1 n (U i) g.length hUi.sc (by have:=hUi.wt;omega) (by have:=hUi.wt;omega);have hew:=(Oo (U i) g.length hUi.sc (by have:=hUi.wt;omega)).2;have hsm:=ST n (U i).eta (.mk oe me ke) (by have:=hUi.wt;omega) (by have:=hUi.wt;omega);rw [c2] at hNi;simp only [c1,c2,decide_true,Bool.true_and] at hhi;rw [← hhi] at hsm;generalize (U i).eta=ue at hke hsm;generalize U i=ui at hNi hke;obtain ⟨o1,n1,k1⟩:=tp;obtain ⟨o2,n2,k2⟩:=ts;obtain ⟨o3,n3,k3⟩:=ui;obtain ⟨o4,n4,k4⟩:=ue;subst c1;simp only [Ai,v1,Tm.op,Tm.n,Tm.kids] at hsh hNi hke hsm hix;cases hb:hit i
     ·rw [hb] at hsm h9;have h9:=h9 l (by simp);cases l with
      | nil =>
       simp only [lV,lH,Pv,List.append_nil] at h9 ⊢;simp only [↓Qh,↓XX,XY,↓reduceIte,Nat.reduceBEq,Nat.reduceAdd,Int.reduceEq,Int.reduceLT,Int.reduceLE,hlt,w1,w2,wi,↓hix,FV.cells,↓AZ hsh,↓Av hNi,↓Av hke,↓Av hka,↓Ag hsm,↓AD,XD,heldB,AL,XE];exact h9
      | cons i0 l0 =>
       simp only [lV,lH,Pv,List.cons_append,List.nil_append] at h9 ⊢;simp only [↓Qh,↓XX,XY,↓reduceIte,Nat.reduceBEq,Nat.reduceAdd,Int.reduceEq,Int.reduceLT,Int.reduceLE,hlt,w1,w2,wi,↓hix,FV.cells,↓AZ hsh,↓Av hNi,↓Av hke,↓Av hka,↓Ag hsm,↓AD,XD,heldB,AL,XE];exact h9
     ·rw [hb] at hsm h9;have h9:=h9 (l++[i]) (by simp);cases l with
      | nil =>
       have happ:=fun {β:Type}=>M8 (β:=β) Asp (.clip [.int .i64 (i:Int)]) (Ya [i]) rfl (by simp) (s0:=.nils) (.inl rfl);simp only [lV,lH,Pv,List.cons_append,List.nil_append] at h9 ⊢;simp only [↓Qh,↓XX,XY,↓reduceIte,Nat.reduceBEq,Nat.reduceAdd,Int.reduceEq,Int.reduceLT,Int.reduceLE,hlt,w1,w2,wi,↓hix,FV.cells,↓AZ hsh,↓Av hNi,↓Av hke,↓Av hka,↓Ag hsm,↓Amj,↓happ,↓AD,XD,heldB,AL,XE];exact h9
      | cons i0 l0 =>
       have hll:(i0::l0).length≤100:=by
        have h1:=List.length_filter_le hit (List.range i);rw [← hl,List.length_range] at h1;omega
       have happ:=fun {β:Type}=>VU (β:=β) Asp (es:=iE (i0::l0)) (es2:=[.int .i64 (i:Int)]) (.clip _) (Ya [i]) (Ya _) (Arr [i]) (by rw [iE,List.length_map];simp only [AwT,List.length_nil] at hll ⊢;omega);have hil:(iE (i0::l0)).length=(i0::l0).length:=by rw [iE,List.length_map]
       have hia:iE (i0::l0)++[.int .i64 (i:Int)]=iE (i0::(l0++[i])):=by simp [iE]
       have hil2:(i0::(l0++[i])).length=(i0::l0).length+1:=by simp
       simp only [hil,hia,AwT,List.length_nil,Nat.zero_add] at happ;simp only [lV,lH,Pv,List.cons_append,List.nil_append,hil2] at h9 ⊢;simp only [AwT] at h9 ⊢;simp only [↓Qh,↓XX,XY,↓reduceIte,Nat.reduceBEq,Nat.reduceAdd,Int.reduceEq,Int.reduceLT,Int.reduceLE,hlt,w1,w2,wi,↓hix,FV.cells,↓AZ hsh,↓Av hNi,↓Av hke,↓Av hka,↓Ag hsm,↓Amj,↓happ,H7,↓AD,XD,heldB,AL,XE];exact h9
    ·simp only [c2,decide_false,Bool.false_and,Bool.and_false] at hhi;rw [hhi] at h9;have h9:=h9 l (by simp);generalize E i=ei at hNi c2;generalize U i=ui at hNi;obtain ⟨o1,n1,k1⟩:=tp;obtain ⟨o2,n2,k2⟩:=ts;obtain ⟨o3,n3,k3⟩:=ui;subst c1;simp only [Ai,v1,Tm.op,Tm.n,Tm.kids] at hsh hNi hix;cases l with
     | nil =>
      simp only [lV,lH,Pv,List.append_nil] at h9 ⊢;simp only [↓Qh,↓XX,XY,↓reduceIte,Nat.reduceBEq,Nat.reduceAdd,Int.reduceEq,Int.reduceLT,Int.reduceLE,hlt,w1,w2,wi,↓hix,FV.cells,↓AZ hsh,↓Av hNi,c2,↓AD,XD,heldB,AL,XE];exact h9
     | cons i0 l0 =>
      simp only [lV,lH,Pv,List.cons_append,List.nil_append] at h9 ⊢;simp only [↓Qh,↓XX,XY,↓reduceIte,Nat.reduceBEq,Nat.reduceAdd,Int.reduceEq,Int.reduceLT,Int.reduceLE,hlt,w1,w2,wi,↓hix,FV.cells,↓AZ hsh,↓Av hNi,c2,↓AD,XD,heldB,AL,XE];exact h9
   ·simp only [c1,decide_false,Bool.false_and] at hhi;rw [hhi] at h9;have h9:=h9 l (by simp);obtain ⟨o1,n1,k1⟩:=tp;simp only [v1,Tm.op,Tm.n,Tm.kids] at hix;cases l with
    | nil =>
     simp only [lV,lH,Pv,List.append_nil] at h9 ⊢;simp only [↓Qh,↓XX,XY,↓reduceIte,Nat.reduceBEq,Nat.reduceAdd,Int.reduceEq,Int.reduceLT,Int.reduceLE,hlt,w1,w2,wi,↓hix,FV.cells,c1,↓AD,XD,heldB,AL,XE];exact h9
    | cons i0 l0 =>
     simp only [lV,lH,Pv,List.cons_append,List.nil_append] at h9 ⊢;simp only [↓Qh,↓XX,XY,↓reduceIte,Nat.reduceBEq,Nat.reduceAdd,Int.reduceEq,Int.reduceLT,Int.reduceLE,hlt,w1,w2,wi,↓hix,FV.cells,c1,↓AD,XD,heldB,AL,XE];exact h9
 ·rw [htt];split
  ·exact ⟨Aot _,by have:=Nz 0;simp [Tm.z,Tm.wt,Tm.wtL];omega,by simp [Tm.z,Tm.dp,Tm.dpL,Dg]⟩
  ·rename_i hne;have h1:=Int.emod_nonneg x (show (L.length:Int)≠0 by
    intro h;exact hne (List.eq_nil_of_length_eq_zero (by omega)))
   have h2:=Int.emod_lt_of_pos x (show (0:Int)<L.length by
    have:L.length≠0:=fun h=>hne (List.eq_nil_of_length_eq_zero h)
    omega)
   have hj:(x % (L.length:Int)).toNat<L.length:=by omega
   have:=hLlt (L.getD (x % (L.length:Int)).toNat 0) (by rw [List.getD_eq_getElem?_getD,List.getElem?_eq_getElem hj];exact List.getElem_mem hj)
   exact ⟨AhY (by omega) (by omega),by have:=Nz 0;simp [Tm.wt,Tm.wtL];omega,by simp [Tm.dp,Tm.dpL,Dg]⟩
 ·intro hb;have hne:L≠[]:=by simpa using hb
  rw [htt,if_neg hne];have h1:=Int.emod_nonneg x (show (L.length:Int)≠0 by
   intro h;exact hne (List.eq_nil_of_length_eq_zero (by omega)))
  have h2:=Int.emod_lt_of_pos x (show (0:Int)<L.length by
   have:L.length≠0:=fun h=>hne (List.eq_nil_of_length_eq_zero h)
   omega)
  have hj:(x % (L.length:Int)).toNat<L.length:=by omega
  have hm:L.getD (x % (L.length:Int)).toNat 0∈L:=by rw [List.getD_eq_getElem?_getD,List.getElem?_eq_getElem hj];exact List.getElem_mem hj
  generalize L.getD (x % (L.length:Int)).toNat 0=i at hm;refine ⟨i,rfl,hLlt i hm,?_⟩;have hig:=hLlt i hm;rw [hL] at hm;have hh:=(List.mem_filter.1 hm).2;rw [hhit,Bool.and_eq_true,Bool.and_eq_true,decide_eq_true_eq,decide_eq_true_eq] at hh;obtain ⟨hp,_,_,_,_,f,hf⟩:=hU i hig;rw [hh.2.1] at hf;refine ⟨(P i).2,f,U i,by rw [hp,← hh.1],?_,(IS _ _).1 hh.2.2⟩;rw [show ((i+1:Nat):Int)=(i:Int)+1 by omega]
  exact hf
def Ee (F:FuncId) (κ e:Nat):Prop:=∀(g:Ci) (a r:Tm),GOk e g→AOk g.length a→∃t b,Ev F [.fv (Bm g),.fv a.enc,.fv r.enc,iv ((e:Int) - 5)] (.tuple [Tm.enc t,.bool b])∧TG κ e g a t b
def Q4 (F:FuncId) (κ e:Nat):Prop:=∀(g:Ci) (a r:Tm),GOk e g→NOk g.length a→∃t b,Ev F [.fv (Bm g),.fv a.enc,.fv r.enc,iv ((e:Int) - 5)] (.tuple [Tm.enc t,.bool b])∧TG κ e g a t b
structure TyOk (g:Ci) (e:Nat) (t:Tm):Prop where
 sc:t.sc g.length
 wt:t.wt≤Wg (e - 1)+10
 dp:t.dp≤Dg (e - 1)+3
 gr:Gr 0 e g .z t
def M5 (e:Nat):Prop:=∀(g:Ci) (r:Tm),GOk e g→∃t,Ev 21 [.fv (Bm g),.fv r.enc,iv ((e:Int) - 5)] (Tm.enc t)∧TyOk g e t
theorem OP {k:Nat} {a:Tm} (h:NOk k a) (hk:k≤1000) (d:Nat) (hd:d≤10):NOk (k+d) (a.shift d 0):=⟨CF a d 0 k h.sc (by have:=h.wt;omega),by rw [Cl];exact h.wt,by rw [Fc];exact h.dp⟩
set_option maxRecDepth 20000 in
set_option maxHeartbeats 4000000 in
theorem Aho {e:Nat} (h6:6≤e) (he:e≤10) (hT:M5 6) (hG:Ee 23 1 (e - 2)):Q4 48 3 e:=by
 intro g a r hg ha;have hlen:=hg.len;have hW2:Wg e=16 * Wg (e - 2):=by
  obtain ⟨f,rfl⟩:∃f,e=f+2:=⟨e - 2,by omega⟩;rw [show f+2=(f+1)+1 by omega,Nu,Nu,show f+1+1 - 2=f by omega];omega
 have hW20:=Nz (e - 2);have hW5:4 * Wg 5≤Wg e:=by rw [← Nu];exact U4 (by omega)
 have hW10:=OM he;have hDe:Dg e=Dg (e - 2)+20:=by unfold Dg;omega
 have hD5:Dg 5+10≤Dg e:=by unfold Dg;omega
 have hD2:200≤Dg (e - 2):=by unfold Dg;omega
 have hDm:Dg e≤300:=by unfold Dg;omega
 obtain ⟨b,⟨N1,h1⟩,tb⟩:=hT g (r.pick 0) (AT (by omega) hg);have bw:=tb.wt;have bd:=tb.dp;simp only [show 6 - 1=5 from rfl] at bw bd
 have hba:AOk g.length b:=⟨tb.sc,by omega,by omega⟩;have hbm:GOk (e - 2) (g++[(1,b)]):=CC (AT (by omega) hg) tb.sc (by omega) (by omega);obtain ⟨x,p,⟨N2,h2⟩,tx⟩:=hG g b (r.pick 1) (AT (by omega) hg) hba;obtain ⟨c,q,⟨N3,h3⟩,tc⟩:=hG g a (r.pick 2) (AT (by omega) hg) (BD ha);have hsa:=OP ha (by omega) 1 (by omega);obtain ⟨c2,q2,⟨N4,h4⟩,tc2⟩:=hG (g++[(1,b)]) (a.shift 1 0) (r.pick 2) hbm (by simpa using BD hsa);have we:BI ((e:Int) - 5 - 2)=((e - 2:Nat):Int) - 5:=by rw [As (by omega) (by omega)];omega
 have hd2:(((e - 2:Nat):Int) - 5)=((e - 2:Nat):Int) - 5:=rfl;have aw:=ha.wt;have ad:=ha.dp;have xw:=tx.wt;have cw:=tc.wt;have c2w:=tc2.wt;have xd:=tx.dp;have cd:=tc.dp;have c2d:=tc2.dp;have c2s:c2.sc (g.length+1):=by simpa using tc2.sc
 by_cases h0:r.n % 3=0
 ·refine ⟨.mk 8 0 [.mk 7 0 [.mk 6 0 [a,b.shift 1 0],c,x]],p && q,⟨N1+N2+N3+200000000000+1,?_⟩,?_,?_,?_,fun hb=>.fst e g a b c x h6 hba tb.gr (tx.gr (Md hb)) (tc.gr (Kb hb))⟩
  ·intro n hn;obtain ⟨n,rfl⟩:∃k,n=k+1:=⟨n - 1,by omega⟩;have h1:=h1 n (by omega);have h2:=h2 n (by omega);have h3:=h3 n (by omega);rw [← we] at h2 h3;have p0:=AP (n:=n) (by omega) r 0;have p1:=AP (n:=n) (by omega) r 1;have p2:=AP (n:=n) (by omega) r 2;have hw:=Ar (n:=n) (by omega) r.n (m:=3) (by omega) (by omega);have hsh:=CW n b 1 0 (by omega) (Fm _ _ tb.sc) (by omega) (by omega);have t6:=C6 (n:=n) (by omega) 6 [a,b.shift 1 0];have t7:=C6 (n:=n) (by omega) 7 [.mk 6 0 [a,b.shift 1 0],c,x];have t8:=C6 (n:=n) (by omega) 8 [.mk 7 0 [.mk 6 0 [a,b.shift 1 0],c,x]];rw [h0] at hw;rw [c48];clear h4 tb tx tc tc2 ha hg hG hT hba hbm hsa aw ad xw cw c2w bw xd cd c2d bd c2s;generalize b.shift 1 0=bs at hsh t6 t7 t8 ⊢;generalize r.pick 0=r0 at p0 h1;generalize r.pick 1=r1 at p1 h2;generalize r.pick 2=r2 at p2 h3;obtain ⟨o1,m1,k1⟩:=a;obtain ⟨o2,m2,k2⟩:=b;obtain ⟨o3,m3,k3⟩:=r;obtain ⟨o4,m4,k4⟩:=bs;obtain ⟨o5,m5,k5⟩:=x;obtain ⟨o6,m6,k6⟩:=c;obtain ⟨o7,m7,k7⟩:=r0;obtain ⟨o8,m8,k8⟩:=r1;obtain ⟨o9,m9,k9⟩:=r2;simp only [Tm.n,Bm,AwV,AwU,Ai,Int.reduceSub,Int.cast_ofNat_Int] at h1 h2 h3 p0 p1 p2 hw hsh t6 t7 t8 ⊢;cases p
   ·simp (maxSteps:=1000000) only [Kv,KE,K1,Lb,LO,K4,Ks,LZ,Lk,Ln,LI,K9,LU,Kp,KP,LV,Kt,KB,K5,Ly,Lz,S48,↓XX,XY,↓reduceIte,Nat.reduceBEq,Nat.reduceAdd,Int.reduceEq,Int.reduceLT,Int.reduceLE,↓Ag p0,↓Ag p1,↓Ag p2,↓AZ h1,↓AK h2,↓Ag hw,↓AK h3,↓AZ hsh,↓CY,↓Ag t6,↓Im,↓Ag t7,↓Ec,↓Ag t8]
    first | exact Ao _ _ | exact AX rfl (by simp) _
   ·simp (maxSteps:=1000000) only [Kv,KE,K1,Lb,LO,K4,Ks,LZ,Lk,Ln,LI,K9,LU,Kp,KP,LV,Kt,KB,K5,Ly,Lz,S48,↓XX,XY,↓reduceIte,Nat.reduceBEq,Nat.reduceAdd,Int.reduceEq,Int.reduceLT,Int.reduceLE,↓Ag p0,↓Ag p1,↓Ag p2,↓AZ h1,↓AK h2,↓Ag hw,↓AK h3,↓AZ hsh,↓CY,↓Ag t6,↓Im,↓Ag t7,↓Ec,↓Ag t8]
    first | exact Ao _ _ | exact AX rfl (by simp) _
  ·exact El (by decide) (by decide) (Bs (by decide) (by decide) (by decide)) (R5 (by decide) (by decide) (Bs (by decide) (by decide) (by decide))
    (B9 (by decide) (by decide) (Bs (by decide) (by decide) (by decide)) ha.sc (CF b 1 0 _ tb.sc (by simp only [show Ae 8 0=0 from rfl,show Ae 7 0=0 from rfl];omega))) tc.sc tx.sc)
  ·rw [wt1,wt3,Oi,Cl];omega
  ·rw [dp1,dp3,Q8,Fc];omega
 ·refine ⟨.mk 5 0 [.mk 4 0 [b,c2],x],p && q2,⟨N1+N2+N4+200000000000+1,?_⟩,?_,?_,?_,fun hb=>.app e g a b c2 x h6 hba tb.gr (tx.gr (Md hb)) (tc2.gr (Kb hb))⟩
  ·intro n hn;obtain ⟨n,rfl⟩:∃k,n=k+1:=⟨n - 1,by omega⟩;have h1:=h1 n (by omega);have h2:=h2 n (by omega);have h4:=h4 n (by omega);rw [← we] at h2 h4;have p0:=AP (n:=n) (by omega) r 0;have p1:=AP (n:=n) (by omega) r 1;have p2:=AP (n:=n) (by omega) r 2;have hw:=Ar (n:=n) (by omega) r.n (m:=3) (by omega) (by omega);have hsh:=CW n a 1 0 (by omega) (Fm _ _ ha.sc) (by omega) (by omega);have hm:=C1 (n:=n) g 1 b (by omega) (by omega);have t4:=C6 (n:=n) (by omega) 4 [b,c2];have t5:=C6 (n:=n) (by omega) 5 [.mk 4 0 [b,c2],x];rw [c48];clear h3 tb tx tc tc2 ha hg hG hT hba hbm hsa aw ad xw cw c2w bw xd cd c2d bd c2s;generalize a.shift 1 0=sa at hsh h4;generalize r.pick 0=r0 at p0 h1;generalize r.pick 1=r1 at p1 h2;generalize r.pick 2=r2 at p2 h4;generalize r.n % 3=w3 at hw h0;obtain ⟨o1,m1,k1⟩:=a;obtain ⟨o2,m2,k2⟩:=b;obtain ⟨o3,m3,k3⟩:=r;obtain ⟨o4,m4,k4⟩:=sa;obtain ⟨o5,m5,k5⟩:=x;obtain ⟨o6,m6,k6⟩:=c2;obtain ⟨o7,m7,k7⟩:=r0;obtain ⟨o8,m8,k8⟩:=r1;obtain ⟨o9,m9,k9⟩:=r2;simp only [Tm.n,Bm,AwV,AwU,Ai,Int.reduceSub,Int.cast_ofNat_Int] at h1 h2 h4 p0 p1 p2 hw hsh hm t4 t5 ⊢;cases p
   ·simp (maxSteps:=1000000) only [Kv,KE,K1,Lb,LO,K4,Ks,LZ,Lk,Ln,LI,K9,LU,Kp,KP,LV,Kt,KB,K5,Ly,Lz,S48,↓XX,XY,↓reduceIte,Nat.reduceBEq,Nat.reduceAdd,Int.reduceEq,Int.reduceLT,Int.reduceLE,↓Ag p0,↓Ag p1,↓Ag p2,↓AZ h1,↓AK h2,↓Ag hw,h0,↓AK h4,↓AZ hsh,↓AZ hm,↓CY,↓Ag t4,↓Ag t5]
    first | exact Ao _ _ | exact AX rfl (by simp) _
   ·simp (maxSteps:=1000000) only [Kv,KE,K1,Lb,LO,K4,Ks,LZ,Lk,Ln,LI,K9,LU,Kp,KP,LV,Kt,KB,K5,Ly,Lz,S48,↓XX,XY,↓reduceIte,Nat.reduceBEq,Nat.reduceAdd,Int.reduceEq,Int.reduceLT,Int.reduceLE,↓Ag p0,↓Ag p1,↓Ag p2,↓AZ h1,↓AK h2,↓Ag hw,h0,↓AK h4,↓AZ hsh,↓AZ hm,↓CY,↓Ag t4,↓Ag t5]
    first | exact Ao _ _ | exact AX rfl (by simp) _
  ·exact B9 (by decide) (by decide) (Bs (by decide) (by decide) (by decide)) (B9 (by decide) (by decide) (Bs (by decide) (by decide) (by decide)) tb.sc c2s) tx.sc
  ·rw [Oi,Oi];omega
  ·rw [Q8,Q8];omega
set_option maxRecDepth 20000 in
set_option maxHeartbeats 4000000 in
theorem Ako {e:Nat} (he:e≤10) (hT:6≤e→M5 (e - 1)) (hG:6≤e→Ee 23 1 (e - 1)):M5 e:=by
 intro g r hg;have hlen:=hg.len;have hk1:=Int.emod_nonneg r.op (show (9:Int)≠0 by decide)
 have hk2:=Int.emod_lt_of_pos r.op (show (0:Int)<9 by decide)
 have hW0:=Nz (e - 1);have hD0:200≤Dg (e - 1):=by unfold Dg;omega
 have hleaf:∀op n:Int,ar op=some 0→op≠1→BS op n→Gr 0 e g .z (.mk op n [])→TyOk g e (.mk op n []):=fun op n h1 h2 h3 h4=>⟨CI h1 h2 h3,by simp only [Tm.wt,Tm.wtL];omega,by simp only [Tm.dp,Tm.dpL];omega,h4⟩;have hpl:=Ir 1 r;have hpd:=Vv (r.plainT 1);have c0:(r.op % 9=0∨r.op % 9=1∨e≤5∧(r.op % 9=5∨r.op % 9=6))→∃t,Ev 21 [.fv (Bm g),.fv r.enc,iv ((e:Int) - 5)] (Tm.enc t)∧TyOk g e t:=by
  intro hc;refine ⟨.mk 10 0 [],⟨100,fun n hn=>?_⟩,hleaf 10 0 (by decide) (by decide) (Bs (by decide) (by decide) (by decide)) (.tnat e g _)⟩;obtain ⟨n,rfl⟩:∃k,n=k+1:=⟨n - 1,by omega⟩;have hw:=Ar (n:=n) (by omega) r.op (m:=9) (by omega) (by omega);have hn4:=NJ (n:=n) (by omega);rw [c21];obtain ⟨o,p,k⟩:=r;simp only [Tm.op] at hw hc;simp only [Ai,AwU] at hn4 ⊢;rcases hc with hc | hc | ⟨he5,hc | hc⟩
  ·rw [hc] at hw;by_cases hd:(e:Int) - 5≤0<;>(simp (maxSteps:=1000000) only [↓Lr,↓XX,XY,↓reduceIte,Nat.reduceBEq,Nat.reduceAdd,Int.reduceEq,Int.reduceLT,Int.reduceLE,↓Ag hw,hd,↓Gl hn4];first | exact Ao _ _ | exact Bh rfl _)
  ·rw [hc] at hw;by_cases hd:(e:Int) - 5≤0<;>(simp (maxSteps:=1000000) only [↓Lr,↓XX,XY,↓reduceIte,Nat.reduceBEq,Nat.reduceAdd,Int.reduceEq,Int.reduceLT,Int.reduceLE,↓Ag hw,hd,↓Gl hn4];first | exact Ao _ _ | exact Bh rfl _)
  ·rw [hc] at hw;have hd:(e:Int) - 5≤0:=by omega
   simp (maxSteps:=1000000) only [↓Lr,↓XX,XY,↓reduceIte,Nat.reduceBEq,Nat.reduceAdd,Int.reduceEq,Int.reduceLT,Int.reduceLE,↓Ag hw,hd,↓QL (show (5:Int)≠0 by decide),show (5:Int).tmod 5=0 from rfl,↓Gl hn4];first | exact Ao _ _ | exact Bh rfl _
  ·rw [hc] at hw;have hd:(e:Int) - 5≤0:=by omega
   simp (maxSteps:=1000000) only [↓Lr,↓XX,XY,↓reduceIte,Nat.reduceBEq,Nat.reduceAdd,Int.reduceEq,Int.reduceLT,Int.reduceLE,↓Ag hw,hd,↓QL (show (5:Int)≠0 by decide),show (6:Int).tmod 5=1 from rfl,↓Gl hn4];first | exact Ao _ _ | exact Bh rfl _
 have c2:(r.op % 9=2∨e≤5∧r.op % 9=7)→∃t,Ev 21 [.fv (Bm g),.fv r.enc,iv ((e:Int) - 5)] (Tm.enc t)∧TyOk g e t:=by
  intro hc;refine ⟨.mk 14 0 [],⟨100,fun n hn=>?_⟩,hleaf 14 0 (by decide) (by decide) (Bs (by decide) (by decide) (by decide)) (.tty e g _)⟩;obtain ⟨n,rfl⟩:∃k,n=k+1:=⟨n - 1,by omega⟩;have hw:=Ar (n:=n) (by omega) r.op (m:=9) (by omega) (by omega);have hn4:=Fg (n:=n) (by omega) 14;rw [c21];obtain ⟨o,p,k⟩:=r;simp only [Tm.op] at hw hc;simp only [Ai,AwU] at hn4 ⊢;rcases hc with hc | ⟨he5,hc⟩
  ·rw [hc] at hw;by_cases hd:(e:Int) - 5≤0<;>(simp (maxSteps:=1000000) only [↓Lr,↓XX,XY,↓reduceIte,Nat.reduceBEq,Nat.reduceAdd,Int.reduceEq,Int.reduceLT,Int.reduceLE,↓Ag hw,hd,↓Ag hn4];first | exact Ao _ _ | exact Bh rfl _)
  ·rw [hc] at hw;have hd:(e:Int) - 5≤0:=by omega
   simp (maxSteps:=1000000) only [↓Lr,↓XX,XY,↓reduceIte,Nat.reduceBEq,Nat.reduceAdd,Int.reduceEq,Int.reduceLT,Int.reduceLE,↓Ag hw,hd,↓QL (show (5:Int)≠0 by decide),show (7:Int).tmod 5=2 from rfl,↓Ag hn4];first | exact Ao _ _ | exact Bh rfl _
 have c3:(r.op % 9=3∨e≤5∧r.op % 9=8)→∃t,Ev 21 [.fv (Bm g),.fv r.enc,iv ((e:Int) - 5)] (Tm.enc t)∧TyOk g e t:=by
  intro hc;refine ⟨.mk 18 0 [r.plainT 1],⟨100,fun n hn=>?_⟩,El (by decide) (by decide) (Bs (by decide) (by decide) (by decide)) (II _ 1 r),by rw [wt1];omega,by rw [dp1];omega,.tlp e g _ r⟩;obtain ⟨n,rfl⟩:∃k,n=k+1:=⟨n - 1,by omega⟩;have hw:=Ar (n:=n) (by omega) r.op (m:=9) (by omega) (by omega);have hp:=Ra 1 n r (by omega) (by omega);have ht:=C6 (n:=n) (by omega) 18 [r.plainT 1];rw [c21];generalize r.plainT 1=q at hp ht ⊢;obtain ⟨o,p,k⟩:=r;obtain ⟨o2,p2,k2⟩:=q;simp only [Tm.op] at hw hc;simp only [Ai,AwV,AwU] at hp ht ⊢;rcases hc with hc | ⟨he5,hc⟩
  ·rw [hc] at hw;by_cases hd:(e:Int) - 5≤0<;>(simp (maxSteps:=1000000) only [↓Lr,↓XX,XY,↓reduceIte,Nat.reduceBEq,Nat.reduceAdd,Int.reduceEq,Int.reduceLT,Int.reduceLE,↓Ag hw,hd,↓Ag hp,↓Ec,↓Ag ht];first | exact Ao _ _ | exact Bh rfl _)
  ·rw [hc] at hw;have hd:(e:Int) - 5≤0:=by omega
   simp (maxSteps:=1000000) only [↓Lr,↓XX,XY,↓reduceIte,Nat.reduceBEq,Nat.reduceAdd,Int.reduceEq,Int.reduceLT,Int.reduceLE,↓Ag hw,hd,↓QL (show (5:Int)≠0 by decide),show (8:Int).tmod 5=3 from rfl,↓Ag hp,↓Ec,↓Ag ht];first | exact Ao _ _ | exact Bh rfl _
 by_cases h4:r.op % 9=4
 ·refine ⟨.mk 2 0 [],⟨100,fun n hn=>?_⟩,hleaf 2 0 (by decide) (by decide) (by rw [BS,if_pos rfl];omega) (.tu e g _)⟩;obtain ⟨n,rfl⟩:∃k,n=k+1:=⟨n - 1,by omega⟩;have hw:=Ar (n:=n) (by omega) r.op (m:=9) (by omega) (by omega);have hu:=Aig (n:=n) (by omega) 0;rw [c21];obtain ⟨o,p,k⟩:=r;simp only [Tm.op] at hw h4;simp only [Ai,AwU] at hu ⊢;rw [h4] at hw;by_cases hd:(e:Int) - 5≤0<;>(simp (maxSteps:=1000000) only [↓Lr,↓XX,XY,↓reduceIte,Nat.reduceBEq,Nat.reduceAdd,Int.reduceEq,Int.reduceLT,Int.reduceLE,↓Ag hw,hd,↓Av hu];first | exact Ao _ _ | exact Bh rfl _)
 by_cases hs:r.op % 9≤3∨e≤5
 ·have h:=hk1;by_cases h0:r.op % 9=0∨r.op % 9=1∨e≤5∧(r.op % 9=5∨r.op % 9=6)
  ·exact c0 h0
  by_cases h2:r.op % 9=2∨e≤5∧r.op % 9=7
  ·exact c2 h2
  exact c3 (by omega)
 have he6:6≤e:=by omega
 have hd:¬ (e:Int) - 5≤0:=by omega
 have we:BI ((e:Int) - 5 - 1)=((e - 1:Nat):Int) - 5:=by rw [As (by omega) (by omega)];omega
 have hW10:=OM (e:=e - 1) (by omega);have hW1:Wg (e - 1)=4 * Wg (e - 2):=by
  obtain ⟨f,rfl⟩:∃f,e=f+2:=⟨e - 2,by omega⟩;rw [show f+2 - 1=f+1 by omega,Nu,show f+2 - 2=f by omega]
 have hW2:=Nz (e - 2);have hD1:Dg (e - 1)=Dg (e - 2)+10:=by unfold Dg;omega
 have hDm:Dg (e - 1)≤300:=by unfold Dg;omega
 by_cases h8:r.op % 9=8
 ·obtain ⟨t,b,⟨N1,h1⟩,tt⟩:=hG he6 g (.mk 14 0 []) (r.pick 0) (AT (by omega) hg) ⟨CI (by decide) (by decide) (Bs (by decide) (by decide) (by decide)),by simp [Tm.wt,Tm.wtL],by simp [Tm.dp,Tm.dpL]⟩;refine ⟨if b=true then .mk 18 0 [t] else .mk 10 0 [],⟨N1+100,fun n hn=>?_⟩,?_⟩
  ·obtain ⟨n,rfl⟩:∃k,n=k+1:=⟨n - 1,by omega⟩;have hw:=Ar (n:=n) (by omega) r.op (m:=9) (by omega) (by omega);have h1:=h1 n (by omega);rw [← we] at h1;have p0:=AP (n:=n) (by omega) r 0;have t14:=Fg (n:=n) (by omega) 14;have t18:=C6 (n:=n) (by omega) 18 [t];have hn4:=NJ (n:=n) (by omega);rw [c21];rw [h8] at hw;clear hG hT tt c0 c2 c3 hleaf;generalize r.pick 0=r0 at p0 h1;obtain ⟨o,p,k⟩:=r;obtain ⟨o2,p2,k2⟩:=t;obtain ⟨o3,p3,k3⟩:=r0;simp only [Tm.op] at hw;simp only [Ai,Bm,AwV,AwU] at h1 p0 t14 t18 hn4 ⊢;cases b
   ·simp only [Bool.false_eq_true,if_false,Ai,AwU];simp (maxSteps:=1000000) only [↓Lr,↓XX,XY,↓reduceIte,Nat.reduceBEq,Nat.reduceAdd,Int.reduceEq,Int.reduceLT,Int.reduceLE,↓Ag hw,hd,↓Ag t14,↓Ag p0,↓AK h1,↓Gl hn4];first | exact Ao _ _ | exact Bh rfl _
   ·simp only [if_true,Ai,AwU,AwV];simp (maxSteps:=1000000) only [↓Lr,↓XX,XY,↓reduceIte,Nat.reduceBEq,Nat.reduceAdd,Int.reduceEq,Int.reduceLT,Int.reduceLE,↓Ag hw,hd,↓Ag t14,↓Ag p0,↓AK h1,↓Ec,↓Ag t18];first | exact Ao _ _ | exact Bh rfl _
  ·split
   ·rename_i hb;exact ⟨El (by decide) (by decide) (Bs (by decide) (by decide) (by decide)) tt.sc,by have:=tt.wt;rw [wt1];omega,by have:=tt.dp;rw [dp1];omega,.tlift e g _ t he6 (tt.gr hb)⟩
   ·exact hleaf 10 0 (by decide) (by decide) (Bs (by decide) (by decide) (by decide)) (.tnat e g _)
 ·obtain ⟨a,⟨N1,h1⟩,ta⟩:=hT he6 g (r.pick 0) (AT (by omega) hg);have aw:=ta.wt;have ad:=ta.dp;rw [show e - 1 - 1=e - 2 by omega] at aw ad
  obtain ⟨b,⟨N2,h2⟩,tb⟩:=hT he6 (g++[(1,a)]) (r.pick 1) (CC (by rw [show e - 1+1=e by omega];exact hg) ta.sc (by omega) (by omega))
  have bw:=tb.wt;have bd:=tb.dp;rw [show e - 1 - 1=e - 2 by omega] at bw bd
  have bs:b.sc (g.length+1):=by simpa using tb.sc
  have hop:∀op:Int,op=3∨op=6→TyOk g e (.mk op 0 [a,b]):=by
   rintro op (rfl | rfl)
   ·exact ⟨B9 (by decide) (by decide) (Bs (by decide) (by decide) (by decide)) ta.sc bs,by rw [Oi];omega,by rw [Q8];omega,.tpi e g _ a b _ (by simp) he6 (by omega) ⟨ta.sc,by omega,by omega⟩ ta.gr tb.gr⟩
   ·exact ⟨B9 (by decide) (by decide) (Bs (by decide) (by decide) (by decide)) ta.sc bs,by rw [Oi];omega,by rw [Q8];omega,.tpi e g _ a b _ (by simp) he6 (by omega) ⟨ta.sc,by omega,by omega⟩ ta.gr tb.gr⟩
  obtain ⟨oo,hoo⟩:∃oo:Int,oo=3∧(r.op % 9=5∨r.op % 9=6)∨oo=6∧r.op % 9=7:=by
   by_cases h7:r.op % 9=7
   ·exact ⟨6,.inr ⟨rfl,h7⟩⟩
   ·exact ⟨3,.inl ⟨rfl,by omega⟩⟩
  refine ⟨.mk oo 0 [a,b],⟨N1+N2+100,fun n hn=>?_⟩,hop oo (by omega)⟩;obtain ⟨n,rfl⟩:∃k,n=k+1:=⟨n - 1,by omega⟩;have hw:=Ar (n:=n) (by omega) r.op (m:=9) (by omega) (by omega);have h1:=h1 n (by omega);have h2:=h2 n (by omega);rw [← we] at h1 h2;have p0:=AP (n:=n) (by omega) r 0;have p1:=AP (n:=n) (by omega) r 1;have t3:=C6 (n:=n) (by omega) 3 [a,b];have t6:=C6 (n:=n) (by omega) 6 [a,b];have hm:=C1 (n:=n) g 1 a (by omega) (by omega);rw [c21];clear hG hT c0 c2 c3 hleaf ta tb hop bs aw ad bw bd;generalize r.pick 0=r0 at p0 h1;generalize r.pick 1=r1 at p1 h2;obtain ⟨o,p,k⟩:=r;obtain ⟨o2,p2,k2⟩:=a;obtain ⟨o3,p3,k3⟩:=b;obtain ⟨o4,p4,k4⟩:=r0;obtain ⟨o5,p5,k5⟩:=r1;simp only [Tm.op] at hw hoo;simp only [Ai,Bm,AwV,AwU] at h1 h2 p0 p1 t3 t6 hm ⊢;rcases hoo with ⟨rfl,hk | hk⟩ | ⟨rfl,hk⟩
  ·rw [hk] at hw;simp (maxSteps:=1000000) only [↓Lr,↓XX,XY,↓reduceIte,Nat.reduceBEq,Nat.reduceAdd,Int.reduceEq,Int.reduceLT,Int.reduceLE,↓Ag hw,hd,↓Ag p0,↓Ag p1,↓AZ h1,↓AZ hm,↓AZ h2,↓CY,↓Ag t3];first | exact Ao _ _ | exact Bh rfl _
  ·rw [hk] at hw;simp (maxSteps:=1000000) only [↓Lr,↓XX,XY,↓reduceIte,Nat.reduceBEq,Nat.reduceAdd,Int.reduceEq,Int.reduceLT,Int.reduceLE,↓Ag hw,hd,↓Ag p0,↓Ag p1,↓AZ h1,↓AZ hm,↓AZ h2,↓CY,↓Ag t3];first | exact Ao _ _ | exact Bh rfl _
  ·rw [hk] at hw;simp (maxSteps:=1000000) only [↓Lr,↓XX,XY,↓reduceIte,Nat.reduceBEq,Nat.reduceAdd,Int.reduceEq,Int.reduceLT,Int.reduceLE,↓Ag hw,hd,↓Ag p0,↓Ag p1,↓AZ h1,↓AZ hm,↓AZ h2,↓CY,↓Ag t6];first | exact Ao _ _ | exact Bh rfl _
theorem Ami (a b:Int) (s:Nat) (h:Hp) (k:IV→Hp→List Ref→List Ref→Option (IV×Hp)):Ay (Ah EE 92 2 [(0,iv a),(1,iv b)]) s h k=k (.clip [.int .i64 a,.int .i64 b]) h [] []:=Cy AgI Am5 (by decide) (cells:=[.int .i64 a,.int .i64 b]) rfl k
theorem VN {β:Type} (z:Nat) (es:List FV) (x:IV) (k:IV→Option β):A7 z (.clip es) x k=A7 z (.fv (.sl es)) x k:=rfl
theorem Atx {β:Type} (a:Int) (r:List FV) (k:IV→Option β):A7 1 (.fv (.sl (.int .i64 a::r))) (iv 0) k=k (.fv (.fp [.int .i64 a] 0)):=Bq (el:=.int .i64 a) (n:=0) rfl rfl k
theorem Aur {β:Type} (a b:Int) (r:List FV) (k:IV→Option β):A7 1 (.fv (.sl (.int .i64 a :: .int .i64 b::r))) (iv 1) k=k (.fv (.fp [.int .i64 b] 0)):=Bq (el:=.int .i64 b) (n:=1) rfl rfl k
def AgJ (F:FuncId) (κ e:Nat):Prop:=∀(g:Ci) (a r:Tm),GOk e g→NOk g.length a→(a.op=10∨a.op=14∨a.op=2)→∃t b,Ev F [.fv (Bm g),.fv a.enc,.fv r.enc,iv ((e:Int) - 5)] (.tuple [Tm.enc t,.bool b])∧TG κ e g a t b
theorem AjA {a:Tm} {k:Nat} (h:a.sc k) (ho:a.op=10∨a.op=14∨a.op=2):∃n,a=.mk a.op n []∧(a.op=2→0≤n∧n≤2)∧(a.op≠2→n=0):=by
 obtain ⟨o,n,l⟩:=a;simp only [Tm.op] at ho ⊢;rw [Tm.sc] at h;obtain ⟨h1,h2,_⟩:=h;have h3:ar o=some 0:=by rcases ho with rfl | rfl | rfl<;>decide
 rw [h3] at h1;have hl:l=[]:=List.eq_nil_of_length_eq_zero (Option.some.inj h1).symm;subst hl;rw [if_neg (by omega)] at h2;refine ⟨n,rfl,fun h=>?_,fun h=>?_⟩
 ·subst h;rw [BS,if_pos rfl] at h2;exact h2
 ·rw [BS,if_neg h,if_neg (by omega),if_neg (by omega)] at h2;exact h2
set_option maxRecDepth 20000 in
set_option maxHeartbeats 8000000 in
theorem Agn {e:Nat} (h1e:1≤e) (he:e≤10) (hG:Ee 23 1 (e - 1)) (hG2:6≤e→Ee 23 1 (e - 2)):AgJ 49 3 e:=by
 intro g a r hg ha hop;have hlen:=hg.len;have hW1:Wg e=4 * Wg (e - 1):=by
  obtain ⟨f,rfl⟩:∃f,e=f+1:=⟨e - 1,by omega⟩;rw [Nu,Nat.add_sub_cancel]
 have hW0:=Nz (e - 1);have hW10:=OM he;have hD1:Dg e=Dg (e - 1)+10:=by unfold Dg;omega
 have hD0:200≤Dg (e - 1):=by unfold Dg;omega
 have hDm:Dg e≤300:=by unfold Dg;omega
 obtain ⟨an,hae,hu1,hu2⟩:=AjA ha.sc hop;have we:BI ((e:Int) - 5 - 1)=((e - 1:Nat):Int) - 5:=by rw [As (by omega) (by omega)];omega
 have hk1:=Int.emod_nonneg r.op (show (5:Int)≠0 by decide)
 have hk2:=Int.emod_lt_of_pos r.op (show (0:Int)<5 by decide)
 have aw:=ha.wt;have ad:=ha.dp;have leafT:∀op n:Int,ar op=some 0→op≠1→BS op n→TOk g.length e (.mk op n []):=fun op n h1 h2 h3=>⟨CI h1 h2 h3,by simp only [Tm.wt,Tm.wtL];omega,by simp only [Tm.dp,Tm.dpL];omega⟩;have tint:TOk g.length e (.mk 18 0 [.mk 15 0 []]):=⟨El (by decide) (by decide) (Bs (by decide) (by decide) (by decide)) (CI (by decide) (by decide) (Bs (by decide) (by decide) (by decide))),by simp only [Tm.wt,Tm.wtL];omega,by simp only [Tm.dp,Tm.dpL];omega⟩;by_cases hrec:6≤e∧r.op % 5=4∧a.op≠2
 ·obtain ⟨h6,h4,hn2⟩:=hrec;have hW2:Wg e=16 * Wg (e - 2):=by
   obtain ⟨f,rfl⟩:∃f,e=f+2:=⟨e - 2,by omega⟩;rw [show f+2=(f+1)+1 by omega,Nu,Nu,show f+1+1 - 2=f by omega];omega
  have hD2:Dg e=Dg (e - 2)+20:=by unfold Dg;omega
  have hW20:=Nz (e - 2);have we2:BI ((e:Int) - 5 - 2)=((e - 2:Nat):Int) - 5:=by rw [As (by omega) (by omega)];omega
  have hnat:∀k,NOk k (.mk 10 0 []):=fun k=>⟨CI (by decide) (by decide) (Bs (by decide) (by decide) (by decide)),by simp only [Tm.wt,Tm.wtL];omega,by simp only [Tm.dp,Tm.dpL];omega⟩;have hs1:=OP ha (by omega) 1 (by omega);have hs2:=OP ha (by omega) 2 (by omega);obtain ⟨nn,p,⟨N1,h1⟩,tn⟩:=hG2 h6 g (.mk 10 0 []) (r.pick 0) (AT (by omega) hg) (BD (hnat _));obtain ⟨z,q,⟨N2,h2⟩,tz⟩:=hG2 h6 g a (r.pick 1) (AT (by omega) hg) (BD ha);have hg1:GOk (e - 1) (g++[(1,Tm.mk 10 0 [])]):=CC (by rw [show e - 1+1=e by omega];exact hg) (hnat _).sc (by simp only [Tm.wt,Tm.wtL];omega) (by simp only [Tm.dp,Tm.dpL];omega)
  have hg2:GOk (e - 2) ((g++[(1,Tm.mk 10 0 [])])++[(1,a.shift 1 0)]):=CC (by rw [show e - 2+1=e - 1 by omega];exact hg1) (by simpa using hs1.sc) (by rw [Cl];omega) (by rw [Fc];omega)
  obtain ⟨s,f,⟨N3,h3⟩,ts⟩:=hG2 h6 _ (a.shift 2 0) (r.pick 2) hg2 (by simpa using BD hs2);have ss:s.sc (g.length+2):=by simpa using ts.sc
  refine ⟨.mk 13 0 [a.shift 1 0,z,s,nn],p && (q && f),⟨N1+N2+N3+100000,fun n hn=>?_⟩,?_,?_,?_,fun hb=>.recc e g a nn z s h6 (by omega) (tn.gr (Md hb)) (tz.gr (Md (Kb hb))) (ts.gr (Kb (Kb hb)))⟩
  ·obtain ⟨n,rfl⟩:∃k,n=k+1:=⟨n - 1,by omega⟩;have h1:=h1 n (by omega);have h2:=h2 n (by omega);have h3:=h3 n (by omega);rw [← we2] at h1 h2 h3;have hw:=Ar (n:=n) (by omega) r.op (m:=5) (by omega) (by omega);rw [h4] at hw;have p0:=AP (n:=n) (by omega) r 0;have p1:=AP (n:=n) (by omega) r 1;have p2:=AP (n:=n) (by omega) r 2;have n4:=NJ (n:=n) (by omega);have m1:=C1 (n:=n) g 1 (.mk 10 0 []) (by omega) (by omega);have m2:=C1 (n:=n) (g++[(1,Tm.mk 10 0 [])]) 1 (a.shift 1 0) (by simp;omega) (by omega);have s1:=CW n a 1 0 (by omega) (Fm _ _ ha.sc) (by omega) (by omega);have s2:=CW n a 2 0 (by omega) (Fm _ _ ha.sc) (by omega) (by omega);have t13:=C6 (n:=n) (by omega) 13 [a.shift 1 0,z,s,nn];have hd0:(0:Int)<(e:Int) - 5:=by omega
   rw [c49];clear hG hG2 tn tz ts hg hg1 hg2 ha hs1 hs2 hnat ss leafT tint hae hu1 hu2;generalize a.shift 1 0=a1 at s1 m2 t13 h3 ⊢;generalize a.shift 2 0=a2 at s2 h3;generalize r.pick 0=r0 at p0 h1;generalize r.pick 1=r1 at p1 h2;generalize r.pick 2=r2 at p2 h3;obtain ⟨o1,x1,k1⟩:=a;obtain ⟨o2,x2,k2⟩:=r;obtain ⟨o3,x3,k3⟩:=a1;obtain ⟨o4,x4,k4⟩:=a2;obtain ⟨o5,x5,k5⟩:=nn;obtain ⟨o6,x6,k6⟩:=z;obtain ⟨o7,x7,k7⟩:=s;obtain ⟨o8,x8,k8⟩:=r0;obtain ⟨o9,x9,k9⟩:=r1;obtain ⟨oa,xa,ka⟩:=r2;simp only [Tm.op] at hw hn2;simp only [Bm,AwV,AwU,Ai] at h1 h2 h3 p0 p1 p2 n4 m1 m2 s1 s2 t13 ⊢;cases p<;>cases q<;>(simp (maxSteps:=1000000) only [↓XQ,↓XX,XY,↓reduceIte,Nat.reduceBEq,Nat.reduceAdd,Int.reduceEq,Int.reduceLT,Int.reduceLE,hd0,↓Ag hw,hn2,↓Gl n4,↓Ag p0,↓Ag p1,↓Ag p2,↓AK h1,↓AK h2,↓AZ m1,↓AZ m2,↓AZ s1,↓AZ s2,↓AK h3,↓AsK,↓Ag t13];first | exact Ao _ _ | exact AX rfl (by simp) _)
  ·exact ApH (by decide) (by decide) (Bs (by decide) (by decide) (by decide)) hs1.sc tz.sc ss tn.sc
  ·have:=tz.wt;have:=ts.wt;have:=tn.wt;rw [wt4,Cl];omega
  ·have:=tz.dp;have:=ts.dp;have:=tn.dp;rw [dp4,Fc];omega
 have hnr:¬ (0:Int)<(e:Int) - 5∨¬ r.op % 5=4∨a.op=2:=by omega
 by_cases o10:a.op=10
 ·have hz:=hu2 (by omega);rw [hz,o10] at hae;by_cases hs:6≤e∧r.op % 2=1
  ·obtain ⟨nn,p,⟨N1,h1⟩,tn⟩:=hG g a (r.pick 0) (AT (by omega) hg) (BD ha);refine ⟨.mk 12 0 [nn],p,⟨N1+100,fun n hn=>?_⟩,El (by decide) (by decide) (Bs (by decide) (by decide) (by decide)) tn.sc,by have:=tn.wt;rw [wt1];omega,by have:=tn.dp;rw [dp1];omega,fun hb=>.suc e g a nn hs.1 o10 (tn.gr hb)⟩;obtain ⟨n,rfl⟩:∃k,n=k+1:=⟨n - 1,by omega⟩;have h1:=h1 n (by omega);rw [← we] at h1;have hw:=Ar (n:=n) (by omega) r.op (m:=5) (by omega) (by omega);have hw2:=Ar (n:=n) (by omega) r.op (m:=2) (by omega) (by omega);rw [hs.2] at hw2;have p0:=AP (n:=n) (by omega) r 0;have t12:=C6 (n:=n) (by omega) 12 [nn];have hd0:(0:Int)<(e:Int) - 5:=by omega
   have h45:¬ r.op % 5=4:=by omega
   rw [c49];rw [hae] at h1 ⊢;clear hG hG2 tn hg ha leafT tint hae hu1 hu2 hop hnr;generalize r.op % 5=w5 at hw h45;generalize r.pick 0=r0 at p0 h1;obtain ⟨o2,x2,k2⟩:=r;obtain ⟨o5,x5,k5⟩:=nn;obtain ⟨o8,x8,k8⟩:=r0;simp only [Tm.op] at hw hw2;simp only [Bm,AwV,AwU,Ai] at h1 p0 t12 ⊢;simp (maxSteps:=1000000) only [↓XQ,↓XX,XY,↓reduceIte,Nat.reduceBEq,Nat.reduceAdd,Int.reduceEq,Int.reduceLT,Int.reduceLE,hd0,↓Ag hw,h45,↓Ag hw2,↓Ag p0,↓AK h1,↓Ec,↓Ag t12]
   first | exact Ao _ _ | exact AX rfl (by simp) _
  ·have hj1:=Int.emod_nonneg r.n (show (4:Int)≠0 by decide)
   have hj2:=Int.emod_lt_of_pos r.n (show (0:Int)<4 by decide)
   obtain ⟨j,hj⟩:∃j:Nat,r.n % 4=j:=⟨(r.n % 4).toNat,by omega⟩;refine ⟨HN j,true,⟨100,fun n hn=>?_⟩,AfL _ j,by rw [AdU];omega,by have:=Vv (HN j);rw [AdU] at this;omega,fun _=>.num e g a j o10 (by omega)⟩;obtain ⟨n,rfl⟩:∃k,n=k+1:=⟨n - 1,by omega⟩;have hw:=Ar (n:=n) (by omega) r.op (m:=5) (by omega) (by omega);have hw2:=Ar (n:=n) (by omega) r.op (m:=2) (by omega) (by omega);have hw4:=Ar (n:=n) (by omega) r.n (m:=4) (by omega) (by omega);rw [hj] at hw4;have hnum:=ApI (n:=n) j (by omega) (by omega);have h45:(0:Int)<(e:Int) - 5→¬ r.op % 5=4:=by omega
   have h21:(0:Int)<(e:Int) - 5→¬ r.op % 2=1:=by omega
   rw [c49];rw [hae];clear hG hG2 hg ha leafT tint hae hu1 hu2 hop hnr hs;generalize r.op % 5=w5 at hw h45;generalize r.op % 2=w2 at hw2 h21;generalize HN j=nm at hnum ⊢;obtain ⟨o2,x2,k2⟩:=r;obtain ⟨o5,x5,k5⟩:=nm;simp only [Tm.op,Tm.n] at hw hw2 hw4;simp only [Bm,AwU,Ai] at hnum ⊢;by_cases hd0:(0:Int)<(e:Int) - 5
   ·have h45:=h45 hd0;have h21:=h21 hd0;simp (maxSteps:=1000000) only [↓XQ,↓XX,XY,↓reduceIte,Nat.reduceBEq,Nat.reduceAdd,Int.reduceEq,Int.reduceLT,Int.reduceLE,hd0,↓Ag hw,h45,↓Ag hw2,h21,↓Ag hw4,↓Av hnum]
    first | exact Ao _ _ | exact AX rfl (by simp) _
   ·simp (maxSteps:=1000000) only [↓XQ,↓XX,XY,↓reduceIte,Nat.reduceBEq,Nat.reduceAdd,Int.reduceEq,Int.reduceLT,Int.reduceLE,hd0,↓Ag hw4,↓Av hnum]
    first | exact Ao _ _ | exact AX rfl (by simp) _
 by_cases o14:a.op=14
 ·have hz:=hu2 (by omega);rw [hz,o14] at hae;by_cases hs:6≤e∧1<r.op % 5
  ·obtain ⟨x,p,⟨N1,h1⟩,tx⟩:=hG g a (r.pick 0) (AT (by omega) hg) (BD ha);obtain ⟨y,q,⟨N2,h2⟩,ty⟩:=hG g a (r.pick 1) (AT (by omega) hg) (BD ha);have hj1:=Int.emod_nonneg r.n (show (2:Int)≠0 by decide)
   have hj2:=Int.emod_lt_of_pos r.n (show (0:Int)<2 by decide)
   obtain ⟨oo,hoo,hoo2⟩:∃oo:Int,oo=16+r.n % 2∧(oo=16∨oo=17):=⟨_,rfl,by omega⟩;have hsc:(Tm.mk oo 0 [x,y]).sc g.length:=by
    rcases hoo2 with rfl | rfl<;>exact B9 (by decide) (by decide) (Bs (by decide) (by decide) (by decide)) tx.sc ty.sc
   refine ⟨.mk oo 0 [x,y],p && q,⟨N1+N2+100,fun n hn=>?_⟩,hsc,by have:=tx.wt;have:=ty.wt;rw [Oi];omega,by have:=tx.dp;have:=ty.dp;rw [Q8];omega,fun hb=>.tfun e g a x y oo hoo2 hs.1 o14 (tx.gr (Md hb)) (ty.gr (Kb hb))⟩;obtain ⟨n,rfl⟩:∃k,n=k+1:=⟨n - 1,by omega⟩;have h1:=h1 n (by omega);have h2:=h2 n (by omega);rw [← we] at h1 h2;have hw:=Ar (n:=n) (by omega) r.op (m:=5) (by omega) (by omega);have hw2:=Ar (n:=n) (by omega) r.n (m:=2) (by omega) (by omega);have wo:BI (16+r.n % 2)=oo:=by rw [As]<;>omega
   have p0:=AP (n:=n) (by omega) r 0;have p1:=AP (n:=n) (by omega) r 1;have t16:=C6 (n:=n) (by omega) oo [x,y];rw [← wo] at t16;have hd0:(0:Int)<(e:Int) - 5:=by omega
   have h45:¬ r.op % 5=4:=by omega
   have h15:=hs.2;rw [c49];rw [hae] at h1 h2 ⊢;clear hG hG2 tx ty hg ha leafT tint hae hu1 hu2 hop hnr hs hoo2 hsc;rw [← wo];clear wo hoo;generalize r.op % 5=w5 at hw h45 h15;generalize r.n % 2=w2 at hw2 t16 ⊢;generalize r.pick 0=r0 at p0 h1;generalize r.pick 1=r1 at p1 h2;obtain ⟨o2,x2,k2⟩:=r;obtain ⟨o5,x5,k5⟩:=x;obtain ⟨o6,x6,k6⟩:=y;obtain ⟨o8,x8,k8⟩:=r0;obtain ⟨o9,x9,k9⟩:=r1;simp only [Tm.op,Tm.n] at hw hw2;simp only [Bm,AwV,AwU,Ai] at h1 h2 p0 p1 t16 ⊢;cases p<;>(simp (maxSteps:=1000000) only [↓XQ,↓XX,XY,↓reduceIte,Nat.reduceBEq,Nat.reduceAdd,Int.reduceEq,Int.reduceLT,Int.reduceLE,hd0,↓Ag hw,h45,h15,↓Ag hw2,↓Ag p0,↓Ag p1,↓AK h1,↓AK h2,↓CY,↓Ag t16];first | exact Ao _ _ | exact AX rfl (by simp) _)
  ·refine ⟨.mk 15 0 [],true,⟨100,fun n hn=>?_⟩,tg (leafT 15 0 (by decide) (by decide) (Bs (by decide) (by decide) (by decide))) (fun _=>.tint e g a o14)⟩;obtain ⟨n,rfl⟩:∃k,n=k+1:=⟨n - 1,by omega⟩;have hw:=Ar (n:=n) (by omega) r.op (m:=5) (by omega) (by omega);have t15:=Fg (n:=n) (by omega) 15;have h45:(0:Int)<(e:Int) - 5→¬ r.op % 5=4∧¬ 1<r.op % 5:=by omega
   rw [c49];rw [hae];clear hG hG2 hg ha leafT tint hae hu1 hu2 hop hnr hs;generalize r.op % 5=w5 at hw h45;obtain ⟨o2,x2,k2⟩:=r;simp only [Tm.op] at hw;simp only [Bm,AwU,Ai] at t15 ⊢;by_cases hd0:(0:Int)<(e:Int) - 5
   ·obtain ⟨h45,h15⟩:=h45 hd0;simp (maxSteps:=1000000) only [↓XQ,↓XX,XY,↓reduceIte,Nat.reduceBEq,Nat.reduceAdd,Int.reduceEq,Int.reduceLT,Int.reduceLE,hd0,↓Ag hw,h45,h15,↓Ag t15]
    first | exact Ao _ _ | exact AX rfl (by simp) _
   ·simp (maxSteps:=1000000) only [↓XQ,↓XX,XY,↓reduceIte,Nat.reduceBEq,Nat.reduceAdd,Int.reduceEq,Int.reduceLT,Int.reduceLE,hd0,↓Ag t15]
    first | exact Ao _ _ | exact AX rfl (by simp) _
 have o2:a.op=2:=by omega
 obtain ⟨hu3,hu4⟩:=hu1 o2;rw [o2] at hae;by_cases hn0:0<an
 ·refine ⟨.mk 2 (an - 1) [],true,⟨100,fun n hn=>?_⟩,tg (leafT 2 (an - 1) (by decide) (by decide) (by rw [BS,if_pos rfl];omega)) (fun _=>.uni e g a _ o2)⟩;obtain ⟨n,rfl⟩:∃k,n=k+1:=⟨n - 1,by omega⟩;have hw:=Ar (n:=n) (by omega) r.op (m:=5) (by omega) (by omega);have wu:BI (an - 1)=an - 1:=by rw [As]<;>omega
  have hu:=Aig (n:=n) (by omega) (an - 1);rw [← wu] at hu;rw [c49];rw [hae,← wu];clear hG hG2 hg ha leafT tint hae hu1 hu2 hop hnr wu;generalize r.op % 5=w5 at hw;obtain ⟨o2,x2,k2⟩:=r;simp only [Tm.op] at hw;simp only [Bm,AwU,Ai] at hu ⊢;by_cases hd0:(0:Int)<(e:Int) - 5
  ·by_cases h4:w5=4
   ·simp (maxSteps:=1000000) only [↓XQ,↓XX,XY,↓reduceIte,Nat.reduceBEq,Nat.reduceAdd,Int.reduceEq,Int.reduceLT,Int.reduceLE,hd0,↓Ag hw,h4,hn0,↓Av hu]
    first | exact Ao _ _ | exact AX rfl (by simp) _
   ·simp (maxSteps:=1000000) only [↓XQ,↓XX,XY,↓reduceIte,Nat.reduceBEq,Nat.reduceAdd,Int.reduceEq,Int.reduceLT,Int.reduceLE,hd0,↓Ag hw,h4,hn0,↓Av hu]
    first | exact Ao _ _ | exact AX rfl (by simp) _
  ·simp (maxSteps:=1000000) only [↓XQ,↓XX,XY,↓reduceIte,Nat.reduceBEq,Nat.reduceAdd,Int.reduceEq,Int.reduceLT,Int.reduceLE,hd0,hn0,↓Av hu]
   first | exact Ao _ _ | exact AX rfl (by simp) _
 have han:an=0:=by omega
 subst han;have hq1:=Int.emod_nonneg r.op (show (4:Int)≠0 by decide)
 have hq2:=Int.emod_lt_of_pos r.op (show (0:Int)<4 by decide)
 by_cases hs:6≤e∧1<r.op % 4
 ·obtain ⟨x,p,⟨N1,h1⟩,tx⟩:=hG g a (r.pick 0) (AT (by omega) hg) (BD ha);have hgx:GOk (e - 1) (g++[(1,x)]):=CC (by rw [show e - 1+1=e by omega];exact hg) tx.sc (by have:=tx.wt;omega) (by have:=tx.dp;omega)
  have hax:AOk (g++[(1,x)]).length a:=⟨by rw [hae];exact CI (by decide) (by decide) (by rw [BS,if_pos rfl];omega),by omega,by omega⟩;obtain ⟨y,q,⟨N2,h2⟩,ty⟩:=hG (g++[(1,x)]) a (r.pick 1) hgx hax;have ys:y.sc (g.length+1):=by simpa using ty.sc
  obtain ⟨oo,hoo⟩:∃oo:Int,oo=3∧r.op % 4=2∨oo=6∧r.op % 4=3:=by
   by_cases h7:r.op % 4=2
   ·exact ⟨3,.inl ⟨rfl,h7⟩⟩
   ·exact ⟨6,.inr ⟨rfl,by omega⟩⟩
  have hsc:(Tm.mk oo 0 [x,y]).sc g.length:=by
   rcases hoo with ⟨rfl,_⟩ | ⟨rfl,_⟩<;>exact B9 (by decide) (by decide) (Bs (by decide) (by decide) (by decide)) tx.sc ys
  refine ⟨.mk oo 0 [x,y],p && q,⟨N1+N2+100,fun n hn=>?_⟩,hsc,by have:=tx.wt;have:=ty.wt;rw [Oi];omega,by have:=tx.dp;have:=ty.dp;rw [Q8];omega,fun hb=>.upi e g a x y oo (by omega) hs.1 o2 (Ajp tx (by omega)) (tx.gr (Md hb)) (ty.gr (Kb hb))⟩;obtain ⟨n,rfl⟩:∃k,n=k+1:=⟨n - 1,by omega⟩;have h1:=h1 n (by omega);have h2:=h2 n (by omega);rw [← we] at h1 h2;have hw:=Ar (n:=n) (by omega) r.op (m:=5) (by omega) (by omega);have hw4:=Ar (n:=n) (by omega) r.op (m:=4) (by omega) (by omega);have p0:=AP (n:=n) (by omega) r 0;have p1:=AP (n:=n) (by omega) r 1;have hm:=C1 (n:=n) g 1 x (by omega) (by omega);have t3:=C6 (n:=n) (by omega) oo [x,y];have hd0:(0:Int)<(e:Int) - 5:=by omega
  have w22:BI (2 - 2)=0:=by rw [As]<;>omega
  have w32:BI (3 - 2)=1:=by rw [As]<;>omega
  have w0:BI 0=0:=by rw [As]<;>omega
  have w1:BI 1=1:=by rw [As]<;>omega
  rw [c49];rw [hae] at h1 h2 ⊢;clear hG hG2 tx ty hg ha leafT tint hae hu1 hu2 hop hnr hs hsc hgx hax ys;generalize r.op % 5=w5 at hw;generalize r.op % 4=w4 at hw4 hoo;generalize r.pick 0=r0 at p0 h1;generalize r.pick 1=r1 at p1 h2;obtain ⟨o2,x2,k2⟩:=r;obtain ⟨o5,x5,k5⟩:=x;obtain ⟨o6,x6,k6⟩:=y;obtain ⟨o8,x8,k8⟩:=r0;obtain ⟨o9,x9,k9⟩:=r1;simp only [Tm.op] at hw hw4;simp only [Bm,AwV,AwU,Ai] at h1 h2 p0 p1 hm t3 ⊢;rcases hoo with ⟨rfl,rfl⟩ | ⟨rfl,rfl⟩
  ·by_cases h4:w5=4<;>cases p<;>(simp (maxSteps:=1000000) only [↓XQ,↓XX,XY,↓reduceIte,Nat.reduceBEq,Nat.reduceAdd,Int.reduceEq,Int.reduceLT,Int.reduceLE,hd0,↓Ag hw,h4,↓Ag hw4,↓Ag p0,↓Ag p1,↓AK h1,↓AZ hm,↓AK h2,↓CY,↓Ami,↓VN,w22,w0,Int.reduceSub,↓Atx,↓Ag t3];first | exact Ao _ _ | exact AX rfl (by simp) _)
  ·by_cases h4:w5=4<;>cases p<;>(simp (maxSteps:=1000000) only [↓XQ,↓XX,XY,↓reduceIte,Nat.reduceBEq,Nat.reduceAdd,Int.reduceEq,Int.reduceLT,Int.reduceLE,hd0,↓Ag hw,h4,↓Ag hw4,↓Ag p0,↓Ag p1,↓AK h1,↓AZ hm,↓AK h2,↓CY,↓Ami,↓VN,w32,w1,Int.reduceSub,↓Aur,↓Ag t3];first | exact Ao _ _ | exact AX rfl (by simp) _)
 ·have hj1:=Int.emod_nonneg r.n (show (3:Int)≠0 by decide)
  have hj2:=Int.emod_lt_of_pos r.n (show (0:Int)<3 by decide)
  obtain ⟨t,ht,tt⟩:∃t:Tm,(r.n % 3=0∧t=.mk 10 0 []∨r.n % 3=1∧t=.mk 14 0 []∨r.n % 3=2∧t=.mk 18 0 [.mk 15 0 []])∧TG 3 e g a t true:=by
   have h:r.n % 3=0∨r.n % 3=1∨r.n % 3=2:=by omega
   rcases h with h | h | h
   ·exact ⟨_,.inl ⟨h,rfl⟩,tg (leafT 10 0 (by decide) (by decide) (Bs (by decide) (by decide) (by decide))) (fun _=>.unat e g a o2)⟩
   ·exact ⟨_,.inr (.inl ⟨h,rfl⟩),tg (leafT 14 0 (by decide) (by decide) (Bs (by decide) (by decide) (by decide))) (fun _=>.uty e g a o2)⟩
   ·exact ⟨_,.inr (.inr ⟨h,rfl⟩),tg tint (fun _=>.ult e g a o2)⟩
  refine ⟨t,true,⟨100,fun n hn=>?_⟩,tt⟩;obtain ⟨n,rfl⟩:∃k,n=k+1:=⟨n - 1,by omega⟩;have hw:=Ar (n:=n) (by omega) r.op (m:=5) (by omega) (by omega);have hw4:=Ar (n:=n) (by omega) r.op (m:=4) (by omega) (by omega);have hw3:=Ar (n:=n) (by omega) r.n (m:=3) (by omega) (by omega);have n4:=NJ (n:=n) (by omega);have t14:=Fg (n:=n) (by omega) 14;have t15:=Fg (n:=n) (by omega) 15;have t18:=C6 (n:=n) (by omega) 18 [.mk 15 0 []];have h41:(0:Int)<(e:Int) - 5→¬ 1<r.op % 4:=by omega
  rw [c49];rw [hae];clear hG hG2 hg ha leafT tint hae hu1 hu2 hop hnr hs tt;generalize r.op % 5=w5 at hw;generalize r.op % 4=w4 at hw4 h41;generalize r.n % 3=w3 at hw3 ht;obtain ⟨o2,x2,k2⟩:=r;simp only [Tm.op,Tm.n] at hw hw4 hw3;simp only [Bm,AwV,AwU,Ai] at n4 t14 t15 t18 ⊢;by_cases hd0:(0:Int)<(e:Int) - 5
  ·have h41:=h41 hd0;by_cases h4:w5=4
   ·rcases ht with ⟨rfl,rfl⟩ | ⟨rfl,rfl⟩ | ⟨rfl,rfl⟩<;>(simp (maxSteps:=1000000) only [↓XQ,↓XX,XY,↓reduceIte,Nat.reduceBEq,Nat.reduceAdd,Int.reduceEq,Int.reduceLT,Int.reduceLE,hd0,↓Ag hw,h4,↓Ag hw4,h41,↓Gl n4,↓Ag t14,↓Ag t15,↓Ec,↓Ag t18,↓Im,↓Ag hw3,↓VN,↓Eg,↓Fk,↓GR,Ai];first | exact Ao _ _ | exact AX rfl (by simp) _)
   ·rcases ht with ⟨rfl,rfl⟩ | ⟨rfl,rfl⟩ | ⟨rfl,rfl⟩<;>(simp (maxSteps:=1000000) only [↓XQ,↓XX,XY,↓reduceIte,Nat.reduceBEq,Nat.reduceAdd,Int.reduceEq,Int.reduceLT,Int.reduceLE,hd0,↓Ag hw,h4,↓Ag hw4,h41,↓Gl n4,↓Ag t14,↓Ag t15,↓Ec,↓Ag t18,↓Im,↓Ag hw3,↓VN,↓Eg,↓Fk,↓GR,Ai];first | exact Ao _ _ | exact AX rfl (by simp) _)
  ·rcases ht with ⟨rfl,rfl⟩ | ⟨rfl,rfl⟩ | ⟨rfl,rfl⟩<;>(simp (maxSteps:=1000000) only [↓XQ,↓XX,XY,↓reduceIte,Nat.reduceBEq,Nat.reduceAdd,Int.reduceEq,Int.reduceLT,Int.reduceLE,hd0,↓Ag hw4,↓Gl n4,↓Ag t14,↓Ag t15,↓Ec,↓Ag t18,↓Im,↓Ag hw3,↓VN,↓Eg,↓Fk,↓GR,Ai];first | exact Ao _ _ | exact AX rfl (by simp) _)
set_option maxRecDepth 20000 in
set_option maxHeartbeats 8000000 in
theorem AfF {e:Nat} (h6:6≤e) (he:e≤10) (hO:Ee 35 2 (e - 2)) (hG:Ee 23 1 (e - 1)):Q4 53 4 e:=by
 intro g a r hg ha;have hlen:=hg.len;have hW1:Wg e=4 * Wg (e - 1):=by
  obtain ⟨f,rfl⟩:∃f,e=f+1:=⟨e - 1,by omega⟩;rw [Nu,Nat.add_sub_cancel]
 have hW2:Wg e=16 * Wg (e - 2):=by
  obtain ⟨f,rfl⟩:∃f,e=f+2:=⟨e - 2,by omega⟩;rw [show f+2=(f+1)+1 by omega,Nu,Nu,show f+1+1 - 2=f by omega];omega
 have hW0:=Nz (e - 2);have hW10:=OM he;have hD1:Dg e=Dg (e - 1)+10:=by unfold Dg;omega
 have hD2:Dg e=Dg (e - 2)+20:=by unfold Dg;omega
 have hD0:200≤Dg (e - 2):=by unfold Dg;omega
 have hDm:Dg e≤300:=by unfold Dg;omega
 have we:BI ((e:Int) - 5 - 1)=((e - 1:Nat):Int) - 5:=by rw [As (by omega) (by omega)];omega
 have we2:BI ((e:Int) - 5 - 2)=((e - 2:Nat):Int) - 5:=by rw [As (by omega) (by omega)];omega
 have aw:=ha.wt;have ad:=ha.dp;have hk1:=Int.emod_nonneg r.n (show (7:Int)≠0 by decide)
 have hk2:=Int.emod_lt_of_pos r.n (show (0:Int)<7 by decide)
 have hi:AOk g.length (.mk 15 0 []):=⟨CI (by decide) (by decide) (Bs (by decide) (by decide) (by decide)),by simp only [Tm.wt,Tm.wtL];omega,by simp only [Tm.dp,Tm.dpL];omega⟩;have hs1:=OP ha (by omega) 1 (by omega);by_cases c0:r.n % 7=0
 ·obtain ⟨c,p,⟨N1,h1⟩,tc⟩:=hO g (.mk 15 0 []) (r.pick 0) (AT (by omega) hg) hi;obtain ⟨x,q,⟨N2,h2⟩,tx⟩:=hO g a (r.pick 1) (AT (by omega) hg) (BD ha);obtain ⟨y,f,⟨N3,h3⟩,ty⟩:=hO g a (r.pick 2) (AT (by omega) hg) (BD ha);refine ⟨.mk 27 0 [c,x,y],p && (q && f),⟨N1+N2+N3+100000,fun n hn=>?_⟩,R5 (by decide) (by decide) (Bs (by decide) (by decide) (by decide)) tc.sc tx.sc ty.sc,by have:=tc.wt;have:=tx.wt;have:=ty.wt;rw [wt3];omega,by have:=tc.dp;have:=tx.dp;have:=ty.dp;rw [dp3];omega,fun hb=>.oif e g a c x y h6 (tc.gr (Md hb)) (tx.gr (Md (Kb hb))) (ty.gr (Kb (Kb hb)))⟩
  ·obtain ⟨n,rfl⟩:∃k,n=k+1:=⟨n - 1,by omega⟩;have h1:=h1 n (by omega);have h2:=h2 n (by omega);have h3:=h3 n (by omega);rw [← we2] at h1 h2 h3;have hw:=Ar (n:=n) (by omega) r.n (m:=7) (by omega) (by omega);have t15:=Fg (n:=n) (by omega) 15;have p0:=AP (n:=n) (by omega) r 0;have p1:=AP (n:=n) (by omega) r 1;have p2:=AP (n:=n) (by omega) r 2;rw [c0] at hw;have t27:=C6 (n:=n) (by omega) 27 [c,x,y];rw [c53];clear hO hG tc tx ty hg ha hi hs1;generalize r.pick 0=r0 at p0 h1;generalize r.pick 1=r1 at p1 h2;generalize r.pick 2=r2 at p2 h3;obtain ⟨o1,x1,k1⟩:=a;obtain ⟨o2,x2,k2⟩:=r;obtain ⟨o3,x3,k3⟩:=c;obtain ⟨o4,x4,k4⟩:=x;obtain ⟨o5,x5,k5⟩:=y;obtain ⟨o6,x6,k6⟩:=r0;obtain ⟨o7,x7,k7⟩:=r1;obtain ⟨o8,x8,k8⟩:=r2;simp only [Tm.n] at hw;simp only [Bm,AwV,AwU,Ai] at h1 h2 h3 t15 p0 p1 p2 t27 ⊢;cases p
   ·simp (maxSteps:=1000000) only [↓UU8,↓XX,XY,↓reduceIte,Nat.reduceBEq,Nat.reduceAdd,Int.reduceEq,Int.reduceLT,Int.reduceLE,↓Ag hw,↓Ag t15,↓Ag p0,↓Ag p1,↓Ag p2,↓AK h1,↓AK h2,↓AK h3,↓Im,↓Ag t27];first | exact Ao _ _ | exact AX rfl (by simp) _
   ·cases q
    ·simp (maxSteps:=1000000) only [↓UU8,↓XX,XY,↓reduceIte,Nat.reduceBEq,Nat.reduceAdd,Int.reduceEq,Int.reduceLT,Int.reduceLE,↓Ag hw,↓Ag t15,↓Ag p0,↓Ag p1,↓Ag p2,↓AK h1,↓AK h2,↓AK h3,↓Im,↓Ag t27];first | exact Ao _ _ | exact AX rfl (by simp) _
    ·simp (maxSteps:=1000000) only [↓UU8,↓XX,XY,↓reduceIte,Nat.reduceBEq,Nat.reduceAdd,Int.reduceEq,Int.reduceLT,Int.reduceLE,↓Ag hw,↓Ag t15,↓Ag p0,↓Ag p1,↓Ag p2,↓AK h1,↓AK h2,↓AK h3,↓Im,↓Ag t27];first | exact Ao _ _ | exact AX rfl (by simp) _
 by_cases c12:r.n % 7=1∨r.n % 7=2
 ·have hb:=II g.length 1 (r.pick 0);have hbw:=Ir 1 (r.pick 0);have hbd:=Vv ((r.pick 0).plainT 1);obtain ⟨b,hbe⟩:∃b,b=(r.pick 0).plainT 1:=⟨_,rfl⟩;rw [← hbe] at hb hbw hbd;obtain ⟨x,p,⟨N1,h1⟩,tx⟩:=hO g b (r.pick 1) (AT (by omega) hg) ⟨hb,by omega,by omega⟩;have hgb:GOk (e - 2) (g++[(0,b)]):=CC (AT (by omega) hg) hb (by omega) (by omega);obtain ⟨y,q,⟨N2,h2⟩,ty⟩:=hO (g++[(0,b)]) (a.shift 1 0) (r.pick 2) hgb (by simpa using BD hs1);have ys:y.sc (g.length+1):=by simpa using ty.sc
  obtain ⟨tt,htt,hok⟩:∃tt:Tm,(r.n % 7=1∧tt=.mk 28 0 [x,y]∨r.n % 7=2∧tt=.mk 21 0 [.mk 20 0 [b,y],x])∧TG 4 e g a tt (p && q):=by
   rcases c12 with h | h
   ·exact ⟨_,.inl ⟨h,rfl⟩,B9 (by decide) (by decide) (Bs (by decide) (by decide) (by decide)) tx.sc ys,by have:=tx.wt;have:=ty.wt;rw [Oi];omega,by have:=tx.dp;have:=ty.dp;rw [Q8];omega,fun hpq=>by subst hbe;exact .olet e g a (r.pick 0) x y h6 (tx.gr (Md hpq)) (ty.gr (Kb hpq))⟩
   ·exact ⟨_,.inr ⟨h,rfl⟩,B9 (by decide) (by decide) (Bs (by decide) (by decide) (by decide)) (B9 (by decide) (by decide) (Bs (by decide) (by decide) (by decide)) hb ys) tx.sc,by have:=tx.wt;have:=ty.wt;rw [Oi,Oi];omega,by have:=tx.dp;have:=ty.dp;rw [Q8,Q8];omega,fun hpq=>by subst hbe;exact .oapp e g a (r.pick 0) x y h6 (tx.gr (Md hpq)) (ty.gr (Kb hpq))⟩
  refine ⟨tt,p && q,⟨N1+N2+100000,fun n hn=>?_⟩,hok⟩
  ·obtain ⟨n,rfl⟩:∃k,n=k+1:=⟨n - 1,by omega⟩;have h1:=h1 n (by omega);have h2:=h2 n (by omega);rw [← we2] at h1 h2;have hw:=Ar (n:=n) (by omega) r.n (m:=7) (by omega) (by omega);have t15:=Fg (n:=n) (by omega) 15;have p0:=AP (n:=n) (by omega) r 0;have p1:=AP (n:=n) (by omega) r 1;have p2:=AP (n:=n) (by omega) r 2;have hp:=Ra 1 n (r.pick 0) (by omega) (by omega);rw [← hbe] at hp;have hm:=C1 (n:=n) g 0 b (by omega) (by omega);have sh:=CW n a 1 0 (by omega) (Fm _ _ ha.sc) (by omega) (by omega);have t28:=C6 (n:=n) (by omega) 28 [x,y];have t20:=C6 (n:=n) (by omega) 20 [b,y];have t21:=C6 (n:=n) (by omega) 21 [.mk 20 0 [b,y],x];rw [c53];clear hO hG tx ty hg ha hi hs1 hbe hb hgb ys hok c12;generalize r.n % 7=w7 at hw htt;generalize a.shift 1 0=a1 at sh h2;generalize r.pick 0=r0 at p0 hp;generalize r.pick 1=r1 at p1 h1;generalize r.pick 2=r2 at p2 h2;obtain ⟨o1,x1,k1⟩:=a;obtain ⟨o2,x2,k2⟩:=r;obtain ⟨o3,x3,k3⟩:=b;obtain ⟨o4,x4,k4⟩:=x;obtain ⟨o5,x5,k5⟩:=y;obtain ⟨o6,x6,k6⟩:=r0;obtain ⟨o7,x7,k7⟩:=r1;obtain ⟨o8,x8,k8⟩:=r2;obtain ⟨o9,x9,k9⟩:=a1;simp only [Tm.n] at hw;simp only [Bm,AwV,AwU,Ai] at h1 h2 t15 p0 p1 p2 hp hm sh t28 t20 t21 ⊢;rcases htt with ⟨rfl,rfl⟩ | ⟨rfl,rfl⟩
   ·cases p<;>(simp (maxSteps:=1000000) only [↓UU8,↓XX,XY,↓reduceIte,Nat.reduceBEq,Nat.reduceAdd,Int.reduceEq,Int.reduceLT,Int.reduceLE,↓Ag hw,↓Ag t15,↓Ag p0,↓Ag p1,↓Ag p2,↓Ag hp,↓AK h1,↓AZ hm,↓AZ sh,↓AK h2,↓CY,↓Ag t28,Ai,AwV,AwU];first | exact Ao _ _ | exact AX rfl (by simp) _)
   ·cases p<;>(simp (maxSteps:=1000000) only [↓UU8,↓XX,XY,↓reduceIte,Nat.reduceBEq,Nat.reduceAdd,Int.reduceEq,Int.reduceLT,Int.reduceLE,↓Ag hw,↓Ag t15,↓Ag p0,↓Ag p1,↓Ag p2,↓Ag hp,↓AK h1,↓AZ hm,↓AZ sh,↓AK h2,↓CY,↓Ag t20,↓Ag t21,Ai,AwV,AwU];first | exact Ao _ _ | exact AX rfl (by simp) _)
 by_cases c3:r.n % 7=3
 ·obtain ⟨x,p,⟨N1,h1⟩,tx⟩:=hO g a (r.pick 0) (AT (by omega) hg) (BD ha);obtain ⟨y,q,⟨N2,h2⟩,ty⟩:=hO g (.mk 15 0 []) (r.pick 1) (AT (by omega) hg) hi;refine ⟨.mk 23 0 [.mk 22 0 [x,y]],p && q,⟨N1+N2+100000,fun n hn=>?_⟩,El (by decide) (by decide) (Bs (by decide) (by decide) (by decide)) (B9 (by decide) (by decide) (Bs (by decide) (by decide) (by decide)) tx.sc ty.sc),by have:=tx.wt;have:=ty.wt;rw [wt1,Oi];omega,by have:=tx.dp;have:=ty.dp;rw [dp1,Q8];omega,fun hb=>.ofst e g a x y h6 (tx.gr (Md hb)) (ty.gr (Kb hb))⟩
  ·obtain ⟨n,rfl⟩:∃k,n=k+1:=⟨n - 1,by omega⟩;have h1:=h1 n (by omega);have h2:=h2 n (by omega);rw [← we2] at h1 h2;have hw:=Ar (n:=n) (by omega) r.n (m:=7) (by omega) (by omega);have t15:=Fg (n:=n) (by omega) 15;have p0:=AP (n:=n) (by omega) r 0;have p1:=AP (n:=n) (by omega) r 1;have p2:=AP (n:=n) (by omega) r 2;rw [c3] at hw;have t22:=C6 (n:=n) (by omega) 22 [x,y];have t23:=C6 (n:=n) (by omega) 23 [.mk 22 0 [x,y]];rw [c53];clear hO hG tx ty hg ha hi hs1;generalize r.pick 0=r0 at p0 h1;generalize r.pick 1=r1 at p1 h2;obtain ⟨o1,x1,k1⟩:=a;obtain ⟨o2,x2,k2⟩:=r;obtain ⟨o4,x4,k4⟩:=x;obtain ⟨o5,x5,k5⟩:=y;obtain ⟨o6,x6,k6⟩:=r0;obtain ⟨o7,x7,k7⟩:=r1;simp only [Tm.n] at hw;simp only [Bm,AwV,AwU,Ai] at h1 h2 t15 p0 p1 t22 t23 ⊢;cases p<;>(simp (maxSteps:=1000000) only [↓UU8,↓XX,XY,↓reduceIte,Nat.reduceBEq,Nat.reduceAdd,Int.reduceEq,Int.reduceLT,Int.reduceLE,↓Ag hw,↓Ag t15,↓Ag p0,↓Ag p1,↓AK h1,↓AK h2,↓CY,↓Ec,↓Ag t22,↓Ag t23];first | exact Ao _ _ | exact AX rfl (by simp) _)
 by_cases c4:r.n % 7=4
 ·have hga:GOk (e - 2) (g++[(0,a)]):=CC (AT (by omega) hg) ha.sc (by omega) (by omega);obtain ⟨x,p,⟨N1,h1⟩,tx⟩:=hO (g++[(0,a)]) (a.shift 1 0) (r.pick 0) hga (by simpa using BD hs1);have xs:x.sc (g.length+1):=by simpa using tx.sc
  refine ⟨.mk 29 0 [a,x],p,⟨N1+100000,fun n hn=>?_⟩,B9 (by decide) (by decide) (Bs (by decide) (by decide) (by decide)) ha.sc xs,by have:=tx.wt;rw [Oi];omega,by have:=tx.dp;rw [Q8];omega,fun hb=>.ofix e g a x h6 (tx.gr hb)⟩
  ·obtain ⟨n,rfl⟩:∃k,n=k+1:=⟨n - 1,by omega⟩;have h1:=h1 n (by omega);rw [← we2] at h1;have hw:=Ar (n:=n) (by omega) r.n (m:=7) (by omega) (by omega);have t15:=Fg (n:=n) (by omega) 15;have p0:=AP (n:=n) (by omega) r 0;have p1:=AP (n:=n) (by omega) r 1;have p2:=AP (n:=n) (by omega) r 2;rw [c4] at hw;have hm:=C1 (n:=n) g 0 a (by omega) (by omega);have sh:=CW n a 1 0 (by omega) (Fm _ _ ha.sc) (by omega) (by omega);have t29:=C6 (n:=n) (by omega) 29 [a,x];rw [c53];clear hO hG tx hg ha hi hs1 hga xs;generalize a.shift 1 0=a1 at sh h1;generalize r.pick 0=r0 at p0 h1;obtain ⟨o1,x1,k1⟩:=a;obtain ⟨o2,x2,k2⟩:=r;obtain ⟨o4,x4,k4⟩:=x;obtain ⟨o6,x6,k6⟩:=r0;obtain ⟨o9,x9,k9⟩:=a1;simp only [Tm.n] at hw;simp only [Bm,AwV,AwU,Ai] at h1 t15 p0 hm sh t29 ⊢;simp (maxSteps:=1000000) only [↓UU8,↓XX,XY,↓reduceIte,Nat.reduceBEq,Nat.reduceAdd,Int.reduceEq,Int.reduceLT,Int.reduceLE,↓Ag hw,↓Ag t15,↓Ag p0,↓AZ hm,↓AZ sh,↓AK h1,↓CY,↓Ag t29];first | exact Ao _ _ | exact AX rfl (by simp) _
 ·have hla:AOk g.length (.mk 18 0 [a]):=⟨El (by decide) (by decide) (Bs (by decide) (by decide) (by decide)) ha.sc,by rw [wt1];omega,by rw [dp1];omega⟩;obtain ⟨x,p,⟨N1,h1⟩,tx⟩:=hG g (.mk 18 0 [a]) (r.pick 0) (AT (by omega) hg) hla;refine ⟨.mk 30 0 [x],p,⟨N1+100000,fun n hn=>?_⟩,El (by decide) (by decide) (Bs (by decide) (by decide) (by decide)) tx.sc,by have:=tx.wt;rw [wt1];omega,by have:=tx.dp;rw [dp1];omega,fun hb=>.spl e g a x h6 (tx.gr hb)⟩
  ·obtain ⟨n,rfl⟩:∃k,n=k+1:=⟨n - 1,by omega⟩;have h1:=h1 n (by omega);rw [← we] at h1;have hw:=Ar (n:=n) (by omega) r.n (m:=7) (by omega) (by omega);have t15:=Fg (n:=n) (by omega) 15;have p0:=AP (n:=n) (by omega) r 0;have p1:=AP (n:=n) (by omega) r 1;have p2:=AP (n:=n) (by omega) r 2;have c1:¬ r.n % 7=1:=fun h=>c12 (.inl h);have c2:¬ r.n % 7=2:=fun h=>c12 (.inr h);have t18:=C6 (n:=n) (by omega) 18 [a];have t30:=C6 (n:=n) (by omega) 30 [x];rw [c53];clear hO hG tx hg ha hi hs1 hla c12 hk1 hk2;generalize r.n % 7=w7 at hw c0 c1 c2 c3 c4;generalize r.pick 0=r0 at p0 h1;obtain ⟨o1,x1,k1⟩:=a;obtain ⟨o2,x2,k2⟩:=r;obtain ⟨o4,x4,k4⟩:=x;obtain ⟨o6,x6,k6⟩:=r0;simp only [Tm.n] at hw;simp only [Bm,AwV,AwU,Ai] at h1 t15 p0 t18 t30 ⊢;simp (maxSteps:=1000000) only [↓UU8,↓XX,XY,↓reduceIte,Nat.reduceBEq,Nat.reduceAdd,Int.reduceEq,Int.reduceLT,Int.reduceLE,↓Ag hw,c0,c1,c2,c3,c4,↓Ag t15,↓Ag p0,↓Ec,↓Ag t18,↓AK h1,↓Ag t30];first | exact Ao _ _ | exact AX rfl (by simp) _
theorem G5 {k:Nat} {a:Tm} {r:Nat} (h:NOk k a) (hr:ar a.op=some r):a.kids.length=r:=EF h.sc rfl hr
theorem YL {l:List Tm} (h:l.length=2):∃x y,l=[x,y]:=by
 match l,h with
 | [x,y],_=>exact ⟨x,y,rfl⟩
theorem Asg {l:List Tm} (h:l.length=1):∃x,l=[x]:=by
 match l,h with
 | [x],_=>exact ⟨x,rfl⟩
theorem ArW {l:List Tm} (h:l.length=0):l=[]:=List.eq_nil_of_length_eq_zero h
set_option maxRecDepth 20000 in
set_option maxHeartbeats 8000000 in
theorem Afy {e:Nat} (he:e≤10) (hO:1≤e→Ee 35 2 (e - 1)) (hA:6≤e→Q4 53 4 e):Ee 35 2 e:=by
 intro g a0 r hg ha0;have hlen:=hg.len;have hW0:=Nz e;have hD0:200≤Dg e:=by unfold Dg;omega
 have hDm:Dg e≤300:=by unfold Dg;omega
 have hW10:=OM he;obtain ⟨a,er,⟨N0,h0⟩,hcase,fn,hfn⟩:=FZ (k:=g.length) (by omega) ha0.sc (by have:=ha0.dp;omega);rcases hcase with ⟨rfl,ha⟩ | ⟨her,rfl⟩
 case inr =>
  have hne:er≠0:=by omega
  refine ⟨.z,false,⟨N0+100,fun n hn=>?_⟩,Aot _,by simp only [Tm.z,Tm.wt,Tm.wtL];omega,by simp only [Tm.z,Tm.dp,Tm.dpL];omega,fun h=>by cases h⟩;obtain ⟨n,rfl⟩:∃k,n=k+1:=⟨n - 1,by omega⟩;have h0:=h0 n (by omega);rw [c35];clear hO hA hg ha0;obtain ⟨o1,x1,k1⟩:=a0;obtain ⟨o2,x2,k2⟩:=r;simp only [Bm,Tm.z,AwU,Ai] at h0 ⊢;simp (maxSteps:=1000000) only [↓UU7,↓XX,XY,↓reduceIte,Nat.reduceBEq,Nat.reduceAdd,Int.reduceEq,Int.reduceLT,Int.reduceLE,↓Av h0,hne];first | exact Ao _ _ | exact AX rfl (by simp) _
 obtain ⟨v,is,⟨N1,h1⟩,tv0,hhit⟩:=Ni hg 0 ha r.n;have up:∀{t:Tm},Gr 4 e g a t→Gr 2 e g a0 t:=fun h=>.objc e g a0 a _ fn hfn (by omega) ha h;have tv:TG 2 e g a0 v is:=tg (Wa (Nat.zero_le _) tv0) (fun hb=>by
  obtain ⟨i,rfl,hi⟩:=hhit hb;exact up (.var0 e g a i hi))
 clear tv0 hhit;have aw:=ha.wt;have ad:=ha.dp;have hw3m:=Int.emod_nonneg r.op (show (3:Int)≠0 by decide)
 by_cases cv:is=true∧r.op % 3=0∨e=0
 ·refine ⟨v,is,⟨N0+N1+100,fun n hn=>?_⟩,tv⟩;obtain ⟨n,rfl⟩:∃k,n=k+1:=⟨n - 1,by omega⟩;have h0:=h0 n (by omega);have h1:=h1 n (by omega);have hw:=Ar (n:=n) (by omega) r.op (m:=3) (by omega) (by omega);rw [c35];clear up hfn hO hA hg ha0 ha tv;obtain ⟨o0,x0,k0⟩:=a0;obtain ⟨o1,x1,k1⟩:=a;obtain ⟨o2,x2,k2⟩:=r;obtain ⟨o3,x3,k3⟩:=v;simp only [Tm.n,Tm.op] at h1 hw cv;simp only [Bm,Ai] at h0 h1 ⊢;generalize o2 % 3=w3 at hw cv;rcases cv with ⟨rfl,rfl⟩ | rfl
  ·simp (maxSteps:=1000000) only [↓UU7,↓XX,XY,↓reduceIte,Nat.reduceBEq,Nat.reduceAdd,Int.reduceEq,Int.reduceLT,Int.reduceLE,↓Av h0,↓AK h1,↓Ag hw];first | exact Ao _ _ | exact AX rfl (by simp) _
  ·have hd4:((0:Nat):Int) - 5 < -4:=by omega
   cases is
   ·simp (maxSteps:=1000000) only [↓UU7,↓XX,XY,↓reduceIte,Nat.reduceBEq,Nat.reduceAdd,Int.reduceEq,Int.reduceLT,Int.reduceLE,↓Av h0,↓AK h1,↓Ag hw,hd4,Int.reduceSub,Int.reduceLT,Int.reduceNeg];first | exact Ao _ _ | exact AX rfl (by simp) _
   ·by_cases h3:w3=0
    ·simp (maxSteps:=1000000) only [↓UU7,↓XX,XY,↓reduceIte,Nat.reduceBEq,Nat.reduceAdd,Int.reduceEq,Int.reduceLT,Int.reduceLE,↓Av h0,↓AK h1,↓Ag hw,h3,hd4,Int.reduceSub,Int.reduceLT,Int.reduceNeg];first | exact Ao _ _ | exact AX rfl (by simp) _
    ·simp (maxSteps:=1000000) only [↓UU7,↓XX,XY,↓reduceIte,Nat.reduceBEq,Nat.reduceAdd,Int.reduceEq,Int.reduceLT,Int.reduceLE,↓Av h0,↓AK h1,↓Ag hw,h3,hd4,Int.reduceSub,Int.reduceLT,Int.reduceNeg];first | exact Ao _ _ | exact AX rfl (by simp) _
 have he1:1≤e:=by omega
 have hd4:¬ (e:Int) - 5 < -4:=by omega
 have hv:is=true→¬ r.op % 3=0:=fun h1 h2=>cv (.inl ⟨h1,h2⟩);have hW1:Wg e=4 * Wg (e - 1):=by
  obtain ⟨f,rfl⟩:∃f,e=f+1:=⟨e - 1,by omega⟩;rw [Nu,Nat.add_sub_cancel]
 have hW01:=Nz (e - 1);have hD1:Dg e=Dg (e - 1)+10:=by unfold Dg;omega
 have hD01:200≤Dg (e - 1):=by unfold Dg;omega
 have we:BI ((e:Int) - 5 - 1)=((e - 1:Nat):Int) - 5:=by rw [As (by omega) (by omega)];omega
 have hO:=hO he1;by_cases ca:6≤e∧r.op % 3=1
 ·obtain ⟨t,b,⟨N2,h2⟩,tt⟩:=hA ca.1 g a r hg ha;refine ⟨t,b,⟨N0+N1+N2+100,fun n hn=>?_⟩,AfQ tt up⟩;obtain ⟨n,rfl⟩:∃k,n=k+1:=⟨n - 1,by omega⟩;have h0:=h0 n (by omega);have h1:=h1 n (by omega);have h2:=h2 n (by omega);have hw:=Ar (n:=n) (by omega) r.op (m:=3) (by omega) (by omega);rw [ca.2] at hw;have hd0:(0:Int)<(e:Int) - 5:=by omega
  rw [c35];clear up hfn hO hA hg ha0 ha tv tt;obtain ⟨o0,x0,k0⟩:=a0;obtain ⟨o1,x1,k1⟩:=a;obtain ⟨o2,x2,k2⟩:=r;obtain ⟨o3,x3,k3⟩:=v;obtain ⟨o4,x4,k4⟩:=t;simp only [Tm.n,Tm.op] at h1 hw;simp only [Bm,Ai] at h0 h1 h2 ⊢;cases is<;>(simp (maxSteps:=1000000) only [↓UU7,↓XX,XY,↓reduceIte,Nat.reduceBEq,Nat.reduceAdd,Int.reduceEq,Int.reduceLT,Int.reduceLE,↓Av h0,↓AK h1,↓Ag hw,hd4,hd0,↓AK h2];first | exact Ao _ _ | exact AX rfl (by simp) _)
 have hna:(0:Int)<(e:Int) - 5→¬ r.op % 3=1:=by omega
 by_cases o15:a.op=15
 ·have hl:=ArW (G5 ha (show ar a.op=some 0 by rw [o15];decide))
  by_cases hs:6≤e∧r.op % 2=1
  ·obtain ⟨x,p,⟨N2,h2⟩,tx⟩:=hO g a (r.pick 0) (AT (by omega) hg) (BD ha);obtain ⟨y,q,⟨N3,h3⟩,ty⟩:=hO g a (r.pick 1) (AT (by omega) hg) (BD ha);have hj1:=Int.emod_nonneg r.n (show (5:Int)≠0 by decide)
   have hj2:=Int.emod_lt_of_pos r.n (show (0:Int)<5 by decide)
   refine ⟨.mk 26 (r.n % 5) [x,y],p && q,⟨N0+N1+N2+N3+100,fun n hn=>?_⟩,B9 (by decide) (by decide) (by rw [BS,if_neg (by decide),if_pos rfl];omega) tx.sc ty.sc,by have:=tx.wt;have:=ty.wt;rw [Oi];omega,by have:=tx.dp;have:=ty.dp;rw [Q8];omega,fun hb=>up (.oprim e g a x y _ hs.1 o15 (tx.gr (Md hb)) (ty.gr (Kb hb)))⟩;obtain ⟨n,rfl⟩:∃k,n=k+1:=⟨n - 1,by omega⟩;have h0:=h0 n (by omega);have h1:=h1 n (by omega);have h2:=h2 n (by omega);have h3:=h3 n (by omega);rw [← we] at h2 h3;have hw:=Ar (n:=n) (by omega) r.op (m:=3) (by omega) (by omega);have hw2:=Ar (n:=n) (by omega) r.op (m:=2) (by omega) (by omega);rw [hs.2] at hw2;have hw5:=Ar (n:=n) (by omega) r.n (m:=5) (by omega) (by omega);have p0:=AP (n:=n) (by omega) r 0;have p1:=AP (n:=n) (by omega) r 1;have hd0:(0:Int)<(e:Int) - 5:=by omega
   replace hna:=hna hd0;rw [c35];clear up hfn hO hA hg ha0 ha tv tx ty hj1 hj2;generalize r.op % 3=w3 at hw hv hna;generalize r.n % 5=w5 at hw5 ⊢;generalize r.pick 0=r0 at p0 h2;generalize r.pick 1=r1 at p1 h3;obtain ⟨o0,x0,k0⟩:=a0;obtain ⟨o1,x1,k1⟩:=a;simp only [Tm.op,Tm.kids] at o15 hl;subst o15 hl;obtain ⟨o2,x2,k2⟩:=r;obtain ⟨o3,x3,k3⟩:=v;obtain ⟨o4,x4,k4⟩:=x;obtain ⟨o5,x5,k5⟩:=y;obtain ⟨o6,x6,k6⟩:=r0;obtain ⟨o7,x7,k7⟩:=r1;simp only [Tm.n,Tm.op] at h1 hw hw2 hw5;simp only [Bm,Ai,AwV,AwU] at h0 h1 h2 h3 p0 p1 ⊢;cases is<;>cases p<;>(simp (maxSteps:=1000000) only [↓UU7,↓XX,XY,↓reduceIte,Nat.reduceBEq,Nat.reduceAdd,Int.reduceEq,Int.reduceLT,Int.reduceLE,↓Av h0,↓AK h1,↓Ag hw,hv,hd4,hd0,hna,↓Ag hw2,↓Ag p0,↓Ag p1,↓AK h2,↓AK h3,↓Ag hw5,↓CY];first | exact Ao _ _ | exact AX rfl (by simp) _)
  ·have hj1:=Int.emod_nonneg r.n (show (20:Int)≠0 by decide)
   have hj2:=Int.emod_lt_of_pos r.n (show (0:Int)<20 by decide)
   refine ⟨.mk 25 (r.n % 20 - 5) [],true,⟨N0+N1+100,fun n hn=>?_⟩,CI (by decide) (by decide) (by rw [BS,if_neg (by decide),if_neg (by decide),if_pos rfl];omega),by simp only [Tm.wt,Tm.wtL];omega,by simp only [Tm.dp,Tm.dpL];omega,fun _=>up (.oint e g a _ o15)⟩;obtain ⟨n,rfl⟩:∃k,n=k+1:=⟨n - 1,by omega⟩;have h0:=h0 n (by omega);have h1:=h1 n (by omega);have hw:=Ar (n:=n) (by omega) r.op (m:=3) (by omega) (by omega);have hw2:=Ar (n:=n) (by omega) r.op (m:=2) (by omega) (by omega);have hw20:=Ar (n:=n) (by omega) r.n (m:=20) (by omega) (by omega);have w5:BI (r.n % 20 - 5)=r.n % 20 - 5:=by rw [As]<;>omega
   have hin:=Anr (n:=n) (by omega) (r.n % 20 - 5);rw [← w5] at hin;have h21:(0:Int)<(e:Int) - 5→¬ r.op % 2=1:=by omega
   rw [c35,← w5];clear up hfn hO hA hg ha0 ha tv hj1 hj2 w5 hs;generalize r.op % 3=w3 at hw hv hna;generalize r.op % 2=w2 at hw2 h21;generalize r.n % 20=w20 at hw20 hin ⊢;obtain ⟨o0,x0,k0⟩:=a0;obtain ⟨o1,x1,k1⟩:=a;simp only [Tm.op,Tm.kids] at o15 hl;subst o15 hl;obtain ⟨o2,x2,k2⟩:=r;obtain ⟨o3,x3,k3⟩:=v;simp only [Tm.n,Tm.op] at h1 hw hw2 hw20;simp only [Bm,Ai,AwV,AwU] at h0 h1 hin ⊢;cases is<;>by_cases hd0:(0:Int)<(e:Int) - 5<;>(simp (maxSteps:=1000000) only [↓UU7,↓XX,XY,↓reduceIte,Nat.reduceBEq,Nat.reduceAdd,Int.reduceEq,Int.reduceLT,Int.reduceLE,↓Av h0,↓AK h1,↓Ag hw,hv,hd4,hd0,hna,↓Ag hw2,h21,↓Ag hw20,↓Av hin];first | exact Ao _ _ | exact AX rfl (by simp) _)
 by_cases o16:a.op=16
 ·obtain ⟨d,c,hl⟩:=YL (G5 ha (show ar a.op=some 2 by rw [o16];decide))
  have hd:NOk g.length d∧NOk g.length c:=by
   obtain ⟨o1,x1,k1⟩:=a;simp only [Tm.op,Tm.kids] at o16 hl;subst o16 hl;have hsc:=ha.sc;rw [Tm.sc] at hsc;rw [Oi] at aw;rw [Q8] at ad;exact ⟨⟨hsc.2.2.1,by omega,by omega⟩,⟨hsc.2.2.2.1,by omega,by omega⟩⟩
  obtain ⟨hd,hc⟩:=hd;have hgd:GOk (e - 1) (g++[(0,d)]):=CC (by rw [show e - 1+1=e by omega];exact hg) hd.sc (by have:=hd.wt;omega) (by have:=hd.dp;omega)
  obtain ⟨x,p,⟨N2,h2⟩,tx⟩:=hO (g++[(0,d)]) (c.shift 1 0) (r.pick 0) hgd (by simpa using BD (OP hc (by omega) 1 (by omega)));have xs:x.sc (g.length+1):=by simpa using tx.sc
  refine ⟨.mk 20 0 [d,x],p,⟨N0+N1+N2+100000,fun n hn=>?_⟩,B9 (by decide) (by decide) (Bs (by decide) (by decide) (by decide)) hd.sc xs,by have:=tx.wt;have:=hd.wt;rw [Oi];omega,by have:=tx.dp;have:=hd.dp;rw [Q8];omega,fun hb=>up (by
   obtain ⟨oa,xa,ka⟩:=a;simp only [Tm.op,Tm.kids] at o16 hl;subst o16 hl;exact .olam e g _ d c x (tx.gr hb))⟩
  ·obtain ⟨n,rfl⟩:∃k,n=k+1:=⟨n - 1,by omega⟩;have h0:=h0 n (by omega);have h1:=h1 n (by omega);have h2:=h2 n (by omega);rw [← we] at h2;have hw:=Ar (n:=n) (by omega) r.op (m:=3) (by omega) (by omega);have p0:=AP (n:=n) (by omega) r 0;have hm:=C1 (n:=n) g 0 d (by omega) (by omega);have sh:=CW n c 1 0 (by have:=hc.wt;omega) (Fm _ _ hc.sc) (by omega) (by have:=hc.wt;omega);have t20:=C6 (n:=n) (by omega) 20 [d,x];rw [c35];clear up hfn hO hA hg ha0 ha tv tx hd hc hgd xs;generalize r.op % 3=w3 at hw hv hna;generalize c.shift 1 0=c1 at sh h2;generalize r.pick 0=r0 at p0 h2;obtain ⟨o0,x0,k0⟩:=a0;obtain ⟨o1,x1,k1⟩:=a;simp only [Tm.op,Tm.kids] at o16 hl;subst o16 hl;obtain ⟨o2,x2,k2⟩:=r;obtain ⟨o3,x3,k3⟩:=v;obtain ⟨o4,x4,k4⟩:=x;obtain ⟨o5,x5,k5⟩:=d;obtain ⟨o6,x6,k6⟩:=c;obtain ⟨o7,x7,k7⟩:=c1;obtain ⟨o8,x8,k8⟩:=r0;simp only [Tm.n,Tm.op] at h1 hw;simp only [Bm,Ai,AwV,AwU] at h0 h1 h2 p0 hm sh t20 ⊢;cases is<;>by_cases hd0:(0:Int)<(e:Int) - 5<;>(simp (maxSteps:=1000000) only [↓UU7,↓XX,XY,↓reduceIte,Nat.reduceBEq,Nat.reduceAdd,Int.reduceEq,Int.reduceLT,Int.reduceLE,↓Av h0,↓AK h1,↓Ag hw,hv,hd4,hd0,hna,↓Eg,↓Fk,↓Ag p0,↓AZ hm,↓AZ sh,↓AK h2,↓CY,↓Ag t20];first | exact Ao _ _ | exact AX rfl (by simp) _)
 by_cases o17:a.op=17
 ·obtain ⟨d,c,hl⟩:=YL (G5 ha (show ar a.op=some 2 by rw [o17];decide))
  have hd:NOk g.length d∧NOk g.length c:=by
   obtain ⟨o1,x1,k1⟩:=a;simp only [Tm.op,Tm.kids] at o17 hl;subst o17 hl;have hsc:=ha.sc;rw [Tm.sc] at hsc;rw [Oi] at aw;rw [Q8] at ad;exact ⟨⟨hsc.2.2.1,by omega,by omega⟩,⟨hsc.2.2.2.1,by omega,by omega⟩⟩
  obtain ⟨hd,hc⟩:=hd;obtain ⟨x,p,⟨N2,h2⟩,tx⟩:=hO g d (r.pick 0) (AT (by omega) hg) (BD hd);obtain ⟨y,q,⟨N3,h3⟩,ty⟩:=hO g c (r.pick 1) (AT (by omega) hg) (BD hc);refine ⟨.mk 22 0 [x,y],p && q,⟨N0+N1+N2+N3+100,fun n hn=>?_⟩,B9 (by decide) (by decide) (Bs (by decide) (by decide) (by decide)) tx.sc ty.sc,by have:=tx.wt;have:=ty.wt;rw [Oi];omega,by have:=tx.dp;have:=ty.dp;rw [Q8];omega,fun hb=>up (by
   obtain ⟨oa,xa,ka⟩:=a;simp only [Tm.op,Tm.kids] at o17 hl;subst o17 hl;exact .opair e g _ d c x y (tx.gr (Md hb)) (ty.gr (Kb hb)))⟩
  ·obtain ⟨n,rfl⟩:∃k,n=k+1:=⟨n - 1,by omega⟩;have h0:=h0 n (by omega);have h1:=h1 n (by omega);have h2:=h2 n (by omega);have h3:=h3 n (by omega);rw [← we] at h2 h3;have hw:=Ar (n:=n) (by omega) r.op (m:=3) (by omega) (by omega);have p0:=AP (n:=n) (by omega) r 0;have p1:=AP (n:=n) (by omega) r 1;have t22:=C6 (n:=n) (by omega) 22 [x,y];rw [c35];clear up hfn hO hA hg ha0 ha tv tx ty hd hc;generalize r.op % 3=w3 at hw hv hna;generalize r.pick 0=r0 at p0 h2;generalize r.pick 1=r1 at p1 h3;obtain ⟨o0,x0,k0⟩:=a0;obtain ⟨o1,x1,k1⟩:=a;simp only [Tm.op,Tm.kids] at o17 hl;subst o17 hl;obtain ⟨o2,x2,k2⟩:=r;obtain ⟨o3,x3,k3⟩:=v;obtain ⟨o4,x4,k4⟩:=x;obtain ⟨o5,x5,k5⟩:=d;obtain ⟨o6,x6,k6⟩:=c;obtain ⟨o7,x7,k7⟩:=y;obtain ⟨o8,x8,k8⟩:=r0;obtain ⟨o9,x9,k9⟩:=r1;simp only [Tm.n,Tm.op] at h1 hw;simp only [Bm,Ai,AwV,AwU] at h0 h1 h2 h3 p0 p1 t22 ⊢;cases is<;>by_cases hd0:(0:Int)<(e:Int) - 5<;>cases p<;>(simp (maxSteps:=1000000) only [↓UU7,↓XX,XY,↓reduceIte,Nat.reduceBEq,Nat.reduceAdd,Int.reduceEq,Int.reduceLT,Int.reduceLE,↓Av h0,↓AK h1,↓Ag hw,hv,hd4,hd0,hna,↓Eg,↓Fk,↓Ag p0,↓Ag p1,↓AK h2,↓AK h3,↓CY,↓Ag t22];first | exact Ao _ _ | exact AX rfl (by simp) _)
 refine ⟨v,is,⟨N0+N1+100,fun n hn=>?_⟩,tv⟩
 ·obtain ⟨n,rfl⟩:∃k,n=k+1:=⟨n - 1,by omega⟩;have h0:=h0 n (by omega);have h1:=h1 n (by omega);have hw:=Ar (n:=n) (by omega) r.op (m:=3) (by omega) (by omega);rw [c35];clear up hfn hO hA hg ha0 ha tv;generalize r.op % 3=w3 at hw hv hna;obtain ⟨o0,x0,k0⟩:=a0;obtain ⟨o1,x1,k1⟩:=a;obtain ⟨o2,x2,k2⟩:=r;obtain ⟨o3,x3,k3⟩:=v;simp only [Tm.n,Tm.op] at h1 hw o15 o16 o17;simp only [Bm,Ai] at h0 h1 ⊢;cases is<;>by_cases hd0:(0:Int)<(e:Int) - 5<;>(simp (maxSteps:=1000000) only [↓UU7,↓XX,XY,↓reduceIte,Nat.reduceBEq,Nat.reduceAdd,Int.reduceEq,Int.reduceLT,Int.reduceLE,↓Av h0,↓AK h1,↓Ag hw,hv,hd4,hd0,hna,o15,o16,o17];first | exact Ao _ _ | exact AX rfl (by simp) _)
set_option maxRecDepth 20000 in
set_option maxHeartbeats 8000000 in
theorem Akm {e:Nat} (he:e≤10) (hG:1≤e→Ee 23 1 (e - 1)) (hO:1≤e→Ee 35 2 (e - 1)) (hA:6≤e→Q4 48 3 e) (hP:1≤e→AgJ 49 3 e):Ee 23 1 e:=by
 intro g a0 r hg ha0;have hlen:=hg.len;have hW0:=Nz e;have hD0:200≤Dg e:=by unfold Dg;omega
 have hDm:Dg e≤300:=by unfold Dg;omega
 have hW10:=OM he;obtain ⟨a,er,⟨N0,h0⟩,hcase,fn,hfn⟩:=FZ (k:=g.length) (by omega) ha0.sc (by have:=ha0.dp;omega);rcases hcase with ⟨rfl,ha⟩ | ⟨her,rfl⟩
 case inr =>
  have hne:er≠0:=by omega
  refine ⟨.z,false,⟨N0+100,fun n hn=>?_⟩,Aot _,by simp only [Tm.z,Tm.wt,Tm.wtL];omega,by simp only [Tm.z,Tm.dp,Tm.dpL];omega,fun h=>by cases h⟩;obtain ⟨n,rfl⟩:∃k,n=k+1:=⟨n - 1,by omega⟩;have h0:=h0 n (by omega);rw [c23];clear hG hO hA hP hg ha0;obtain ⟨o1,x1,k1⟩:=a0;obtain ⟨o2,x2,k2⟩:=r;simp only [Bm,Tm.z,AwU,Ai] at h0 ⊢;simp (maxSteps:=1000000) only [↓ZJ,↓XX,XY,↓reduceIte,Nat.reduceBEq,Nat.reduceAdd,Int.reduceEq,Int.reduceLT,Int.reduceLE,↓Av h0,hne];first | exact Ao _ _ | exact AX rfl (by simp) _
 obtain ⟨v,is,⟨N1,h1⟩,tv0,hhit⟩:=Ni hg 1 ha r.n;have up:∀{t:Tm},Gr 3 e g a t→Gr 1 e g a0 t:=fun h=>.grow e g a0 a _ fn hfn (by omega) ha h;have tv:TG 1 e g a0 v is:=tg (Wa (Nat.zero_le _) tv0) (fun hb=>by
  obtain ⟨i,rfl,hi⟩:=hhit hb;exact up (.var1 e g a i hi))
 clear tv0 hhit;have aw:=ha.wt;have ad:=ha.dp;have hw3m:=Int.emod_nonneg r.op (show (3:Int)≠0 by decide)
 by_cases cv:is=true∧r.op % 3=0∨e=0
 ·refine ⟨v,is,⟨N0+N1+100,fun n hn=>?_⟩,tv⟩;obtain ⟨n,rfl⟩:∃k,n=k+1:=⟨n - 1,by omega⟩;have h0:=h0 n (by omega);have h1:=h1 n (by omega);have hw:=Ar (n:=n) (by omega) r.op (m:=3) (by omega) (by omega);rw [c23];clear up hfn hG hO hA hP hg ha0 ha tv;obtain ⟨o0,x0,k0⟩:=a0;obtain ⟨o1,x1,k1⟩:=a;obtain ⟨o2,x2,k2⟩:=r;obtain ⟨o3,x3,k3⟩:=v;simp only [Tm.n,Tm.op] at h1 hw cv;simp only [Bm,Ai] at h0 h1 ⊢;generalize o2 % 3=w3 at hw cv;rcases cv with ⟨rfl,rfl⟩ | rfl
  ·simp (maxSteps:=1000000) only [↓ZJ,↓XX,XY,↓reduceIte,Nat.reduceBEq,Nat.reduceAdd,Int.reduceEq,Int.reduceLT,Int.reduceLE,↓Av h0,↓AK h1,↓Ag hw];first | exact Ao _ _ | exact AX rfl (by simp) _
  ·have hd4:((0:Nat):Int) - 5 < -4:=by omega
   cases is
   ·simp (maxSteps:=1000000) only [↓ZJ,↓XX,XY,↓reduceIte,Nat.reduceBEq,Nat.reduceAdd,Int.reduceEq,Int.reduceLT,Int.reduceLE,↓Av h0,↓AK h1,↓Ag hw,hd4,Int.reduceSub,Int.reduceLT,Int.reduceNeg];first | exact Ao _ _ | exact AX rfl (by simp) _
   ·by_cases h3:w3=0
    ·simp (maxSteps:=1000000) only [↓ZJ,↓XX,XY,↓reduceIte,Nat.reduceBEq,Nat.reduceAdd,Int.reduceEq,Int.reduceLT,Int.reduceLE,↓Av h0,↓AK h1,↓Ag hw,h3,hd4,Int.reduceSub,Int.reduceLT,Int.reduceNeg];first | exact Ao _ _ | exact AX rfl (by simp) _
    ·simp (maxSteps:=1000000) only [↓ZJ,↓XX,XY,↓reduceIte,Nat.reduceBEq,Nat.reduceAdd,Int.reduceEq,Int.reduceLT,Int.reduceLE,↓Av h0,↓AK h1,↓Ag hw,h3,hd4,Int.reduceSub,Int.reduceLT,Int.reduceNeg];first | exact Ao _ _ | exact AX rfl (by simp) _
 have he1:1≤e:=by omega
 have hd4:¬ (e:Int) - 5 < -4:=by omega
 have hv:is=true→¬ r.op % 3=0:=fun h1 h2=>cv (.inl ⟨h1,h2⟩);have hW1:Wg e=4 * Wg (e - 1):=by
  obtain ⟨f,rfl⟩:∃f,e=f+1:=⟨e - 1,by omega⟩;rw [Nu,Nat.add_sub_cancel]
 have hW01:=Nz (e - 1);have hD1:Dg e=Dg (e - 1)+10:=by unfold Dg;omega
 have hD01:200≤Dg (e - 1):=by unfold Dg;omega
 have we:BI ((e:Int) - 5 - 1)=((e - 1:Nat):Int) - 5:=by rw [As (by omega) (by omega)];omega
 have hO:=hO he1;have hG:=hG he1;have hP:=hP he1;by_cases ca:6≤e∧r.op % 7=6
 ·obtain ⟨t,b,⟨N2,h2⟩,tt⟩:=hA ca.1 g a r hg ha;refine ⟨t,b,⟨N0+N1+N2+100,fun n hn=>?_⟩,AfQ tt up⟩;obtain ⟨n,rfl⟩:∃k,n=k+1:=⟨n - 1,by omega⟩;have h0:=h0 n (by omega);have h1:=h1 n (by omega);have h2:=h2 n (by omega);have hw:=Ar (n:=n) (by omega) r.op (m:=3) (by omega) (by omega);have hw7:=Ar (n:=n) (by omega) r.op (m:=7) (by omega) (by omega);rw [ca.2] at hw7;have hd0:(0:Int)<(e:Int) - 5:=by omega
  rw [c23];clear up hfn hG hO hA hP hg ha0 ha tv tt;generalize r.op % 3=w3 at hw hv;obtain ⟨o0,x0,k0⟩:=a0;obtain ⟨o1,x1,k1⟩:=a;obtain ⟨o2,x2,k2⟩:=r;obtain ⟨o3,x3,k3⟩:=v;obtain ⟨o4,x4,k4⟩:=t;simp only [Tm.n,Tm.op] at h1 hw hw7;simp only [Bm,Ai] at h0 h1 h2 ⊢;cases is<;>(simp (maxSteps:=1000000) only [↓ZJ,↓XX,XY,↓reduceIte,Nat.reduceBEq,Nat.reduceAdd,Int.reduceEq,Int.reduceLT,Int.reduceLE,↓Av h0,↓AK h1,↓Ag hw,↓Ag hw7,hv,hd4,hd0,↓AK h2];first | exact Ao _ _ | exact AX rfl (by simp) _)
 have hna:(0:Int)<(e:Int) - 5→¬ r.op % 7=6:=by omega
 by_cases hpl:a.op=10∨a.op=14∨a.op=2
 ·obtain ⟨t,b,⟨N2,h2⟩,tt⟩:=hP g a r hg ha hpl;refine ⟨t,b,⟨N0+N1+N2+100,fun n hn=>?_⟩,AfQ tt up⟩
  ·obtain ⟨n,rfl⟩:∃k,n=k+1:=⟨n - 1,by omega⟩;have h0:=h0 n (by omega);have h1:=h1 n (by omega);have h2:=h2 n (by omega);have hw:=Ar (n:=n) (by omega) r.op (m:=3) (by omega) (by omega);have hw7:=Ar (n:=n) (by omega) r.op (m:=7) (by omega) (by omega);rw [c23];clear up hfn hG hO hA hP hg ha0 ha tv tt;generalize r.op % 3=w3 at hw hv;generalize r.op % 7=w7 at hw7 hna;obtain ⟨o0,x0,k0⟩:=a0;obtain ⟨o1,x1,k1⟩:=a;obtain ⟨o2,x2,k2⟩:=r;obtain ⟨o3,x3,k3⟩:=v;obtain ⟨o4,x4,k4⟩:=t;simp only [Tm.n,Tm.op] at h1 hw hw7 hpl;simp only [Bm,Ai] at h0 h1 h2 ⊢;rcases hpl with rfl | rfl | rfl
   ·cases is<;>by_cases hd0:(0:Int)<(e:Int) - 5<;>(simp (maxSteps:=1000000) only [↓ZJ,↓XX,XY,↓reduceIte,Nat.reduceBEq,Nat.reduceAdd,Int.reduceEq,Int.reduceLT,Int.reduceLE,↓Av h0,↓AK h1,↓Ag hw,↓Ag hw7,hv,hd4,hd0,hna,↓AK h2];first | exact Ao _ _ | exact AX rfl (by simp) _)
   ·cases is<;>by_cases hd0:(0:Int)<(e:Int) - 5<;>(simp (maxSteps:=1000000) only [↓ZJ,↓XX,XY,↓reduceIte,Nat.reduceBEq,Nat.reduceAdd,Int.reduceEq,Int.reduceLT,Int.reduceLE,↓Av h0,↓AK h1,↓Ag hw,↓Ag hw7,hv,hd4,hd0,hna,↓AK h2];first | exact Ao _ _ | exact AX rfl (by simp) _)
   ·cases is<;>by_cases hd0:(0:Int)<(e:Int) - 5<;>(simp (maxSteps:=1000000) only [↓ZJ,↓XX,XY,↓reduceIte,Nat.reduceBEq,Nat.reduceAdd,Int.reduceEq,Int.reduceLT,Int.reduceLE,↓Av h0,↓AK h1,↓Ag hw,↓Ag hw7,hv,hd4,hd0,hna,↓AK h2];first | exact Ao _ _ | exact AX rfl (by simp) _)
 by_cases o3:a.op=3
 ·obtain ⟨d,c,hl⟩:=YL (G5 ha (show ar a.op=some 2 by rw [o3];decide))
  have hd:NOk g.length d∧NOk (g.length+1) c:=by
   obtain ⟨o1,x1,k1⟩:=a;simp only [Tm.op,Tm.kids] at o3 hl;subst o3 hl;have hsc:=ha.sc;rw [Tm.sc] at hsc;rw [Oi] at aw;rw [Q8] at ad;exact ⟨⟨hsc.2.2.1,by omega,by omega⟩,⟨hsc.2.2.2.1,by omega,by omega⟩⟩
  obtain ⟨hd,hc⟩:=hd;have hgd:GOk (e - 1) (g++[(1,d)]):=CC (by rw [show e - 1+1=e by omega];exact hg) hd.sc (by have:=hd.wt;omega) (by have:=hd.dp;omega)
  obtain ⟨x,p,⟨N2,h2⟩,tx⟩:=hG (g++[(1,d)]) c (r.pick 0) hgd (by simpa using BD hc);have xs:x.sc (g.length+1):=by simpa using tx.sc
  refine ⟨.mk 4 0 [d,x],p,⟨N0+N1+N2+100000,fun n hn=>?_⟩,B9 (by decide) (by decide) (Bs (by decide) (by decide) (by decide)) hd.sc xs,by have:=tx.wt;have:=hd.wt;rw [Oi];omega,by have:=tx.dp;have:=hd.dp;rw [Q8];omega,fun hb=>up (by
   obtain ⟨oa,xa,ka⟩:=a;simp only [Tm.op,Tm.kids] at o3 hl;subst o3 hl;exact .lam e g _ d c x (tx.gr hb))⟩
  ·obtain ⟨n,rfl⟩:∃k,n=k+1:=⟨n - 1,by omega⟩;have h0:=h0 n (by omega);have h1:=h1 n (by omega);have h2:=h2 n (by omega);rw [← we] at h2;have hw:=Ar (n:=n) (by omega) r.op (m:=3) (by omega) (by omega);have hw7:=Ar (n:=n) (by omega) r.op (m:=7) (by omega) (by omega);have p0:=AP (n:=n) (by omega) r 0;have hm:=C1 (n:=n) g 1 d (by omega) (by omega);have t4:=C6 (n:=n) (by omega) 4 [d,x];rw [c23];clear up hfn hG hO hA hP hg ha0 ha tv tx hd hc hgd xs hpl;generalize r.op % 3=w3 at hw hv;generalize r.op % 7=w7 at hw7 hna;generalize r.pick 0=r0 at p0 h2;obtain ⟨o0,x0,k0⟩:=a0;obtain ⟨o1,x1,k1⟩:=a;simp only [Tm.op,Tm.kids] at o3 hl;subst o3 hl;obtain ⟨o2,x2,k2⟩:=r;obtain ⟨o3,x3,k3⟩:=v;obtain ⟨o4,x4,k4⟩:=x;obtain ⟨o5,x5,k5⟩:=d;obtain ⟨o6,x6,k6⟩:=c;obtain ⟨o8,x8,k8⟩:=r0;simp only [Tm.n,Tm.op] at h1 hw hw7;simp only [Bm,Ai,AwV,AwU] at h0 h1 h2 p0 hm t4 ⊢;cases is<;>by_cases hd0:(0:Int)<(e:Int) - 5<;>(simp (maxSteps:=1000000) only [↓ZJ,↓XX,XY,↓reduceIte,Nat.reduceBEq,Nat.reduceAdd,Int.reduceEq,Int.reduceLT,Int.reduceLE,↓Av h0,↓AK h1,↓Ag hw,↓Ag hw7,hv,hd4,hd0,hna,↓Eg,↓Fk,↓Ag p0,↓AZ hm,↓AK h2,↓CY,↓Ag t4];first | exact Ao _ _ | exact AX rfl (by simp) _)
 by_cases o6:a.op=6
 ·obtain ⟨d,c,hl⟩:=YL (G5 ha (show ar a.op=some 2 by rw [o6];decide))
  have hd:NOk g.length d∧NOk (g.length+1) c:=by
   obtain ⟨o1,x1,k1⟩:=a;simp only [Tm.op,Tm.kids] at o6 hl;subst o6 hl;have hsc:=ha.sc;rw [Tm.sc] at hsc;rw [Oi] at aw;rw [Q8] at ad;exact ⟨⟨hsc.2.2.1,by omega,by omega⟩,⟨hsc.2.2.2.1,by omega,by omega⟩⟩
  obtain ⟨hd,hc⟩:=hd;obtain ⟨x,p,⟨N2,h2⟩,tx⟩:=hG g d (r.pick 0) (AT (by omega) hg) (BD hd);cases p
  ·refine ⟨v,is,⟨N0+N1+N2+100,fun n hn=>?_⟩,tv⟩;obtain ⟨n,rfl⟩:∃k,n=k+1:=⟨n - 1,by omega⟩;have h0:=h0 n (by omega);have h1:=h1 n (by omega);have h2:=h2 n (by omega);rw [← we] at h2;have hw:=Ar (n:=n) (by omega) r.op (m:=3) (by omega) (by omega);have hw7:=Ar (n:=n) (by omega) r.op (m:=7) (by omega) (by omega);have p0:=AP (n:=n) (by omega) r 0;rw [c23];clear up hfn hG hO hA hP hg ha0 ha tv tx hd hc hpl;generalize r.op % 3=w3 at hw hv;generalize r.op % 7=w7 at hw7 hna;generalize r.pick 0=r0 at p0 h2;obtain ⟨o0,x0,k0⟩:=a0;obtain ⟨o1,x1,k1⟩:=a;simp only [Tm.op,Tm.kids] at o6 hl;subst o6 hl;obtain ⟨o2,x2,k2⟩:=r;obtain ⟨o3,x3,k3⟩:=v;obtain ⟨o4,x4,k4⟩:=x;obtain ⟨o5,x5,k5⟩:=d;obtain ⟨o6,x6,k6⟩:=c;obtain ⟨o8,x8,k8⟩:=r0;simp only [Tm.n,Tm.op] at h1 hw hw7;simp only [Bm,Ai,AwV,AwU] at h0 h1 h2 p0 ⊢;cases is<;>by_cases hd0:(0:Int)<(e:Int) - 5<;>(simp (maxSteps:=1000000) only [↓ZJ,↓XX,XY,↓reduceIte,Nat.reduceBEq,Nat.reduceAdd,Int.reduceEq,Int.reduceLT,Int.reduceLE,↓Av h0,↓AK h1,↓Ag hw,↓Ag hw7,hv,hd4,hd0,hna,↓Eg,↓Fk,↓Ag p0,↓AK h2];first | exact Ao _ _ | exact AX rfl (by simp) _)
  ·have hss:AOk g.length (c.subst 0 0 x):=by
    have xw:=tx.wt;have xd:=tx.dp;have cw:=hc.wt;have cd:=hc.dp;have h1:=P1 c x 0 0;have h2:=VM c x 0 0;have h3:c.wt * x.wt≤3000 * 21000000000:=Nat.mul_le_mul cw (by omega);exact ⟨PU c x 0 g.length hc.sc tx.sc (by omega),by omega,by omega⟩
   obtain ⟨y,q,⟨N3,h3⟩,ty⟩:=hG g (c.subst 0 0 x) (r.pick 1) (AT (by omega) hg) hss;refine ⟨.mk 7 0 [a,x,y],q,⟨N0+N1+N2+N3+1000000000000,fun n hn=>?_⟩,R5 (by decide) (by decide) (Bs (by decide) (by decide) (by decide)) ha.sc tx.sc ty.sc,by have:=tx.wt;have:=ty.wt;rw [wt3];omega,by have:=tx.dp;have:=ty.dp;rw [dp3];omega,fun hb=>up (by
   obtain ⟨oa,xa,ka⟩:=a;simp only [Tm.op,Tm.kids] at o6 hl;subst o6 hl;exact .pair e g _ d c x y (Ajp tx (by omega)) (tx.gr rfl) (ty.gr hb))⟩
   obtain ⟨n,rfl⟩:∃k,n=k+1:=⟨n - 1,by omega⟩;have h0:=h0 n (by omega);have h1:=h1 n (by omega);have h2:=h2 n (by omega);have h3:=h3 n (by omega);rw [← we] at h2 h3;have hw:=Ar (n:=n) (by omega) r.op (m:=3) (by omega) (by omega);have hw7:=Ar (n:=n) (by omega) r.op (m:=7) (by omega) (by omega);have p0:=AP (n:=n) (by omega) r 0;have p1:=AP (n:=n) (by omega) r 1;have hsb:=Vj (n:=n) c x 0 (Fm _ _ tx.sc) (by have:=tx.wt;omega) (by have:=tx.wt;have:=hc.wt;omega) (Fm _ _ hc.sc) (by have:=hc.wt;omega) (by omega) (by have:=hc.wt;omega);have t7:=C6 (n:=n) (by omega) 7 [a,x,y];rw [c23];clear up hfn hG hO hA hP hg ha0 ha tv tx ty hd hc hpl hss;generalize r.op % 3=w3 at hw hv;generalize r.op % 7=w7 at hw7 hna;generalize c.subst 0 0 x=sb at hsb h3;generalize r.pick 0=r0 at p0 h2;generalize r.pick 1=r1 at p1 h3;obtain ⟨o0,x0,k0⟩:=a0;obtain ⟨o1,x1,k1⟩:=a;simp only [Tm.op,Tm.kids] at o6 hl;subst o6 hl;obtain ⟨o2,x2,k2⟩:=r;obtain ⟨o3,x3,k3⟩:=v;obtain ⟨o4,x4,k4⟩:=x;obtain ⟨o5,x5,k5⟩:=d;obtain ⟨o6,x6,k6⟩:=c;obtain ⟨o7,x7,k7⟩:=y;obtain ⟨o8,x8,k8⟩:=r0;obtain ⟨o9,x9,k9⟩:=r1;obtain ⟨oa,xa,ka⟩:=sb;simp only [Tm.n,Tm.op] at h1 hw hw7;simp only [Bm,Ai,AwV,AwU] at h0 h1 h2 h3 p0 p1 hsb t7 ⊢;cases is<;>by_cases hd0:(0:Int)<(e:Int) - 5<;>(simp (maxSteps:=1000000) only [↓ZJ,↓XX,XY,↓reduceIte,Nat.reduceBEq,Nat.reduceAdd,Int.reduceEq,Int.reduceLT,Int.reduceLE,↓Av h0,↓AK h1,↓Ag hw,↓Ag hw7,hv,hd4,hd0,hna,↓Eg,↓Fk,↓Ag p0,↓Ag p1,↓AK h2,↓AZ hsb,↓AK h3,↓Im,↓Ag t7];first | exact Ao _ _ | exact AX rfl (by simp) _)
 by_cases o18:a.op=18
 ·obtain ⟨d,hl⟩:=Asg (G5 ha (show ar a.op=some 1 by rw [o18];decide))
  have hd:NOk g.length d:=by
   obtain ⟨o1,x1,k1⟩:=a;simp only [Tm.op,Tm.kids] at o18 hl;subst o18 hl;have hsc:=ha.sc;rw [Tm.sc] at hsc;rw [wt1] at aw;rw [dp1] at ad;exact ⟨hsc.2.2.1,by omega,by omega⟩
  obtain ⟨x,p,⟨N2,h2⟩,tx⟩:=hO g d (r.pick 0) (AT (by omega) hg) (BD hd);refine ⟨.mk 19 0 [x],p,⟨N0+N1+N2+100,fun n hn=>?_⟩,El (by decide) (by decide) (Bs (by decide) (by decide) (by decide)) tx.sc,by have:=tx.wt;rw [wt1];omega,by have:=tx.dp;rw [dp1];omega,fun hb=>up (by
   obtain ⟨oa,xa,ka⟩:=a;simp only [Tm.op,Tm.kids] at o18 hl;subst o18 hl;exact .quo e g _ d x (tx.gr hb))⟩
  ·obtain ⟨n,rfl⟩:∃k,n=k+1:=⟨n - 1,by omega⟩;have h0:=h0 n (by omega);have h1:=h1 n (by omega);have h2:=h2 n (by omega);rw [← we] at h2;have hw:=Ar (n:=n) (by omega) r.op (m:=3) (by omega) (by omega);have hw7:=Ar (n:=n) (by omega) r.op (m:=7) (by omega) (by omega);have p0:=AP (n:=n) (by omega) r 0;have t19:=C6 (n:=n) (by omega) 19 [x];rw [c23];clear up hfn hG hO hA hP hg ha0 ha tv tx hd hpl;generalize r.op % 3=w3 at hw hv;generalize r.op % 7=w7 at hw7 hna;generalize r.pick 0=r0 at p0 h2;obtain ⟨o0,x0,k0⟩:=a0;obtain ⟨o1,x1,k1⟩:=a;simp only [Tm.op,Tm.kids] at o18 hl;subst o18 hl;obtain ⟨o2,x2,k2⟩:=r;obtain ⟨o3,x3,k3⟩:=v;obtain ⟨o4,x4,k4⟩:=x;obtain ⟨o5,x5,k5⟩:=d;obtain ⟨o8,x8,k8⟩:=r0;simp only [Tm.n,Tm.op] at h1 hw hw7;simp only [Bm,Ai,AwV,AwU] at h0 h1 h2 p0 t19 ⊢;cases is<;>by_cases hd0:(0:Int)<(e:Int) - 5<;>(simp (maxSteps:=1000000) only [↓ZJ,↓XX,XY,↓reduceIte,Nat.reduceBEq,Nat.reduceAdd,Int.reduceEq,Int.reduceLT,Int.reduceLE,↓Av h0,↓AK h1,↓Ag hw,↓Ag hw7,hv,hd4,hd0,hna,↓Eg,↓Ag p0,↓AK h2,↓Ec,↓Ag t19];first | exact Ao _ _ | exact AX rfl (by simp) _)
 have q1:a.op≠10:=fun h=>hpl (.inl h);have q2:a.op≠14:=fun h=>hpl (.inr (.inl h));have q3:a.op≠2:=fun h=>hpl (.inr (.inr h));refine ⟨v,is,⟨N0+N1+100,fun n hn=>?_⟩,tv⟩
 ·obtain ⟨n,rfl⟩:∃k,n=k+1:=⟨n - 1,by omega⟩;have h0:=h0 n (by omega);have h1:=h1 n (by omega);have hw:=Ar (n:=n) (by omega) r.op (m:=3) (by omega) (by omega);have hw7:=Ar (n:=n) (by omega) r.op (m:=7) (by omega) (by omega);rw [c23];clear up hfn hG hO hA hP hg ha0 ha tv hpl;generalize r.op % 3=w3 at hw hv;generalize r.op % 7=w7 at hw7 hna;obtain ⟨o0,x0,k0⟩:=a0;obtain ⟨o1,x1,k1⟩:=a;obtain ⟨o2,x2,k2⟩:=r;obtain ⟨o4,x3,k3⟩:=v;simp only [Tm.n,Tm.op] at h1 hw hw7 o3 o6 o18 q1 q2 q3;simp only [Bm,Ai] at h0 h1 ⊢;cases is<;>by_cases hd0:(0:Int)<(e:Int) - 5<;>(simp (maxSteps:=1000000) only [↓ZJ,↓XX,XY,↓reduceIte,Nat.reduceBEq,Nat.reduceAdd,Int.reduceEq,Int.reduceLT,Int.reduceLE,↓Av h0,↓AK h1,↓Ag hw,↓Ag hw7,hv,hd4,hd0,hna,o3,o6,o18,q1,q2,q3];first | exact Ao _ _ | exact AX rfl (by simp) _)
theorem PW:∀e,e≤10→M5 e∧Ee 23 1 e∧Ee 35 2 e:=by
 intro e
 induction e using Nat.strongRecOn with
 | _ e ih =>
  intro he;have hp:1≤e→M5 (e - 1)∧Ee 23 1 (e - 1)∧Ee 35 2 (e - 1):=fun h=>ih (e - 1) (by omega) (by omega);have hp2:2≤e→M5 (e - 2)∧Ee 23 1 (e - 2)∧Ee 35 2 (e - 2):=fun h=>ih (e - 2) (by omega) (by omega);have hT:M5 e:=Ako he (fun h=>(hp (by omega)).1) (fun h=>(hp (by omega)).2.1);have hT6:6≤e→M5 6:=fun h=>by
   by_cases h6:e=6
   ·exact h6 ▸ hT
   ·exact (ih 6 (by omega) (by omega)).1
  have hR:6≤e→Q4 48 3 e:=fun h=>Aho h he (hT6 h) (hp2 (by omega)).2.1;have hP:1≤e→AgJ 49 3 e:=fun h=>Agn h he (hp h).2.1 (fun h6=>(hp2 (by omega)).2.1);have hA:6≤e→Q4 53 4 e:=fun h=>AfF h he (hp2 (by omega)).2.2 (hp (by omega)).2.1;have hO:Ee 35 2 e:=Afy he (fun h=>(hp h).2.2) hA;exact ⟨hT,Akm he (fun h=>(hp h).2.1) (fun h=>(hp h).2.2) hR hP,hO⟩
def L1 (op:Int):Int:=if op<0 then -1 else ([-1,0,0,2,2,2,2,3,1,1,0,0,1,4,0,0,2,2,1,1,2,2,2,1,1,0,2,3,2,2,1]:List Int).getD op.toNat (-1)
theorem Wi (op:Int):(0≤op∧op≤30)∨op<0∨30<op:=by omega
theorem Qr {op:Int} (h:op<0∨30<op):L1 op=-1:=by
 unfold L1;split
 ·rfl
 ·rw [List.getD_eq_getElem?_getD,List.getElem?_eq_none (by simp;omega)];rfl
theorem Ama {P:Int→Prop} (h:∀k:Nat,k<31→P k) {op:Int} (h1:0≤op∧op≤30):P op:=by
 have:=h op.toNat (by omega)
 rwa [Int.toNat_of_nonneg h1.1] at this
theorem Ajc {n:Nat} (hn:0<n) (op:Int):Bc (SS dt n 61 [iv op] ⟨[],[]⟩) (.int .i64 (L1 op)):=by
 obtain ⟨n,rfl⟩:∃k,n=k+1:=⟨n - 1,by omega⟩;rw [c61];rcases Wi op with h | h
 ·revert op
  refine fun op h=>Ama (P:=fun op=>Bc (S61 (SS dt n) n (iv op) ⟨[],[]⟩) (.int .i64 (L1 op))) ?_ h;intro k hk;rcases k with _ | k
  ·simp only [UD,SC,SL,UF,Sc,R0,Uf,Ro,Rv,Ts,Ul,RO,Re,RW,Sw,SY,TZ,UM,S61,↓XX,XY,↓reduceIte,Nat.reduceBEq,Nat.reduceAdd,Int.reduceEq,Int.reduceLT,Int.reduceLE];exact Ao _ _
  iterate 30 (rcases k with _ | k;· simp only [UD,SC,SL,UF,Sc,R0,Uf,Ro,Rv,Ts,Ul,RO,Re,RW,Sw,SY,TZ,UM,S61,↓XX,XY,↓reduceIte,Nat.reduceBEq,Nat.reduceAdd,Int.reduceEq,Int.reduceLT,Int.reduceLE];exact Ao _ _)
  omega
 ·rw [Qr h];have q1:op≠1:=by omega
  have q2:op≠2:=by omega
  have q3:op≠3:=by omega
  have q4:op≠4:=by omega
  have q5:op≠5:=by omega
  have q6:op≠6:=by omega
  have q7:op≠7:=by omega
  have q8:op≠8:=by omega
  have q9:op≠9:=by omega
  have q10:op≠10:=by omega
  have q11:op≠11:=by omega
  have q12:op≠12:=by omega
  have q13:op≠13:=by omega
  have q14:op≠14:=by omega
  have q15:op≠15:=by omega
  have q16:op≠16:=by omega
  have q17:op≠17:=by omega
  have q18:op≠18:=by omega
  have q19:op≠19:=by omega
  have q20:op≠20:=by omega
  have q21:op≠21:=by omega
  have q22:op≠22:=by omega
  have q23:op≠23:=by omega
  have q24:op≠24:=by omega
  have q25:op≠25:=by omega
  have q26:op≠26:=by omega
  have q27:op≠27:=by omega
  have q28:op≠28:=by omega
  have q29:op≠29:=by omega
  have q30:op≠30:=by omega
  simp only [UD,SC,SL,UF,Sc,R0,Uf,Ro,Rv,Ts,Ul,RO,Re,RW,Sw,SY,TZ,UM,S61,↓XX,XY,↓reduceIte,Nat.reduceBEq,Nat.reduceAdd,Int.reduceEq,Int.reduceLT,Int.reduceLE,q1,q2,q3,q4,q5,q6,q7,q8,q9,q10,q11,q12,q13,q14,q15,q16,q17,q18,q19,q20,q21,q22,q23,q24,q25,q26,q27,q28,q29,q30];exact Ao _ _
def AjS (op n:Int):Bool:=if op=1 then decide (0≤n) && decide (n≤3000) else if op=2 then decide (0≤n) && decide (n≤2) else if op=26 then decide (0≤n) && decide (n≤4) else if op=25 then true else decide (n=0)
theorem Afq {n:Nat} (hn:0<n) (op m:Int):Bc (SS dt n 62 [iv op,iv m] ⟨[],[]⟩) (.bool (AjS op m)):=by
 obtain ⟨n,rfl⟩:∃k,n=k+1:=⟨n - 1,by omega⟩;rw [c62];unfold AjS;by_cases h1:op=1
 ·by_cases h0:0≤m<;>simp only [↓AfX,↓XX,XY,↓reduceIte,Nat.reduceBEq,Nat.reduceAdd,Int.reduceEq,Int.reduceLT,Int.reduceLE,h0,h1]<;>exact Ao _ _
 by_cases h2:op=2
 ·by_cases h0:0≤m<;>simp only [↓AfX,↓XX,XY,↓reduceIte,Nat.reduceBEq,Nat.reduceAdd,Int.reduceEq,Int.reduceLT,Int.reduceLE,h0,h2]<;>exact Ao _ _
 by_cases h3:op=26
 ·by_cases h0:0≤m<;>simp only [↓AfX,↓XX,XY,↓reduceIte,Nat.reduceBEq,Nat.reduceAdd,Int.reduceEq,Int.reduceLT,Int.reduceLE,h0,h3]<;>exact Ao _ _
 by_cases h4:op=25
 ·simp only [↓AfX,↓XX,XY,↓reduceIte,Nat.reduceBEq,Nat.reduceAdd,Int.reduceEq,Int.reduceLT,Int.reduceLE,h4];exact Ao _ _
 simp only [↓AfX,↓XX,XY,↓reduceIte,Nat.reduceBEq,Nat.reduceAdd,Int.reduceEq,Int.reduceLT,Int.reduceLE,h1,h2,h3,h4];exact Ao _ _
mutual
def Tm.chk:Tm→Int→Int→Int×Int
 | .mk op m l,n,d=>if 3000<n+1∨120<d then (n+1,5) else if L1 op≠(l.length:Int)∨AjS op m=false then (n+1,1) else Tm.chkL l (n+1) (d+1)
def Tm.chkL:List Tm→Int→Int→Int×Int
 | [],n,_=>(n,0)
 | t::l,n,d=>if (t.chk n d).2=0 then Tm.chkL l (t.chk n d).1 d else t.chk n d
end
mutual
theorem AfS:∀(t:Tm) (n d:Int),n≤3000→n≤(t.chk n d).1∧(t.chk n d).1≤3001∧((t.chk n d).2=0→(t.chk n d).1=n+t.wt∧(t.chk n d).1≤3000∧d≤120)
 | .mk op m l,n,d,hn=>by
  rw [Tm.chk];split
  ·simp;omega
  ·split
   ·simp;omega
   ·have:=chkL_b l (n+1) (d+1) (by omega)
    simp only [Tm.wt];omega
theorem chkL_b:∀(l:List Tm) (n d:Int),n≤3000→n≤(Tm.chkL l n d).1∧(Tm.chkL l n d).1≤3001∧((Tm.chkL l n d).2=0→(Tm.chkL l n d).1=n+Tm.wtL l∧(Tm.chkL l n d).1≤3000)
 | [],n,d,hn=>by simp [Tm.chkL,Tm.wtL];omega
 | t::l,n,d,hn=>by
  have h1:=AfS t n d hn;rw [Tm.chkL];split
  ·rename_i h0;have h2:=chkL_b l (t.chk n d).1 d (by omega);simp only [Tm.wtL];omega
  ·rename_i h0;simp only [Tm.wtL];omega
end
abbrev HW (op m:Int) (ks:List Tm) (N E:Int):Hp:=⟨[(54525952,.row [iv op,iv m,.fv (.sl (ks.map Tm.enc))] false)],[.row [iv N,iv E] false]⟩
theorem Ais (op:Int):L1 op≤4:=by
 rcases Wi op with h | h
 ·exact Ama (P:=fun op=>L1 op≤4) (by
                         intro k hk;have:∀k:Fin 31,L1 (k.val:Int)≤4:=by decide
                         exact this ⟨k,hk⟩) h
 ·rw [Qr h];omega
theorem AjT:∀(n:Nat) (t:Tm) (N d:Int),2 * t.wt+2<n→0≤N→N≤3000→0≤d→d≤121 →
  Bx (SS dt n 52 [.ptr (.ext 0) 0,.fv t.enc,iv d] ⟨[],[.row [iv N,iv 0] false]⟩) (.tuple []) [.row [iv (t.chk N d).1,iv (t.chk N d).2] false]:=by
 intro n
 induction n using Nat.strongRecOn with
 | ind n ih =>
  intro t N d hn h0 hN hd0 hd;obtain ⟨op,m,ks⟩:=t;simp only [Tm.wt] at hn;obtain ⟨n,rfl⟩:∃k,n=k+1:=⟨n - 1,by omega⟩;rw [c52,Ai];have hlen:=Db ks;have hw:BI (N+1)=N+1:=by rw [As]<;>omega
  have hwd:BI (d+1)=d+1:=by rw [As]<;>omega
  have ha:=Ajc (n:=n) (by omega) op;have hb:=Afq (n:=n) (by omega) op m;have hl:∀(N' E':Int) (r:Int×Int),N'≤3000∨E'≠0→0≤N'→(E'=0→ks.length≤4∧r=Tm.chkL ks N' (d+1)∧d≤120)→(E'≠0→r=(N',E')) →
    Bx (BE n (fun q20 l21 h22=>Kl l21 h22 (SS dt n) q20) [.ptr (.ext 0) 0,iv d,.ptr (.own 54525952) 0,iv 0] (HW op m ks N' E')) (.tuple []) [.row [iv r.1,iv r.2] false]:=by
   intro N' E' r hN' hN0 h1 h2;refine A6 (Q:=fun r'=>Bx r' _ _) (fun k V H=>∃pre rest N2 E2,ks=pre++rest∧rest.length=k∧V=[.ptr (.ext 0) 0,iv d,.ptr (.own 54525952) 0,iv pre.length]∧H=HW op m ks N2 E2 ∧
    0≤N2∧(E2=0→N2≤3000∧ks.length≤4∧r=Tm.chkL rest N2 (d+1)∧d≤120)∧(E2≠0→r=(N2,E2))) ?_ n ks.length _ _ (by omega) ⟨[],ks,N',E',rfl,rfl,rfl,rfl,hN0,fun e=>⟨by rcases hN' with h | h;exact h;exact absurd e h,h1 e⟩,h2⟩
   rintro k V H rec ⟨pre,rest,N2,E2,hk,hkl,rfl,rfl,hN2,hok,hbad⟩ hrec;have hkk:ks.length=pre.length+rest.length:=by rw [hk];simp
   cases rest with
   | nil =>
    have hno:¬ ((pre.length:Int)<ks.length):=by rw [hkk];simp
    have:r=(N2,E2):=by
     by_cases he:E2=0
     ·rw [(hok he).2.2.1,he];rfl
     ·exact hbad he
    rw [this];simp only [LW,KG,Lo,KF,Kl,LY,K6,Lu,LC,KI,LD,LK,KQ,K8,Lt,S52,↓XX,XY,↓reduceIte,Nat.reduceBEq,Nat.reduceAdd,Int.reduceEq,Int.reduceLT,Int.reduceLE,hno];exact Fl rfl _ _
   | cons t rest =>
    have hi:(pre.length:Int)<ks.length:=by rw [hkk];simp;omega
    by_cases he:E2=0
    ·subst he;obtain ⟨hb1,hb2,hr,hd2⟩:=hok rfl;have hg:=Ce hk;have htw:=BN (t:=t) (l:=ks) (by rw [hk];simp);have hc:=ih n (by omega) t N2 (d+1) (by omega) hN2 hb1 (by omega) (by omega);have hcb:=AfS t N2 (d+1) hb1;have hwi:BI ((pre.length:Int)+1)=((pre++[t]).length:Int):=(As (by omega) (by omega)).trans (by simp);rw [Tm.chkL] at hr;have h9:=hrec rest.length [.ptr (.ext 0) 0,iv d,.ptr (.own 54525952) 0,iv (pre++[t]).length] (HW op m ks (t.chk N2 (d+1)).1 (t.chk N2 (d+1)).2) (by simp only [AwT] at hkl;omega)
      ⟨pre++[t],rest,_,_,by rw [hk];simp,rfl,rfl,rfl,by omega,fun e=>⟨(hcb.2.2 e).2.1,hb2,by rw [hr,if_pos e],hd2⟩,fun e=>by rw [hr,if_neg e]⟩
     generalize t.chk N2 (d+1)=q at hc h9;obtain ⟨o,p,l⟩:=t;rw [Ai] at hc;simp only [LW,KG,Lo,KF,Kl,LY,K6,Lu,LC,KI,LD,LK,KQ,K8,Lt,S52,↓XX,XY,↓reduceIte,Nat.reduceBEq,Nat.reduceAdd,Int.reduceEq,Int.reduceLT,Int.reduceLE,hi,↓Bq (AO hg) (A9 _ _ _),↓Cb,hwd,↓J3 hc (Aq0 _ _ _ _),hwi];exact h9
    ·rw [hbad he];simp only [LW,KG,Lo,KF,Kl,LY,K6,Lu,LC,KI,LD,LK,KQ,K8,Lt,S52,↓XX,XY,↓reduceIte,Nat.reduceBEq,Nat.reduceAdd,Int.reduceEq,Int.reduceLT,Int.reduceLE,hi,he];exact Fl rfl _ _
  rw [Tm.chk];by_cases c1:3000<N+1
  ·have hx:=hl (N+1) 5 (N+1,5) (.inr (by decide)) (by omega) (fun e=>absurd e (by decide)) (fun _=>rfl);rw [if_pos (.inl c1)];simp only [↓AiV,↓XX,XY,↓reduceIte,Nat.reduceBEq,Nat.reduceAdd,Int.reduceEq,Int.reduceLT,Int.reduceLE,hw,c1];exact hx
  ·by_cases c2:120<d
   ·have hx:=hl (N+1) 5 (N+1,5) (.inr (by decide)) (by omega) (fun e=>absurd e (by decide)) (fun _=>rfl);rw [if_pos (.inr c2)];simp only [↓AiV,↓XX,XY,↓reduceIte,Nat.reduceBEq,Nat.reduceAdd,Int.reduceEq,Int.reduceLT,Int.reduceLE,hw,c1,c2];exact hx
   ·rw [if_neg (by omega)];by_cases c3:L1 op=(ks.length:Int)
    ·have hx1:=hl (N+1) 1 (N+1,1) (.inr (by decide)) (by omega) (fun e=>absurd e (by decide)) (fun _=>rfl);have hk4:=Ais op;have hx0:=hl (N+1) 0 (Tm.chkL ks (N+1) (d+1)) (.inl (by omega)) (by omega) (fun _=>⟨by omega,rfl,by omega⟩) (fun e=>absurd rfl e);cases hnb:AjS op m
     ·rw [hnb] at hb;rw [if_pos (.inr rfl)];simp only [↓AiV,↓XX,XY,↓reduceIte,Nat.reduceBEq,Nat.reduceAdd,Int.reduceEq,Int.reduceLT,Int.reduceLE,hw,c1,c2,↓Av ha,c3,↓Ag hb];exact hx1
     ·rw [hnb] at hb;rw [if_neg (by simp [c3])];simp only [↓AiV,↓XX,XY,↓reduceIte,Nat.reduceBEq,Nat.reduceAdd,Int.reduceEq,Int.reduceLT,Int.reduceLE,hw,c1,c2,↓Av ha,c3,↓Ag hb];exact hx0
    ·have hx1:=hl (N+1) 1 (N+1,1) (.inr (by decide)) (by omega) (fun e=>absurd e (by decide)) (fun _=>rfl);rw [if_pos (.inl c3)];simp only [↓AiV,↓XX,XY,↓reduceIte,Nat.reduceBEq,Nat.reduceAdd,Int.reduceEq,Int.reduceLT,Int.reduceLE,hw,c1,c2,↓Av ha,c3];exact hx1
theorem AgX {n:Nat} (t:Tm) (hn:2 * t.wt+3<n):Bc (SS dt n 27 [.fv t.enc] ⟨[],[]⟩) (.int .i64 (t.chk 0 1).2):=by
 obtain ⟨n,rfl⟩:∃k,n=k+1:=⟨n - 1,by omega⟩;rw [c27];have h:=AjT n t 0 1 (by omega) (by omega) (by omega) (by omega) (by omega);generalize t.chk 0 1=q at h;obtain ⟨op,m,ks⟩:=t;rw [Ai] at h ⊢;have c2:=fun k=>Alh (k:=k) h (x:=.fv (.agg [.int .i64 op,.int .i64 m,.sl (ks.map Tm.enc)])) (y:=iv 1) (s:=28312577) rfl rfl
  (own:=[(28311552,.row [iv op,iv m,.fv (.sl (ks.map Tm.enc))] false),(28312577,.row [iv 0,iv 0] false)])
  (own':=[(28311552,.row [iv op,iv m,.fv (.sl (ks.map Tm.enc))] false),(28312577,.row [iv q.1,iv q.2] false)]) (by simp [Ap]) (by simp [AN])
 simp only [AiX,S27,↓XX,XY,↓reduceIte,Nat.reduceBEq,Nat.reduceAdd,Int.reduceEq,Int.reduceLT,Int.reduceLE,↓c2];exact Ao _ _
def AhH (T1 T2:Ci→Tm→Tm) (B1:Ci→Tm→Bool) (g:Ci) (r:Tm):Ci:=if r.n % 3=0 then (if B1 g r then g++[(0,T1 g r)] else g) else g++[(1,T2 g r)]
def B8 (f:Ci→Tm→Ci) (l:List Tm):Nat→Ci
 | 0=>[]
 | i+1=>match l[i]? with
  | some r=>f (B8 f l i) r
  | none=>B8 f l i
def gV:Ci→IV
 | []=>.nils
 | p::g=>.fv (Bm (p::g))
theorem Al0 {g:Ci} (h:g≠[]):gV g=.fv (Bm g):=by
 cases g with
 | nil=>exact absurd rfl h
 | cons p g=>rfl
theorem Apd (g:Ci):gV g=.nils∨∃x,gV g=.fv x:=by
 cases g with
 | nil=>exact .inl rfl
 | cons p g=>exact .inr ⟨_,rfl⟩
theorem AnY (g:Ci) (own:List (Nat×Blk)):Bc (An [gV g] ⟨own,[]⟩) (Bm g):=by
 cases g with
 | nil=>exact Bh rfl _
 | cons p g=>exact Ao _ _
theorem AmX (g:Ci):A8 (gV g)=some (Bm g):=by
 cases g with
 | nil=>rfl
 | cons p g=>rfl
set_option maxRecDepth 20000 in
set_option maxHeartbeats 4000000 in
theorem WQ (l:List Tm) (hll:l.length≤9223372036854775807):∃g,Ev 20 [.fv (.sl (l.map Tm.enc))] (Bm g)∧GOk 10 g∧g.length≤4∧CtxG g∧(l=[]→g=[]):=by
 have hc:∀p:Ci×Tm,∃(t1 t2:Tm) (b1:Bool),GOk 10 p.1→Ev 23 [.fv (Bm p.1),.fv (Tm.mk 14 0 []).enc,.fv p.2.enc,iv 2] (.tuple [Tm.enc t1,.bool b1])∧TG 1 7 p.1 (.mk 14 0 []) t1 b1∧Ev 21 [.fv (Bm p.1),.fv p.2.enc,iv 2] (Tm.enc t2)∧TyOk p.1 7 t2:=by
  rintro ⟨g,r⟩;by_cases hg:GOk 10 g
  ·obtain ⟨hT,hG,_⟩:=PW 7 (by omega);obtain ⟨t1,b1,h1,h2⟩:=hG g (.mk 14 0 []) r (AT (by omega) hg) ⟨CI (by decide) (by decide) (Bs (by decide) (by decide) (by decide)),by simp [Tm.wt,Tm.wtL],by simp [Tm.dp,Tm.dpL]⟩;obtain ⟨t2,h3,h4⟩:=hT g r (AT (by omega) hg);exact ⟨t1,t2,b1,fun _=>⟨h1,h2,h3,h4⟩⟩
  ·exact ⟨.z,.z,false,fun h=>absurd h hg⟩
 obtain ⟨T1,hc⟩:=Classical.axiomOfChoice hc;obtain ⟨T2,hc⟩:=Classical.axiomOfChoice hc;obtain ⟨B1,hc⟩:=Classical.axiomOfChoice hc;obtain ⟨f,hf⟩:∃f,f=AhH (fun g r=>T1 (g,r)) (fun g r=>T2 (g,r)) (fun g r=>B1 (g,r)):=⟨_,rfl⟩;have hD7:Dg 7=270:=rfl;have hD6:Dg 6=260:=rfl;have hW7:Wg 7=131072000:=rfl;have hW6:Wg 6=32768000:=rfl;have hstep:∀i,i≤4→GOk 10 (B8 f l i)∧(B8 f l i).length≤i∧CtxG (B8 f l i):=by
  intro i
  induction i with
  | zero=>intro _;exact ⟨⟨by simp [B8],fun i p h=>by simp [B8] at h⟩,by simp [B8],.nil⟩
  | succ i ih =>
   intro h;obtain ⟨h1,h2,hcg⟩:=ih (by omega);rw [B8];cases hr:l[i]? with
   | none=>simp only;exact ⟨h1,by omega,hcg⟩
   | some r =>
    simp only;generalize B8 f l i=g at h1 h2 hcg;obtain ⟨_,h4,_,h6⟩:=hc (g,r) h1;simp only at h4 h6;have h4s:=h4.sc;have h4w:=h4.wt;have h4d:=h4.dp;have h6s:=h6.sc;have h6w:=h6.wt;have h6d:=h6.dp;rw [show 7 - 1=6 from rfl] at h6w h6d
    have big:∀(s:Int) (t:Tm),t.sc g.length→t.wt≤100000000000→t.dp≤6000→GOk 10 (g++[(s,t)]):=by
     intro s t q1 q2 q3;have h11:GOk 11 g:=⟨by omega,h1.ok⟩;exact CC h11 q1 q2 q3
    rw [hf,AhH];split
    ·split
     ·rename_i hb;exact ⟨big _ _ h4s (by omega) (by omega),by simp;omega,.ob g _ hcg (h4.gr hb)⟩
     ·exact ⟨h1,by omega,hcg⟩
    ·exact ⟨big _ _ h6s (by omega) (by omega),by simp;omega,.me g _ hcg ⟨h6s,by omega,by omega⟩ (by omega) h6.gr⟩
 obtain ⟨m,hm⟩:∃m,m=min l.length 4:=⟨_,rfl⟩;obtain ⟨N,hN⟩:=Ag0 (P:=fun i n=>∀r,l[i]?=some r→Bc (SS dt n 23 [.fv (Bm (B8 f l i)),.fv (Tm.mk 14 0 []).enc,.fv r.enc,iv 2] ⟨[],[]⟩) (.tuple [Tm.enc (T1 (B8 f l i,r)),.bool (B1 (B8 f l i,r))])∧Bc (SS dt n 21 [.fv (Bm (B8 f l i)),.fv r.enc,iv 2] ⟨[],[]⟩) (Tm.enc (T2 (B8 f l i,r)))) m (fun i hi=>by
  have hil:i<l.length:=by omega
  obtain ⟨⟨N1,h1⟩,_,⟨N2,h2⟩,_⟩:=hc (B8 f l i,l[i]) (hstep i (by omega)).1;refine ⟨N1+N2,fun n hn r hr=>?_⟩;rw [List.getElem?_eq_getElem hil,AwP] at hr;subst hr;exact ⟨h1 n (by omega),h2 n (by omega)⟩)
 have hm4:=hstep m (by omega);refine ⟨B8 f l m,⟨N+100,fun n hn=>?_⟩,hm4.1,by omega,hm4.2.2,fun h=>by subst h;rw [hm];rfl⟩;obtain ⟨n,rfl⟩:∃k,n=k+1:=⟨n - 1,by omega⟩;rw [c20];simp only [Yt,XN,Xk,WR,WK,WU,Xs,Xv,XK,S20,↓XX,XY,↓reduceIte,Nat.reduceBEq,Nat.reduceAdd,Int.reduceEq,Int.reduceLT,Int.reduceLE,↓AD,XD,heldB,AL,XE];refine A6 (Q:=fun r=>Bc r _) (fun k V H=>∃i:Nat,i+k=m∧V=[.fv (.sl (l.map Tm.enc)),gV (B8 f l i),iv i]∧H=⟨[],[]⟩)
  ?_ n m _ _ (by omega) ⟨0,by omega,rfl,rfl⟩
 rintro k V H rec ⟨i,hik,rfl,rfl⟩ hrec;have hi4:=hstep i (by omega);cases k with
 | zero =>
  have him:i=m:=by omega
  subst him;have ha:=fun own=>AnY (B8 f l i) own;generalize gV (B8 f l i)=gv at ha;by_cases h1:(i:Int)<l.length
  ·have h4:¬ ((i:Int)<4):=by omega
   simp only [↓UU5,↓XX,XY,↓reduceIte,Nat.reduceBEq,Nat.reduceAdd,Int.reduceEq,Int.reduceLT,Int.reduceLE,h1,h4];exact ha _
  ·simp only [↓UU5,↓XX,XY,↓reduceIte,Nat.reduceBEq,Nat.reduceAdd,Int.reduceEq,Int.reduceLT,Int.reduceLE,h1];exact ha _
 | succ k =>
  have hil:i<l.length:=by omega
  have h1:(i:Int)<l.length:=by omega
  have h4:(i:Int)<4:=by omega
  have wi:BI ((i:Int)+1)=(i:Int)+1:=by rw [As]<;>omega
  obtain ⟨r,hr⟩:∃r,l[i]?=some r:=⟨_,List.getElem?_eq_getElem hil⟩;obtain ⟨g1,g2⟩:=hN i (by omega) n (by omega) r hr;have hw:=Ar (n:=n) (by omega) r.n (m:=3) (by omega) (by omega);have t14:=Fg (n:=n) (by omega) 14;have h9:=hrec k [.fv (.sl (l.map Tm.enc)),gV (B8 f l (i+1)),iv (i+1:Nat)] ⟨[],[]⟩ (by omega) ⟨i+1,by omega,rfl,rfl⟩;have hi1:((i+1:Nat):Int)=(i:Int)+1:=by omega
  rw [hi1,B8,hr] at h9;simp only [hf,AhH] at h9;rw [← hf] at h9;have hfz:=AmX (B8 f l i);have htw:=Apd (B8 f l i);have m1:=C1 (n:=n) (B8 f l i) 0 (T1 (B8 f l i,r)) (by omega) (by omega);have m2:=C1 (n:=n) (B8 f l i) 1 (T2 (B8 f l i,r)) (by omega) (by omega);have n1:=Al0 (g:=B8 f l i++[((0:Int),T1 (B8 f l i,r))]) (by simp);have n2:=Al0 (g:=B8 f l i++[((1:Int),T2 (B8 f l i,r))]) (by simp);generalize Bm (B8 f l i++[((0:Int),T1 (B8 f l i,r))])=e1 at m1 n1;generalize Bm (B8 f l i++[((1:Int),T2 (B8 f l i,r))])=e2 at m2 n2;clear hc hstep hN hi4 hm4;by_cases c0:r.n % 3=0
  ·rw [if_pos c0] at h9;rw [c0] at hw;cases hb:B1 (B8 f l i,r)
   ·rw [hb] at g1 h9;simp only [Bool.false_eq_true,if_false] at h9;generalize T1 (B8 f l i,r)=t1 at g1;generalize gV (B8 f l i)=gv at hfz h9 htw;generalize Bm (B8 f l i)=ge at hfz g1;obtain ⟨o,p,ks⟩:=r;obtain ⟨o1,p1,k1⟩:=t1;simp only [Tm.n] at hw;simp only [Ai,AwU] at g1 t14;have g1:=AK (a:=gv) (b:=.fv (.agg [.int .i64 14,.int .i64 0,.sl []])) (c:=.fv (.agg [.int .i64 o,.int .i64 p,.sl (ks.map Tm.enc)])) (d:=iv 2) g1 hfz rfl rfl rfl;rcases htw with rfl | ⟨x0,rfl⟩
    ·simp (maxSteps:=1000000) only [↓UU5,↓XX,XY,↓reduceIte,Nat.reduceBEq,Nat.reduceAdd,Int.reduceEq,Int.reduceLT,Int.reduceLE,h1,h4,wi,↓Bq (AO hr) (A9 _ _ _),↓Cb,↓Ag hw,↓Ag t14,↓g1,↓AD,XD,heldB,AL,XE];exact h9
    ·simp (maxSteps:=1000000) only [↓UU5,↓XX,XY,↓reduceIte,Nat.reduceBEq,Nat.reduceAdd,Int.reduceEq,Int.reduceLT,Int.reduceLE,h1,h4,wi,↓Bq (AO hr) (A9 _ _ _),↓Cb,↓Ag hw,↓Ag t14,↓g1,↓AD,XD,heldB,AL,XE];exact h9
   ·rw [hb] at g1 h9;simp only [if_true] at h9;rw [n1] at h9;generalize T1 (B8 f l i,r)=t1 at g1 m1;generalize gV (B8 f l i)=gv at hfz htw;generalize Bm (B8 f l i)=ge at hfz g1 m1;obtain ⟨o,p,ks⟩:=r;obtain ⟨o1,p1,k1⟩:=t1;simp only [Tm.n] at hw;simp only [Ai,AwU] at g1 t14 m1;have g1:=AK (a:=gv) (b:=.fv (.agg [.int .i64 14,.int .i64 0,.sl []])) (c:=.fv (.agg [.int .i64 o,.int .i64 p,.sl (ks.map Tm.enc)])) (d:=iv 2) g1 hfz rfl rfl rfl;have m1:=AZ (a:=gv) (b:=iv 0) (c:=.fv (.agg [.int .i64 o1,.int .i64 p1,.sl (k1.map Tm.enc)])) m1 hfz rfl rfl;rcases htw with rfl | ⟨x0,rfl⟩
    ·simp (maxSteps:=1000000) only [↓UU5,↓XX,XY,↓reduceIte,Nat.reduceBEq,Nat.reduceAdd,Int.reduceEq,Int.reduceLT,Int.reduceLE,h1,h4,wi,↓Bq (AO hr) (A9 _ _ _),↓Cb,↓Ag hw,↓Ag t14,↓g1,↓m1,↓AD,XD,heldB,AL,XE];exact h9
    ·simp (maxSteps:=1000000) only [↓UU5,↓XX,XY,↓reduceIte,Nat.reduceBEq,Nat.reduceAdd,Int.reduceEq,Int.reduceLT,Int.reduceLE,h1,h4,wi,↓Bq (AO hr) (A9 _ _ _),↓Cb,↓Ag hw,↓Ag t14,↓g1,↓m1,↓AD,XD,heldB,AL,XE];exact h9
  ·rw [if_neg c0,n2] at h9;generalize T2 (B8 f l i,r)=t2 at g2 m2;generalize gV (B8 f l i)=gv at hfz htw;generalize Bm (B8 f l i)=ge at hfz g2 m2;obtain ⟨o,p,ks⟩:=r;obtain ⟨o1,p1,k1⟩:=t2;simp only [Tm.n] at hw c0;generalize p % 3=w3 at hw c0;simp only [Ai,AwU] at g2 m2;have g2:=AZ (a:=gv) (b:=.fv (.agg [.int .i64 o,.int .i64 p,.sl (ks.map Tm.enc)])) (c:=iv 2) g2 hfz rfl rfl;have m2:=AZ (a:=gv) (b:=iv 1) (c:=.fv (.agg [.int .i64 o1,.int .i64 p1,.sl (k1.map Tm.enc)])) m2 hfz rfl rfl;rcases htw with rfl | ⟨x0,rfl⟩
   ·simp (maxSteps:=1000000) only [↓UU5,↓XX,XY,↓reduceIte,Nat.reduceBEq,Nat.reduceAdd,Int.reduceEq,Int.reduceLT,Int.reduceLE,h1,h4,wi,c0,↓Bq (AO hr) (A9 _ _ _),↓Cb,↓Ag hw,↓g2,↓m2,↓AD,XD,heldB,AL,XE];exact h9
   ·simp (maxSteps:=1000000) only [↓UU5,↓XX,XY,↓reduceIte,Nat.reduceBEq,Nat.reduceAdd,Int.reduceEq,Int.reduceLT,Int.reduceLE,h1,h4,wi,c0,↓Bq (AO hr) (A9 _ _ _),↓Cb,↓Ag hw,↓g2,↓m2,↓AD,XD,heldB,AL,XE];exact h9
def Aha (l:List Tm):Bool:=l.all (fun t=>decide (t.count 300<300)) && decide ((l.length:Int)≤6)
set_option maxHeartbeats 1000000 in
theorem Abd (l:List Tm) (hll:l.length≤9223372036854775807) {n:Nat} (hn:Tm.wtL l+10<n):Bc (SS dt n 11 [.fv (.sl (l.map Tm.enc))] ⟨[],[]⟩) (.bool (Aha l)):=by
 obtain ⟨n,rfl⟩:∃k,n=k+1:=⟨n - 1,by omega⟩;rw [c11];simp only [Mf,MP,Mp,S11,↓XX,XY,↓reduceIte,Nat.reduceBEq,Nat.reduceAdd,Int.reduceEq,Int.reduceLT,Int.reduceLE,↓AD,XD,heldB,AL,XE];have hlw:=Db l;refine A6 (Q:=fun r=>Bc r _) (fun k V H=>∃pre rest,l=pre++rest∧rest.length=k∧V=[.fv (.sl (l.map Tm.enc)),iv pre.length]∧H=⟨[],[]⟩∧Aha l=(rest.all (fun t=>decide (t.count 300<300)) && decide ((l.length:Int)≤6)))
  ?_ n l.length _ _ (by omega) ⟨[],l,rfl,rfl,rfl,rfl,rfl⟩
 rintro k V H rec ⟨pre,rest,hk,hl,rfl,rfl,ht⟩ hrec;have hkl:l.length=pre.length+rest.length:=by rw [hk];simp
 cases rest with
 | nil =>
  have hno:¬ ((pre.length:Int)<l.length):=by rw [hkl];simp
  rw [ht,List.all_nil,Bool.true_and];by_cases h6:(l.length:Int)≤6
  ·simp only [Mf,MP,Mp,Ow,S11,↓XX,XY,↓reduceIte,Nat.reduceBEq,Nat.reduceAdd,Int.reduceEq,Int.reduceLT,Int.reduceLE,hno,h6];exact Ao _ _
  ·simp only [Mf,MP,Mp,Ow,S11,↓XX,XY,↓reduceIte,Nat.reduceBEq,Nat.reduceAdd,Int.reduceEq,Int.reduceLT,Int.reduceLE,hno,h6];exact Ao _ _
 | cons x rest =>
  have hi:(pre.length:Int)<l.length:=by rw [hkl];simp;omega
  have hg2:=Ce hk;have hxw:=BN (t:=x) (l:=l) (by rw [hk];simp);obtain ⟨n,rfl⟩:∃k,n=k+1:=⟨n - 1,by omega⟩;have hf:=JW (n:=n) x (by omega);have hwi:BI ((pre.length:Int)+1)=((pre++[x]).length:Int):=(As (by omega) (by simp at hkl;omega)).trans (by simp);rw [ht,List.all_cons];cases hx:decide (x.count 300<300)
  ·rw [hx] at hf;obtain ⟨o,p,ks⟩:=x;rw [Ai] at hf;simp only [Mf,MP,Mp,Ow,S11,↓XX,XY,↓reduceIte,Nat.reduceBEq,Nat.reduceAdd,Int.reduceEq,Int.reduceLT,Int.reduceLE,hi,↓Bq (AO hg2) (A9 _ _ _),↓Cb,↓Av hf];exact Ao _ _
  ·rw [hx] at hf;have h9:=hrec rest.length _ _ (by simp at hl;omega) ⟨pre++[x],rest,by rw [hk];simp,rfl,rfl,rfl,by rw [ht,List.all_cons,hx,Bool.true_and]⟩;rw [Bool.true_and];rw [ht,List.all_cons,hx,Bool.true_and] at h9;obtain ⟨o,p,ks⟩:=x;rw [Ai] at hf;simp only [Mf,MP,Mp,Ow,S11,↓XX,XY,↓reduceIte,Nat.reduceBEq,Nat.reduceAdd,Int.reduceEq,Int.reduceLT,Int.reduceLE,hi,↓Bq (AO hg2) (A9 _ _ _),↓Cb,↓Av hf,hwi];exact h9
structure CaseOk (g:Ci) (a t:Tm) (is object:Bool):Prop where
 gok:GOk 10 g
 len:g.length≤4
 asc:a.sc g.length
 awt:a.wt≤32768010
 adp:a.dp≤300
 tsc:t.sc g.length
 tdp:t.dp≤300
 chk:is=true→(t.chk 0 1).2=0
 cg:CtxG g
 ga:object=false→Gr 0 7 g .z a
 gt:is=true→Gr (if object then 2 else 1) 10 g a t
theorem AiM {t:Tm} {k:Nat} (hst:t.stl) (hsc:t.sc k) (hk:k≤700000) (hw:t.wt≤100) {f:Nat} {u:Tm} {e:Int} (h:AI f t=some (u,e)):u=t:=by
 obtain ⟨f',h'⟩:=Vt hst hsc hk (by omega) (by have:=Vv t;omega)
 have:=Nl h h'
 simp only [AwQ] at this;exact this.1
theorem Art (op n:Int):(Tm.mk op n []).stl:=by
 rw [Tm.stl,Tm.stlL];exact ⟨⟨⟨fun _ k h=>by simp at h,fun _ k h=>by simp at h,fun _ k h=>by simp at h⟩,fun _ k h=>by simp at h,fun _ k h=>by simp at h⟩,trivial⟩
def P0 (p:Tm):Prop:=p=.mk 15 0 []∨∃op:Int,(op=16∨op=17)∧p=.mk op 0 [.mk 15 0 [],.mk 15 0 []]
theorem VF (r:Tm):P0 (r.plainT 1):=by
 have h1:=Int.emod_nonneg r.n (show (4:Int)≠0 by decide)
 have h2:=Int.emod_lt_of_pos r.n (show (0:Int)<4 by decide)
 rw [Tm.plainT];split
 ·exact .inl rfl
 ·exact .inr ⟨_,by omega,rfl⟩
def F0 (t:Tm):Prop:=t=.mk 10 0 []∨t=.mk 14 0 []∨t=.mk 2 0 []∨∃p,P0 p∧t=.mk 18 0 [p]
theorem AsC {p:Tm} (h:P0 p):p.wt≤3:=by
 rcases h with rfl | ⟨op,_,rfl⟩<;>simp [Tm.wt,Tm.wtL]
theorem AiP {p:Tm} (h:F0 p):p.wt≤4:=by
 rcases h with rfl | rfl | rfl | ⟨q,h,rfl⟩
 ·simp [Tm.wt,Tm.wtL]
 ·simp [Tm.wt,Tm.wtL]
 ·simp [Tm.wt,Tm.wtL]
 ·have:=AsC h
  rw [wt1];omega
theorem AmH (k:Nat):(Tm.mk 15 0 []).sc k:=CI (by decide) (by decide) (Bs (by decide) (by decide) (by decide))
theorem ArV {p:Tm} (h:P0 p) (k:Nat):p.sc k:=by
 rcases h with rfl | ⟨op,ho,rfl⟩
 ·exact AmH k
 ·rcases ho with rfl | rfl<;>exact B9 (by decide) (by decide) (Bs (by decide) (by decide) (by decide)) (AmH _) (AmH _)
theorem Ar3 {p:Tm} (h:F0 p) (k:Nat):p.sc k:=by
 rcases h with rfl | rfl | rfl | ⟨q,h,rfl⟩
 ·exact CI (by decide) (by decide) (Bs (by decide) (by decide) (by decide))
 ·exact CI (by decide) (by decide) (Bs (by decide) (by decide) (by decide))
 ·exact CI (by decide) (by decide) (by rw [BS,if_pos rfl];omega)
 ·exact El (by decide) (by decide) (Bs (by decide) (by decide) (by decide)) (ArV h _)
def F1 (t:Tm):Prop:=F0 t∨(∃(op:Int) (d c:Tm),(op=3∨op=6)∧F0 d∧F0 c∧t=.mk op 0 [d,c])∨∃p:Tm,(p=.mk 15 0 []∨∃i:Nat,p=.mk 1 i [])∧t=.mk 18 0 [p]
theorem AlX {t:Tm} (h:F1 t):t.wt≤9:=by
 rcases h with h | ⟨op,d,c,_,hd,hc,rfl⟩ | ⟨p,hp,rfl⟩
 ·have:=AiP h;omega
 ·have:=AiP hd;have:=AiP hc;rw [Oi];omega
 ·rcases hp with rfl | ⟨i,rfl⟩<;>simp [Tm.wt,Tm.wtL]
theorem t_5 {e:Nat} {g:Ci} {a t:Tm} (he:e<6) (h:Gr 0 e g a t):F0 t:=by
 cases h with
 | tnat=>exact .inl rfl
 | tty=>exact .inr (.inl rfl)
 | tu=>exact .inr (.inr (.inl rfl))
 | tlp _ _ _ r=>exact .inr (.inr (.inr ⟨_,VF r,rfl⟩))
 | _=>omega
theorem Ani {e:Nat} {g:Ci} {t:Tm} (he:e<6) (h:Gr 1 e g (.mk 14 0 []) t):t=.mk 15 0 []∨∃i:Nat,t=.mk 1 i []:=by
 cases h with
 | grow _ _ _ a' _ f hn hg hna h1 =>
  have:=AiM (Art _ _) (Ar3 (.inr (.inl rfl)) 0) (by omega) (by simp [Tm.wt,Tm.wtL]) hn
  subst this;cases h1 with
  | var1 _ _ _ i=>exact .inr ⟨i,rfl⟩
  | tint=>exact .inl rfl
  | _=>first | omega | (rename_i hh;simp [Tm.op] at hh)
theorem t_6 {g:Ci} {a t:Tm} (h:Gr 0 6 g a t):F1 t:=by
 cases h with
 | tnat=>exact .inl (.inl rfl)
 | tty=>exact .inl (.inr (.inl rfl))
 | tu=>exact .inl (.inr (.inr (.inl rfl)))
 | tlp _ _ _ r=>exact .inl (.inr (.inr (.inr ⟨_,VF r,rfl⟩)))
 | tpi _ _ _ x y op ho h6 hgl hx h1 h2=>exact .inr (.inl ⟨op,x,y,ho,t_5 (by omega) h1,t_5 (by omega) h2,rfl⟩)
 | tlift _ _ _ t h6 h1=>exact .inr (.inr ⟨t,Ani (by omega) h1,rfl⟩)
inductive PV where
 | nil
 | mk (op n:Int) (k:List PV) (t:Tm) (e:List PV)
def PV.enc:PV→FV
 | .nil=>.nilp
 | .mk op n k (.mk to tn tk) e=>.fp [.int .i64 op,.int .i64 n,.sl (encL k),.int .i64 to,.int .i64 tn,.sl (tk.map Tm.enc),encE e] 0
where
 encL:List PV→List FV
  | []=>[]
  | v::l=>v.enc::encL l
 encE:List PV→FV
  | []=>.nilp
  | v::l=>.fp [v.enc,encE l] 0
def PV.encEnv:List PV→FV
 | []=>.nilp
 | v::l=>.fp [v.enc,encEnv l] 0
theorem AgT (l:List PV):PV.enc.encL l=l.map PV.enc:=by
 induction l with
 | nil=>rfl
 | cons t l ih=>simp [PV.enc.encL,ih]
theorem Ajo (l:List PV):PV.enc.encE l=PV.encEnv l:=by
 induction l with
 | nil=>rfl
 | cons t l ih=>simp [PV.enc.encE,PV.encEnv,ih]
theorem GZ:PV.nil.enc=.nilp:=rfl
theorem AW (op n:Int) (k:List PV) (bo bn:Int) (bk:List Tm) (e:List PV):(PV.mk op n k (.mk bo bn bk) e).enc =
  .fp [.int .i64 op,.int .i64 n,.sl (k.map PV.enc),.int .i64 bo,.int .i64 bn,.sl (bk.map Tm.enc),PV.encEnv e] 0:=by simp only [PV.enc,AgT,Ajo]
theorem Wq:PV.encEnv []=.nilp:=rfl
theorem QC (v:PV) (l:List PV):PV.encEnv (v::l)=.fp [v.enc,PV.encEnv l] 0:=rfl
def PV.var (n:Int):PV:=.mk 1 n [] .z []
theorem Wu (n:Int):(PV.var n).enc=.fp [.int .i64 1,.int .i64 n,.sl [],.int .i64 0,.int .i64 0,.sl [],.nilp] 0:=by rw [PV.var,Tm.z,AW];rfl
theorem O1 (v:PV):∀l,v.enc≠.agg l:=by
 intro l h;cases v with
 | nil=>cases h
 | mk op n k t e=>obtain ⟨bo,bn,bk⟩:=t;rw [AW] at h;cases h
theorem Aif (v:PV):Ig v.enc=true:=by
 cases v with
 | nil=>rfl
 | mk op n k t e=>obtain ⟨bo,bn,bk⟩:=t;rw [AW];rfl
theorem En (v:PV):v.enc.cells=[v.enc]:=by
 cases v with
 | nil=>rfl
 | mk op n k t e=>obtain ⟨bo,bn,bk⟩:=t;rw [AW];rfl
theorem Apc {β:Type} {l:List PV} {i:Nat} {v:PV} (h:l[i]?=some v) (k:IV→Option β):A7 1 (.fv (.sl (l.map PV.enc))) (iv i) k=k (.fv (.fp [v.enc] 0)):=by
 have h1:(l.map PV.enc)[i]?=some v.enc:=by rw [List.getElem?_map,h];rfl
 rw [Bq h1 (by rw [En];rfl),En]
theorem tPs:EE.T 110=some ⟨1,24,.slice 98,[.nils]⟩:=by kernel_rfl
theorem tPp:EE.T 98=some ⟨1,8,.ptr,[.fv .nilp]⟩:=by kernel_rfl
theorem AqY (a:PV) (s:Nat) (h:Hp) (k:IV→Hp→List Ref→List Ref→Option (IV×Hp)):Ay (Ah EE 110 1 [(0,.fv a.enc)]) s h k=k (.clip [a.enc]) h [] []:=by
 cases a with
 | nil=>exact Cy tPs tPp (by decide) (cells:=[.nilp]) rfl k
 | mk op n kk t e =>
  obtain ⟨bo,bn,bk⟩:=t;rw [AW];exact Cy tPs tPp (by decide) (cells:=[.fp [.int .i64 op,.int .i64 n,.sl (kk.map PV.enc),.int .i64 bo,.int .i64 bn,.sl (bk.map Tm.enc),PV.encEnv e] 0]) rfl k
theorem NI (a:PV):a.enc=.nilp∨∃l,a.enc=.fp l 0:=by
 cases a with
 | nil=>exact .inl rfl
 | mk op n kk t e=>obtain ⟨bo,bn,bk⟩:=t;exact .inr ⟨_,AW ..⟩
theorem ArO (a b:PV) (s:Nat) (h:Hp) (k:IV→Hp→List Ref→List Ref→Option (IV×Hp)):Ay (Ah EE 110 2 [(0,.fv a.enc),(1,.fv b.enc)]) s h k=k (.clip [a.enc,b.enc]) h [] []:=by
 have key:∀x y:FV,(x=.nilp∨∃l,x=.fp l 0)→(y=.nilp∨∃l,y=.fp l 0)→Ay (Ah EE 110 2 [(0,.fv x),(1,.fv y)]) s h k=k (.clip [x,y]) h [] []:=by
  rintro x y (rfl | ⟨la,rfl⟩) (rfl | ⟨lb,rfl⟩)
  ·exact Cy (len:=2) tPs tPp (by decide) (cells:=[.nilp,.nilp]) rfl k
  ·exact Cy (len:=2) tPs tPp (by decide) (cells:=[.nilp,.fp lb 0]) rfl k
  ·exact Cy (len:=2) tPs tPp (by decide) (cells:=[.fp la 0,.nilp]) rfl k
  ·exact Cy (len:=2) tPs tPp (by decide) (cells:=[.fp la 0,.fp lb 0]) rfl k
 exact key _ _ (NI a) (NI b)
theorem Arw (b d:PV) (s:Nat) (h:Hp) (k:IV→Hp→List Ref→List Ref→Option (IV×Hp)):Ay (Ah EE 110 4 [(0,.fv .nilp),(1,.fv b.enc),(2,.fv .nilp),(3,.fv d.enc)]) s h k=k (.clip [.nilp,b.enc,.nilp,d.enc]) h [] []:=by
 have key:∀x y:FV,(x=.nilp∨∃l,x=.fp l 0)→(y=.nilp∨∃l,y=.fp l 0)→Ay (Ah EE 110 4 [(0,.fv .nilp),(1,.fv x),(2,.fv .nilp),(3,.fv y)]) s h k=k (.clip [.nilp,x,.nilp,y]) h [] []:=by
  rintro x y (rfl | ⟨la,rfl⟩) (rfl | ⟨lb,rfl⟩)
  ·exact Cy (len:=4) tPs tPp (by decide) (cells:=[.nilp,.nilp,.nilp,.nilp]) rfl k
  ·exact Cy (len:=4) tPs tPp (by decide) (cells:=[.nilp,.nilp,.nilp,.fp lb 0]) rfl k
  ·exact Cy (len:=4) tPs tPp (by decide) (cells:=[.nilp,.fp la 0,.nilp,.nilp]) rfl k
  ·exact Cy (len:=4) tPs tPp (by decide) (cells:=[.nilp,.fp la 0,.nilp,.fp lb 0]) rfl k
 exact key _ _ (NI b) (NI d)
theorem ArH {β:Type} (v:PV) (z:List IV) (o:Nat) (k:List IV→Option β):HM z o 1 (.fv v.enc) k=G7 z o (.fv v.enc) k:=by
 unfold HM;rw [Ag4,Aif];rfl
theorem AgH {β:Type} (l:List PV) (z:List IV) (o:Nat) (k:List IV→Option β):HM z o 1 (.fv (PV.encEnv l)) k=G7 z o (.fv (PV.encEnv l)) k:=by
 unfold HM;rw [Ag4,show Ig (PV.encEnv l)=true by cases l<;>rfl]
 rfl
abbrev CV (f:FuncId):IV:=.agg [.func (.func f) [.ptr (.ext 0) 0] []]
abbrev Aqj:Blk:=.map [(5,CV 72),(8,CV 73),(9,CV 73),(13,CV 74),(30,CV 75),(19,CV 76)]
abbrev MX (s w r e:Int):List Blk:=[.row [iv s,iv w,iv r,iv e,.mapr (.ext 1)] false,Aqj]
theorem Aka (s w r e:Int):∀j,Ref.own j ∉ (MX s w r e).flatMap Blk.refs:=by
 intro j h;simp only [MX,List.flatMap_cons,List.flatMap_nil,Blk.refs,IV.refs.refsL,IV.refs,AwV,AwU,List.append_nil,List.nil_append,List.cons_append,List.mem_cons,List.not_mem_nil,or_false,reduceCtorEq] at h
theorem Akv (s w r e s' w' r' e':Int):ExtX (MX s w r e) (MX s' w' r' e'):=⟨rfl,rfl,rfl⟩
section
variable {ih:Aa} {f:FuncId} {w:FV} {s u r e s' u' r' e':Int} (own:List (Nat×Blk)) (k:IV→Hp→List Ref→List Ref→Option (IV×Hp))
theorem Ad3 (args:List IV) (ks:List Bool) (hks:∀b∈ks,b=false) {vs:List FV} (hz:Bz args=some vs) (hr:Bx (ih f (.ptr (.ext 0) 0::vs.map .fv) ⟨[],MX s u r e⟩) w (MX s' u' r' e')) :
  Al (true::ks) false false ih f (.ptr (.ext 0) 0::args) ⟨own,MX s u r e⟩ k=k (.fv w) ⟨own,MX s' u' r' e'⟩ [.ext 1,.ext 0] [.ext 0,.ext 1] :=
 AaR (fun e k=>Vo 0 args _ _ e k ks hks hz) (Akv ..) hr (fun _=>rfl) k
theorem Gd (hr:Bx (ih f [.ptr (.ext 0) 0] ⟨[],MX s u r e⟩) w (MX s' u' r' e')):Al [true] false false ih f [.ptr (.ext 0) 0] ⟨own,MX s u r e⟩ k=k (.fv w) ⟨own,MX s' u' r' e'⟩ [.ext 1,.ext 0] [.ext 0,.ext 1]:=Ad3 own k [] [] (by simp) rfl hr
theorem UT {a:IV} {x:FV} (hr:Bx (ih f [.ptr (.ext 0) 0,.fv x] ⟨[],MX s u r e⟩) w (MX s' u' r' e')) (ha:A8 a=some x):Al [true,false] false false ih f [.ptr (.ext 0) 0,a] ⟨own,MX s u r e⟩ k=k (.fv w) ⟨own,MX s' u' r' e'⟩ [.ext 1,.ext 0] [.ext 0,.ext 1] :=
 Ad3 own k [a] [false] (by simp) (AmZ ha) hr
theorem Agf {a b:IV} {x y:FV} (hr:Bx (ih f [.ptr (.ext 0) 0,.fv x,.fv y] ⟨[],MX s u r e⟩) w (MX s' u' r' e')) (ha:A8 a=some x) (hb:A8 b=some y):Al [true,false,false] false false ih f [.ptr (.ext 0) 0,a,b] ⟨own,MX s u r e⟩ k=k (.fv w) ⟨own,MX s' u' r' e'⟩ [.ext 1,.ext 0] [.ext 0,.ext 1] :=
 Ad3 own k [a,b] [false,false] (by simp) (XJ ha hb) hr
theorem S7 {a b c:IV} {x y z:FV} (hr:Bx (ih f [.ptr (.ext 0) 0,.fv x,.fv y,.fv z] ⟨[],MX s u r e⟩) w (MX s' u' r' e')) (ha:A8 a=some x) (hb:A8 b=some y) (hc:A8 c=some z) :
  Al [true,false,false,false] false false ih f [.ptr (.ext 0) 0,a,b,c] ⟨own,MX s u r e⟩ k=k (.fv w) ⟨own,MX s' u' r' e'⟩ [.ext 1,.ext 0] [.ext 0,.ext 1] :=
 Ad3 own k [a,b,c] [false,false,false] (by simp) (Afe ha hb hc) hr
end
theorem AlJ {ih:Aa} {f:FuncId} {w:FV} {s0:Nat} {s u r e s' u' r' e':Int} {own:List (Nat×Blk)} {cells:List IV} {ro:Bool} {fc:List FV} (hr:Bx (ih f [.ptr (.ext 0) 0,.fv (.fp fc 0)] ⟨[],MX s u r e⟩) w (MX s' u' r' e'))
  (hl:Ap s0 own=some (.row cells ro)) (hz:Di cells=some fc) (hn:cells.length≤300) (k:IV→Hp→List Ref→List Ref→Option (IV×Hp)) :
  Al [true,false] false false ih f [.ptr (.ext 0) 0,.ptr (.own s0) 0] ⟨own,MX s u r e⟩ k=k (.fv w) ⟨AN s0 (.row cells true) own,MX s' u' r' e'⟩ [.ext 1,.ext 0,.own s0] [.own s0,.ext 0,.ext 1]:=by
 refine AaR (ks:=[false]) (vs:=[.fp fc 0]) (u:=[(.own s0,.row cells true)]) (lg:=[.own s0]) ?_ (Akv ..) hr ?_ k
 ·intro e k;rw [Xl,Xb,KS,Bk,hl];simp only [Option.bind_some,HS];rw [Bb,decide_eq_true hn,c_t,Aav 10 _ _ _ cells _ hz,fz0];rfl
 ·intro k
  show (Fs own s0 fun _=>A0 own s0 (.row cells true) fun own=>k ⟨own,_⟩)=_
  rw [Bk,hl,Option.bind_some,Bu]
theorem AjX {ih:Aa} {f:FuncId} {w:FV} {s0 s2 len:Nat} {s u r e s' u' r' e':Int} {own own':List (Nat×Blk)} {es:List FV} {ro ro2:Bool} {a b c d t x:FV} (hr:Bx (ih f [.ptr (.ext 0) 0,.fv (.fp [a,b,.sl es,c,d,t,x] 0)] ⟨[],MX s u r e⟩) w (MX s' u' r' e'))
  (hl:Ap s0 own=some (.row [.fv a,.fv b,.slc (.own s2) 1 len,.fv c,.fv d,.fv t,.fv x] ro)) (hl2:Ap s2 own=some (.row (es.map .fv) ro2)) (hlen:es.length=len) (hne:s2≠s0) (hn:es.length≤300) (ha:∀x∈es,∀l,x≠.agg l)
  (ho:AN s2 (.row (es.map .fv) true) (AN s0 (.row [.fv a,.fv b,.slc (.own s2) 1 len,.fv c,.fv d,.fv t,.fv x] true) own)=own') (k:IV→Hp→List Ref→List Ref→Option (IV×Hp)) :
  Al [true,false] false false ih f [.ptr (.ext 0) 0,.ptr (.own s0) 0] ⟨own,MX s u r e⟩ k=k (.fv w) ⟨own',MX s' u' r' e'⟩ [.ext 1,.ext 0,.own s2,.own s0] [.own s0,.own s2,.ext 0,.ext 1]:=by
 subst ho hlen;refine AaR (ks:=[false]) (vs:=[.fp [a,b,.sl es,c,d,t,x] 0]) (u:=[(.own s0,.row [.fv a,.fv b,.slc (.own s2) 1 es.length,.fv c,.fv d,.fv t,.fv x] true),(.own s2,.row (es.map .fv) true)]) (lg:=[.own s2,.own s0]) ?_ (Akv ..) hr ?_ k
 ·intro e k;rw [Xl,ArA hl hl2 hn ha,fz0];rfl
 ·intro k;have h2:∀(own:List (Nat×Blk)) (b:Blk),Ap s2 (AN s0 b own)=Ap s2 own:=by
   intro own b
   induction own with
   | nil=>simp only [AN,Ap,if_neg hne]
   | cons p l ih =>
    obtain ⟨j,c⟩:=p;simp only [AN];split
    ·rename_i h;subst h;simp only [Ap,if_neg hne]
    ·simp only [Ap,ih]
  show (Fs own s0 fun _=>A0 own s0 _ fun own=>Fs own s2 fun _=>A0 own s2 _ fun own=>k ⟨own,_⟩)=_
  rw [Bk,hl,Option.bind_some,Bu,Bk,h2,hl2,Option.bind_some,Bu]
theorem AsO (e:List PV) (l:List FV):DE (PV.encEnv e::l)=DE l:=Vs (by cases e<;>rfl) l
structure M3 where
 s:Int
 w:Int
 e:Int
def HK (m:M3):Option M3:=if m.w < -1000000000∨1000000000<m.w then none else some ⟨m.s,m.w - 1,if m.w - 1<0∧m.e=0 then 17 else m.e⟩
theorem U7 {m m':M3} (h:HK m=some m') (r:Int) {n:Nat} (hn:0<n):Bx (SS dt n 77 [.ptr (.ext 0) 0] ⟨[],MX m.s m.w r m.e⟩) (.tuple []) (MX m'.s m'.w r m'.e):=by
 obtain ⟨n,rfl⟩:∃k,n=k+1:=⟨n - 1,by omega⟩;rw [c77];unfold HK at h;split at h
 ·cases h
 ·cases h;have hw:BI (m.w - 1)=m.w - 1:=by rw [As]<;>omega
  by_cases h1:m.w - 1<0
  ·by_cases h2:m.e=0
   ·simp only [S0,RX,U8,TC,S77,↓XX,XY,↓reduceIte,Nat.reduceBEq,Nat.reduceAdd,Int.reduceEq,Int.reduceLT,Int.reduceLE,hw,h1,h2,true_and,and_true,if_true];exact AJ _ _ _
   ·simp only [S0,RX,U8,TC,S77,↓XX,XY,↓reduceIte,Nat.reduceBEq,Nat.reduceAdd,Int.reduceEq,Int.reduceLT,Int.reduceLE,hw,h1,h2,and_false,if_false];exact AJ _ _ _
  ·simp only [S0,RX,U8,TC,S77,↓XX,XY,↓reduceIte,Nat.reduceBEq,Nat.reduceAdd,Int.reduceEq,Int.reduceLT,Int.reduceLE,hw,h1,false_and,if_false];exact AJ _ _ _
def GG (env:List PV) (m:Int):PV:=if m<env.length then env.getD m.toNat .nil else .var (env.length - 1 - m)
theorem VD:∀(env:List PV) (m:Int),0≤m→m≤2305843009213693952→∀n,env.length<n→Bc (BE n (fun q3 l4 h5=>Ot l4 h5 q3) [.fv (PV.encEnv env),iv m] ⟨[],[]⟩) (GG env m).enc:=by
 intro env m h0 h1 n hn;refine A6 (Q:=fun r=>Bc r _) (fun k V H=>∃(rest:List PV) (j:Int),rest.length=k∧0≤j+env.length∧j≤m∧V=[.fv (PV.encEnv rest),iv j]∧H=⟨[],[]⟩∧GG rest j=GG env m∧0≤j) ?_ n env.length _ _ hn ⟨env,m,rfl,by omega,Int.le_refl _,rfl,rfl,rfl,h0⟩;rintro k V H rec ⟨rest,j,hl,hj,hjm,rfl,rfl,hlk,hj0⟩ hrec;have hw:BI (-1 - j)=-1 - j:=by rw [As]<;>omega
 have hw2:BI (j - 1)=j - 1:=by rw [As]<;>omega
 cases rest with
 | nil =>
  have:GG ([]:List PV) j=.var (-1 - j):=by
   unfold GG;rw [if_neg (by simp<;>omega)];rfl
  rw [← hlk,this,Wu];simp only [Ut,S9,RT,Tq,Ot,S78,Wq,↓XX,XY,↓reduceIte,Nat.reduceBEq,Nat.reduceAdd,Int.reduceEq,Int.reduceLT,Int.reduceLE,hw];exact ⟨_,_,rfl,.inl ⟨_,_,fun _ _=>rfl⟩⟩
 | cons v rest =>
  by_cases hz:j=0
  ·subst hz
   have:GG (v::rest) 0=v:=by
    unfold GG;rw [if_pos (by simp<;>omega)];rfl
   rw [← hlk,this];simp only [Ut,S9,RT,Tq,Ot,S78,QC,↓XX,XY,↓reduceIte,Nat.reduceBEq,Nat.reduceAdd,Int.reduceEq,Int.reduceLT,Int.reduceLE];exact Ao _ _
  ·simp only [Ut,S9,RT,Tq,Ot,S78,QC,↓XX,XY,↓reduceIte,Nat.reduceBEq,Nat.reduceAdd,Int.reduceEq,Int.reduceLT,Int.reduceLE,hz,hw2];simp only [AwT] at hl;refine hrec rest.length _ _ (by omega) ⟨rest,j - 1,rfl,by omega,by omega,rfl,rfl,?_,by omega⟩;rw [← hlk];unfold GG;simp only [AwT,Int.natCast_add,Int.natCast_one];by_cases h:j<rest.length+1
   ·rw [if_pos h,if_pos (by omega)];obtain ⟨i,rfl⟩:∃i:Nat,j=i+1:=⟨(j - 1).toNat,by omega⟩;rw [show ((i:Int)+1 - 1).toNat=i by omega,show ((i:Int)+1).toNat=i+1 by omega]
    rfl
   ·rw [if_neg h,if_neg (by omega)];congr 1;omega
theorem WJ {n:Nat} (env:List PV) (m:Int) (h0:0≤m) (h1:m≤2305843009213693952) (hn:env.length+1<n):Bc (SS dt n 78 [.fv (PV.encEnv env),iv m] ⟨[],[]⟩) (GG env m).enc:=by
 obtain ⟨n,rfl⟩:∃k,n=k+1:=⟨n - 1,by omega⟩;rw [c78];exact VD env m h0 h1 n (by omega)
theorem AmI {n:Nat} (env l:List PV) (hl:l.length≤10) (hn:l.length+1<n):Bc (SS dt n 86 [.fv (PV.encEnv env),.fv (.sl (l.map PV.enc))] ⟨[],[]⟩) (PV.encEnv (l.reverse++env)):=by
 obtain ⟨n,rfl⟩:∃k,n=k+1:=⟨n - 1,by omega⟩;rw [c86];simp only [RQ,TH,S86,↓XX,XY,↓reduceIte,Nat.reduceBEq,Nat.reduceAdd,Int.reduceEq,Int.reduceLT,Int.reduceLE,↓AD,XD,heldB,AL,XE];refine A6 (Q:=fun r=>Bc r _) (fun k V H=>∃(pre rest:List PV),l=pre++rest∧rest.length=k∧V=[.fv (PV.encEnv (pre.reverse++env)),.fv (.sl (l.map PV.enc)),iv l.length,iv pre.length]∧H=⟨[],[]⟩) ?_ n l.length _ _ (by omega) ⟨[],l,rfl,rfl,rfl,rfl⟩;rintro k V H rec ⟨pre,rest,hk,hl2,rfl,rfl⟩ hrec;have hkl:l.length=pre.length+rest.length:=by rw [hk];simp
 cases rest with
 | nil =>
  have hno:¬ ((pre.length:Int)<l.length):=by rw [hkl];simp
  rw [List.append_nil] at hk;subst hk;simp only [RQ,TH,WN,S86,↓XX,XY,↓reduceIte,Nat.reduceBEq,Nat.reduceAdd,Int.reduceEq,Int.reduceLT,Int.reduceLE,hno];exact Ao _ _
 | cons x rest =>
  have hi:(pre.length:Int)<l.length:=by rw [hkl];simp;omega
  have hg:=Ce hk;have hwi:BI ((pre.length:Int)+1)=((pre++[x]).length:Int):=(As (by omega) (by omega)).trans (by simp);simp only [AwT] at hl2;simp only [RQ,TH,WN,S86,↓XX,XY,↓reduceIte,Nat.reduceBEq,Nat.reduceAdd,Int.reduceEq,Int.reduceLT,Int.reduceLE,hi,↓Apc hg,↓ArH,↓AgH,hwi,↓AD,XD,heldB,AL,XE];refine hrec rest.length _ _ (by omega) ⟨pre++[x],rest,by rw [hk];simp,rfl,?_,rfl⟩;simp [PV.encEnv]
end Idl
end Go.Proofs.Ytaifgaidaglblaa
namespace Go.Proofs.Ytaifgaidaglblaa
namespace Idl
def PV.op:PV→Int
 | .nil=>0
 | .mk op _ _ _ _=>op
def Nv (ev:Tm→M3→Option (PV×M3)) (op:Int):Nat→List Tm→M3→Option (List PV×M3)
 | _,[],m=>some ([],m)
 | i,t::l,m=>if 0<Ae op i then (Nv ev op (i+1) l m).map fun (vs,m)=>(.nil::vs,m) else
  match ev t m with
  | none=>none
  | some (v,m)=>(Nv ev op (i+1) l m).map fun (vs,m)=>(v::vs,m)
def Cu (op:Int):Bool:=op == 5 || (op == 8 || (op == 9 || (op == 13 || (op == 30 || op == 19))))
mutual
def Qc:Nat→List PV→Tm→M3→Option (PV×M3)
 | 0,_,_,_=>none
 | f+1,env,.mk op n ks,m=>match HK m with
  | none=>none
  | some m=>if op=1 then (if 0≤n∧n≤2305843009213693952∧env.length+1<f then some (GG env n,m) else none)
   else if f≤ks.length∨300<ks.length∨f=0 then none
   else if m.e≠0 then some (.mk op n (List.replicate ks.length .nil) (.mk op n ks) env,m)
   else match Nv (fun t m=>Qc f env t m) op 0 ks m with
    | none=>none
    | some (vs,m)=>if m.e≠0 then some (.mk op n vs (.mk op n ks) env,m) else ctP f (.mk op n vs (.mk op n ks) env) m
def ctP:Nat→PV→M3→Option (PV×M3)
 | 0,_,_=>none
 | f+1,v,m=>match v with
  | .nil=>none
  | .mk op n k t e=>if Cu op then (if m.e≠0 then some (.mk op n k t e,m) else if f=0 then none else match HK m with
    | none=>none
    | some m=>if m.e≠0 then some (.mk op n k t e,m) else match stP f (.mk op n k t e) m with
     | none=>none
     | some (.nil,m)=>some (.mk op n k t e,m)
     | some (u,m)=>if m.e≠0 then some (.mk op n k t e,m) else if m.s < -1000000000∨1000000000<m.s then none else
      some (u,⟨m.s - 1,m.w,if m.s - 1<0 then 17 else 0⟩))
   else some (.mk op n k t e,m)
def stP:Nat→PV→M3→Option (PV×M3)
 | 0,_,_=>none
 | f+1,v,m=>match v with
  | .nil=>none
  | .mk op n k t e=>if op=5 then (match k with
    | [.mk o0 n0 k0 t0 e0,x]=>if o0=4 then opP f (.mk o0 n0 k0 t0 e0) 1 [x] m else some (.nil,m)
    | _=>none)
   else if op=8∨op=9 then (match k with
    | [.mk o0 n0 k0 t0 e0]=>if o0=7 then (match k0 with
      | [_,x,y]=>some (if op=8 then x else y,m)
      | _=>none) else some (.nil,m)
    | _=>none)
   else if op=13 then (match k with
    | [_,z,_,.mk o3 n3 k3 t3 e3]=>if o3=11 then some (z,m) else if o3=12 then (match k3 with
      | [x]=>(match ctP f (.mk op n [.nil,z,.nil,x] t e) m with
       | none=>none
       | some (h,m)=>opP f (.mk op n k t e) 2 [x,h] m)
      | _=>none) else some (.nil,m)
    | _=>none)
   else (
      match k with
    | [.mk o0 n0 k0 t0 e0]=>if o0=(if op=30 then 19 else 30) then (match k0 with
      | [x]=>some (x,m)
      | _=>none) else some (.nil,m)
    | _=>none)
def opP:Nat→PV→Nat→List PV→M3→Option (PV×M3)
 | 0,_,_,_,_=>none
 | f+1,v,i,l,m=>match v with
  | .nil=>none
  | .mk _ _ _ (.mk _ _ tk) e=>if f≤l.length+1∨10<l.length then none else match tk[i]? with
   | none=>none
   | some b=>Qc f (l.reverse++e) b m
end
theorem tMk:(EE.T 100).map (·.kind)=some (.map 3 107):=by kernel_rfl
theorem tIk:(EE.T 3).map (·.kind)=some (.int .i64):=by kernel_rfl
theorem tRz:(EE.T 107).bind S8=some (.fv (.agg [.nilf])):=by kernel_rfl
def LS:List (Int×IV):=[(5,CV 72),(8,CV 73),(9,CV 73),(13,CV 74),(30,CV 75),(19,CV 76)]
theorem AqI (op:Int) (own:List (Nat×Blk)) (s w r e:Int):(Ha EE 100 (.mapr (.ext 1)) (iv op) true).runLog ⟨own,MX s w r e⟩ [] =
  some ((match C7 op LS with
   | some v=>({ eff:={ val:=Cx [v,.fv (.bool true)] } }:Made)
   | none=>{ eff:={ val:=Cx [.fv (.agg [.nilf]),.fv (.bool false)] } }),[.ext 1]):=by
 have h1:=tMk;have h2:=tIk;have h3:=tRz;cases hm:EE.T 100 with
 | none=>rw [hm] at h1;cases h1
 | some ti =>
  cases hi:EE.T 3 with
  | none=>rw [hi] at h2;cases h2
  | some ii =>
   cases hr:EE.T 107 with
   | none=>rw [hr] at h3;cases h3
   | some ri =>
    rw [hm] at h1;rw [hi] at h2;rw [hr] at h3;obtain ⟨a,b,kd,z⟩:=ti;obtain ⟨a2,b2,kd2,z2⟩:=ii;simp only [AwS,AwP] at h1 h2;simp only [Option.bind_some] at h3;subst h1 h2;simp only [Ha,hm,hi,hr,Xa,Rd.runLog,Hp.get,MX,List.getElem?_cons_succ,List.getElem?_cons_zero]
    show (match C7 op LS with | some v=>val (Cx [v,.fv (.bool true)]) | none=>_).runLog _ _=_
    cases C7 op LS with
    | some v=>rfl
    | none=>simp only [h3];rfl
theorem MF {op:Int} {g:FuncId} (hg:C7 op LS=some (CV g)) (s0:Nat) (own:List (Nat×Blk)) (s w r e:Int) (k:IV→Hp→List Ref→List Ref→Option (IV×Hp)) :
  Ay (Ha EE 100 (.mapr (.ext 1)) (iv op) true) s0 ⟨own,MX s w r e⟩ k=k (.tuple [CV g,.fv (.bool true)]) ⟨own,MX s w r e⟩ [.ext 1] []:=by
 unfold Ay;rw [AqI,hg];simp only [J7,CB];rfl
theorem AjD {op:Int} (hg:C7 op LS=none) (s0:Nat) (own:List (Nat×Blk)) (s w r e:Int) (k:IV→Hp→List Ref→List Ref→Option (IV×Hp)) :
  Ay (Ha EE 100 (.mapr (.ext 1)) (iv op) true) s0 ⟨own,MX s w r e⟩ k=k (.fv (.tuple [.agg [.nilf],.bool false])) ⟨own,MX s w r e⟩ [.ext 1] []:=by
 unfold Ay;rw [AqI,hg];simp only [J7,CB];rfl
theorem Abf (op:Int):C7 op LS=if op=5 then some (CV 72) else if op=8∨op=9 then some (CV 73) else if op=13 then some (CV 74) else
  if op=30 then some (CV 75) else if op=19 then some (CV 76) else none:=by
 simp only [LS,C7];split
 ·rfl
 ·split
  ·rename_i h;rw [if_pos (.inl h)]
  ·split
   ·rename_i h;rw [if_pos (.inr h)]
   ·rename_i h1 h2;simp only [h1,h2,or_self,if_false]
theorem Ws {g:FuncId} (h:EE.pol.inl g=false) (h1:EE.pol.keep g=[true,false]) (h2:EE.pol.split g=false) (h3:EE.pol.raw g=false) (ih:Aa) (x:IV) (h0:Hp) (k:IV→Hp→List Ref→List Ref→Option (IV×Hp)) :
  D8 EE ih (.func (.func g) [.ptr (.ext 0) 0] []) [x] h0 k=Al [true,false] false false ih g [.ptr (.ext 0) 0,x] h0 k:=by
 unfold D8;simp only [callee,h,cond_false,AjZ,h1,h2,h3];rfl
theorem AmP (ih:Aa) (x:IV) (h0:Hp) (k:IV→Hp→List Ref→List Ref→Option (IV×Hp)):D8 EE ih (.func (.func 72) [.ptr (.ext 0) 0] []) [x] h0 k=Al [true,false] false false ih 72 [.ptr (.ext 0) 0,x] h0 k :=
 Ws (by kernel_rfl) (by kernel_rfl) (by kernel_rfl) (by kernel_rfl) ..
theorem AcE (ih:Aa) (x:IV) (h0:Hp) (k:IV→Hp→List Ref→List Ref→Option (IV×Hp)):D8 EE ih (.func (.func 73) [.ptr (.ext 0) 0] []) [x] h0 k=Al [true,false] false false ih 73 [.ptr (.ext 0) 0,x] h0 k :=
 Ws (by kernel_rfl) (by kernel_rfl) (by kernel_rfl) (by kernel_rfl) ..
theorem Aqf (ih:Aa) (x:IV) (h0:Hp) (k:IV→Hp→List Ref→List Ref→Option (IV×Hp)):D8 EE ih (.func (.func 74) [.ptr (.ext 0) 0] []) [x] h0 k=Al [true,false] false false ih 74 [.ptr (.ext 0) 0,x] h0 k :=
 Ws (by kernel_rfl) (by kernel_rfl) (by kernel_rfl) (by kernel_rfl) ..
theorem Ap1 (ih:Aa) (x:IV) (h0:Hp) (k:IV→Hp→List Ref→List Ref→Option (IV×Hp)):D8 EE ih (.func (.func 75) [.ptr (.ext 0) 0] []) [x] h0 k=Al [true,false] false false ih 75 [.ptr (.ext 0) 0,x] h0 k :=
 Ws (by kernel_rfl) (by kernel_rfl) (by kernel_rfl) (by kernel_rfl) ..
theorem AoR (ih:Aa) (x:IV) (h0:Hp) (k:IV→Hp→List Ref→List Ref→Option (IV×Hp)):D8 EE ih (.func (.func 76) [.ptr (.ext 0) 0] []) [x] h0 k=Al [true,false] false false ih 76 [.ptr (.ext 0) 0,x] h0 k :=
 Ws (by kernel_rfl) (by kernel_rfl) (by kernel_rfl) (by kernel_rfl) ..
theorem ZW (cs:List FV) (o:Nat) (k:IV→Option (IV×Hp)):A5 EE 98 (.fv (.fp cs o)) (.fv .nilp) k=k (.fv (.bool false)):=by
 have:Gc EE .eql 98 (.fv (.fp cs o)) (.fv .nilp)=some (.fv (.bool false)):=by
  simp only [Gc,tPp];rfl
 show CO (Gc EE .eql 98 (.fv (.fp cs o)) (.fv .nilp)) k=_
 rw [this];rfl
theorem Ac8 (k:IV→Option (IV×Hp)):A5 EE 98 (.fv .nilp) (.fv .nilp) k=k (.fv (.bool true)):=by
 have:Gc EE .eql 98 (.fv .nilp) (.fv .nilp)=some (.fv (.bool true)):=by
  simp only [Gc,tPp];rfl
 show CO (Gc EE .eql 98 (.fv .nilp) (.fv .nilp)) k=_
 rw [this];rfl
theorem Jf (g:FuncId) (s0:Nat) (ext:List Blk) (k:Hp→List Ref→List Ref→Option (IV×Hp)):Ak 1 (.ptr (.own s0) 0) (CV g) ⟨[(s0,.row [.fv .nilf] false)],ext⟩ k=k ⟨[(s0,.row [.func (.func g) [.ptr (.ext 0) 0] []] false)],ext⟩ [.own s0] [.own s0]:=by
 simp only [Ak,Yp,XF,KS,Al2,AbZ];rw [if_pos ⟨rfl,rfl,by simp,rfl,rfl⟩,AjZ]
 show Ge (.own s0) (.row [.func (.func g) [.ptr (.ext 0) 0] []] false) _ _=_
 rw [AdE,Amq]
def AjY (f:Nat):Prop:=∀(env:List PV) (t:Tm) (m m':M3) (v:PV),Qc f env t m=some (v,m')→∀(r:Int) (n:Nat),f+1≤n →
 Bx (SS dt n 65 [.ptr (.ext 0) 0,.fv (PV.encEnv env),.fv t.enc] ⟨[],MX m.s m.w r m.e⟩) v.enc (MX m'.s m'.w r m'.e)
def Akw (f:Nat):Prop:=∀(v u:PV) (m m':M3),ctP f v m=some (u,m')→∀(r:Int) (n:Nat),f+1≤n →
 Bx (SS dt n 80 [.ptr (.ext 0) 0,.fv v.enc] ⟨[],MX m.s m.w r m.e⟩) u.enc (MX m'.s m'.w r m'.e)
def JQ (op:Int):FuncId:=if op=5 then 72 else if op=8∨op=9 then 73 else if op=13 then 74 else if op=30 then 75 else 76
def AnB (f:Nat):Prop:=∀(v u:PV) (m m':M3),Cu v.op=true→stP f v m=some (u,m')→∀(r:Int) (n:Nat),f+1≤n →
 Bx (SS dt n (JQ v.op) [.ptr (.ext 0) 0,.fv v.enc] ⟨[],MX m.s m.w r m.e⟩) u.enc (MX m'.s m'.w r m'.e)
def AhZ (f:Nat):Prop:=∀(v u:PV) (i:Nat) (l:List PV) (m m':M3),opP f v i l m=some (u,m')→∀(r:Int) (n:Nat),f+1≤n →
 Bx (SS dt n 81 [.ptr (.ext 0) 0,.fv v.enc,iv i,.fv (.sl (l.map PV.enc))] ⟨[],MX m.s m.w r m.e⟩) u.enc (MX m'.s m'.w r m'.e)
theorem Hb {op:Int} (h:Cu op=true):C7 op LS=some (CV (JQ op)):=by
 rw [Abf];unfold JQ;simp only [Cu,Bool.or_eq_true,beq_iff_eq] at h;rcases h with h | h | h | h | h | h<;>subst h<;>rfl
theorem AeU {op:Int} (h:Cu op=false):C7 op LS=none:=by
 rw [Abf];simp only [Cu,Bool.or_eq_false_iff,beq_eq_false_iff_ne,ne_eq] at h;obtain ⟨h1,h2,h3,h4,h5,h6⟩:=h;simp only [h1,h2,h3,h4,h5,h6,or_self,if_false]
theorem NX {op:Int} (h:Cu op=true) (ih:Aa) (x:IV) (h0:Hp) (k:IV→Hp→List Ref→List Ref→Option (IV×Hp)) :
  D8 EE ih (.func (.func (JQ op)) [.ptr (.ext 0) 0] []) [x] h0 k=Al [true,false] false false ih (JQ op) [.ptr (.ext 0) 0,x] h0 k:=by
 simp only [Cu,Bool.or_eq_true,beq_iff_eq] at h;rcases h with h | h | h | h | h | h<;>subst h
 ·exact AmP ..
 ·exact AcE ..
 ·exact AcE ..
 ·exact Aqf ..
 ·exact Ap1 ..
 ·exact AoR ..
set_option maxHeartbeats 1000000 in
theorem AlO {f:Nat} (hs:AnB f):Akw (f+1):=by
 intro v u m m' hev r n hn;obtain ⟨n,rfl⟩:∃k,n=k+1:=⟨n - 1,by omega⟩;rw [c80];cases v with
 | nil=>rw [ctP] at hev;cases hev
 | mk op nn k t e =>
 rw [ctP] at hev;have hs:=hs (.mk op nn k t e);obtain ⟨bo,bn,bk⟩:=t;rw [AW] at hs ⊢;cases hr:Cu op with
 | false =>
  simp only [hr,Bool.false_eq_true,if_false,AwP,AwQ] at hev;obtain ⟨rfl,rfl⟩:=hev;rw [AW];simp only [↓WW,↓XX,XY,↓reduceIte,Nat.reduceBEq,Nat.reduceAdd,Int.reduceEq,Int.reduceLT,Int.reduceLE,↓AjD (AeU hr)];exact AJ _ _ _
 | true =>
  simp only [hr,if_true] at hev;by_cases h0:m.e≠0
  ·rw [if_pos h0] at hev;simp only [AwP,AwQ] at hev;obtain ⟨rfl,rfl⟩:=hev;rw [AW];simp only [↓WW,↓XX,XY,↓reduceIte,Nat.reduceBEq,Nat.reduceAdd,Int.reduceEq,Int.reduceLT,Int.reduceLE,↓MF (Hb hr),↓Jf,h0];exact AJ _ _ _
  ·rw [if_neg h0] at hev;have h0:m.e=0:=by simpa using h0
   split at hev
   ·cases hev
   ·rename_i hf0;cases ht:HK m with
    | none=>rw [ht] at hev;cases hev
    | some m1 =>
     rw [ht] at hev;simp only at hev;have hc1:=U7 ht r (n:=n) (by omega);by_cases h1:m1.e≠0
     ·rw [if_pos h1] at hev;simp only [AwP,AwQ] at hev;obtain ⟨rfl,rfl⟩:=hev;rw [AW];simp only [h0] at hc1;simp only [↓WW,↓XX,XY,↓reduceIte,Nat.reduceBEq,Nat.reduceAdd,Int.reduceEq,Int.reduceLT,Int.reduceLE,↓MF (Hb hr),↓Jf,h0,↓Gd _ _ hc1,h1];exact AJ _ _ _
     ·rw [if_neg h1] at hev;have h1:m1.e=0:=by simpa using h1
      cases hst:stP f (.mk op nn k (.mk bo bn bk) e) m1 with
      | none=>rw [hst] at hev;cases hev
      | some q =>
       obtain ⟨x,m2⟩:=q;rw [hst] at hev;have hc2:=hs x m1 m2 hr hst r n (by omega);simp only [PV.op] at hc2;simp only [h0] at hc1;simp only [h1] at hc1 hc2;cases x with
       | nil =>
        simp only [AwP,AwQ] at hev;obtain ⟨rfl,rfl⟩:=hev;rw [AW];rw [GZ] at hc2;simp only [↓WW,↓XX,XY,↓reduceIte,Nat.reduceBEq,Nat.reduceAdd,Int.reduceEq,Int.reduceLT,Int.reduceLE,↓MF (Hb hr),↓Jf,h0,↓Gd _ _ hc1,h1,↓NX hr,↓UT _ _ hc2,↓ZW,↓Ac8];exact AJ _ _ _
       | mk op2 nn2 k2 t2 e2 =>
        simp only at hev;obtain ⟨bo2,bn2,bk2⟩:=t2;by_cases h2:m2.e≠0
        ·rw [if_pos h2] at hev;simp only [AwP,AwQ] at hev;obtain ⟨rfl,rfl⟩:=hev;rw [AW] at hc2 ⊢;simp only [↓WW,↓XX,XY,↓reduceIte,Nat.reduceBEq,Nat.reduceAdd,Int.reduceEq,Int.reduceLT,Int.reduceLE,↓MF (Hb hr),↓Jf,h0,↓Gd _ _ hc1,h1,↓NX hr,↓UT _ _ hc2,↓ZW,↓Ac8,h2];exact AJ _ _ _
        ·rw [if_neg h2] at hev;have h2:m2.e=0:=by simpa using h2
         split at hev
         ·cases hev
         ·simp only [AwP,AwQ] at hev;obtain ⟨rfl,rfl⟩:=hev;have hw:BI (m2.s - 1)=m2.s - 1:=by rw [As]<;>omega
          rw [AW] at hc2 ⊢;simp only [h2] at hc2;by_cases h3:m2.s - 1<0
          ·simp only [↓WW,↓XX,XY,↓reduceIte,Nat.reduceBEq,Nat.reduceAdd,Int.reduceEq,Int.reduceLT,Int.reduceLE,↓MF (Hb hr),↓Jf,h0,↓Gd _ _ hc1,h1,↓NX hr,↓UT _ _ hc2,↓ZW,↓Ac8,h2,hw,h3];exact AJ _ _ _
          ·simp only [↓WW,↓XX,XY,↓reduceIte,Nat.reduceBEq,Nat.reduceAdd,Int.reduceEq,Int.reduceLT,Int.reduceLE,↓MF (Hb hr),↓Jf,h0,↓Gd _ _ hc1,h1,↓NX hr,↓UT _ _ hc2,↓ZW,↓Ac8,h2,hw,h3];exact AJ _ _ _
theorem ixg {β:Type} {l:List FV} {i:Nat} {x:FV} (h:l[i]?=some x) (hx:x.cells=[x]) (k:IV→Option β):A7 1 (.fv (.sl l)) (iv i) k=k (.fv (.fp [x] 0)):=by
 rw [Bq h (by rw [hx];rfl),hx]
section
variable {β:Type} (a b c:FV) (l:List FV) (cs:List FV) (o:Nat) (v:PV) (k:IV→Option β)
theorem AtQ:A7 1 (.fv (.sl (.fp cs o::l))) (iv 0) k=k (.fv (.fp [.fp cs o] 0)):=ixg (i:=0) rfl rfl k
theorem AtA:A7 1 (.fv (.sl (v.enc::l))) (iv 0) k=k (.fv (.fp [v.enc] 0)):=ixg (i:=0) rfl (En v) k
theorem AtB:A7 1 (.fv (.sl (a :: .fp cs o::l))) (iv 1) k=k (.fv (.fp [.fp cs o] 0)):=ixg (i:=1) rfl rfl k
theorem At0:A7 1 (.fv (.sl (a::v.enc::l))) (iv 1) k=k (.fv (.fp [v.enc] 0)):=ixg (i:=1) rfl (En v) k
theorem Aud:A7 1 (.fv (.sl (a::b :: .fp cs o::l))) (iv 2) k=k (.fv (.fp [.fp cs o] 0)):=ixg (i:=2) rfl rfl k
theorem AtK:A7 1 (.fv (.sl (a::b::v.enc::l))) (iv 2) k=k (.fv (.fp [v.enc] 0)):=ixg (i:=2) rfl (En v) k
theorem Atv:A7 1 (.fv (.sl (a::b::c :: .fp cs o::l))) (iv 3) k=k (.fv (.fp [.fp cs o] 0)):=ixg (i:=3) rfl rfl k
theorem AtT:A7 1 (.fv (.sl (a::b::c::v.enc::l))) (iv 3) k=k (.fv (.fp [v.enc] 0)):=ixg (i:=3) rfl (En v) k
end
def XI:=AwO @AtQ<|AwO @AtB<|AwO @Aud<|AwO @Atv<|AwO @AtA<|AwO @At0<|AwO @AtK @AtT
theorem Arp {β:Type} (o p:Nat) (cs:List FV) (k:IV→Option β):Ac o (.fv (.fp cs p)) k=k (.fv (.fp cs (p+o))):=by rw [QM]
theorem AmY (s:Nat) (b:Blk) (l:List (Nat×Blk)):Ap s ((s,b)::l)=some b:=by simp only [Ap,if_true]
theorem AkL {f:Nat} (he:AjY f):AhZ (f+1):=by
 intro v u i l m m' hev r n hn;obtain ⟨n,rfl⟩:∃k,n=k+1:=⟨n - 1,by omega⟩;rw [c81];cases v with
 | nil=>rw [opP] at hev;cases hev
 | mk op nn k t e =>
 obtain ⟨bo,bn,bk⟩:=t;rw [opP] at hev;split at hev
 ·cases hev
 ·rename_i hf;cases hb:bk[i]? with
  | none=>rw [hb] at hev;cases hev
  | some b =>
   rw [hb] at hev;simp only at hev;have hw:=AmI (n:=n) e l (by omega) (by omega);have hc:=he _ _ _ _ _ hev r n (by omega);rw [AW];obtain ⟨b1,b2,b3⟩:=b;have hg:=AO hb;rw [Ai] at hc;simp only [Af5,AiB,S81,↓XX,XY,↓reduceIte,Nat.reduceBEq,Nat.reduceAdd,Int.reduceEq,Int.reduceLT,Int.reduceLE,↓Ag hw,↓Bq hg (A9 _ _ _),↓Cb,↓Arp,↓Agf _ _ hc];exact AJ _ _ _
theorem VA {n:Nat} (hn:0<n) (op nn:Int) (o0 n0:Int) (k0:List PV) (t0:Tm) (e0:List PV) (t:Tm) (e:List PV) (want:Int) (hk:o0=want→∃x,k0=[x]) :
  Bc (SS dt n 84 [.fv (PV.mk op nn [.mk o0 n0 k0 t0 e0] t e).enc,iv want] ⟨[],[]⟩) (if o0=want then k0.headD .nil else .nil).enc:=by
 obtain ⟨n,rfl⟩:∃k,n=k+1:=⟨n - 1,by omega⟩;rw [c84];obtain ⟨bo,bn,bk⟩:=t;obtain ⟨co,cn,ck⟩:=t0;rw [AW,AwV,AwU,AW];by_cases h:o0=want
 ·obtain ⟨x,rfl⟩:=hk h;rw [if_pos h];simp only [X0,Yk,X3,S84,↓XX,XY,↓reduceIte,Nat.reduceBEq,Nat.reduceAdd,Int.reduceEq,Int.reduceLT,Int.reduceLE,↓XI,h,List.headD_cons];exact Ao _ _
 ·rw [if_neg h,GZ];simp only [X0,Yk,X3,S84,↓XX,XY,↓reduceIte,Nat.reduceBEq,Nat.reduceAdd,Int.reduceEq,Int.reduceLT,Int.reduceLE,↓XI,h];exact Ao _ _
theorem AjR {f:Nat} (hc:Akw f) (ho:AhZ f):AnB (f+1):=by
 intro v u m m' hr hev r n hn;obtain ⟨n,rfl⟩:∃k,n=k+1:=⟨n - 1,by omega⟩;cases v with
 | nil=>rw [stP] at hev;cases hev
 | mk op nn k t e =>
 obtain ⟨bo,bn,bk⟩:=t;rw [stP.eq_def] at hev;simp only at hev;simp only [PV.op] at hr ⊢;by_cases h5:op=5
 ·subst h5;rw [if_pos rfl] at hev;rw [show JQ 5=72 from rfl,c72]
  match k,hev with
  | [.mk o0 n0 k0 t0 e0,x],hev =>
   simp only at hev;obtain ⟨co,cn,ck⟩:=t0;by_cases h4:o0=4
   ·subst h4;rw [if_pos rfl] at hev;have hq:=ho _ _ _ _ _ _ hev r n (by omega);rw [AW] at hq ⊢;simp only [AwV,AwU,AW] at hq ⊢;simp only [XO,WT,Xd,S72,↓XX,XY,↓reduceIte,Nat.reduceBEq,Nat.reduceAdd,Int.reduceEq,Int.reduceLT,Int.reduceLE,↓XI,↓AqY,↓S7 _ _ hq];exact AJ _ _ _
   ·rw [if_neg h4] at hev;simp only [AwP,AwQ] at hev;obtain ⟨rfl,rfl⟩:=hev;rw [AW];simp only [AwV,AwU,AW,GZ];simp only [XO,WT,Xd,S72,↓XX,XY,↓reduceIte,Nat.reduceBEq,Nat.reduceAdd,Int.reduceEq,Int.reduceLT,Int.reduceLE,↓XI,h4];exact AJ _ _ _
 ·rw [if_neg h5] at hev;by_cases h8:op=8∨op=9
  ·rw [if_pos h8] at hev;rw [show JQ op=73 by rcases h8 with rfl | rfl<;>rfl,c73]
   match k,hev with
   | [.mk o0 n0 k0 t0 e0],hev =>
    simp only at hev;obtain ⟨co,cn,ck⟩:=t0;by_cases h7:o0=7
    ·subst h7;rw [if_pos rfl] at hev
     match k0,hev with
     | [w,x,y],hev =>
      simp only [AwP,AwQ] at hev;obtain ⟨rfl,rfl⟩:=hev;rw [AW];simp only [AwV,AwU,AW];rcases h8 with rfl | rfl
      ·simp only [Sl,TR,Rh,SB,S73,↓XX,XY,↓reduceIte,Nat.reduceBEq,Nat.reduceAdd,Int.reduceEq,Int.reduceLT,Int.reduceLE,↓XI];exact AJ _ _ _
      ·simp only [Sl,TR,Rh,SB,S73,↓XX,XY,↓reduceIte,Nat.reduceBEq,Nat.reduceAdd,Int.reduceEq,Int.reduceLT,Int.reduceLE,↓XI];exact AJ _ _ _
    ·rw [if_neg h7] at hev;simp only [AwP,AwQ] at hev;obtain ⟨rfl,rfl⟩:=hev;rw [AW];simp only [AwV,AwU,AW,GZ];simp only [Sl,TR,Rh,SB,S73,↓XX,XY,↓reduceIte,Nat.reduceBEq,Nat.reduceAdd,Int.reduceEq,Int.reduceLT,Int.reduceLE,↓XI,h7];exact AJ _ _ _
  ·rw [if_neg h8] at hev;by_cases h13:op=13
   ·subst h13;rw [if_pos rfl] at hev;rw [show JQ 13=74 from rfl,c74]
    match k,hev with
    | [p0,z,p2,.mk o3 n3 k3 t3 e3],hev =>
     simp only at hev;obtain ⟨co,cn,ck⟩:=t3;by_cases h11:o3=11
     ·subst h11;rw [if_pos rfl] at hev;simp only [AwP,AwQ] at hev;obtain ⟨rfl,rfl⟩:=hev;rw [AW];simp only [AwV,AwU,AW];simp only [Sj,Va,Sq,SF,Tz,Tt,Su,Sy,SM,Sn,S74,↓XX,XY,↓reduceIte,Nat.reduceBEq,Nat.reduceAdd,Int.reduceEq,Int.reduceLT,Int.reduceLE,↓XI];exact AJ _ _ _
     ·rw [if_neg h11] at hev;by_cases h12:o3=12
      ·subst h12;rw [if_pos rfl] at hev
       match k3,hev with
       | [x],hev =>
        simp only at hev;cases hcc:ctP f (.mk 13 nn [.nil,z,.nil,x] (.mk bo bn bk) e) m with
        | none=>rw [hcc] at hev;cases hev
        | some q =>
         obtain ⟨h,m1⟩:=q;rw [hcc] at hev;have hq1:=hc _ _ _ _ hcc r n (by omega);have hq2:=ho _ _ _ _ _ _ hev r n (by omega);rw [AW] at hq1 hq2 ⊢;simp only [AwV,AwU,AW,GZ] at hq1 hq2 ⊢;simp only [Sj,Va,Sq,SF,Tz,Tt,Su,Sy,SM,Sn,S74,↓XX,XY,↓reduceIte,Nat.reduceBEq,Nat.reduceAdd,Int.reduceEq,Int.reduceLT,Int.reduceLE,↓XI,↓Arw,↓AsO];rw [AlJ hq1 (s0:=77600771) (AmY ..) rfl (by simp)];simp only [↓XX,XY,↓reduceIte,Nat.reduceBEq,Nat.reduceAdd,Int.reduceEq,Int.reduceLT,Int.reduceLE,↓ArO,↓S7 _ _ hq2];exact AJ _ _ _
      ·rw [if_neg h12] at hev;simp only [AwP,AwQ] at hev;obtain ⟨rfl,rfl⟩:=hev;rw [AW];simp only [AwV,AwU,AW,GZ];simp only [Sj,Va,Sq,SF,Tz,Tt,Su,Sy,SM,Sn,S74,↓XX,XY,↓reduceIte,Nat.reduceBEq,Nat.reduceAdd,Int.reduceEq,Int.reduceLT,Int.reduceLE,↓XI,h11,h12];exact AJ _ _ _
   ·rw [if_neg h13] at hev
    match k,hev with
    | [.mk o0 n0 k0 t0 e0],hev =>
     simp only at hev;have h30:op=30∨op=19:=by
      simp only [Cu,Bool.or_eq_true,beq_iff_eq] at hr;omega
     have hu:((o0=(if op=30 then 19 else 30)→∃x,k0=[x])∧(if o0=(if op=30 then 19 else 30) then k0.headD .nil else .nil)=u∧m=m'):=by
      by_cases ho0:o0=(if op=30 then 19 else 30)
      ·rw [if_pos ho0] at hev
       match k0,hev with
       | [x],hev =>
        simp only [AwP,AwQ] at hev;obtain ⟨rfl,rfl⟩:=hev;exact ⟨fun _=>⟨_,rfl⟩,by rw [if_pos ho0];rfl,rfl⟩
      ·rw [if_neg ho0] at hev;simp only [AwP,AwQ] at hev;obtain ⟨rfl,rfl⟩:=hev;exact ⟨fun h=>absurd h ho0,by rw [if_neg ho0],rfl⟩
     obtain ⟨hu1,rfl,rfl⟩:=hu;rcases h30 with rfl | rfl
     ·rw [show JQ 30=75 from rfl,c75]
      rw [show (if (30:Int)=30 then (19:Int) else 30)=19 from rfl] at hu1 ⊢
      have hw:=VA (n:=n) (by omega) 30 nn o0 n0 k0 t0 e0 (.mk bo bn bk) e 19 hu1;simp only [S75,↓XX,XY,↓reduceIte,Nat.reduceBEq,Nat.reduceAdd,Int.reduceEq,Int.reduceLT,Int.reduceLE,↓Ag hw];exact AJ _ _ _
     ·rw [show JQ 19=76 from rfl,c76]
      rw [show (if (19:Int)=30 then (19:Int) else 30)=30 from rfl] at hu1 ⊢
      have hw:=VA (n:=n) (by omega) 19 nn o0 n0 k0 t0 e0 (.mk bo bn bk) e 30 hu1;simp only [S76,↓XX,XY,↓reduceIte,Nat.reduceBEq,Nat.reduceAdd,Int.reduceEq,Int.reduceLT,Int.reduceLE,↓Ag hw];exact AJ _ _ _
end Idl
end Go.Proofs.Ytaifgaidaglblaa

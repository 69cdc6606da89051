/-
  Texts of a proof, part 12: an ideal semantics of the program, its functions in shallow form, contracts of them. No statement of the seat is proved here.
-/
import Derived.Test.YtkfecngimlcfoaaStageWrapK11
set_option linter.all false
noncomputable section
namespace Go.Proofs.Ytkfecngimlcfoaa
namespace Idl
def Hit (g:Cz) (st:Int) (a:Tm) (i:Nat):Prop:=i<g.length∧∃T f w,g[g.length - 1 - i]?=some (st,T)∧AT f (T.shift ((i+1:Nat):Int) 0)=some (w,0)∧w.eta=a.eta
inductive Gr:Nat→Nat→Cz→Tm→Tm→Prop
 | tnat (e:Nat) (g:Cz) (a:Tm):Gr 0 e g a (.mk 10 0 [])
 | tty (e:Nat) (g:Cz) (a:Tm):Gr 0 e g a (.mk 14 0 [])
 | tu (e:Nat) (g:Cz) (a:Tm):Gr 0 e g a (.mk 2 0 [])
 | tlp (e:Nat) (g:Cz) (a r:Tm):Gr 0 e g a (.mk 18 0 [r.plainT 1])
 | tpi (e:Nat) (g:Cz) (a x y:Tm) (op:Int) (ho:op=3∨op=6) (h6:6≤e) (hgl:g.length≤60) (hx:AOk g.length x) (h1:Gr 0 (e - 1) g .z x) (h2:Gr 0 (e - 1) (g++[(1,x)]) .z y):Gr 0 e g a (.mk op 0 [x,y])
 | tlift (e:Nat) (g:Cz) (a t:Tm) (h6:6≤e) (h1:Gr 1 (e - 1) g (.mk 14 0 []) t):Gr 0 e g a (.mk 18 0 [t])
 | grow (e:Nat) (g:Cz) (a0 a t:Tm) (f:Nat) (hn:AT f a0=some (a,0)) (hg:g.length≤60) (ha:NOk g.length a) (h1:Gr 3 e g a t):Gr 1 e g a0 t
 | objc (e:Nat) (g:Cz) (a0 a t:Tm) (f:Nat) (hn:AT f a0=some (a,0)) (hg:g.length≤60) (ha:NOk g.length a) (h1:Gr 4 e g a t):Gr 2 e g a0 t
 | var1 (e:Nat) (g:Cz) (a:Tm) (i:Nat) (h:Hit g 1 a i):Gr 3 e g a (.mk 1 i [])
 | var0 (e:Nat) (g:Cz) (a:Tm) (i:Nat) (h:Hit g 0 a i):Gr 4 e g a (.mk 1 i [])
 | fst (e:Nat) (g:Cz) (a b c x:Tm) (h6:6≤e) (hb:AOk g.length b) (h1:Gr 0 6 g .z b) (h2:Gr 1 (e - 2) g b x) (h3:Gr 1 (e - 2) g a c):Gr 3 e g a (.mk 8 0 [.mk 7 0 [.mk 6 0 [a,b.shift 1 0],c,x]])
 | app (e:Nat) (g:Cz) (a b c x:Tm) (h6:6≤e) (hb:AOk g.length b) (h1:Gr 0 6 g .z b) (h2:Gr 1 (e - 2) g b x) (h3:Gr 1 (e - 2) (g++[(1,b)]) (a.shift 1 0) c):Gr 3 e g a (.mk 5 0 [.mk 4 0 [b,c],x])
 | recc (e:Nat) (g:Cz) (a n z s:Tm) (h6:6≤e) (ha:a.op=10∨a.op=14) (h1:Gr 1 (e - 2) g (.mk 10 0 []) n) (h2:Gr 1 (e - 2) g a z) (h3:Gr 1 (e - 2) (g++[(1,.mk 10 0 [])]++[(1,a.shift 1 0)]) (a.shift 2 0) s):Gr 3 e g a (.mk 13 0 [a.shift 1 0,z,s,n])
 | suc (e:Nat) (g:Cz) (a n:Tm) (h6:6≤e) (ha:a.op=10) (h1:Gr 1 (e - 1) g a n):Gr 3 e g a (.mk 12 0 [n])
 | num (e:Nat) (g:Cz) (a:Tm) (j:Nat) (ha:a.op=10) (hj:j≤3):Gr 3 e g a (Hk j)
 | tint (e:Nat) (g:Cz) (a:Tm) (ha:a.op=14):Gr 3 e g a (.mk 15 0 [])
 | tfun (e:Nat) (g:Cz) (a x y:Tm) (op:Int) (ho:op=16∨op=17) (h6:6≤e) (ha:a.op=14) (h1:Gr 1 (e - 1) g a x) (h2:Gr 1 (e - 1) g a y):Gr 3 e g a (.mk op 0 [x,y])
 | uni (e:Nat) (g:Cz) (a:Tm) (n:Int) (ha:a.op=2):Gr 3 e g a (.mk 2 n [])
 | unat (e:Nat) (g:Cz) (a:Tm) (ha:a.op=2):Gr 3 e g a (.mk 10 0 [])
 | uty (e:Nat) (g:Cz) (a:Tm) (ha:a.op=2):Gr 3 e g a (.mk 14 0 [])
 | ult (e:Nat) (g:Cz) (a:Tm) (ha:a.op=2):Gr 3 e g a (.mk 18 0 [.mk 15 0 []])
 | upi (e:Nat) (g:Cz) (a x y:Tm) (op:Int) (ho:op=3∨op=6) (h6:6≤e) (ha:a.op=2) (hx:AOk g.length x) (h1:Gr 1 (e - 1) g a x) (h2:Gr 1 (e - 1) (g++[(1,x)]) a y):Gr 3 e g a (.mk op 0 [x,y])
 | lam (e:Nat) (g:Cz) (n:Int) (d c x:Tm) (h1:Gr 1 (e - 1) (g++[(1,d)]) c x):Gr 3 e g (.mk 3 n [d,c]) (.mk 4 0 [d,x])
 | pair (e:Nat) (g:Cz) (n:Int) (d c x y:Tm) (hx:AOk g.length x) (h1:Gr 1 (e - 1) g d x) (h2:Gr 1 (e - 1) g (c.subst 0 0 x) y):Gr 3 e g (.mk 6 n [d,c]) (.mk 7 0 [.mk 6 n [d,c],x,y])
 | quo (e:Nat) (g:Cz) (n:Int) (d x:Tm) (h1:Gr 2 (e - 1) g d x):Gr 3 e g (.mk 18 n [d]) (.mk 19 0 [x])
 | oif (e:Nat) (g:Cz) (a c x y:Tm) (h6:6≤e) (h1:Gr 2 (e - 2) g (.mk 15 0 []) c) (h2:Gr 2 (e - 2) g a x) (h3:Gr 2 (e - 2) g a y):Gr 4 e g a (.mk 27 0 [c,x,y])
 | olet (e:Nat) (g:Cz) (a r x y:Tm) (h6:6≤e) (h1:Gr 2 (e - 2) g (r.plainT 1) x) (h2:Gr 2 (e - 2) (g++[(0,r.plainT 1)]) (a.shift 1 0) y):Gr 4 e g a (.mk 28 0 [x,y])
 | oapp (e:Nat) (g:Cz) (a r x y:Tm) (h6:6≤e) (h1:Gr 2 (e - 2) g (r.plainT 1) x) (h2:Gr 2 (e - 2) (g++[(0,r.plainT 1)]) (a.shift 1 0) y):Gr 4 e g a (.mk 21 0 [.mk 20 0 [r.plainT 1,y],x])
 | ofst (e:Nat) (g:Cz) (a x y:Tm) (h6:6≤e) (h1:Gr 2 (e - 2) g a x) (h2:Gr 2 (e - 2) g (.mk 15 0 []) y):Gr 4 e g a (.mk 23 0 [.mk 22 0 [x,y]])
 | ofix (e:Nat) (g:Cz) (a x:Tm) (h6:6≤e) (h1:Gr 2 (e - 2) (g++[(0,a)]) (a.shift 1 0) x):Gr 4 e g a (.mk 29 0 [a,x])
 | spl (e:Nat) (g:Cz) (a x:Tm) (h6:6≤e) (h1:Gr 1 (e - 1) g (.mk 18 0 [a]) x):Gr 4 e g a (.mk 30 0 [x])
 | oint (e:Nat) (g:Cz) (a:Tm) (n:Int) (ha:a.op=15):Gr 4 e g a (.mk 25 n [])
 | oprim (e:Nat) (g:Cz) (a p q:Tm) (n:Int) (h6:6≤e) (ha:a.op=15) (h1:Gr 2 (e - 1) g a p) (h2:Gr 2 (e - 1) g a q):Gr 4 e g a (.mk 26 n [p,q])
 | olam (e:Nat) (g:Cz) (n:Int) (d c b:Tm) (h1:Gr 2 (e - 1) (g++[(0,d)]) (c.shift 1 0) b):Gr 4 e g (.mk 16 n [d,c]) (.mk 20 0 [d,b])
 | opair (e:Nat) (g:Cz) (n:Int) (d c p q:Tm) (h1:Gr 2 (e - 1) g d p) (h2:Gr 2 (e - 1) g c q):Gr 4 e g (.mk 17 n [d,c]) (.mk 22 0 [p,q])
theorem Wu:∀k,(Hk k).wt=k+1:=by
 intro k
 induction k with
 | zero=>rfl
 | succ k ih=>simp only [Hk,Tm.wt,Tm.wtL,ih];omega
theorem dp1 (op n:Int) (a:Tm):(Tm.mk op n [a]).dp=1+a.dp:=by simp only [Tm.dp,Tm.dpL];omega
theorem OY (op n:Int) (a b:Tm):(Tm.mk op n [a,b]).dp=1+max a.dp b.dp:=by simp only [Tm.dp,Tm.dpL];omega
theorem dp3 (op n:Int) (a b c:Tm):(Tm.mk op n [a,b,c]).dp=1+max a.dp (max b.dp c.dp):=by simp only [Tm.dp,Tm.dpL];omega
theorem dp4 (op n:Int) (a b c d:Tm):(Tm.mk op n [a,b,c,d]).dp=1+max a.dp (max b.dp (max c.dp d.dp)):=by simp only [Tm.dp,Tm.dpL];omega
theorem wt1 (op n:Int) (a:Tm):(Tm.mk op n [a]).wt=1+a.wt:=by simp only [Tm.wt,Tm.wtL];omega
theorem Ml (op n:Int) (a b:Tm):(Tm.mk op n [a,b]).wt=1+a.wt+b.wt:=by simp only [Tm.wt,Tm.wtL];omega
theorem wt3 (op n:Int) (a b c:Tm):(Tm.mk op n [a,b,c]).wt=1+a.wt+b.wt+c.wt:=by simp only [Tm.wt,Tm.wtL];omega
theorem wt4 (op n:Int) (a b c d:Tm):(Tm.mk op n [a,b,c,d]).wt=1+a.wt+b.wt+c.wt+d.wt:=by simp only [Tm.wt,Tm.wtL];omega
structure CtxT (g:Cz) (G:List Nat):Prop where
 len:G.length=g.length
 ok:∀(i:Nat) (st:Int) (T:Tm),i<g.length→g[g.length - 1 - i]?=some (st,T)→∃s,G[i]?=some s∧s<10∧(st=0→s=6)∧(st=1→T.vb∧∀f w,AT f T=some (w,0)→w.op≠4∧w.op≠7∧∀τ,OQ w.op=some τ→s=τ)
theorem Ady:CtxT [] []:=⟨rfl,fun i st T h=>by simp at h⟩
theorem IH {g:Cz} {G:List Nat} (h:CtxT g G) (st:Int) (T:Tm) (s:Nat) (hs:s<10) (h0:st=0→s=6) (h1:st=1→T.vb∧∀f w,AT f T=some (w,0)→w.op≠4∧w.op≠7∧∀τ,OQ w.op=some τ→s=τ):CtxT (g++[(st,T)]) (s::G):=by
 refine ⟨by simp [h.len],?_⟩;intro i st' T' hi hg;rw [List.length_append,Arj,List.length_nil] at hi hg;cases i with
 | zero =>
  rw [List.getElem?_append_right (by omega),show g.length+(0+1) - 1 - 0 - g.length=0 by omega] at hg
  simp only [List.getElem?_cons_zero,Arf,Arg] at hg;obtain ⟨rfl,rfl⟩:=hg;exact ⟨s,rfl,hs,h0,h1⟩
 | succ i =>
  rw [List.getElem?_append_left (by omega),show g.length+(0+1) - 1 - (i+1)=g.length - 1 - i by omega] at hg
  rw [List.getElem?_cons_succ];exact h.ok i st' T' (by omega) hg
theorem Aea {k:Nat} {a:Tm} (h:AOk k a) (hk:k≤1000):a.vb:=TN a k h.sc (by have:=h.wt;omega)
theorem AcP {op:Int} {s:Nat} (h:OQ op=some s):op≠4∧op≠7:=by
 constructor<;>(rintro rfl;simp [OQ] at h)
theorem Ke {g:Cz} {G:List Nat} (h:CtxT g G) {T:Tm} {s:Nat} (hT:HasT G T (10+s)) (hv:T.vb):CtxT (g++[(1,T)]) (s::G):=by
 have hs:=(B8 hT).2;refine IH h 1 T s (by omega) (by omega) (fun _=>⟨hv,fun f w hw=>?_⟩)
 have:=(B8 (NB (Gz hw hT))).1
 have hne:=AcP this;exact ⟨hne.1,hne.2,fun τ hτ=>by rw [this] at hτ;exact Option.some.inj hτ⟩
theorem Lv {g:Cz} {G:List Nat} (h:CtxT g G) (T:Tm):CtxT (g++[(0,T)]) (6::G):=IH h 0 T 6 (by omega) (fun _=>rfl) (by omega)
theorem AjJ {op:Int} {s:Nat} (h:OQ op=some s):s<6:=by
 unfold OQ at h
 repeat' (split at h)
 all_goals first | (cases h;done) | (simp only [Arf] at h;omega)
theorem AkK {g:Cz} {G:List Nat} (h:CtxT g G) {T:Tm} (hT:HasT G T 2) (hv:T.vb):∃s,s<10∧CtxT (g++[(1,T)]) (s::G):=by
 have hne:∀f w,AT f T=some (w,0)→w.op≠4∧w.op≠7:=by
  intro f w hw
  have:=Gz hw hT
  cases this with
  | var=>simp only [Tm.op];omega
  | node _ op n ks _ sg hr =>
   simp only [Tm.op];cases hr<;>decide
 by_cases hex:∃f w s,AT f T=some (w,0)∧OQ w.op=some s
 ·obtain ⟨f,w,s,hw,hs⟩:=hex;have hlt:=AjJ hs;refine ⟨s,by omega,IH h 1 T s (by omega) (by omega) (fun _=>⟨hv,fun f' w' hw'=>⟨(hne f' w' hw').1,(hne f' w' hw').2,fun τ hτ=>?_⟩⟩)⟩
  have:=K5 hw hw'
  simp only [Arg,and_true] at this;subst this;rw [hs] at hτ;exact Option.some.inj hτ
 ·exact ⟨7,by omega,IH h 1 T 7 (by omega) (by omega) (fun _=>⟨hv,fun f' w' hw'=>⟨(hne f' w' hw').1,(hne f' w' hw').2,fun τ hτ=>absurd ⟨f',w',τ,hw',hτ⟩ hex⟩⟩)⟩
theorem Ae8 {t:Tm} (h4:t.op≠4) (h7:t.op≠7):t.eta.op=t.op:=by
 obtain ⟨op,n,ks⟩:=t;simp only [Tm.op] at h4 h7;rw [Tm.eta,if_neg h4,if_neg h7];rfl
theorem AcO (t:Tm) (d c:Int):(t.shift d c).op=t.op:=by
 obtain ⟨op,n,ks⟩:=t;rw [Tm.shift];rfl
theorem AfL {g:Cz} {G:List Nat} (h:CtxT g G) (hl:g.length≤1000) {st:Int} {a:Tm} {i:Nat} (hh:Hit g st a i):(st=0→HasT G (.mk 1 i []) 6)∧(st=1→∀s,OQ a.op=some s→HasT G (.mk 1 i []) s):=by
 obtain ⟨hi,T,f,w,hg,hn,he⟩:=hh;obtain ⟨s,h1,h2,h3,h4⟩:=h.ok i st T hi hg;refine ⟨fun h0=>?_,fun h0 s' hs'=>?_⟩
 ·have:=h3 h0
  subst this;exact .var _ _ _ (by omega) (by simpa using h1) (by omega)
 ·obtain ⟨hv,h5⟩:=h4 h0;obtain ⟨w0,q1,q2⟩:=AbJ (d:=i+1) (by omega) hn hv;obtain ⟨n4,n7,h6⟩:=h5 f w0 q1;have ha:=AcP hs';have e1:w.op=w0.op:=by rw [q2,AcO]
  have e2:w.op=a.op:=by
   have e3:=Ae8 (t:=w) (by rw [e1];exact n4) (by rw [e1];exact n7);have e4:=Ae8 (t:=a) ha.1 ha.2;rw [← e3,he,e4]
  have:=h6 s' (by rw [← e1,e2];exact hs')
  subst this;exact .var _ _ _ (by omega) (by simpa using h1) h2
theorem ht0 {G:List Nat} {op n:Int} {s:Nat} (h:Rule op s []):HasT G (.mk op n []) s:=.node _ _ _ _ _ _ h rfl (fun i t bs s' a=>by simp at a)
theorem ht1 {G:List Nat} {op n:Int} {s:Nat} {b0:List Nat} {s0:Nat} {x:Tm} (h:Rule op s [(b0,s0)]) (hx:HasT (b0++G) x s0):HasT G (.mk op n [x]) s:=.node _ _ _ _ _ _ h rfl (fun i t bs s' a b=>by
 match i with
 | 0=>simp at a b;obtain ⟨rfl,rfl⟩:=b;subst a;exact hx
 | i+1=>simp at a)
theorem ht2 {G:List Nat} {op n:Int} {s:Nat} {b0 b1:List Nat} {s0 s1:Nat} {x y:Tm} (h:Rule op s [(b0,s0),(b1,s1)]) (hx:HasT (b0++G) x s0) (hy:HasT (b1++G) y s1):HasT G (.mk op n [x,y]) s:=.node _ _ _ _ _ _ h rfl (fun i t bs s' a b=>by
 match i with
 | 0=>simp at a b;obtain ⟨rfl,rfl⟩:=b;subst a;exact hx
 | 1=>simp at a b;obtain ⟨rfl,rfl⟩:=b;subst a;exact hy
 | i+2=>simp at a)
theorem ht3 {G:List Nat} {op n:Int} {s:Nat} {b0 b1 b2:List Nat} {s0 s1 s2:Nat} {x y z:Tm} (h:Rule op s [(b0,s0),(b1,s1),(b2,s2)]) (hx:HasT (b0++G) x s0) (hy:HasT (b1++G) y s1) (hz:HasT (b2++G) z s2):HasT G (.mk op n [x,y,z]) s:=.node _ _ _ _ _ _ h rfl (fun i t bs s' a b=>by
 match i with
 | 0=>simp at a b;obtain ⟨rfl,rfl⟩:=b;subst a;exact hx
 | 1=>simp at a b;obtain ⟨rfl,rfl⟩:=b;subst a;exact hy
 | 2=>simp at a b;obtain ⟨rfl,rfl⟩:=b;subst a;exact hz
 | i+3=>simp at a)
theorem ht4 {G:List Nat} {op n:Int} {s:Nat} {b0 b1 b2 b3:List Nat} {s0 s1 s2 s3:Nat} {x y z w:Tm} (h:Rule op s [(b0,s0),(b1,s1),(b2,s2),(b3,s3)]) (hx:HasT (b0++G) x s0) (hy:HasT (b1++G) y s1) (hz:HasT (b2++G) z s2) (hw:HasT (b3++G) w s3):HasT G (.mk op n [x,y,z,w]) s:=.node _ _ _ _ _ _ h rfl (fun i t bs s' a b=>by
 match i with
 | 0=>simp at a b;obtain ⟨rfl,rfl⟩:=b;subst a;exact hx
 | 1=>simp at a b;obtain ⟨rfl,rfl⟩:=b;subst a;exact hy
 | 2=>simp at a b;obtain ⟨rfl,rfl⟩:=b;subst a;exact hz
 | 3=>simp at a b;obtain ⟨rfl,rfl⟩:=b;subst a;exact hw
 | i+4=>simp at a)
theorem Cq (G:List Nat):∀(d:Nat) (r:Tm),HasT G (r.plainT d) 1
 | 0,r=>by rw [Tm.plainT];exact ht0 .tint
 | d+1,r=>by
  have h1:=Int.emod_nonneg r.n (show (4:Int)≠0 by decide)
  have h2:=Int.emod_lt_of_pos r.n (show (0:Int)<4 by decide)
  rw [Tm.plainT];split
  ·exact ht0 .tint
  ·have h3:16+r.n % 4 - 2=16∨16+r.n % 4 - 2=17:=by omega
   rcases h3 with h3 | h3<;>rw [h3]
   ·exact ht2 .tfun (Cq _ d _) (Cq _ d _)
   ·exact ht2 .tpro (Cq _ d _) (Cq _ d _)
theorem Afd (G:List Nat):∀j,HasT G (Hk j) 0
 | 0=>ht0 .zero
 | j+1=>ht1 .suc (Afd G j)
theorem AhW {G:List Nat} {n:Int} {d c:Tm} {op:Int} (ho:op=3∨op=6) {s:Nat} (h:HasT G (.mk op n [d,c]) (10+s)):(s=4∧op=3∨s=5∧op=6)∧∃a b,a<6∧b<6∧HasT G d (10+a)∧HasT (a::G) c (10+b):=by
 generalize hq:10+s=q at h;rcases ho with rfl | rfl
 ·cases h with
  | node _ _ _ _ _ sg hr hl hk =>
   cases hr with
   | piT a b ha hb=>exact ⟨by omega,a,b,ha,hb,hk 0 d [] (10+a) rfl rfl,hk 1 c [a] (10+b) rfl rfl⟩
   | piU=>omega
 ·cases h with
  | node _ _ _ _ _ sg hr hl hk =>
   cases hr with
   | sigT a b ha hb=>exact ⟨by omega,a,b,ha,hb,hk 0 d [] (10+a) rfl rfl,hk 1 c [a] (10+b) rfl rfl⟩
   | sigU=>omega
theorem AgV {G:List Nat} {n:Int} {d:Tm} {s:Nat} (h:HasT G (.mk 18 n [d]) (10+s)):s=3∧HasT G d 1:=by
 generalize hq:10+s=q at h;cases h with
 | node _ _ _ _ _ sg hr hl hk =>
  cases hr with
  | liftT=>exact ⟨by omega,hk 0 d [] 1 rfl rfl⟩
  | liftU=>omega
theorem Yh {G:List Nat} {n:Int} {d c:Tm} {op:Int} (ho:op=16∨op=17) (h:HasT G (.mk op n [d,c]) 1):HasT G d 1∧HasT G c 1:=by
 rcases ho with rfl | rfl
 ·cases h with
  | node _ _ _ _ _ sg hr hl hk=>cases hr;exact ⟨hk 0 d [] 1 rfl rfl,hk 1 c [] 1 rfl rfl⟩
 ·cases h with
  | node _ _ _ _ _ sg hr hl hk=>cases hr;exact ⟨hk 0 d [] 1 rfl rfl,hk 1 c [] 1 rfl rfl⟩
theorem up1 {g:Cz} {G:List Nat} (h:CtxT g G) (hl:g.length≤1000) {t:Tm} {s:Nat} (ht:HasT G t s) (hw:t.wt≤1000000000000000) (x:Nat):HasT (x::G) (t.shift 1 0) s:=QE ht [x] (by rw [h.len];simp only [Arj,List.length_nil];omega)
theorem up2 {g:Cz} {G:List Nat} (h:CtxT g G) (hl:g.length≤1000) {t:Tm} {s:Nat} (ht:HasT G t s) (hw:t.wt≤1000000000000000) (x y:Nat):HasT (x::y::G) (t.shift 2 0) s:=QE ht [x,y] (by rw [h.len];simp only [Arj,List.length_nil];omega)
theorem AlS {k e:Nat} {g:Cz} {a t:Tm} (h:Gr k e g a t):∀G,CtxT g G →
  (k=0→∃s,s<6∧HasT G t (10+s))∧(k=1→∀s,HasT G a (10+s)→HasT G t s)∧(k=2→HasT G a 1→HasT G t 6) ∧
  (k=3→g.length≤60→NOk g.length a→∀s,HasT G a (10+s)→HasT G t s)∧(k=4→g.length≤60→NOk g.length a→HasT G a 1→HasT G t 6):=by
 induction h with
 | tnat e g a=>intro G hG;exact ⟨fun _=>⟨0,by omega,ht0 .natT⟩,by omega,by omega,by omega,by omega⟩
 | tty e g a=>intro G hG;exact ⟨fun _=>⟨1,by omega,ht0 .tyT⟩,by omega,by omega,by omega,by omega⟩
 | tu e g a=>intro G hG;exact ⟨fun _=>⟨2,by omega,ht0 .uT⟩,by omega,by omega,by omega,by omega⟩
 | tlp e g a r=>intro G hG;exact ⟨fun _=>⟨3,by omega,ht1 .liftT (Cq _ 1 r)⟩,by omega,by omega,by omega,by omega⟩
 | tpi e g a x y op ho h6 hgl hx h1 h2 ih1 ih2 =>
  intro G hG;refine ⟨fun _=>?_,by omega,by omega,by omega,by omega⟩;obtain ⟨s1,q1,q2⟩:=(ih1 G hG).1 rfl;have hvb:x.vb:=by
   have:=hx.wt
   exact TN x g.length hx.sc (by have:=hG.len;omega)
  obtain ⟨s2,q3,q4⟩:=(ih2 (s1::G) (Ke hG q2 hvb)).1 rfl;rcases ho with rfl | rfl
  ·exact ⟨4,by omega,ht2 (.piT s1 s2 q1 q3) q2 q4⟩
  ·exact ⟨5,by omega,ht2 (.sigT s1 s2 q1 q3) q2 q4⟩
 | tlift e g a t h6 h1 ih =>
  intro G hG;exact ⟨fun _=>⟨3,by omega,ht1 .liftT ((ih G hG).2.1 rfl 1 (ht0 .tyT))⟩,by omega,by omega,by omega,by omega⟩
 | grow e g a0 a t f hn hg ha h1 ih =>
  intro G hG;exact ⟨by omega,fun _ s hs=>(ih G hG).2.2.2.1 rfl hg ha s (NB (Gz hn hs)),by omega,by omega,by omega⟩
 | objc e g a0 a t f hn hg ha h1 ih =>
  intro G hG;exact ⟨by omega,by omega,fun _ hs=>(ih G hG).2.2.2.2 rfl hg ha (NB (Gz hn hs)),by omega,by omega⟩
 | var1 e g a i h =>
  intro G hG;exact ⟨by omega,by omega,by omega,fun _ hl ha s hs=>(AfL hG (by omega) h).2 rfl s (B8 hs).1,by omega⟩
 | var0 e g a i h =>
  intro G hG;exact ⟨by omega,by omega,by omega,by omega,fun _ hl ha hs=>(AfL hG (by omega) h).1 rfl⟩
 | fst e g a b c x h6 hb h1 h2 h3 ih1 ih2 ih3 =>
  intro G hG;refine ⟨by omega,by omega,by omega,fun _ hl ha s hs=>?_,by omega⟩;obtain ⟨s1,q1,q2⟩:=(ih1 G hG).1 rfl;have hx:=(ih2 G hG).2.1 rfl s1 q2;have hc:=(ih3 G hG).2.1 rfl s hs;exact .fst _ _ _ _ _ _ s s1 2 (by have:=(B8 hs).2;omega) (ht2 (.sigU 0 (10+s) (10+s1) (by omega)) hs (up1 hG (by omega) q2 hb.wt 0)) hc hx
 | app e g a b c x h6 hb h1 h2 h3 ih1 ih2 ih3 =>
  intro G hG;refine ⟨by omega,by omega,by omega,fun _ hl ha s hs=>?_,by omega⟩;obtain ⟨s1,q1,q2⟩:=(ih1 G hG).1 rfl;have hx:=(ih2 G hG).2.1 rfl s1 q2;have hc:=(ih3 (s1::G) (Ke hG q2 (Aea hb (by omega)))).2.1 rfl s (up1 hG (by omega) hs (by have:=ha.wt;omega) s1);exact .app _ _ _ _ _ _ s1 s (10+s1) (by have:=(B8 hs).2;omega) (by omega) q2 hc hx
 | recc e g a n z s h6 ha h1 h2 h3 ih1 ih2 ih3 =>
  intro G hG;refine ⟨by omega,by omega,by omega,fun _ hl hna σ hs=>?_,by omega⟩;have hn:=(ih1 G hG).2.1 rfl 0 (ht0 .natT);have hz:=(ih2 G hG).2.1 rfl σ hs;have hs1:=up1 hG (by omega) hs (by have:=hna.wt;omega) 0;have g1:=Ke hG (T:=.mk 10 0 []) (s:=0) (ht0 .natT) (by simp [Tm.vb,Tm.vbL]);have g2:=Ke g1 hs1 (TN _ (g.length+1) (Gq a 1 0 g.length hna.sc (by have:=hna.wt;omega)) (by rw [Fa];have:=hna.wt;omega));have hs3:=(ih3 _ g2).2.1 rfl σ (up2 hG (by omega) hs (by have:=hna.wt;omega) σ 0);have h01:σ=0∨σ=1:=by
   have:=(B8 hs).1
   rcases ha with ha | ha<;>rw [ha] at this<;>simp [OQ] at this<;>omega
  exact ht4 (.recR σ (10+σ) h01) hs1 hz hs3 hn
 | suc e g a n h6 ha h1 ih =>
  intro G hG;refine ⟨by omega,by omega,by omega,fun _ hl hna s hs=>?_,by omega⟩;have h0:s=0:=by
   have:=(B8 hs).1
   rw [ha] at this;simp [OQ] at this;omega
  subst h0;exact ht1 .suc ((ih G hG).2.1 rfl 0 hs)
 | num e g a j ha hj =>
  intro G hG;refine ⟨by omega,by omega,by omega,fun _ hl hna s hs=>?_,by omega⟩;have h0:s=0:=by
   have:=(B8 hs).1
   rw [ha] at this;simp [OQ] at this;omega
  subst h0;exact Afd _ j
 | tint e g a ha =>
  intro G hG;refine ⟨by omega,by omega,by omega,fun _ hl hna s hs=>?_,by omega⟩;have h0:s=1:=by
   have:=(B8 hs).1
   rw [ha] at this;simp [OQ] at this;omega
  subst h0;exact ht0 .tint
 | tfun e g a x y op ho h6 ha h1 h2 ih1 ih2 =>
  intro G hG;refine ⟨by omega,by omega,by omega,fun _ hl hna s hs=>?_,by omega⟩;have h0:s=1:=by
   have:=(B8 hs).1
   rw [ha] at this;simp [OQ] at this;omega
  subst h0;have q1:=(ih1 G hG).2.1 rfl 1 hs;have q2:=(ih2 G hG).2.1 rfl 1 hs;rcases ho with rfl | rfl
  ·exact ht2 .tfun q1 q2
  ·exact ht2 .tpro q1 q2
 | uni e g a n ha =>
  intro G hG;refine ⟨by omega,by omega,by omega,fun _ hl hna s hs=>?_,by omega⟩;have h0:s=2:=by
   have:=(B8 hs).1
   rw [ha] at this;simp [OQ] at this;omega
  subst h0;exact ht0 .uU
 | unat e g a ha =>
  intro G hG;refine ⟨by omega,by omega,by omega,fun _ hl hna s hs=>?_,by omega⟩;have h0:s=2:=by
   have:=(B8 hs).1
   rw [ha] at this;simp [OQ] at this;omega
  subst h0;exact ht0 .natU
 | uty e g a ha =>
  intro G hG;refine ⟨by omega,by omega,by omega,fun _ hl hna s hs=>?_,by omega⟩;have h0:s=2:=by
   have:=(B8 hs).1
   rw [ha] at this;simp [OQ] at this;omega
  subst h0;exact ht0 .tyU
 | ult e g a ha =>
  intro G hG;refine ⟨by omega,by omega,by omega,fun _ hl hna s hs=>?_,by omega⟩;have h0:s=2:=by
   have:=(B8 hs).1
   rw [ha] at this;simp [OQ] at this;omega
  subst h0;exact ht1 .liftU (ht0 .tint)
 | upi e g a x y op ho h6 ha hx h1 h2 ih1 ih2 =>
  intro G hG;refine ⟨by omega,by omega,by omega,fun _ hl hna s hs=>?_,by omega⟩;have h0:s=2:=by
   have:=(B8 hs).1
   rw [ha] at this;simp [OQ] at this;omega
  subst h0;have q1:=(ih1 G hG).2.1 rfl 2 hs;obtain ⟨s1,hs1,g1⟩:=AkK hG q1 (Aea hx (by omega));have q2:=(ih2 _ g1).2.1 rfl 2 (by
   obtain ⟨oa,na,ka⟩:=a;simp only [Tm.op] at ha;subst ha;have hk:ka=[]:=by
    have:=hna.sc
    rw [Tm.sc] at this;exact List.eq_nil_of_length_eq_zero (Option.some.inj this.1.symm)
   subst hk;exact ht0 .uT)
  rcases ho with rfl | rfl
  ·exact ht2 (.piU s1 hs1) q1 q2
  ·exact ht2 (.sigU s1 2 2 hs1) q1 q2
 | lam e g n d c x h1 ih =>
  intro G hG;refine ⟨by omega,by omega,by omega,fun _ hl hna s hs=>?_,by omega⟩;obtain ⟨h4,a1,b1,ha1,hb1,hd,hc⟩:=AhW (.inl rfl) hs;have h0:s=4:=by omega
  subst h0;have hna2:=hna.sc;have hnw:=hna.wt;rw [Ml] at hnw;rw [Tm.sc] at hna2;have hvb:=TN d g.length hna2.2.2.1 (by omega);exact ht2 (.lam a1 b1 (10+a1) (by omega)) hd ((ih _ (Ke hG hd hvb)).2.1 rfl b1 hc)
 | pair e g n d c x y hx h1 h2 ih1 ih2 =>
  intro G hG;refine ⟨by omega,by omega,by omega,fun _ hl hna s hs=>?_,by omega⟩;obtain ⟨h5,a1,b1,ha1,hb1,hd,hc⟩:=AhW (.inr rfl) hs;have h0:s=5:=by omega
  subst h0;have hnw:=hna.wt;rw [Ml] at hnw;have qx:=(ih1 G hG).2.1 rfl a1 hd;have hsub:=Uk hc [] G a1 x rfl qx (by have:=hx.wt;rw [hG.len];simp only [List.length_nil];omega);have qy:=(ih2 G hG).2.1 rfl b1 (by simpa using hsub);exact ht3 (.pair (10+5) a1 b1) hs qx qy
 | quo e g n d x h1 ih =>
  intro G hG;refine ⟨by omega,by omega,by omega,fun _ hl hna s hs=>?_,by omega⟩;obtain ⟨h3,hd⟩:=AgV hs;subst h3;exact ht1 .quo ((ih G hG).2.2.1 rfl hd)
 | oif e g a c x y h6 h1 h2 h3 ih1 ih2 ih3 =>
  intro G hG;exact ⟨by omega,by omega,by omega,by omega,fun _ hl hna hs=>ht3 .oif ((ih1 G hG).2.2.1 rfl (ht0 .tint)) ((ih2 G hG).2.2.1 rfl hs) ((ih3 G hG).2.2.1 rfl hs)⟩
 | olet e g a r x y h6 h1 h2 ih1 ih2 =>
  intro G hG;exact ⟨by omega,by omega,by omega,by omega,fun _ hl hna hs=>ht2 .olet ((ih1 G hG).2.2.1 rfl (Cq _ 1 r)) ((ih2 _ (Lv hG _)).2.2.1 rfl (up1 hG (by omega) hs (by have:=hna.wt;omega) 6))⟩
 | oapp e g a r x y h6 h1 h2 ih1 ih2 =>
  intro G hG;exact ⟨by omega,by omega,by omega,by omega,fun _ hl hna hs=>ht2 .oapp (ht2 .olam (Cq _ 1 r) ((ih2 _ (Lv hG _)).2.2.1 rfl (up1 hG (by omega) hs (by have:=hna.wt;omega) 6))) ((ih1 G hG).2.2.1 rfl (Cq _ 1 r))⟩
 | ofst e g a x y h6 h1 h2 ih1 ih2 =>
  intro G hG;exact ⟨by omega,by omega,by omega,by omega,fun _ hl hna hs=>ht1 .ofst (ht2 .opair ((ih1 G hG).2.2.1 rfl hs) ((ih2 G hG).2.2.1 rfl (ht0 .tint)))⟩
 | ofix e g a x h6 h1 ih =>
  intro G hG;exact ⟨by omega,by omega,by omega,by omega,fun _ hl hna hs=>ht2 .ofix hs ((ih _ (Lv hG _)).2.2.1 rfl (up1 hG (by omega) hs (by have:=hna.wt;omega) 6))⟩
 | spl e g a x h6 h1 ih =>
  intro G hG;exact ⟨by omega,by omega,by omega,by omega,fun _ hl hna hs=>ht1 .spl ((ih G hG).2.1 rfl 3 (ht1 .liftT hs))⟩
 | oint e g a n ha =>
  intro G hG;exact ⟨by omega,by omega,by omega,by omega,fun _ hl hna hs=>ht0 .oint⟩
 | oprim e g a p q n h6 ha h1 h2 ih1 ih2 =>
  intro G hG;exact ⟨by omega,by omega,by omega,by omega,fun _ hl hna hs=>ht2 .oprim ((ih1 G hG).2.2.1 rfl hs) ((ih2 G hG).2.2.1 rfl hs)⟩
 | olam e g n d c b h1 ih =>
  intro G hG;refine ⟨by omega,by omega,by omega,by omega,fun _ hl hna hs=>?_⟩;obtain ⟨hd,hc⟩:=Yh (.inl rfl) hs;have hnw:=hna.wt;rw [Ml] at hnw;exact ht2 .olam hd ((ih _ (Lv hG _)).2.2.1 rfl (up1 hG (by omega) hc (by omega) 6))
 | opair e g n d c p q h1 h2 ih1 ih2 =>
  intro G hG;refine ⟨by omega,by omega,by omega,by omega,fun _ hl hna hs=>?_⟩;obtain ⟨hd,hc⟩:=Yh (.inr rfl) hs;exact ht2 .opair ((ih1 G hG).2.2.1 rfl hd) ((ih2 G hG).2.2.1 rfl hc)
inductive CtxG:Cz→Prop
 | nil:CtxG []
 | ob (g:Cz) (t:Tm) (h:CtxG g) (h1:Gr 1 7 g (.mk 14 0 []) t):CtxG (g++[(0,t)])
 | me (g:Cz) (a:Tm) (h:CtxG g) (ha:AOk g.length a) (hl:g.length≤60) (h1:Gr 0 7 g .z a):CtxG (g++[(1,a)])
theorem Hb {k:Nat} {a:Tm} (hk:k≤1000) (h:a.sc k) (hd:a.dp≤20000):∃u e,Ev 34 [.fv a.enc] (.tuple [u.enc,.int .i64 e])∧(e=0∧NOk k u∨(e=5∨e=17)∧u=.z)∧∃f,AT f a=some (u,e):=by
 obtain ⟨f,u,e,h1,h2⟩:=Vm (k:=k) (by omega) h (by have:=Ah6 a;omega);refine ⟨u,e,⟨f+2,fun n hn=>AbX f a u e h1 n hn⟩,?_,f,h1⟩;rcases h2 with ⟨h3,h4,h5,h6⟩ | h2
 ·exact .inl ⟨h3,⟨h4,h5,h6⟩⟩
 ·exact .inr h2
structure TG (κ e:Nat) (g:Cz) (a t:Tm) (b:Bool):Prop where
 sc:t.sc g.length
 wt:t.wt≤Wg e
 dp:t.dp≤Dg e
 gr:b=true→Gr κ e g a t
theorem tg {κ e:Nat} {g:Cz} {a t:Tm} {b:Bool} (h:TOk g.length e t) (hg:b=true→Gr κ e g a t):TG κ e g a t b:=⟨h.sc,h.wt,h.dp,hg⟩
theorem AdO {κ e:Nat} {g:Cz} {a t:Tm} {b:Bool} (h:TG κ e g a t b) (he:e≤10):AOk g.length t:=⟨h.sc,by have:=h.wt;have:=NH he;omega,by have:=h.dp;unfold Dg at this;omega⟩
theorem AeH {κ κ' e:Nat} {g:Cz} {a a' t:Tm} {b:Bool} (h:TG κ e g a t b) (hg:Gr κ e g a t→Gr κ' e g a' t):TG κ' e g a' t b:=⟨h.sc,h.wt,h.dp,fun hb=>hg (h.gr hb)⟩
theorem KE {p q:Bool} (h:(p && q)=true):p=true:=by cases p<;>simp_all
theorem IT {p q:Bool} (h:(p && q)=true):q=true:=by cases p<;>simp_all
inductive PV where
 | nil
 | mk (op n:Int) (k:List PV) (t:Tm) (e:List PV)
def PV.enc:PV→FV
 | .nil=>.nilp
 | .mk op n k (.mk to tn tk) e=>.fp [.int .i64 op,.int .i64 n,.sl (encL k),.int .i64 to,.int .i64 tn,.sl (tk.map Tm.enc),encE e] 0
where
 encL:List PV→List FV
  | []=>[]
  | v::l=>v.enc::encL l
 encE:List PV→FV
  | []=>.nilp
  | v::l=>.fp [v.enc,encE l] 0
def PV.encEnv:List PV→FV
 | []=>.nilp
 | v::l=>.fp [v.enc,encEnv l] 0
theorem Aeq (l:List PV):PV.enc.encL l=l.map PV.enc:=by
 induction l with
 | nil=>rfl
 | cons t l ih=>simp [PV.enc.encL,ih]
theorem AcW (l:List PV):PV.enc.encE l=PV.encEnv l:=by
 induction l with
 | nil=>rfl
 | cons t l ih=>simp [PV.enc.encE,PV.encEnv,ih]
theorem GA:PV.nil.enc=.nilp:=rfl
theorem AR (op n:Int) (k:List PV) (bo bn:Int) (bk:List Tm) (e:List PV):(PV.mk op n k (.mk bo bn bk) e).enc =
  .fp [.int .i64 op,.int .i64 n,.sl (k.map PV.enc),.int .i64 bo,.int .i64 bn,.sl (bk.map Tm.enc),PV.encEnv e] 0:=by simp only [PV.enc,Aeq,AcW]
theorem TJ:PV.encEnv []=.nilp:=rfl
theorem OT (v:PV) (l:List PV):PV.encEnv (v::l)=.fp [v.enc,PV.encEnv l] 0:=rfl
def PV.var (n:Int):PV:=.mk 1 n [] .z []
theorem SE (n:Int):(PV.var n).enc=.fp [.int .i64 1,.int .i64 n,.sl [],.int .i64 0,.int .i64 0,.sl [],.nilp] 0:=by rw [PV.var,Tm.z,AR];rfl
theorem Mb (v:PV):∀l,v.enc≠.agg l:=by
 intro l h;cases v with
 | nil=>cases h
 | mk op n k t e=>obtain ⟨bo,bn,bk⟩:=t;rw [AR] at h;cases h
theorem Afo (v:PV):Hr v.enc=true:=by
 cases v with
 | nil=>rfl
 | mk op n k t e=>obtain ⟨bo,bn,bk⟩:=t;rw [AR];rfl
theorem DV (v:PV):v.enc.cells=[v.enc]:=by
 cases v with
 | nil=>rfl
 | mk op n k t e=>obtain ⟨bo,bn,bk⟩:=t;rw [AR];rfl
theorem Ajx {β:Type} {l:List PV} {i:Nat} {v:PV} (h:l[i]?=some v) (k:IV→Option β):Bf 1 (.fv (.sl (l.map PV.enc))) (iv i) k=k (.fv (.fp [v.enc] 0)):=by
 have h1:(l.map PV.enc)[i]?=some v.enc:=by rw [List.getElem?_map,h];rfl
 rw [BN h1 (by rw [DV];rfl),DV]
theorem tPs:EE.T 127=some ⟨1,24,.slice 96,[.nils]⟩:=by kernel_rfl
theorem tPp:EE.T 96=some ⟨1,8,.ptr,[.fv .nilp]⟩:=by kernel_rfl
theorem AnF (a:PV) (s:Nat) (h:Hp) (k:IV→Hp→List Ref→List Ref→Option (IV×Hp)):Aw (Af EE 127 1 [(0,.fv a.enc)]) s h k=k (.clip [a.enc]) h [] []:=by
 cases a with
 | nil=>exact Ci tPs tPp (by decide) (cells:=[.nilp]) rfl k
 | mk op n kk t e =>
  obtain ⟨bo,bn,bk⟩:=t;rw [AR];exact Ci tPs tPp (by decide) (cells:=[.fp [.int .i64 op,.int .i64 n,.sl (kk.map PV.enc),.int .i64 bo,.int .i64 bn,.sl (bk.map Tm.enc),PV.encEnv e] 0]) rfl k
theorem LZ (a:PV):a.enc=.nilp∨∃l,a.enc=.fp l 0:=by
 cases a with
 | nil=>exact .inl rfl
 | mk op n kk t e=>obtain ⟨bo,bn,bk⟩:=t;exact .inr ⟨_,AR ..⟩
theorem AnJ (a b:PV) (s:Nat) (h:Hp) (k:IV→Hp→List Ref→List Ref→Option (IV×Hp)):Aw (Af EE 127 2 [(0,.fv a.enc),(1,.fv b.enc)]) s h k=k (.clip [a.enc,b.enc]) h [] []:=by
 have key:∀x y:FV,(x=.nilp∨∃l,x=.fp l 0)→(y=.nilp∨∃l,y=.fp l 0)→Aw (Af EE 127 2 [(0,.fv x),(1,.fv y)]) s h k=k (.clip [x,y]) h [] []:=by
  rintro x y (rfl | ⟨la,rfl⟩) (rfl | ⟨lb,rfl⟩)
  ·exact Ci (len:=2) tPs tPp (by decide) (cells:=[.nilp,.nilp]) rfl k
  ·exact Ci (len:=2) tPs tPp (by decide) (cells:=[.nilp,.fp lb 0]) rfl k
  ·exact Ci (len:=2) tPs tPp (by decide) (cells:=[.fp la 0,.nilp]) rfl k
  ·exact Ci (len:=2) tPs tPp (by decide) (cells:=[.fp la 0,.fp lb 0]) rfl k
 exact key _ _ (LZ a) (LZ b)
theorem Anf (b d:PV) (s:Nat) (h:Hp) (k:IV→Hp→List Ref→List Ref→Option (IV×Hp)):Aw (Af EE 127 4 [(0,.fv .nilp),(1,.fv b.enc),(2,.fv .nilp),(3,.fv d.enc)]) s h k=k (.clip [.nilp,b.enc,.nilp,d.enc]) h [] []:=by
 have key:∀x y:FV,(x=.nilp∨∃l,x=.fp l 0)→(y=.nilp∨∃l,y=.fp l 0)→Aw (Af EE 127 4 [(0,.fv .nilp),(1,.fv x),(2,.fv .nilp),(3,.fv y)]) s h k=k (.clip [.nilp,x,.nilp,y]) h [] []:=by
  rintro x y (rfl | ⟨la,rfl⟩) (rfl | ⟨lb,rfl⟩)
  ·exact Ci (len:=4) tPs tPp (by decide) (cells:=[.nilp,.nilp,.nilp,.nilp]) rfl k
  ·exact Ci (len:=4) tPs tPp (by decide) (cells:=[.nilp,.nilp,.nilp,.fp lb 0]) rfl k
  ·exact Ci (len:=4) tPs tPp (by decide) (cells:=[.nilp,.fp la 0,.nilp,.nilp]) rfl k
  ·exact Ci (len:=4) tPs tPp (by decide) (cells:=[.nilp,.fp la 0,.nilp,.fp lb 0]) rfl k
 exact key _ _ (LZ b) (LZ d)
theorem AlN {β:Type} (v:PV) (z:List IV) (o:Nat) (k:List IV→Option β):G7 z o 1 (.fv v.enc) k=Gu z o (.fv v.enc) k:=by
 unfold G7;rw [AcU,Afo];rfl
theorem AeC {β:Type} (l:List PV) (z:List IV) (o:Nat) (k:List IV→Option β):G7 z o 1 (.fv (PV.encEnv l)) k=Gu z o (.fv (PV.encEnv l)) k:=by
 unfold G7;rw [AcU,show Hr (PV.encEnv l)=true by cases l<;>rfl]
 rfl
abbrev CE (f:FuncId):IV:=.agg [.func (.func f) [.ptr (.ext 0) 0] []]
abbrev Ajc:Blk:=.map [(5,CE 94),(8,CE 95),(9,CE 95),(13,CE 96),(30,CE 97),(19,CE 98)]
abbrev MX (s w r e:Int):List Blk:=[.row [iv s,iv w,iv r,iv e,.mapr (.ext 1)] false,Ajc]
theorem Ag8 (s w r e:Int):∀j,Ref.own j ∉ (MX s w r e).flatMap Blk.refs:=by
 intro j h;simp only [MX,List.flatMap_cons,List.flatMap_nil,Blk.refs,IV.refs.refsL,IV.refs,Arl,Ark,List.append_nil,List.nil_append,List.cons_append,List.mem_cons,List.not_mem_nil,or_false,reduceCtorEq] at h
theorem AfV (s w r e s' w' r' e':Int):ExtX (MX s w r e) (MX s' w' r' e'):=⟨rfl,rfl,rfl⟩
section
variable {ih:Aa} {f:FuncId} {w:FV} {s u r e s' u' r' e':Int} (own:List (Nat×Blk)) (k:IV→Hp→List Ref→List Ref→Option (IV×Hp))
theorem Xx (args:List IV) (ks:List Bool) (hks:∀b∈ks,b=false) {vs:List FV} (hz:Bx args=some vs) (hr:Bd (ih f (.ptr (.ext 0) 0::vs.map .fv) ⟨[],MX s u r e⟩) w (MX s' u' r' e')) :
  Ak (true::ks) false false ih f (.ptr (.ext 0) 0::args) ⟨own,MX s u r e⟩ k=k (.fv w) ⟨own,MX s' u' r' e'⟩ [.ext 1,.ext 0] [.ext 0,.ext 1] :=
 Vs (fun e k=>Ns 0 args _ _ e k ks hks hz) (AfV ..) hr (fun _=>rfl) k
theorem Fc (hr:Bd (ih f [.ptr (.ext 0) 0] ⟨[],MX s u r e⟩) w (MX s' u' r' e')):Ak [true] false false ih f [.ptr (.ext 0) 0] ⟨own,MX s u r e⟩ k=k (.fv w) ⟨own,MX s' u' r' e'⟩ [.ext 1,.ext 0] [.ext 0,.ext 1]:=Xx own k [] [] (by simp) rfl hr
theorem Pc {a:IV} {x:FV} (hr:Bd (ih f [.ptr (.ext 0) 0,.fv x] ⟨[],MX s u r e⟩) w (MX s' u' r' e')) (ha:A4 a=some x):Ak [true,false] false false ih f [.ptr (.ext 0) 0,a] ⟨own,MX s u r e⟩ k=k (.fv w) ⟨own,MX s' u' r' e'⟩ [.ext 1,.ext 0] [.ext 0,.ext 1] :=
 Xx own k [a] [false] (by simp) (AcJ ha) hr
theorem Ac1 {a b:IV} {x y:FV} (hr:Bd (ih f [.ptr (.ext 0) 0,.fv x,.fv y] ⟨[],MX s u r e⟩) w (MX s' u' r' e')) (ha:A4 a=some x) (hb:A4 b=some y):Ak [true,false,false] false false ih f [.ptr (.ext 0) 0,a,b] ⟨own,MX s u r e⟩ k=k (.fv w) ⟨own,MX s' u' r' e'⟩ [.ext 1,.ext 0] [.ext 0,.ext 1] :=
 Xx own k [a,b] [false,false] (by simp) (UK ha hb) hr
theorem Pd {a b c:IV} {x y z:FV} (hr:Bd (ih f [.ptr (.ext 0) 0,.fv x,.fv y,.fv z] ⟨[],MX s u r e⟩) w (MX s' u' r' e')) (ha:A4 a=some x) (hb:A4 b=some y) (hc:A4 c=some z) :
  Ak [true,false,false,false] false false ih f [.ptr (.ext 0) 0,a,b,c] ⟨own,MX s u r e⟩ k=k (.fv w) ⟨own,MX s' u' r' e'⟩ [.ext 1,.ext 0] [.ext 0,.ext 1] :=
 Xx own k [a,b,c] [false,false,false] (by simp) (Abv ha hb hc) hr
end
theorem Af1 {ih:Aa} {f:FuncId} {w:FV} {s0:Nat} {s u r e s' u' r' e':Int} {own:List (Nat×Blk)} {cells:List IV} {ro:Bool} {fc:List FV} (hr:Bd (ih f [.ptr (.ext 0) 0,.fv (.fp fc 0)] ⟨[],MX s u r e⟩) w (MX s' u' r' e'))
  (hl:Ap s0 own=some (.row cells ro)) (hz:CQ cells=some fc) (hn:cells.length≤300) (k:IV→Hp→List Ref→List Ref→Option (IV×Hp)) :
  Ak [true,false] false false ih f [.ptr (.ext 0) 0,.ptr (.own s0) 0] ⟨own,MX s u r e⟩ k=k (.fv w) ⟨AM s0 (.row cells true) own,MX s' u' r' e'⟩ [.ext 1,.ext 0,.own s0] [.own s0,.ext 0,.ext 1]:=by
 refine Vs (ks:=[false]) (vs:=[.fp fc 0]) (u:=[(.own s0,.row cells true)]) (lg:=[.own s0]) ?_ (AfV ..) hr ?_ k
 ·intro e k;rw [RR,U4,K6,Br,hl];simp only [Option.bind_some,Ja];rw [Bb,decide_eq_true hn,c_t,Abm 10 _ _ _ cells _ hz,fz0];rfl
 ·intro k
  show (Ga own s0 fun _=>A0 own s0 (.row cells true) fun own=>k ⟨own,_⟩)=_
  rw [Br,hl,Option.bind_some,BO]
theorem Ahq {ih:Aa} {f:FuncId} {w:FV} {s0 s2 len:Nat} {s u r e s' u' r' e':Int} {own own':List (Nat×Blk)} {es:List FV} {ro ro2:Bool} {a b c d t x:FV} (hr:Bd (ih f [.ptr (.ext 0) 0,.fv (.fp [a,b,.sl es,c,d,t,x] 0)] ⟨[],MX s u r e⟩) w (MX s' u' r' e'))
  (hl:Ap s0 own=some (.row [.fv a,.fv b,.slc (.own s2) 1 len,.fv c,.fv d,.fv t,.fv x] ro)) (hl2:Ap s2 own=some (.row (es.map .fv) ro2)) (hlen:es.length=len) (hne:s2≠s0) (hn:es.length≤300) (ha:∀x∈es,∀l,x≠.agg l)
  (ho:AM s2 (.row (es.map .fv) true) (AM s0 (.row [.fv a,.fv b,.slc (.own s2) 1 len,.fv c,.fv d,.fv t,.fv x] true) own)=own') (k:IV→Hp→List Ref→List Ref→Option (IV×Hp)) :
  Ak [true,false] false false ih f [.ptr (.ext 0) 0,.ptr (.own s0) 0] ⟨own,MX s u r e⟩ k=k (.fv w) ⟨own',MX s' u' r' e'⟩ [.ext 1,.ext 0,.own s2,.own s0] [.own s0,.own s2,.ext 0,.ext 1]:=by
 subst ho hlen;refine Vs (ks:=[false]) (vs:=[.fp [a,b,.sl es,c,d,t,x] 0]) (u:=[(.own s0,.row [.fv a,.fv b,.slc (.own s2) 1 es.length,.fv c,.fv d,.fv t,.fv x] true),(.own s2,.row (es.map .fv) true)]) (lg:=[.own s2,.own s0]) ?_ (AfV ..) hr ?_ k
 ·intro e k;rw [RR,Amg hl hl2 hn ha,fz0];rfl
 ·intro k;have h2:∀(own:List (Nat×Blk)) (b:Blk),Ap s2 (AM s0 b own)=Ap s2 own:=by
   intro own b
   induction own with
   | nil=>simp only [AM,Ap,if_neg hne]
   | cons p l ih =>
    obtain ⟨j,c⟩:=p;simp only [AM];split
    ·rename_i h;subst h;simp only [Ap,if_neg hne]
    ·simp only [Ap,ih]
  show (Ga own s0 fun _=>A0 own s0 _ fun own=>Ga own s2 fun _=>A0 own s2 _ fun own=>k ⟨own,_⟩)=_
  rw [Br,hl,Option.bind_some,BO,Br,h2,hl2,Option.bind_some,BO]
theorem AlV (e:List PV) (l:List FV):Dx (PV.encEnv e::l)=Dx l:=Ta (by cases e<;>rfl) l
structure M3 where
 s:Int
 w:Int
 e:Int
def Hl (m:M3):Option M3:=if m.w < -1000000000∨1000000000<m.w then none else some ⟨m.s,m.w - 1,if m.w - 1<0∧m.e=0 then 17 else m.e⟩
theorem QI {m m':M3} (h:Hl m=some m') (r:Int) {n:Nat} (hn:0<n):Bd (SS dt n 99 [.ptr (.ext 0) 0] ⟨[],MX m.s m.w r m.e⟩) (.tuple []) (MX m'.s m'.w r m'.e):=by
 obtain ⟨n,rfl⟩:∃k,n=k+1:=⟨n - 1,by omega⟩;rw [c99];unfold Hl at h;split at h
 ·cases h
 ·cases h;have hw:BM (m.w - 1)=m.w - 1:=by rw [As]<;>omega
  by_cases h1:m.w - 1<0
  ·by_cases h2:m.e=0
   ·simp only [Qk,RS,Rl,Qd,S99,↓XX,XY,↓reduceIte,Nat.reduceBEq,Nat.reduceAdd,Int.reduceEq,Int.reduceLT,Int.reduceLE,hw,h1,h2,true_and,and_true,if_true];exact AB _ _ _
   ·simp only [Qk,RS,Rl,Qd,S99,↓XX,XY,↓reduceIte,Nat.reduceBEq,Nat.reduceAdd,Int.reduceEq,Int.reduceLT,Int.reduceLE,hw,h1,h2,and_false,if_false];exact AB _ _ _
  ·simp only [Qk,RS,Rl,Qd,S99,↓XX,XY,↓reduceIte,Nat.reduceBEq,Nat.reduceAdd,Int.reduceEq,Int.reduceLT,Int.reduceLE,hw,h1,false_and,if_false];exact AB _ _ _
def FE (env:List PV) (m:Int):PV:=if m<env.length then env.getD m.toNat .nil else .var (env.length - 1 - m)
theorem Tp:∀(env:List PV) (m:Int),0≤m→m≤2305843009213693952→∀n,env.length<n→BZ (BD n (fun q3 l4 h5=>Jh l4 h5 q3) [.fv (PV.encEnv env),iv m] ⟨[],[]⟩) (FE env m).enc:=by
 intro env m h0 h1 n hn;refine A7 (Q:=fun r=>BZ r _) (fun k V H=>∃(rest:List PV) (j:Int),rest.length=k∧0≤j+env.length∧j≤m∧V=[.fv (PV.encEnv rest),iv j]∧H=⟨[],[]⟩∧FE rest j=FE env m∧0≤j) ?_ n env.length _ _ hn ⟨env,m,rfl,by omega,Int.le_refl _,rfl,rfl,rfl,h0⟩;rintro k V H rec ⟨rest,j,hl,hj,hjm,rfl,rfl,hlk,hj0⟩ hrec;have hw:BM (-1 - j)=-1 - j:=by rw [As]<;>omega
 have hw2:BM (j - 1)=j - 1:=by rw [As]<;>omega
 cases rest with
 | nil =>
  have:FE ([]:List PV) j=.var (-1 - j):=by
   unfold FE;rw [if_neg (by simp<;>omega)];rfl
  rw [← hlk,this,SE];simp only [LF,L1,LK,Lr,Jh,Vi,TJ,↓XX,XY,↓reduceIte,Nat.reduceBEq,Nat.reduceAdd,Int.reduceEq,Int.reduceLT,Int.reduceLE,hw];exact ⟨_,_,rfl,.inl ⟨_,_,fun _ _=>rfl⟩⟩
 | cons v rest =>
  by_cases hz:j=0
  ·subst hz
   have:FE (v::rest) 0=v:=by
    unfold FE;rw [if_pos (by simp<;>omega)];rfl
   rw [← hlk,this];simp only [LF,L1,LK,Lr,Jh,Vi,OT,↓XX,XY,↓reduceIte,Nat.reduceBEq,Nat.reduceAdd,Int.reduceEq,Int.reduceLT,Int.reduceLE];exact Ao _ _
  ·simp only [LF,L1,LK,Lr,Jh,Vi,OT,↓XX,XY,↓reduceIte,Nat.reduceBEq,Nat.reduceAdd,Int.reduceEq,Int.reduceLT,Int.reduceLE,hz,hw2];simp only [Arj] at hl;refine hrec rest.length _ _ (by omega) ⟨rest,j - 1,rfl,by omega,by omega,rfl,rfl,?_,by omega⟩;rw [← hlk];unfold FE;simp only [Arj,Int.natCast_add,Int.natCast_one];by_cases h:j<rest.length+1
   ·rw [if_pos h,if_pos (by omega)];obtain ⟨i,rfl⟩:∃i:Nat,j=i+1:=⟨(j - 1).toNat,by omega⟩;rw [show ((i:Int)+1 - 1).toNat=i by omega,show ((i:Int)+1).toNat=i+1 by omega]
    rfl
   ·rw [if_neg h,if_neg (by omega)];congr 1;omega
theorem UY {n:Nat} (env:List PV) (m:Int) (h0:0≤m) (h1:m≤2305843009213693952) (hn:env.length+1<n):BZ (SS dt n 100 [.fv (PV.encEnv env),iv m] ⟨[],[]⟩) (FE env m).enc:=by
 obtain ⟨n,rfl⟩:∃k,n=k+1:=⟨n - 1,by omega⟩;rw [AnX];exact Tp env m h0 h1 n (by omega)
theorem Aiw {n:Nat} (env l:List PV) (hl:l.length≤10) (hn:l.length+1<n):BZ (SS dt n 111 [.fv (PV.encEnv env),.fv (.sl (l.map PV.enc))] ⟨[],[]⟩) (PV.encEnv (l.reverse++env)):=by
 obtain ⟨n,rfl⟩:∃k,n=k+1:=⟨n - 1,by omega⟩;rw [AoA];simp only [L5,Lx,T9,↓XX,XY,↓reduceIte,Nat.reduceBEq,Nat.reduceAdd,Int.reduceEq,Int.reduceLT,Int.reduceLE,↓AJ,XD,heldB,AQ,XE];refine A7 (Q:=fun r=>BZ r _) (fun k V H=>∃(pre rest:List PV),l=pre++rest∧rest.length=k∧V=[.fv (PV.encEnv (pre.reverse++env)),.fv (.sl (l.map PV.enc)),iv l.length,iv pre.length]∧H=⟨[],[]⟩) ?_ n l.length _ _ (by omega) ⟨[],l,rfl,rfl,rfl,rfl⟩;rintro k V H rec ⟨pre,rest,hk,hl2,rfl,rfl⟩ hrec;have hkl:l.length=pre.length+rest.length:=by rw [hk];simp
 cases rest with
 | nil =>
  have hno:¬ ((pre.length:Int)<l.length):=by rw [hkl];simp
  rw [List.append_nil] at hk;subst hk;simp only [L5,Lx,QG,T9,↓XX,XY,↓reduceIte,Nat.reduceBEq,Nat.reduceAdd,Int.reduceEq,Int.reduceLT,Int.reduceLE,hno];exact Ao _ _
 | cons x rest =>
  have hi:(pre.length:Int)<l.length:=by rw [hkl];simp;omega
  have hg:=Cv hk;have hwi:BM ((pre.length:Int)+1)=((pre++[x]).length:Int):=(As (by omega) (by omega)).trans (by simp);simp only [Arj] at hl2;simp only [L5,Lx,QG,T9,↓XX,XY,↓reduceIte,Nat.reduceBEq,Nat.reduceAdd,Int.reduceEq,Int.reduceLT,Int.reduceLE,hi,↓Ajx hg,↓AlN,↓AeC,hwi,↓AJ,XD,heldB,AQ,XE];refine hrec rest.length _ _ (by omega) ⟨pre++[x],rest,by rw [hk];simp,rfl,?_,rfl⟩;simp [PV.encEnv]
end Idl
end Go.Proofs.Ytkfecngimlcfoaa
namespace Go.Proofs.Ytkfecngimlcfoaa
namespace Idl
def PV.op:PV→Int
 | .nil=>0
 | .mk op _ _ _ _=>op
def QM (ev:Tm→M3→Option (PV×M3)) (op:Int):Nat→List Tm→M3→Option (List PV×M3)
 | _,[],m=>some ([],m)
 | i,t::l,m=>if 0<Ah op i then (QM ev op (i+1) l m).map fun (vs,m)=>(.nil::vs,m) else
  match ev t m with
  | none=>none
  | some (v,m)=>(QM ev op (i+1) l m).map fun (vs,m)=>(v::vs,m)
def CB (op:Int):Bool:=op == 5 || (op == 8 || (op == 9 || (op == 13 || (op == 30 || op == 19))))
mutual
def Px:Nat→List PV→Tm→M3→Option (PV×M3)
 | 0,_,_,_=>none
 | f+1,env,.mk op n ks,m=>match Hl m with
  | none=>none
  | some m=>if op=1 then (if 0≤n∧n≤2305843009213693952∧env.length+1<f then some (FE env n,m) else none)
   else if f≤ks.length∨300<ks.length∨f=0 then none
   else if m.e≠0 then some (.mk op n (List.replicate ks.length .nil) (.mk op n ks) env,m)
   else match QM (fun t m=>Px f env t m) op 0 ks m with
    | none=>none
    | some (vs,m)=>if m.e≠0 then some (.mk op n vs (.mk op n ks) env,m) else ctP f (.mk op n vs (.mk op n ks) env) m
def ctP:Nat→PV→M3→Option (PV×M3)
 | 0,_,_=>none
 | f+1,v,m=>match v with
  | .nil=>none
  | .mk op n k t e=>if CB op then (if m.e≠0 then some (.mk op n k t e,m) else if f=0 then none else match Hl m with
    | none=>none
    | some m=>if m.e≠0 then some (.mk op n k t e,m) else match stP f (.mk op n k t e) m with
     | none=>none
     | some (.nil,m)=>some (.mk op n k t e,m)
     | some (u,m)=>if m.e≠0 then some (.mk op n k t e,m) else if m.s < -1000000000∨1000000000<m.s then none else
      some (u,⟨m.s - 1,m.w,if m.s - 1<0 then 17 else 0⟩))
   else some (.mk op n k t e,m)
def stP:Nat→PV→M3→Option (PV×M3)
 | 0,_,_=>none
 | f+1,v,m=>match v with
  | .nil=>none
  | .mk op n k t e=>if op=5 then (match k with
    | [.mk o0 n0 k0 t0 e0,x]=>if o0=4 then opP f (.mk o0 n0 k0 t0 e0) 1 [x] m else some (.nil,m)
    | _=>none)
   else if op=8∨op=9 then (match k with
    | [.mk o0 n0 k0 t0 e0]=>if o0=7 then (match k0 with
      | [_,x,y]=>some (if op=8 then x else y,m)
      | _=>none) else some (.nil,m)
    | _=>none)
   else if op=13 then (match k with
    | [_,z,_,.mk o3 n3 k3 t3 e3]=>if o3=11 then some (z,m) else if o3=12 then (match k3 with
      | [x]=>(match ctP f (.mk op n [.nil,z,.nil,x] t e) m with
       | none=>none
       | some (h,m)=>opP f (.mk op n k t e) 2 [x,h] m)
      | _=>none) else some (.nil,m)
    | _=>none)
   else (
      match k with
    | [.mk o0 n0 k0 t0 e0]=>if o0=(if op=30 then 19 else 30) then (match k0 with
      | [x]=>some (x,m)
      | _=>none) else some (.nil,m)
    | _=>none)
def opP:Nat→PV→Nat→List PV→M3→Option (PV×M3)
 | 0,_,_,_,_=>none
 | f+1,v,i,l,m=>match v with
  | .nil=>none
  | .mk _ _ _ (.mk _ _ tk) e=>if f≤l.length+1∨10<l.length then none else match tk[i]? with
   | none=>none
   | some b=>Px f (l.reverse++e) b m
end
theorem tMk:(EE.T 98).map (·.kind)=some (.map 3 124):=by kernel_rfl
theorem tIk:(EE.T 3).map (·.kind)=some (.int .i64):=by kernel_rfl
theorem tRz:(EE.T 124).bind Rb=some (.fv (.agg [.nilf])):=by kernel_rfl
def J8:List (Int×IV):=[(5,CE 94),(8,CE 95),(9,CE 95),(13,CE 96),(30,CE 97),(19,CE 98)]
theorem AmO (op:Int) (own:List (Nat×Blk)) (s w r e:Int):(Gs EE 98 (.mapr (.ext 1)) (iv op) true).runLog ⟨own,MX s w r e⟩ [] =
  some ((match CO op J8 with
   | some v=>({ eff:={ val:=Ch [v,.fv (.bool true)] } }:Made)
   | none=>{ eff:={ val:=Ch [.fv (.agg [.nilf]),.fv (.bool false)] } }),[.ext 1]):=by
 have h1:=tMk;have h2:=tIk;have h3:=tRz;cases hm:EE.T 98 with
 | none=>rw [hm] at h1;cases h1
 | some ti =>
  cases hi:EE.T 3 with
  | none=>rw [hi] at h2;cases h2
  | some ii =>
   cases hr:EE.T 124 with
   | none=>rw [hr] at h3;cases h3
   | some ri =>
    rw [hm] at h1;rw [hi] at h2;rw [hr] at h3;obtain ⟨a,b,kd,z⟩:=ti;obtain ⟨a2,b2,kd2,z2⟩:=ii;simp only [Ari,Arf] at h1 h2;simp only [Option.bind_some] at h3;subst h1 h2;simp only [Gs,hm,hi,hr,Vf,Rd.runLog,Hp.get,MX,List.getElem?_cons_succ,List.getElem?_cons_zero]
    show (match CO op J8 with | some v=>val (Ch [v,.fv (.bool true)]) | none=>_).runLog _ _=_
    cases CO op J8 with
    | some v=>rfl
    | none=>simp only [h3];rfl
theorem KM {op:Int} {g:FuncId} (hg:CO op J8=some (CE g)) (s0:Nat) (own:List (Nat×Blk)) (s w r e:Int) (k:IV→Hp→List Ref→List Ref→Option (IV×Hp)) :
  Aw (Gs EE 98 (.mapr (.ext 1)) (iv op) true) s0 ⟨own,MX s w r e⟩ k=k (.tuple [CE g,.fv (.bool true)]) ⟨own,MX s w r e⟩ [.ext 1] []:=by
 unfold Aw;rw [AmO,hg];simp only [I1,Ce];rfl
theorem Ahm {op:Int} (hg:CO op J8=none) (s0:Nat) (own:List (Nat×Blk)) (s w r e:Int) (k:IV→Hp→List Ref→List Ref→Option (IV×Hp)) :
  Aw (Gs EE 98 (.mapr (.ext 1)) (iv op) true) s0 ⟨own,MX s w r e⟩ k=k (.fv (.tuple [.agg [.nilf],.bool false])) ⟨own,MX s w r e⟩ [.ext 1] []:=by
 unfold Aw;rw [AmO,hg];simp only [I1,Ce];rfl
theorem Z6 (op:Int):CO op J8=if op=5 then some (CE 94) else if op=8∨op=9 then some (CE 95) else if op=13 then some (CE 96) else
  if op=30 then some (CE 97) else if op=19 then some (CE 98) else none:=by
 simp only [J8,CO];split
 ·rfl
 ·split
  ·rename_i h;rw [if_pos (.inl h)]
  ·split
   ·rename_i h;rw [if_pos (.inr h)]
   ·rename_i h1 h2;simp only [h1,h2,or_self,if_false]
theorem Sl {g:FuncId} (h:EE.pol.inl g=false) (h1:EE.pol.keep g=[true,false]) (h2:EE.pol.split g=false) (h3:EE.pol.raw g=false) (ih:Aa) (x:IV) (h0:Hp) (k:IV→Hp→List Ref→List Ref→Option (IV×Hp)) :
  Fh EE ih (.func (.func g) [.ptr (.ext 0) 0] []) [x] h0 k=Ak [true,false] false false ih g [.ptr (.ext 0) 0,x] h0 k:=by
 unfold Fh;simp only [callee,h,cond_false,Aeu,h1,h2,h3];rfl
theorem AiG (ih:Aa) (x:IV) (h0:Hp) (k:IV→Hp→List Ref→List Ref→Option (IV×Hp)):Fh EE ih (.func (.func 94) [.ptr (.ext 0) 0] []) [x] h0 k=Ak [true,false] false false ih 94 [.ptr (.ext 0) 0,x] h0 k :=
 Sl (by kernel_rfl) (by kernel_rfl) (by kernel_rfl) (by kernel_rfl) ..
theorem Z3 (ih:Aa) (x:IV) (h0:Hp) (k:IV→Hp→List Ref→List Ref→Option (IV×Hp)):Fh EE ih (.func (.func 95) [.ptr (.ext 0) 0] []) [x] h0 k=Ak [true,false] false false ih 95 [.ptr (.ext 0) 0,x] h0 k :=
 Sl (by kernel_rfl) (by kernel_rfl) (by kernel_rfl) (by kernel_rfl) ..
theorem Aju (ih:Aa) (x:IV) (h0:Hp) (k:IV→Hp→List Ref→List Ref→Option (IV×Hp)):Fh EE ih (.func (.func 96) [.ptr (.ext 0) 0] []) [x] h0 k=Ak [true,false] false false ih 96 [.ptr (.ext 0) 0,x] h0 k :=
 Sl (by kernel_rfl) (by kernel_rfl) (by kernel_rfl) (by kernel_rfl) ..
theorem AkR (ih:Aa) (x:IV) (h0:Hp) (k:IV→Hp→List Ref→List Ref→Option (IV×Hp)):Fh EE ih (.func (.func 97) [.ptr (.ext 0) 0] []) [x] h0 k=Ak [true,false] false false ih 97 [.ptr (.ext 0) 0,x] h0 k :=
 Sl (by kernel_rfl) (by kernel_rfl) (by kernel_rfl) (by kernel_rfl) ..
theorem Alf (ih:Aa) (x:IV) (h0:Hp) (k:IV→Hp→List Ref→List Ref→Option (IV×Hp)):Fh EE ih (.func (.func 98) [.ptr (.ext 0) 0] []) [x] h0 k=Ak [true,false] false false ih 98 [.ptr (.ext 0) 0,x] h0 k :=
 Sl (by kernel_rfl) (by kernel_rfl) (by kernel_rfl) (by kernel_rfl) ..
theorem ZA (cs:List FV) (o:Nat) (k:IV→Option (IV×Hp)):AZ EE 96 (.fv (.fp cs o)) (.fv .nilp) k=k (.fv (.bool false)):=by
 have:Fp EE .eql 96 (.fv (.fp cs o)) (.fv .nilp)=some (.fv (.bool false)):=by
  simp only [Fp,tPp];rfl
 show DP (Fp EE .eql 96 (.fv (.fp cs o)) (.fv .nilp)) k=_
 rw [this];rfl
theorem WL (k:IV→Option (IV×Hp)):AZ EE 96 (.fv .nilp) (.fv .nilp) k=k (.fv (.bool true)):=by
 have:Fp EE .eql 96 (.fv .nilp) (.fv .nilp)=some (.fv (.bool true)):=by
  simp only [Fp,tPp];rfl
 show DP (Fp EE .eql 96 (.fv .nilp) (.fv .nilp)) k=_
 rw [this];rfl
theorem H4 (g:FuncId) (s0:Nat) (ext:List Blk) (k:Hp→List Ref→List Ref→Option (IV×Hp)):Al 1 (.ptr (.own s0) 0) (CE g) ⟨[(s0,.row [.fv .nilf] false)],ext⟩ k=k ⟨[(s0,.row [.func (.func g) [.ptr (.ext 0) 0] []] false)],ext⟩ [.own s0] [.own s0]:=by
 simp only [Al,Vr,P3,K6,Ah9,VX];rw [if_pos ⟨rfl,rfl,by simp,rfl,rfl⟩,Aeu]
 show Fu (.own s0) (.row [.func (.func g) [.ptr (.ext 0) 0] []] false) _ _=_
 rw [Wm,Aig]
def AgH (f:Nat):Prop:=∀(env:List PV) (t:Tm) (m m':M3) (v:PV),Px f env t m=some (v,m')→∀(r:Int) (n:Nat),f+1≤n →
 Bd (SS dt n 71 [.ptr (.ext 0) 0,.fv (PV.encEnv env),.fv t.enc] ⟨[],MX m.s m.w r m.e⟩) v.enc (MX m'.s m'.w r m'.e)
def Agp (f:Nat):Prop:=∀(v u:PV) (m m':M3),ctP f v m=some (u,m')→∀(r:Int) (n:Nat),f+1≤n →
 Bd (SS dt n 102 [.ptr (.ext 0) 0,.fv v.enc] ⟨[],MX m.s m.w r m.e⟩) u.enc (MX m'.s m'.w r m'.e)
def IR (op:Int):FuncId:=if op=5 then 94 else if op=8∨op=9 then 95 else if op=13 then 96 else if op=30 then 97 else 98
def Ai9 (f:Nat):Prop:=∀(v u:PV) (m m':M3),CB v.op=true→stP f v m=some (u,m')→∀(r:Int) (n:Nat),f+1≤n →
 Bd (SS dt n (IR v.op) [.ptr (.ext 0) 0,.fv v.enc] ⟨[],MX m.s m.w r m.e⟩) u.enc (MX m'.s m'.w r m'.e)
def Ac7 (f:Nat):Prop:=∀(v u:PV) (i:Nat) (l:List PV) (m m':M3),opP f v i l m=some (u,m')→∀(r:Int) (n:Nat),f+1≤n →
 Bd (SS dt n 103 [.ptr (.ext 0) 0,.fv v.enc,iv i,.fv (.sl (l.map PV.enc))] ⟨[],MX m.s m.w r m.e⟩) u.enc (MX m'.s m'.w r m'.e)
theorem Gy {op:Int} (h:CB op=true):CO op J8=some (CE (IR op)):=by
 rw [Z6];unfold IR;simp only [CB,Bool.or_eq_true,beq_iff_eq] at h;rcases h with h | h | h | h | h | h<;>subst h<;>rfl
theorem AbY {op:Int} (h:CB op=false):CO op J8=none:=by
 rw [Z6];simp only [CB,Bool.or_eq_false_iff,beq_eq_false_iff_ne,ne_eq] at h;obtain ⟨h1,h2,h3,h4,h5,h6⟩:=h;simp only [h1,h2,h3,h4,h5,h6,or_self,if_false]
theorem LW {op:Int} (h:CB op=true) (ih:Aa) (x:IV) (h0:Hp) (k:IV→Hp→List Ref→List Ref→Option (IV×Hp)) :
  Fh EE ih (.func (.func (IR op)) [.ptr (.ext 0) 0] []) [x] h0 k=Ak [true,false] false false ih (IR op) [.ptr (.ext 0) 0,x] h0 k:=by
 simp only [CB,Bool.or_eq_true,beq_iff_eq] at h;rcases h with h | h | h | h | h | h<;>subst h
 ·exact AiG ..
 ·exact Z3 ..
 ·exact Z3 ..
 ·exact Aju ..
 ·exact AkR ..
 ·exact Alf ..
set_option maxHeartbeats 1000000 in
theorem Agm {f:Nat} (hs:Ai9 f):Agp (f+1):=by
 intro v u m m' hev r n hn;obtain ⟨n,rfl⟩:∃k,n=k+1:=⟨n - 1,by omega⟩;rw [Ao0];cases v with
 | nil=>rw [ctP] at hev;cases hev
 | mk op nn k t e =>
 rw [ctP] at hev;have hs:=hs (.mk op nn k t e);obtain ⟨bo,bn,bk⟩:=t;rw [AR] at hs ⊢;cases hr:CB op with
 | false =>
  simp only [hr,Bool.false_eq_true,if_false,Arf,Arg] at hev;obtain ⟨rfl,rfl⟩:=hev;rw [AR];simp only [↓UE,↓XX,XY,↓reduceIte,Nat.reduceBEq,Nat.reduceAdd,Int.reduceEq,Int.reduceLT,Int.reduceLE,↓Ahm (AbY hr)];exact AB _ _ _
 | true =>
  simp only [hr,if_true] at hev;by_cases h0:m.e≠0
  ·rw [if_pos h0] at hev;simp only [Arf,Arg] at hev;obtain ⟨rfl,rfl⟩:=hev;rw [AR];simp only [↓UE,↓XX,XY,↓reduceIte,Nat.reduceBEq,Nat.reduceAdd,Int.reduceEq,Int.reduceLT,Int.reduceLE,↓KM (Gy hr),↓H4,h0];exact AB _ _ _
  ·rw [if_neg h0] at hev;have h0:m.e=0:=by simpa using h0
   split at hev
   ·cases hev
   ·rename_i hf0;cases ht:Hl m with
    | none=>rw [ht] at hev;cases hev
    | some m1 =>
     rw [ht] at hev;simp only at hev;have hc1:=QI ht r (n:=n) (by omega);by_cases h1:m1.e≠0
     ·rw [if_pos h1] at hev;simp only [Arf,Arg] at hev;obtain ⟨rfl,rfl⟩:=hev;rw [AR];simp only [h0] at hc1;simp only [↓UE,↓XX,XY,↓reduceIte,Nat.reduceBEq,Nat.reduceAdd,Int.reduceEq,Int.reduceLT,Int.reduceLE,↓KM (Gy hr),↓H4,h0,↓Fc _ _ hc1,h1];exact AB _ _ _
     ·rw [if_neg h1] at hev;have h1:m1.e=0:=by simpa using h1
      cases hst:stP f (.mk op nn k (.mk bo bn bk) e) m1 with
      | none=>rw [hst] at hev;cases hev
      | some q =>
       obtain ⟨x,m2⟩:=q;rw [hst] at hev;have hc2:=hs x m1 m2 hr hst r n (by omega);simp only [PV.op] at hc2;simp only [h0] at hc1;simp only [h1] at hc1 hc2;cases x with
       | nil =>
        simp only [Arf,Arg] at hev;obtain ⟨rfl,rfl⟩:=hev;rw [AR];rw [GA] at hc2;simp only [↓UE,↓XX,XY,↓reduceIte,Nat.reduceBEq,Nat.reduceAdd,Int.reduceEq,Int.reduceLT,Int.reduceLE,↓KM (Gy hr),↓H4,h0,↓Fc _ _ hc1,h1,↓LW hr,↓Pc _ _ hc2,↓ZA,↓WL];exact AB _ _ _
       | mk op2 nn2 k2 t2 e2 =>
        simp only at hev;obtain ⟨bo2,bn2,bk2⟩:=t2;by_cases h2:m2.e≠0
        ·rw [if_pos h2] at hev;simp only [Arf,Arg] at hev;obtain ⟨rfl,rfl⟩:=hev;rw [AR] at hc2 ⊢;simp only [↓UE,↓XX,XY,↓reduceIte,Nat.reduceBEq,Nat.reduceAdd,Int.reduceEq,Int.reduceLT,Int.reduceLE,↓KM (Gy hr),↓H4,h0,↓Fc _ _ hc1,h1,↓LW hr,↓Pc _ _ hc2,↓ZA,↓WL,h2];exact AB _ _ _
        ·rw [if_neg h2] at hev;have h2:m2.e=0:=by simpa using h2
         split at hev
         ·cases hev
         ·simp only [Arf,Arg] at hev;obtain ⟨rfl,rfl⟩:=hev;have hw:BM (m2.s - 1)=m2.s - 1:=by rw [As]<;>omega
          rw [AR] at hc2 ⊢;simp only [h2] at hc2;by_cases h3:m2.s - 1<0
          ·simp only [↓UE,↓XX,XY,↓reduceIte,Nat.reduceBEq,Nat.reduceAdd,Int.reduceEq,Int.reduceLT,Int.reduceLE,↓KM (Gy hr),↓H4,h0,↓Fc _ _ hc1,h1,↓LW hr,↓Pc _ _ hc2,↓ZA,↓WL,h2,hw,h3];exact AB _ _ _
          ·simp only [↓UE,↓XX,XY,↓reduceIte,Nat.reduceBEq,Nat.reduceAdd,Int.reduceEq,Int.reduceLT,Int.reduceLE,↓KM (Gy hr),↓H4,h0,↓Fc _ _ hc1,h1,↓LW hr,↓Pc _ _ hc2,↓ZA,↓WL,h2,hw,h3];exact AB _ _ _
theorem ixg {β:Type} {l:List FV} {i:Nat} {x:FV} (h:l[i]?=some x) (hx:x.cells=[x]) (k:IV→Option β):Bf 1 (.fv (.sl l)) (iv i) k=k (.fv (.fp [x] 0)):=by
 rw [BN h (by rw [hx];rfl),hx]
section
variable {β:Type} (a b c:FV) (l:List FV) (cs:List FV) (o:Nat) (v:PV) (k:IV→Option β)
theorem AoF:Bf 1 (.fv (.sl (.fp cs o::l))) (iv 0) k=k (.fv (.fp [.fp cs o] 0)):=ixg (i:=0) rfl rfl k
theorem Aoa:Bf 1 (.fv (.sl (v.enc::l))) (iv 0) k=k (.fv (.fp [v.enc] 0)):=ixg (i:=0) rfl (DV v) k
theorem Aov:Bf 1 (.fv (.sl (a :: .fp cs o::l))) (iv 1) k=k (.fv (.fp [.fp cs o] 0)):=ixg (i:=1) rfl rfl k
theorem Ao1:Bf 1 (.fv (.sl (a::v.enc::l))) (iv 1) k=k (.fv (.fp [v.enc] 0)):=ixg (i:=1) rfl (DV v) k
theorem AoR:Bf 1 (.fv (.sl (a::b :: .fp cs o::l))) (iv 2) k=k (.fv (.fp [.fp cs o] 0)):=ixg (i:=2) rfl rfl k
theorem AnZ:Bf 1 (.fv (.sl (a::b::v.enc::l))) (iv 2) k=k (.fv (.fp [v.enc] 0)):=ixg (i:=2) rfl (DV v) k
theorem An8:Bf 1 (.fv (.sl (a::b::c :: .fp cs o::l))) (iv 3) k=k (.fv (.fp [.fp cs o] 0)):=ixg (i:=3) rfl rfl k
theorem AoS:Bf 1 (.fv (.sl (a::b::c::v.enc::l))) (iv 3) k=k (.fv (.fp [v.enc] 0)):=ixg (i:=3) rfl (DV v) k
end
def XI:=Are @AoF<|Are @Aov<|Are @AoR<|Are @An8<|Are @Aoa<|Are @Ao1<|Are @AnZ @AoS
theorem AmJ {β:Type} (o p:Nat) (cs:List FV) (k:IV→Option β):Ac o (.fv (.fp cs p)) k=k (.fv (.fp cs (p+o))):=by rw [O1]
theorem Ak9 (s:Nat) (b:Blk) (l:List (Nat×Blk)):Ap s ((s,b)::l)=some b:=by simp only [Ap,if_true]
theorem Ahr {f:Nat} (he:AgH f):Ac7 (f+1):=by
 intro v u i l m m' hev r n hn;obtain ⟨n,rfl⟩:∃k,n=k+1:=⟨n - 1,by omega⟩;rw [AoE];cases v with
 | nil=>rw [opP] at hev;cases hev
 | mk op nn k t e =>
 obtain ⟨bo,bn,bk⟩:=t;rw [opP] at hev;split at hev
 ·cases hev
 ·rename_i hf;cases hb:bk[i]? with
  | none=>rw [hb] at hev;cases hev
  | some b =>
   rw [hb] at hev;simp only at hev;have hw:=Aiw (n:=n) e l (by omega) (by omega);have hc:=he _ _ _ _ _ hev r n (by omega);rw [AR];obtain ⟨b1,b2,b3⟩:=b;have hg:=AY hb;rw [Am] at hc;simp only [AaA,Zn,AcT,↓XX,XY,↓reduceIte,Nat.reduceBEq,Nat.reduceAdd,Int.reduceEq,Int.reduceLT,Int.reduceLE,↓Ag hw,↓BN hg (Bt _ _ _),↓Cy,↓AmJ,↓Ac1 _ _ hc];exact AB _ _ _
theorem Tt {n:Nat} (hn:0<n) (op nn:Int) (o0 n0:Int) (k0:List PV) (t0:Tm) (e0:List PV) (t:Tm) (e:List PV) (want:Int) (hk:o0=want→∃x,k0=[x]) :
  BZ (SS dt n 109 [.fv (PV.mk op nn [.mk o0 n0 k0 t0 e0] t e).enc,iv want] ⟨[],[]⟩) (if o0=want then k0.headD .nil else .nil).enc:=by
 obtain ⟨n,rfl⟩:∃k,n=k+1:=⟨n - 1,by omega⟩;rw [Ao2];obtain ⟨bo,bn,bk⟩:=t;obtain ⟨co,cn,ck⟩:=t0;rw [AR,Arl,Ark,AR];by_cases h:o0=want
 ·obtain ⟨x,rfl⟩:=hk h;rw [if_pos h];simp only [Pj,Qg,PI,Ab9,↓XX,XY,↓reduceIte,Nat.reduceBEq,Nat.reduceAdd,Int.reduceEq,Int.reduceLT,Int.reduceLE,↓XI,h,List.headD_cons];exact Ao _ _
 ·rw [if_neg h,GA];simp only [Pj,Qg,PI,Ab9,↓XX,XY,↓reduceIte,Nat.reduceBEq,Nat.reduceAdd,Int.reduceEq,Int.reduceLT,Int.reduceLE,↓XI,h];exact Ao _ _
theorem Ago {f:Nat} (hc:Agp f) (ho:Ac7 f):Ai9 (f+1):=by
 intro v u m m' hr hev r n hn;obtain ⟨n,rfl⟩:∃k,n=k+1:=⟨n - 1,by omega⟩;cases v with
 | nil=>rw [stP] at hev;cases hev
 | mk op nn k t e =>
 obtain ⟨bo,bn,bk⟩:=t;rw [stP.eq_def] at hev;simp only at hev;simp only [PV.op] at hr ⊢;by_cases h5:op=5
 ·subst h5;rw [if_pos rfl] at hev;rw [show IR 5=94 from rfl,c94]
  match k,hev with
  | [.mk o0 n0 k0 t0 e0,x],hev =>
   simp only at hev;obtain ⟨co,cn,ck⟩:=t0;by_cases h4:o0=4
   ·subst h4;rw [if_pos rfl] at hev;have hq:=ho _ _ _ _ _ _ hev r n (by omega);rw [AR] at hq ⊢;simp only [Arl,Ark,AR] at hq ⊢;simp only [Ur,UH,Ug,S94,↓XX,XY,↓reduceIte,Nat.reduceBEq,Nat.reduceAdd,Int.reduceEq,Int.reduceLT,Int.reduceLE,↓XI,↓AnF,↓Pd _ _ hq];exact AB _ _ _
   ·rw [if_neg h4] at hev;simp only [Arf,Arg] at hev;obtain ⟨rfl,rfl⟩:=hev;rw [AR];simp only [Arl,Ark,AR,GA];simp only [Ur,UH,Ug,S94,↓XX,XY,↓reduceIte,Nat.reduceBEq,Nat.reduceAdd,Int.reduceEq,Int.reduceLT,Int.reduceLE,↓XI,h4];exact AB _ _ _
 ·rw [if_neg h5] at hev;by_cases h8:op=8∨op=9
  ·rw [if_pos h8] at hev;rw [show IR op=95 by rcases h8 with rfl | rfl<;>rfl,c95]
   match k,hev with
   | [.mk o0 n0 k0 t0 e0],hev =>
    simp only at hev;obtain ⟨co,cn,ck⟩:=t0;by_cases h7:o0=7
    ·subst h7;rw [if_pos rfl] at hev
     match k0,hev with
     | [w,x,y],hev =>
      simp only [Arf,Arg] at hev;obtain ⟨rfl,rfl⟩:=hev;rw [AR];simp only [Arl,Ark,AR];rcases h8 with rfl | rfl
      ·simp only [PJ,PK,RT,RK,S95,↓XX,XY,↓reduceIte,Nat.reduceBEq,Nat.reduceAdd,Int.reduceEq,Int.reduceLT,Int.reduceLE,↓XI];exact AB _ _ _
      ·simp only [PJ,PK,RT,RK,S95,↓XX,XY,↓reduceIte,Nat.reduceBEq,Nat.reduceAdd,Int.reduceEq,Int.reduceLT,Int.reduceLE,↓XI];exact AB _ _ _
    ·rw [if_neg h7] at hev;simp only [Arf,Arg] at hev;obtain ⟨rfl,rfl⟩:=hev;rw [AR];simp only [Arl,Ark,AR,GA];simp only [PJ,PK,RT,RK,S95,↓XX,XY,↓reduceIte,Nat.reduceBEq,Nat.reduceAdd,Int.reduceEq,Int.reduceLT,Int.reduceLE,↓XI,h7];exact AB _ _ _
  ·rw [if_neg h8] at hev;by_cases h13:op=13
   ·subst h13;rw [if_pos rfl] at hev;rw [show IR 13=96 from rfl,c96]
    match k,hev with
    | [p0,z,p2,.mk o3 n3 k3 t3 e3],hev =>
     simp only at hev;obtain ⟨co,cn,ck⟩:=t3;by_cases h11:o3=11
     ·subst h11;rw [if_pos rfl] at hev;simp only [Arf,Arg] at hev;obtain ⟨rfl,rfl⟩:=hev;rw [AR];simp only [Arl,Ark,AR];simp only [Q4,QQ,Pl,RG,P8,PP,QN,QU,Qx,R5,S96,↓XX,XY,↓reduceIte,Nat.reduceBEq,Nat.reduceAdd,Int.reduceEq,Int.reduceLT,Int.reduceLE,↓XI];exact AB _ _ _
     ·rw [if_neg h11] at hev;by_cases h12:o3=12
      ·subst h12;rw [if_pos rfl] at hev
       match k3,hev with
       | [x],hev =>
        simp only at hev;cases hcc:ctP f (.mk 13 nn [.nil,z,.nil,x] (.mk bo bn bk) e) m with
        | none=>rw [hcc] at hev;cases hev
        | some q =>
         obtain ⟨h,m1⟩:=q;rw [hcc] at hev;have hq1:=hc _ _ _ _ hcc r n (by omega);have hq2:=ho _ _ _ _ _ _ hev r n (by omega);rw [AR] at hq1 hq2 ⊢;simp only [Arl,Ark,AR,GA] at hq1 hq2 ⊢;simp only [Q4,QQ,Pl,RG,P8,PP,QN,QU,Qx,R5,S96,↓XX,XY,↓reduceIte,Nat.reduceBEq,Nat.reduceAdd,Int.reduceEq,Int.reduceLT,Int.reduceLE,↓XI,↓Anf,↓AlV];rw [Af1 hq1 (s0:=100669443) (Ak9 ..) rfl (by simp)];simp only [↓XX,XY,↓reduceIte,Nat.reduceBEq,Nat.reduceAdd,Int.reduceEq,Int.reduceLT,Int.reduceLE,↓AnJ,↓Pd _ _ hq2];exact AB _ _ _
      ·rw [if_neg h12] at hev;simp only [Arf,Arg] at hev;obtain ⟨rfl,rfl⟩:=hev;rw [AR];simp only [Arl,Ark,AR,GA];simp only [Q4,QQ,Pl,RG,P8,PP,QN,QU,Qx,R5,S96,↓XX,XY,↓reduceIte,Nat.reduceBEq,Nat.reduceAdd,Int.reduceEq,Int.reduceLT,Int.reduceLE,↓XI,h11,h12];exact AB _ _ _
   ·rw [if_neg h13] at hev
    match k,hev with
    | [.mk o0 n0 k0 t0 e0],hev =>
     simp only at hev;have h30:op=30∨op=19:=by
      simp only [CB,Bool.or_eq_true,beq_iff_eq] at hr;omega
     have hu:((o0=(if op=30 then 19 else 30)→∃x,k0=[x])∧(if o0=(if op=30 then 19 else 30) then k0.headD .nil else .nil)=u∧m=m'):=by
      by_cases ho0:o0=(if op=30 then 19 else 30)
      ·rw [if_pos ho0] at hev
       match k0,hev with
       | [x],hev =>
        simp only [Arf,Arg] at hev;obtain ⟨rfl,rfl⟩:=hev;exact ⟨fun _=>⟨_,rfl⟩,by rw [if_pos ho0];rfl,rfl⟩
      ·rw [if_neg ho0] at hev;simp only [Arf,Arg] at hev;obtain ⟨rfl,rfl⟩:=hev;exact ⟨fun h=>absurd h ho0,by rw [if_neg ho0],rfl⟩
     obtain ⟨hu1,rfl,rfl⟩:=hu;rcases h30 with rfl | rfl
     ·rw [show IR 30=97 from rfl,c97]
      rw [show (if (30:Int)=30 then (19:Int) else 30)=19 from rfl] at hu1 ⊢
      have hw:=Tt (n:=n) (by omega) 30 nn o0 n0 k0 t0 e0 (.mk bo bn bk) e 19 hu1;simp only [S97,↓XX,XY,↓reduceIte,Nat.reduceBEq,Nat.reduceAdd,Int.reduceEq,Int.reduceLT,Int.reduceLE,↓Ag hw];exact AB _ _ _
     ·rw [show IR 19=98 from rfl,c98]
      rw [show (if (19:Int)=30 then (19:Int) else 30)=30 from rfl] at hu1 ⊢
      have hw:=Tt (n:=n) (by omega) 19 nn o0 n0 k0 t0 e0 (.mk bo bn bk) e 30 hu1;simp only [S98,↓XX,XY,↓reduceIte,Nat.reduceBEq,Nat.reduceAdd,Int.reduceEq,Int.reduceLT,Int.reduceLE,↓Ag hw];exact AB _ _ _
end Idl
end Go.Proofs.Ytkfecngimlcfoaa
namespace Go.Proofs.Ytkfecngimlcfoaa
namespace Idl
theorem AhA (ih:Aa) (xs:List IV) (h0:Hp) (k:IV→Hp→List Ref→List Ref→Option (IV×Hp)):Fh EE ih (.fv (.func (.func 110) [] [])) xs h0 k=Ak [] false false ih 110 xs h0 k :=
 AmP (by kernel_rfl) (by kernel_rfl) (by kernel_rfl) (by kernel_rfl) ..
theorem AbG {n:Nat} (hn:0<n) (op:Int) (i:Nat):BZ (SS dt n 110 [iv op,iv i] ⟨[],[]⟩) (.int .i64 (Ah op i)):=by
 obtain ⟨n,rfl⟩:∃k,n=k+1:=⟨n - 1,by omega⟩;rw [An7];unfold Ah;by_cases h:op=3∨op=4∨op=6∨op=20∨op=28∨op=29
 ·rw [if_pos h];by_cases hi:i=1
  ·subst hi;rcases h with rfl | rfl | rfl | rfl | rfl | rfl<;>(simp only [↓Acv,↓XX,XY,↓reduceIte,Nat.reduceBEq,Nat.reduceAdd,Int.reduceEq,Int.reduceLT,Int.reduceLE];exact Ao _ _)
  ·have hi':¬ (i:Int)=1:=by omega
   rcases h with rfl | rfl | rfl | rfl | rfl | rfl<;>(simp only [↓Acv,↓XX,XY,↓reduceIte,Nat.reduceBEq,Nat.reduceAdd,Int.reduceEq,Int.reduceLT,Int.reduceLE,hi',hi];exact Ao _ _)
 ·rw [if_neg h];have h3:¬ op=3:=fun e=>h (by simp [e]);have h4:¬ op=4:=fun e=>h (by simp [e]);have h6:¬ op=6:=fun e=>h (by simp [e]);have h20:¬ op=20:=fun e=>h (by simp [e]);have h28:¬ op=28:=fun e=>h (by simp [e]);have h29:¬ op=29:=fun e=>h (by simp [e]);by_cases h13:op=13
  ·subst h13;by_cases h0:i=0
   ·subst h0;simp only [↓Acv,↓XX,XY,↓reduceIte,Nat.reduceBEq,Nat.reduceAdd,Int.reduceEq,Int.reduceLT,Int.reduceLE];exact Ao _ _
   ·have h0':¬ (i:Int)=0:=by omega
    by_cases h2:i=2
    ·subst h2;simp only [↓Acv,↓XX,XY,↓reduceIte,Nat.reduceBEq,Nat.reduceAdd,Int.reduceEq,Int.reduceLT,Int.reduceLE];exact Ao _ _
    ·have h2':¬ (i:Int)=2:=by omega
     simp only [↓Acv,↓XX,XY,↓reduceIte,Nat.reduceBEq,Nat.reduceAdd,Int.reduceEq,Int.reduceLT,Int.reduceLE,h0,h0',h2,h2'];exact Ao _ _
  ·simp only [↓Acv,↓XX,XY,↓reduceIte,Nat.reduceBEq,Nat.reduceAdd,Int.reduceEq,Int.reduceLT,Int.reduceLE,h3,h4,h6,h20,h28,h29,h13];exact Ao _ _
theorem SW {n:Nat} (hn:1<n) (op:Int) (i:Nat):BZ (SS dt n 101 [iv op,iv i] ⟨[],[]⟩) (.int .i64 (Ah op i)):=by
 obtain ⟨n,rfl⟩:∃k,n=k+1:=⟨n - 1,by omega⟩;rw [Aol];have h:=AbG (n:=n) (by omega) op i;simp only [Aft,↓XX,XY,↓reduceIte,Nat.reduceBEq,Nat.reduceAdd,Int.reduceEq,Int.reduceLT,Int.reduceLE,↓AhA,↓Ag h];exact Ao _ _
theorem AeX {β:Type}:∀(l:List IV) (i:Nat) (x:IV) (k:List IV→Option β),i<l.length→Gu l i x k=k (l.set i x)
 | [],i,x,k,h=>absurd h (by simp)
 | y::l,0,x,k,_=>rfl
 | y::l,i+1,x,k,h=>by
  show Gu l i x (fun t=>k (y::t))=_
  rw [AeX l i x _ (by simpa using h)];rfl
def nils (n:Nat):List PV:=List.replicate n .nil
theorem Ag4 (n:Nat):Oj n [IV.fv .nilp]=((nils n).map PV.enc).map IV.fv:=by
 induction n with
 | zero=>rfl
 | succ n ih=>rw [Oj,ih];rfl
theorem AiT {n:Nat} (hn:n≤1000) (s:Nat) (own:List (Nat×Blk)) (ext:List Blk) (k:IV→Hp→List Ref→List Ref→Option (IV×Hp)) :
  Aw (BK EE s 127 (iv n) (iv n)) s ⟨own,ext⟩ k=Cu own s (A0 own s (.row (((nils n).map PV.enc).map IV.fv) false) fun own=>k (.slc (.own s) 1 n) ⟨own,ext⟩ [] [.own s]):=by
 have:BK EE s 127 (iv n) (iv n)=.ret { eff:={ val:=.slc (.own s) 1 n },new:=some (.row (((nils n).map PV.enc).map IV.fv) false) }:=by
  simp only [BK,tPs,tPp,Vf];rw [if_pos ⟨by omega,by omega,by omega,by decide,by decide⟩,Int.toNat_natCast,Ag4]
 rw [this];unfold Aw;simp only [Rd.runLog,I1,Cw,Ce];rfl
theorem Ak6 (v:PV):IV.one (.fv v.enc)=true:=by
 cases v with
 | nil=>rfl
 | mk op n k t e=>obtain ⟨bo,bn,bk⟩:=t;rw [AR];rfl
theorem Aih {β:Type} {n i:Nat} (h:i<n) (r:Ref) (k:IV→Option β):Bf 1 (.slc r 1 n) (iv i) k=k (.ptr r i):=by
 have e1:Nat.ble (Nat.succ i) n=true:=by rw [Bb];exact decide_eq_true h
 show (AbN (iv i) fun n'=>cond (and (Nat.ble (Nat.succ n') n) (Nat.beq 1 1)) (DN (n' * 1) fun o=>k (.ptr r o)) none)=_
 show (cond (and (Nat.ble (Nat.succ i) n) (Nat.beq 1 1)) (DN (i * 1) fun o=>k (.ptr r o)) none)=_
 rw [e1];simp only [BE,Nat.mul_one];rfl
theorem Ah5 {done:List PV} {r:Nat} {β:Type} (v:PV) (k:List IV→Option β):Gu (((done++nils (r+1)).map PV.enc).map IV.fv) done.length (.fv v.enc) k=k ((((done++[v])++nils r).map PV.enc).map IV.fv):=by
 rw [AeX _ _ _ _ (by simp [nils])];congr 1;simp only [nils,List.replicate_succ,List.map_append,Arl,List.append_assoc,List.cons_append,List.nil_append,Ark];rw [List.set_append_right _ _ (by simp)];simp
abbrev Hev (op m:Int) (ks:List Tm) (env kk:List PV) (ro:Bool) (s w r e:Int):Hp :=
 ⟨[(74448896,.row [iv op,iv m,.fv (.sl (ks.map Tm.enc))] false),(74452999,.row ((kk.map PV.enc).map .fv) ro),(74453003,.row [iv op,iv m,.slc (.own 74452999) 1 ks.length,iv op,iv m,.fv (.sl (ks.map Tm.enc)),.fv (PV.encEnv env)] ro)],MX s w r e⟩
theorem FR {base rm:List Nat} {vals:List IV} {own:List (Nat×Blk)} {s w r e:Int} (hb:rm.any base.contains=false) (hf:AQ rm vals own []=true) (k:Hp→Option (IV×Hp)) :
  Bs base rm vals ⟨own,MX s w r e⟩ k=k ⟨Hq rm vals own [],MX s w r e⟩:=Aff (fun j=>Ag8 s w r e j) hb hf k
theorem AeD {op m:Int} {ks:List Tm} {env kk:List PV} {s w r e:Int} (hl:kk.length=ks.length) (h3:ks.length≤300):Bd (some (.ptr (.own 74453003) 0,Hev op m ks env kk false s w r e)) (PV.mk op m kk (.mk op m ks) env).enc (MX s w r e):=by
 rw [AR];have hl':ks.length=(kk.map PV.enc).length:=by simp [hl]
 have:=fun (e0:Option (IV×Hp)) (K:FV→List (Ref×Blk)→List Ref→Option (IV×Hp))=>Amg (s:=74453003) (s2:=74452999) (own:=(Hev op m ks env kk false s w r e).own) (ext:=MX s w r e) (es:=kk.map PV.enc) (ro:=false) (ro2:=false) (a:=.int .i64 op) (b:=.int .i64 m) (c:=.int .i64 op) (d:=.int .i64 m) (t:=.sl (ks.map Tm.enc)) (x:=PV.encEnv env)
  (by rw [← hl'];rfl) (by rfl) (by simp [hl];omega) (by simp only [List.mem_map];rintro x ⟨v,_,rfl⟩;exact Mb v) [] e0 K
 exact ⟨_,_,rfl,_,_,this⟩
theorem Re {ev:Tm→M3→Option (PV×M3)} {op:Int}:∀{i:Nat} {l:List Tm} {m:M3} {vs:List PV} {m':M3},QM ev op i l m=some (vs,m')→vs.length=l.length
 | _,[],m,vs,m',h=>by simp only [QM,Arf,Arg] at h;rw [← h.1];rfl
 | i,t::l,m,vs,m',h=>by
  rw [QM] at h;split at h
  ·cases hk:QM ev op (i+1) l m with
   | none=>rw [hk] at h;cases h
   | some q =>
    rw [hk] at h;simp only [Ari,Arf,Arg] at h;rw [← h.1,Arj,Arj,Re (vs:=q.1) (m':=q.2) hk]
  ·split at h
   ·cases h
   ·rename_i v m2 _;cases hk:QM ev op (i+1) l m2 with
    | none=>rw [hk] at h;cases h
    | some q =>
     rw [hk] at h;simp only [Ari,Arf,Arg] at h;rw [← h.1,Arj,Arj,Re (vs:=q.1) (m':=q.2) hk]
set_option maxRecDepth 20000 in
set_option maxHeartbeats 1000000 in
theorem AhL {f:Nat} (he:AgH f) (hc:Agp f):AgH (f+1):=by
 intro env t m0 m' v hev r n hn;obtain ⟨n,rfl⟩:∃k,n=k+1:=⟨n - 1,by omega⟩;rw [c71];obtain ⟨op,m,ks⟩:=t;rw [Am];rw [Px] at hev;cases ht:Hl m0 with
 | none=>rw [ht] at hev;cases hev
 | some m1 =>
 rw [ht] at hev;simp only at hev;have hc1:=QI ht r (n:=n) (by omega);by_cases h1:op=1
 ·rw [if_pos h1] at hev;split at hev
  ·rename_i hv;simp only [Arf,Arg] at hev;obtain ⟨rfl,rfl⟩:=hev;have hvar:=UY (n:=n) env m hv.1 hv.2.1 (by omega);simp only [↓Afc,↓XX,XY,↓reduceIte,Nat.reduceBEq,Nat.reduceAdd,Int.reduceEq,Int.reduceLT,Int.reduceLE,↓Fc _ _ hc1,h1,↓Ag hvar];exact AB _ _ _
  ·cases hev
 ·rw [if_neg h1] at hev;split at hev
  ·cases hev
  rename_i hb;have hk3:ks.length≤300:=by omega
  by_cases h2:m1.e≠0
  ·rw [if_pos h2] at hev;simp only [Arf,Arg] at hev;obtain ⟨rfl,rfl⟩:=hev;simp only [LC,LQ,Lz,LB,LL,LY,LN,LI,LD,Ls,LG,L8,L7,LM,S71,↓XX,XY,↓reduceIte,Nat.reduceBEq,Nat.reduceAdd,Int.reduceEq,Int.reduceLT,Int.reduceLE,↓Fc _ _ hc1,h1,h2,↓AiT (show ks.length≤1000 by omega),↓AeC]
   exact AeD (kk:=nils ks.length) (by simp [nils]) hk3
  ·rw [if_neg h2] at hev;have h2:m1.e=0:=by simpa using h2
   ·
    cases hkk:QM (fun t m=>Px f env t m) op 0 ks m1 with
    | none=>rw [hkk] at hev;cases hev
    | some q =>
    obtain ⟨vs,m2⟩:=q;rw [hkk] at hev;simp only at hev;simp only [h2] at hc1;simp only [LC,LQ,Lz,LB,LL,LY,LN,LI,LD,Ls,LG,L8,L7,LM,S71,↓XX,XY,↓reduceIte,Nat.reduceBEq,Nat.reduceAdd,Int.reduceEq,Int.reduceLT,Int.reduceLE,↓Fc _ _ hc1,h1,h2,↓AiT (show ks.length≤1000 by omega),↓AeC,↓FR,↓AJ,XD,heldB,AQ,XE,EN,De]
    have hlen:=Re hkk;refine A7 (Q:=fun r=>Bd r _ _) (fun k V H=>∃(pre rest:List Tm) (done:List PV) (m3:M3) (us:List PV),ks=pre++rest∧rest.length=k∧done.length=pre.length ∧
      V=[.ptr (.ext 0) 0,.fv (PV.encEnv env),.ptr (.own 74448896) 0,.ptr (.own 74453003) 0,.fv (.sl (ks.map Tm.enc)),iv ks.length,iv pre.length] ∧
      H=Hev op m ks env (done++nils rest.length) false m3.s m3.w r m3.e ∧
      QM (fun t m=>Px f env t m) op pre.length rest m3=some (us,m2)∧done++us=vs)
     ?_ n ks.length _ _ (by omega) ⟨[],ks,[],m1,vs,rfl,rfl,rfl,rfl,by rw [h2];rfl,hkk,rfl⟩
    rintro k V H rec ⟨pre,rest,done,m3,us,hk,hl,hdl,rfl,rfl,hkids,hvs⟩ hrec;have hkl:ks.length=pre.length+rest.length:=by rw [hk];simp
    cases rest with
    | nil =>
     simp only [QM,Arf,Arg] at hkids;obtain ⟨rfl,rfl⟩:=hkids;rw [List.append_nil] at hvs;subst hvs;have hno:¬ ((pre.length:Int)<ks.length):=by rw [hkl];simp
     have hz:done++nils ([]:List Tm).length=done:=by simp [nils]
     rw [hz];by_cases h4:m3.e≠0
     ·rw [if_pos h4] at hev;simp only [Arf,Arg] at hev;obtain ⟨rfl,rfl⟩:=hev;simp only [↓Afc,↓XX,XY,↓reduceIte,Nat.reduceBEq,Nat.reduceAdd,Int.reduceEq,Int.reduceLT,Int.reduceLE,hno,h4];exact AeD hlen hk3
     ·rw [if_neg h4] at hev;have h4:m3.e=0:=by simpa using h4
      have hcc:=hc _ _ _ _ hev r n (by omega);rw [AR] at hcc;simp only [h4] at hcc;have hlm:(done.map PV.enc).length=ks.length:=by simp [hlen]
      simp only [↓Afc,↓XX,XY,↓reduceIte,Nat.reduceBEq,Nat.reduceAdd,Int.reduceEq,Int.reduceLT,Int.reduceLE,hno,h4];rw [Ahq hcc (s0:=74453003) (s2:=74452999) (own':=(Hev op m ks env done true m3.s m3.w r 0).own) (by rfl) (by rfl) hlm (by decide) (by omega) (by simp only [List.mem_map];rintro x ⟨v,_,rfl⟩;exact Mb v) (by rfl)];exact AB _ _ _
    | cons x rest =>
     have hi:(pre.length:Int)<ks.length:=by rw [hkl];simp;omega
     have hg:=Cv hk;have hb:=SW (n:=n) (by omega) op pre.length;have hwi:BM ((pre.length:Int)+1)=((pre++[x]).length:Int):=(As (by omega) (by omega)).trans (by simp);simp only [QM] at hkids;simp only [Arj] at hl;by_cases hbn:0<Ah op pre.length
     ·rw [if_pos hbn] at hkids;have hbn':¬ ((Ah op pre.length:Nat):Int)=0:=by omega
      obtain ⟨o,p,l⟩:=x;simp only [↓Afc,↓XX,XY,↓reduceIte,Nat.reduceBEq,Nat.reduceAdd,Int.reduceEq,Int.reduceLT,Int.reduceLE,hi,↓BN (AY hg) (Bt _ _ _),↓Cy,↓Ag hb,hbn',hwi,↓FR,↓AJ,XD,heldB,AQ,XE,EN,De];cases hkk2:QM (fun t m=>Px f env t m) op (pre.length+1) rest m3 with
      | none=>rw [hkk2] at hkids;cases hkids
      | some q =>
      obtain ⟨us',m4⟩:=q;rw [hkk2] at hkids;simp only [Ari,Arf,Arg] at hkids;obtain ⟨rfl,rfl⟩:=hkids;refine hrec rest.length _ _ (by omega) ⟨pre++[.mk o p l],rest,done++[.nil],m3,us',by rw [hk];simp,rfl,by simp [hdl],rfl,?_,by simpa using hkk2,by rw [← hvs];simp⟩;rw [show done++[.nil]++nils rest.length=done++nils (rest.length+1) by simp [nils,List.replicate_succ]]
     ·rw [if_neg hbn] at hkids;have hbn':((Ah op pre.length:Nat):Int)=0:=by omega
      cases hev2:Px f env x m3 with
      | none=>rw [hev2] at hkids;cases hkids
      | some q =>
      obtain ⟨y,m4⟩:=q;rw [hev2] at hkids;simp only at hkids;cases hkk2:QM (fun t m=>Px f env t m) op (pre.length+1) rest m4 with
      | none=>rw [hkk2] at hkids;cases hkids
      | some q =>
      obtain ⟨us',m5⟩:=q;rw [hkk2] at hkids;simp only [Ari,Arf,Arg] at hkids;obtain ⟨rfl,rfl⟩:=hkids;have hce:=he _ _ _ _ _ hev2 r n (by omega);obtain ⟨o,p,l⟩:=x;rw [Am] at hce;have hin:pre.length<ks.length:=by omega
      have hoff:=fun {β:Type}=>Ah5 (done:=done) (r:=rest.length) (β:=β);rw [hdl] at hoff;simp only [↓Afc,↓XX,XY,↓reduceIte,Nat.reduceBEq,Nat.reduceAdd,Int.reduceEq,Int.reduceLT,Int.reduceLE,hi,↓BN (AY hg) (Bt _ _ _),↓Cy,↓Ag hb,hbn',hwi,↓Ac1 _ _ hce,↓Aih hin,↓Ak6,↓hoff,↓FR,↓AJ,XD,heldB,AQ,XE,EN,De];exact hrec rest.length _ _ (by omega) ⟨pre++[.mk o p l],rest,done++[y],m4,us',by rw [hk];simp,rfl,by simp [hdl],rfl,rfl,by simpa using hkk2,by rw [← hvs];simp⟩
theorem Lh:∀f,AgH f∧Agp f∧Ai9 f∧Ac7 f
 | 0=>⟨(fun _ _ _ _ _ h=>by rw [Px.eq_def] at h;cases h),(fun _ _ _ _ h=>by rw [ctP.eq_def] at h;cases h),(fun _ _ _ _ _ h=>by rw [stP.eq_def] at h;cases h),(fun _ _ _ _ _ _ h=>by rw [opP.eq_def] at h;cases h)⟩
 | f+1=>⟨AhL (Lh f).1 (Lh f).2.1,Agm (Lh f).2.2.1,Ago (Lh f).2.1 (Lh f).2.2.2,Ahr (Lh f).1⟩
def Sk (below:Int) (b:Nat):List PV:=(List.range b).map fun (j:Nat)=>PV.var (below+(j:Int))
theorem AcV (u:Int) (b:Nat):Sk u (b+1)=Sk u b++[PV.var (u+b)]:=by simp [Sk,List.range_succ]
theorem Kb (u:Int) (b:Nat):(Sk u b).length=b:=by simp [Sk]
def bkK (bk:PV→Int→M3→Int→Option (Tm×M3×Int)) (opn:Nat→List PV→M3→Option (PV×M3)) (op below:Int):Nat→List PV→M3→Int→Option (Option (List Tm)×M3×Int)
 | _,[],m,r=>some (some [],m,r)
 | i,x::l,m,r=>match (if 0<Ah op i then opn i (Sk below (Ah op i)) m else some (x,m)) with
  | none=>none
  | some (y,m)=>if m.e≠0 then some (none,m,r) else match bk y (below+Ah op i) m r with
   | none=>none
   | some (t,m,r)=>(bkK bk opn op below (i+1) l m r).map fun (ts,m,r)=>(ts.map (t::·),m,r)
def Tg:Nat→PV→Int→Int→M3→Int→Option (Tm×M3×Int)
 | 0,_,_,_,_,_=>none
 | f+1,v,below,deep,m,r =>
  if r<0∨1000000000<r∨below<0∨1000000<below∨deep<0∨1000000<deep then none else
  match Hl ⟨m.s,m.w,if m.e=0∧(3000<r+1∨120<deep) then 5 else m.e⟩ with
  | none=>none
  | some m=>if m.e≠0 then some (.z,m,r+1) else match v with
   | .nil=>none
   | .mk op n k t e=>if op=1 then (if n < -2305843009213693952∨2305843009213693952<n then none else some (.mk 1 (below - 1 - n) [],m,r+1))
    else if f≤k.length+4∨100<k.length then none
    else match bkK (fun v below m r=>Tg f v below (deep+1) m r) (fun i l m=>opP f (.mk op n k t e) i l m) op below 0 k m (r+1) with
     | none=>none
     | some (none,m,r)=>some (.z,m,r)
     | some (some ts,m,r)=>some (.mk op n ts,m,r)
def Ahe (f:Nat):Prop:=∀(v:PV) (below deep:Int) (m:M3) (r:Int) (t:Tm) (m':M3) (r':Int),Tg f v below deep m r=some (t,m',r')→∀n,f+1≤n →
 Bd (SS dt n 72 [.ptr (.ext 0) 0,.fv v.enc,iv below,iv deep] ⟨[],MX m.s m.w r m.e⟩) t.enc (MX m'.s m'.w r' m'.e)
theorem Hn (j:Nat) (v:FV):Fr (.ext j) (.fv v)=true:=rfl
theorem AeU {ih:Aa} {n:Nat} {v w:FV} {below deep s u r e e1:Int} {ext:List Blk} (hr:0≤r) (hr2:r≤1000000000) (he1:(if e=0∧(3000<r+1∨120<deep) then (5:Int) else e)=e1)
  (h:Bd (EP ih ⟨[(75497472,.row [iv 0,iv 0,.nils] false)],MX s u (r+1) e1⟩ (.ptr (.ext 0) 0) (.ptr (.own 75497472) 0) (.fv v) (iv below) ⟨[],MX s u r e⟩ (iv deep) n) w ext) :
  Bd (S72 ih n (.ptr (.ext 0) 0) (.fv v) (iv below) (iv deep) ⟨[],MX s u r e⟩) w ext:=by
 have wr:BM (r+1)=r+1:=by rw [As]<;>omega
 have key:S72 ih n (.ptr (.ext 0) 0) (.fv v) (iv below) (iv deep) ⟨[],MX s u r e⟩=EP ih ⟨[(75497472,.row [iv 0,iv 0,.nils] false)],MX s u (r+1) e1⟩ (.ptr (.ext 0) 0) (.ptr (.own 75497472) 0) (.fv v) (iv below) ⟨[],MX s u r e⟩ (iv deep) n:=by
  by_cases h0:e=0
  ·by_cases h3:3000<r+1
   ·rw [if_pos ⟨h0,.inl h3⟩] at he1;subst he1;simp only [Dw,C3,CZ,C0,Dd,Dj,Cr,C6,C1,Da,CY,DK,EO,DG,C7,Dn,DH,DA,Di,CX,DJ,Dc,EW,Du,C5,CW,Dk,DB,Db,DI,Dl,Dr,S72,↓XX,XY,↓reduceIte,Nat.reduceBEq,Nat.reduceAdd,Int.reduceEq,Int.reduceLT,Int.reduceLE,↓Hn,wr,h0,h3]
   ·by_cases h4:120<deep
    ·rw [if_pos ⟨h0,.inr h4⟩] at he1;subst he1;simp only [Dw,C3,CZ,C0,Dd,Dj,Cr,C6,C1,Da,CY,DK,EO,DG,C7,Dn,DH,DA,Di,CX,DJ,Dc,EW,Du,C5,CW,Dk,DB,Db,DI,Dl,Dr,S72,↓XX,XY,↓reduceIte,Nat.reduceBEq,Nat.reduceAdd,Int.reduceEq,Int.reduceLT,Int.reduceLE,↓Hn,wr,h0,h3,h4]
    ·rw [if_neg (by omega)] at he1;subst he1;simp only [Dw,C3,CZ,C0,Dd,Dj,Cr,C6,C1,Da,CY,DK,EO,DG,C7,Dn,DH,DA,Di,CX,DJ,Dc,EW,Du,C5,CW,Dk,DB,Db,DI,Dl,Dr,S72,↓XX,XY,↓reduceIte,Nat.reduceBEq,Nat.reduceAdd,Int.reduceEq,Int.reduceLT,Int.reduceLE,↓Hn,wr,h0,h3,h4]
  ·rw [if_neg (by omega)] at he1;subst he1;simp only [Dw,C3,CZ,C0,Dd,Dj,Cr,C6,C1,Da,CY,DK,EO,DG,C7,Dn,DH,DA,Di,CX,DJ,Dc,EW,Du,C5,CW,Dk,DB,Db,DI,Dl,Dr,S72,↓XX,XY,↓reduceIte,Nat.reduceBEq,Nat.reduceAdd,Int.reduceEq,Int.reduceLT,Int.reduceLE,↓Hn,wr,h0]
 rw [key];exact h
abbrev Hbk (done:List Tm) (rest:Nat) (more:List (Nat×Blk)) (s w r e:Int):Hp :=
 ⟨(75497472,.row [iv 0,iv 0,.nils] false)::(75506693,.row (B1 done rest) false)::more,MX s w r e⟩
theorem Af3 {ih:Aa} {f:FuncId} {w x y:FV} {a b:IV} {s0 len:Nat} {s u r e s' u' r' e':Int} {own own':List (Nat×Blk)} {es:List FV} {ro:Bool} (hr:Bd (ih f [.ptr (.ext 0) 0,.fv x,.fv y,.fv (.sl es)] ⟨[],MX s u r e⟩) w (MX s' u' r' e'))
  (ha:A4 a=some x) (hb:A4 b=some y) (hl:Ap s0 own=some (.row (es.map .fv) ro)) (hlen:es.length=len) (hn:es.length≤300) (hag:∀x∈es,∀l,x≠.agg l) (ho:AM s0 (.row (es.map .fv) true) own=own')
  (k:IV→Hp→List Ref→List Ref→Option (IV×Hp)) :
  Ak [true,false,false,false] false false ih f [.ptr (.ext 0) 0,a,b,.slc (.own s0) 1 len] ⟨own,MX s u r e⟩ k=k (.fv w) ⟨own',MX s' u' r' e'⟩ [.ext 1,.ext 0,.own s0] [.own s0,.ext 0,.ext 1]:=by
 subst ho hlen;refine Vs (ks:=[false,false,false]) (vs:=[x,y,.sl es]) (u:=[(.own s0,.row (es.map .fv) true)]) (lg:=[.own s0]) ?_ (AfV ..) hr ?_ k
 ·intro e k;rw [RR,Kw _ _ e _ ha,RR,Kw _ _ e _ hb,RR,Adv (d:=10) hl hn hag,fz0];rfl
 ·intro k
  show (Ga own s0 fun _=>A0 own s0 (.row (es.map .fv) true) fun own=>k ⟨own,_⟩)=_
  rw [Br,hl,Option.bind_some,BO]
def AhJ (op n:Int) (done:List Tm):Option (List Tm)→Tm
 | none=>.z
 | some ts=>.mk op n (done++ts)
set_option maxRecDepth 20000 in
set_option maxHeartbeats 1000000 in
theorem Akx {n:Nat} {op nn bo bn below deep:Int} {k e:List PV} {bk:List Tm} {done:List Tm} {s w r er:Int} (h4:Hp) {rec:List IV→Hp→Option (IV×Hp)} (hd:done.length=k.length) (hk:k.length≤100) :
  Bd (EW [.ptr (.ext 0) 0,.fv (PV.mk op nn k (.mk bo bn bk) e).enc,iv below,iv deep,.ptr (.own 75497472) 0,.slc (.own 75506693) 3 k.length,iv k.length,iv k.length] (Hbk done 0 [] s w r er) (SS dt n) h4 rec n)
   (Tm.mk op nn done).enc (MX s w r er):=by
 rw [AR,Am];have hno:¬ ((k.length:Int)<k.length):=by omega
 simp only [Dw,C3,CZ,C0,Dd,Dj,Cr,C6,C1,Da,CY,DK,EO,DG,C7,Dn,DH,DA,Di,CX,DJ,Dc,EW,Du,C5,CW,Dk,EP,DB,Db,DI,Dl,Dr,S72,↓XX,XY,↓reduceIte,Nat.reduceBEq,Nat.reduceAdd,Int.reduceEq,Int.reduceLT,Int.reduceLE,↓Hn,hno];rw [← hd];exact ⟨_,_,rfl,_,_,fun e0 K=>AlE (by rfl) (by omega) [] e0 K⟩
def AcE (more:List (Nat×Blk)):Prop:=more=[]∨∃(l:List FV) (ro:Bool),more=[(75512833,.row (l.map .fv) ro)]
set_option maxRecDepth 20000 in
set_option maxHeartbeats 1000000 in
theorem AmG {n:Nat} {v y:FV} {below deep b len i:IV} {done:List Tm} {rest kl:Nat} {more:List (Nat×Blk)} {s w r e:Int} (hM:AcE more) (h4:Hp) {rec:List IV→Hp→Option (IV×Hp)} (he:e≠0) :
  Bd (Cr (.ptr (.ext 0) 0) (Hbk done rest more s w r e) (.ptr (.own 75497472) 0) below b deep (SS dt n) (.fv y) (.slc (.own 75506693) 3 kl) i i h4 (.fv v) len rec) Tm.z.enc (MX s w r e):=by
 rcases hM with rfl | ⟨l,ro,rfl⟩
 ·simp only [↓Uv,↓XX,XY,↓reduceIte,Nat.reduceBEq,Nat.reduceAdd,Int.reduceEq,Int.reduceLT,Int.reduceLE,↓Hn,he];exact EH rfl _ _
 ·simp only [↓Uv,↓XX,XY,↓reduceIte,Nat.reduceBEq,Nat.reduceAdd,Int.reduceEq,Int.reduceLT,Int.reduceLE,↓Hn,he];exact EH rfl _ _
set_option maxRecDepth 20000 in
set_option maxHeartbeats 1000000 in
theorem Anh {f n:Nat} {v:FV} {y:PV} {below deep:Int} {b:Nat} {len:Int} {done:List Tm} {rest kl:Nat} {more:List (Nat×Blk)} {m m5:M3} {r r5:Int} {t5:Tm} {w:FV} {ext:List Blk} (hb:Ahe f) (hn:f+1≤n) (hM:AcE more) (ext4:List Blk)
  {rec:List IV→Hp→Option (IV×Hp)} (he:m.e=0) (hbk:Tg f y (below+b) (deep+1) m r=some (t5,m5,r5)) (hb1:0≤below) (hb2:below≤1000000) (hb3:b≤10) (hd1:0≤deep) (hd2:deep≤1000000) (hkl:done.length<kl) (hkl2:kl≤100)
  (h:Bd (rec [.ptr (.ext 0) 0,.fv v,iv below,iv deep,.ptr (.own 75497472) 0,.slc (.own 75506693) 3 kl,iv len,iv (done++[t5]).length] (Hbk (done++[t5]) rest [] m5.s m5.w r5 m5.e)) w ext) :
  Bd (Cr (.ptr (.ext 0) 0) (Hbk done (rest+1) more m.s m.w r m.e) (.ptr (.own 75497472) 0) (iv below) (iv b) (iv deep) (SS dt n) (.fv y.enc) (.slc (.own 75506693) 3 kl) (iv done.length) (iv done.length) ⟨[],ext4⟩ (.fv v) (iv len) rec) w ext:=by
 have hc:=hb _ _ _ _ _ _ _ _ hbk n hn;have wb:BM (below+b)=below+b:=by rw [As]<;>omega
 have wd:BM (deep+1)=deep+1:=by rw [As]<;>omega
 have wi:BM ((done.length:Int)+1)=((done++[t5]).length:Int):=(As (by omega) (by omega)).trans (by simp);obtain ⟨o,p,ks⟩:=t5;rw [Am] at hc;simp only [he] at hc ⊢;rcases hM with rfl | ⟨l,ro,rfl⟩
 ·simp only [↓Uv,↓XX,XY,↓reduceIte,Nat.reduceBEq,Nat.reduceAdd,Int.reduceEq,Int.reduceLT,Int.reduceLE,↓Hn,wb,wd,↓Pd _ _ hc,↓AdP hkl,↓Ah8,wi,↓FR,↓AJ,XD,heldB,AQ,XE,EN,De,Mk,Jz];exact h
 ·simp only [↓Uv,↓XX,XY,↓reduceIte,Nat.reduceBEq,Nat.reduceAdd,Int.reduceEq,Int.reduceLT,Int.reduceLE,↓Hn,wb,wd,↓Pd _ _ hc,↓AdP hkl,↓Ah8,wi,↓FR,↓AJ,XD,heldB,AQ,XE,EN,De,Mk,Jz];exact h
set_option maxRecDepth 20000 in
set_option maxHeartbeats 1000000 in
theorem Amp {f n:Nat} {v y:PV} {below deep:Int} {i b kl:Nat} {len:Int} {done:List Tm} {rest:Nat} {m m4:M3} {r:Int} {w:FV} {ext:List Blk} (hn:f+1≤n) (h3:3≤n) (ext4:List Blk)
  {j:IV→IV→IV→IV→IV→IV→IV→IV→IV→IV→IV→Hp→Option (IV×Hp)} (hb:b≤2) (hb1:0≤below) (hb2:below≤1000000) (hop:opP f v i (Sk below b) m=some (y,m4))
  (hj:Bd (j (.ptr (.ext 0) 0) (.fv v.enc) (iv below) (iv deep) (.ptr (.own 75497472) 0) (.slc (.own 75506693) 3 kl) (iv i) (.fv y.enc) (iv b) (iv len) (iv i)
   (Hbk done rest [(75512833,.row (((Sk below b).map PV.enc).map .fv) true)] m4.s m4.w r m4.e)) w ext) :
  Bd (BD n (fun q119 l120 h121=>EO l120 h121 ⟨[],ext4⟩ q119 (SS dt n) j) [.ptr (.ext 0) 0,.fv v.enc,iv below,iv deep,.ptr (.own 75497472) 0,.slc (.own 75506693) 3 kl,iv i,iv b,.slc (.own 75512833) 1 b,iv len,iv i,iv b,iv 0]
   (Hbk done rest [(75512833,.row (((nils b).map PV.enc).map .fv) false)] m.s m.w r m.e)) w ext:=by
 refine A7 (Q:=fun r=>Bd r _ _) (fun t V H=>∃(k:Nat),k+t=b ∧
   V=[.ptr (.ext 0) 0,.fv v.enc,iv below,iv deep,.ptr (.own 75497472) 0,.slc (.own 75506693) 3 kl,iv i,iv b,.slc (.own 75512833) 1 b,iv len,iv i,iv b,iv k] ∧
   H=Hbk done rest [(75512833,.row (((Sk below k++nils t).map PV.enc).map .fv) false)] m.s m.w r m.e) ?_ n b _ _ (by omega) ⟨0,by omega,rfl,rfl⟩
 rintro t V H rec ⟨k,hkt,rfl,rfl⟩ hrec;cases t with
 | zero =>
  have hkb:k=b:=by omega
  subst hkb;have hno:¬ ((k:Int)<k):=by omega
  have hc:=(Lh f).2.2.2 _ _ _ _ _ _ hop r n hn;rw [show Sk below k++nils 0=Sk below k by simp [nils]]
  simp only [Dw,C3,CZ,C0,Dd,Dj,Cr,C6,C1,Da,CY,DK,DG,C7,Dn,DH,DA,Di,CX,DJ,Dc,Du,C5,CW,Dk,EP,DB,Db,DI,Dl,Dr,S72,EO,↓XX,XY,↓reduceIte,Nat.reduceBEq,Nat.reduceAdd,Int.reduceEq,Int.reduceLT,Int.reduceLE,↓Hn,hno];rw [Af3 hc rfl rfl (s0:=75512833) (own':=(Hbk done rest [(75512833,.row (((Sk below k).map PV.enc).map .fv) true)] m4.s m4.w r m4.e).own) (by rfl) (by simp [Kb]) (by simp [Kb];omega) (by simp only [List.mem_map];rintro x ⟨v,_,rfl⟩;exact Mb v) (by rfl)];exact hj
 | succ t =>
  have hlt:(k:Int)<b:=by omega
  have hkb:k<b:=by omega
  have wk:BM ((k:Int)+1)=((k+1:Nat):Int):=(As (by omega) (by omega)).trans (by simp);have wbk:BM (below+(k:Int))=below+k:=by rw [As]<;>omega
  have hoff:=fun {β:Type}=>Ah5 (done:=Sk below k) (r:=t) (β:=β) (PV.var (below+k));rw [Kb,SE] at hoff;simp only [Dw,C3,CZ,C0,Dd,Dj,Cr,C6,C1,Da,CY,DK,DG,C7,Dn,DH,DA,Di,CX,DJ,Dc,Du,C5,CW,Dk,EP,DB,Db,DI,Dl,Dr,S72,EO,↓XX,XY,↓reduceIte,Nat.reduceBEq,Nat.reduceAdd,Int.reduceEq,Int.reduceLT,Int.reduceLE,↓Hn,hlt,wbk];rw [ZS (fc:=[.int .i64 1,.int .i64 (below+k),.sl [],.int .i64 0,.int .i64 0,.sl [],.nilp]) rfl (by simp)];simp only [↓XX,XY,↓reduceIte,Nat.reduceBEq,Nat.reduceAdd,Int.reduceEq,Int.reduceLT,Int.reduceLE,↓Hn,↓Aih hkb,↓hoff,wk,↓FR,↓AJ,XD,heldB,AQ,XE,EN,De,Mk,Jz];exact hrec t _ _ (by omega) ⟨k+1,by omega,rfl,by rw [AcV]⟩
set_option maxRecDepth 20000 in
set_option maxHeartbeats 1000000 in
theorem AhD {f:Nat} (hb:Ahe f):Ahe (f+1):=by
 intro v below deep m r t m' r' hev n hn;obtain ⟨n,rfl⟩:∃k,n=k+1:=⟨n - 1,by omega⟩;rw [c72];rw [Tg.eq_def] at hev;simp only at hev;split at hev
 ·cases hev
 rename_i hbad;have wd:BM (deep+1)=deep+1:=by rw [As]<;>omega
 have wb1:BM (below - 1)=below - 1:=by rw [As]<;>omega
 generalize he1:(if m.e=0∧(3000<r+1∨120<deep) then (5:Int) else m.e)=e1 at hev;cases ht:Hl ⟨m.s,m.w,e1⟩ with
 | none=>rw [ht] at hev;cases hev
 | some m1 =>
 rw [ht] at hev;simp only at hev;have hc1:=QI ht (r+1) (n:=n) (by omega);simp only at hc1;refine AeU (by omega) (by omega) he1 ?_;by_cases h1:m1.e≠0
 ·rw [if_pos h1] at hev;simp only [Arf,Arg] at hev;obtain ⟨rfl,rfl,rfl⟩:=hev;simp only [↓Uv,↓XX,XY,↓reduceIte,Nat.reduceBEq,Nat.reduceAdd,Int.reduceEq,Int.reduceLT,Int.reduceLE,↓Hn,↓Fc _ _ hc1,h1];exact EH rfl _ _
 ·rw [if_neg h1] at hev;have h1:m1.e=0:=by simpa using h1
  cases v with
  | nil=>cases hev
  | mk op nn k t0 e =>
  obtain ⟨bo,bn,bk⟩:=t0;simp only at hev;by_cases h2:op=1
  ·rw [if_pos h2] at hev;split at hev
   ·cases hev
   rename_i hnn;simp only [Arf,Arg] at hev;obtain ⟨rfl,rfl,rfl⟩:=hev;have wb2:BM (below - 1 - nn)=below - 1 - nn:=by rw [As]<;>omega
   rw [AR];simp only [↓Uv,↓XX,XY,↓reduceIte,Nat.reduceBEq,Nat.reduceAdd,Int.reduceEq,Int.reduceLT,Int.reduceLE,↓Hn,↓Fc _ _ hc1,h1,h2,wb1,wb2];exact EH rfl _ _
  ·rw [if_neg h2] at hev;split at hev
   ·cases hev
   rename_i hk100;have hk100:k.length≤100:=by omega
   cases hkk:bkK (fun v below m r=>Tg f v below (deep+1) m r) (fun i l m=>opP f (.mk op nn k (.mk bo bn bk) e) i l m) op below 0 k m1 (r+1) with
   | none=>rw [hkk] at hev;cases hev
   | some q =>
   obtain ⟨res,m2,r2⟩:=q;rw [hkk] at hev;have hres:t=AhJ op nn [] res∧m'=m2∧r'=r2:=by
    cases res with
    | none=>simp only [Arf,Arg] at hev;exact ⟨hev.1.symm,hev.2.1.symm,hev.2.2.symm⟩
    | some ts=>simp only [Arf,Arg] at hev;exact ⟨hev.1.symm,hev.2.1.symm,hev.2.2.symm⟩
   obtain ⟨ht5,rfl,rfl⟩:=hres;generalize hV:PV.mk op nn k (.mk bo bn bk) e=V5 at *;have hVe:V5.enc=.fp [.int .i64 op,.int .i64 nn,.sl (k.map PV.enc),.int .i64 bo,.int .i64 bn,.sl (bk.map Tm.enc),PV.encEnv e] 0:=by rw [← hV,AR]
   rw [hVe];simp only [↓Uv,↓XX,XY,↓reduceIte,Nat.reduceBEq,Nat.reduceAdd,Int.reduceEq,Int.reduceLT,Int.reduceLE,↓Hn,↓Fc _ _ hc1,h1,h2,↓Aoo (show k.length≤1000 by omega),↓FR,↓AJ,XD,heldB,AQ,XE,EN,De,Mk,Jz]
   refine A7 (Q:=fun r=>Bd r _ _) (fun j V H=>∃(pre rest:List PV) (done:List Tm) (m3:M3) (r3:Int) (res3:Option (List Tm)),k=pre++rest∧rest.length=j∧done.length=pre.length ∧
     V=[.ptr (.ext 0) 0,.fv V5.enc,iv below,iv deep,.ptr (.own 75497472) 0,.slc (.own 75506693) 3 k.length,iv k.length,iv pre.length] ∧
     H=Hbk done rest.length [] m3.s m3.w r3 m3.e ∧
     bkK (fun v below m r=>Tg f v below (deep+1) m r) (fun i l m=>opP f V5 i l m) op below pre.length rest m3 r3=some (res3,m',r')∧AhJ op nn done res3=t)
    ?_ n k.length _ _ (by omega) ⟨[],k,[],m1,r+1,res,rfl,rfl,rfl,by rw [hVe];rfl,by rw [h1],hkk,ht5.symm⟩
   rintro j V H rec ⟨pre,rest,done,m3,r3,res3,hk,hl,hdl,rfl,rfl,hkids,hts⟩ hrec;have hkl:k.length=pre.length+rest.length:=by rw [hk];simp
   cases rest with
   | nil =>
    simp only [bkK,Arf,Arg] at hkids;obtain ⟨rfl,rfl,rfl⟩:=hkids;rw [List.length_nil,Nat.add_zero] at hkl;rw [← hts,← hV,AhJ,List.append_nil,← hkl];exact Akx _ (by omega) hk100
   | cons x rest =>
    have hi:(pre.length:Int)<k.length:=by rw [hkl];simp;omega
    have hg:=Cv hk;have hbn:=SW (n:=n) (by omega) op pre.length;have hble:=BA op pre.length;simp only [bkK] at hkids;simp only [Arj] at hl hkl;have behind:∀(y:PV) (m4:M3) (more:List (Nat×Blk)),AcE more→(if m4.e≠0 then some (none,m4,r3) else match Tg f y (below+Ah op pre.length) (deep+1) m4 r3 with
       | none=>none
       | some (t,m,r)=>(bkK (fun v below m r=>Tg f v below (deep+1) m r) (fun i l m=>opP f V5 i l m) op below (pre.length+1) rest m r).map fun (ts,m,r)=>(ts.map (t::·),m,r))=some (res3,m',r') →
      Bd (Cr (.ptr (.ext 0) 0) (Hbk done (rest.length+1) more m4.s m4.w r3 m4.e) (.ptr (.own 75497472) 0) (iv below) (iv (Ah op pre.length)) (iv deep) (SS dt n) (.fv y.enc) (.slc (.own 75506693) 3 k.length) (iv pre.length) (iv pre.length) ⟨[],MX m.s m.w r m.e⟩ (.fv V5.enc) (iv k.length) rec)
       t.enc (MX m'.s m'.w r' m'.e):=by
     intro y m4 more hM hy;by_cases h4:m4.e≠0
     ·rw [if_pos h4] at hy;simp only [Arf,Arg] at hy;obtain ⟨rfl,rfl,rfl⟩:=hy;rw [← hts];exact AmG hM _ h4
     ·rw [if_neg h4] at hy;have h4:m4.e=0:=by simpa using h4
      cases hbk:Tg f y (below+Ah op pre.length) (deep+1) m4 r3 with
      | none=>rw [hbk] at hy;cases hy
      | some q =>
      obtain ⟨t5,m5,r5⟩:=q;rw [hbk] at hy;simp only at hy;cases hk2:bkK (fun v below m r=>Tg f v below (deep+1) m r) (fun i l m=>opP f V5 i l m) op below (pre.length+1) rest m5 r5 with
      | none=>rw [hk2] at hy;cases hy
      | some q =>
      obtain ⟨res6,m6,r6⟩:=q;rw [hk2] at hy;simp only [Ari,Arf,Arg] at hy;obtain ⟨rfl,rfl,rfl⟩:=hy;rw [← hdl];refine Anh hb (by omega) hM _ h4 (by rw [hdl];exact hbk) (by omega) (by omega) (by rw [hdl];omega) (by omega) (by omega) (by omega) hk100 ?_;refine hrec rest.length _ _ (by omega) ⟨pre++[x],rest,done++[t5],m5,r5,res6,by rw [hk];simp,rfl,by simp [hdl],by simp [hdl],rfl,by simpa using hk2,?_⟩;rw [← hts];cases res6 with
      | none=>rfl
      | some ts=>simp [AhJ]
    rw [hVe];by_cases hb0:0<Ah op pre.length
    ·rw [if_pos hb0] at hkids;have hb0':(0:Int)<Ah op pre.length:=by omega
     cases hop:opP f V5 pre.length (Sk below (Ah op pre.length)) m3 with
     | none=>rw [hop] at hkids;cases hkids
     | some q =>
     obtain ⟨y,m4⟩:=q;rw [hop] at hkids;have h9:=behind y m4 [(75512833,.row (((Sk below (Ah op pre.length)).map PV.enc).map .fv) true)] (.inr ⟨_,_,rfl⟩) hkids;have hin:=Amp (f:=f) (n:=n) (v:=V5) (y:=y) (below:=below) (deep:=deep) (i:=pre.length) (b:=Ah op pre.length) (kl:=k.length) (len:=k.length) (done:=done) (rest:=rest.length+1) (m:=m3) (m4:=m4) (r:=r3) (w:=t.enc) (ext:=MX m'.s m'.w r' m'.e) (by omega) (by omega) (MX m.s m.w r m.e)
      (j:=fun x79 x80 x81 x82 x83 x84 x85 x86 x87 x88 x89 h90=>Cr x79 h90 x83 x81 x87 x82 (SS dt n) x86 x84 x85 x89 ⟨[],MX m.s m.w r m.e⟩ x80 x88 rec) (by omega) (by omega) (by omega) hop h9
     simp only [Dw,C3,CZ,C0,Dd,Dj,C6,C1,Da,CY,DK,DG,C7,Dn,DH,DA,Di,CX,DJ,Dc,EW,Du,C5,CW,Dk,EP,DB,Db,DI,Dl,Dr,S72,↓XX,XY,↓reduceIte,Nat.reduceBEq,Nat.reduceAdd,Int.reduceEq,Int.reduceLT,Int.reduceLE,↓Hn,hi,↓Ajx hg,↓Ag hbn,hb0',↓AiT (show Ah op pre.length≤1000 by omega),↓FR,↓AJ,XD,heldB,AQ,XE,EN,De,Mk,Jz]
     rw [hVe] at hin;exact hin
    ·rw [if_neg hb0] at hkids;have hb0':¬ (0:Int)<Ah op pre.length:=by omega
     have h9:=behind x m3 [] (.inl rfl) hkids;simp only [Dw,C3,CZ,C0,Dd,Dj,C6,C1,Da,CY,DK,DG,C7,Dn,DH,DA,Di,CX,DJ,Dc,EW,Du,C5,CW,Dk,EP,DB,Db,DI,Dl,Dr,S72,↓XX,XY,↓reduceIte,Nat.reduceBEq,Nat.reduceAdd,Int.reduceEq,Int.reduceLT,Int.reduceLE,↓Hn,hi,↓Ajx hg,↓Ag hbn,hb0'];rw [hVe] at h9;exact h9
theorem Aia:∀f,Ahe f
 | 0=>(fun _ _ _ _ _ _ _ _ h=>by rw [Tg.eq_def] at h;cases h)
 | f+1=>AhD (Aia f)
abbrev EL (mb:Nat) (f:FuncId):IV:=.agg [.func (.func f) [.ptr (.own mb) 0] []]
abbrev CN (mb:Nat):List (Int×IV):=[(5,EL mb 94),(8,EL mb 95),(9,EL mb 95),(13,EL mb 96),(30,EL mb 97),(19,EL mb 98)]
theorem AgG (r:Ref):IV.one (.mapr r)=true:=rfl
theorem Aeb {β:Type} (l:List IV) (e:Option β) (k:List FV→Option β):Cf (.dead::l) e k=e:=rfl
theorem of4 {β:Type} (x y z u v b:IV) (l:List IV) (k:List IV→Option β):Gu (x::y::z::u::v::l) 4 b k=k (x::y::z::u::b::l):=rfl
theorem Aos (s:Nat) (own:List (Nat×Blk)) (ext:List Blk) (k:IV→Hp→List Ref→List Ref→Option (IV×Hp)):Aw (Gl s) s ⟨own,ext⟩ k=Cu own s (A0 own s (.map []) fun own=>k (.mapr (.own s)) ⟨own,ext⟩ [] [.own s]):=by
 unfold Aw;simp only [Gl,Rd.runLog,I1,Cw,Ce];rfl
def AlZ (b:Blk) (k:List (Int×IV)→Option (IV×Hp)):Option (IV×Hp):=match b with
 | .map es=>k es
 | _=>none
theorem Afe (es:List (Int×IV)) (k:List (Int×IV)→Option (IV×Hp)):AlZ (.map es) k=k es:=rfl
theorem AlT (m j:Nat) (v:IV) (hv:v.alive=true) (n:Int) (s:Nat) (own:List (Nat×Blk)) (ext:List Blk) (k:IV→Hp→List Ref→List Ref→Option (IV×Hp)) :
  Aw (BX EE 98 (.mapr (.own m)) (iv n) v) s ⟨own,ext⟩ k=Ga own m fun b=>AlZ b fun es=>A0 own m (.map (Cg n v es)) fun own=>k .dead ⟨own,ext⟩ [.own m] [.own m]:=by
 have h1:=tMk;have h2:=tIk;cases hm:EE.T 98 with
 | none=>rw [hm] at h1;cases h1
 | some ti =>
  cases hi:EE.T 3 with
  | none=>rw [hi] at h2;cases h2
  | some ii =>
   rw [hm] at h1;rw [hi] at h2;obtain ⟨a,b,kd,z⟩:=ti;obtain ⟨a2,b2,kd2,z2⟩:=ii;simp only [Ari,Arf] at h1 h2;subst h1 h2;rw [Br];unfold Aw;cases hl:Ap m own with
   | none=>simp only [BX,hm,hi,Vf,Rd.runLog,Hp.get,hl];rfl
   | some bl =>
    cases bl with
    | row c ro=>simp only [BX,hm,hi,Vf,Rd.runLog,Hp.get,hl];rfl
    | tok a b=>simp only [BX,hm,hi,Vf,Rd.runLog,Hp.get,hl];rfl
    | map es =>
     simp only [BX,hm,hi,Vf,Rd.runLog,Hp.get,hl,AcD,hv,and_self,if_true,Option.bind_some,Afe]
     show (fRf (.own m) fun q=>CV q ⟨own,ext⟩ fun _=>fBk (.map (Cg n v es)) fun b=>Fu q b ⟨own,ext⟩ fun h=>I1 none s h fun h=>fV 3 .dead fun v=>k v h [.own m] ([.own m]++[]))=_
     simp only [Ma,Cw,Ce,I1,Fu,CV];rw [Br,hl];rfl
theorem Aka {ks:List Bool} (hks:∀b∈ks,b=false) {ih:Aa} {f:FuncId} {args:List IV} {vs:List FV} {w:FV} {mb mp:Nat} {own:List (Nat×Blk)} {s u r e s' u' r' e':Int} (hz:Bx args=some vs) (hne:mb≠mp)
  (hl1:Ap mb own=some (.row [iv s,iv u,iv r,iv e,.mapr (.own mp)] false)) (hl2:Ap mp own=some (.map (CN mb))) (hr:Bd (ih f (.ptr (.ext 0) 0::vs.map .fv) ⟨[],MX s u r e⟩) w (MX s' u' r' e')) (k:IV→Hp→List Ref→List Ref→Option (IV×Hp)) :
  Ak (true::ks) false false ih f (.ptr (.own mb) 0::args) ⟨own,[]⟩ k=k (.fv w) ⟨AM mp (.map (CN mb)) (AM mb (.row [iv s',iv u',iv r',iv e',.mapr (.own mp)] false) own),[]⟩ [.own mp,.own mb] [.own mb,.own mp]:=by
 obtain ⟨v,own',e1,hfz⟩:=hr;obtain ⟨uu,hu⟩:=Mu hfz;have hD:ES (true::ks) false false ih f (.ptr (.own mb) 0::args) ⟨own,[]⟩ k=k (.fv w) ⟨AM mp (.map (CN mb)) (AM mb (.row [iv s',iv u',iv r',iv e',.mapr (.own mp)] false) own),[]⟩ [.own mp,.own mb] [.own mb,.own mp]:=by
  have h1:Bc (true::ks) (.ptr (.own mb) 0::args)=.ret (.ptr (.own mb) 0::vs.map .fv,[.own mb],[]):=by
   simp only [Bc,HI args ks hks hz,Rd.bind,IV.refs];rfl
  have hn1:¬ (Ref.own mp=Ref.own mb):=by intro h;cases h;exact hne rfl
  have h2:(BT 4096 [.own mb] []).runLog ⟨own,[]⟩ []=some ([(.own mb,.row [iv s,iv u,iv r,iv e,.mapr (.own mp)] false),(.own mp,.map (CN mb))],[.own mp,.own mb]):=by
   show (BT (4087+1+1+1+1+1+1+1+1+1) [.own mb] []).runLog ⟨own,[]⟩ []=_
   simp only [BT,hasRef,Bool.false_eq_true,if_false,Rd.runLog,Hp.get,hl1,hl2,Blk.refs,IV.refs.refsL,IV.refs,List.append_nil,List.nil_append,List.cons_append,Arl,Ark,hn1,decide_false,decide_true,Bool.or_false,Bool.true_or,if_true]
  have p1:Dt [(.own mb,.row [iv s,iv u,iv r,iv e,.mapr (.own mp)] false),(.own mp,.map (CN mb))] (.own mb)=some (.ext 0):=by simp [Dt,B3]
  have p2:Dt [(.own mb,.row [iv s,iv u,iv r,iv e,.mapr (.own mp)] false),(.own mp,.map (CN mb))] (.own mp)=some (.ext 1):=by simp [Dt,B3,hn1]
  have h3:IV.ren.renL (Dt [(.own mb,.row [iv s,iv u,iv r,iv e,.mapr (.own mp)] false),(.own mp,.map (CN mb))]) (.ptr (.own mb) 0::vs.map .fv)=some (.ptr (.ext 0) 0::vs.map .fv):=by
   simp only [IV.ren.renL,IV.ren,p1,Ari,Option.bind_some,E1]
  have h4:A1 (Dt [(.own mb,.row [iv s,iv u,iv r,iv e,.mapr (.own mp)] false),(.own mp,.map (CN mb))]) [.row [iv s,iv u,iv r,iv e,.mapr (.own mp)] false,.map (CN mb)]=some (MX s u r e):=by
   simp only [A1,Blk.ren,IV.ren.renL,IV.ren,p1,p2,Ari,Option.bind_some,Arl,Ark,List.zip_cons_cons,List.zip_nil_left]
  have h5:A1 (Cc [(.own mb,.row [iv s,iv u,iv r,iv e,.mapr (.own mp)] false),(.own mp,.map (CN mb))]) (MX s' u' r' e')=some [.row [iv s',iv u',iv r',iv e',.mapr (.own mp)] false,.map (CN mb)]:=by
   simp only [A1,Blk.ren,IV.ren.renL,IV.ren,Cc,List.getElem?_cons_zero,List.getElem?_cons_succ,Ari,Option.bind_some,Arl,Ark,List.zip_cons_cons,List.zip_nil_left]
  unfold ES;simp only [h1,Rd.runLog,h2,h3,Arl,Ark,h4,Df (Ce 3),Df Cw,Jc,Bool.false_eq_true,if_false,e1,hu,Ari,IV.ren,h5,Arj,List.length_nil,Bk,List.all_nil,and_self,if_true,List.nil_append,List.zip_cons_cons,List.zip_nil_left];have hl3:Ap mp (AM mb (.row [iv s',iv u',iv r',iv e',.mapr (.own mp)] false) own)=some (.map (CN mb)):=by
   rw [← hl2];clear hl1 hl2 h2 e1 hu hfz
   induction own with
   | nil=>simp only [AM,Ap,if_neg (fun h=>hne (Eq.symm h))]
   | cons p l ih =>
    obtain ⟨j,c⟩:=p;simp only [AM];split
    ·rename_i h;subst h;simp only [Ap,if_neg (fun h=>hne (Eq.symm h))]
    ·simp only [Ap,ih]
  have h6:laid ⟨own,[]⟩ [(.own mb,.row [iv s',iv u',iv r',iv e',.mapr (.own mp)] false),(.own mp,.map (CN mb))]=some ⟨AM mp (.map (CN mb)) (AM mb (.row [iv s',iv u',iv r',iv e',.mapr (.own mp)] false) own),[]⟩:=by
   simp only [laid,Hp.get,hl1,Hp.set,hl3]
  simp only [h6,K3,Ce]
 rw [Je,U2,P3,Ns 0 args _ _ _ _ ks hks hz];simp only [PE,PY,cond_false];exact hD
def GL (op:Int):Int:=if op=8∨op=9∨op=12∨op=19∨op=30 then 1 else if op=4∨op=5 then 2 else if op=7 then 3 else if op=13 then 4 else -1
theorem AgR {n:Nat} (hn:0<n) (op:Int):BZ (SS dt n 93 [iv op] ⟨[],[]⟩) (.int .i64 (GL op)):=by
 obtain ⟨n,rfl⟩:∃k,n=k+1:=⟨n - 1,by omega⟩;rw [c93];unfold GL;by_cases h:op=8∨op=9∨op=12∨op=19∨op=30
 ·rw [if_pos h];rcases h with rfl | rfl | rfl | rfl | rfl<;>(simp only [↓UU9,↓XX,XY,↓reduceIte,Nat.reduceBEq,Nat.reduceAdd,Int.reduceEq,Int.reduceLT,Int.reduceLE];exact Ao _ _)
 ·rw [if_neg h];have h8:¬ op=8:=fun e=>h (by simp [e]);have h9:¬ op=9:=fun e=>h (by simp [e]);have h12:¬ op=12:=fun e=>h (by simp [e]);have h19:¬ op=19:=fun e=>h (by simp [e]);have h30:¬ op=30:=fun e=>h (by simp [e]);by_cases h2:op=4∨op=5
  ·rw [if_pos h2];rcases h2 with rfl | rfl<;>(simp only [↓UU9,↓XX,XY,↓reduceIte,Nat.reduceBEq,Nat.reduceAdd,Int.reduceEq,Int.reduceLT,Int.reduceLE];exact Ao _ _)
  ·rw [if_neg h2];have h4:¬ op=4:=fun e=>h2 (by simp [e]);have h5:¬ op=5:=fun e=>h2 (by simp [e]);by_cases h7:op=7
   ·subst h7;simp only [↓UU9,↓XX,XY,↓reduceIte,Nat.reduceBEq,Nat.reduceAdd,Int.reduceEq,Int.reduceLT,Int.reduceLE];exact Ao _ _
   ·by_cases h13:op=13
    ·subst h13;simp only [↓UU9,↓XX,XY,↓reduceIte,Nat.reduceBEq,Nat.reduceAdd,Int.reduceEq,Int.reduceLT,Int.reduceLE];exact Ao _ _
    ·simp only [↓UU9,↓XX,XY,↓reduceIte,Nat.reduceBEq,Nat.reduceAdd,Int.reduceEq,Int.reduceLT,Int.reduceLE,h4,h5,h7,h8,h9,h12,h13,h19,h30];exact Ao _ _
mutual
def Tm.shaped:Tm→Bool
 | .mk op n ks=>!(decide (0≤GL op∧GL op≠ks.length) || decide (op=1∧n<0)) && Tm.shapedL ks
def Tm.shapedL:List Tm→Bool
 | []=>true
 | t::l=>t.shaped && Tm.shapedL l
end
set_option maxHeartbeats 1000000 in
theorem Acq:∀(n:Nat) (t:Tm),t.wt+1<n→t.wt≤1152921504606846976→BZ (SS dt n 69 [.fv t.enc] ⟨[],[]⟩) (.bool t.shaped):=by
 intro n
 induction n with
 | zero=>intro t h;omega
 | succ n ih =>
  intro t h hw;obtain ⟨op,m,ks⟩:=t;simp only [Tm.wt] at h hw;rw [c69,Am];have hlen:=Fg ks;have hk:=AgR (n:=n) (by omega) op;rw [Tm.shaped];have wl:∀j:Nat,j≤ks.length→BM (j:Int)=j:=fun j hj=>As (by omega) (by omega);have loop:BZ (BD n (fun q99 l100 h101=>JS l100 h101 (SS dt n) ⟨[],[]⟩ q99) [.fv (.sl (ks.map Tm.enc)),iv ks.length,iv 0] ⟨[(72351744,.row [iv op,iv m,.fv (.sl (ks.map Tm.enc))] false)],[]⟩) (.bool (Tm.shapedL ks)):=by
   refine A7 (Q:=fun r=>BZ r _) (fun k V H=>∃pre rest,ks=pre++rest∧rest.length=k∧V=[.fv (.sl (ks.map Tm.enc)),iv ks.length,iv pre.length]∧H=⟨[(72351744,.row [iv op,iv m,.fv (.sl (ks.map Tm.enc))] false)],[]⟩∧Tm.shapedL rest=Tm.shapedL ks)
    ?_ n ks.length _ _ (by omega) ⟨[],ks,rfl,rfl,rfl,rfl,rfl⟩
   rintro k V H rec ⟨pre,rest,hk,hl,rfl,rfl,ht⟩ hrec;have hkl:ks.length=pre.length+rest.length:=by rw [hk];simp
   cases rest with
   | nil =>
    have hno:¬ ((pre.length:Int)<ks.length):=by rw [hkl];simp
    rw [← ht];simp only [JZ,JA,JF,JS,J4,Jg,Ka,Jr,S69,↓XX,XY,↓reduceIte,Nat.reduceBEq,Nat.reduceAdd,Int.reduceEq,Int.reduceLT,Int.reduceLE,hno,Tm.shapedL];exact Ao _ _
   | cons t rest =>
    have hi:(pre.length:Int)<ks.length:=by rw [hkl];simp;omega
    have hg:=Cv hk;have htw:=DD (t:=t) (l:=ks) (by rw [hk];simp);have hs:=ih t (by omega) (by omega);have hwi:BM ((pre.length:Int)+1)=((pre++[t]).length:Int):=(As (by omega) (by omega)).trans (by simp);simp only [Tm.shapedL] at ht;generalize t.shaped=v at hs ht;obtain ⟨o,p,l⟩:=t;simp only [Arj] at hl;rw [Am] at hs;cases v
    ·rw [← ht];simp only [JZ,JA,JF,JS,J4,Jg,Ka,Jr,S69,↓XX,XY,↓reduceIte,Nat.reduceBEq,Nat.reduceAdd,Int.reduceEq,Int.reduceLT,Int.reduceLE,hi,↓BN (AY hg) (Bt _ _ _),↓Cy,hwi,↓Ay hs,Bool.false_and];exact Ao _ _
    ·simp only [JZ,JA,JF,JS,J4,Jg,Ka,Jr,S69,↓XX,XY,↓reduceIte,Nat.reduceBEq,Nat.reduceAdd,Int.reduceEq,Int.reduceLT,Int.reduceLE,hi,↓BN (AY hg) (Bt _ _ _),↓Cy,hwi,↓Ay hs,↓AJ,XD,heldB,AQ,XE];refine hrec rest.length _ _ (by omega) ?_;exact ⟨pre++[.mk o p l],rest,by rw [hk];simp,rfl,rfl,rfl,by simpa using ht⟩
  by_cases h0:0≤GL op
  ·by_cases h1:GL op=ks.length
   ·by_cases h2:op=1
    ·exfalso;subst h2;revert h0;decide
    ·have e1:(!(decide (0≤GL op∧GL op≠ks.length) || decide (op=1∧m<0)) && Tm.shapedL ks)=Tm.shapedL ks:=by simp [h1,h2]
     rw [e1];have h0':(0:Int)≤ks.length:=by omega
     rw [h1] at hk;simp only [↓AeE,↓XX,XY,↓reduceIte,Nat.reduceBEq,Nat.reduceAdd,Int.reduceEq,Int.reduceLT,Int.reduceLE,↓Ay hk,h0',h2,↓AJ,XD,heldB,AQ,XE];exact loop
   ·have e1:(!(decide (0≤GL op∧GL op≠ks.length) || decide (op=1∧m<0)) && Tm.shapedL ks)=false:=by simp [h0,h1]
    rw [e1];simp only [↓AeE,↓XX,XY,↓reduceIte,Nat.reduceBEq,Nat.reduceAdd,Int.reduceEq,Int.reduceLT,Int.reduceLE,↓Ay hk,h0,h1];exact Ao _ _
  ·by_cases h2:op=1
   ·subst h2;by_cases h3:m<0
    ·have e1:(!(decide (0≤GL 1∧GL 1≠ks.length) || decide ((1:Int)=1∧m<0)) && Tm.shapedL ks)=false:=by simp [h3]
     rw [e1];simp only [↓AeE,↓XX,XY,↓reduceIte,Nat.reduceBEq,Nat.reduceAdd,Int.reduceEq,Int.reduceLT,Int.reduceLE,↓Ay hk,h0,h3];exact Ao _ _
    ·have e1:(!(decide (0≤GL 1∧GL 1≠ks.length) || decide ((1:Int)=1∧m<0)) && Tm.shapedL ks)=Tm.shapedL ks:=by simp [h0,h3]
     rw [e1];simp only [↓AeE,↓XX,XY,↓reduceIte,Nat.reduceBEq,Nat.reduceAdd,Int.reduceEq,Int.reduceLT,Int.reduceLE,↓Ay hk,h0,h3,↓AJ,XD,heldB,AQ,XE];exact loop
   ·have e1:(!(decide (0≤GL op∧GL op≠ks.length) || decide (op=1∧m<0)) && Tm.shapedL ks)=Tm.shapedL ks:=by simp [h0,h2]
    rw [e1];simp only [↓AeE,↓XX,XY,↓reduceIte,Nat.reduceBEq,Nat.reduceAdd,Int.reduceEq,Int.reduceLT,Int.reduceLE,↓Ay hk,h0,h2,↓AJ,XD,heldB,AQ,XE];exact loop
def SI (f:Nat) (t:Tm):Option (Tm×Int) :=
 if t.shaped=false then some (.z,1) else match Px f [] t ⟨100000,5000000,0⟩ with
 | none=>none
 | some (v,m)=>if m.e≠0 then some (.z,m.e) else match Tg f v 0 1 m 0 with
  | none=>none
  | some (u,m,_)=>if m.e≠0 then some (.z,m.e) else some (u,0)
theorem Aej {ih:Aa} {f:FuncId} {args:List IV} {h h':Hp} {v:IV} (hr:ih f args h=some (v,h')) (k:IV→Hp→List Ref→List Ref→Option (IV×Hp)):AcC ih f args h k=k v h' [] []:=by
 unfold AcC;rw [hr]
abbrev Hnm (a b:Blk) (s u r e:Int):Hp :=
 ⟨[(42991616,a),(42991617,b),(73401345,.row [iv s,iv u,iv r,iv e,.mapr (.own 73402369)] false),(73402369,.map (CN 73401345))],[]⟩
abbrev Hbg (a b:Blk) (es:List (Int×IV)):Hp :=
 ⟨[(42991616,a),(42991617,b),(73401345,.row [iv 100000,iv 5000000,iv 0,iv 0,.dead] false),(73402369,.map es)],[]⟩
abbrev fnO (g:FuncId):IV:=.func (.func g) [.ptr (.own 73401345) 0] []
theorem O8 (a b:Blk) (es:List (Int×IV)) (g:FuncId) (n:Int) (s:Nat) (k:IV→Hp→List Ref→List Ref→Option (IV×Hp)) :
  Aw (BX EE 98 (.mapr (.own 73402369)) (iv n) (EL 73401345 g)) s (Hbg a b es) k=k .dead (Hbg a b (Cg n (EL 73401345 g) es)) [.own 73402369] [.own 73402369]:=by
 rw [AlT _ 0 _ rfl,Br];rw [show Ap 73402369 (Hbg a b es).own=some (.map es) from rfl,Option.bind_some,Afe,BO]
 rfl
theorem O6 (g:FuncId) (k:IV→Option (IV×Hp)):Bw [.fv .nilf] [(0,1,fnO g)] k=k (EL 73401345 g):=rfl
theorem Aey (a b:Blk) (es:List (Int×IV)):Rp (.ptr (.own 73401345) 0) (Hbg a b es) (.mapr (.own 73402369))=some (.ptr (.own 73401345) 0,⟨[(42991616,a),(42991617,b),(73401345,.row [iv 100000,iv 5000000,iv 0,iv 0,.mapr (.own 73402369)] false),(73402369,.map es)],[]⟩):=by
 simp only [Rp,↓XX,XY,↓reduceIte,Nat.reduceBEq,Nat.reduceAdd,Int.reduceEq,Int.reduceLT,Int.reduceLE,↓AgG,↓of4]
theorem KZ (g:FuncId) (s:Nat) (h:Hp) (k:IV→Hp→List Ref→List Ref→Option (IV×Hp)):Aw (Idl.val (CM (.func g) [.ptr (.own 73401345) 0] [])) s h k=k (fnO g) h [] []:=gen_val' _ _ _ _
theorem Adk (a b:Blk) (es:List (Int×IV)):P4 (fnO 97) (Hbg a b es) (.mapr (.own 73402369)) (.ptr (.own 73401345) 0) =
  Rp (.ptr (.own 73401345) 0) (Hbg a b (Cg 19 (EL 73401345 98) (Cg 30 (EL 73401345 97) es))) (.mapr (.own 73402369)):=by
 unfold P4;rw [O6,O8,KZ,O6,O8]
theorem Ae4 (a b:Blk) (es:List (Int×IV)):Sd (Hbg a b es) (.mapr (.own 73402369)) (EL 73401345 95) (.ptr (.own 73401345) 0) =
  P4 (fnO 97) (Hbg a b (Cg 13 (EL 73401345 96) (Cg 9 (EL 73401345 95) es))) (.mapr (.own 73402369)) (.ptr (.own 73401345) 0):=by
 unfold Sd;rw [O8,KZ,O6,O8,KZ]
theorem AdD (a b:Blk) (es:List (Int×IV)):Uo (Hbg a b es) (.ptr (.own 73401345) 0) (.mapr (.own 73402369)) =
  Sd (Hbg a b (Cg 8 (EL 73401345 95) es)) (.mapr (.own 73402369)) (EL 73401345 95) (.ptr (.own 73401345) 0):=by
 unfold Uo;rw [KZ,O6,O8,KZ,O6]
theorem AnD (k:IV→Option (IV×Hp)):Bw [.fv (.int .i64 0),.fv (.int .i64 0),.fv (.int .i64 0),.fv (.int .i64 0),.dead] [(0,1,.fv (.int .i64 100000)),(1,1,.fv (.int .i64 5000000))] k=k (.agg [iv 100000,iv 5000000,iv 0,iv 0,.dead]):=by
 simp only [↓XX,XY,↓reduceIte,Nat.reduceBEq,Nat.reduceAdd,Int.reduceEq,Int.reduceLT,Int.reduceLE,↓Aeb]
theorem Qw {n:Nat} (hn:0<n) (a b:Blk):SS dt n 70 [] ⟨[(42991616,a),(42991617,b)],[]⟩=some (.ptr (.own 73401345) 0,Hnm a b 100000 5000000 0 0):=by
 obtain ⟨n,rfl⟩:∃k,n=k+1:=⟨n - 1,by omega⟩;rw [c70];unfold S70;rw [AnD,Tc];have e1:∀k:IV→Hp→List Ref→List Ref→Option (IV×Hp),AK 73401345 (.row [iv 100000,iv 5000000,iv 0,iv 0,.dead] false) (.ptr (.own 73401345) 0) ⟨[(42991616,a),(42991617,b)],[]⟩ k =
   k (.ptr (.own 73401345) 0) ⟨[(42991616,a),(42991617,b),(73401345,.row [iv 100000,iv 5000000,iv 0,iv 0,.dead] false)],[]⟩ [] [.own 73401345]:=by
  intro k;simp only [↓XX,XY,↓reduceIte,Nat.reduceBEq,Nat.reduceAdd,Int.reduceEq,Int.reduceLT,Int.reduceLE]
 rw [e1];have e2:∀k:IV→Hp→List Ref→List Ref→Option (IV×Hp),Aw (Gl 73402369) 73402369 ⟨[(42991616,a),(42991617,b),(73401345,.row [iv 100000,iv 5000000,iv 0,iv 0,.dead] false)],[]⟩ k =
   k (.mapr (.own 73402369)) (Hbg a b []) [] [.own 73402369]:=by
  intro k;rw [Aos];simp only [↓XX,XY,↓reduceIte,Nat.reduceBEq,Nat.reduceAdd,Int.reduceEq,Int.reduceLT,Int.reduceLE]
 rw [e2,KZ,O6,O8,AdD,Ae4,Adk,Aey];rfl
section
variable {ih:Aa} {f:FuncId} {w:FV} {a b:Blk} {s u r e s' u' r' e':Int} (k:IV→Hp→List Ref→List Ref→Option (IV×Hp))
theorem AhZ (args:List IV) (ks:List Bool) (hks:∀b∈ks,b=false) {vs:List FV} (hz:Bx args=some vs) (hr:Bd (ih f (.ptr (.ext 0) 0::vs.map .fv) ⟨[],MX s u r e⟩) w (MX s' u' r' e')) :
  Ak (true::ks) false false ih f (.ptr (.own 73401345) 0::args) (Hnm a b s u r e) k=k (.fv w) (Hnm a b s' u' r' e') [.own 73402369,.own 73401345] [.own 73401345,.own 73402369]:=by
 rw [Aka hks hz (mp:=73402369) (by decide) (by rfl) (by rfl) hr];rfl
theorem Uz {x y:IV} {vx vy:FV} (hr:Bd (ih f [.ptr (.ext 0) 0,.fv vx,.fv vy] ⟨[],MX s u r e⟩) w (MX s' u' r' e')) (hx:A4 x=some vx) (hy:A4 y=some vy) :
  Ak [true,false,false] false false ih f [.ptr (.own 73401345) 0,x,y] (Hnm a b s u r e) k=k (.fv w) (Hnm a b s' u' r' e') [.own 73402369,.own 73401345] [.own 73401345,.own 73402369] :=
 AhZ k [x,y] [false,false] (by simp) (UK hx hy) hr
theorem Afn {x y z:IV} {vx vy vz:FV} (hr:Bd (ih f [.ptr (.ext 0) 0,.fv vx,.fv vy,.fv vz] ⟨[],MX s u r e⟩) w (MX s' u' r' e')) (hx:A4 x=some vx) (hy:A4 y=some vy) (hz:A4 z=some vz) :
  Ak [true,false,false,false] false false ih f [.ptr (.own 73401345) 0,x,y,z] (Hnm a b s u r e) k=k (.fv w) (Hnm a b s' u' r' e') [.own 73402369,.own 73401345] [.own 73401345,.own 73402369] :=
 AhZ k [x,y,z] [false,false,false] (by simp) (Abv hx hy hz) hr
end
set_option maxRecDepth 20000 in
set_option maxHeartbeats 1000000 in
theorem Ad3 {f n:Nat} {t u:Tm} {e:Int} (h:SI f t=some (u,e)) (hn:f+3≤n) (hw:t.wt+3<n) (hw2:t.wt≤1152921504606846976):BZ (SS dt n 41 [.fv t.enc] ⟨[],[]⟩) (.tuple [u.enc,.int .i64 e]):=by
 obtain ⟨n,rfl⟩:∃k,n=k+1:=⟨n - 1,by omega⟩;rw [c41];have hs:=Acq n t (by omega) hw2;unfold SI at h;obtain ⟨op,m,ks⟩:=t;rw [Am] at hs ⊢;by_cases h0:(Tm.mk op m ks).shaped=false
 ·rw [if_pos h0] at h;simp only [Arf,Arg] at h;obtain ⟨rfl,rfl⟩:=h;rw [h0] at hs;simp only [MK,MN,MO,Nw,NG,NL,NV,MF,NE,Mj,S41,↓XX,XY,↓reduceIte,Nat.reduceBEq,Nat.reduceAdd,Int.reduceEq,Int.reduceLT,Int.reduceLE,↓Ay hs];exact AU rfl (by simp) _
 ·rw [if_neg h0] at h;have h0:(Tm.mk op m ks).shaped=true:=by simpa using h0
  rw [h0] at hs;cases hev:Px f [] (.mk op m ks) ⟨100000,5000000,0⟩ with
  | none=>rw [hev] at h;cases h
  | some q =>
   obtain ⟨v,m1⟩:=q;rw [hev] at h;simp only at h;have hc1:=(Lh f).1 _ _ _ _ _ hev 0 n (by omega);rw [Am,TJ] at hc1;by_cases h1:m1.e=0
   ·rw [if_neg (by simpa using h1)] at h;simp only [h1] at hc1;cases hbk:Tg f v 0 1 m1 0 with
    | none=>rw [hbk] at h;cases h
    | some q =>
     obtain ⟨u1,m2,r2⟩:=q;rw [hbk] at h;simp only at h;have hc2:=Aia f _ _ _ _ _ _ _ _ hbk n (by omega);obtain ⟨o1,n1,k1⟩:=u1;rw [Am] at hc2;simp only [h1] at hc2;by_cases h2:m2.e=0
     ·rw [if_neg (by simpa using h2)] at h;simp only [Arf,Arg] at h;obtain ⟨rfl,rfl⟩:=h;rw [Am];simp only [MK,MN,MO,Nw,NG,NL,NV,MF,NE,Mj,S41,↓XX,XY,↓reduceIte,Nat.reduceBEq,Nat.reduceAdd,Int.reduceEq,Int.reduceLT,Int.reduceLE,↓Ay hs,↓Aej (Qw (n:=n) (by omega) _ _),↓Uz _ hc1,↓Afn _ hc2,h1,h2];exact Ao _ _
     ·rw [if_pos h2] at h;simp only [Arf,Arg] at h;obtain ⟨rfl,rfl⟩:=h;simp only [MK,MN,MO,Nw,NG,NL,NV,MF,NE,Mj,S41,↓XX,XY,↓reduceIte,Nat.reduceBEq,Nat.reduceAdd,Int.reduceEq,Int.reduceLT,Int.reduceLE,↓Ay hs,↓Aej (Qw (n:=n) (by omega) _ _),↓Uz _ hc1,↓Afn _ hc2,h1,h2];exact AU rfl (by simp) _
   ·rw [if_pos h1] at h;simp only [Arf,Arg] at h;obtain ⟨rfl,rfl⟩:=h;simp only [MK,MN,MO,Nw,NG,NL,NV,MF,NE,Mj,S41,↓XX,XY,↓reduceIte,Nat.reduceBEq,Nat.reduceAdd,Int.reduceEq,Int.reduceLT,Int.reduceLE,↓Ay hs,↓Aej (Qw (n:=n) (by omega) _ _),↓Uz _ hc1,h1];exact AU rfl (by simp) _
end Idl
end Go.Proofs.Ytkfecngimlcfoaa
namespace Go.Proofs.Ytkfecngimlcfoaa
namespace Idl
theorem gb1 (a:FV):Ob 400 [.ext 0] 0 [.row [.fv a] false]=true:=Q6 [a]
theorem ob1 (a:FV):okB 1 [.row [.fv a] false]=true:=QD [a]
theorem Ah3 (a a':FV):OneX [.row [.fv a] false] [.row [.fv a'] false]:=⟨gb1 ..,rfl,rfl,ob1 ..⟩
theorem Aiy {ks:List Bool} (hks:∀b∈ks,b=false) {ih:Aa} {f:FuncId} {a0:IV} {x0:FV} {args:List IV} {vs:List FV} {w:FV} {ext ext':List Blk} (h0:A4 a0=some x0) (hz:Bx args=some vs) (X:OneX ext ext') (hr:Bd (ih f (.fv x0 :: .ptr (.ext 0) 0::vs.map .fv) ⟨[],ext⟩) w ext')
  (own:List (Nat×Blk)) (k:IV→Hp→List Ref→List Ref→Option (IV×Hp)):Ak (false::true::ks) false false ih f (a0 :: .ptr (.ext 0) 0::args) ⟨own,ext⟩ k=k (.fv w) ⟨own,ext'⟩ [.ext 0] [.ext 0]:=by
 rw [Je,RR,Kw _ _ _ _ h0,U2,P3,Ns 0 args _ _ _ _ ks hks hz]
 have:=RP (r1:=.ext 0) (rs1:=[]) hr X.g (by rw [X.l,X.l']) (by rw [X.l];exact X.o) own (ih f (.fv x0 :: .ptr (.ext 0) 0::vs.map .fv) ⟨[],[]⟩) [] [] (ES (false::true::ks) false false ih f (a0 :: .ptr (.ext 0) 0::args) ⟨own,ext⟩ k) k
 refine this.trans ?_;rw [X.l];rfl
theorem We {ih:Aa} {f:FuncId} {a b:IV} {x y w:FV} {ext ext':List Blk} (hr:Bd (ih f [.fv x,.ptr (.ext 0) 0,.fv y] ⟨[],ext⟩) w ext') (X:OneX ext ext') (ha:A4 a=some x) (hb:A4 b=some y) (own:List (Nat×Blk))
  (k:IV→Hp→List Ref→List Ref→Option (IV×Hp)):Ak [false,true,false] false false ih f [a,.ptr (.ext 0) 0,b] ⟨own,ext⟩ k=k (.fv w) ⟨own,ext'⟩ [.ext 0] [.ext 0]:=Aiy (ks:=[false]) (by simp) ha (AcJ hb) X hr own k
theorem Aix {ks:List Bool} (hks:∀b∈ks,b=false) {ih:Aa} {f:FuncId} {a0:IV} {x0:FV} {args:List IV} {vs:List FV} {w:FV} {s:Nat} {st st':List FV} {own:List (Nat×Blk)} (h0:A4 a0=some x0) (hz:Bx args=some vs) (hl:Ap s own=some (.row (st.map .fv) false))
  (hr:Bd (ih f (.fv x0 :: .ptr (.ext 0) 0::vs.map .fv) ⟨[],[.row (st.map .fv) false]⟩) w [.row (st'.map .fv) false]) (k:IV→Hp→List Ref→List Ref→Option (IV×Hp)) :
  Ak (false::true::ks) false false ih f (a0 :: .ptr (.own s) 0::args) ⟨own,[]⟩ k=k (.fv w) ⟨AM s (.row (st'.map .fv) false) own,[]⟩ [.own s] [.own s]:=by
 obtain ⟨v,own',e1,hfz⟩:=hr;obtain ⟨u,hu⟩:=Mu hfz;have hD:ES (false::true::ks) false false ih f (a0 :: .ptr (.own s) 0::args) ⟨own,[]⟩ k=k (.fv w) ⟨AM s (.row (st'.map .fv) false) own,[]⟩ [.own s] [.own s]:=by
  have h1:Bc (false::true::ks) (a0 :: .ptr (.own s) 0::args)=.ret (.fv x0 :: .ptr (.own s) 0::vs.map .fv,[.own s],[]):=by
   simp only [Bc,frp 4096 (by omega) h0,HI args ks hks hz,Rd.bind,IV.refs];rfl
  have h2:(BT 4096 [.own s] []).runLog ⟨own,[]⟩ []=some ([(.own s,.row (st.map .fv) false)],[.own s]):=by
   show (BT (4094+1+1) [.own s] []).runLog ⟨own,[]⟩ []=_
   simp only [BT,hasRef,Bool.false_eq_true,if_false,Rd.runLog,Hp.get,hl,Blk.refs,NO,List.append_nil,List.nil_append]
  have h3:IV.ren.renL (Dt [(.own s,.row (st.map .fv) false)]) (.fv x0 :: .ptr (.own s) 0::vs.map .fv)=some (.fv x0 :: .ptr (.ext 0) 0::vs.map .fv):=by
   simp only [IV.ren.renL,IV.ren,Dt,B3,if_true,Ari,Option.bind_some,E1]
  have h4:A1 (Dt [(.own s,.row (st.map .fv) false)]) [.row (st.map .fv) false]=some [.row (st.map .fv) false]:=by
   simp only [A1,Blk.ren,E1,Ari,Option.bind_some]
  have h5:A1 (Cc [(.own s,.row (st.map .fv) false)]) [.row (st'.map .fv) false]=some [.row (st'.map .fv) false]:=by
   simp only [A1,Blk.ren,E1,Ari,Option.bind_some]
  unfold ES;simp only [h1,Rd.runLog,h2,h3,Arl,Ark,h4,Df (Ce 3),Df Cw,Jc,Bool.false_eq_true,if_false,e1,hu,Ari,IV.ren,h5,Arj,List.length_nil,Bk,List.all_nil,and_self,if_true,List.nil_append,List.zip_cons_cons,List.zip_nil_left];have h6:laid ⟨own,[]⟩ [(.own s,.row (st'.map .fv) false)]=some ⟨AM s (.row (st'.map .fv) false) own,[]⟩:=by
   simp only [laid,Hp.get,hl,Hp.set]
  simp only [h6,K3,Ce]
 rw [Je,RR,Kw _ _ _ _ h0,U2,P3,Ns 0 args _ _ _ _ ks hks hz];simp only [PE,PY,cond_false];exact hD
theorem Ahh {ih:Aa} {f:FuncId} {x y:IV} {vx vy w:FV} {s:Nat} {a a':FV} {own own':List (Nat×Blk)} (hr:Bd (ih f [.fv vx,.ptr (.ext 0) 0,.fv vy] ⟨[],[.row [.fv a] false]⟩) w [.row [.fv a'] false])
  (hx:A4 x=some vx) (hy:A4 y=some vy) (hl:Ap s own=some (.row [.fv a] false)) (ho:AM s (.row [.fv a'] false) own=own') (k:IV→Hp→List Ref→List Ref→Option (IV×Hp)) :
  Ak [false,true,false] false false ih f [x,.ptr (.own s) 0,y] ⟨own,[]⟩ k=k (.fv w) ⟨own',[]⟩ [.own s] [.own s]:=by
 subst ho;exact Aix (ks:=[false]) (by simp) (st:=[a]) (st':=[a']) hx (AcJ hy) hl hr k
def G4 (op:Int):Int:=if op<0 then -1 else ([-1,0,0,2,2,2,2,3,1,1,0,0,1,4,0,0,2,2,1,1,2,2,2,1,1,0,2,3,2,2,1]:List Int).getD op.toNat (-1)
theorem Nt (op:Int):(0≤op∧op≤30)∨op<0∨30<op:=by omega
theorem KJ {op:Int} (h:op<0∨30<op):G4 op=-1:=by
 unfold G4;split
 ·rfl
 ·rw [List.getD_eq_getElem?_getD,List.getElem?_eq_none (by simp;omega)];rfl
theorem Aez {P:Int→Prop} (h:∀k:Nat,k<31→P k) {op:Int} (h1:0≤op∧op≤30):P op:=by
 have:=h op.toNat (by omega)
 rwa [Int.toNat_of_nonneg h1.1] at this
theorem AeY {n:Nat} (hn:0<n) (op:Int):BZ (SS dt n 52 [iv op] ⟨[],[]⟩) (.int .i64 (G4 op)):=by
 obtain ⟨n,rfl⟩:∃k,n=k+1:=⟨n - 1,by omega⟩;rw [c52];rcases Nt op with h | h
 ·revert op
  refine fun op h=>Aez (P:=fun op=>BZ (S52 (SS dt n) n (iv op) ⟨[],[]⟩) (.int .i64 (G4 op))) ?_ h;intro k hk;rcases k with _ | k
  ·simp only [Ro,PO,Sa,RO,Qh,QB,R9,P6,QY,Pk,QW,Q8,Rf,QV,QP,Q0,Pe,Rw,S52,↓XX,XY,↓reduceIte,Nat.reduceBEq,Nat.reduceAdd,Int.reduceEq,Int.reduceLT,Int.reduceLE];exact Ao _ _
  iterate 30 (rcases k with _ | k;· simp only [Ro,PO,Sa,RO,Qh,QB,R9,P6,QY,Pk,QW,Q8,Rf,QV,QP,Q0,Pe,Rw,S52,↓XX,XY,↓reduceIte,Nat.reduceBEq,Nat.reduceAdd,Int.reduceEq,Int.reduceLT,Int.reduceLE];exact Ao _ _)
  omega
 ·rw [KJ h];have q1:op≠1:=by omega
  have q2:op≠2:=by omega
  have q3:op≠3:=by omega
  have q4:op≠4:=by omega
  have q5:op≠5:=by omega
  have q6:op≠6:=by omega
  have q7:op≠7:=by omega
  have q8:op≠8:=by omega
  have q9:op≠9:=by omega
  have q10:op≠10:=by omega
  have q11:op≠11:=by omega
  have q12:op≠12:=by omega
  have q13:op≠13:=by omega
  have q14:op≠14:=by omega
  have q15:op≠15:=by omega
  have q16:op≠16:=by omega
  have q17:op≠17:=by omega
  have q18:op≠18:=by omega
  have q19:op≠19:=by omega
  have q20:op≠20:=by omega
  have q21:op≠21:=by omega
  have q22:op≠22:=by omega
  have q23:op≠23:=by omega
  have q24:op≠24:=by omega
  have q25:op≠25:=by omega
  have q26:op≠26:=by omega
  have q27:op≠27:=by omega
  have q28:op≠28:=by omega
  have q29:op≠29:=by omega
  have q30:op≠30:=by omega
  simp only [Ro,PO,Sa,RO,Qh,QB,R9,P6,QY,Pk,QW,Q8,Rf,QV,QP,Q0,Pe,Rw,S52,↓XX,XY,↓reduceIte,Nat.reduceBEq,Nat.reduceAdd,Int.reduceEq,Int.reduceLT,Int.reduceLE,q1,q2,q3,q4,q5,q6,q7,q8,q9,q10,q11,q12,q13,q14,q15,q16,q17,q18,q19,q20,q21,q22,q23,q24,q25,q26,q27,q28,q29,q30];exact Ao _ _
def Vp (op n:Int):Bool:=if op=1 then decide (0≤n) && decide (n≤3000) else if op=2 then decide (0≤n) && decide (n≤2) else if op=26 then decide (0≤n) && decide (n≤4) else if op=25 then true else decide (n=0)
theorem AbV {n:Nat} (hn:0<n) (op m:Int):BZ (SS dt n 89 [iv op,iv m] ⟨[],[]⟩) (.bool (Vp op m)):=by
 obtain ⟨n,rfl⟩:∃k,n=k+1:=⟨n - 1,by omega⟩;rw [c89];unfold Vp;by_cases h1:op=1
 ·by_cases h0:0≤m<;>simp only [↓Ado,↓XX,XY,↓reduceIte,Nat.reduceBEq,Nat.reduceAdd,Int.reduceEq,Int.reduceLT,Int.reduceLE,h0,h1]<;>exact Ao _ _
 by_cases h2:op=2
 ·by_cases h0:0≤m<;>simp only [↓Ado,↓XX,XY,↓reduceIte,Nat.reduceBEq,Nat.reduceAdd,Int.reduceEq,Int.reduceLT,Int.reduceLE,h0,h2]<;>exact Ao _ _
 by_cases h3:op=26
 ·by_cases h0:0≤m<;>simp only [↓Ado,↓XX,XY,↓reduceIte,Nat.reduceBEq,Nat.reduceAdd,Int.reduceEq,Int.reduceLT,Int.reduceLE,h0,h3]<;>exact Ao _ _
 by_cases h4:op=25
 ·simp only [↓Ado,↓XX,XY,↓reduceIte,Nat.reduceBEq,Nat.reduceAdd,Int.reduceEq,Int.reduceLT,Int.reduceLE,h4];exact Ao _ _
 simp only [↓Ado,↓XX,XY,↓reduceIte,Nat.reduceBEq,Nat.reduceAdd,Int.reduceEq,Int.reduceLT,Int.reduceLE,h1,h2,h3,h4];exact Ao _ _
theorem Vn {n:Nat} (hn:0<n) (op m:Int):BZ (SS dt n 92 [iv op,iv m] ⟨[],[]⟩) (.bool (Vp op m)):=by
 obtain ⟨n,rfl⟩:∃k,n=k+1:=⟨n - 1,by omega⟩;rw [c92];unfold Vp;by_cases h1:op=1
 ·by_cases h0:0≤m<;>simp only [↓AcH,↓XX,XY,↓reduceIte,Nat.reduceBEq,Nat.reduceAdd,Int.reduceEq,Int.reduceLT,Int.reduceLE,h0,h1]<;>exact Ao _ _
 by_cases h2:op=2
 ·by_cases h0:0≤m<;>simp only [↓AcH,↓XX,XY,↓reduceIte,Nat.reduceBEq,Nat.reduceAdd,Int.reduceEq,Int.reduceLT,Int.reduceLE,h0,h2]<;>exact Ao _ _
 by_cases h3:op=26
 ·by_cases h0:0≤m<;>simp only [↓AcH,↓XX,XY,↓reduceIte,Nat.reduceBEq,Nat.reduceAdd,Int.reduceEq,Int.reduceLT,Int.reduceLE,h0,h3]<;>exact Ao _ _
 by_cases h4:op=25
 ·simp only [↓AcH,↓XX,XY,↓reduceIte,Nat.reduceBEq,Nat.reduceAdd,Int.reduceEq,Int.reduceLT,Int.reduceLE,h4];exact Ao _ _
 simp only [↓AcH,↓XX,XY,↓reduceIte,Nat.reduceBEq,Nat.reduceAdd,Int.reduceEq,Int.reduceLT,Int.reduceLE,h1,h2,h3,h4];exact Ao _ _
mutual
def Tm.chk:Tm→Int→Int→Int×Int
 | .mk op m l,n,d=>if 3000<n+1∨120<d then (n+1,5) else if G4 op≠(l.length:Int)∨Vp op m=false then (n+1,1) else Tm.chkL l (n+1) (d+1)
def Tm.chkL:List Tm→Int→Int→Int×Int
 | [],n,_=>(n,0)
 | t::l,n,d=>if (t.chk n d).2=0 then Tm.chkL l (t.chk n d).1 d else t.chk n d
end
mutual
theorem T4:∀(t:Tm) (n d:Int),n≤3000→n≤(t.chk n d).1∧(t.chk n d).1≤3001∧((t.chk n d).2=0→(t.chk n d).1=n+t.wt∧(t.chk n d).1≤3000∧d≤120)
 | .mk op m l,n,d,hn=>by
  rw [Tm.chk];split
  ·simp;omega
  ·split
   ·simp;omega
   ·have:=chkL_b l (n+1) (d+1) (by omega)
    simp only [Tm.wt];omega
theorem chkL_b:∀(l:List Tm) (n d:Int),n≤3000→n≤(Tm.chkL l n d).1∧(Tm.chkL l n d).1≤3001∧((Tm.chkL l n d).2=0→(Tm.chkL l n d).1=n+Tm.wtL l∧(Tm.chkL l n d).1≤3000)
 | [],n,d,hn=>by simp [Tm.chkL,Tm.wtL];omega
 | t::l,n,d,hn=>by
  have h1:=T4 t n d hn;rw [Tm.chkL];split
  ·rename_i h0;have h2:=chkL_b l (t.chk n d).1 d (by omega);simp only [Tm.wtL];omega
  ·rename_i h0;simp only [Tm.wtL];omega
end
abbrev HW (op m:Int) (ks:List Tm) (N E:Int):Hp:=⟨[(66060288,.row [iv op,iv m,.fv (.sl (ks.map Tm.enc))] false)],[.row [iv N,iv E] false]⟩
theorem SF (op:Int):G4 op≤4:=by
 rcases Nt op with h | h
 ·exact Aez (P:=fun op=>G4 op≤4) (by
                         intro k hk;have:∀k:Fin 31,G4 (k.val:Int)≤4:=by decide
                         exact this ⟨k,hk⟩) h
 ·rw [KJ h];omega
theorem AgE:∀(n:Nat) (t:Tm) (N d:Int),2 * t.wt+2<n→0≤N→N≤3000→0≤d→d≤121 →
  Bd (SS dt n 63 [.ptr (.ext 0) 0,.fv t.enc,iv d] ⟨[],[.row [iv N,iv 0] false]⟩) (.tuple []) [.row [iv (t.chk N d).1,iv (t.chk N d).2] false]:=by
 intro n
 induction n using Nat.strongRecOn with
 | ind n ih =>
  intro t N d hn h0 hN hd0 hd;obtain ⟨op,m,ks⟩:=t;simp only [Tm.wt] at hn;obtain ⟨n,rfl⟩:∃k,n=k+1:=⟨n - 1,by omega⟩;rw [c63,Am];have hlen:=Fg ks;have hw:BM (N+1)=N+1:=by rw [As]<;>omega
  have hwd:BM (d+1)=d+1:=by rw [As]<;>omega
  have ha:=AeY (n:=n) (by omega) op;have hb:=AbV (n:=n) (by omega) op m;have hl:∀(N' E':Int) (r:Int×Int),N'≤3000∨E'≠0→0≤N'→(E'=0→ks.length≤4∧r=Tm.chkL ks N' (d+1)∧d≤120)→(E'≠0→r=(N',E')) →
    Bd (BD n (fun q20 l21 h22=>JB l21 h22 (SS dt n) q20) [.ptr (.ext 0) 0,iv d,.ptr (.own 66060288) 0,iv 0] (HW op m ks N' E')) (.tuple []) [.row [iv r.1,iv r.2] false]:=by
   intro N' E' r hN' hN0 h1 h2;refine A7 (Q:=fun r'=>Bd r' _ _) (fun k V H=>∃pre rest N2 E2,ks=pre++rest∧rest.length=k∧V=[.ptr (.ext 0) 0,iv d,.ptr (.own 66060288) 0,iv pre.length]∧H=HW op m ks N2 E2 ∧
    0≤N2∧(E2=0→N2≤3000∧ks.length≤4∧r=Tm.chkL rest N2 (d+1)∧d≤120)∧(E2≠0→r=(N2,E2))) ?_ n ks.length _ _ (by omega) ⟨[],ks,N',E',rfl,rfl,rfl,rfl,hN0,fun e=>⟨by rcases hN' with h | h;exact h;exact absurd e h,h1 e⟩,h2⟩
   rintro k V H rec ⟨pre,rest,N2,E2,hk,hkl,rfl,rfl,hN2,hok,hbad⟩ hrec;have hkk:ks.length=pre.length+rest.length:=by rw [hk];simp
   cases rest with
   | nil =>
    have hno:¬ ((pre.length:Int)<ks.length):=by rw [hkk];simp
    have:r=(N2,E2):=by
     by_cases he:E2=0
     ·rw [(hok he).2.2.1,he];rfl
     ·exact hbad he
    rw [this];simp only [JG,Jm,JU,Jn,JB,Ki,JL,Jf,JQ,Kv,J7,JY,JV,Kk,JC,S63,↓XX,XY,↓reduceIte,Nat.reduceBEq,Nat.reduceAdd,Int.reduceEq,Int.reduceLT,Int.reduceLE,hno];exact EH rfl _ _
   | cons t rest =>
    have hi:(pre.length:Int)<ks.length:=by rw [hkk];simp;omega
    by_cases he:E2=0
    ·subst he;obtain ⟨hb1,hb2,hr,hd2⟩:=hok rfl;have hg:=Cv hk;have htw:=DD (t:=t) (l:=ks) (by rw [hk];simp);have hc:=ih n (by omega) t N2 (d+1) (by omega) hN2 hb1 (by omega) (by omega);have hcb:=T4 t N2 (d+1) hb1;have hwi:BM ((pre.length:Int)+1)=((pre++[t]).length:Int):=(As (by omega) (by omega)).trans (by simp);rw [Tm.chkL] at hr;have h9:=hrec rest.length [.ptr (.ext 0) 0,iv d,.ptr (.own 66060288) 0,iv (pre++[t]).length] (HW op m ks (t.chk N2 (d+1)).1 (t.chk N2 (d+1)).2) (by simp only [Arj] at hkl;omega)
      ⟨pre++[t],rest,_,_,by rw [hk];simp,rfl,rfl,rfl,by omega,fun e=>⟨(hcb.2.2 e).2.1,hb2,by rw [hr,if_pos e],hd2⟩,fun e=>by rw [hr,if_neg e]⟩
     generalize t.chk N2 (d+1)=q at hc h9;obtain ⟨o,p,l⟩:=t;rw [Am] at hc;simp only [JG,Jm,JU,Jn,JB,Ki,JL,Jf,JQ,Kv,J7,JY,JV,Kk,JC,S63,↓XX,XY,↓reduceIte,Nat.reduceBEq,Nat.reduceAdd,Int.reduceEq,Int.reduceLT,Int.reduceLE,hi,↓BN (AY hg) (Bt _ _ _),↓Cy,hwd,↓IX hc (Ann _ _ _ _),hwi];exact h9
    ·rw [hbad he];simp only [JG,Jm,JU,Jn,JB,Ki,JL,Jf,JQ,Kv,J7,JY,JV,Kk,JC,S63,↓XX,XY,↓reduceIte,Nat.reduceBEq,Nat.reduceAdd,Int.reduceEq,Int.reduceLT,Int.reduceLE,hi,he];exact EH rfl _ _
  rw [Tm.chk];by_cases c1:3000<N+1
  ·have hx:=hl (N+1) 5 (N+1,5) (.inr (by decide)) (by omega) (fun e=>absurd e (by decide)) (fun _=>rfl);rw [if_pos (.inl c1)];simp only [↓Ads,↓XX,XY,↓reduceIte,Nat.reduceBEq,Nat.reduceAdd,Int.reduceEq,Int.reduceLT,Int.reduceLE,hw,c1];exact hx
  ·by_cases c2:120<d
   ·have hx:=hl (N+1) 5 (N+1,5) (.inr (by decide)) (by omega) (fun e=>absurd e (by decide)) (fun _=>rfl);rw [if_pos (.inr c2)];simp only [↓Ads,↓XX,XY,↓reduceIte,Nat.reduceBEq,Nat.reduceAdd,Int.reduceEq,Int.reduceLT,Int.reduceLE,hw,c1,c2];exact hx
   ·rw [if_neg (by omega)];by_cases c3:G4 op=(ks.length:Int)
    ·have hx1:=hl (N+1) 1 (N+1,1) (.inr (by decide)) (by omega) (fun e=>absurd e (by decide)) (fun _=>rfl);have hk4:=SF op;have hx0:=hl (N+1) 0 (Tm.chkL ks (N+1) (d+1)) (.inl (by omega)) (by omega) (fun _=>⟨by omega,rfl,by omega⟩) (fun e=>absurd rfl e);cases hnb:Vp op m
     ·rw [hnb] at hb;rw [if_pos (.inr rfl)];simp only [↓Ads,↓XX,XY,↓reduceIte,Nat.reduceBEq,Nat.reduceAdd,Int.reduceEq,Int.reduceLT,Int.reduceLE,hw,c1,c2,↓Ay ha,c3,↓Ag hb];exact hx1
     ·rw [hnb] at hb;rw [if_neg (by simp [c3])];simp only [↓Ads,↓XX,XY,↓reduceIte,Nat.reduceBEq,Nat.reduceAdd,Int.reduceEq,Int.reduceLT,Int.reduceLE,hw,c1,c2,↓Ay ha,c3,↓Ag hb];exact hx0
    ·have hx1:=hl (N+1) 1 (N+1,1) (.inr (by decide)) (by omega) (fun e=>absurd e (by decide)) (fun _=>rfl);rw [if_pos (.inl c3)];simp only [↓Ads,↓XX,XY,↓reduceIte,Nat.reduceBEq,Nat.reduceAdd,Int.reduceEq,Int.reduceLT,Int.reduceLE,hw,c1,c2,↓Ay ha,c3];exact hx1
theorem Afs {n:Nat} (t:Tm) (hn:2 * t.wt+3<n):BZ (SS dt n 35 [.fv t.enc] ⟨[],[]⟩) (.int .i64 (t.chk 0 1).2):=by
 obtain ⟨n,rfl⟩:∃k,n=k+1:=⟨n - 1,by omega⟩;rw [c35];have h:=AgE n t 0 1 (by omega) (by omega) (by omega) (by omega) (by omega);generalize t.chk 0 1=q at h;obtain ⟨op,m,ks⟩:=t;rw [Am] at h ⊢;have c2:=fun k=>Agd (k:=k) h (x:=.fv (.agg [.int .i64 op,.int .i64 m,.sl (ks.map Tm.enc)])) (y:=iv 1) (s:=36701185) rfl rfl
  (own:=[(36700160,.row [iv op,iv m,.fv (.sl (ks.map Tm.enc))] false),(36701185,.row [iv 0,iv 0] false)])
  (own':=[(36700160,.row [iv op,iv m,.fv (.sl (ks.map Tm.enc))] false),(36701185,.row [iv q.1,iv q.2] false)]) (by simp [Ap]) (by simp [AM])
 simp only [Adi,S35,↓XX,XY,↓reduceIte,Nat.reduceBEq,Nat.reduceAdd,Int.reduceEq,Int.reduceLT,Int.reduceLE,↓c2];exact Ao _ _
theorem Td (s:Nat) (h:Hp) (k:IV→Hp→List Ref→List Ref→Option (IV×Hp)):Aw (L0 EE 132 [(0,.fv (.int .i64 (-1))),(1,.fv (.int .i64 0)),(2,.fv (.int .i64 0)),(3,.fv (.int .i64 2)),(4,.fv (.int .i64 2)),(5,.fv (.int .i64 2)),(6,.fv (.int .i64 2)),(7,.fv (.int .i64 3)),(8,.fv (.int .i64 1)),(9,.fv (.int .i64 1)),(10,.fv (.int .i64 0)),(11,.fv (.int .i64 0)),(12,.fv (.int .i64 1)),(13,.fv (.int .i64 4)),(14,.fv (.int .i64 0)),(15,.fv (.int .i64 0)),(16,.fv (.int .i64 2)),(17,.fv (.int .i64 2)),(18,.fv (.int .i64 1)),(19,.fv (.int .i64 1)),(20,.fv (.int .i64 2)),(21,.fv (.int .i64 2)),(22,.fv (.int .i64 2)),(23,.fv (.int .i64 1)),(24,.fv (.int .i64 1)),(25,.fv (.int .i64 0)),(26,.fv (.int .i64 2)),(27,.fv (.int .i64 3)),(28,.fv (.int .i64 2)),(29,.fv (.int .i64 2)),(30,.fv (.int .i64 1))]) s h k=k (.fv (.agg [.int .i64 (-1),.int .i64 0,.int .i64 0,.int .i64 2,.int .i64 2,.int .i64 2,.int .i64 2,.int .i64 3,.int .i64 1,.int .i64 1,.int .i64 0,.int .i64 0,.int .i64 1,.int .i64 4,.int .i64 0,.int .i64 0,.int .i64 2,.int .i64 2,.int .i64 1,.int .i64 1,.int .i64 2,.int .i64 2,.int .i64 2,.int .i64 1,.int .i64 1,.int .i64 0,.int .i64 2,.int .i64 3,.int .i64 2,.int .i64 2,.int .i64 1])) h [] []:=by
 have:L0 EE 132 [(0,.fv (.int .i64 (-1))),(1,.fv (.int .i64 0)),(2,.fv (.int .i64 0)),(3,.fv (.int .i64 2)),(4,.fv (.int .i64 2)),(5,.fv (.int .i64 2)),(6,.fv (.int .i64 2)),(7,.fv (.int .i64 3)),(8,.fv (.int .i64 1)),(9,.fv (.int .i64 1)),(10,.fv (.int .i64 0)),(11,.fv (.int .i64 0)),(12,.fv (.int .i64 1)),(13,.fv (.int .i64 4)),(14,.fv (.int .i64 0)),(15,.fv (.int .i64 0)),(16,.fv (.int .i64 2)),(17,.fv (.int .i64 2)),(18,.fv (.int .i64 1)),(19,.fv (.int .i64 1)),(20,.fv (.int .i64 2)),(21,.fv (.int .i64 2)),(22,.fv (.int .i64 2)),(23,.fv (.int .i64 1)),(24,.fv (.int .i64 1)),(25,.fv (.int .i64 0)),(26,.fv (.int .i64 2)),(27,.fv (.int .i64 3)),(28,.fv (.int .i64 2)),(29,.fv (.int .i64 2)),(30,.fv (.int .i64 1))]=Idl.val (.fv (.agg [.int .i64 (-1),.int .i64 0,.int .i64 0,.int .i64 2,.int .i64 2,.int .i64 2,.int .i64 2,.int .i64 3,.int .i64 1,.int .i64 1,.int .i64 0,.int .i64 0,.int .i64 1,.int .i64 4,.int .i64 0,.int .i64 0,.int .i64 2,.int .i64 2,.int .i64 1,.int .i64 1,.int .i64 2,.int .i64 2,.int .i64 2,.int .i64 1,.int .i64 1,.int .i64 0,.int .i64 2,.int .i64 3,.int .i64 2,.int .i64 2,.int .i64 1])):=by kernel_rfl
 rw [this];exact gen_val' _ _ _ _
theorem Adg {n:Nat} {op:Int} (h:op<0∨30<op):BZ (SS dt (n+1) 91 [iv op] ⟨[],[]⟩) (.int .i64 (-1)):=by
 rw [c91];by_cases h1:op<0
 ·simp only [U9,S91,↓XX,XY,↓reduceIte,Nat.reduceBEq,Nat.reduceAdd,Int.reduceEq,Int.reduceLT,Int.reduceLE,↓Td,h1];exact Ao _ _
 ·have h2:31≤op:=by omega
  simp only [U9,S91,↓XX,XY,↓reduceIte,Nat.reduceBEq,Nat.reduceAdd,Int.reduceEq,Int.reduceLT,Int.reduceLE,↓Td,h1,h2];exact Ao _ _
def AdQ (k:Int) (o:Option (IV×Hp)):Bool:=match o with
 | some (.fv (.int .i64 m),⟨_,[]⟩)=>decide (m=k)
 | _=>false
theorem Afw {k:Int} {o:Option (IV×Hp)} (h:AdQ k o=true):BZ o (.int .i64 k):=by
 unfold AdQ at h;split at h
 ·have:=of_decide_eq_true h
  subst this;exact Ao _ _
 ·cases h
theorem Aei {n:Nat} (hn:0<n) (op:Int):BZ (SS dt n 91 [iv op] ⟨[],[]⟩) (.int .i64 (G4 op)):=by
 obtain ⟨n,rfl⟩:∃k,n=k+1:=⟨n - 1,by omega⟩;rcases Nt op with h | h
 ·revert op
  refine fun op h=>Aez (P:=fun op=>BZ (SS dt (n+1) 91 [iv op] ⟨[],[]⟩) (.int .i64 (G4 op))) ?_ h;intro k hk
  iterate 31 (rcases k with _ | k;· exact Afw (by kernel_rfl))
  omega
 ·rw [KJ h];exact Adg h
abbrev HC (op m:Int) (ks:List Tm) (N:Int):Hp:=⟨[(71303168,.row [iv op,iv m,.fv (.sl (ks.map Tm.enc))] false)],[.row [iv N] false]⟩
theorem VU {base rm:List Nat} {vals:List IV} {own:List (Nat×Blk)} {a:FV} (hb:rm.any base.contains=false) (hf:AQ rm vals own []=true) (k:Hp→Option (IV×Hp)) :
  Bs base rm vals ⟨own,[.row [.fv a] false]⟩ k=k ⟨Hq rm vals own [],[.row [.fv a] false]⟩:=Aff (by intro s;simp [Blk.refs,IV.refs.refsL,IV.refs]) hb hf k
theorem AbA:∀(n:Nat) (t:Tm) (N d:Int),2 * t.wt+2<n→0≤N→N≤3000→0≤d→d≤121 →
  Bd (SS dt n 68 [.fv t.enc,.ptr (.ext 0) 0,iv d] ⟨[],[.row [iv N] false]⟩) (.int .i64 (t.chk N d).2) [.row [iv (t.chk N d).1] false]:=by
 intro n
 induction n using Nat.strongRecOn with
 | ind n ih =>
  intro t N d hn h0 hN hd0 hd;obtain ⟨op,m,ks⟩:=t;simp only [Tm.wt] at hn;obtain ⟨n,rfl⟩:∃k,n=k+1:=⟨n - 1,by omega⟩;rw [c68,Am];have hlen:=Fg ks;have hw:BM (N+1)=N+1:=by rw [As]<;>omega
  have hwd:BM (d+1)=d+1:=by rw [As]<;>omega
  have ha:=Aei (n:=n) (by omega) op;have hb:=Vn (n:=n) (by omega) op m;rw [Tm.chk];by_cases c1:3000<N+1
  ·rw [if_pos (.inl c1)];simp only [↓Un,↓XX,XY,↓reduceIte,Nat.reduceBEq,Nat.reduceAdd,Int.reduceEq,Int.reduceLT,Int.reduceLE,hw,c1];exact AB _ _ _
  by_cases c2:120<d
  ·rw [if_pos (.inr c2)];simp only [↓Un,↓XX,XY,↓reduceIte,Nat.reduceBEq,Nat.reduceAdd,Int.reduceEq,Int.reduceLT,Int.reduceLE,hw,c1,c2];exact AB _ _ _
  rw [if_neg (by omega)];by_cases c3:G4 op=(ks.length:Int)
  ·cases hnb:Vp op m
   ·rw [hnb] at hb;rw [if_pos (.inr rfl)];simp only [↓Un,↓XX,XY,↓reduceIte,Nat.reduceBEq,Nat.reduceAdd,Int.reduceEq,Int.reduceLT,Int.reduceLE,hw,c1,c2,↓Ay ha,c3,↓Ag hb];exact AB _ _ _
   ·rw [hnb] at hb;have hk4:=SF op;rw [if_neg (by simp [c3])];simp only [Q9,Sb,P9,Py,Pi,R0,Rq,Pu,PS,PN,S68,↓XX,XY,↓reduceIte,Nat.reduceBEq,Nat.reduceAdd,Int.reduceEq,Int.reduceLT,Int.reduceLE,hw,c1,c2,↓Ay ha,c3,↓Ag hb,↓VU,↓AJ,XD,heldB,AQ,XE];refine A7 (Q:=fun r'=>Bd r' _ _) (fun k V H=>∃pre rest N2,ks=pre++rest∧rest.length=k∧V=[.ptr (.ext 0) 0,iv d,.fv (.sl (ks.map Tm.enc)),iv ks.length,iv pre.length]∧H=HC op m ks N2 ∧
     0≤N2∧N2≤3000∧Tm.chkL rest N2 (d+1)=Tm.chkL ks (N+1) (d+1)) ?_ n ks.length _ _ (by omega) ⟨[],ks,N+1,rfl,rfl,rfl,rfl,by omega,by omega,rfl⟩
    rintro k V H rec ⟨pre,rest,N2,hk,hkl,rfl,rfl,hN2,hN3,hr⟩ hrec;have hkk:ks.length=pre.length+rest.length:=by rw [hk];simp
    cases rest with
    | nil =>
     have hno:¬ ((pre.length:Int)<ks.length):=by rw [hkk];simp
     rw [← hr];simp only [↓Un,↓XX,XY,↓reduceIte,Nat.reduceBEq,Nat.reduceAdd,Int.reduceEq,Int.reduceLT,Int.reduceLE,hno,Tm.chkL];exact AB _ _ _
    | cons t rest =>
     have hi:(pre.length:Int)<ks.length:=by rw [hkk];simp;omega
     have hg:=Cv hk;have htw:=DD (t:=t) (l:=ks) (by rw [hk];simp);have hc:=ih n (by omega) t N2 (d+1) (by omega) hN2 hN3 (by omega) (by omega);have hcb:=T4 t N2 (d+1) hN3;have hwi:BM ((pre.length:Int)+1)=((pre++[t]).length:Int):=(As (by omega) (by omega)).trans (by simp);rw [Tm.chkL] at hr;rw [← hr];have h9:=fun e=>hrec rest.length [.ptr (.ext 0) 0,iv d,.fv (.sl (ks.map Tm.enc)),iv ks.length,iv (pre++[t]).length] (HC op m ks (t.chk N2 (d+1)).1) (by simp only [Arj] at hkl;omega)
      ⟨pre++[t],rest,_,by rw [hk];simp,rfl,rfl,rfl,by omega,(hcb.2.2 e).2.1,by rw [← hr,if_pos e]⟩
     rw [← hr] at h9;generalize t.chk N2 (d+1)=q at hc h9 ⊢;obtain ⟨q1,q2⟩:=q;simp only at hc h9 ⊢;obtain ⟨o,p,l⟩:=t;rw [Am] at hc;by_cases he:q2=0
     ·subst he;simp only [if_true] at h9 ⊢;simp only [↓Un,↓XX,XY,↓reduceIte,Nat.reduceBEq,Nat.reduceAdd,Int.reduceEq,Int.reduceLT,Int.reduceLE,hi,↓BN (AY hg) (Bt _ _ _),↓Cy,hwd,↓We hc (Ah3 _ _),hwi,↓VU,↓AJ,XD,heldB,AQ,XE];exact h9 trivial
     ·rw [if_neg he];simp only [↓Un,↓XX,XY,↓reduceIte,Nat.reduceBEq,Nat.reduceAdd,Int.reduceEq,Int.reduceLT,Int.reduceLE,hi,↓BN (AY hg) (Bt _ _ _),↓Cy,hwd,↓We hc (Ah3 _ _),he];exact AB _ _ _
  ·rw [if_pos (.inl c3)];simp only [↓Un,↓XX,XY,↓reduceIte,Nat.reduceBEq,Nat.reduceAdd,Int.reduceEq,Int.reduceLT,Int.reduceLE,hw,c1,c2,↓Ay ha,c3];exact AB _ _ _
theorem Ab8 {n:Nat} (t:Tm) (hn:2 * t.wt+3<n):BZ (SS dt n 40 [.fv t.enc] ⟨[],[]⟩) (.int .i64 (t.chk 0 1).2):=by
 obtain ⟨n,rfl⟩:∃k,n=k+1:=⟨n - 1,by omega⟩;rw [c40];have h:=AbA n t 0 1 (by omega) (by omega) (by omega) (by omega) (by omega);generalize t.chk 0 1=q at h;obtain ⟨op,m,ks⟩:=t;rw [Am] at h ⊢;have c2:=fun k=>Ahh (k:=k) h (x:=.fv (.agg [.int .i64 op,.int .i64 m,.sl (ks.map Tm.enc)])) (y:=iv 1) (s:=41944065) rfl rfl
  (own:=[(41943040,.row [iv op,iv m,.fv (.sl (ks.map Tm.enc))] false),(41944065,.row [iv 0] false)])
  (own':=[(41943040,.row [iv op,iv m,.fv (.sl (ks.map Tm.enc))] false),(41944065,.row [iv q.1] false)]) (by simp [Ap]) (by simp [AM])
 simp only [S40,↓XX,XY,↓reduceIte,Nat.reduceBEq,Nat.reduceAdd,Int.reduceEq,Int.reduceLT,Int.reduceLE,↓c2];exact Ao _ _
theorem Ad0 {f n:Nat} {t u:Tm} (hc:(t.chk 0 1).2=0) (h:SI f t=some (u,0)) (hp:u.plainP=true) (hn:f+4≤n) (h2:2 * t.wt+4<n) (h3:4 * u.wt+6<n) (h4:u.wt≤900000) :
  BZ (SS dt n 16 [.fv t.enc] ⟨[],[]⟩) (.tuple [u.enc,.int .i64 0]):=by
 obtain ⟨n,rfl⟩:∃k,n=k+1:=⟨n - 1,by omega⟩;rw [c16];have h1:=Ab8 (n:=n) t (by omega);have hw:=T4 t 0 1 (by omega);have hN:=Ad3 (n:=n) h (by omega) (by omega) (by have:=hw.2.2 hc;omega);have hP:=Abw (n:=n) u (by omega) h4;rw [hc] at h1;rw [hp] at hP;obtain ⟨o1,n1,k1⟩:=t;obtain ⟨o2,n2,k2⟩:=u;simp only [Am] at h1 hN hP ⊢;simp only [Ac4,Afy,Aeh,AfG,Aem,AfB,Ae1,S16,↓XX,XY,↓reduceIte,Nat.reduceBEq,Nat.reduceAdd,Int.reduceEq,Int.reduceLT,Int.reduceLE,↓Ay h1,↓Ay hN,↓Ay hP];first | exact Ao _ _ | exact AU rfl (by simp) _
theorem Ait:EE.T 27=some ⟨1,24,.slice 69,[.nils]⟩:=by kernel_rfl
theorem tV1:EE.T 69=some ⟨4,48,.struct [(0,3),(1,30)],[.fv (.int .i64 0),.fv (.int .i64 0),.fv (.int .i64 0),.nils]⟩:=by kernel_rfl
theorem sV1:SliceT EE 27 4:=⟨_,_,_,_,_,Ait,tV1,rfl,by decide,by decide⟩
theorem AfF (s:Nat) (h:Hp) (k:IV→Hp→List Ref→List Ref→Option (IV×Hp)):Aw (Af EE 27 0 []) s h k=k (.clip []) h [] []:=Ci Ait tV1 (by decide) (cells:=[]) rfl k
theorem AdK (s0 o n:Int) (ks:List FV) (s:Nat) (h:Hp) (k:IV→Hp→List Ref→List Ref→Option (IV×Hp)):Aw (Af EE 27 1 [(0,.fv (.agg [.int .i64 s0,.int .i64 o,.int .i64 n,.sl ks]))]) s h k=k (.clip [.agg [.int .i64 s0,.int .i64 o,.int .i64 n,.sl ks]]) h [] [] :=
 Ci Ait tV1 (by decide) (cells:=[.int .i64 s0,.int .i64 o,.int .i64 n,.sl ks]) rfl k
theorem Lu (g:Cz):Bv 4 (g.map v1)=true:=by
 cases g with
 | nil=>rfl
 | cons a l=>simp only [Arl,Bv,v1,FV.cells,Arj,List.length_nil,beq_self_eq_true]
theorem AiZ (g:Cz):((g.map v1).all fun e=>e.cells.all FV.one)=true:=by
 rw [List.all_map,List.all_eq_true];intro p _;rfl
theorem EY {n:Nat} (g:Cz) (st:Int) (a:Tm) (hg:g.length≤1000) (hn:0<n):BZ (SS dt n 60 [.fv (BL g),iv st,.fv a.enc] ⟨[],[]⟩) (BL (g++[(st,a)])):=by
 obtain ⟨n,rfl⟩:∃k,n=k+1:=⟨n - 1,by omega⟩;rw [c60];rw [BL,BL,List.map_append,Arl,Ark];cases g with
 | nil =>
  have h0:=fun {β:Type}=>Ail (β:=β) (E:=EE) sV1 (.sl []) (s0:=.clip []) (.inr rfl);have happ:=fun {β:Type}=>K1 (β:=β) sV1 (.clip [v1 (st,a)]) (Lu [(st,a)]) rfl (by simp) (s0:=.clip []) (.inr rfl);obtain ⟨o,p,k⟩:=a;simp only [v1,Tm.op,Tm.n,Tm.kids] at happ ⊢;rw [Am];simp only [Up,Vd,S60,↓XX,XY,↓reduceIte,Nat.reduceBEq,Nat.reduceAdd,Int.reduceEq,Int.reduceLT,Int.reduceLE,↓AfF,↓h0,↓AdK,↓happ];exact Be rfl _
 | cons t g =>
  have h0:=fun {β:Type}=>K1 (β:=β) sV1 (.sl ((t::g).map v1)) (Lu (t::g)) rfl (by simp at hg ⊢;omega) (s0:=.clip []) (.inr rfl);have happ:=fun {β:Type}=>Tn (β:=β) sV1 (es:=(t::g).map v1) (es2:=[v1 (st,a)]) (.clip _) (Lu [(st,a)]) (Lu (t::g)) (AiZ [(st,a)]) (by simp at hg ⊢;omega);obtain ⟨o,p,k⟩:=a;simp only [Arl,List.length_map,Arj,List.length_nil,List.cons_append] at h0 happ ⊢;simp only [v1,Tm.op,Tm.n,Tm.kids] at h0 happ ⊢;rw [Am];simp only [Up,Vd,S60,↓XX,XY,↓reduceIte,Nat.reduceBEq,Nat.reduceAdd,Int.reduceEq,Int.reduceLT,Int.reduceLE,↓AfF,↓h0,↓AdK,↓happ,Hc];exact Be rfl _
theorem L4 {n:Nat} (hn:1<n):BZ (SS dt n 64 [] ⟨[],[]⟩) (Tm.mk 10 0 []).enc:=by
 obtain ⟨n,rfl⟩:∃k,n=k+1:=⟨n - 1,by omega⟩;rw [c64];have t:=EM (n:=n) (by omega) 10;rw [Am] at t ⊢;simp only [S64,↓XX,XY,↓reduceIte,Nat.reduceBEq,Nat.reduceAdd,Int.reduceEq,Int.reduceLT,Int.reduceLE,↓Ag t];exact Ao _ _
theorem AjM {P:Nat→Nat→Prop}:∀m,(∀i,i<m→∃N,∀n,N≤n→P i n)→∃N,∀i,i<m→∀n,N≤n→P i n:=by
 intro m
 induction m with
 | zero=>intro _;exact ⟨0,fun i hi=>by omega⟩
 | succ m ih =>
  intro h;obtain ⟨N1,h1⟩:=ih fun i hi=>h i (by omega);obtain ⟨N2,h2⟩:=h m (by omega);refine ⟨N1+N2,fun i hi n hn=>?_⟩;by_cases him:i=m
  ·subst him;exact h2 n (by omega)
  ·exact h1 i (by omega) n (by omega)
theorem AeB:EE.T 75=some ⟨1,24,.slice 3,[.nils]⟩:=by kernel_rfl
theorem Alb:EE.T 3=some ⟨1,8,.int .i64,[.fv (.int .i64 0)]⟩:=by kernel_rfl
theorem Amb:SliceT EE 75 1:=⟨_,_,_,_,_,AeB,Alb,rfl,by decide,by decide⟩
theorem Ah7 (a:Int) (s:Nat) (h:Hp) (k:IV→Hp→List Ref→List Ref→Option (IV×Hp)):Aw (Af EE 75 1 [(0,iv a)]) s h k=k (.clip [.int .i64 a]) h [] []:=Ci AeB Alb (by decide) (cells:=[.int .i64 a]) rfl k
def iE (l:List Nat):List FV:=l.map fun (i:Nat)=>FV.int .i64 (i:Int)
theorem UA (l:List Nat):Bv 1 (iE l)=true:=by
 cases l with
 | nil=>rfl
 | cons a l=>rfl
theorem AmM (l:List Nat):((iE l).all fun e=>e.cells.all FV.one)=true:=by
 rw [iE,List.all_map,List.all_eq_true];intro p _;rfl
def lV:List Nat→IV
 | []=>.nils
 | i::l=>.app (.own 60825603) (iE (i::l))
def lH:List Nat→List (Nat×Blk)
 | []=>[]
 | i::l=>[(60825603,.tok (i::l).length 1)]
abbrev ME (o m:Int) (ks:List Tm) (l:List Nat):Hp :=
 ⟨[(60817408,.row [iv o,iv m,.fv (.sl (ks.map Tm.enc))] false),(60817409,.row [iv 0,iv 0,.nils] false)]++lH l,[]⟩
theorem Acl (p:Nat→Bool) (i:Nat):(List.range (i+1)).filter p=(List.range i).filter p++(if p i then [i] else []):=by
 rw [List.range_succ,List.filter_append];cases h:p i<;>simp [h]
set_option maxRecDepth 20000 in
set_option maxHeartbeats 4000000 in
theorem Lf {e0:Nat} {g:Cz} (hg:GOk e0 g) (st:Int) {a:Tm} (ha:NOk g.length a) (x:Int):∃t b,Ev 58 [.fv (BL g),iv st,.fv a.enc,iv x] (.tuple [Tm.enc t,.bool b])∧TOk g.length 0 t∧(b=true→∃i:Nat,t=.mk 1 i []∧Hit g st a i):=by
 have hlen:=hg.len;have hc:∀i:Nat,∃(p:Int×Tm) (u:Tm) (e:Int),i<g.length→g[g.length - 1 - i]?=some p∧p.2.wk∧p.2.wt≤100000000000∧Ev 34 [.fv (p.2.shift ((i:Int)+1) 0).enc] (.tuple [u.enc,.int .i64 e])∧(e=0∧NOk g.length u∨(e=5∨e=17)∧u=.z)∧∃f,AT f (p.2.shift ((i:Int)+1) 0)=some (u,e):=by
  intro i;by_cases hi:i<g.length
  ·obtain ⟨p,hp⟩:∃p,g[g.length - 1 - i]?=some p:=⟨_,List.getElem?_eq_getElem (by omega)⟩;obtain ⟨h1,h2,h3⟩:=hg.ok _ _ hp;have h4:=Gq p.2 (i+1) 0 _ h1 (by omega);rw [show g.length - 1 - i+(i+1)=g.length by omega] at h4
   obtain ⟨u,e,h5,h6,h7⟩:=Hb (k:=g.length) (by omega) h4 (by rw [Fk];omega);exact ⟨p,u,e,fun _=>⟨hp,Gp _ _ h1,h2,h5,h6,h7⟩⟩
  ·exact ⟨(0,.z),.z,0,fun h=>absurd h hi⟩
 obtain ⟨P,hP⟩:=Classical.axiomOfChoice hc;obtain ⟨U,hP⟩:=Classical.axiomOfChoice hP;obtain ⟨E,hU⟩:=Classical.axiomOfChoice hP;clear hP hc;obtain ⟨N,hN⟩:=AjM (P:=fun i n=>BZ (SS dt n 34 [.fv ((P i).2.shift ((i:Int)+1) 0).enc] ⟨[],[]⟩) (.tuple [(U i).enc,.int .i64 (E i)])) g.length (fun i hi=>(hU i hi).2.2.2.1);obtain ⟨hit,hhit⟩:∃h:Nat→Bool,∀i,h i=(decide ((P i).1=st) && (decide (E i=0) && (U i).eta.same a.eta)):=⟨_,fun _=>rfl⟩;obtain ⟨L,hL⟩:∃L,L=(List.range g.length).filter hit:=⟨_,rfl⟩;obtain ⟨tt,htt⟩:∃tt:Tm,tt=if L=[] then .z else .mk 1 ((L.getD (x % (L.length:Int)).toNat 0:Nat):Int) []:=⟨_,rfl⟩;have hLlt:∀i∈L,i<g.length:=fun i hi=>by
  rw [hL] at hi;exact List.mem_range.1 (List.mem_filter.1 hi).1
 refine ⟨tt,!decide (L=[]),⟨N+200000000000+1,?_⟩,?_,?_⟩
 ·intro n hn;obtain ⟨n,rfl⟩:∃k,n=k+1:=⟨n - 1,by omega⟩;have hka:=W3 n a g.length ha.sc (by have:=ha.wt;omega) (by have:=ha.wt;omega);rw [c58];generalize hae:a.eta=ae at hka hhit;obtain ⟨oa,ma,ka⟩:=a;obtain ⟨oe,me,ke⟩:=ae;simp only [Am] at hka ⊢;simp only [Qv,Rn,Sg,QC,Ri,QA,Rr,Qn,Pr,RW,RC,Ry,PZ,QS,S58,↓XX,XY,↓reduceIte,Nat.reduceBEq,Nat.reduceAdd,Int.reduceEq,Int.reduceLT,Int.reduceLE,BL,↓AJ,XD,heldB,AQ,XE];refine A7 (Q:=fun r=>BZ r _) (fun k V H=>∃i:Nat,i+k=g.length∧∃l:List Nat,l=(List.range i).filter hit∧V=[.fv (.sl (g.map v1)),iv st,iv x,.ptr (.own 60817408) 0,.ptr (.own 60817409) 0,lV l,iv i]∧H=ME oa ma ka l)
   ?_ n g.length _ _ (by omega) ⟨0,by omega,[],rfl,rfl,rfl⟩
  rintro k V H rec ⟨i,hik,l,hl,rfl,rfl⟩ hrec;cases k with
  | zero =>
   have hig:i=g.length:=by omega
   rw [hig] at hl;rw [← hL] at hl;subst hl;have hno:¬ ((i:Int)<g.length):=by omega
   cases l with
   | nil =>
    rw [htt,if_pos rfl];simp only [lV,Tm.z,Am];simp only [↓On,↓XX,XY,↓reduceIte,Nat.reduceBEq,Nat.reduceAdd,Int.reduceEq,Int.reduceLT,Int.reduceLE,hno]
    first | exact Ao _ _ | exact AU rfl (by simp) _
   | cons i0 l0 =>
    rw [htt,if_neg (by simp)];generalize hl1:i0::l0=l at *;have hlp:0<l.length:=by rw [← hl1];simp
    have hll:l.length≤100:=by
     have h1:=List.length_filter_le hit (List.range g.length);rw [← hL,List.length_range] at h1;omega
    have hw:=Ar (n:=n) (by omega) x (m:=(l.length:Int)) (by omega) (by omega);have h1:=Int.emod_nonneg x (show (l.length:Int)≠0 by omega)
    have h2:=Int.emod_lt_of_pos x (show (0:Int)<l.length by omega)
    obtain ⟨j,hj⟩:∃j:Nat,x % (l.length:Int)=j:=⟨(x % (l.length:Int)).toNat,by omega⟩;rw [hj] at hw h2 ⊢;have hjl:j<l.length:=by omega
    have hget:(iE l)[j]?=some (.int .i64 ((l.getD j 0:Nat):Int)):=by
     rw [iE,List.getElem?_map,List.getD_eq_getElem?_getD,List.getElem?_eq_getElem hjl];rfl
    rw [Int.toNat_natCast];have hix:=fun {β:Type}=>BN (β:=β) (size:=1) hget rfl;have hv:=AiU (n:=n) (by omega) ((l.getD j 0:Nat):Int);generalize ((l.getD j 0:Nat):Int)=q at hix hv ⊢;have hln:¬ ((l.length:Int)=0):=by omega
    have hiel:(iE l).length=l.length:=by rw [iE,List.length_map]
    have hap:∀(β:Type) (x:IV) (k:IV→Option β),Bf 1 (.app (.own 60825603) (iE l)) x k=Bf 1 (.fv (.sl (iE l))) x k:=fun _ _ _=>rfl;have hlV:lV l=.app (.own 60825603) (iE l):=by rw [← hl1];rfl
    have hlH:lH l=[(60825603,.tok l.length 1)]:=by rw [← hl1];rfl
    have hne:decide (l=[])=false:=by rw [← hl1];simp
    rw [hlV,ME,hlH,hne];simp only [List.cons_append,List.nil_append];simp only [Am,Ark] at hv ⊢;simp only [↓On,↓XX,XY,↓reduceIte,Nat.reduceBEq,Nat.reduceAdd,Int.reduceEq,Int.reduceLT,Int.reduceLE,hno,hiel,hln,↓Ag hw,↓hap,↓hix,FV.cells,↓Ay hv]
    first | exact Ao _ _ | exact AU rfl (by simp) _
  | succ k =>
   have hig:i<g.length:=by omega
   have hlt:(i:Int)<g.length:=by omega
   obtain ⟨hp,hwk,hwt,_,hN',_⟩:=hU i hig;have hget:(g.map v1)[g.length - 1 - i]?=some (v1 (P i)):=by rw [List.getElem?_map,hp];rfl
   have hix:=fun {β:Type}=>BN (β:=β) (size:=4) hget rfl;have w1:BM ((g.length:Int) - 1)=(g.length:Int) - 1:=by rw [As]<;>omega
   have w2:BM ((g.length:Int) - 1 - i)=((g.length - 1 - i:Nat):Int):=by rw [As (by omega) (by omega)];omega
   have wi:BM ((i:Int)+1)=(i:Int)+1:=by rw [As]<;>omega
   have hsh:=DC n (P i).2 ((i:Int)+1) 0 (by omega) hwk (by omega) (by omega);have hNi:=hN i hig n (by omega);have h9:=fun (l':List Nat) (e:l'=l++if hit i then [i] else [])=>hrec k [.fv (.sl (g.map v1)),iv st,iv x,.ptr (.own 60817408) 0,.ptr (.own 60817409) 0,lV l',iv (i+1:Nat)] (ME oa ma ka l') (by omega)
    ⟨i+1,by omega,l',by rw [Acl,← hl,e],rfl,rfl⟩
   have hi1:((i+1:Nat):Int)=(i:Int)+1:=by omega
   rw [hi1] at h9;have hhi:=hhit i;generalize (P i).2.shift ((i:Int)+1) 0=ts at hsh hNi;generalize P i=p at hp hget hix hsh hhi;obtain ⟨sp,tp⟩:=p;by_cases c1:sp=st
   ·by_cases c2:E i=0
    ·have hUi:NOk g.length (U i):=by
      rcases hN' with ⟨_,h⟩ | ⟨h,_⟩
      ·exact h
      ·omega
     have hke:=W3 n (U i) g.length hUi.sc (by have:=hUi.wt;omega) (by have:=hUi.wt;omega);have hew:=(Ae6 (U i) g.length hUi.sc (by have:=hUi.wt;omega)).2;have hsm:=LO n (U i).eta (.mk oe me ke) (by have:=hUi.wt;omega) (by have:=hUi.wt;omega);rw [c2] at hNi;simp only [c1,c2,decide_true,Bool.true_and] at hhi;rw [← hhi] at hsm;generalize (U i).eta=ue at hke hsm;generalize U i=ui at hNi hke;obtain ⟨o1,n1,k1⟩:=tp;obtain ⟨o2,n2,k2⟩:=ts;obtain ⟨o3,n3,k3⟩:=ui;obtain ⟨o4,n4,k4⟩:=ue;subst c1;simp only [Am,v1,Tm.op,Tm.n,Tm.kids] at hsh hNi hke hsm hix;cases hb:hit i
     ·rw [hb] at hsm h9;have h9:=h9 l (by simp);cases l with
      | nil =>
       simp only [lV,lH,ME,List.append_nil] at h9 ⊢;simp only [↓On,↓XX,XY,↓reduceIte,Nat.reduceBEq,Nat.reduceAdd,Int.reduceEq,Int.reduceLT,Int.reduceLE,hlt,w1,w2,wi,↓hix,FV.cells,↓A5 hsh,↓Ay hNi,↓Ay hke,↓Ay hka,↓Ag hsm,↓AJ,XD,heldB,AQ,XE];exact h9
      | cons i0 l0 =>
       simp only [lV,lH,ME,List.cons_append,List.nil_append] at h9 ⊢;simp only [↓On,↓XX,XY,↓reduceIte,Nat.reduceBEq,Nat.reduceAdd,Int.reduceEq,Int.reduceLT,Int.reduceLE,hlt,w1,w2,wi,↓hix,FV.cells,↓A5 hsh,↓Ay hNi,↓Ay hke,↓Ay hka,↓Ag hsm,↓AJ,XD,heldB,AQ,XE];exact h9
     ·rw [hb] at hsm h9;have h9:=h9 (l++[i]) (by simp);cases l with
      | nil =>
       have happ:=fun {β:Type}=>K1 (β:=β) Amb (.clip [.int .i64 (i:Int)]) (UA [i]) rfl (by simp) (s0:=.nils) (.inl rfl);simp only [lV,lH,ME,List.cons_append,List.nil_append] at h9 ⊢;simp only [↓On,↓XX,XY,↓reduceIte,Nat.reduceBEq,Nat.reduceAdd,Int.reduceEq,Int.reduceLT,Int.reduceLE,hlt,w1,w2,wi,↓hix,FV.cells,↓A5 hsh,↓Ay hNi,↓Ay hke,↓Ay hka,↓Ag hsm,↓Ah7,↓happ,↓AJ,XD,heldB,AQ,XE];exact h9
      | cons i0 l0 =>
       have hll:(i0::l0).length≤100:=by
        have h1:=List.length_filter_le hit (List.range i);rw [← hl,List.length_range] at h1;omega
       have happ:=fun {β:Type}=>Tn (β:=β) Amb (es:=iE (i0::l0)) (es2:=[.int .i64 (i:Int)]) (.clip _) (UA [i]) (UA _) (AmM [i]) (by rw [iE,List.length_map];simp only [Arj,List.length_nil] at hll ⊢;omega);have hil:(iE (i0::l0)).length=(i0::l0).length:=by rw [iE,List.length_map]
       have hia:iE (i0::l0)++[.int .i64 (i:Int)]=iE (i0::(l0++[i])):=by simp [iE]
       have hil2:(i0::(l0++[i])).length=(i0::l0).length+1:=by simp
       simp only [hil,hia,Arj,List.length_nil,Nat.zero_add] at happ;simp only [lV,lH,ME,List.cons_append,List.nil_append,hil2] at h9 ⊢;simp only [Arj] at h9 ⊢;simp only [↓On,↓XX,XY,↓reduceIte,Nat.reduceBEq,Nat.reduceAdd,Int.reduceEq,Int.reduceLT,Int.reduceLE,hlt,w1,w2,wi,↓hix,FV.cells,↓A5 hsh,↓Ay hNi,↓Ay hke,↓Ay hka,↓Ag hsm,↓Ah7,↓happ,Hc,↓AJ,XD,heldB,AQ,XE];exact h9
    ·simp only [c2,decide_false,Bool.false_and,Bool.and_false] at hhi;rw [hhi] at h9;have h9:=h9 l (by simp);generalize E i=ei at hNi c2;generalize U i=ui at hNi;obtain ⟨o1,n1,k1⟩:=tp;obtain ⟨o2,n2,k2⟩:=ts;obtain ⟨o3,n3,k3⟩:=ui;subst c1;simp only [Am,v1,Tm.op,Tm.n,Tm.kids] at hsh hNi hix;cases l with
     | nil =>
      simp only [lV,lH,ME,List.append_nil] at h9 ⊢;simp only [↓On,↓XX,XY,↓reduceIte,Nat.reduceBEq,Nat.reduceAdd,Int.reduceEq,Int.reduceLT,Int.reduceLE,hlt,w1,w2,wi,↓hix,FV.cells,↓A5 hsh,↓Ay hNi,c2,↓AJ,XD,heldB,AQ,XE];exact h9
     | cons i0 l0 =>
      simp only [lV,lH,ME,List.cons_append,List.nil_append] at h9 ⊢;simp only [↓On,↓XX,XY,↓reduceIte,Nat.reduceBEq,Nat.reduceAdd,Int.reduceEq,Int.reduceLT,Int.reduceLE,hlt,w1,w2,wi,↓hix,FV.cells,↓A5 hsh,↓Ay hNi,c2,↓AJ,XD,heldB,AQ,XE];exact h9
   ·simp only [c1,decide_false,Bool.false_and] at hhi;rw [hhi] at h9;have h9:=h9 l (by simp);obtain ⟨o1,n1,k1⟩:=tp;simp only [v1,Tm.op,Tm.n,Tm.kids] at hix;cases l with
    | nil =>
     simp only [lV,lH,ME,List.append_nil] at h9 ⊢;simp only [↓On,↓XX,XY,↓reduceIte,Nat.reduceBEq,Nat.reduceAdd,Int.reduceEq,Int.reduceLT,Int.reduceLE,hlt,w1,w2,wi,↓hix,FV.cells,c1,↓AJ,XD,heldB,AQ,XE];exact h9
    | cons i0 l0 =>
     simp only [lV,lH,ME,List.cons_append,List.nil_append] at h9 ⊢;simp only [↓On,↓XX,XY,↓reduceIte,Nat.reduceBEq,Nat.reduceAdd,Int.reduceEq,Int.reduceLT,Int.reduceLE,hlt,w1,w2,wi,↓hix,FV.cells,c1,↓AJ,XD,heldB,AQ,XE];exact h9
 ·rw [htt];split
  ·exact ⟨AiN _,by have:=Lm 0;simp [Tm.z,Tm.wt,Tm.wtL];omega,by simp [Tm.z,Tm.dp,Tm.dpL,Dg]⟩
  ·rename_i hne;have h1:=Int.emod_nonneg x (show (L.length:Int)≠0 by
    intro h;exact hne (List.eq_nil_of_length_eq_zero (by omega)))
   have h2:=Int.emod_lt_of_pos x (show (0:Int)<L.length by
    have:L.length≠0:=fun h=>hne (List.eq_nil_of_length_eq_zero h)
    omega)
   have hj:(x % (L.length:Int)).toNat<L.length:=by omega
   have:=hLlt (L.getD (x % (L.length:Int)).toNat 0) (by rw [List.getD_eq_getElem?_getD,List.getElem?_eq_getElem hj];exact List.getElem_mem hj)
   exact ⟨Ai7 (by omega) (by omega),by have:=Lm 0;simp [Tm.wt,Tm.wtL];omega,by simp [Tm.dp,Tm.dpL,Dg]⟩
 ·intro hb;have hne:L≠[]:=by simpa using hb
  rw [htt,if_neg hne];have h1:=Int.emod_nonneg x (show (L.length:Int)≠0 by
   intro h;exact hne (List.eq_nil_of_length_eq_zero (by omega)))
  have h2:=Int.emod_lt_of_pos x (show (0:Int)<L.length by
   have:L.length≠0:=fun h=>hne (List.eq_nil_of_length_eq_zero h)
   omega)
  have hj:(x % (L.length:Int)).toNat<L.length:=by omega
  have hm:L.getD (x % (L.length:Int)).toNat 0∈L:=by rw [List.getD_eq_getElem?_getD,List.getElem?_eq_getElem hj];exact List.getElem_mem hj
  generalize L.getD (x % (L.length:Int)).toNat 0=i at hm;refine ⟨i,rfl,hLlt i hm,?_⟩;have hig:=hLlt i hm;rw [hL] at hm;have hh:=(List.mem_filter.1 hm).2;rw [hhit,Bool.and_eq_true,Bool.and_eq_true,decide_eq_true_eq,decide_eq_true_eq] at hh;obtain ⟨hp,_,_,_,_,f,hf⟩:=hU i hig;rw [hh.2.1] at hf;refine ⟨(P i).2,f,U i,by rw [hp,← hh.1],?_,(Rg _ _).1 hh.2.2⟩;rw [show ((i+1:Nat):Int)=(i:Int)+1 by omega]
  exact hf
def DS (F:FuncId) (κ e:Nat):Prop:=∀(g:Cz) (a r:Tm),GOk e g→AOk g.length a→∃t b,Ev F [.fv (BL g),.fv a.enc,.fv r.enc,iv ((e:Int) - 5)] (.tuple [Tm.enc t,.bool b])∧TG κ e g a t b
def OU (F:FuncId) (κ e:Nat):Prop:=∀(g:Cz) (a r:Tm),GOk e g→NOk g.length a→∃t b,Ev F [.fv (BL g),.fv a.enc,.fv r.enc,iv ((e:Int) - 5)] (.tuple [Tm.enc t,.bool b])∧TG κ e g a t b
structure TyOk (g:Cz) (e:Nat) (t:Tm):Prop where
 sc:t.sc g.length
 wt:t.wt≤Wg (e - 1)+10
 dp:t.dp≤Dg (e - 1)+3
 gr:Gr 0 e g .z t
def K9 (e:Nat):Prop:=∀(g:Cz) (r:Tm),GOk e g→∃t,Ev 38 [.fv (BL g),.fv r.enc,iv ((e:Int) - 5)] (Tm.enc t)∧TyOk g e t
theorem ML {k:Nat} {a:Tm} (h:NOk k a) (hk:k≤1000) (d:Nat) (hd:d≤10):NOk (k+d) (a.shift d 0):=⟨Gq a d 0 k h.sc (by have:=h.wt;omega),by rw [Fa];exact h.wt,by rw [Fk];exact h.dp⟩
set_option maxRecDepth 20000 in
set_option maxHeartbeats 4000000 in
theorem AcL {e:Nat} (h6:6≤e) (he:e≤10) (hT:K9 6) (hG:DS 39 1 (e - 2)):OU 65 3 e:=by
 intro g a r hg ha;have hlen:=hg.len;have hW2:Wg e=16 * Wg (e - 2):=by
  obtain ⟨f,rfl⟩:∃f,e=f+2:=⟨e - 2,by omega⟩;rw [show f+2=(f+1)+1 by omega,Ln,Ln,show f+1+1 - 2=f by omega];omega
 have hW20:=Lm (e - 2);have hW5:4 * Wg 5≤Wg e:=by rw [← Ln];exact Q7 (by omega)
 have hW10:=NH he;have hDe:Dg e=Dg (e - 2)+20:=by unfold Dg;omega
 have hD5:Dg 5+10≤Dg e:=by unfold Dg;omega
 have hD2:200≤Dg (e - 2):=by unfold Dg;omega
 have hDm:Dg e≤300:=by unfold Dg;omega
 obtain ⟨b,⟨N1,h1⟩,tb⟩:=hT g (r.pick 0) (AW (by omega) hg);have bw:=tb.wt;have bd:=tb.dp;simp only [show 6 - 1=5 from rfl] at bw bd
 have hba:AOk g.length b:=⟨tb.sc,by omega,by omega⟩;have hbm:GOk (e - 2) (g++[(1,b)]):=DE (AW (by omega) hg) tb.sc (by omega) (by omega);obtain ⟨x,p,⟨N2,h2⟩,tx⟩:=hG g b (r.pick 1) (AW (by omega) hg) hba;obtain ⟨c,q,⟨N3,h3⟩,tc⟩:=hG g a (r.pick 2) (AW (by omega) hg) (Bq ha);have hsa:=ML ha (by omega) 1 (by omega);obtain ⟨c2,q2,⟨N4,h4⟩,tc2⟩:=hG (g++[(1,b)]) (a.shift 1 0) (r.pick 2) hbm (by simpa using Bq hsa);have we:BM ((e:Int) - 5 - 2)=((e - 2:Nat):Int) - 5:=by rw [As (by omega) (by omega)];omega
 have hd2:(((e - 2:Nat):Int) - 5)=((e - 2:Nat):Int) - 5:=rfl;have aw:=ha.wt;have ad:=ha.dp;have xw:=tx.wt;have cw:=tc.wt;have c2w:=tc2.wt;have xd:=tx.dp;have cd:=tc.dp;have c2d:=tc2.dp;have c2s:c2.sc (g.length+1):=by simpa using tc2.sc
 by_cases h0:r.n % 3=0
 ·refine ⟨.mk 8 0 [.mk 7 0 [.mk 6 0 [a,b.shift 1 0],c,x]],p && q,⟨N1+N2+N3+200000000000+1,?_⟩,?_,?_,?_,fun hb=>.fst e g a b c x h6 hba tb.gr (tx.gr (KE hb)) (tc.gr (IT hb))⟩
  ·intro n hn;obtain ⟨n,rfl⟩:∃k,n=k+1:=⟨n - 1,by omega⟩;have h1:=h1 n (by omega);have h2:=h2 n (by omega);have h3:=h3 n (by omega);rw [← we] at h2 h3;have p0:=AI (n:=n) (by omega) r 0;have p1:=AI (n:=n) (by omega) r 1;have p2:=AI (n:=n) (by omega) r 2;have hw:=Ar (n:=n) (by omega) r.n (m:=3) (by omega) (by omega);have hsh:=DC n b 1 0 (by omega) (Gp _ _ tb.sc) (by omega) (by omega);have t6:=CF (n:=n) (by omega) 6 [a,b.shift 1 0];have t7:=CF (n:=n) (by omega) 7 [.mk 6 0 [a,b.shift 1 0],c,x];have t8:=CF (n:=n) (by omega) 8 [.mk 7 0 [.mk 6 0 [a,b.shift 1 0],c,x]];rw [h0] at hw;rw [c65];clear h4 tb tx tc tc2 ha hg hG hT hba hbm hsa aw ad xw cw c2w bw xd cd c2d bd c2s;generalize b.shift 1 0=bs at hsh t6 t7 t8 ⊢;generalize r.pick 0=r0 at p0 h1;generalize r.pick 1=r1 at p1 h2;generalize r.pick 2=r2 at p2 h3;obtain ⟨o1,m1,k1⟩:=a;obtain ⟨o2,m2,k2⟩:=b;obtain ⟨o3,m3,k3⟩:=r;obtain ⟨o4,m4,k4⟩:=bs;obtain ⟨o5,m5,k5⟩:=x;obtain ⟨o6,m6,k6⟩:=c;obtain ⟨o7,m7,k7⟩:=r0;obtain ⟨o8,m8,k8⟩:=r1;obtain ⟨o9,m9,k9⟩:=r2;simp only [Tm.n,BL,Arl,Ark,Am,Int.reduceSub,Int.cast_ofNat_Int] at h1 h2 h3 p0 p1 p2 hw hsh t6 t7 t8 ⊢;cases p
   ·simp (maxSteps:=1000000) only [Ks,J0,JW,Jp,J2,JJ,Kl,Ku,Jx,JM,Kr,JI,Jt,JE,JP,Jv,Kh,J3,Jk,Jw,Ji,S65,↓XX,XY,↓reduceIte,Nat.reduceBEq,Nat.reduceAdd,Int.reduceEq,Int.reduceLT,Int.reduceLE,↓Ag p0,↓Ag p1,↓Ag p2,↓A5 h1,↓AG h2,↓Ag hw,↓AG h3,↓A5 hsh,↓DR,↓Ag t6,↓Kd,↓Ag t7,↓ED,↓Ag t8]
    first | exact Ao _ _ | exact AU rfl (by simp) _
   ·simp (maxSteps:=1000000) only [Ks,J0,JW,Jp,J2,JJ,Kl,Ku,Jx,JM,Kr,JI,Jt,JE,JP,Jv,Kh,J3,Jk,Jw,Ji,S65,↓XX,XY,↓reduceIte,Nat.reduceBEq,Nat.reduceAdd,Int.reduceEq,Int.reduceLT,Int.reduceLE,↓Ag p0,↓Ag p1,↓Ag p2,↓A5 h1,↓AG h2,↓Ag hw,↓AG h3,↓A5 hsh,↓DR,↓Ag t6,↓Kd,↓Ag t7,↓ED,↓Ag t8]
    first | exact Ao _ _ | exact AU rfl (by simp) _
  ·exact Gc (by decide) (by decide) (BV (by decide) (by decide) (by decide)) (Vl (by decide) (by decide) (BV (by decide) (by decide) (by decide))
    (Cl (by decide) (by decide) (BV (by decide) (by decide) (by decide)) ha.sc (Gq b 1 0 _ tb.sc (by simp only [show Ah 8 0=0 from rfl,show Ah 7 0=0 from rfl];omega))) tc.sc tx.sc)
  ·rw [wt1,wt3,Ml,Fa];omega
  ·rw [dp1,dp3,OY,Fk];omega
 ·refine ⟨.mk 5 0 [.mk 4 0 [b,c2],x],p && q2,⟨N1+N2+N4+200000000000+1,?_⟩,?_,?_,?_,fun hb=>.app e g a b c2 x h6 hba tb.gr (tx.gr (KE hb)) (tc2.gr (IT hb))⟩
  ·intro n hn;obtain ⟨n,rfl⟩:∃k,n=k+1:=⟨n - 1,by omega⟩;have h1:=h1 n (by omega);have h2:=h2 n (by omega);have h4:=h4 n (by omega);rw [← we] at h2 h4;have p0:=AI (n:=n) (by omega) r 0;have p1:=AI (n:=n) (by omega) r 1;have p2:=AI (n:=n) (by omega) r 2;have hw:=Ar (n:=n) (by omega) r.n (m:=3) (by omega) (by omega);have hsh:=DC n a 1 0 (by omega) (Gp _ _ ha.sc) (by omega) (by omega);have hm:=EY (n:=n) g 1 b (by omega) (by omega);have t4:=CF (n:=n) (by omega) 4 [b,c2];have t5:=CF (n:=n) (by omega) 5 [.mk 4 0 [b,c2],x];rw [c65];clear h3 tb tx tc tc2 ha hg hG hT hba hbm hsa aw ad xw cw c2w bw xd cd c2d bd c2s;generalize a.shift 1 0=sa at hsh h4;generalize r.pick 0=r0 at p0 h1;generalize r.pick 1=r1 at p1 h2;generalize r.pick 2=r2 at p2 h4;generalize r.n % 3=w3 at hw h0;obtain ⟨o1,m1,k1⟩:=a;obtain ⟨o2,m2,k2⟩:=b;obtain ⟨o3,m3,k3⟩:=r;obtain ⟨o4,m4,k4⟩:=sa;obtain ⟨o5,m5,k5⟩:=x;obtain ⟨o6,m6,k6⟩:=c2;obtain ⟨o7,m7,k7⟩:=r0;obtain ⟨o8,m8,k8⟩:=r1;obtain ⟨o9,m9,k9⟩:=r2;simp only [Tm.n,BL,Arl,Ark,Am,Int.reduceSub,Int.cast_ofNat_Int] at h1 h2 h4 p0 p1 p2 hw hsh hm t4 t5 ⊢;cases p
   ·simp (maxSteps:=1000000) only [Ks,J0,JW,Jp,J2,JJ,Kl,Ku,Jx,JM,Kr,JI,Jt,JE,JP,Jv,Kh,J3,Jk,Jw,Ji,S65,↓XX,XY,↓reduceIte,Nat.reduceBEq,Nat.reduceAdd,Int.reduceEq,Int.reduceLT,Int.reduceLE,↓Ag p0,↓Ag p1,↓Ag p2,↓A5 h1,↓AG h2,↓Ag hw,h0,↓AG h4,↓A5 hsh,↓A5 hm,↓DR,↓Ag t4,↓Ag t5]
    first | exact Ao _ _ | exact AU rfl (by simp) _
   ·simp (maxSteps:=1000000) only [Ks,J0,JW,Jp,J2,JJ,Kl,Ku,Jx,JM,Kr,JI,Jt,JE,JP,Jv,Kh,J3,Jk,Jw,Ji,S65,↓XX,XY,↓reduceIte,Nat.reduceBEq,Nat.reduceAdd,Int.reduceEq,Int.reduceLT,Int.reduceLE,↓Ag p0,↓Ag p1,↓Ag p2,↓A5 h1,↓AG h2,↓Ag hw,h0,↓AG h4,↓A5 hsh,↓A5 hm,↓DR,↓Ag t4,↓Ag t5]
    first | exact Ao _ _ | exact AU rfl (by simp) _
  ·exact Cl (by decide) (by decide) (BV (by decide) (by decide) (by decide)) (Cl (by decide) (by decide) (BV (by decide) (by decide) (by decide)) tb.sc c2s) tx.sc
  ·rw [Ml,Ml];omega
  ·rw [OY,OY];omega
set_option maxRecDepth 20000 in
set_option maxHeartbeats 4000000 in
theorem AgW {e:Nat} (he:e≤10) (hT:6≤e→K9 (e - 1)) (hG:6≤e→DS 39 1 (e - 1)):K9 e:=by
 intro g r hg;have hlen:=hg.len;have hk1:=Int.emod_nonneg r.op (show (9:Int)≠0 by decide)
 have hk2:=Int.emod_lt_of_pos r.op (show (0:Int)<9 by decide)
 have hW0:=Lm (e - 1);have hD0:200≤Dg (e - 1):=by unfold Dg;omega
 have hleaf:∀op n:Int,ar op=some 0→op≠1→BW op n→Gr 0 e g .z (.mk op n [])→TyOk g e (.mk op n []):=fun op n h1 h2 h3 h4=>⟨EI h1 h2 h3,by simp only [Tm.wt,Tm.wtL];omega,by simp only [Tm.dp,Tm.dpL];omega,h4⟩;have hpl:=Gi 1 r;have hpd:=SO (r.plainT 1);have c0:(r.op % 9=0∨r.op % 9=1∨e≤5∧(r.op % 9=5∨r.op % 9=6))→∃t,Ev 38 [.fv (BL g),.fv r.enc,iv ((e:Int) - 5)] (Tm.enc t)∧TyOk g e t:=by
  intro hc;refine ⟨.mk 10 0 [],⟨100,fun n hn=>?_⟩,hleaf 10 0 (by decide) (by decide) (BV (by decide) (by decide) (by decide)) (.tnat e g _)⟩;obtain ⟨n,rfl⟩:∃k,n=k+1:=⟨n - 1,by omega⟩;have hw:=Ar (n:=n) (by omega) r.op (m:=9) (by omega) (by omega);have hn4:=L4 (n:=n) (by omega);rw [c38];obtain ⟨o,p,k⟩:=r;simp only [Tm.op] at hw hc;simp only [Am,Ark] at hn4 ⊢;rcases hc with hc | hc | ⟨he5,hc | hc⟩
  ·rw [hc] at hw;by_cases hd:(e:Int) - 5≤0<;>(simp (maxSteps:=1000000) only [↓J5,↓XX,XY,↓reduceIte,Nat.reduceBEq,Nat.reduceAdd,Int.reduceEq,Int.reduceLT,Int.reduceLE,↓Ag hw,hd,↓G3 hn4];first | exact Ao _ _ | exact Be rfl _)
  ·rw [hc] at hw;by_cases hd:(e:Int) - 5≤0<;>(simp (maxSteps:=1000000) only [↓J5,↓XX,XY,↓reduceIte,Nat.reduceBEq,Nat.reduceAdd,Int.reduceEq,Int.reduceLT,Int.reduceLE,↓Ag hw,hd,↓G3 hn4];first | exact Ao _ _ | exact Be rfl _)
  ·rw [hc] at hw;have hd:(e:Int) - 5≤0:=by omega
   simp (maxSteps:=1000000) only [↓J5,↓XX,XY,↓reduceIte,Nat.reduceBEq,Nat.reduceAdd,Int.reduceEq,Int.reduceLT,Int.reduceLE,↓Ag hw,hd,↓MB (show (5:Int)≠0 by decide),show (5:Int).tmod 5=0 from rfl,↓G3 hn4];first | exact Ao _ _ | exact Be rfl _
  ·rw [hc] at hw;have hd:(e:Int) - 5≤0:=by omega
   simp (maxSteps:=1000000) only [↓J5,↓XX,XY,↓reduceIte,Nat.reduceBEq,Nat.reduceAdd,Int.reduceEq,Int.reduceLT,Int.reduceLE,↓Ag hw,hd,↓MB (show (5:Int)≠0 by decide),show (6:Int).tmod 5=1 from rfl,↓G3 hn4];first | exact Ao _ _ | exact Be rfl _
 have c2:(r.op % 9=2∨e≤5∧r.op % 9=7)→∃t,Ev 38 [.fv (BL g),.fv r.enc,iv ((e:Int) - 5)] (Tm.enc t)∧TyOk g e t:=by
  intro hc;refine ⟨.mk 14 0 [],⟨100,fun n hn=>?_⟩,hleaf 14 0 (by decide) (by decide) (BV (by decide) (by decide) (by decide)) (.tty e g _)⟩;obtain ⟨n,rfl⟩:∃k,n=k+1:=⟨n - 1,by omega⟩;have hw:=Ar (n:=n) (by omega) r.op (m:=9) (by omega) (by omega);have hn4:=EM (n:=n) (by omega) 14;rw [c38];obtain ⟨o,p,k⟩:=r;simp only [Tm.op] at hw hc;simp only [Am,Ark] at hn4 ⊢;rcases hc with hc | ⟨he5,hc⟩
  ·rw [hc] at hw;by_cases hd:(e:Int) - 5≤0<;>(simp (maxSteps:=1000000) only [↓J5,↓XX,XY,↓reduceIte,Nat.reduceBEq,Nat.reduceAdd,Int.reduceEq,Int.reduceLT,Int.reduceLE,↓Ag hw,hd,↓Ag hn4];first | exact Ao _ _ | exact Be rfl _)
  ·rw [hc] at hw;have hd:(e:Int) - 5≤0:=by omega
   simp (maxSteps:=1000000) only [↓J5,↓XX,XY,↓reduceIte,Nat.reduceBEq,Nat.reduceAdd,Int.reduceEq,Int.reduceLT,Int.reduceLE,↓Ag hw,hd,↓MB (show (5:Int)≠0 by decide),show (7:Int).tmod 5=2 from rfl,↓Ag hn4];first | exact Ao _ _ | exact Be rfl _
 have c3:(r.op % 9=3∨e≤5∧r.op % 9=8)→∃t,Ev 38 [.fv (BL g),.fv r.enc,iv ((e:Int) - 5)] (Tm.enc t)∧TyOk g e t:=by
  intro hc;refine ⟨.mk 18 0 [r.plainT 1],⟨100,fun n hn=>?_⟩,Gc (by decide) (by decide) (BV (by decide) (by decide) (by decide)) (Gn _ 1 r),by rw [wt1];omega,by rw [dp1];omega,.tlp e g _ r⟩;obtain ⟨n,rfl⟩:∃k,n=k+1:=⟨n - 1,by omega⟩;have hw:=Ar (n:=n) (by omega) r.op (m:=9) (by omega) (by omega);have hp:=KQ 1 n r (by omega) (by omega);have ht:=CF (n:=n) (by omega) 18 [r.plainT 1];rw [c38];generalize r.plainT 1=q at hp ht ⊢;obtain ⟨o,p,k⟩:=r;obtain ⟨o2,p2,k2⟩:=q;simp only [Tm.op] at hw hc;simp only [Am,Arl,Ark] at hp ht ⊢;rcases hc with hc | ⟨he5,hc⟩
  ·rw [hc] at hw;by_cases hd:(e:Int) - 5≤0<;>(simp (maxSteps:=1000000) only [↓J5,↓XX,XY,↓reduceIte,Nat.reduceBEq,Nat.reduceAdd,Int.reduceEq,Int.reduceLT,Int.reduceLE,↓Ag hw,hd,↓Ag hp,↓ED,↓Ag ht];first | exact Ao _ _ | exact Be rfl _)
  ·rw [hc] at hw;have hd:(e:Int) - 5≤0:=by omega
   simp (maxSteps:=1000000) only [↓J5,↓XX,XY,↓reduceIte,Nat.reduceBEq,Nat.reduceAdd,Int.reduceEq,Int.reduceLT,Int.reduceLE,↓Ag hw,hd,↓MB (show (5:Int)≠0 by decide),show (8:Int).tmod 5=3 from rfl,↓Ag hp,↓ED,↓Ag ht];first | exact Ao _ _ | exact Be rfl _
 by_cases h4:r.op % 9=4
 ·refine ⟨.mk 2 0 [],⟨100,fun n hn=>?_⟩,hleaf 2 0 (by decide) (by decide) (by rw [BW,if_pos rfl];omega) (.tu e g _)⟩;obtain ⟨n,rfl⟩:∃k,n=k+1:=⟨n - 1,by omega⟩;have hw:=Ar (n:=n) (by omega) r.op (m:=9) (by omega) (by omega);have hu:=AdC (n:=n) (by omega) 0;rw [c38];obtain ⟨o,p,k⟩:=r;simp only [Tm.op] at hw h4;simp only [Am,Ark] at hu ⊢;rw [h4] at hw;by_cases hd:(e:Int) - 5≤0<;>(simp (maxSteps:=1000000) only [↓J5,↓XX,XY,↓reduceIte,Nat.reduceBEq,Nat.reduceAdd,Int.reduceEq,Int.reduceLT,Int.reduceLE,↓Ag hw,hd,↓Ay hu];first | exact Ao _ _ | exact Be rfl _)
 by_cases hs:r.op % 9≤3∨e≤5
 ·have h:=hk1;by_cases h0:r.op % 9=0∨r.op % 9=1∨e≤5∧(r.op % 9=5∨r.op % 9=6)
  ·exact c0 h0
  by_cases h2:r.op % 9=2∨e≤5∧r.op % 9=7
  ·exact c2 h2
  exact c3 (by omega)
 have he6:6≤e:=by omega
 have hd:¬ (e:Int) - 5≤0:=by omega
 have we:BM ((e:Int) - 5 - 1)=((e - 1:Nat):Int) - 5:=by rw [As (by omega) (by omega)];omega
 have hW10:=NH (e:=e - 1) (by omega);have hW1:Wg (e - 1)=4 * Wg (e - 2):=by
  obtain ⟨f,rfl⟩:∃f,e=f+2:=⟨e - 2,by omega⟩;rw [show f+2 - 1=f+1 by omega,Ln,show f+2 - 2=f by omega]
 have hW2:=Lm (e - 2);have hD1:Dg (e - 1)=Dg (e - 2)+10:=by unfold Dg;omega
 have hDm:Dg (e - 1)≤300:=by unfold Dg;omega
 by_cases h8:r.op % 9=8
 ·obtain ⟨t,b,⟨N1,h1⟩,tt⟩:=hG he6 g (.mk 14 0 []) (r.pick 0) (AW (by omega) hg) ⟨EI (by decide) (by decide) (BV (by decide) (by decide) (by decide)),by simp [Tm.wt,Tm.wtL],by simp [Tm.dp,Tm.dpL]⟩;refine ⟨if b=true then .mk 18 0 [t] else .mk 10 0 [],⟨N1+100,fun n hn=>?_⟩,?_⟩
  ·obtain ⟨n,rfl⟩:∃k,n=k+1:=⟨n - 1,by omega⟩;have hw:=Ar (n:=n) (by omega) r.op (m:=9) (by omega) (by omega);have h1:=h1 n (by omega);rw [← we] at h1;have p0:=AI (n:=n) (by omega) r 0;have t14:=EM (n:=n) (by omega) 14;have t18:=CF (n:=n) (by omega) 18 [t];have hn4:=L4 (n:=n) (by omega);rw [c38];rw [h8] at hw;clear hG hT tt c0 c2 c3 hleaf;generalize r.pick 0=r0 at p0 h1;obtain ⟨o,p,k⟩:=r;obtain ⟨o2,p2,k2⟩:=t;obtain ⟨o3,p3,k3⟩:=r0;simp only [Tm.op] at hw;simp only [Am,BL,Arl,Ark] at h1 p0 t14 t18 hn4 ⊢;cases b
   ·simp only [Bool.false_eq_true,if_false,Am,Ark];simp (maxSteps:=1000000) only [↓J5,↓XX,XY,↓reduceIte,Nat.reduceBEq,Nat.reduceAdd,Int.reduceEq,Int.reduceLT,Int.reduceLE,↓Ag hw,hd,↓Ag t14,↓Ag p0,↓AG h1,↓G3 hn4];first | exact Ao _ _ | exact Be rfl _
   ·simp only [if_true,Am,Ark,Arl];simp (maxSteps:=1000000) only [↓J5,↓XX,XY,↓reduceIte,Nat.reduceBEq,Nat.reduceAdd,Int.reduceEq,Int.reduceLT,Int.reduceLE,↓Ag hw,hd,↓Ag t14,↓Ag p0,↓AG h1,↓ED,↓Ag t18];first | exact Ao _ _ | exact Be rfl _
  ·split
   ·rename_i hb;exact ⟨Gc (by decide) (by decide) (BV (by decide) (by decide) (by decide)) tt.sc,by have:=tt.wt;rw [wt1];omega,by have:=tt.dp;rw [dp1];omega,.tlift e g _ t he6 (tt.gr hb)⟩
   ·exact hleaf 10 0 (by decide) (by decide) (BV (by decide) (by decide) (by decide)) (.tnat e g _)
 ·obtain ⟨a,⟨N1,h1⟩,ta⟩:=hT he6 g (r.pick 0) (AW (by omega) hg);have aw:=ta.wt;have ad:=ta.dp;rw [show e - 1 - 1=e - 2 by omega] at aw ad
  obtain ⟨b,⟨N2,h2⟩,tb⟩:=hT he6 (g++[(1,a)]) (r.pick 1) (DE (by rw [show e - 1+1=e by omega];exact hg) ta.sc (by omega) (by omega))
  have bw:=tb.wt;have bd:=tb.dp;rw [show e - 1 - 1=e - 2 by omega] at bw bd
  have bs:b.sc (g.length+1):=by simpa using tb.sc
  have hop:∀op:Int,op=3∨op=6→TyOk g e (.mk op 0 [a,b]):=by
   rintro op (rfl | rfl)
   ·exact ⟨Cl (by decide) (by decide) (BV (by decide) (by decide) (by decide)) ta.sc bs,by rw [Ml];omega,by rw [OY];omega,.tpi e g _ a b _ (by simp) he6 (by omega) ⟨ta.sc,by omega,by omega⟩ ta.gr tb.gr⟩
   ·exact ⟨Cl (by decide) (by decide) (BV (by decide) (by decide) (by decide)) ta.sc bs,by rw [Ml];omega,by rw [OY];omega,.tpi e g _ a b _ (by simp) he6 (by omega) ⟨ta.sc,by omega,by omega⟩ ta.gr tb.gr⟩
  obtain ⟨oo,hoo⟩:∃oo:Int,oo=3∧(r.op % 9=5∨r.op % 9=6)∨oo=6∧r.op % 9=7:=by
   by_cases h7:r.op % 9=7
   ·exact ⟨6,.inr ⟨rfl,h7⟩⟩
   ·exact ⟨3,.inl ⟨rfl,by omega⟩⟩
  refine ⟨.mk oo 0 [a,b],⟨N1+N2+100,fun n hn=>?_⟩,hop oo (by omega)⟩;obtain ⟨n,rfl⟩:∃k,n=k+1:=⟨n - 1,by omega⟩;have hw:=Ar (n:=n) (by omega) r.op (m:=9) (by omega) (by omega);have h1:=h1 n (by omega);have h2:=h2 n (by omega);rw [← we] at h1 h2;have p0:=AI (n:=n) (by omega) r 0;have p1:=AI (n:=n) (by omega) r 1;have t3:=CF (n:=n) (by omega) 3 [a,b];have t6:=CF (n:=n) (by omega) 6 [a,b];have hm:=EY (n:=n) g 1 a (by omega) (by omega);rw [c38];clear hG hT c0 c2 c3 hleaf ta tb hop bs aw ad bw bd;generalize r.pick 0=r0 at p0 h1;generalize r.pick 1=r1 at p1 h2;obtain ⟨o,p,k⟩:=r;obtain ⟨o2,p2,k2⟩:=a;obtain ⟨o3,p3,k3⟩:=b;obtain ⟨o4,p4,k4⟩:=r0;obtain ⟨o5,p5,k5⟩:=r1;simp only [Tm.op] at hw hoo;simp only [Am,BL,Arl,Ark] at h1 h2 p0 p1 t3 t6 hm ⊢;rcases hoo with ⟨rfl,hk | hk⟩ | ⟨rfl,hk⟩
  ·rw [hk] at hw;simp (maxSteps:=1000000) only [↓J5,↓XX,XY,↓reduceIte,Nat.reduceBEq,Nat.reduceAdd,Int.reduceEq,Int.reduceLT,Int.reduceLE,↓Ag hw,hd,↓Ag p0,↓Ag p1,↓A5 h1,↓A5 hm,↓A5 h2,↓DR,↓Ag t3];first | exact Ao _ _ | exact Be rfl _
  ·rw [hk] at hw;simp (maxSteps:=1000000) only [↓J5,↓XX,XY,↓reduceIte,Nat.reduceBEq,Nat.reduceAdd,Int.reduceEq,Int.reduceLT,Int.reduceLE,↓Ag hw,hd,↓Ag p0,↓Ag p1,↓A5 h1,↓A5 hm,↓A5 h2,↓DR,↓Ag t3];first | exact Ao _ _ | exact Be rfl _
  ·rw [hk] at hw;simp (maxSteps:=1000000) only [↓J5,↓XX,XY,↓reduceIte,Nat.reduceBEq,Nat.reduceAdd,Int.reduceEq,Int.reduceLT,Int.reduceLE,↓Ag hw,hd,↓Ag p0,↓Ag p1,↓A5 h1,↓A5 hm,↓A5 h2,↓DR,↓Ag t6];first | exact Ao _ _ | exact Be rfl _
end Idl
end Go.Proofs.Ytkfecngimlcfoaa

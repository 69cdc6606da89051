/- Part 12 of a proof. No statement is proved here. -/
import Derived.Test.YtnenpcghegcnhaaGreatKernelChecksK11
set_option linter.all false
set_option maxRecDepth 20000
set_option maxHeartbeats 16000000
noncomputable section
namespace Go.Proofs.YtnenpcghegcnhaaGreat
namespace Idl
def Bw:Nat:=2000000000000000
structure EnvK (g:A8) (G:List Nat) (D:List Tm) (σ:Nat->Tm):Prop where
 v1:∀i T,i<g.length->g[g.length - 1 - i]?=some (1,T)->T.sc (g.length - 1 - i)/\T.wt<=Bw/\(∃s,HasT G (T.ren fun x=>x+(i+1)) (10+s))/\Sem D (T.sub fun x=>σ (x+(i+1))) (σ i)
 v0:∀i T,i<g.length->g[g.length - 1 - i]?=some (0,T)->T.sc (g.length - 1 - i)/\T.wt<=Bw/\HasT G (T.ren fun x=>x+(i+1)) 1/\∃P j,PT P/\Pars (T.sub fun x=>σ (x+(i+1))) P/\σ i=vT j/\j<D.length/\D[D.length - 1 - j]?=some P
def Fv {t:Tm} {k:Nat} (hst:t.stl) (hsc:t.sc k) (hk:k<=700000) (hw:t.wt<=100) {f:Nat} {u:Tm} {e:Int} (h:AE f t=some (u,e)):u=t:=by
 obtain ⟨f',h'⟩:=FU hst hsc hk (by omega) (by have:=Dz t;omega)
 have:=CA h h'
 simp only [Ah0] at this;exact this.1
def D9 (op n:Int):(Tm.mk op n []).stl:=by rw [Tm.stl,Tm.stlL];exact ⟨⟨⟨fun _ k h=>by simp at h,fun _ k h=>by simp at h,fun _ k h=>by simp at h⟩,fun _ k h=>by simp at h,fun _ k h=>by simp at h⟩,trivial⟩
def qJ {op n:Int} {x:Tm} (h:op≠30/\op≠19/\op≠13/\op≠5/\op≠8/\op≠9) (hx:x.stl):(Tm.mk op n [x]).stl:=by rw [Tm.stl,Tm.stlL,Tm.stlL];exact ⟨⟨⟨by omega,by omega,by omega⟩,by omega,by omega⟩,hx,trivial⟩
def jT {op n:Int} {x y:Tm} (h:op≠30/\op≠19/\op≠13/\op≠5/\op≠8/\op≠9) (hx:x.stl) (hy:y.stl):(Tm.mk op n [x,y]).stl:=by rw [Tm.stl,Tm.stlL,Tm.stlL,Tm.stlL];exact ⟨⟨⟨by omega,by omega,by omega⟩,by omega,by omega⟩,hx,hy,trivial⟩
def P0 (p:Tm):Prop:=p=.mk 15 0 []\/∃op:Int,(op=16\/op=17)/\p=.mk op 0 [.mk 15 0 [],.mk 15 0 []]
def Gm (r:Tm):P0 (r.plainT 1):=by
 have h1:=Int.emod_nonneg r.n (show (4:Int)≠0 by decide)
 have h2:=Int.emod_lt_of_pos r.n (show (0:Int)<4 by decide)
 rw [Tm.plainT];split
 ·exact .inl rfl
 ·exact .inr ⟨_,by omega,rfl⟩
def F0 (t:Tm):Prop:=t=.mk 10 0 []\/t=.mk 14 0 []\/t=.mk 2 0 []\/∃p,P0 p/\t=.mk 18 0 [p]
def N8 {p:Tm} (h:P0 p):p.wt<=3:=by rcases h with rfl | ⟨op,_,rfl⟩<;>simp [Tm.wt,Tm.wtL]
def Mx {p:Tm} (h:F0 p):p.wt<=4:=by
 rcases h with rfl | rfl | rfl | ⟨q,h,rfl⟩
 ·simp [Tm.wt,Tm.wtL]
 ·simp [Tm.wt,Tm.wtL]
 ·simp [Tm.wt,Tm.wtL]
 ·have:=N8 h
  rw [Ll];omega
def Iv {p:Tm} (h:P0 p):p.stl:=by
 rcases h with rfl | ⟨op,ho,rfl⟩
 ·exact D9 _ _
 ·exact jT (by omega) (D9 _ _) (D9 _ _)
def O2 {p:Tm} (h:F0 p):p.stl:=by
 rcases h with rfl | rfl | rfl | ⟨q,h,rfl⟩
 ·exact D9 _ _
 ·exact D9 _ _
 ·exact D9 _ _
 ·exact qJ (by decide) (Iv h)
def lB (k:Nat):(Tm.mk 15 0 []).sc k:=C3
def G5 {p:Tm} (h:P0 p) (k:Nat):p.sc k:=by
 rcases h with rfl | ⟨op,ho,rfl⟩
 ·exact lB k
 ·rcases ho with rfl | rfl<;>exact CR (lB _) (lB _)
def V1 {p:Tm} (h:F0 p) (k:Nat):p.sc k:=by
 rcases h with rfl | rfl | rfl | ⟨q,h,rfl⟩
 ·exact C3
 ·exact C3
 ·exact IG (by decide) (by decide) (by rw [BY,if_pos rfl];omega)
 ·exact FO (G5 h _)
def YY {p:Tm} (h:F0 p) (u:Tm):p.subst 0 0 u=p:=by
 rcases h with rfl | rfl | rfl | ⟨q,h | ⟨op,ho,h⟩,rfl⟩
 ·simp [Tm.subst,Tm.substL]
 ·simp [Tm.subst,Tm.substL]
 ·simp [Tm.subst,Tm.substL]
 ·subst h;simp [Tm.subst,Tm.substL]
 ·subst h;rcases ho with rfl | rfl<;>simp [Tm.subst,Tm.substL]
theorem SD {e:Nat} {g:A8} {a t:Tm} (he:e<6) (h:Gr 3 e g a t) (ho:a.op=10\/a.op=14\/a.op=2):t.wt<=4/\(a.op=14->t.wt<=1):=by
 cases h with
 | num _ _ _ j ha hj=>rw [Pa];omega
 | ult _ _ _ ha=>simp [Tm.wt,Tm.wtL];omega
 | lam _ _ n d c x=>simp [Tm.op] at ho
 | pair _ _ n d c x y=>simp [Tm.op] at ho
 | quo _ _ n d x=>simp [Tm.op] at ho
 | _=>first | omega | simp [Tm.wt,Tm.wtL]
theorem T9 {e:Nat} {g:A8} {a t:Tm} (he:e<6) (h:Gr 4 e g a t) (ho:a.op=15\/a.op=1):t.wt<=1:=by
 cases h with
 | olam _ _ n d c x=>simp [Tm.op] at ho
 | opair _ _ n d c x y=>simp [Tm.op] at ho
 | _=>first | omega | simp [Tm.wt,Tm.wtL]
theorem PI {e:Nat} {g:A8} {t:Tm} (he:e<6) (h:Gr 2 e g (.mk 15 0 []) t):t.wt<=1:=by
 cases h with
 | objc _ _ _ a _ f hn hg ha h1 =>
  have:=Fv (D9 _ _) (lB 0) (by omega) (by simp [Tm.wt,Tm.wtL]) hn
  subst this;exact T9 he h1 (.inl rfl)
def rW {e:Nat} {g:A8} {a t:Tm} (he:e<6) (h:Gr 4 e g a t) (ho:P0 a):t.wt<=3:=by
 rcases ho with rfl | ⟨op,ho,rfl⟩
 ·have:=T9 he h (.inl rfl);omega
 ·have e15:(Tm.mk 15 0 []).shift 1 0=.mk 15 0 []:=by simp [Tm.shift,Tm.shiftL]
  cases h with
  | olam _ _ n d c x h1 =>
   rw [e15] at h1
   have:=PI (by omega) h1
   rw [D1];simp only [Tm.wt,Tm.wtL] at this ⊢;omega
  | opair _ _ n d c x y h1 h2 =>have q1:=PI (by omega) h1;have q2:=PI (by omega) h2;rw [D1];omega
  | _=>first | omega | (simp [Tm.wt,Tm.wtL];done) | (rename_i hh;simp [Tm.op] at hh;omega)
theorem MD {e:Nat} {g:A8} {a t:Tm} (he:e<6) (ha:F0 a) (h:Gr 1 e g a t):t.wt<=4/\(a.op=14->t.wt<=1):=by
 cases h with
 | grow _ _ _ a' _ f hn hg hna h1 =>
  have:=Fv (O2 ha) (V1 ha 0) (by omega) (by have:=Mx ha;omega) hn
  subst this;rcases ha with rfl | rfl | rfl | ⟨p,hp,rfl⟩
  ·exact SD he h1 (.inl rfl)
  ·exact SD he h1 (.inr (.inl rfl))
  ·exact SD he h1 (.inr (.inr rfl))
  ·refine ⟨?_,by simp [Tm.op]⟩;cases h1 with
   | quo _ _ n d x h2 =>
    cases h2 with
    | objc _ _ _ a2 _ f2 hn2 _ _ h3 =>
     have:=Fv (Iv hp) (G5 hp 0) (by omega) (by have:=N8 hp;omega) hn2
     subst this
     have:=rW (by omega) h3 hp
     rw [Ll];omega
   | _=>first | omega | (simp [Tm.wt,Tm.wtL];done) | (rename_i hh;simp [Tm.op] at hh)
def F1 (t:Tm):Prop:=F0 t\/(∃(op:Int) (d c:Tm),(op=3\/op=6)/\F0 d/\F0 c/\t=.mk op 0 [d,c])\/∃p:Tm,(p=.mk 15 0 []\/∃i:Nat,p=.mk 1 i [])/\t=.mk 18 0 [p]
def Fm {t:Tm} (h:F1 t):t.wt<=9:=by
 rcases h with h | ⟨op,d,c,_,hd,hc,rfl⟩ | ⟨p,hp,rfl⟩
 ·have:=Mx h;omega
 ·have:=Mx hd;have:=Mx hc;rw [D1];omega
 ·rcases hp with rfl | ⟨i,rfl⟩<;>simp [Tm.wt,Tm.wtL]
def DH {t:Tm} (h:F1 t):t.stl:=by
 rcases h with h | ⟨op,d,c,ho,hd,hc,rfl⟩ | ⟨p,hp,rfl⟩
 ·exact O2 h
 ·exact jT (by omega) (O2 hd) (O2 hc)
 ·refine qJ (by decide) ?_;rcases hp with rfl | ⟨i,rfl⟩<;>exact D9 _ _
theorem Aam {e:Nat} {g:A8} {a t:Tm} (he:e<6) (ha:F1 a) (hsc:a.sc g.length) (hg:g.length<=1000) (h:Gr 1 e g a t):t.wt<=20:=by
 rcases ha with ha | hab
 ·have:=MD he ha h;omega
 cases h with
 | grow _ _ _ a' _ f hn hgl hna h1 =>
  have:=Fv (DH (.inr hab)) hsc (by omega) (by have:=Fm (.inr hab);omega) hn
  subst this;rcases hab with ⟨op,d,c,ho,hd,hc,rfl⟩ | ⟨p,hp,rfl⟩
  ·have hdw:=Mx hd;have hcw:=Mx hc;rcases ho with rfl | rfl
   ·cases h1 with
    | lam _ _ n _ _ x h2 =>
     have:=(MD (by omega) hc h2).1
     rw [D1];omega
    | _=>first | omega | (simp [Tm.wt,Tm.wtL];done) | (rename_i hh;simp [Tm.op] at hh)
   ·cases h1 with
    | pair _ _ n _ _ x y hx h2 h3 =>have q1:=(MD (by omega) hd h2).1;rw [YY hc] at h3;have q2:=(MD (by omega) hc h3).1;rw [oB,D1];omega
    | _=>first | omega | (simp [Tm.wt,Tm.wtL];done) | (rename_i hh;simp [Tm.op] at hh)
  ·cases h1 with
   | quo _ _ n _ x h2 =>
    have hps:p.sc g.length:=by rw [Tm.sc] at hsc;exact hsc.2.2.1
    cases h2 with
    | objc _ _ _ a2 _ f2 hn2 _ _ h3 =>
     have:=Fv (by rcases hp with rfl | ⟨i,rfl⟩<;>exact D9 _ _) hps (by omega) (by rcases hp with rfl | ⟨i,rfl⟩<;>simp [Tm.wt,Tm.wtL]) hn2
     subst this
     have:=T9 (by omega) h3 (by rcases hp with rfl | ⟨i,rfl⟩<;>simp [Tm.op])
     rw [Ll];omega
   | _=>first | omega | (simp [Tm.wt,Tm.wtL];done) | (rename_i hh;simp [Tm.op] at hh)
theorem t_5 {e:Nat} {g:A8} {a t:Tm} (he:e<6) (h:Gr 0 e g a t):F0 t:=by
 cases h with
 | tnat=>exact .inl rfl
 | tty=>exact .inr (.inl rfl)
 | tu=>exact .inr (.inr (.inl rfl))
 | tlp _ _ _ r=>exact .inr (.inr (.inr ⟨_,Gm r,rfl⟩))
 | _=>omega
theorem sM {e:Nat} {g:A8} {t:Tm} (he:e<6) (h:Gr 1 e g (.mk 14 0 []) t):t=.mk 15 0 []\/∃i:Nat,t=.mk 1 i []:=by
 cases h with
 | grow _ _ _ a' _ f hn hg hna h1 =>
  have:=Fv (D9 _ _) (V1 (.inr (.inl rfl)) 0) (by omega) (by simp [Tm.wt,Tm.wtL]) hn
  subst this;cases h1 with
  | var1 _ _ _ i=>exact .inr ⟨i,rfl⟩
  | tint=>exact .inl rfl
  | uni _ _ _ _ ha _=>simp [Tm.op] at ha
  | _=>first | omega | (rename_i hh;simp [Tm.op] at hh)
theorem sK {g:A8} {a t:Tm} (h:Gr 0 6 g a t):F1 t:=by
 cases h with
 | tnat=>exact .inl (.inl rfl)
 | tty=>exact .inl (.inr (.inl rfl))
 | tu=>exact .inl (.inr (.inr (.inl rfl)))
 | tlp _ _ _ r=>exact .inl (.inr (.inr (.inr ⟨_,Gm r,rfl⟩)))
 | tpi _ _ _ x y op ho h6 hgl hx h1 h2=>exact .inr (.inl ⟨op,x,y,ho,t_5 (by omega) h1,t_5 (by omega) h2,rfl⟩)
 | tlift _ _ _ t h6 h1=>exact .inr (.inr ⟨t,sM (by omega) h1,rfl⟩)
theorem zN {e:Nat} {g:A8} {t:Tm} (he:e<8) (h:Gr 1 e g (.mk 14 0 []) t):t.wt<=60\/∃op x y,t=.mk op 0 [x,y]/\Gr 1 (e - 1) g (.mk 14 0 []) x/\Gr 1 (e - 1) g (.mk 14 0 []) y:=by
 have f14:F0 (.mk 14 0 []):=.inr (.inl rfl);cases h with
 | grow _ _ _ a' _ f hn hg hna h1 =>
  have:=Fv (D9 _ _) (V1 f14 0) (by omega) (by simp [Tm.wt,Tm.wtL]) hn
  subst this;have e1:(Tm.mk 14 0 []).shift 1 0=.mk 14 0 []:=by simp [Tm.shift,Tm.shiftL]
  have e2:(Tm.mk 14 0 []).shift 2 0=.mk 14 0 []:=by simp [Tm.shift,Tm.shiftL]
  cases h1 with
  | fst _ _ _ b c x h6 hb q1 q2 q3 =>have hf:=sK q1;have w1:=Fm hf;have w2:=Aam (by omega) hf hb.sc (by omega) q2;have w3:=(MD (by omega) f14 q3).1;refine .inl ?_;rw [Ll,oB,D1,Bl];simp only [Tm.wt,Tm.wtL];omega
  | app _ _ _ b c x h6 hb q1 q2 q3 =>have hf:=sK q1;have w1:=Fm hf;have w2:=Aam (by omega) hf hb.sc (by omega) q2;rw [e1] at q3;have w3:=(MD (by omega) f14 q3).1;refine .inl ?_;rw [D1,D1];omega
  | recc _ _ _ n z s h6 ha q1 q2 q3 =>have w1:=(MD (by omega) (.inl rfl) q1).1;have w2:=(MD (by omega) f14 q2).1;rw [e2] at q3;have w3:=(MD (by omega) f14 q3).1;refine .inl ?_;rw [wt4,Bl];simp only [Tm.wt,Tm.wtL];omega
  | tfun _ _ _ x y op ho h6 ha q1 q2=>exact .inr ⟨op,x,y,rfl,q1,q2⟩
  | suc _ _ _ n h6 ha q1=>simp [Tm.op] at ha
  | upi _ _ _ x y op ho h6 ha=>simp [Tm.op] at ha
  | _=>first | (left;simp [Tm.wt,Tm.wtL];done) | (rename_i hh;simp [Tm.op] at hh;done) | (rename_i hh _;simp [Tm.op] at hh;done)
def s_6 {g:A8} {t:Tm} (h:Gr 1 6 g (.mk 14 0 []) t):t.wt<=60:=by
 rcases zN (by omega) h with h | ⟨op,x,y,rfl,h1,h2⟩
 ·exact h
 ·have w1:=(MD (by omega) (.inr (.inl rfl)) h1).1;have w2:=(MD (by omega) (.inr (.inl rfl)) h2).1;rw [D1];omega
def s_7 {g:A8} {t:Tm} (h:Gr 1 7 g (.mk 14 0 []) t):t.wt<=130/\t.dp<=100:=by
 rcases zN (by omega) h with h | ⟨op,x,y,rfl,h1,h2⟩
 ·exact ⟨by omega,by have:=Dz t;omega⟩
 ·have w1:=s_6 h1;have w2:=s_6 h2
  have:=Dz x
  have:=Dz y
  rw [D1,Ly];omega
theorem t_7 {g:A8} {t:Tm} (h:Gr 0 7 g .z t):t.wt<=100:=by
 cases h with
 | tnat=>simp [Tm.wt,Tm.wtL]
 | tty=>simp [Tm.wt,Tm.wtL]
 | tu=>simp [Tm.wt,Tm.wtL]
 | tlp _ _ _ r=>have:=N8 (Gm r);rw [Ll];omega
 | tpi _ _ _ x y op ho h6 hgl hx h1 h2 =>
  have:=Fm (sK h1)
  have:=Fm (sK h2)
  rw [D1];omega
 | tlift _ _ _ t h6 h1 =>
  have:=s_6 h1
  rw [Ll];omega
def gb1 (a:FV):Nh 400 [.ext 0] 0 [.row [.fv a] false]=true:=Qp [a]
def ob1 (a:FV):Yn 1 [.row [.fv a] false]=true:=QB [a]
def nY (a a':FV):OneX [.row [.fv a] false] [.row [.fv a'] false]:=⟨gb1 ..,rfl,rfl,ob1 ..⟩
def wD {ks:List Bool} (hks:∀b∈ks,b=false) {ih:Ai} {f:FuncId} {a0:IV} {x0:FV} {args:List IV} {vs:List FV} {w:FV} {ext ext':List Blk} (h0:Bg a0=some x0) (hz:Bx args=some vs) (X:OneX ext ext') (hr:By (ih f (.fv x0 :: .ptr (.ext 0) 0::vs.map .fv) ⟨[],ext⟩) w ext')
  (own:List (Nat×Blk)) (k:KT (IV×Hp)):A5 (false::true::ks) false false ih f (a0 :: .ptr (.ext 0) 0::args) ⟨own,ext⟩ k=k (.fv w) ⟨own,ext'⟩ [.ext 0] [.ext 0]:=by
 rw [JJ,PL,G6 _ _ _ _ h0,TN,Pg,LW 0 args _ _ _ _ ks hks hz]
 have:=PS (r1:=.ext 0) (rs1:=[]) hr X.g (by rw [X.l,X.l']) (by rw [X.l];exact X.o) own (ih f (.fv x0 :: .ptr (.ext 0) 0::vs.map .fv) ⟨[],[]⟩) [] [] (Ec (false::true::ks) false false ih f (a0 :: .ptr (.ext 0) 0::args) ⟨own,ext⟩ k) k
 refine this.trans ?_;rw [X.l];rfl
def VP {ih:Ai} {f:FuncId} {a b:IV} {x y w:FV} {ext ext':List Blk} (hr:By (ih f [.fv x,.ptr (.ext 0) 0,.fv y] ⟨[],ext⟩) w ext') (X:OneX ext ext') (ha:Bg a=some x) (hb:Bg b=some y) (own:List (Nat×Blk))
  (k:KT (IV×Hp)):A5 [false,true,false] false false ih f [a,.ptr (.ext 0) 0,b] ⟨own,ext⟩ k=k (.fv w) ⟨own,ext'⟩ [.ext 0] [.ext 0]:=wD (ks:=[false]) (by simp) ha (Tn hb) X hr own k
def u5 {ks:List Bool} (hks:∀b∈ks,b=false) {ih:Ai} {f:FuncId} {a0:IV} {x0:FV} {args:List IV} {vs:List FV} {w:FV} {s:Nat} {st st':List FV} {own:List (Nat×Blk)} (h0:Bg a0=some x0) (hz:Bx args=some vs) (hl:Aq s own=some (.row (st.map .fv) false))
  (hr:By (ih f (.fv x0 :: .ptr (.ext 0) 0::vs.map .fv) ⟨[],[.row (st.map .fv) false]⟩) w [.row (st'.map .fv) false]) (k:KT (IV×Hp)) :
  A5 (false::true::ks) false false ih f (a0 :: .ptr (.own s) 0::args) ⟨own,[]⟩ k=k (.fv w) ⟨AQ s (.row (st'.map .fv) false) own,[]⟩ [.own s] [.own s]:=by
 obtain ⟨v,own',e1,hfz⟩:=hr;obtain ⟨u,hu⟩:=I9 hfz;have hD:Ec (false::true::ks) false false ih f (a0 :: .ptr (.own s) 0::args) ⟨own,[]⟩ k=k (.fv w) ⟨AQ s (.row (st'.map .fv) false) own,[]⟩ [.own s] [.own s]:=by
  have h1:BA (false::true::ks) (a0 :: .ptr (.own s) 0::args)=.ret (.fv x0 :: .ptr (.own s) 0::vs.map .fv,[.own s],[]):=by simp only [BA,frp 4096 (by omega) h0,H8 args ks hks hz,Rd.bind,IV.refs];rfl
  have h2:(B6 4096 [.own s] []).runLog ⟨own,[]⟩ []=some ([(.own s,.row (st.map .fv) false)],[.own s]):=by
   show (B6 (4094+1+1) [.own s] []).runLog ⟨own,[]⟩ []=_
   simp only [B6,hasRef,Bool.false_eq_true,if_false,Rd.runLog,Hp.get,hl,Blk.refs,M7,List.append_nil,List.nil_append]
  have h3:IV.ren.renL (DO [(.own s,.row (st.map .fv) false)]) (.fv x0 :: .ptr (.own s) 0::vs.map .fv)=some (.fv x0 :: .ptr (.ext 0) 0::vs.map .fv):=by simp only [IV.ren.renL,IV.ren,DO,Cu,if_true,Ah2,Option.bind_some,DJ]
  have h4:Bi (DO [(.own s,.row (st.map .fv) false)]) [.row (st.map .fv) false]=some [.row (st.map .fv) false]:=by simp only [Bi,Blk.ren,DJ,Ah2,Option.bind_some]
  have h5:Bi (CF [(.own s,.row (st.map .fv) false)]) [.row (st'.map .fv) false]=some [.row (st'.map .fv) false]:=by simp only [Bi,Blk.ren,DJ,Ah2,Option.bind_some]
  unfold Ec;simp only [h1,Rd.runLog,h2,h3,Ah5,Ah4,h4,CX (Cm 3),CX CB,Ep,Bool.false_eq_true,if_false,e1,hu,Ah2,IV.ren,h5,Ah3,List.length_nil,Bz,List.all_nil,and_self,if_true,List.nil_append,List.zip_cons_cons,List.zip_nil_left];have h6:laid ⟨own,[]⟩ [(.own s,.row (st'.map .fv) false)]=some ⟨AQ s (.row (st'.map .fv) false) own,[]⟩:=by simp only [laid,Hp.get,hl,Hp.set]
  simp only [h6,Il,Cm]
 rw [JJ,PL,G6 _ _ _ _ h0,TN,Pg,LW 0 args _ _ _ _ ks hks hz];simp only [Qj,Ps,cond_false];exact hD
def mA {ih:Ai} {f:FuncId} {x y:IV} {vx vy w:FV} {s:Nat} {a a':FV} {own own':List (Nat×Blk)} (hr:By (ih f [.fv vx,.ptr (.ext 0) 0,.fv vy] ⟨[],[.row [.fv a] false]⟩) w [.row [.fv a'] false])
  (hx:Bg x=some vx) (hy:Bg y=some vy) (hl:Aq s own=some (.row [.fv a] false)) (ho:AQ s (.row [.fv a'] false) own=own') (k:KT (IV×Hp)) :
  A5 [false,true,false] false false ih f [x,.ptr (.own s) 0,y] ⟨own,[]⟩ k=k (.fv w) ⟨own',[]⟩ [.own s] [.own s]:=by
 subst ho;exact u5 (ks:=[false]) (by simp) (st:=[a]) (st':=[a']) hx (Tn hy) hl hr k
def ET (op:Int):Int:=if op<0 then -1 else ([-1,0,0,2,2,2,2,3,1,1,0,0,1,4,0,0,2,2,1,1,2,2,2,1,1,0,2,3,2,2,1]:List Int).getD op.toNat (-1)
def MJ (op:Int):(0<=op/\op<=30)\/op<0\/30<op:=by omega
def KD {op:Int} (h:op<0\/30<op):ET op=-1:=by
 unfold ET;split
 ·rfl
 ·rw [List.getD_eq_getElem?_getD,List.getElem?_eq_none (by simp;omega)];rfl
def aO {P:Int->Prop} (h:∀k:Nat,k<31->P k) {op:Int} (h1:0<=op/\op<=30):P op:=by
 have:=h op.toNat (by omega)
 rwa [Int.toNat_of_nonneg h1.1] at this
def dY {n:Nat} (hn:0<n) (op:Int):BC (SS dt n 45 [iv op] ⟨[],[]⟩) (.int .i64 (ET op)):=by
 obtain ⟨n,rfl⟩:=psc n (by omega);rw [c45];rcases MJ op with h | h
 ·revert op
  refine fun op h=>aO (P:=fun op=>BC (xO (SS dt n) n (iv op) ⟨[],[]⟩) (.int .i64 (ET op))) ?_ h;intro k hk;rcases k with _ | k
  ·simp only [PO,xO,↓XX,XY,↓reduceIte,seval];exact Ay _ _
  iterate 30 (rcases k with _ | k;· simp only [PO,xO,↓XX,XY,↓reduceIte,seval];exact Ay _ _)
  omega
 ·rw [KD h];have q1:op≠1:=by omega
  have q2:op≠2:=by omega
  have q3:op≠3:=by omega
  have q4:op≠4:=by omega
  have q5:op≠5:=by omega
  have q6:op≠6:=by omega
  have q7:op≠7:=by omega
  have q8:op≠8:=by omega
  have q9:op≠9:=by omega
  have q10:op≠10:=by omega
  have q11:op≠11:=by omega
  have q12:op≠12:=by omega
  have q13:op≠13:=by omega
  have q14:op≠14:=by omega
  have q15:op≠15:=by omega
  have q16:op≠16:=by omega
  have q17:op≠17:=by omega
  have q18:op≠18:=by omega
  have q19:op≠19:=by omega
  have q20:op≠20:=by omega
  have q21:op≠21:=by omega
  have q22:op≠22:=by omega
  have q23:op≠23:=by omega
  have q24:op≠24:=by omega
  have q25:op≠25:=by omega
  have q26:op≠26:=by omega
  have q27:op≠27:=by omega
  have q28:op≠28:=by omega
  have q29:op≠29:=by omega
  have q30:op≠30:=by omega
  simp only [PO,xO,↓XX,XY,↓reduceIte,seval,q1,q2,q3,q4,q5,q6,q7,q8,q9,q10,q11,q12,q13,q14,q15,q16,q17,q18,q19,q20,q21,q22,q23,q24,q25,q26,q27,q28,q29,q30];exact Ay _ _
def Mn (op n:Int):Bool:=if op=1 then decide (0<=n) && decide (n<=3000) else if op=2 then decide (0<=n) && decide (n<=2) else if op=26 then decide (0<=n) && decide (n<=4) else if op=25 then true else decide (n=0)
def Yu {n:Nat} (hn:0<n) (op m:Int):BC (SS dt n 79 [iv op,iv m] ⟨[],[]⟩) (.bool (Mn op m)):=by
 obtain ⟨n,rfl⟩:=psc n (by omega);rw [c79];unfold Mn;by_cases h1:op=1
 ·by_cases h0:0<=m<;>simp only [pX,↓XX,XY,↓reduceIte,seval,h0,h1]<;>exact Ay _ _
 by_cases h2:op=2
 ·by_cases h0:0<=m<;>simp only [pX,↓XX,XY,↓reduceIte,seval,h0,h2]<;>exact Ay _ _
 by_cases h3:op=26
 ·by_cases h0:0<=m<;>simp only [pX,↓XX,XY,↓reduceIte,seval,h0,h3]<;>exact Ay _ _
 by_cases h4:op=25
 ·simp only [pX,↓XX,XY,↓reduceIte,seval,h4];exact Ay _ _
 simp only [pX,↓XX,XY,↓reduceIte,seval,h1,h2,h3,h4];exact Ay _ _
def TO {n:Nat} (hn:0<n) (op m:Int):BC (SS dt n 94 [iv op,iv m] ⟨[],[]⟩) (.bool (Mn op m)):=by
 obtain ⟨n,rfl⟩:=psc n (by omega);rw [c94];unfold Mn;by_cases h1:op=1
 ·by_cases h0:0<=m<;>simp only [sA,↓XX,XY,↓reduceIte,seval,h0,h1]<;>exact Ay _ _
 by_cases h2:op=2
 ·by_cases h0:0<=m<;>simp only [sA,↓XX,XY,↓reduceIte,seval,h0,h2]<;>exact Ay _ _
 by_cases h3:op=26
 ·by_cases h0:0<=m<;>simp only [sA,↓XX,XY,↓reduceIte,seval,h0,h3]<;>exact Ay _ _
 by_cases h4:op=25
 ·simp only [sA,↓XX,XY,↓reduceIte,seval,h4];exact Ay _ _
 simp only [sA,↓XX,XY,↓reduceIte,seval,h1,h2,h3,h4];exact Ay _ _
mutual
def Tm.chk:Tm->Int->Int->Int×Int
 | .mk op m l,n,d=>if 3000<n+1\/120<d then (n+1,5) else if ET op≠(l.length:Int)\/Mn op m=false then (n+1,1) else Tm.chkL l (n+1) (d+1)
def Tm.chkL:List Tm->Int->Int->Int×Int
 | [],n,_=>(n,0)
 | t::l,n,d=>if (t.chk n d).2=0 then Tm.chkL l (t.chk n d).1 d else t.chk n d
end
mutual
theorem Ow:∀(t:Tm) (n d:Int),n<=3000->n<=(t.chk n d).1/\(t.chk n d).1<=3001/\((t.chk n d).2=0->(t.chk n d).1=n+t.wt/\(t.chk n d).1<=3000/\d<=120)
 | .mk op m l,n,d,hn=>by
  rw [Tm.chk];split
  ·simp;omega
  ·split
   ·simp;omega
   ·have:=chkL_b l (n+1) (d+1) (by omega)
    simp only [Tm.wt];omega
theorem chkL_b:∀(l:List Tm) (n d:Int),n<=3000->n<=(Tm.chkL l n d).1/\(Tm.chkL l n d).1<=3001/\((Tm.chkL l n d).2=0->(Tm.chkL l n d).1=n+Tm.wtL l/\(Tm.chkL l n d).1<=3000)
 | [],n,d,hn=>by simp [Tm.chkL,Tm.wtL];omega
 | t::l,n,d,hn=>by
  have h1:=Ow t n d hn;rw [Tm.chkL];split
  ·rename_i h0;have h2:=chkL_b l (t.chk n d).1 d (by omega);simp only [Tm.wtL];omega
  ·rename_i h0;simp only [Tm.wtL];omega
end
abbrev HW (op m:Int) (ks:List Tm) (N E:Int):Hp:=⟨[(55574528,.row [iv op,iv m,.fv (.sl (ks.map Tm.enc))] false)],[.row [iv N,iv E] false]⟩
theorem RZ (op:Int):ET op<=4:=by
 rcases MJ op with h | h
 ·exact aO (P:=fun op=>ET op<=4) (by
                         intro k hk;have:∀k:Fin 31,ET (k.val:Int)<=4:=by decide
                         exact this ⟨k,hk⟩) h
 ·rw [KD h];omega
theorem mX:∀(n:Nat) (t:Tm) (N d:Int),2 * t.wt+2<n->0<=N->N<=3000->0<=d->d<=121 ->
  By (SS dt n 53 [.ptr (.ext 0) 0,.fv t.enc,iv d] ⟨[],[.row [iv N,iv 0] false]⟩) (.tuple []) [.row [iv (t.chk N d).1,iv (t.chk N d).2] false]:=by
 intro n
 induction n using Nat.strongRecOn with
 | ind n ih =>
  intro t N d hn h0 hN hd0 hd;obtain ⟨op,m,ks⟩:=t;simp only [Tm.wt] at hn;obtain ⟨n,rfl⟩:=psc n (by omega);rw [c53,An];have hlen:=Dq ks;have hw:BF (N+1)=N+1:=by rw [Az]<;>omega
  have hwd:BF (d+1)=d+1:=by rw [Az]<;>omega
  have ha:=dY (n:=n) (by omega) op;have hb:=Yu (n:=n) (by omega) op m;have hl:∀(N' E':Int) (r:Int×Int),N'<=3000\/E'≠0->0<=N'->(E'=0->ks.length<=4/\r=Tm.chkL ks N' (d+1)/\d<=120)->(E'≠0->r=(N',E')) ->
    By (BK n (fun q20 l21 h22=>Jz l21 h22 (SS dt n) q20) [.ptr (.ext 0) 0,iv d,.ptr (.own 55574528) 0,iv 0] (HW op m ks N' E')) (.tuple []) [.row [iv r.1,iv r.2] false]:=by
   intro N' E' r hN' hN0 h1 h2;refine Be (Q:=fun r'=>By r' _ _) (fun k V H=>∃pre rest N2 E2,ks=pre++rest/\rest.length=k/\V=[.ptr (.ext 0) 0,iv d,.ptr (.own 55574528) 0,iv pre.length]/\H=HW op m ks N2 E2 /\
    0<=N2/\(E2=0->N2<=3000/\ks.length<=4/\r=Tm.chkL rest N2 (d+1)/\d<=120)/\(E2≠0->r=(N2,E2))) ?_ n ks.length _ _ (by omega) ⟨[],ks,N',E',rfl,rfl,rfl,rfl,hN0,fun e=>⟨by rcases hN' with h | h;exact h;exact absurd e h,h1 e⟩,h2⟩
   rintro k V H rec ⟨pre,rest,N2,E2,hk,hkl,rfl,rfl,hN2,hok,hbad⟩ hrec;have hkk:ks.length=pre.length+rest.length:=by rw [hk];simp
   cases rest with
   | nil =>
    have hno:¬ ((pre.length:Int)<ks.length):=by rw [hkk];simp
    have:r=(N2,E2):=by
     by_cases he:E2=0
     ·rw [(hok he).2.2.1,he];rfl
     ·exact hbad he
    rw [this];simp only [JZ,Jz,Jo,S53,↓XX,XY,↓reduceIte,seval,hno];exact EO rfl _ _
   | cons t rest =>
    have hi:(pre.length:Int)<ks.length:=by rw [hkk];simp;omega
    by_cases he:E2=0
    ·subst he;obtain ⟨hb1,hb2,hr,hd2⟩:=hok rfl;have hg:=B2 hk;have htw:=Cb (t:=t) (l:=ks) (by rw [hk];simp);have hc:=ih n (by omega) t N2 (d+1) (by omega) hN2 hb1 (by omega) (by omega);have hcb:=Ow t N2 (d+1) hb1;have hwi:BF ((pre.length:Int)+1)=((pre++[t]).length:Int):=(Az (by omega) (by omega)).trans (by simp);rw [Tm.chkL] at hr;have h9:=hrec rest.length [.ptr (.ext 0) 0,iv d,.ptr (.own 55574528) 0,iv (pre++[t]).length] (HW op m ks (t.chk N2 (d+1)).1 (t.chk N2 (d+1)).2) (by simp only [Ah3] at hkl;omega)
      ⟨pre++[t],rest,_,_,by rw [hk];simp,rfl,rfl,rfl,by omega,fun e=>⟨(hcb.2.2 e).2.1,hb2,by rw [hr,if_pos e],hd2⟩,fun e=>by rw [hr,if_neg e]⟩
     generalize t.chk N2 (d+1)=q at hc h9;obtain ⟨o,p,l⟩:=t;rw [An] at hc;simp only [JZ,Jz,Jo,S53,↓XX,XY,↓reduceIte,seval,hi,↓Br (AO hg) (Bm _ _ _),↓Cd,hwd,↓IM hc (yK _ _ _ _),hwi];exact h9
    ·rw [hbad he];simp only [JZ,Jz,Jo,S53,↓XX,XY,↓reduceIte,seval,hi,he];exact EO rfl _ _
  rw [Tm.chk];by_cases c1:3000<N+1
  ·have hx:=hl (N+1) 5 (N+1,5) (.inr (by decide)) (by omega) (fun e=>absurd e (by decide)) (fun _=>rfl);rw [if_pos (.inl c1)];simp only [↓cV,↓XX,XY,↓reduceIte,seval,hw,c1];exact hx
  ·by_cases c2:120<d
   ·have hx:=hl (N+1) 5 (N+1,5) (.inr (by decide)) (by omega) (fun e=>absurd e (by decide)) (fun _=>rfl);rw [if_pos (.inr c2)];simp only [↓cV,↓XX,XY,↓reduceIte,seval,hw,c1,c2];exact hx
   ·rw [if_neg (by omega)];by_cases c3:ET op=(ks.length:Int)
    ·have hx1:=hl (N+1) 1 (N+1,1) (.inr (by decide)) (by omega) (fun e=>absurd e (by decide)) (fun _=>rfl);have hk4:=RZ op;have hx0:=hl (N+1) 0 (Tm.chkL ks (N+1) (d+1)) (.inl (by omega)) (by omega) (fun _=>⟨by omega,rfl,by omega⟩) (fun e=>absurd rfl e);cases hnb:Mn op m
     ·rw [hnb] at hb;rw [if_pos (.inr rfl)];simp only [↓cV,↓XX,XY,↓reduceIte,seval,hw,c1,c2,↓Ar ha,c3,↓Ag hb];exact hx1
     ·rw [hnb] at hb;rw [if_neg (by simp [c3])];simp only [↓cV,↓XX,XY,↓reduceIte,seval,hw,c1,c2,↓Ar ha,c3,↓Ag hb];exact hx0
    ·have hx1:=hl (N+1) 1 (N+1,1) (.inr (by decide)) (by omega) (fun e=>absurd e (by decide)) (fun _=>rfl);rw [if_pos (.inl c3)];simp only [↓cV,↓XX,XY,↓reduceIte,seval,hw,c1,c2,↓Ar ha,c3];exact hx1
theorem Sl {n:Nat} (t:Tm) (hn:2 * t.wt+3<n):BC (SS dt n 21 [.fv t.enc] ⟨[],[]⟩) (.int .i64 (t.chk 0 1).2):=by
 obtain ⟨n,rfl⟩:=psc n (by omega);rw [c21];have h:=mX n t 0 1 (by omega) (by omega) (by omega) (by omega) (by omega);generalize t.chk 0 1=q at h;obtain ⟨op,m,ks⟩:=t;rw [An] at h ⊢;have c2:=fun k=>lR (k:=k) h (x:=.fv (.agg [.int .i64 op,.int .i64 m,.sl (ks.map Tm.enc)])) (y:=iv 1) (s:=22021121) rfl rfl
  (own:=[(22020096,.row [iv op,iv m,.fv (.sl (ks.map Tm.enc))] false),(22021121,.row [iv 0,iv 0] false)])
  (own':=[(22020096,.row [iv op,iv m,.fv (.sl (ks.map Tm.enc))] false),(22021121,.row [iv q.1,iv q.2] false)]) (by simp [Aq]) (by simp [AQ])
 simp only [S21,↓XX,XY,↓reduceIte,seval,↓c2];exact Ay _ _
theorem R5 (s:Nat) (h:Hp) (k:KT (IV×Hp)):AA (Lq EE 140 [(0,.fv (.int .i64 (-1))),(1,.fv (.int .i64 0)),(2,.fv (.int .i64 0)),(3,.fv (.int .i64 2)),(4,.fv (.int .i64 2)),(5,.fv (.int .i64 2)),(6,.fv (.int .i64 2)),(7,.fv (.int .i64 3)),(8,.fv (.int .i64 1)),(9,.fv (.int .i64 1)),(10,.fv (.int .i64 0)),(11,.fv (.int .i64 0)),(12,.fv (.int .i64 1)),(13,.fv (.int .i64 4)),(14,.fv (.int .i64 0)),(15,.fv (.int .i64 0)),(16,.fv (.int .i64 2)),(17,.fv (.int .i64 2)),(18,.fv (.int .i64 1)),(19,.fv (.int .i64 1)),(20,.fv (.int .i64 2)),(21,.fv (.int .i64 2)),(22,.fv (.int .i64 2)),(23,.fv (.int .i64 1)),(24,.fv (.int .i64 1)),(25,.fv (.int .i64 0)),(26,.fv (.int .i64 2)),(27,.fv (.int .i64 3)),(28,.fv (.int .i64 2)),(29,.fv (.int .i64 2)),(30,.fv (.int .i64 1))]) s h k=k (.fv (.agg [.int .i64 (-1),.int .i64 0,.int .i64 0,.int .i64 2,.int .i64 2,.int .i64 2,.int .i64 2,.int .i64 3,.int .i64 1,.int .i64 1,.int .i64 0,.int .i64 0,.int .i64 1,.int .i64 4,.int .i64 0,.int .i64 0,.int .i64 2,.int .i64 2,.int .i64 1,.int .i64 1,.int .i64 2,.int .i64 2,.int .i64 2,.int .i64 1,.int .i64 1,.int .i64 0,.int .i64 2,.int .i64 3,.int .i64 2,.int .i64 2,.int .i64 1])) h [] []:=by
 have:Lq EE 140 [(0,.fv (.int .i64 (-1))),(1,.fv (.int .i64 0)),(2,.fv (.int .i64 0)),(3,.fv (.int .i64 2)),(4,.fv (.int .i64 2)),(5,.fv (.int .i64 2)),(6,.fv (.int .i64 2)),(7,.fv (.int .i64 3)),(8,.fv (.int .i64 1)),(9,.fv (.int .i64 1)),(10,.fv (.int .i64 0)),(11,.fv (.int .i64 0)),(12,.fv (.int .i64 1)),(13,.fv (.int .i64 4)),(14,.fv (.int .i64 0)),(15,.fv (.int .i64 0)),(16,.fv (.int .i64 2)),(17,.fv (.int .i64 2)),(18,.fv (.int .i64 1)),(19,.fv (.int .i64 1)),(20,.fv (.int .i64 2)),(21,.fv (.int .i64 2)),(22,.fv (.int .i64 2)),(23,.fv (.int .i64 1)),(24,.fv (.int .i64 1)),(25,.fv (.int .i64 0)),(26,.fv (.int .i64 2)),(27,.fv (.int .i64 3)),(28,.fv (.int .i64 2)),(29,.fv (.int .i64 2)),(30,.fv (.int .i64 1))]=Idl.val (.fv (.agg [.int .i64 (-1),.int .i64 0,.int .i64 0,.int .i64 2,.int .i64 2,.int .i64 2,.int .i64 2,.int .i64 3,.int .i64 1,.int .i64 1,.int .i64 0,.int .i64 0,.int .i64 1,.int .i64 4,.int .i64 0,.int .i64 0,.int .i64 2,.int .i64 2,.int .i64 1,.int .i64 1,.int .i64 2,.int .i64 2,.int .i64 2,.int .i64 1,.int .i64 1,.int .i64 0,.int .i64 2,.int .i64 3,.int .i64 2,.int .i64 2,.int .i64 1])):=by kernel_rfl
 rw [this];exact gen_val' _ _ _ _
theorem ZZ {n:Nat} {op:Int} (h:op<0\/30<op):BC (SS dt (n+1) 93 [iv op] ⟨[],[]⟩) (.int .i64 (-1)):=by
 rw [c93];by_cases h1:op<0
 ·simp only [Tg,S93,↓XX,XY,↓reduceIte,seval,↓R5,h1];exact Ay _ _
 ·have h2:31<=op:=by omega
  simp only [Tg,S93,↓XX,XY,↓reduceIte,seval,↓R5,h1,h2];exact Ay _ _
def d7 (k:Int) (o:Option (IV×Hp)):Bool:=match o with
 | some (.fv (.int .i64 m),⟨_,[]⟩)=>decide (m=k)
 | _=>false
theorem cU {k:Int} {o:Option (IV×Hp)} (h:d7 k o=true):BC o (.int .i64 k):=by
 unfold d7 at h;split at h
 ·have:=of_decide_eq_true h
  subst this;exact Ay _ _
 ·cases h
theorem bI {n:Nat} (hn:0<n) (op:Int):BC (SS dt n 93 [iv op] ⟨[],[]⟩) (.int .i64 (ET op)):=by
 obtain ⟨n,rfl⟩:=psc n (by omega);rcases MJ op with h | h
 ·revert op
  refine fun op h=>aO (P:=fun op=>BC (SS dt (n+1) 93 [iv op] ⟨[],[]⟩) (.int .i64 (ET op))) ?_ h;intro k hk
  iterate 31 (rcases k with _ | k;· exact cU (by kernel_rfl))
  omega
 ·rw [KD h];exact ZZ h
abbrev HC (op m:Int) (ks:List Tm) (N:Int):Hp:=⟨[(83886080,.row [iv op,iv m,.fv (.sl (ks.map Tm.enc))] false)],[.row [iv N] false]⟩
theorem V4 {base rm:List Nat} {vals:List IV} {own:List (Nat×Blk)} {a:FV} (hb:rm.any base.contains=false) (hf:AS rm vals own []=true) (k:Hp->Option (IV×Hp)) :
  Bo base rm vals ⟨own,[.row [.fv a] false]⟩ k=k ⟨Hf rm vals own [],[.row [.fv a] false]⟩:=Zg (by intro s;simp [Blk.refs,IV.refs.refsL,IV.refs]) hb hf k
theorem Yf:∀(n:Nat) (t:Tm) (N d:Int),2 * t.wt+2<n->0<=N->N<=3000->0<=d->d<=121 ->
  By (SS dt n 80 [.fv t.enc,.ptr (.ext 0) 0,iv d] ⟨[],[.row [iv N] false]⟩) (.int .i64 (t.chk N d).2) [.row [iv (t.chk N d).1] false]:=by
 intro n
 induction n using Nat.strongRecOn with
 | ind n ih =>
  intro t N d hn h0 hN hd0 hd;obtain ⟨op,m,ks⟩:=t;simp only [Tm.wt] at hn;obtain ⟨n,rfl⟩:=psc n (by omega);rw [c80,An];have hlen:=Dq ks;have hw:BF (N+1)=N+1:=by rw [Az]<;>omega
  have hwd:BF (d+1)=d+1:=by rw [Az]<;>omega
  have ha:=bI (n:=n) (by omega) op;have hb:=TO (n:=n) (by omega) op m;rw [Tm.chk];by_cases c1:3000<N+1
  ·rw [if_pos (.inl c1)];simp only [↓Uf,↓XX,XY,↓reduceIte,seval,hw,c1];exact AK _ _ _
  by_cases c2:120<d
  ·rw [if_pos (.inr c2)];simp only [↓Uf,↓XX,XY,↓reduceIte,seval,hw,c1,c2];exact AK _ _ _
  rw [if_neg (by omega)];by_cases c3:ET op=(ks.length:Int)
  ·cases hnb:Mn op m
   ·rw [hnb] at hb;rw [if_pos (.inr rfl)];simp only [↓Uf,↓XX,XY,↓reduceIte,seval,hw,c1,c2,↓Ar ha,c3,↓Ag hb];exact AK _ _ _
   ·rw [hnb] at hb;have hk4:=RZ op;rw [if_neg (by simp [c3])];simp only [QF,Qr,S80,↓XX,XY,↓reduceIte,seval,hw,c1,c2,↓Ar ha,c3,↓Ag hb,↓V4,↓AJ,XD,heldB,AS,XE];refine Be (Q:=fun r'=>By r' _ _) (fun k V H=>∃pre rest N2,ks=pre++rest/\rest.length=k/\V=[.ptr (.ext 0) 0,iv d,.fv (.sl (ks.map Tm.enc)),iv ks.length,iv pre.length]/\H=HC op m ks N2 /\
     0<=N2/\N2<=3000/\Tm.chkL rest N2 (d+1)=Tm.chkL ks (N+1) (d+1)) ?_ n ks.length _ _ (by omega) ⟨[],ks,N+1,rfl,rfl,rfl,rfl,by omega,by omega,rfl⟩
    rintro k V H rec ⟨pre,rest,N2,hk,hkl,rfl,rfl,hN2,hN3,hr⟩ hrec;have hkk:ks.length=pre.length+rest.length:=by rw [hk];simp
    cases rest with
    | nil =>
     have hno:¬ ((pre.length:Int)<ks.length):=by rw [hkk];simp
     rw [<- hr];simp only [↓Uf,↓XX,XY,↓reduceIte,seval,hno,Tm.chkL];exact AK _ _ _
    | cons t rest =>
     have hi:(pre.length:Int)<ks.length:=by rw [hkk];simp;omega
     have hg:=B2 hk;have htw:=Cb (t:=t) (l:=ks) (by rw [hk];simp);have hc:=ih n (by omega) t N2 (d+1) (by omega) hN2 hN3 (by omega) (by omega);have hcb:=Ow t N2 (d+1) hN3;have hwi:BF ((pre.length:Int)+1)=((pre++[t]).length:Int):=(Az (by omega) (by omega)).trans (by simp);rw [Tm.chkL] at hr;rw [<- hr];have h9:=fun e=>hrec rest.length [.ptr (.ext 0) 0,iv d,.fv (.sl (ks.map Tm.enc)),iv ks.length,iv (pre++[t]).length] (HC op m ks (t.chk N2 (d+1)).1) (by simp only [Ah3] at hkl;omega)
      ⟨pre++[t],rest,_,by rw [hk];simp,rfl,rfl,rfl,by omega,(hcb.2.2 e).2.1,by rw [<- hr,if_pos e]⟩
     rw [<- hr] at h9;generalize t.chk N2 (d+1)=q at hc h9 ⊢;obtain ⟨q1,q2⟩:=q;simp only at hc h9 ⊢;obtain ⟨o,p,l⟩:=t;rw [An] at hc;by_cases he:q2=0
     ·subst he;simp only [if_true] at h9 ⊢;simp only [↓Uf,↓XX,XY,↓reduceIte,seval,hi,↓Br (AO hg) (Bm _ _ _),↓Cd,hwd,↓VP hc (nY _ _),hwi,↓V4,↓AJ,XD,heldB,AS,XE];exact h9 trivial
     ·rw [if_neg he];simp only [↓Uf,↓XX,XY,↓reduceIte,seval,hi,↓Br (AO hg) (Bm _ _ _),↓Cd,hwd,↓VP hc (nY _ _),he];exact AK _ _ _
  ·rw [if_pos (.inl c3)];simp only [↓Uf,↓XX,XY,↓reduceIte,seval,hw,c1,c2,↓Ar ha,c3];exact AK _ _ _
theorem Og {n:Nat} (t:Tm) (hn:2 * t.wt+3<n):BC (SS dt n 54 [.fv t.enc] ⟨[],[]⟩) (.int .i64 (t.chk 0 1).2):=by
 obtain ⟨n,rfl⟩:=psc n (by omega);rw [c54];have h:=Yf n t 0 1 (by omega) (by omega) (by omega) (by omega) (by omega);generalize t.chk 0 1=q at h;obtain ⟨op,m,ks⟩:=t;rw [An] at h ⊢;have c2:=fun k=>mA (k:=k) h (x:=.fv (.agg [.int .i64 op,.int .i64 m,.sl (ks.map Tm.enc)])) (y:=iv 1) (s:=56624129) rfl rfl
  (own:=[(56623104,.row [iv op,iv m,.fv (.sl (ks.map Tm.enc))] false),(56624129,.row [iv 0] false)])
  (own':=[(56623104,.row [iv op,iv m,.fv (.sl (ks.map Tm.enc))] false),(56624129,.row [iv q.1] false)]) (by simp [Aq]) (by simp [AQ])
 simp only [S54,↓XX,XY,↓reduceIte,seval,↓c2];exact Ay _ _
structure OkT (P:Tm):Prop where
 pt:PT P
 w:P.wt<=3000
 d:P.dp<=120
inductive OK7:List Tm->Tm->Tm->Prop
 | var (g:List Tm) (i:Nat) (P:Tm) (hP:OkT P) (hi:i<g.length) (h:g[g.length - 1 - i]?=some P):OK7 g (.mk 1 (i:Int) []) P
 | oint (g:List Tm) (n:Int):OK7 g (.mk 25 n []) Ek
 | oprim (g:List Tm) (n:Int) (a b:Tm) (ha:OK7 g a Ek) (hb:OK7 g b Ek):OK7 g (.mk 26 n [a,b]) Ek
 | olam (g:List Tm) (n:Int) (a b c:Tm) (hP:OkT (.mk 16 0 [a,c])) (hb:OK7 (g++[a]) b c):OK7 g (.mk 20 n [a,b]) (.mk 16 0 [a,c])
 | oapp (g:List Tm) (n:Int) (f x a c:Tm) (hf:OK7 g f (.mk 16 0 [a,c])) (hx:OK7 g x a):OK7 g (.mk 21 n [f,x]) c
 | opair (g:List Tm) (n:Int) (x y a b:Tm) (hP:OkT (.mk 17 0 [a,b])) (hx:OK7 g x a) (hy:OK7 g y b):OK7 g (.mk 22 n [x,y]) (.mk 17 0 [a,b])
 | ofst (g:List Tm) (n:Int) (x a b:Tm) (hx:OK7 g x (.mk 17 0 [a,b])):OK7 g (.mk 23 n [x]) a
 | osnd (g:List Tm) (n:Int) (x a b:Tm) (hx:OK7 g x (.mk 17 0 [a,b])):OK7 g (.mk 24 n [x]) b
 | oif (g:List Tm) (n:Int) (c x y a:Tm) (hc:OK7 g c Ek) (hx:OK7 g x a) (hy:OK7 g y a):OK7 g (.mk 27 n [c,x,y]) a
 | olet (g:List Tm) (n:Int) (x y a b:Tm) (hx:OK7 g x a) (hy:OK7 (g++[a]) y b):OK7 g (.mk 28 n [x,y]) b
 | ofix (g:List Tm) (n:Int) (a x:Tm) (hP:OkT a) (hx:OK7 (g++[a]) x a):OK7 g (.mk 29 n [a,x]) a
def uI:EE.T 28=some ⟨1,24,.slice 67,[.nils]⟩:=by kernel_rfl
def sF:EE.T 67=some ⟨4,48,.struct [(0,3),(1,31)],[.fv (.int .i64 0),.fv (.int .i64 0),.fv (.int .i64 0),.nils]⟩:=by kernel_rfl
def oV:SliceT EE 28 4:=⟨_,_,_,_,_,uI,sF,rfl,by decide,by decide⟩
def Px (s:Nat) (h:Hp) (k:KT (IV×Hp)):AA (Am EE 28 0 []) s h k=k (.clip []) h [] []:=Cx uI sF (by decide) (cells:=[]) rfl k
def PD (s0 o n:Int) (ks:List FV) (s:Nat) (h:Hp) (k:KT (IV×Hp)):AA (Am EE 28 1 [(0,.fv (.agg [.int .i64 s0,.int .i64 o,.int .i64 n,.sl ks]))]) s h k=k (.clip [.agg [.int .i64 s0,.int .i64 o,.int .i64 n,.sl ks]]) h [] [] :=Cx uI sF (by decide) (cells:=[.int .i64 s0,.int .i64 o,.int .i64 n,.sl ks]) rfl k
theorem Dn (g:A8):BG 4 (g.map v1)=true:=by
 cases g with
 | nil=>rfl
 | cons a l=>simp only [Ah5,BG,v1,FV.cells,Ah3,List.length_nil,beq_self_eq_true]
def ZG (g:A8):((g.map v1).all fun e=>e.cells.all FV.one)=true:=by rw [List.all_map,List.all_eq_true];intro p _;rfl
theorem DN {n:Nat} (g:A8) (st:Int) (a:Tm) (hg:g.length<=1000) (hn:0<n):BC (SS dt n 31 [.fv (AM g),iv st,.fv a.enc] ⟨[],[]⟩) (AM (g++[(st,a)])):=by
 obtain ⟨n,rfl⟩:=psc n (by omega);rw [c31];rw [AM,AM,List.map_append,Ah5,Ah4];cases g with
 | nil =>have h0:=fun {β:Type}=>dZ (β:=β) (E:=EE) oV (.sl []) (s0:=.clip []) (.inr rfl);have happ:=fun {β:Type}=>HA (β:=β) oV (.clip [v1 (st,a)]) (Dn [(st,a)]) rfl (by simp) (s0:=.clip []) (.inr rfl);obtain ⟨o,p,k⟩:=a;simp only [v1,Tm.op,Tm.n,Tm.kids] at happ ⊢;rw [An];simp only [S31,↓XX,XY,↓reduceIte,seval,↓Px,↓h0,↓PD,↓happ];exact Bp rfl _
 | cons t g =>have h0:=fun {β:Type}=>HA (β:=β) oV (.sl ((t::g).map v1)) (Dn (t::g)) rfl (by simp at hg ⊢;omega) (s0:=.clip []) (.inr rfl);have happ:=fun {β:Type}=>NQ (β:=β) oV (es:=(t::g).map v1) (es2:=[v1 (st,a)]) (.clip _) (Dn [(st,a)]) (Dn (t::g)) (ZG [(st,a)]) (by simp at hg ⊢;omega);obtain ⟨o,p,k⟩:=a;simp only [Ah5,List.length_map,Ah3,List.length_nil,List.cons_append] at h0 happ ⊢;simp only [v1,Tm.op,Tm.n,Tm.kids] at h0 happ ⊢;rw [An];simp only [S31,↓XX,XY,↓reduceIte,seval,↓Px,↓h0,↓PD,↓happ,GZ];exact Bp rfl _
def Lk {n:Nat} (hn:1<n):BC (SS dt n 64 [] ⟨[],[]⟩) (Tm.mk 10 0 []).enc:=by obtain ⟨n,rfl⟩:=psc n (by omega);rw [c64];have t:=AY (n:=n) (by omega) 10;rw [An] at t ⊢;simp only [S64,↓XX,XY,↓reduceIte,seval,↓Ag t];exact Ay _ _
theorem tY {n:Nat} (g:A8) (st:Int) (a:Tm) (hg:g.length<=100000) (hn:0<n):BC (SS dt n 74 [.fv (AM g),iv st,.fv a.enc] ⟨[],[]⟩) (AM (g++[(st,a)])):=by
 obtain ⟨n,rfl⟩:=psc n (by omega);rw [c74];rw [AM,AM,List.map_append,Ah5,Ah4];cases g with
 | nil =>have h0:=fun {β:Type}=>dZ (β:=β) (E:=EE) oV (.sl []) (s0:=.clip []) (.inr rfl);have happ:=fun {β:Type}=>HA (β:=β) oV (.clip [v1 (st,a)]) (Dn [(st,a)]) rfl (by simp) (s0:=.clip []) (.inr rfl);obtain ⟨o,p,k⟩:=a;simp only [v1,Tm.op,Tm.n,Tm.kids] at happ ⊢;rw [An];simp only [S74,↓XX,XY,↓reduceIte,seval,↓Px,↓h0,↓PD,↓happ];exact Bp rfl _
 | cons t g =>have h0:=fun {β:Type}=>HA (β:=β) oV (.sl ((t::g).map v1)) (Dn (t::g)) rfl (by simp at hg ⊢;omega) (s0:=.clip []) (.inr rfl);have happ:=fun {β:Type}=>NQ (β:=β) oV (es:=(t::g).map v1) (es2:=[v1 (st,a)]) (.clip _) (Dn [(st,a)]) (Dn (t::g)) (ZG [(st,a)]) (by simp at hg ⊢;omega);obtain ⟨o,p,k⟩:=a;simp only [Ah5,List.length_map,Ah3,List.length_nil,List.cons_append] at h0 happ ⊢;simp only [v1,Tm.op,Tm.n,Tm.kids] at h0 happ ⊢;rw [An];simp only [S74,↓XX,XY,↓reduceIte,seval,↓Px,↓h0,↓PD,↓happ,GZ];exact Bp rfl _
theorem AaU {n:Nat} {G:FV} {st:Int} {a:Tm} (ks:List Tm) (hl:ks.length<=1000) (hn:ks.length<n) (h:∀t∈ks,BC (SS dt n 33 [.fv G,iv st,.fv t.enc,.fv a.enc] ⟨[],[]⟩) (.int .i64 0)) :
  BC (SS dt (n+1) 51 [.fv G,iv st,.fv (.sl (ks.map Tm.enc)),.fv a.enc] ⟨[],[]⟩) (.int .i64 0):=by
 rw [c51];obtain ⟨oa,na,ka⟩:=a;simp only [An] at h ⊢;simp only [IB,oI,↓XX,XY,↓reduceIte,seval];refine Be (Q:=fun r=>BC r _) (fun k V H=>∃pre rest,ks=pre++rest/\rest.length=k/\V=[.fv G,iv st,.fv (.sl (ks.map Tm.enc)),.ptr (.own 53477376) 0,iv pre.length] /\
  H=⟨[(53477376,.row [iv oa,iv na,.fv (.sl (ka.map Tm.enc))] false)],[]⟩) ?_ n ks.length _ _ (by omega) ⟨[],ks,rfl,rfl,rfl,rfl⟩
 rintro k V H rec ⟨pre,rest,hk,hkl,rfl,rfl⟩ hrec;have hkk:ks.length=pre.length+rest.length:=by rw [hk];simp
 cases rest with
 | nil =>
  have hno:¬ ((pre.length:Int)<ks.length):=by rw [hkk];simp
  simp only [IB,Mp,oI,↓XX,XY,↓reduceIte,seval,hno];exact Ay _ _
 | cons t rest =>
  have hi:(pre.length:Int)<ks.length:=by rw [hkk];simp;omega
  have hg:=B2 hk;have hc:=h t (by rw [hk];simp);have hwi:BF ((pre.length:Int)+1)=((pre++[t]).length:Int):=(Az (by omega) (by omega)).trans (by simp);simp only [Ah3] at hkl;have h9:=hrec rest.length [.fv G,iv st,.fv (.sl (ks.map Tm.enc)),.ptr (.own 53477376) 0,iv (pre++[t]).length] _ (by omega) ⟨pre++[t],rest,by rw [hk];simp,rfl,rfl,rfl⟩;obtain ⟨o,p,l⟩:=t;rw [An] at hc;simp only [IB,Mp,oI,↓XX,XY,↓reduceIte,seval,hi,↓Br (AO hg) (Bm _ _ _),↓Cd,↓Au hc,hwi];exact h9
def Yy {k:Nat} (hk:k<=1000) {a b:Tm} (ha:a.sc k) (hb:b.sc k) (hda:a.dp<=20000) (hdb:b.dp<=20000):∃w e,Ev 26 [.fv a.enc,.fv b.enc] (.tuple [.bool w,.int .i64 e]) /\
  ((e=5\/e=17)\/e=0/\∃f x f' y,AE f a=some (x,0)/\AE f' b=some (y,0)/\NOk k x/\NOk k y/\w=x.eta.same y.eta):=by
 obtain ⟨x,e,⟨N1,h1⟩,c1,f,hf⟩:=Gu hk ha hda;obtain ⟨y,e',⟨N2,h2⟩,c2,f',hf'⟩:=Gu hk hb hdb;rcases c1 with ⟨rfl,hx⟩ | ⟨he,rfl⟩
 ·rcases c2 with ⟨rfl,hy⟩ | ⟨he',rfl⟩
  ·refine ⟨x.eta.same y.eta,0,⟨N1+N2+100000,fun n hn=>?_⟩,.inr ⟨rfl,f,x,f',y,hf,hf',hx,hy,rfl⟩⟩;obtain ⟨n,rfl⟩:=psc n (by omega);have h1:=h1 n (by omega);have h2:=h2 n (by omega);have xw:=hx.wt;have yw:=hy.wt;have e1:=Lm n x k hx.sc (by omega) (by omega);have e2:=Lm n y k hy.sc (by omega) (by omega);have w1:=(LO x k hx.sc (by omega)).2;have w2:=(LO y k hy.sc (by omega)).2;have s1:=Lz n x.eta y.eta (by omega) (by omega);rw [c26];clear hf hf' hx hy;generalize x.eta.same y.eta=sm at s1 ⊢;generalize x.eta=xe at e1 s1;generalize y.eta=ye at e2 s1;obtain ⟨o1,p1,k1⟩:=a;obtain ⟨o2,p2,k2⟩:=b;obtain ⟨o3,p3,k3⟩:=x;obtain ⟨o4,p4,k4⟩:=y;obtain ⟨o5,p5,k5⟩:=xe;obtain ⟨o6,p6,k6⟩:=ye;simp only [An] at h1 h2 e1 e2 s1 ⊢;simp only [S26,↓XX,XY,↓reduceIte,seval,↓Ar h1,↓Ar h2,↓Ar e1,↓Ar e2,↓Ag s1];exact A6 rfl
  ·have hne:e'≠0:=by omega
   refine ⟨false,e',⟨N1+N2+1,fun n hn=>?_⟩,.inl he'⟩;obtain ⟨n,rfl⟩:=psc n (by omega);have h1:=h1 n (by omega);have h2:=h2 n (by omega);rw [c26];clear hf hf' hx;obtain ⟨o1,p1,k1⟩:=a;obtain ⟨o2,p2,k2⟩:=b;obtain ⟨o3,p3,k3⟩:=x;simp only [An,Tm.z,Ah4] at h1 h2 ⊢;simp only [S26,↓XX,XY,↓reduceIte,seval,↓Ar h1,↓Ar h2,hne];exact A6 rfl
 ·have hne:e≠0:=by omega
  refine ⟨false,e,⟨N1+1,fun n hn=>?_⟩,.inl he⟩;obtain ⟨n,rfl⟩:=psc n (by omega);have h1:=h1 n (by omega);rw [c26];clear hf hf';obtain ⟨o1,p1,k1⟩:=a;obtain ⟨o2,p2,k2⟩:=b;simp only [An,Tm.z,Ah4] at h1 ⊢;simp only [S26,↓XX,XY,↓reduceIte,seval,↓Ar h1,hne];exact A6 rfl
def C8 {P0 Q:Nat->Prop} (c:Nat) (h0:∃N,∀n,N<=n->P0 n) (f:∀n,c<=n->P0 n->Q (n+1)):∃N,∀n,N<=n->Q n:=by obtain ⟨N,h⟩:=h0;refine ⟨N+c+1,fun n hn=>?_⟩;obtain ⟨n,rfl⟩:=psc n (by omega);exact f n (by omega) (h n (by omega))
def Ni {P0 P1 Q:Nat->Prop} (c:Nat) (h0:∃N,∀n,N<=n->P0 n) (h1:∃N,∀n,N<=n->P1 n) (f:∀n,c<=n->P0 n->P1 n->Q (n+1)):∃N,∀n,N<=n->Q n:=by obtain ⟨N,h⟩:=h1;refine C8 (c+N) h0 fun n hn h0=>f n (by omega) h0 (h n (by omega))
def Ss {P0 P1 P2 Q:Nat->Prop} (c:Nat) (h0:∃N,∀n,N<=n->P0 n) (h1:∃N,∀n,N<=n->P1 n) (h2:∃N,∀n,N<=n->P2 n) (f:∀n,c<=n->P0 n->P1 n->P2 n->Q (n+1)):∃N,∀n,N<=n->Q n:=by obtain ⟨N,h⟩:=h2;refine Ni (c+N) h0 h1 fun n hn h0 h1=>f n (by omega) h0 h1 (h n (by omega))
def iY {P0 P1 P2 P3 Q:Nat->Prop} (c:Nat) (h0:∃N,∀n,N<=n->P0 n) (h1:∃N,∀n,N<=n->P1 n) (h2:∃N,∀n,N<=n->P2 n) (h3:∃N,∀n,N<=n->P3 n) (f:∀n,c<=n->P0 n->P1 n->P2 n->P3 n->Q (n+1)):∃N,∀n,N<=n->Q n:=by obtain ⟨N,h⟩:=h3;refine Ss (c+N) h0 h1 h2 fun n hn h0 h1 h2=>f n (by omega) h0 h1 h2 (h n (by omega))
def xW {P0 P1 P2 P3 P4 Q:Nat->Prop} (c:Nat) (h0:∃N,∀n,N<=n->P0 n) (h1:∃N,∀n,N<=n->P1 n) (h2:∃N,∀n,N<=n->P2 n) (h3:∃N,∀n,N<=n->P3 n) (h4:∃N,∀n,N<=n->P4 n) (f:∀n,c<=n->P0 n->P1 n->P2 n->P3 n->P4 n->Q (n+1)):∃N,∀n,N<=n->Q n:=by obtain ⟨N,h⟩:=h4;refine iY (c+N) h0 h1 h2 h3 fun n hn h0 h1 h2 h3=>f n (by omega) h0 h1 h2 h3 (h n (by omega))
def ev6 {P0 P1 P2 P3 P4 P5 Q:Nat->Prop} (c:Nat) (h0:∃N,∀n,N<=n->P0 n) (h1:∃N,∀n,N<=n->P1 n) (h2:∃N,∀n,N<=n->P2 n) (h3:∃N,∀n,N<=n->P3 n) (h4:∃N,∀n,N<=n->P4 n) (h5:∃N,∀n,N<=n->P5 n) (f:∀n,c<=n->P0 n->P1 n->P2 n->P3 n->P4 n->P5 n->Q (n+1)):∃N,∀n,N<=n->Q n:=by obtain ⟨N,h⟩:=h5;refine xW (c+N) h0 h1 h2 h3 h4 fun n hn h0 h1 h2 h3 h4=>f n (by omega) h0 h1 h2 h3 h4 (h n (by omega))
def ev7 {P0 P1 P2 P3 P4 P5 P6 Q:Nat->Prop} (c:Nat) (h0:∃N,∀n,N<=n->P0 n) (h1:∃N,∀n,N<=n->P1 n) (h2:∃N,∀n,N<=n->P2 n) (h3:∃N,∀n,N<=n->P3 n) (h4:∃N,∀n,N<=n->P4 n) (h5:∃N,∀n,N<=n->P5 n) (h6:∃N,∀n,N<=n->P6 n) (f:∀n,c<=n->P0 n->P1 n->P2 n->P3 n->P4 n->P5 n->P6 n->Q (n+1)):∃N,∀n,N<=n->Q n:=by obtain ⟨N,h⟩:=h6;refine ev6 (c+N) h0 h1 h2 h3 h4 h5 fun n hn h0 h1 h2 h3 h4 h5=>f n (by omega) h0 h1 h2 h3 h4 h5 (h n (by omega))
def ev8 {P0 P1 P2 P3 P4 P5 P6 P7 Q:Nat->Prop} (c:Nat) (h0:∃N,∀n,N<=n->P0 n) (h1:∃N,∀n,N<=n->P1 n) (h2:∃N,∀n,N<=n->P2 n) (h3:∃N,∀n,N<=n->P3 n) (h4:∃N,∀n,N<=n->P4 n) (h5:∃N,∀n,N<=n->P5 n) (h6:∃N,∀n,N<=n->P6 n) (h7:∃N,∀n,N<=n->P7 n) (f:∀n,c<=n->P0 n->P1 n->P2 n->P3 n->P4 n->P5 n->P6 n->P7 n->Q (n+1)):∃N,∀n,N<=n->Q n:=by obtain ⟨N,h⟩:=h7;refine ev7 (c+N) h0 h1 h2 h3 h4 h5 h6 fun n hn h0 h1 h2 h3 h4 h5 h6=>f n (by omega) h0 h1 h2 h3 h4 h5 h6 (h n (by omega))
def ev9 {P0 P1 P2 P3 P4 P5 P6 P7 P8 Q:Nat->Prop} (c:Nat) (h0:∃N,∀n,N<=n->P0 n) (h1:∃N,∀n,N<=n->P1 n) (h2:∃N,∀n,N<=n->P2 n) (h3:∃N,∀n,N<=n->P3 n) (h4:∃N,∀n,N<=n->P4 n) (h5:∃N,∀n,N<=n->P5 n) (h6:∃N,∀n,N<=n->P6 n) (h7:∃N,∀n,N<=n->P7 n) (h8:∃N,∀n,N<=n->P8 n) (f:∀n,c<=n->P0 n->P1 n->P2 n->P3 n->P4 n->P5 n->P6 n->P7 n->P8 n->Q (n+1)):∃N,∀n,N<=n->Q n:=by obtain ⟨N,h⟩:=h8;refine ev8 (c+N) h0 h1 h2 h3 h4 h5 h6 h7 fun n hn h0 h1 h2 h3 h4 h5 h6 h7=>f n (by omega) h0 h1 h2 h3 h4 h5 h6 h7 (h n (by omega))
def zI {P0 P1 P2 P3 P4 P5 P6 P7 P8 P9 Q:Nat->Prop} (c:Nat) (h0:∃N,∀n,N<=n->P0 n) (h1:∃N,∀n,N<=n->P1 n) (h2:∃N,∀n,N<=n->P2 n) (h3:∃N,∀n,N<=n->P3 n) (h4:∃N,∀n,N<=n->P4 n) (h5:∃N,∀n,N<=n->P5 n) (h6:∃N,∀n,N<=n->P6 n) (h7:∃N,∀n,N<=n->P7 n) (h8:∃N,∀n,N<=n->P8 n) (h9:∃N,∀n,N<=n->P9 n) (f:∀n,c<=n->P0 n->P1 n->P2 n->P3 n->P4 n->P5 n->P6 n->P7 n->P8 n->P9 n->Q (n+1)):∃N,∀n,N<=n->Q n:=by obtain ⟨N,h⟩:=h9;refine ev9 (c+N) h0 h1 h2 h3 h4 h5 h6 h7 h8 fun n hn h0 h1 h2 h3 h4 h5 h6 h7 h8=>f n (by omega) h0 h1 h2 h3 h4 h5 h6 h7 h8 (h n (by omega))
def EM:=AhY hI<|AhY @Ah5<|AhY @Ah4<|AhY Ek.eq_1<|AhY tyT.eq_1<|AhY natT.eq_1<|AhY Tm.z.eq_1<|AhY @Tm.op.eq_1<|AhY @Tm.kids.eq_1 @Tm.n.eq_1
def SK:Tm:=.mk 11 0 []
def JI (G:FV) (st:Int) (t r:Tm) (e:Int):Prop:=Ev 19 [.fv G,iv st,.fv t.enc] (.tuple [r.enc,.int .i64 e])
def JC (G:FV) (st:Int) (t a:Tm) (e:Int):Prop:=Ev 33 [.fv G,iv st,.fv t.enc,.fv a.enc] (.int .i64 e)
def YQ (G:FV) (st:Int) (ks:List Tm) (a:Tm) (e:Int):Prop:=Ev 51 [.fv G,iv st,.fv (.sl (ks.map Tm.enc)),.fv a.enc] (.int .i64 e)
def JS (G:FV) (st:Int) (t:Tm) (op:Int) (r:Tm) (e:Int):Prop:=Ev 75 [.fv G,iv st,.fv t.enc,iv op] (.tuple [r.enc,.int .i64 e])
def JL (G:FV) (t:Tm) (m e:Int):Prop:=Ev 70 [.fv G,.fv t.enc] (.tuple [.int .i64 m,.int .i64 e])
def JU (G:FV) (a b r:Tm) (e:Int):Prop:=Ev 73 [.fv G,.fv a.enc,.fv b.enc] (.tuple [r.enc,.int .i64 e])
def JD (c r:Tm) (e:Int):Prop:=Ev 91 [.fv c.enc] (.tuple [r.enc,.int .i64 e])
def JO (G:FV) (t r:Tm) (e:Int):Prop:=Ev 49 [.fv G,.fv t.enc] (.tuple [r.enc,.int .i64 e])
def JP (G:FV) (t r:Tm) (e:Int):Prop:=Ev 76 [.fv G,.fv t.enc] (.tuple [r.enc,.int .i64 e])
def JM (G:FV) (t r:Tm) (e:Int):Prop:=Ev 52 [.fv G,.fv t.enc] (.tuple [r.enc,.int .i64 e])
def qZ (G:FV) (t r:Tm) (e:Int):Prop:=Ev 77 [.fv G,.fv t.enc] (.tuple [r.enc,.int .i64 e])
def JR (G:FV) (t r:Tm) (e:Int):Prop:=Ev 78 [.fv G,.fv t.enc] (.tuple [r.enc,.int .i64 e])
def JN (t r:Tm) (e:Int):Prop:=Ev 24 [.fv t.enc] (.tuple [r.enc,.int .i64 e])
def JE (a b:Tm) (w:Bool) (e:Int):Prop:=Ev 26 [.fv a.enc,.fv b.enc] (.tuple [.bool w,.int .i64 e])
def JB (G:FV) (st:Int) (a:Tm) (G1:FV):Prop:=Ev 74 [.fv G,iv st,.fv a.enc] G1
def zQ (a:Tm) (d c:Int) (r:Tm):Prop:=Ev 35 [.fv a.enc,iv d,iv c] r.enc
def Ym (a u r:Tm):Prop:=Ev 32 [.fv a.enc,iv 0,.fv u.enc] r.enc
def JF (c:Tm) (w:Bool):Prop:=Ev 88 [.fv c.enc,iv 0] (.bool w)
def z4 (p r:Tm):Prop:=Ev 92 [.fv p.enc] r.enc
def BP {n:Nat} (hn:0<n) (e:Int):BC (SS dt n 48 [iv e] ⟨[],[]⟩) (.tuple [Tm.z.enc,.int .i64 e]):=by obtain ⟨n,rfl⟩:=psc n (by omega);rw [c48];simp only [Tm.z,An,Ah4];simp only [S48,↓XX,XY,↓reduceIte,seval];exact A6 rfl
def TF {G:FV} {t a b:Tm} {st e:Int}  (s0:e≠0) (h0:JI G st t b e):JC G st t a e:=by refine C8 200 h0 fun n hn h0=>?_;rw [c33];simp only [EM] at h0 ⊢;simp only [xX,↓XX,XY,↓reduceIte,seval,↓Av h0,s0];exact A6 rfl
def nC {G:FV} {t a b:Tm} {st e:Int} {w:Bool}  (s0:e≠0) (h0:JI G st t b 0) (h1:JE b a w e):JC G st t a e:=by refine Ni 200 h0 h1 fun n hn h0 h1=>?_;rw [c33];simp only [EM] at h0 h1 ⊢;simp only [xX,↓XX,XY,↓reduceIte,seval,↓Av h0,↓Ag h1,s0];exact A6 rfl
def j4 {G:FV} {t a b:Tm} {st:Int}  (h0:JI G st t b 0) (h1:JE b a true 0):JC G st t a 0:=by refine Ni 200 h0 h1 fun n hn h0 h1=>?_;rw [c33];simp only [EM] at h0 h1 ⊢;simp only [xX,↓XX,XY,↓reduceIte,seval,↓Av h0,↓Ag h1];exact A6 rfl
def zY {G:FV} {t a b:Tm} {st:Int}  (h0:JI G st t b 0) (h1:JE b a false 0):JC G st t a 11:=by refine Ni 200 h0 h1 fun n hn h0 h1=>?_;rw [c33];simp only [EM] at h0 h1 ⊢;simp only [xX,↓XX,XY,↓reduceIte,seval,↓Av h0,↓Ag h1];exact A6 rfl
def bR {G:FV} {t b:Tm} {st op e:Int}  (s0:e≠0) (h0:JI G st t b e):JS G st t op .z e:=by refine C8 200 h0 fun n hn h0=>?_;have hnone:=BP (n:=n) (by omega) e;rw [c75];simp only [EM] at h0 hnone ⊢;simp only [Tq,S75,↓XX,XY,↓reduceIte,seval,↓Ar hnone,↓Av h0,s0];exact A6 rfl
def ZQ {G:FV} {t b:Tm} {st op:Int}  (s0:b.op=op) (h0:JI G st t b 0):JS G st t op b 0:=by refine C8 200 h0 fun n hn h0=>?_;rw [c75];simp only [EM] at h0 ⊢;simp only [Tq,S75,↓XX,XY,↓reduceIte,seval,↓Av h0,s0];exact A6 rfl
def AeI {G:FV} {t b:Tm} {e:Int}  (s0:e≠0) (h0:JI G 1 t b e):JL G t 0 e:=by refine C8 200 h0 fun n hn h0=>?_;rw [c70];simp only [EM] at h0 ⊢;simp only [S70,↓XX,XY,↓reduceIte,seval,↓Av h0,s0];exact A6 rfl
def Adx {G:FV} {t b:Tm}  (s0:b.op=2) (h0:JI G 1 t b 0):JL G t b.n 0:=by refine C8 200 h0 fun n hn h0=>?_;rw [c70];simp only [EM] at h0 ⊢;simp only [S70,↓XX,XY,↓reduceIte,seval,↓Av h0,s0];exact A6 rfl
def AeO {c r:Tm}  (h0:JF c false) (h1:Ym c SK r):JD c r 0:=by refine Ni 200 h0 h1 fun n hn h0 h1=>?_;have t11:=AY (n:=n) (by omega) 11;rw [c91];simp only [SK] at h1;simp only [EM] at h0 h1 t11 ⊢;simp only [S91,↓XX,XY,↓reduceIte,seval,↓Ag t11,↓Ag h0,↓Av h1];exact A6 rfl
def AdG {G:FV} {a b c:Tm} {G1:FV} {e:Int}  (s0:e≠0) (h0:JB G 0 a G1) (h1:JI G1 0 b c e):JU G a b .z e:=by refine Ni 200 h0 h1 fun n hn h0 h1=>?_;have hnone:=BP (n:=n) (by omega) e;rw [c73];simp only [EM] at h0 h1 hnone ⊢;simp only [S73,↓XX,XY,↓reduceIte,seval,↓Ar hnone,↓Av h0,↓Av h1,s0];exact A6 rfl
def AeZ {G:FV} {a b c r:Tm} {G1:FV} {e:Int}  (h0:JB G 0 a G1) (h1:JI G1 0 b c 0) (h2:JD c r e):JU G a b r e:=by refine Ss 200 h0 h1 h2 fun n hn h0 h1 h2=>?_;rw [c73];simp only [EM] at h0 h1 h2 ⊢;simp only [S73,↓XX,XY,↓reduceIte,seval,↓Av h0,↓Av h1,↓Ar h2];exact A6 rfl
def kx {p q r:Tm}  (h0:zQ p 2 1 q) (h1:Ym q (.mk 12 0 [.mk 1 1 []]) r):z4 p r:=by refine Ni 200 h0 h1 fun n hn h0 h1=>?_;have tv:=jG (n:=n) (by omega) 1;have u12:=CO (n:=n) (by omega) 12 [.mk 1 1 []];rw [c92];simp only [EM] at h0 h1 tv u12 ⊢;simp only [S92,↓XX,XY,↓reduceIte,seval,↓Ar tv,↓Ag u12,↓Av h0,↓Av h1,↓Dx];exact A6 rfl
def tV {G:FV} {m:Int}  : JO G (.mk 25 m []) Ek 0:=by refine ⟨200,fun n hn=>?_⟩;obtain ⟨n,rfl⟩:=psc n (by omega);have t14:=AY (n:=n) (by omega) 14;have t15:=AY (n:=n) (by omega) 15;rw [Xt];simp only [EM] at t14 t15 ⊢;simp only [↓VM,↓XX,XY,↓reduceIte,seval,↓Ag t14,↓Ag t15];exact A6 rfl
def Yp {G:FV} {a b:Tm} {m:Int} {e:Int}  (s0:e≠0) (h0:YQ G 0 [a,b] Ek e):JO G (.mk 26 m [a,b]) .z e:=by refine C8 200 h0 fun n hn h0=>?_;have t14:=AY (n:=n) (by omega) 14;have t15:=AY (n:=n) (by omega) 15;have hnone:=BP (n:=n) (by omega) e;rw [Xt];simp only [EM] at h0 t14 t15 hnone ⊢;simp only [↓VM,↓XX,XY,↓reduceIte,seval,↓Ag t14,↓Ag t15,↓Ar hnone,↓Au h0,s0];exact A6 rfl
def kY {G:FV} {a b:Tm} {m:Int}  (h0:YQ G 0 [a,b] Ek 0):JO G (.mk 26 m [a,b]) Ek 0:=by refine C8 200 h0 fun n hn h0=>?_;have t14:=AY (n:=n) (by omega) 14;have t15:=AY (n:=n) (by omega) 15;rw [Xt];simp only [EM] at h0 t14 t15 ⊢;simp only [↓VM,↓XX,XY,↓reduceIte,seval,↓Ag t14,↓Ag t15,↓Au h0];exact A6 rfl
def bM {G:FV} {a b:Tm} {m:Int} {e:Int}  (s0:e≠0) (h0:JC G 1 a tyT e):JO G (.mk 20 m [a,b]) .z e:=by refine C8 200 h0 fun n hn h0=>?_;have t14:=AY (n:=n) (by omega) 14;have t15:=AY (n:=n) (by omega) 15;have hnone:=BP (n:=n) (by omega) e;rw [Xt];simp only [EM] at h0 t14 t15 hnone ⊢;simp only [↓VM,↓XX,XY,↓reduceIte,seval,↓Ag t14,↓Ag t15,↓Ar hnone,↓Au h0,s0];exact A6 rfl
def aX {G:FV} {a b c:Tm} {m:Int} {e:Int}  (s0:e≠0) (h0:JC G 1 a tyT 0) (h1:JU G a b c e):JO G (.mk 20 m [a,b]) .z e:=by refine Ni 200 h0 h1 fun n hn h0 h1=>?_;have t14:=AY (n:=n) (by omega) 14;have t15:=AY (n:=n) (by omega) 15;have hnone:=BP (n:=n) (by omega) e;rw [Xt];simp only [EM] at h0 h1 t14 t15 hnone ⊢;simp only [↓VM,↓XX,XY,↓reduceIte,seval,↓Ag t14,↓Ag t15,↓Ar hnone,↓Au h0,↓Av h1,s0];exact A6 rfl
def uS {G:FV} {a b c r:Tm} {m:Int} {e:Int}  (h0:JC G 1 a tyT 0) (h1:JU G a b c 0) (h2:JN (.mk 16 0 [a,c]) r e):JO G (.mk 20 m [a,b]) r e:=by refine Ss 200 h0 h1 h2 fun n hn h0 h1 h2=>?_;have t14:=AY (n:=n) (by omega) 14;have t15:=AY (n:=n) (by omega) 15;have u16:=CO (n:=n) (by omega) 16 [a,c];rw [Xt];simp only [EM] at h0 h1 h2 t14 t15 u16 ⊢;simp only [↓VM,↓XX,XY,↓reduceIte,seval,↓Ag t14,↓Ag t15,↓Ag u16,↓Au h0,↓Av h1,↓Ar h2,↓Ct];exact A6 rfl
def cJ {G:FV} {a b:Tm} {m:Int} {e:Int}  (s0:e≠0) (h0:JC G 1 a tyT e):JO G (.mk 29 m [a,b]) .z e:=by refine C8 200 h0 fun n hn h0=>?_;have t14:=AY (n:=n) (by omega) 14;have t15:=AY (n:=n) (by omega) 15;have hnone:=BP (n:=n) (by omega) e;rw [Xt];simp only [EM] at h0 t14 t15 hnone ⊢;simp only [↓VM,↓XX,XY,↓reduceIte,seval,↓Ag t14,↓Ag t15,↓Ar hnone,↓Au h0,s0];exact A6 rfl
def eL {G:FV} {a b s:Tm} {m:Int} {e:Int} {G1:FV}  (s0:e≠0) (h0:JC G 1 a tyT 0) (h1:JB G 0 a G1) (h2:zQ a 1 0 s) (h3:JC G1 0 b s e):JO G (.mk 29 m [a,b]) .z e:=by refine iY 200 h0 h1 h2 h3 fun n hn h0 h1 h2 h3=>?_;have t14:=AY (n:=n) (by omega) 14;have t15:=AY (n:=n) (by omega) 15;have hnone:=BP (n:=n) (by omega) e;rw [Xt];simp only [EM] at h0 h1 h2 h3 t14 t15 hnone ⊢;simp only [↓VM,↓XX,XY,↓reduceIte,seval,↓Ag t14,↓Ag t15,↓Ar hnone,↓Au h0,↓Av h1,↓Av h2,↓Au h3,s0];exact A6 rfl
def sR {G:FV} {a b s r:Tm} {m:Int} {e:Int} {G1:FV}  (h0:JC G 1 a tyT 0) (h1:JB G 0 a G1) (h2:zQ a 1 0 s) (h3:JC G1 0 b s 0) (h4:JN a r e):JO G (.mk 29 m [a,b]) r e:=by refine xW 200 h0 h1 h2 h3 h4 fun n hn h0 h1 h2 h3 h4=>?_;have t14:=AY (n:=n) (by omega) 14;have t15:=AY (n:=n) (by omega) 15;rw [Xt];simp only [EM] at h0 h1 h2 h3 h4 t14 t15 ⊢;simp only [↓VM,↓XX,XY,↓reduceIte,seval,↓Ag t14,↓Ag t15,↓Au h0,↓Av h1,↓Av h2,↓Au h3,↓Ar h4];exact A6 rfl
def cI {G:FV} {a b c:Tm} {m:Int} {e:Int}  (s0:e≠0) (h0:JI G 0 a c e):JO G (.mk 28 m [a,b]) .z e:=by refine C8 200 h0 fun n hn h0=>?_;have t14:=AY (n:=n) (by omega) 14;have t15:=AY (n:=n) (by omega) 15;have hnone:=BP (n:=n) (by omega) e;rw [Xt];simp only [EM] at h0 t14 t15 hnone ⊢;simp only [↓VM,↓XX,XY,↓reduceIte,seval,↓Ag t14,↓Ag t15,↓Ar hnone,↓Av h0,s0];exact A6 rfl
def sX {G:FV} {a b c r:Tm} {m:Int} {e:Int}  (h0:JI G 0 a c 0) (h1:JU G c b r e):JO G (.mk 28 m [a,b]) r e:=by refine Ni 200 h0 h1 fun n hn h0 h1=>?_;have t14:=AY (n:=n) (by omega) 14;have t15:=AY (n:=n) (by omega) 15;rw [Xt];simp only [EM] at h0 h1 t14 t15 ⊢;simp only [↓VM,↓XX,XY,↓reduceIte,seval,↓Ag t14,↓Ag t15,↓Av h0,↓Av h1];exact A6 rfl
def aV {G:FV} {a c:Tm} {m:Int} {e:Int}  (s0:e≠0) (h0:JS G 1 a 18 c e):JO G (.mk 30 m [a]) .z e:=by refine C8 200 h0 fun n hn h0=>?_;have t14:=AY (n:=n) (by omega) 14;have t15:=AY (n:=n) (by omega) 15;have hnone:=BP (n:=n) (by omega) e;rw [Xt];simp only [EM] at h0 t14 t15 hnone ⊢;simp only [↓VM,↓XX,XY,↓reduceIte,seval,↓Ag t14,↓Ag t15,↓Ar hnone,↓Au h0,s0];exact A6 rfl
def pO {G:FV} {a c:Tm} {m:Int} {q:Int}  (h0:JS G 1 a 18 (.mk 18 q [c]) 0):JO G (.mk 30 m [a]) c 0:=by refine C8 200 h0 fun n hn h0=>?_;have t14:=AY (n:=n) (by omega) 14;have t15:=AY (n:=n) (by omega) 15;rw [Xt];simp only [EM] at h0 t14 t15 ⊢;simp only [↓VM,↓XX,XY,↓reduceIte,seval,↓Ag t14,↓Ag t15,↓Au h0];exact A6 rfl
def Jw {G:FV} {op m e:Int} {ks:List Tm} {r:Tm} (ho:op=21\/op=22\/op=23\/op=24\/op=27) (h:JP G (.mk op m ks) r e):JO G (.mk op m ks) r e:=by
 refine C8 200 h fun n hn h=>?_;have t14:=AY (n:=n) (by omega) 14;have t15:=AY (n:=n) (by omega) 15;rw [Xt];obtain ⟨oP,nP,kP⟩:=r;rcases ho with rfl | rfl | rfl | rfl | rfl
 all_goals
  simp only [An,Ah4] at t14 t15 h ⊢;simp only [↓VM,↓XX,XY,↓reduceIte,seval,↓Ag t14,↓Ag t15,↓Ag h];exact A6 rfl
def bE {G:FV} {f x b:Tm} {m:Int} {e:Int}  (s0:e≠0) (h0:JS G 0 f 16 b e):JP G (.mk 21 m [f,x]) .z e:=by refine C8 200 h0 fun n hn h0=>?_;have hnone:=BP (n:=n) (by omega) e;rw [YV];simp only [EM] at h0 hnone ⊢;simp only [↓YW,↓XX,XY,↓reduceIte,seval,↓Ar hnone,↓Au h0,s0];exact A6 rfl
def aF {G:FV} {f x a c:Tm} {m:Int} {q e:Int}  (s0:e≠0) (h0:JS G 0 f 16 (.mk 16 q [a,c]) 0) (h1:JC G 0 x a e):JP G (.mk 21 m [f,x]) .z e:=by refine Ni 200 h0 h1 fun n hn h0 h1=>?_;have hnone:=BP (n:=n) (by omega) e;rw [YV];simp only [EM] at h0 h1 hnone ⊢;simp only [↓YW,↓XX,XY,↓reduceIte,seval,↓Ar hnone,↓Au h0,↓Au h1,s0];exact A6 rfl
def qG {G:FV} {f x a c:Tm} {m:Int} {q:Int}  (h0:JS G 0 f 16 (.mk 16 q [a,c]) 0) (h1:JC G 0 x a 0):JP G (.mk 21 m [f,x]) c 0:=by refine Ni 200 h0 h1 fun n hn h0 h1=>?_;rw [YV];simp only [EM] at h0 h1 ⊢;simp only [↓YW,↓XX,XY,↓reduceIte,seval,↓Au h0,↓Au h1];exact A6 rfl
def X9 {G:FV} {x y a:Tm} {m:Int} {e:Int}  (s0:e≠0) (h0:JI G 0 x a e):JP G (.mk 22 m [x,y]) .z e:=by refine C8 200 h0 fun n hn h0=>?_;have hnone:=BP (n:=n) (by omega) e;rw [YV];simp only [EM] at h0 hnone ⊢;simp only [↓YW,↓XX,XY,↓reduceIte,seval,↓Ar hnone,↓Av h0,s0];exact A6 rfl
def YD {G:FV} {x y a b:Tm} {m:Int} {e:Int}  (s0:e≠0) (h0:JI G 0 x a 0) (h1:JI G 0 y b e):JP G (.mk 22 m [x,y]) .z e:=by refine Ni 200 h0 h1 fun n hn h0 h1=>?_;have hnone:=BP (n:=n) (by omega) e;rw [YV];simp only [EM] at h0 h1 hnone ⊢;simp only [↓YW,↓XX,XY,↓reduceIte,seval,↓Ar hnone,↓Av h0,↓Av h1,s0];exact A6 rfl
def kX {G:FV} {x y a b r:Tm} {m:Int} {e:Int}  (h0:JI G 0 x a 0) (h1:JI G 0 y b 0) (h2:JN (.mk 17 0 [a,b]) r e):JP G (.mk 22 m [x,y]) r e:=by refine Ss 200 h0 h1 h2 fun n hn h0 h1 h2=>?_;have u17:=CO (n:=n) (by omega) 17 [a,b];rw [YV];simp only [EM] at h0 h1 h2 u17 ⊢;simp only [↓YW,↓XX,XY,↓reduceIte,seval,↓Ag u17,↓Av h0,↓Av h1,↓Ar h2,↓Ct];exact A6 rfl
def mY {G:FV} {c x y:Tm} {m:Int} {e:Int}  (s0:e≠0) (h0:JC G 0 c Ek e):JP G (.mk 27 m [c,x,y]) .z e:=by refine C8 200 h0 fun n hn h0=>?_;have t15:=AY (n:=n) (by omega) 15;have hnone:=BP (n:=n) (by omega) e;rw [YV];simp only [EM] at h0 t15 hnone ⊢;simp only [↓YW,↓XX,XY,↓reduceIte,seval,↓Ag t15,↓Ar hnone,↓Au h0,s0];exact A6 rfl
def iI {G:FV} {c x y a:Tm} {m:Int} {e:Int}  (s0:e≠0) (h0:JC G 0 c Ek 0) (h1:JI G 0 x a e):JP G (.mk 27 m [c,x,y]) .z e:=by refine Ni 200 h0 h1 fun n hn h0 h1=>?_;have t15:=AY (n:=n) (by omega) 15;have hnone:=BP (n:=n) (by omega) e;rw [YV];simp only [EM] at h0 h1 t15 hnone ⊢;simp only [↓YW,↓XX,XY,↓reduceIte,seval,↓Ag t15,↓Ar hnone,↓Au h0,↓Av h1,s0];exact A6 rfl
def iD {G:FV} {c x y a:Tm} {m:Int} {e:Int}  (s0:e≠0) (h0:JC G 0 c Ek 0) (h1:JI G 0 x a 0) (h2:JC G 0 y a e):JP G (.mk 27 m [c,x,y]) .z e:=by refine Ss 200 h0 h1 h2 fun n hn h0 h1 h2=>?_;have t15:=AY (n:=n) (by omega) 15;have hnone:=BP (n:=n) (by omega) e;rw [YV];simp only [EM] at h0 h1 h2 t15 hnone ⊢;simp only [↓YW,↓XX,XY,↓reduceIte,seval,↓Ag t15,↓Ar hnone,↓Au h0,↓Av h1,↓Au h2,s0];exact A6 rfl
def zD {G:FV} {c x y a:Tm} {m:Int}  (h0:JC G 0 c Ek 0) (h1:JI G 0 x a 0) (h2:JC G 0 y a 0):JP G (.mk 27 m [c,x,y]) a 0:=by refine Ss 200 h0 h1 h2 fun n hn h0 h1 h2=>?_;have t15:=AY (n:=n) (by omega) 15;rw [YV];simp only [EM] at h0 h1 h2 t15 ⊢;simp only [↓YW,↓XX,XY,↓reduceIte,seval,↓Ag t15,↓Au h0,↓Av h1,↓Au h2];exact A6 rfl
def dC {G:FV} {x c:Tm} {m:Int} {e:Int}  (s0:e≠0) (h0:JS G 0 x 17 c e):JP G (.mk 23 m [x]) .z e:=by refine C8 200 h0 fun n hn h0=>?_;have hnone:=BP (n:=n) (by omega) e;rw [YV];simp only [EM] at h0 hnone ⊢;simp only [↓YW,↓XX,XY,↓reduceIte,seval,↓Ar hnone,↓Au h0,s0];exact A6 rfl
def vX {G:FV} {x a b:Tm} {m:Int} {q:Int}  (h0:JS G 0 x 17 (.mk 17 q [a,b]) 0):JP G (.mk 23 m [x]) a 0:=by refine C8 200 h0 fun n hn h0=>?_;rw [YV];simp only [EM] at h0 ⊢;simp only [↓YW,↓XX,XY,↓reduceIte,seval,↓Au h0];exact A6 rfl
def aD (s:Nat) (a b:Int) (h:Hp) (k:KT (IV×Hp)):AA (AU EE s false .max [3,3] [iv a,iv b]) s h k=k (iv (if a<b then b else a)) h [] [] :=gen_val' _ _ _ _
def jM {G:FV} {a b:Tm} {m:Int} {i e:Int}  (s0:e≠0) (h0:JL G a i e):JM G (.mk 3 m [a,b]) .z e:=by refine C8 200 h0 fun n hn h0=>?_;have hnone:=BP (n:=n) (by omega) e;rw [Sr];simp only [EM] at h0 hnone ⊢;simp only [↓Ie,↓XX,XY,↓reduceIte,seval,↓Ar hnone,↓Ag h0,s0];exact A6 rfl
def mB {G:FV} {a b:Tm} {m:Int} {i j e:Int} {G1:FV}  (s0:e≠0) (h0:JL G a i 0) (h1:JB G 1 a G1) (h2:JL G1 b j e):JM G (.mk 3 m [a,b]) .z e:=by refine Ss 200 h0 h1 h2 fun n hn h0 h1 h2=>?_;have hnone:=BP (n:=n) (by omega) e;rw [Sr];simp only [EM] at h0 h1 h2 hnone ⊢;simp only [↓Ie,↓XX,XY,↓reduceIte,seval,↓Ar hnone,↓Ag h0,↓Av h1,↓Ag h2,s0];exact A6 rfl
def zG {G:FV} {a b:Tm} {m:Int} {i j:Int} {G1:FV}  (h0:JL G a i 0) (h1:JB G 1 a G1) (h2:JL G1 b j 0):JM G (.mk 3 m [a,b]) (.mk 2 (if i<j then j else i) []) 0:=by refine Ss 200 h0 h1 h2 fun n hn h0 h1 h2=>?_;have tu:=Hd (n:=n) (by omega) (if i<j then j else i);rw [Sr];simp only [EM] at h0 h1 h2 tu ⊢;simp only [↓Ie,↓XX,XY,↓reduceIte,seval,↓Ar tu,↓Ag h0,↓Av h1,↓Ag h2,aD];exact A6 rfl
def dJ {G:FV} {a b:Tm} {m:Int} {i e:Int}  (s0:e≠0) (h0:JL G a i e):JM G (.mk 6 m [a,b]) .z e:=by refine C8 200 h0 fun n hn h0=>?_;have hnone:=BP (n:=n) (by omega) e;rw [Sr];simp only [EM] at h0 hnone ⊢;simp only [↓Ie,↓XX,XY,↓reduceIte,seval,↓Ar hnone,↓Ag h0,s0];exact A6 rfl
def Z3 {G:FV} {a b:Tm} {m:Int} {i j e:Int} {G1:FV}  (s0:e≠0) (h0:JL G a i 0) (h1:JB G 1 a G1) (h2:JL G1 b j e):JM G (.mk 6 m [a,b]) .z e:=by refine Ss 200 h0 h1 h2 fun n hn h0 h1 h2=>?_;have hnone:=BP (n:=n) (by omega) e;rw [Sr];simp only [EM] at h0 h1 h2 hnone ⊢;simp only [↓Ie,↓XX,XY,↓reduceIte,seval,↓Ar hnone,↓Ag h0,↓Av h1,↓Ag h2,s0];exact A6 rfl
def pS {G:FV} {a b:Tm} {m:Int} {i j:Int} {G1:FV}  (h0:JL G a i 0) (h1:JB G 1 a G1) (h2:JL G1 b j 0):JM G (.mk 6 m [a,b]) (.mk 2 (if i<j then j else i) []) 0:=by refine Ss 200 h0 h1 h2 fun n hn h0 h1 h2=>?_;have tu:=Hd (n:=n) (by omega) (if i<j then j else i);rw [Sr];simp only [EM] at h0 h1 h2 tu ⊢;simp only [↓Ie,↓XX,XY,↓reduceIte,seval,↓Ar tu,↓Ag h0,↓Av h1,↓Ag h2,aD];exact A6 rfl
def eU {G:FV} {a b:Tm} {m:Int} {i e:Int}  (s0:e≠0) (h0:JL G a i e):JM G (.mk 4 m [a,b]) .z e:=by refine C8 200 h0 fun n hn h0=>?_;have hnone:=BP (n:=n) (by omega) e;rw [Sr];simp only [EM] at h0 hnone ⊢;simp only [↓Ie,↓XX,XY,↓reduceIte,seval,↓Ar hnone,↓Ag h0,s0];exact A6 rfl
def dL {G:FV} {a b c:Tm} {m:Int} {i e:Int} {G1:FV}  (s0:e≠0) (h0:JL G a i 0) (h1:JB G 1 a G1) (h2:JI G1 1 b c e):JM G (.mk 4 m [a,b]) .z e:=by refine Ss 200 h0 h1 h2 fun n hn h0 h1 h2=>?_;have hnone:=BP (n:=n) (by omega) e;rw [Sr];simp only [EM] at h0 h1 h2 hnone ⊢;simp only [↓Ie,↓XX,XY,↓reduceIte,seval,↓Ar hnone,↓Ag h0,↓Av h1,↓Av h2,s0];exact A6 rfl
def pU {G:FV} {a b c r:Tm} {m:Int} {i e:Int} {G1:FV}  (h0:JL G a i 0) (h1:JB G 1 a G1) (h2:JI G1 1 b c 0) (h3:JN (.mk 3 0 [a,c]) r e):JM G (.mk 4 m [a,b]) r e:=by refine iY 200 h0 h1 h2 h3 fun n hn h0 h1 h2 h3=>?_;have u3:=CO (n:=n) (by omega) 3 [a,c];rw [Sr];simp only [EM] at h0 h1 h2 h3 u3 ⊢;simp only [↓Ie,↓XX,XY,↓reduceIte,seval,↓Ag u3,↓Ag h0,↓Av h1,↓Av h2,↓Ar h3,↓Ct];exact A6 rfl
def cH {G:FV} {f x b:Tm} {m:Int} {e:Int}  (s0:e≠0) (h0:JS G 1 f 3 b e):JM G (.mk 5 m [f,x]) .z e:=by refine C8 200 h0 fun n hn h0=>?_;have hnone:=BP (n:=n) (by omega) e;rw [Sr];simp only [EM] at h0 hnone ⊢;simp only [↓Ie,↓XX,XY,↓reduceIte,seval,↓Ar hnone,↓Au h0,s0];exact A6 rfl
def ZP {G:FV} {f x a c:Tm} {m:Int} {q e:Int}  (s0:e≠0) (h0:JS G 1 f 3 (.mk 3 q [a,c]) 0) (h1:JC G 1 x a e):JM G (.mk 5 m [f,x]) .z e:=by refine Ni 200 h0 h1 fun n hn h0 h1=>?_;have hnone:=BP (n:=n) (by omega) e;rw [Sr];simp only [EM] at h0 h1 hnone ⊢;simp only [↓Ie,↓XX,XY,↓reduceIte,seval,↓Ar hnone,↓Au h0,↓Au h1,s0];exact A6 rfl
def tF {G:FV} {f x a c d r:Tm} {m:Int} {q e:Int}  (h0:JS G 1 f 3 (.mk 3 q [a,c]) 0) (h1:JC G 1 x a 0) (h2:Ym c x d) (h3:JN d r e):JM G (.mk 5 m [f,x]) r e:=by refine iY 200 h0 h1 h2 h3 fun n hn h0 h1 h2 h3=>?_;rw [Sr];simp only [EM] at h0 h1 h2 h3 ⊢;simp only [↓Ie,↓XX,XY,↓reduceIte,seval,↓Au h0,↓Au h1,↓Av h2,↓Ar h3];exact A6 rfl
def bL {G:FV} {x c:Tm} {m:Int} {e:Int}  (s0:e≠0) (h0:JS G 1 x 6 c e):JM G (.mk 8 m [x]) .z e:=by refine C8 200 h0 fun n hn h0=>?_;have hnone:=BP (n:=n) (by omega) e;rw [Sr];simp only [EM] at h0 hnone ⊢;simp only [↓Ie,↓XX,XY,↓reduceIte,seval,↓Ar hnone,↓Au h0,s0];exact A6 rfl
def xG {G:FV} {x a b:Tm} {m:Int} {q:Int}  (h0:JS G 1 x 6 (.mk 6 q [a,b]) 0):JM G (.mk 8 m [x]) a 0:=by refine C8 200 h0 fun n hn h0=>?_;rw [Sr];simp only [EM] at h0 ⊢;simp only [↓Ie,↓XX,XY,↓reduceIte,seval,↓Au h0];exact A6 rfl
def mM {G:FV} {s x y r:Tm} {m:Int} {e:Int}  (h0:qZ G (.mk 7 m [s,x,y]) r e):JM G (.mk 7 m [s,x,y]) r e:=by refine C8 200 h0 fun n hn h0=>?_;rw [Sr];simp only [EM] at h0 ⊢;simp only [↓Ie,↓XX,XY,↓reduceIte,seval,↓Ag h0];exact A6 rfl
def rI {G:FV} {p z s k r:Tm} {m:Int} {e:Int}  (h0:JR G (.mk 13 m [p,z,s,k]) r e):JM G (.mk 13 m [p,z,s,k]) r e:=by refine C8 200 h0 fun n hn h0=>?_;rw [Sr];simp only [EM] at h0 ⊢;simp only [↓Ie,↓XX,XY,↓reduceIte,seval,↓Ag h0];exact A6 rfl
def AeP {G:FV} {s x y:Tm} {m:Int} {i e:Int}  (s0:e≠0) (h0:JL G s i e):qZ G (.mk 7 m [s,x,y]) .z e:=by refine C8 200 h0 fun n hn h0=>?_;have hnone:=BP (n:=n) (by omega) e;rw [c77];simp only [EM] at h0 hnone ⊢;simp only [↓dN,↓XX,XY,↓reduceIte,seval,↓Ar hnone,↓Ag h0,s0];exact A6 rfl
def Acp {G:FV} {s x y r:Tm} {m:Int} {i e:Int}  (s0:e≠0) (h0:JL G s i 0) (h1:JN s r e):qZ G (.mk 7 m [s,x,y]) .z e:=by refine Ni 200 h0 h1 fun n hn h0 h1=>?_;have hnone:=BP (n:=n) (by omega) e;rw [c77];simp only [EM] at h0 h1 hnone ⊢;simp only [↓dN,↓XX,XY,↓reduceIte,seval,↓Ar hnone,↓Ag h0,↓Ar h1,s0];exact A6 rfl
def Adp {G:FV} {s x y a b:Tm} {m:Int} {i q e:Int}  (s0:e≠0) (h0:JL G s i 0) (h1:JN s (.mk 6 q [a,b]) 0) (h2:JC G 1 x a e):qZ G (.mk 7 m [s,x,y]) .z e:=by refine Ss 200 h0 h1 h2 fun n hn h0 h1 h2=>?_;have hnone:=BP (n:=n) (by omega) e;rw [c77];simp only [EM] at h0 h1 h2 hnone ⊢;simp only [↓dN,↓XX,XY,↓reduceIte,seval,↓Ar hnone,↓Ag h0,↓Ar h1,↓Au h2,s0];exact A6 rfl
def y3 {G:FV} {s x y a b d:Tm} {m:Int} {i q e:Int}  (s0:e≠0) (h0:JL G s i 0) (h1:JN s (.mk 6 q [a,b]) 0) (h2:JC G 1 x a 0) (h3:Ym b x d) (h4:JC G 1 y d e):qZ G (.mk 7 m [s,x,y]) .z e:=by refine xW 200 h0 h1 h2 h3 h4 fun n hn h0 h1 h2 h3 h4=>?_;have hnone:=BP (n:=n) (by omega) e;rw [c77];simp only [EM] at h0 h1 h2 h3 h4 hnone ⊢;simp only [↓dN,↓XX,XY,↓reduceIte,seval,↓Ar hnone,↓Ag h0,↓Ar h1,↓Au h2,↓Av h3,↓Au h4,s0];exact A6 rfl
def kq {G:FV} {s x y a b d:Tm} {m:Int} {i q:Int}  (h0:JL G s i 0) (h1:JN s (.mk 6 q [a,b]) 0) (h2:JC G 1 x a 0) (h3:Ym b x d) (h4:JC G 1 y d 0):qZ G (.mk 7 m [s,x,y]) (.mk 6 q [a,b]) 0:=by refine xW 200 h0 h1 h2 h3 h4 fun n hn h0 h1 h2 h3 h4=>?_;rw [c77];simp only [EM] at h0 h1 h2 h3 h4 ⊢;simp only [↓dN,↓XX,XY,↓reduceIte,seval,↓Ag h0,↓Ar h1,↓Au h2,↓Av h3,↓Au h4];exact A6 rfl
def AeH {G:FV} {p z s k:Tm} {m:Int} {i e:Int} {G1:FV}  (s0:e≠0) (h0:JB G 1 (.mk 10 0 []) G1) (h1:JL G1 p i e):JR G (.mk 13 m [p,z,s,k]) .z e:=by refine Ni 200 h0 h1 fun n hn h0 h1=>?_;have t10:=AY (n:=n) (by omega) 10;have hnone:=BP (n:=n) (by omega) e;rw [c78];simp only [EM] at h0 h1 t10 hnone ⊢;simp only [↓eS,↓XX,XY,↓reduceIte,seval,↓Ag t10,↓Ar hnone,↓Av h0,↓Ag h1,s0];exact A6 rfl
def Ac2 {G:FV} {p z s k z0:Tm} {m:Int} {i e:Int} {G1:FV}  (s0:e≠0) (h0:JB G 1 (.mk 10 0 []) G1) (h1:JL G1 p i 0) (h2:Ym p (.mk 11 0 []) z0) (h3:JC G 1 z z0 e):JR G (.mk 13 m [p,z,s,k]) .z e:=by refine iY 200 h0 h1 h2 h3 fun n hn h0 h1 h2 h3=>?_;have t10:=AY (n:=n) (by omega) 10;have t11:=AY (n:=n) (by omega) 11;have hnone:=BP (n:=n) (by omega) e;rw [c78];simp only [EM] at h0 h1 h2 h3 t10 t11 hnone ⊢;simp only [↓eS,↓XX,XY,↓reduceIte,seval,↓Ag t10,↓Ag t11,↓Ar hnone,↓Av h0,↓Ag h1,↓Av h2,↓Au h3,s0];exact A6 rfl
def Adw {G:FV} {p z s k z0 w0:Tm} {m:Int} {i e:Int} {G1 G2:FV}  (s0:e≠0) (h0:JB G 1 (.mk 10 0 []) G1) (h1:JL G1 p i 0) (h2:Ym p (.mk 11 0 []) z0) (h3:JC G 1 z z0 0) (h4:JB G1 1 p G2) (h5:z4 p w0) (h6:JC G2 1 s w0 e):JR G (.mk 13 m [p,z,s,k]) .z e:=by refine ev7 200 h0 h1 h2 h3 h4 h5 h6 fun n hn h0 h1 h2 h3 h4 h5 h6=>?_;have t10:=AY (n:=n) (by omega) 10;have t11:=AY (n:=n) (by omega) 11;have hnone:=BP (n:=n) (by omega) e;rw [c78];simp only [EM] at h0 h1 h2 h3 h4 h5 h6 t10 t11 hnone ⊢;simp only [↓eS,↓XX,XY,↓reduceIte,seval,↓Ag t10,↓Ag t11,↓Ar hnone,↓Av h0,↓Ag h1,↓Av h2,↓Au h3,↓Av h4,↓Ar h5,↓Au h6,s0];exact A6 rfl
def Adf {G:FV} {p z s k z0 w0:Tm} {m:Int} {i e:Int} {G1 G2:FV}  (s0:e≠0) (h0:JB G 1 (.mk 10 0 []) G1) (h1:JL G1 p i 0) (h2:Ym p (.mk 11 0 []) z0) (h3:JC G 1 z z0 0) (h4:JB G1 1 p G2) (h5:z4 p w0) (h6:JC G2 1 s w0 0) (h7:JC G 1 k (.mk 10 0 []) e):JR G (.mk 13 m [p,z,s,k]) .z e:=by refine ev8 200 h0 h1 h2 h3 h4 h5 h6 h7 fun n hn h0 h1 h2 h3 h4 h5 h6 h7=>?_;have t10:=AY (n:=n) (by omega) 10;have t11:=AY (n:=n) (by omega) 11;have hnone:=BP (n:=n) (by omega) e;rw [c78];simp only [EM] at h0 h1 h2 h3 h4 h5 h6 h7 t10 t11 hnone ⊢;simp only [↓eS,↓XX,XY,↓reduceIte,seval,↓Ag t10,↓Ag t11,↓Ar hnone,↓Av h0,↓Ag h1,↓Av h2,↓Au h3,↓Av h4,↓Ar h5,↓Au h6,↓Au h7,s0];exact A6 rfl
def kr {G:FV} {p z s k z0 w0 d r:Tm} {m:Int} {i e:Int} {G1 G2:FV}  (h0:JB G 1 (.mk 10 0 []) G1) (h1:JL G1 p i 0) (h2:Ym p (.mk 11 0 []) z0) (h3:JC G 1 z z0 0) (h4:JB G1 1 p G2) (h5:z4 p w0) (h6:JC G2 1 s w0 0) (h7:JC G 1 k (.mk 10 0 []) 0) (h8:Ym p k d) (h9:JN d r e):JR G (.mk 13 m [p,z,s,k]) r e:=by refine zI 200 h0 h1 h2 h3 h4 h5 h6 h7 h8 h9 fun n hn h0 h1 h2 h3 h4 h5 h6 h7 h8 h9=>?_;have t10:=AY (n:=n) (by omega) 10;have t11:=AY (n:=n) (by omega) 11;rw [c78];simp only [EM] at h0 h1 h2 h3 h4 h5 h6 h7 h8 h9 t10 t11 ⊢;simp only [↓eS,↓XX,XY,↓reduceIte,seval,↓Ag t10,↓Ag t11,↓Av h0,↓Ag h1,↓Av h2,↓Au h3,↓Av h4,↓Ar h5,↓Au h6,↓Au h7,↓Av h8,↓Ar h9];exact A6 rfl
def Ad5 {G:FV} {m:Int}  (s0:m≠2) (s1:-1000<=m) (s2:m<=1000):JI G 1 (.mk 2 m []) (.mk 2 (m+1) []) 0:=by refine ⟨200,fun n hn=>?_⟩;obtain ⟨n,rfl⟩:=psc n (by omega);have tu:=Hd (n:=n) (by omega) (m+1);rw [QJ];simp only [EM] at tu ⊢;simp only [↓QK,↓XX,XY,↓reduceIte,seval,↓Ar tu,s0,s1,s2,(show BF (m+1)=m+1 from Az (by omega) (by omega))];exact A6 rfl
def uB {G:FV} {m:Int}  : JI G 1 (.mk 10 m []) (.mk 2 0 []) 0:=by refine ⟨200,fun n hn=>?_⟩;obtain ⟨n,rfl⟩:=psc n (by omega);have tu:=Hd (n:=n) (by omega) 0;rw [QJ];simp only [EM] at tu ⊢;simp only [↓QK,↓XX,XY,↓reduceIte,seval,↓Ar tu];exact A6 rfl
def Abd {G:FV} {m:Int}  : JI G 1 (.mk 14 m []) (.mk 2 0 []) 0:=by refine ⟨200,fun n hn=>?_⟩;obtain ⟨n,rfl⟩:=psc n (by omega);have tu:=Hd (n:=n) (by omega) 0;rw [QJ];simp only [EM] at tu ⊢;simp only [↓QK,↓XX,XY,↓reduceIte,seval,↓Ar tu];exact A6 rfl
def kK {G:FV} {m:Int}  : JI G 1 (.mk 11 m []) natT 0:=by refine ⟨200,fun n hn=>?_⟩;obtain ⟨n,rfl⟩:=psc n (by omega);have t10:=AY (n:=n) (by omega) 10;rw [QJ];simp only [EM] at t10 ⊢;simp only [↓QK,↓XX,XY,↓reduceIte,seval,↓Ag t10];exact A6 rfl
def aN {G:FV} {a:Tm} {m:Int} {e:Int}  (s0:e≠0) (h0:JC G 1 a natT e):JI G 1 (.mk 12 m [a]) .z e:=by refine C8 200 h0 fun n hn h0=>?_;have t10:=AY (n:=n) (by omega) 10;have hnone:=BP (n:=n) (by omega) e;rw [QJ];simp only [EM] at h0 t10 hnone ⊢;simp only [↓QK,↓XX,XY,↓reduceIte,seval,↓Ag t10,↓Ar hnone,↓Au h0,s0];exact A6 rfl
def rN {G:FV} {a:Tm} {m:Int}  (h0:JC G 1 a natT 0):JI G 1 (.mk 12 m [a]) natT 0:=by refine C8 200 h0 fun n hn h0=>?_;have t10:=AY (n:=n) (by omega) 10;rw [QJ];simp only [EM] at h0 t10 ⊢;simp only [↓QK,↓XX,XY,↓reduceIte,seval,↓Ag t10,↓Au h0];exact A6 rfl
def XQ {G:FV} {a:Tm} {m:Int} {e:Int}  (s0:e≠0) (h0:JC G 1 a tyT e):JI G 1 (.mk 18 m [a]) .z e:=by refine C8 200 h0 fun n hn h0=>?_;have t14:=AY (n:=n) (by omega) 14;have hnone:=BP (n:=n) (by omega) e;rw [QJ];simp only [EM] at h0 t14 hnone ⊢;simp only [↓QK,↓XX,XY,↓reduceIte,seval,↓Ag t14,↓Ar hnone,↓Au h0,s0];exact A6 rfl
def mR {G:FV} {a:Tm} {m:Int}  (h0:JC G 1 a tyT 0):JI G 1 (.mk 18 m [a]) (.mk 2 0 []) 0:=by refine C8 200 h0 fun n hn h0=>?_;have t14:=AY (n:=n) (by omega) 14;have tu:=Hd (n:=n) (by omega) 0;rw [QJ];simp only [EM] at h0 t14 tu ⊢;simp only [↓QK,↓XX,XY,↓reduceIte,seval,↓Ag t14,↓Ar tu,↓Au h0];exact A6 rfl
def cG {G:FV} {a b:Tm} {m:Int} {e:Int}  (s0:e≠0) (h0:JI G 0 a b e):JI G 1 (.mk 19 m [a]) .z e:=by refine C8 200 h0 fun n hn h0=>?_;have hnone:=BP (n:=n) (by omega) e;rw [QJ];simp only [EM] at h0 hnone ⊢;simp only [↓QK,↓XX,XY,↓reduceIte,seval,↓Ar hnone,↓Av h0,s0];exact A6 rfl
def vI {G:FV} {a b:Tm} {m:Int}  (h0:JI G 0 a b 0):JI G 1 (.mk 19 m [a]) (.mk 18 0 [b]) 0:=by refine C8 200 h0 fun n hn h0=>?_;have u18:=CO (n:=n) (by omega) 18 [b];rw [QJ];simp only [EM] at h0 u18 ⊢;simp only [↓QK,↓XX,XY,↓reduceIte,seval,↓Ag u18,↓Av h0,↓Dx];exact A6 rfl
def lC {G:FV} {m:Int}  (h0:YQ G 1 [] tyT 0):JI G 1 (.mk 15 m []) tyT 0:=by refine C8 200 h0 fun n hn h0=>?_;have t14:=AY (n:=n) (by omega) 14;rw [QJ];simp only [EM] at h0 t14 ⊢;simp only [↓QK,↓XX,XY,↓reduceIte,seval,↓Ag t14,↓Au h0];exact A6 rfl
def X6 {G:FV} {a b:Tm} {m:Int} {e:Int}  (s0:e≠0) (h0:YQ G 1 [a,b] tyT e):JI G 1 (.mk 16 m [a,b]) .z e:=by refine C8 200 h0 fun n hn h0=>?_;have t14:=AY (n:=n) (by omega) 14;have hnone:=BP (n:=n) (by omega) e;rw [QJ];simp only [EM] at h0 t14 hnone ⊢;simp only [↓QK,↓XX,XY,↓reduceIte,seval,↓Ag t14,↓Ar hnone,↓Au h0,s0];exact A6 rfl
def l8 {G:FV} {a b:Tm} {m:Int}  (h0:YQ G 1 [a,b] tyT 0):JI G 1 (.mk 16 m [a,b]) tyT 0:=by refine C8 200 h0 fun n hn h0=>?_;have t14:=AY (n:=n) (by omega) 14;rw [QJ];simp only [EM] at h0 t14 ⊢;simp only [↓QK,↓XX,XY,↓reduceIte,seval,↓Ag t14,↓Au h0];exact A6 rfl
def YI {G:FV} {a b:Tm} {m:Int} {e:Int}  (s0:e≠0) (h0:YQ G 1 [a,b] tyT e):JI G 1 (.mk 17 m [a,b]) .z e:=by refine C8 200 h0 fun n hn h0=>?_;have t14:=AY (n:=n) (by omega) 14;have hnone:=BP (n:=n) (by omega) e;rw [QJ];simp only [EM] at h0 t14 hnone ⊢;simp only [↓QK,↓XX,XY,↓reduceIte,seval,↓Ag t14,↓Ar hnone,↓Au h0,s0];exact A6 rfl
def j8 {G:FV} {a b:Tm} {m:Int}  (h0:YQ G 1 [a,b] tyT 0):JI G 1 (.mk 17 m [a,b]) tyT 0:=by refine C8 200 h0 fun n hn h0=>?_;have t14:=AY (n:=n) (by omega) 14;rw [QJ];simp only [EM] at h0 t14 ⊢;simp only [↓QK,↓XX,XY,↓reduceIte,seval,↓Ag t14,↓Au h0];exact A6 rfl
def Ga {G:FV} {op m e:Int} {ks:List Tm} {r:Tm} (ho:20<=op) (h:JO G (.mk op m ks) r e):JI G 0 (.mk op m ks) r e:=by
 refine C8 200 h fun n hn h=>?_;rw [QJ];obtain ⟨oP,nP,kP⟩:=r;have h1:op≠1:=by omega
 have h20:(20:Int)<=op:=ho;simp only [An] at h ⊢;simp only [↓QK,↓XX,XY,↓reduceIte,seval,h1,h20,↓Ag h];exact A6 rfl
def Cw {G:FV} {op m e:Int} {ks:List Tm} {r:Tm} (ho:op=3\/op=6\/op=4\/op=5\/op=8\/op=9\/op=7\/op=13) (h:JM G (.mk op m ks) r e):JI G 1 (.mk op m ks) r e:=by
 refine C8 200 h fun n hn h=>?_;rw [QJ];obtain ⟨oP,nP,kP⟩:=r;rcases ho with rfl | rfl | rfl | rfl | rfl | rfl | rfl | rfl
 all_goals
  simp only [An] at h ⊢;simp only [↓QK,↓XX,XY,↓reduceIte,seval,↓Ag h];exact A6 rfl
def s8 {g:A8} {st e:Int} {i:Nat} {T s r:Tm} (hi:i<g.length) (hl:g.length<=100000) (hg:g[g.length - 1 - i]?=some (st,T)) (h0:zQ T ((i:Int)+1) 0 s) (h1:JN s r e):JI (AM g) st (.mk 1 (i:Int) []) r e:=by
 obtain ⟨N0,h0⟩:=h0;obtain ⟨N1,h1⟩:=h1;refine ⟨N0+N1+200,fun n hn=>?_⟩;obtain ⟨n,rfl⟩:=psc n (by omega);have hs:=h0 n (by omega);have hN:=h1 n (by omega);rw [QJ];have hget:(g.map v1)[g.length - 1 - i]?=some (v1 (st,T)):=by rw [List.getElem?_map,hg];rfl
 have hix:=fun {β:Type}=>Br (β:=β) (size:=4) hget rfl;have hlen:(g.map v1).length=g.length:=List.length_map _;have w1:BF ((g.length:Int) - 1)=(g.length:Int) - 1:=by rw [Az]<;>omega
 have w2:BF ((g.length:Int) - 1 - i)=((g.length - 1 - i:Nat):Int):=by rw [Az (by omega) (by omega)];omega
 have wi:BF ((i:Int)+1)=(i:Int)+1:=by rw [Az]<;>omega
 have hno:¬ ((g.length:Int)<=i):=by omega
 obtain ⟨oT,nT,kT⟩:=T;obtain ⟨os,ns,ks⟩:=s;obtain ⟨oR,nR,kR⟩:=r;simp only [AM,An,Ah4,v1,Tm.op,Tm.n,Tm.kids] at hix hs hN ⊢;simp only [↓QK,↓XX,XY,↓reduceIte,seval,hlen,hno,w1,w2,wi,↓hix,FV.cells,↓Av hs,↓Ar hN];exact A6 rfl
def oE {G:FV} {st:Int} {a:Tm} {ks:List Tm} (hl:ks.length<=1000) (h:∀t∈ks,JC G st t a 0):YQ G st ks a 0:=by
 have hN:∃N,∀n,N<=n->∀t∈ks,BC (SS dt n 33 [.fv G,iv st,.fv t.enc,.fv a.enc] ⟨[],[]⟩) (.int .i64 0):=by
  clear hl
  induction ks with
  | nil=>exact ⟨0,fun n hn t ht=>by simp at ht⟩
  | cons t ks ih =>
   obtain ⟨N1,h1⟩:=ih (fun t ht=>h t (by simp [ht]));obtain ⟨N2,h2⟩:=h t (by simp);refine ⟨N1+N2,fun n hn x hx=>?_⟩;rcases List.mem_cons.1 hx with rfl | hx
   ·exact h2 n (by omega)
   ·exact h1 n (by omega) x hx
 obtain ⟨N,hN⟩:=hN;refine ⟨N+2000,fun n hn=>?_⟩;obtain ⟨n,rfl⟩:=psc n (by omega);exact AaU ks hl (by omega) (hN n (by omega))
theorem cP {n:Nat} {G:FV} {st e:Int} {a:Tm} (ks p0:List Tm) (t0:Tm) (q0:List Tm) (hks:ks=p0++t0::q0) (hl:ks.length<=1000) (hn:ks.length<n) (he:e≠0) (h:∀t∈p0,BC (SS dt n 33 [.fv G,iv st,.fv t.enc,.fv a.enc] ⟨[],[]⟩) (.int .i64 0)) (h0:BC (SS dt n 33 [.fv G,iv st,.fv t0.enc,.fv a.enc] ⟨[],[]⟩) (.int .i64 e)) :
  BC (SS dt (n+1) 51 [.fv G,iv st,.fv (.sl (ks.map Tm.enc)),.fv a.enc] ⟨[],[]⟩) (.int .i64 e):=by
 rw [c51];obtain ⟨oa,na,ka⟩:=a;simp only [An] at h h0 ⊢;simp only [IB,oI,↓XX,XY,↓reduceIte,seval];refine Be (Q:=fun r=>BC r _) (fun k V H=>∃pre rest,p0=pre++rest/\rest.length=k/\V=[.fv G,iv st,.fv (.sl (ks.map Tm.enc)),.ptr (.own 53477376) 0,iv pre.length] /\
  H=⟨[(53477376,.row [iv oa,iv na,.fv (.sl (ka.map Tm.enc))] false)],[]⟩) ?_ n p0.length _ _ (by rw [hks] at hn;simp at hn;omega) ⟨[],p0,rfl,rfl,rfl,rfl⟩
 rintro k V H rec ⟨pre,rest,hk,hkl,rfl,rfl⟩ hrec;have hkk:ks.length=pre.length+rest.length+1+q0.length:=by rw [hks,hk];simp;omega
 have hi:(pre.length:Int)<ks.length:=by rw [hkk];omega
 cases rest with
 | nil =>have hg:=B2 (l:=ks) (pre:=pre) (a:=t0) (rest:=q0) (by rw [hks,hk];simp);obtain ⟨o,p,l⟩:=t0;rw [An] at h0;simp only [IB,Mp,oI,↓XX,XY,↓reduceIte,seval,hi,↓Br (AO hg) (Bm _ _ _),↓Cd,↓Au h0,he];exact Ay _ _
 | cons t rest =>have hg:=B2 (l:=ks) (pre:=pre) (a:=t) (rest:=rest++t0::q0) (by rw [hks,hk];simp);have hc:=h t (by rw [hk];simp);have hwi:BF ((pre.length:Int)+1)=((pre++[t]).length:Int):=(Az (by omega) (by omega)).trans (by simp);simp only [Ah3] at hkl;have h9:=hrec rest.length [.fv G,iv st,.fv (.sl (ks.map Tm.enc)),.ptr (.own 53477376) 0,iv (pre++[t]).length] _ (by omega) ⟨pre++[t],rest,by rw [hk];simp,rfl,rfl,rfl⟩;obtain ⟨o,p,l⟩:=t;rw [An] at hc;simp only [IB,Mp,oI,↓XX,XY,↓reduceIte,seval,hi,↓Br (AO hg) (Bm _ _ _),↓Cd,↓Au hc,hwi];exact h9
def wZ {G:FV} {st e:Int} {a x y:Tm} (he:e≠0) (h0:JC G st x a e):YQ G st [x,y] a e:=by obtain ⟨N,h0⟩:=h0;refine ⟨N+2000,fun n hn=>?_⟩;obtain ⟨n,rfl⟩:=psc n (by omega);exact cP [x,y] [] x [y] rfl (by simp) (by simp;omega) he (by simp) (h0 n (by omega))
def qA {G:FV} {st e:Int} {a x y:Tm} (he:e≠0) (h:JC G st x a 0) (h0:JC G st y a e):YQ G st [x,y] a e:=by obtain ⟨N,h0⟩:=h0;obtain ⟨M,h⟩:=h;refine ⟨N+M+2000,fun n hn=>?_⟩;obtain ⟨n,rfl⟩:=psc n (by omega);exact cP [x,y] [x] y [] rfl (by simp) (by simp;omega) he (by simpa using h n (by omega)) (h0 n (by omega))
def Abm {G:FV} {st:Int} {a x y:Tm} (h:JC G st x a 0) (h0:JC G st y a 0):YQ G st [x,y] a 0 :=
 oE (by simp) (fun t ht=>by
  simp only [List.mem_cons,List.not_mem_nil,or_false] at ht;rcases ht with rfl | rfl
  ·exact h
  ·exact h0)
def jb (g:A8) (st:Int) (a:Tm) (hg:g.length<=100000):JB (AM g) st a (AM (g++[(st,a)])) :=⟨1,fun n hn=>tY g st a hg (by omega)⟩
def jsh {k:Nat} {t:Tm} (d c:Int) (h:t.sc k) (hw:t.wt<=1000000000000000) (hc:0<=c) (hc2:c<=1000000):zQ t d c (t.shift d c) :=⟨t.wt+2,fun n hn=>CS n t d c (by omega) (C5 t k h) hc (by omega)⟩
def xK {k k':Nat} {t u:Tm} (h:t.sc k) (hw:t.wt<=1000000000000000) (hu:u.sc k') (huw:u.wt<=1000000000000000):Ym t u (t.subst 0 0 u) :=⟨t.wt+u.wt+5,fun n hn=>L6 t u 0 (C5 u k' hu) (by omega) (by omega) (C5 t k h) (by omega) (by omega) (by omega)⟩
def jf (t:Tm) (hw:t.wt<=10000000000000):JF t (t.free 0) :=⟨t.wt+2,fun n hn=>XF n t 0 (by omega) (by omega) (by omega) (by omega)⟩
def jn {k:Nat} {t:Tm} (hk:k<=1000) (h:t.sc k) (hd:t.dp<=20000):∃u e,JN t u e/\((e=0/\NOk k u\/(e=5\/e=17)/\u=.z)/\∃f,AE f t=some (u,e)):=Gu hk h hd
def je {k:Nat} (hk:k<=1000) {a b:Tm} (ha:a.sc k) (hb:b.sc k) (hda:a.dp<=20000) (hdb:b.dp<=20000):∃w e,JE a b w e /\
  ((e=5\/e=17)\/e=0/\∃f x f' y,AE f a=some (x,0)/\AE f' b=some (y,0)/\NOk k x/\NOk k y/\w=x.eta.same y.eta):=Yy hk ha hb hda hdb
inductive PV where
 | nil
 | mk (op n:Int) (k:List PV) (t:Tm) (e:List PV)
def PV.enc:PV->FV
 | .nil=>.nilp
 | .mk op n k (.mk to tn tk) e=>.fp [.int .i64 op,.int .i64 n,.sl (encL k),.int .i64 to,.int .i64 tn,.sl (tk.map Tm.enc),encE e] 0
where
 encL:List PV->List FV
  | []=>[]
  | v::l=>v.enc::encL l
 encE:List PV->FV
  | []=>.nilp
  | v::l=>.fp [v.enc,encE l] 0
def PV.encEnv:List PV->FV
 | []=>.nilp
 | v::l=>.fp [v.enc,encEnv l] 0
theorem dA (l:List PV):PV.enc.encL l=l.map PV.enc:=by
 induction l with
 | nil=>rfl
 | cons t l ih=>simp [PV.enc.encL,ih]
theorem dP (l:List PV):PV.enc.encE l=PV.encEnv l:=by
 induction l with
 | nil=>rfl
 | cons t l ih=>simp [PV.enc.encE,PV.encEnv,ih]
theorem GB:PV.nil.enc=.nilp:=rfl
theorem Bc (op n:Int) (k:List PV) (bo bn:Int) (bk:List Tm) (e:List PV):(PV.mk op n k (.mk bo bn bk) e).enc =
  .fp [.int .i64 op,.int .i64 n,.sl (k.map PV.enc),.int .i64 bo,.int .i64 bn,.sl (bk.map Tm.enc),PV.encEnv e] 0:=by simp only [PV.enc,dA,dP]
theorem Rz:PV.encEnv []=.nilp:=rfl
theorem NL (v:PV) (l:List PV):PV.encEnv (v::l)=.fp [v.enc,PV.encEnv l] 0:=rfl
def PV.var (n:Int):PV:=.mk 1 n [] .z []
theorem RH (n:Int):(PV.var n).enc=.fp [.int .i64 1,.int .i64 n,.sl [],.int .i64 0,.int .i64 0,.sl [],.nilp] 0:=by rw [PV.var,Tm.z,Bc];rfl
theorem Nb (v:PV):∀l,v.enc≠.agg l:=by
 intro l h;cases v with
 | nil=>cases h
 | mk op n k t e=>obtain ⟨bo,bn,bk⟩:=t;rw [Bc] at h;cases h
theorem ZO (v:PV):Hb v.enc=true:=by
 cases v with
 | nil=>rfl
 | mk op n k t e=>obtain ⟨bo,bn,bk⟩:=t;rw [Bc];rfl
theorem Ew (v:PV):v.enc.cells=[v.enc]:=by
 cases v with
 | nil=>rfl
 | mk op n k t e=>obtain ⟨bo,bn,bk⟩:=t;rw [Bc];rfl
theorem r9 {β:Type} {l:List PV} {i:Nat} {v:PV} (h:l[i]?=some v) (k:IV->Option β):AR 1 (.fv (.sl (l.map PV.enc))) (iv i) k=k (.fv (.fp [v.enc] 0)):=by
 have h1:(l.map PV.enc)[i]?=some v.enc:=by rw [List.getElem?_map,h];rfl
 rw [Br h1 (by rw [Ew];rfl),Ew]
theorem eC:EE.T 146=some ⟨1,24,.slice 122,[.nils]⟩:=by kernel_rfl
theorem YA:EE.T 122=some ⟨1,8,.ptr,[.fv .nilp]⟩:=by kernel_rfl
theorem zA (a:PV) (s:Nat) (h:Hp) (k:KT (IV×Hp)):AA (Am EE 146 1 [(0,.fv a.enc)]) s h k=k (.clip [a.enc]) h [] []:=by
 cases a with
 | nil=>exact Cx eC YA (by decide) (cells:=[.nilp]) rfl k
 | mk op n kk t e =>obtain ⟨bo,bn,bk⟩:=t;rw [Bc];exact Cx eC YA (by decide) (cells:=[.fp [.int .i64 op,.int .i64 n,.sl (kk.map PV.enc),.int .i64 bo,.int .i64 bn,.sl (bk.map Tm.enc),PV.encEnv e] 0]) rfl k
theorem LD (a:PV):a.enc=.nilp\/∃l,a.enc=.fp l 0:=by
 cases a with
 | nil=>exact .inl rfl
 | mk op n kk t e=>obtain ⟨bo,bn,bk⟩:=t;exact .inr ⟨_,Bc ..⟩
theorem yJ (a b:PV) (s:Nat) (h:Hp) (k:KT (IV×Hp)):AA (Am EE 146 2 [(0,.fv a.enc),(1,.fv b.enc)]) s h k=k (.clip [a.enc,b.enc]) h [] []:=by
 have key:∀x y:FV,(x=.nilp\/∃l,x=.fp l 0)->(y=.nilp\/∃l,y=.fp l 0)->AA (Am EE 146 2 [(0,.fv x),(1,.fv y)]) s h k=k (.clip [x,y]) h [] []:=by
  rintro x y (rfl | ⟨la,rfl⟩) (rfl | ⟨lb,rfl⟩)
  ·exact Cx (len:=2) eC YA (by decide) (cells:=[.nilp,.nilp]) rfl k
  ·exact Cx (len:=2) eC YA (by decide) (cells:=[.nilp,.fp lb 0]) rfl k
  ·exact Cx (len:=2) eC YA (by decide) (cells:=[.fp la 0,.nilp]) rfl k
  ·exact Cx (len:=2) eC YA (by decide) (cells:=[.fp la 0,.fp lb 0]) rfl k
 exact key _ _ (LD a) (LD b)
theorem yM (b d:PV) (s:Nat) (h:Hp) (k:KT (IV×Hp)):AA (Am EE 146 4 [(0,.fv .nilp),(1,.fv b.enc),(2,.fv .nilp),(3,.fv d.enc)]) s h k=k (.clip [.nilp,b.enc,.nilp,d.enc]) h [] []:=by
 have key:∀x y:FV,(x=.nilp\/∃l,x=.fp l 0)->(y=.nilp\/∃l,y=.fp l 0)->AA (Am EE 146 4 [(0,.fv .nilp),(1,.fv x),(2,.fv .nilp),(3,.fv y)]) s h k=k (.clip [.nilp,x,.nilp,y]) h [] []:=by
  rintro x y (rfl | ⟨la,rfl⟩) (rfl | ⟨lb,rfl⟩)
  ·exact Cx (len:=4) eC YA (by decide) (cells:=[.nilp,.nilp,.nilp,.nilp]) rfl k
  ·exact Cx (len:=4) eC YA (by decide) (cells:=[.nilp,.nilp,.nilp,.fp lb 0]) rfl k
  ·exact Cx (len:=4) eC YA (by decide) (cells:=[.nilp,.fp la 0,.nilp,.nilp]) rfl k
  ·exact Cx (len:=4) eC YA (by decide) (cells:=[.nilp,.fp la 0,.nilp,.fp lb 0]) rfl k
 exact key _ _ (LD b) (LD d)
theorem Aac {β:Type} (v:PV) (z:List IV) (o:Nat) (k:List IV->Option β):G4 z o 1 (.fv v.enc) k=GA z o (.fv v.enc) k:=by unfold G4;rw [cO,ZO];rfl
theorem ZW {β:Type} (l:List PV) (z:List IV) (o:Nat) (k:List IV->Option β):G4 z o 1 (.fv (PV.encEnv l)) k=GA z o (.fv (PV.encEnv l)) k:=by
 unfold G4;rw [cO,show Hb (PV.encEnv l)=true by cases l<;>rfl]
 rfl
abbrev De (f:FuncId):IV:=.agg [.func (.func f) [.ptr (.ext 0) 0] []]
abbrev rH:Blk:=.map [(5,De 120),(8,De 121),(9,De 121),(13,De 122),(30,De 123),(19,De 124)]
abbrev MX (s w r e:Int):List Blk:=[.row [iv s,iv w,iv r,iv e,.mapr (.ext 1)] false,rH]
theorem iM (s w r e:Int):∀j,Ref.own j ∉ (MX s w r e).flatMap Blk.refs:=by intro j h;simp only [MX,List.flatMap_cons,List.flatMap_nil,Blk.refs,IV.refs.refsL,IV.refs,Ah5,Ah4,List.append_nil,List.nil_append,List.cons_append,List.mem_cons,List.not_mem_nil,or_false,reduceCtorEq] at h
theorem i1 (s w r e s' w' r' e':Int):ExtX (MX s w r e) (MX s' w' r' e'):=⟨rfl,rfl,rfl⟩
section
variable {ih:Ai} {f:FuncId} {w:FV} {s u r e s' u' r' e':Int} (own:List (Nat×Blk)) (k:KT (IV×Hp))
theorem V9 (args:List IV) (ks:List Bool) (hks:∀b∈ks,b=false) {vs:List FV} (hz:Bx args=some vs) (hr:By (ih f (.ptr (.ext 0) 0::vs.map .fv) ⟨[],MX s u r e⟩) w (MX s' u' r' e')) :
  A5 (true::ks) false false ih f (.ptr (.ext 0) 0::args) ⟨own,MX s u r e⟩ k=k (.fv w) ⟨own,MX s' u' r' e'⟩ [.ext 1,.ext 0] [.ext 0,.ext 1] :=
 VN (fun e k=>LW 0 args _ _ e k ks hks hz) (i1 ..) hr (fun _=>rfl) k
theorem Fu (hr:By (ih f [.ptr (.ext 0) 0] ⟨[],MX s u r e⟩) w (MX s' u' r' e')):A5 [true] false false ih f [.ptr (.ext 0) 0] ⟨own,MX s u r e⟩ k=k (.fv w) ⟨own,MX s' u' r' e'⟩ [.ext 1,.ext 0] [.ext 0,.ext 1]:=V9 own k [] [] (by simp) rfl hr
theorem OS {a:IV} {x:FV} (hr:By (ih f [.ptr (.ext 0) 0,.fv x] ⟨[],MX s u r e⟩) w (MX s' u' r' e')) (ha:Bg a=some x):A5 [true,false] false false ih f [.ptr (.ext 0) 0,a] ⟨own,MX s u r e⟩ k=k (.fv w) ⟨own,MX s' u' r' e'⟩ [.ext 1,.ext 0] [.ext 0,.ext 1] :=V9 own k [a] [false] (by simp) (Tn ha) hr
theorem bJ {a b:IV} {x y:FV} (hr:By (ih f [.ptr (.ext 0) 0,.fv x,.fv y] ⟨[],MX s u r e⟩) w (MX s' u' r' e')) (ha:Bg a=some x) (hb:Bg b=some y):A5 [true,false,false] false false ih f [.ptr (.ext 0) 0,a,b] ⟨own,MX s u r e⟩ k=k (.fv w) ⟨own,MX s' u' r' e'⟩ [.ext 1,.ext 0] [.ext 0,.ext 1] :=V9 own k [a,b] [false,false] (by simp) (SW ha hb) hr
theorem PA {a b c:IV} {x y z:FV} (hr:By (ih f [.ptr (.ext 0) 0,.fv x,.fv y,.fv z] ⟨[],MX s u r e⟩) w (MX s' u' r' e')) (ha:Bg a=some x) (hb:Bg b=some y) (hc:Bg c=some z) :
  A5 [true,false,false,false] false false ih f [.ptr (.ext 0) 0,a,b,c] ⟨own,MX s u r e⟩ k=k (.fv w) ⟨own,MX s' u' r' e'⟩ [.ext 1,.ext 0] [.ext 0,.ext 1] :=
 V9 own k [a,b,c] [false,false,false] (by simp) (YN ha hb hc) hr
end
theorem kE {ih:Ai} {f:FuncId} {w:FV} {s0:Nat} {s u r e s' u' r' e':Int} {own:List (Nat×Blk)} {cells:List IV} {ro:Bool} {fc:List FV} (hr:By (ih f [.ptr (.ext 0) 0,.fv (.fp fc 0)] ⟨[],MX s u r e⟩) w (MX s' u' r' e'))
  (hl:Aq s0 own=some (.row cells ro)) (hz:Du cells=some fc) (hn:cells.length<=300) (k:KT (IV×Hp)) :
  A5 [true,false] false false ih f [.ptr (.ext 0) 0,.ptr (.own s0) 0] ⟨own,MX s u r e⟩ k=k (.fv w) ⟨AQ s0 (.row cells true) own,MX s' u' r' e'⟩ [.ext 1,.ext 0,.own s0] [.own s0,.ext 0,.ext 1]:=by
 refine VN (ks:=[false]) (vs:=[.fp fc 0]) (u:=[(.own s0,.row cells true)]) (lg:=[.own s0]) ?_ (i1 ..) hr ?_ k
 ·intro e k;rw [PL,SE,J7,BB,hl];simp only [Option.bind_some,Hn];rw [Bq,decide_eq_true hn,fX,Vn 10 _ _ _ cells _ hz,rJ];rfl
 ·intro k
  show (EW own s0 fun _=>Bf own s0 (.row cells true) fun own=>k ⟨own,_⟩)=_
  rw [BB,hl,Option.bind_some,BO]
theorem mJ {ih:Ai} {f:FuncId} {w:FV} {s0 s2 len:Nat} {s u r e s' u' r' e':Int} {own own':List (Nat×Blk)} {es:List FV} {ro ro2:Bool} {a b c d t x:FV} (hr:By (ih f [.ptr (.ext 0) 0,.fv (.fp [a,b,.sl es,c,d,t,x] 0)] ⟨[],MX s u r e⟩) w (MX s' u' r' e'))
  (hl:Aq s0 own=some (.row [.fv a,.fv b,.slc (.own s2) 1 len,.fv c,.fv d,.fv t,.fv x] ro)) (hl2:Aq s2 own=some (.row (es.map .fv) ro2)) (hlen:es.length=len) (hne:s2≠s0) (hn:es.length<=300) (ha:∀x∈es,∀l,x≠.agg l)
  (ho:AQ s2 (.row (es.map .fv) true) (AQ s0 (.row [.fv a,.fv b,.slc (.own s2) 1 len,.fv c,.fv d,.fv t,.fv x] true) own)=own') (k:KT (IV×Hp)) :
  A5 [true,false] false false ih f [.ptr (.ext 0) 0,.ptr (.own s0) 0] ⟨own,MX s u r e⟩ k=k (.fv w) ⟨own',MX s' u' r' e'⟩ [.ext 1,.ext 0,.own s2,.own s0] [.own s0,.own s2,.ext 0,.ext 1]:=by
 subst ho hlen;refine VN (ks:=[false]) (vs:=[.fp [a,b,.sl es,c,d,t,x] 0]) (u:=[(.own s0,.row [.fv a,.fv b,.slc (.own s2) 1 es.length,.fv c,.fv d,.fv t,.fv x] true),(.own s2,.row (es.map .fv) true)]) (lg:=[.own s2,.own s0]) ?_ (i1 ..) hr ?_ k
 ·intro e k;rw [PL,zZ hl hl2 hn ha,rJ];rfl
 ·intro k;have h2:∀(own:List (Nat×Blk)) (b:Blk),Aq s2 (AQ s0 b own)=Aq s2 own:=by
   intro own b
   induction own with
   | nil=>simp only [AQ,Aq,if_neg hne]
   | cons p l ih =>
    obtain ⟨j,c⟩:=p;simp only [AQ];split
    ·rename_i h;subst h;simp only [Aq,if_neg hne]
    ·simp only [Aq,ih]
  show (EW own s0 fun _=>Bf own s0 _ fun own=>EW own s2 fun _=>Bf own s2 _ fun own=>k ⟨own,_⟩)=_
  rw [BB,hl,Option.bind_some,BO,BB,h2,hl2,Option.bind_some,BO]
theorem Abn (e:List PV) (l:List FV):D5 (PV.encEnv e::l)=D5 l:=Q0 (by cases e<;>rfl) l
structure M3 where
 s:Int
 w:Int
 e:Int
def Hs (m:M3):Option M3:=if m.w < -1000000000\/1000000000<m.w then none else some ⟨m.s,m.w - 1,if m.w - 1<0/\m.e=0 then 17 else m.e⟩
theorem Qy {m m':M3} (h:Hs m=some m') (r:Int) {n:Nat} (hn:0<n):By (SS dt n 125 [.ptr (.ext 0) 0] ⟨[],MX m.s m.w r m.e⟩) (.tuple []) (MX m'.s m'.w r m'.e):=by
 obtain ⟨n,rfl⟩:=psc n (by omega);rw [AcV];unfold Hs at h;split at h
 ·cases h
 ·cases h;have hw:BF (m.w - 1)=m.w - 1:=by rw [Az]<;>omega
  by_cases h1:m.w - 1<0
  ·by_cases h2:m.e=0
   ·simp only [ZJ,↓XX,XY,↓reduceIte,seval,hw,h1,h2,true_and,and_true,if_true];exact AK _ _ _
   ·simp only [ZJ,↓XX,XY,↓reduceIte,seval,hw,h1,h2,and_false,if_false];exact AK _ _ _
  ·simp only [ZJ,↓XX,XY,↓reduceIte,seval,hw,h1,false_and,if_false];exact AK _ _ _
def FN (env:List PV) (m:Int):PV:=if m<env.length then env.getD m.toNat .nil else .var (env.length - 1 - m)
theorem RI:∀(env:List PV) (m:Int),0<=m->m<=2305843009213693952->∀n,env.length<n->BC (BK n (fun q3 l4 h5=>JX l4 h5 q3) [.fv (PV.encEnv env),iv m] ⟨[],[]⟩) (FN env m).enc:=by
 intro env m h0 h1 n hn;refine Be (Q:=fun r=>BC r _) (fun k V H=>∃(rest:List PV) (j:Int),rest.length=k/\0<=j+env.length/\j<=m/\V=[.fv (PV.encEnv rest),iv j]/\H=⟨[],[]⟩/\FN rest j=FN env m/\0<=j) ?_ n env.length _ _ hn ⟨env,m,rfl,by omega,Int.le_refl _,rfl,rfl,rfl,h0⟩;rintro k V H rec ⟨rest,j,hl,hj,hjm,rfl,rfl,hlk,hj0⟩ hrec;have hw:BF (-1 - j)=-1 - j:=by rw [Az]<;>omega
 have hw2:BF (j - 1)=j - 1:=by rw [Az]<;>omega
 cases rest with
 | nil =>
  have:FN ([]:List PV) j=.var (-1 - j):=by unfold FN;rw [if_neg (by simp<;>omega)];rfl
  rw [<- hlk,this,RH];simp only [JX,eJ,Rz,↓XX,XY,↓reduceIte,seval,hw];exact ⟨_,_,rfl,.inl ⟨_,_,fun _ _=>rfl⟩⟩
 | cons v rest =>
  by_cases hz:j=0
  ·subst hz
   have:FN (v::rest) 0=v:=by unfold FN;rw [if_pos (by simp<;>omega)];rfl
   rw [<- hlk,this];simp only [JX,eJ,NL,↓XX,XY,↓reduceIte,seval];exact Ay _ _
  ·simp only [JX,eJ,NL,↓XX,XY,↓reduceIte,seval,hz,hw2];simp only [Ah3] at hl;refine hrec rest.length _ _ (by omega) ⟨rest,j - 1,rfl,by omega,by omega,rfl,rfl,?_,by omega⟩;rw [<- hlk];unfold FN;simp only [Ah3,Int.natCast_add,Int.natCast_one];by_cases h:j<rest.length+1
   ·rw [if_pos h,if_pos (by omega)];obtain ⟨i,rfl⟩:∃i:Nat,j=i+1:=⟨(j - 1).toNat,by omega⟩;rw [show ((i:Int)+1 - 1).toNat=i by omega,show ((i:Int)+1).toNat=i+1 by omega]
    rfl
   ·rw [if_neg h,if_neg (by omega)];congr 1;omega
theorem TP {n:Nat} (env:List PV) (m:Int) (h0:0<=m) (h1:m<=2305843009213693952) (hn:env.length+1<n):BC (SS dt n 126 [.fv (PV.encEnv env),iv m] ⟨[],[]⟩) (FN env m).enc:=by obtain ⟨n,rfl⟩:=psc n (by omega);rw [AdF];exact RI env m h0 h1 n (by omega)
theorem rU {n:Nat} (env l:List PV) (hl:l.length<=10) (hn:l.length+1<n):BC (SS dt n 142 [.fv (PV.encEnv env),.fv (.sl (l.map PV.enc))] ⟨[],[]⟩) (PV.encEnv (l.reverse++env)):=by
 obtain ⟨n,rfl⟩:=psc n (by omega);rw [AcT];simp only [Li,cN,↓XX,XY,↓reduceIte,seval,↓AJ,XD,heldB,AS,XE];refine Be (Q:=fun r=>BC r _) (fun k V H=>∃(pre rest:List PV),l=pre++rest/\rest.length=k/\V=[.fv (PV.encEnv (pre.reverse++env)),.fv (.sl (l.map PV.enc)),iv l.length,iv pre.length]/\H=⟨[],[]⟩) ?_ n l.length _ _ (by omega) ⟨[],l,rfl,rfl,rfl,rfl⟩;rintro k V H rec ⟨pre,rest,hk,hl2,rfl,rfl⟩ hrec;have hkl:l.length=pre.length+rest.length:=by rw [hk];simp
 cases rest with
 | nil =>
  have hno:¬ ((pre.length:Int)<l.length):=by rw [hkl];simp
  rw [List.append_nil] at hk;subst hk;simp only [Li,OR,cN,↓XX,XY,↓reduceIte,seval,hno];exact Ay _ _
 | cons x rest =>
  have hi:(pre.length:Int)<l.length:=by rw [hkl];simp;omega
  have hg:=B2 hk;have hwi:BF ((pre.length:Int)+1)=((pre++[x]).length:Int):=(Az (by omega) (by omega)).trans (by simp);simp only [Ah3] at hl2;simp only [Li,OR,cN,↓XX,XY,↓reduceIte,seval,hi,↓r9 hg,↓Aac,↓ZW,hwi,↓AJ,XD,heldB,AS,XE];refine hrec rest.length _ _ (by omega) ⟨pre++[x],rest,by rw [hk];simp,rfl,?_,rfl⟩;simp [PV.encEnv]
def PV.op:PV->Int
 | .nil=>0
 | .mk op _ _ _ _=>op
def Qb (ev:Tm->M3->Option (PV×M3)) (op:Int):Nat->List Tm->M3->Option (List PV×M3)
 | _,[],m=>some ([],m)
 | i,t::l,m=>if 0<Al op i then (Qb ev op (i+1) l m).map fun (vs,m)=>(.nil::vs,m) else
  match ev t m with
  | none=>none
  | some (v,m)=>(Qb ev op (i+1) l m).map fun (vs,m)=>(v::vs,m)
def C9 (op:Int):Bool:=op == 5 || (op == 8 || (op == 9 || (op == 13 || (op == 30 || op == 19))))
mutual
def O0:Nat->List PV->Tm->M3->Option (PV×M3)
 | 0,_,_,_=>none
 | f+1,env,.mk op n ks,m=>match Hs m with
  | none=>none
  | some m=>if op=1 then (if 0<=n/\n<=2305843009213693952/\env.length+1<f then some (FN env n,m) else none)
   else if f<=ks.length\/300<ks.length\/f=0 then none
   else if m.e≠0 then some (.mk op n (List.replicate ks.length .nil) (.mk op n ks) env,m)
   else match Qb (fun t m=>O0 f env t m) op 0 ks m with
    | none=>none
    | some (vs,m)=>if m.e≠0 then some (.mk op n vs (.mk op n ks) env,m) else ctP f (.mk op n vs (.mk op n ks) env) m
def ctP:Nat->PV->M3->Option (PV×M3)
 | 0,_,_=>none
 | f+1,v,m=>match v with
  | .nil=>none
  | .mk op n k t e=>if C9 op then (if m.e≠0 then some (.mk op n k t e,m) else if f=0 then none else match Hs m with
    | none=>none
    | some m=>if m.e≠0 then some (.mk op n k t e,m) else match stP f (.mk op n k t e) m with
     | none=>none
     | some (.nil,m)=>some (.mk op n k t e,m)
     | some (u,m)=>if m.e≠0 then some (.mk op n k t e,m) else if m.s < -1000000000\/1000000000<m.s then none else
      some (u,⟨m.s - 1,m.w,if m.s - 1<0 then 17 else 0⟩))
   else some (.mk op n k t e,m)
def stP:Nat->PV->M3->Option (PV×M3)
 | 0,_,_=>none
 | f+1,v,m=>match v with
  | .nil=>none
  | .mk op n k t e=>if op=5 then (match k with
    | [.mk o0 n0 k0 t0 e0,x]=>if o0=4 then opP f (.mk o0 n0 k0 t0 e0) 1 [x] m else some (.nil,m)
    | _=>none)
   else if op=8\/op=9 then (match k with
    | [.mk o0 n0 k0 t0 e0]=>if o0=7 then (match k0 with
      | [_,x,y]=>some (if op=8 then x else y,m)
      | _=>none) else some (.nil,m)
    | _=>none)
   else if op=13 then (match k with
    | [_,z,_,.mk o3 n3 k3 t3 e3]=>if o3=11 then some (z,m) else if o3=12 then (match k3 with
      | [x]=>(match ctP f (.mk op n [.nil,z,.nil,x] t e) m with
       | none=>none
       | some (h,m)=>opP f (.mk op n k t e) 2 [x,h] m)
      | _=>none) else some (.nil,m)
    | _=>none)
   else (
      match k with
    | [.mk o0 n0 k0 t0 e0]=>if o0=(if op=30 then 19 else 30) then (match k0 with
      | [x]=>some (x,m)
      | _=>none) else some (.nil,m)
    | _=>none)
def opP:Nat->PV->Nat->List PV->M3->Option (PV×M3)
 | 0,_,_,_,_=>none
 | f+1,v,i,l,m=>match v with
  | .nil=>none
  | .mk _ _ _ (.mk _ _ tk) e=>if f<=l.length+1\/10<l.length then none else match tk[i]? with
   | none=>none
   | some b=>O0 f (l.reverse++e) b m
end
theorem tMk:(EE.T 124).map (·.kind)=some (.map 3 143):=by kernel_rfl
theorem tIk:(EE.T 3).map (·.kind)=some (.int .i64):=by kernel_rfl
theorem tRz:(EE.T 143).bind PC=some (.fv (.agg [.nilf])):=by kernel_rfl
def Jh:List (Int×IV):=[(5,De 120),(8,De 121),(9,De 121),(13,De 122),(30,De 123),(19,De 124)]
theorem AbN (op:Int) (own:List (Nat×Blk)) (s w r e:Int):(Gq EE 124 (.mapr (.ext 1)) (iv op) true).runLog ⟨own,MX s w r e⟩ [] =
  some ((match Do op Jh with
   | some v=>({ eff:={ val:=CL [v,.fv (.bool true)] } }:Made)
   | none=>{ eff:={ val:=CL [.fv (.agg [.nilf]),.fv (.bool false)] } }),[.ext 1]):=by
 have h1:=tMk;have h2:=tIk;have h3:=tRz;cases hm:EE.T 124 with
 | none=>rw [hm] at h1;cases h1
 | some ti =>
  cases hi:EE.T 3 with
  | none=>rw [hi] at h2;cases h2
  | some ii =>
   cases hr:EE.T 143 with
   | none=>rw [hr] at h3;cases h3
   | some ri =>
    rw [hm] at h1;rw [hi] at h2;rw [hr] at h3;obtain ⟨a,b,kd,z⟩:=ti;obtain ⟨a2,b2,kd2,z2⟩:=ii;simp only [Ah2,AhZ] at h1 h2;simp only [Option.bind_some] at h3;subst h1 h2;simp only [Gq,hm,hi,hr,TV,Rd.runLog,Hp.get,MX,Aic,Aib]
    show (match Do op Jh with | some v=>val (CL [v,.fv (.bool true)]) | none=>_).runLog _ _=_
    cases Do op Jh with
    | some v=>rfl
    | none=>simp only [h3];rfl
theorem Kn {op:Int} {g:FuncId} (hg:Do op Jh=some (De g)) (s0:Nat) (own:List (Nat×Blk)) (s w r e:Int) (k:KT (IV×Hp)) :
  AA (Gq EE 124 (.mapr (.ext 1)) (iv op) true) s0 ⟨own,MX s w r e⟩ k=k (.tuple [De g,.fv (.bool true)]) ⟨own,MX s w r e⟩ [.ext 1] []:=by
 unfold AA;rw [AbN,hg];simp only [Hy,Cm];rfl
theorem mN {op:Int} (hg:Do op Jh=none) (s0:Nat) (own:List (Nat×Blk)) (s w r e:Int) (k:KT (IV×Hp)) :
  AA (Gq EE 124 (.mapr (.ext 1)) (iv op) true) s0 ⟨own,MX s w r e⟩ k=k (.fv (.tuple [.agg [.nilf],.bool false])) ⟨own,MX s w r e⟩ [.ext 1] []:=by
 unfold AA;rw [AbN,hg];simp only [Hy,Cm];rfl
theorem VL (op:Int):Do op Jh=if op=5 then some (De 120) else if op=8\/op=9 then some (De 121) else if op=13 then some (De 122) else
  if op=30 then some (De 123) else if op=19 then some (De 124) else none:=by
 simp only [Jh,Do];split
 ·rfl
 ·split
  ·rename_i h;rw [if_pos (.inl h)]
  ·split
   ·rename_i h;rw [if_pos (.inr h)]
   ·rename_i h1 h2;simp only [h1,h2,or_self,if_false]
theorem QV {g:FuncId} (h:EE.pol.inl g=false) (h1:EE.pol.keep g=[true,false]) (h2:EE.pol.split g=false) (h3:EE.pol.raw g=false) (ih:Ai) (x:IV) (h0:Hp) (k:KT (IV×Hp)) :
  CN EE ih (.func (.func g) [.ptr (.ext 0) 0] []) [x] h0 k=A5 [true,false] false false ih g [.ptr (.ext 0) 0,x] h0 k:=by
 unfold CN;simp only [callee,h,cond_false,ZF,h1,h2,h3];rfl
theorem pQ (ih:Ai) (x:IV) (h0:Hp) (k:KT (IV×Hp)):CN EE ih (.func (.func 120) [.ptr (.ext 0) 0] []) [x] h0 k=A5 [true,false] false false ih 120 [.ptr (.ext 0) 0,x] h0 k :=QV (by kernel_rfl) (by kernel_rfl) (by kernel_rfl) (by kernel_rfl) ..
theorem WB (ih:Ai) (x:IV) (h0:Hp) (k:KT (IV×Hp)):CN EE ih (.func (.func 121) [.ptr (.ext 0) 0] []) [x] h0 k=A5 [true,false] false false ih 121 [.ptr (.ext 0) 0,x] h0 k :=QV (by kernel_rfl) (by kernel_rfl) (by kernel_rfl) (by kernel_rfl) ..
theorem qL (ih:Ai) (x:IV) (h0:Hp) (k:KT (IV×Hp)):CN EE ih (.func (.func 122) [.ptr (.ext 0) 0] []) [x] h0 k=A5 [true,false] false false ih 122 [.ptr (.ext 0) 0,x] h0 k :=QV (by kernel_rfl) (by kernel_rfl) (by kernel_rfl) (by kernel_rfl) ..
theorem uQ (ih:Ai) (x:IV) (h0:Hp) (k:KT (IV×Hp)):CN EE ih (.func (.func 123) [.ptr (.ext 0) 0] []) [x] h0 k=A5 [true,false] false false ih 123 [.ptr (.ext 0) 0,x] h0 k :=QV (by kernel_rfl) (by kernel_rfl) (by kernel_rfl) (by kernel_rfl) ..
theorem p8 (ih:Ai) (x:IV) (h0:Hp) (k:KT (IV×Hp)):CN EE ih (.func (.func 124) [.ptr (.ext 0) 0] []) [x] h0 k=A5 [true,false] false false ih 124 [.ptr (.ext 0) 0,x] h0 k :=QV (by kernel_rfl) (by kernel_rfl) (by kernel_rfl) (by kernel_rfl) ..
theorem Xo (cs:List FV) (o:Nat) (k:IV->Option (IV×Hp)):AP EE 122 (.fv (.fp cs o)) (.fv .nilp) k=k (.fv (.bool false)):=by
 have:EQ EE .eql 122 (.fv (.fp cs o)) (.fv .nilp)=some (.fv (.bool false)):=by simp only [EQ,YA];rfl
 show CY (EQ EE .eql 122 (.fv (.fp cs o)) (.fv .nilp)) k=_
 rw [this];rfl
theorem Ul (k:IV->Option (IV×Hp)):AP EE 122 (.fv .nilp) (.fv .nilp) k=k (.fv (.bool true)):=by
 have:EQ EE .eql 122 (.fv .nilp) (.fv .nilp)=some (.fv (.bool true)):=by simp only [EQ,YA];rfl
 show CY (EQ EE .eql 122 (.fv .nilp) (.fv .nilp)) k=_
 rw [this];rfl
theorem HT (g:FuncId) (s0:Nat) (ext:List Blk) (k:Hp->List Ref->List Ref->Option (IV×Hp)):Ac 1 (.ptr (.own s0) 0) (De g) ⟨[(s0,.row [.fv .nilf] false)],ext⟩ k=k ⟨[(s0,.row [.func (.func g) [.ptr (.ext 0) 0] []] false)],ext⟩ [.own s0] [.own s0]:=by
 simp only [Ac,S6,Pg,J7,pK,W4];rw [if_pos ⟨rfl,rfl,by simp,rfl,rfl⟩,ZF]
 show FJ (.own s0) (.row [.func (.func g) [.ptr (.ext 0) 0] []] false) _ _=_
 rw [VW,oC]
def lY (f:Nat):Prop:=∀(env:List PV) (t:Tm) (m m':M3) (v:PV),O0 f env t m=some (v,m')->∀(r:Int) (n:Nat),f+1<=n ->
 By (SS dt n 97 [.ptr (.ext 0) 0,.fv (PV.encEnv env),.fv t.enc] ⟨[],MX m.s m.w r m.e⟩) v.enc (MX m'.s m'.w r m'.e)
def iX (f:Nat):Prop:=∀(v u:PV) (m m':M3),ctP f v m=some (u,m')->∀(r:Int) (n:Nat),f+1<=n ->
 By (SS dt n 128 [.ptr (.ext 0) 0,.fv v.enc] ⟨[],MX m.s m.w r m.e⟩) u.enc (MX m'.s m'.w r m'.e)
def Ii (op:Int):FuncId:=if op=5 then 120 else if op=8\/op=9 then 121 else if op=13 then 122 else if op=30 then 123 else 124
def sE (f:Nat):Prop:=∀(v u:PV) (m m':M3),C9 v.op=true->stP f v m=some (u,m')->∀(r:Int) (n:Nat),f+1<=n ->
 By (SS dt n (Ii v.op) [.ptr (.ext 0) 0,.fv v.enc] ⟨[],MX m.s m.w r m.e⟩) u.enc (MX m'.s m'.w r m'.e)
def dI (f:Nat):Prop:=∀(v u:PV) (i:Nat) (l:List PV) (m m':M3),opP f v i l m=some (u,m')->∀(r:Int) (n:Nat),f+1<=n ->
 By (SS dt n 129 [.ptr (.ext 0) 0,.fv v.enc,iv i,.fv (.sl (l.map PV.enc))] ⟨[],MX m.s m.w r m.e⟩) u.enc (MX m'.s m'.w r m'.e)
def Gz {op:Int} (h:C9 op=true):Do op Jh=some (De (Ii op)):=by rw [VL];unfold Ii;simp only [C9,Bool.or_eq_true,beq_iff_eq] at h;rcases h with h | h | h | h | h | h<;>subst h<;>rfl
def Yc {op:Int} (h:C9 op=false):Do op Jh=none:=by rw [VL];simp only [C9,Bool.or_eq_false_iff,beq_eq_false_iff_ne,ne_eq] at h;obtain ⟨h1,h2,h3,h4,h5,h6⟩:=h;simp only [h1,h2,h3,h4,h5,h6,or_self,if_false]
def Lu {op:Int} (h:C9 op=true) (ih:Ai) (x:IV) (h0:Hp) (k:KT (IV×Hp)) :
  CN EE ih (.func (.func (Ii op)) [.ptr (.ext 0) 0] []) [x] h0 k=A5 [true,false] false false ih (Ii op) [.ptr (.ext 0) 0,x] h0 k:=by
 simp only [C9,Bool.or_eq_true,beq_iff_eq] at h;rcases h with h | h | h | h | h | h<;>subst h
 ·exact pQ ..
 ·exact WB ..
 ·exact WB ..
 ·exact qL ..
 ·exact uQ ..
 ·exact p8 ..
theorem gT {f:Nat} (hs:sE f):iX (f+1):=by
 intro v u m m' hev r n hn;obtain ⟨n,rfl⟩:=psc n (by omega);rw [Aee];cases v with
 | nil=>rw [ctP] at hev;cases hev
 | mk op nn k t e =>
 rw [ctP] at hev;have hs:=hs (.mk op nn k t e);obtain ⟨bo,bn,bk⟩:=t;rw [Bc] at hs ⊢;cases hr:C9 op with
 | false =>simp only [hr,Bool.false_eq_true,if_false,AhZ,Ah0] at hev;obtain ⟨rfl,rfl⟩:=hev;rw [Bc];simp only [EJ,Pu,↓XX,XY,↓reduceIte,seval,↓mN (Yc hr)];exact AK _ _ _
 | true =>
  simp only [hr,if_true] at hev;by_cases h0:m.e≠0
  ·rw [if_pos h0] at hev;simp only [AhZ,Ah0] at hev;obtain ⟨rfl,rfl⟩:=hev;rw [Bc];simp only [EJ,Pu,↓XX,XY,↓reduceIte,seval,↓Kn (Gz hr),↓HT,h0];exact AK _ _ _
  ·rw [if_neg h0] at hev;have h0:m.e=0:=by simpa using h0
   split at hev
   ·cases hev
   ·rename_i hf0;cases ht:Hs m with
    | none=>rw [ht] at hev;cases hev
    | some m1 =>
     rw [ht] at hev;simp only at hev;have hc1:=Qy ht r (n:=n) (by omega);by_cases h1:m1.e≠0
     ·rw [if_pos h1] at hev;simp only [AhZ,Ah0] at hev;obtain ⟨rfl,rfl⟩:=hev;rw [Bc];simp only [h0] at hc1;simp only [EJ,Pu,↓XX,XY,↓reduceIte,seval,↓Kn (Gz hr),↓HT,h0,↓Fu _ _ hc1,h1];exact AK _ _ _
     ·rw [if_neg h1] at hev;have h1:m1.e=0:=by simpa using h1
      cases hst:stP f (.mk op nn k (.mk bo bn bk) e) m1 with
      | none=>rw [hst] at hev;cases hev
      | some q =>
       obtain ⟨x,m2⟩:=q;rw [hst] at hev;have hc2:=hs x m1 m2 hr hst r n (by omega);simp only [PV.op] at hc2;simp only [h0] at hc1;simp only [h1] at hc1 hc2;cases x with
       | nil =>simp only [AhZ,Ah0] at hev;obtain ⟨rfl,rfl⟩:=hev;rw [Bc];rw [GB] at hc2;simp only [EJ,Pu,↓XX,XY,↓reduceIte,seval,↓Kn (Gz hr),↓HT,h0,↓Fu _ _ hc1,h1,↓Lu hr,↓OS _ _ hc2,↓Xo,↓Ul];exact AK _ _ _
       | mk op2 nn2 k2 t2 e2 =>
        simp only at hev;obtain ⟨bo2,bn2,bk2⟩:=t2;by_cases h2:m2.e≠0
        ·rw [if_pos h2] at hev;simp only [AhZ,Ah0] at hev;obtain ⟨rfl,rfl⟩:=hev;rw [Bc] at hc2 ⊢;simp only [EJ,Pu,↓XX,XY,↓reduceIte,seval,↓Kn (Gz hr),↓HT,h0,↓Fu _ _ hc1,h1,↓Lu hr,↓OS _ _ hc2,↓Xo,↓Ul,h2];exact AK _ _ _
        ·rw [if_neg h2] at hev;have h2:m2.e=0:=by simpa using h2
         split at hev
         ·cases hev
         ·simp only [AhZ,Ah0] at hev;obtain ⟨rfl,rfl⟩:=hev;have hw:BF (m2.s - 1)=m2.s - 1:=by rw [Az]<;>omega
          rw [Bc] at hc2 ⊢;simp only [h2] at hc2;by_cases h3:m2.s - 1<0
          ·simp only [EJ,Pu,↓XX,XY,↓reduceIte,seval,↓Kn (Gz hr),↓HT,h0,↓Fu _ _ hc1,h1,↓Lu hr,↓OS _ _ hc2,↓Xo,↓Ul,h2,hw,h3];exact AK _ _ _
          ·simp only [EJ,Pu,↓XX,XY,↓reduceIte,seval,↓Kn (Gz hr),↓HT,h0,↓Fu _ _ hc1,h1,↓Lu hr,↓OS _ _ hc2,↓Xo,↓Ul,h2,hw,h3];exact AK _ _ _
theorem pG {β:Type} {l:List FV} {i:Nat} {x:FV} (h:l[i]?=some x) (hx:x.cells=[x]) (k:IV->Option β):AR 1 (.fv (.sl l)) (iv i) k=k (.fv (.fp [x] 0)):=by rw [Br h (by rw [hx];rfl),hx]
section
variable {β:Type} (a b c:FV) (l:List FV) (cs:List FV) (o:Nat) (v:PV) (k:IV->Option β)
theorem Afl:AR 1 (.fv (.sl (.fp cs o::l))) (iv 0) k=k (.fv (.fp [.fp cs o] 0)):=pG (i:=0) rfl rfl k
theorem AcF:AR 1 (.fv (.sl (v.enc::l))) (iv 0) k=k (.fv (.fp [v.enc] 0)):=pG (i:=0) rfl (Ew v) k
theorem AcU:AR 1 (.fv (.sl (a :: .fp cs o::l))) (iv 1) k=k (.fv (.fp [.fp cs o] 0)):=pG (i:=1) rfl rfl k
theorem Ae4:AR 1 (.fv (.sl (a::v.enc::l))) (iv 1) k=k (.fv (.fp [v.enc] 0)):=pG (i:=1) rfl (Ew v) k
theorem Ad7:AR 1 (.fv (.sl (a::b :: .fp cs o::l))) (iv 2) k=k (.fv (.fp [.fp cs o] 0)):=pG (i:=2) rfl rfl k
theorem AeX:AR 1 (.fv (.sl (a::b::v.enc::l))) (iv 2) k=k (.fv (.fp [v.enc] 0)):=pG (i:=2) rfl (Ew v) k
theorem AdV:AR 1 (.fv (.sl (a::b::c :: .fp cs o::l))) (iv 3) k=k (.fv (.fp [.fp cs o] 0)):=pG (i:=3) rfl rfl k
theorem Ac6:AR 1 (.fv (.sl (a::b::c::v.enc::l))) (iv 3) k=k (.fv (.fp [v.enc] 0)):=pG (i:=3) rfl (Ew v) k
end
def XI:=AhY @Afl<|AhY @AcU<|AhY @Ad7<|AhY @AdV<|AhY @AcF<|AhY @Ae4<|AhY @AeX @Ac6
theorem AbM {β:Type} (o p:Nat) (cs:List FV) (k:IV->Option β):Ab o (.fv (.fp cs p)) k=k (.fv (.fp cs (p+o))):=by rw [Ov]
theorem xA (s:Nat) (b:Blk) (l:List (Nat×Blk)):Aq s ((s,b)::l)=some b:=by simp only [Aq,if_true]
theorem nO {f:Nat} (he:lY f):dI (f+1):=by
 intro v u i l m m' hev r n hn;obtain ⟨n,rfl⟩:=psc n (by omega);rw [AeV];cases v with
 | nil=>rw [opP] at hev;cases hev
 | mk op nn k t e =>
 obtain ⟨bo,bn,bk⟩:=t;rw [opP] at hev;split at hev
 ·cases hev
 ·rename_i hf;cases hb:bk[i]? with
  | none=>rw [hb] at hev;cases hev
  | some b =>rw [hb] at hev;simp only at hev;have hw:=rU (n:=n) e l (by omega) (by omega);have hc:=he _ _ _ _ _ hev r n (by omega);rw [Bc];obtain ⟨b1,b2,b3⟩:=b;have hg:=AO hb;rw [An] at hc;simp only [vN,↓XX,XY,↓reduceIte,seval,↓Ag hw,↓Br hg (Bm _ _ _),↓Cd,↓AbM,↓bJ _ _ hc];exact AK _ _ _
theorem R0 {n:Nat} (hn:0<n) (op nn:Int) (o0 n0:Int) (k0:List PV) (t0:Tm) (e0:List PV) (t:Tm) (e:List PV) (want:Int) (hk:o0=want->∃x,k0=[x]) :
  BC (SS dt n 140 [.fv (PV.mk op nn [.mk o0 n0 k0 t0 e0] t e).enc,iv want] ⟨[],[]⟩) (if o0=want then k0.headD .nil else .nil).enc:=by
 obtain ⟨n,rfl⟩:=psc n (by omega);rw [Aed];obtain ⟨bo,bn,bk⟩:=t;obtain ⟨co,cn,ck⟩:=t0;rw [Bc,Ah5,Ah4,Bc];by_cases h:o0=want
 ·obtain ⟨x,rfl⟩:=hk h;rw [if_pos h];simp only [iU,↓XX,XY,↓reduceIte,seval,↓XI,h,List.headD_cons];exact Ay _ _
 ·rw [if_neg h,GB];simp only [iU,↓XX,XY,↓reduceIte,seval,↓XI,h];exact Ay _ _
theorem jK {f:Nat} (hc:iX f) (ho:dI f):sE (f+1):=by
 intro v u m m' hr hev r n hn;obtain ⟨n,rfl⟩:=psc n (by omega);cases v with
 | nil=>rw [stP] at hev;cases hev
 | mk op nn k t e =>
 obtain ⟨bo,bn,bk⟩:=t;rw [stP.eq_def] at hev;simp only at hev;simp only [PV.op] at hr ⊢;by_cases h5:op=5
 ·subst h5;rw [if_pos rfl] at hev;rw [show Ii 5=120 from rfl,Adb]
  match k,hev with
  | [.mk o0 n0 k0 t0 e0,x],hev =>
   simp only at hev;obtain ⟨co,cn,ck⟩:=t0;by_cases h4:o0=4
   ·subst h4;rw [if_pos rfl] at hev;have hq:=ho _ _ _ _ _ _ hev r n (by omega);rw [Bc] at hq ⊢;simp only [Ah5,Ah4,Bc] at hq ⊢;simp only [lZ,↓XX,XY,↓reduceIte,seval,↓XI,↓zA,↓PA _ _ hq];exact AK _ _ _
   ·rw [if_neg h4] at hev;simp only [AhZ,Ah0] at hev;obtain ⟨rfl,rfl⟩:=hev;rw [Bc];simp only [Ah5,Ah4,Bc,GB];simp only [lZ,↓XX,XY,↓reduceIte,seval,↓XI,h4];exact AK _ _ _
 ·rw [if_neg h5] at hev;by_cases h8:op=8\/op=9
  ·rw [if_pos h8] at hev;rw [show Ii op=121 by rcases h8 with rfl | rfl<;>rfl,Aeq]
   match k,hev with
   | [.mk o0 n0 k0 t0 e0],hev =>
    simp only at hev;obtain ⟨co,cn,ck⟩:=t0;by_cases h7:o0=7
    ·subst h7;rw [if_pos rfl] at hev
     match k0,hev with
     | [w,x,y],hev =>
      simp only [AhZ,Ah0] at hev;obtain ⟨rfl,rfl⟩:=hev;rw [Bc];simp only [Ah5,Ah4,Bc];rcases h8 with rfl | rfl
      ·simp only [aW,↓XX,XY,↓reduceIte,seval,↓XI];exact AK _ _ _
      ·simp only [aW,↓XX,XY,↓reduceIte,seval,↓XI];exact AK _ _ _
    ·rw [if_neg h7] at hev;simp only [AhZ,Ah0] at hev;obtain ⟨rfl,rfl⟩:=hev;rw [Bc];simp only [Ah5,Ah4,Bc,GB];simp only [aW,↓XX,XY,↓reduceIte,seval,↓XI,h7];exact AK _ _ _
  ·rw [if_neg h8] at hev;by_cases h13:op=13
   ·subst h13;rw [if_pos rfl] at hev;rw [show Ii 13=122 from rfl,AcY]
    match k,hev with
    | [p0,z,p2,.mk o3 n3 k3 t3 e3],hev =>
     simp only at hev;obtain ⟨co,cn,ck⟩:=t3;by_cases h11:o3=11
     ·subst h11;rw [if_pos rfl] at hev;simp only [AhZ,Ah0] at hev;obtain ⟨rfl,rfl⟩:=hev;rw [Bc];simp only [Ah5,Ah4,Bc];simp only [LB,Y9,↓XX,XY,↓reduceIte,seval,↓XI];exact AK _ _ _
     ·rw [if_neg h11] at hev;by_cases h12:o3=12
      ·subst h12;rw [if_pos rfl] at hev
       match k3,hev with
       | [x],hev =>
        simp only at hev;cases hcc:ctP f (.mk 13 nn [.nil,z,.nil,x] (.mk bo bn bk) e) m with
        | none=>rw [hcc] at hev;cases hev
        | some q =>
         obtain ⟨h,m1⟩:=q;rw [hcc] at hev;have hq1:=hc _ _ _ _ hcc r n (by omega);have hq2:=ho _ _ _ _ _ _ hev r n (by omega);rw [Bc] at hq1 hq2 ⊢;simp only [Ah5,Ah4,Bc,GB] at hq1 hq2 ⊢;simp only [LB,Y9,↓XX,XY,↓reduceIte,seval,↓XI,↓yM,↓Abn]
         (try unfold is0);rw [kE hq1 (s0:=127932419) (xA ..) rfl (by simp)]
         simp only [↓XX,XY,↓reduceIte,seval,↓yJ,↓PA _ _ hq2];exact AK _ _ _
      ·rw [if_neg h12] at hev;simp only [AhZ,Ah0] at hev;obtain ⟨rfl,rfl⟩:=hev;rw [Bc];simp only [Ah5,Ah4,Bc,GB];simp only [LB,Y9,↓XX,XY,↓reduceIte,seval,↓XI,h11,h12];exact AK _ _ _
   ·rw [if_neg h13] at hev
    match k,hev with
    | [.mk o0 n0 k0 t0 e0],hev =>
     simp only at hev;have h30:op=30\/op=19:=by simp only [C9,Bool.or_eq_true,beq_iff_eq] at hr;omega
     have hu:((o0=(if op=30 then 19 else 30)->∃x,k0=[x])/\(if o0=(if op=30 then 19 else 30) then k0.headD .nil else .nil)=u/\m=m'):=by
      by_cases ho0:o0=(if op=30 then 19 else 30)
      ·rw [if_pos ho0] at hev
       match k0,hev with
       | [x],hev =>simp only [AhZ,Ah0] at hev;obtain ⟨rfl,rfl⟩:=hev;exact ⟨fun _=>⟨_,rfl⟩,by rw [if_pos ho0];rfl,rfl⟩
      ·rw [if_neg ho0] at hev;simp only [AhZ,Ah0] at hev;obtain ⟨rfl,rfl⟩:=hev;exact ⟨fun h=>absurd h ho0,by rw [if_neg ho0],rfl⟩
     obtain ⟨hu1,rfl,rfl⟩:=hu;rcases h30 with rfl | rfl
     ·rw [show Ii 30=123 from rfl,AcC]
      rw [show (if (30:Int)=30 then (19:Int) else 30)=19 from rfl] at hu1 ⊢
      have hw:=R0 (n:=n) (by omega) 30 nn o0 n0 k0 t0 e0 (.mk bo bn bk) e 19 hu1;simp only [sC,↓XX,XY,↓reduceIte,seval,↓Ag hw];exact AK _ _ _
     ·rw [show Ii 19=124 from rfl,Afe]
      rw [show (if (19:Int)=30 then (19:Int) else 30)=30 from rfl] at hu1 ⊢
      have hw:=R0 (n:=n) (by omega) 19 nn o0 n0 k0 t0 e0 (.mk bo bn bk) e 30 hu1;simp only [uY,↓XX,XY,↓reduceIte,seval,↓Ag hw];exact AK _ _ _
def i6 (ih:Ai) (xs:List IV) (h0:Hp) (k:KT (IV×Hp)):CN EE ih (.fv (.func (.func 141) [] [])) xs h0 k=A5 [] false false ih 141 xs h0 k :=NV (by kernel_rfl) (by kernel_rfl) (by kernel_rfl) (by kernel_rfl) ..
def YG {n:Nat} (hn:0<n) (op:Int) (i:Nat):BC (SS dt n 141 [iv op,iv i] ⟨[],[]⟩) (.int .i64 (Al op i)):=by
 obtain ⟨n,rfl⟩:=psc n (by omega);rw [Ac9];unfold Al;by_cases h:op=3\/op=4\/op=6\/op=20\/op=28\/op=29
 ·rw [if_pos h];by_cases hi:i=1
  ·subst hi;rcases h with rfl | rfl | rfl | rfl | rfl | rfl<;>(simp only [QW,↓XX,XY,↓reduceIte,seval];exact Ay _ _)
  ·have hi':¬ (i:Int)=1:=by omega
   rcases h with rfl | rfl | rfl | rfl | rfl | rfl<;>(simp only [QW,↓XX,XY,↓reduceIte,seval,hi',hi];exact Ay _ _)
 ·rw [if_neg h];have h3:¬ op=3:=fun e=>h (by simp [e]);have h4:¬ op=4:=fun e=>h (by simp [e]);have h6:¬ op=6:=fun e=>h (by simp [e]);have h20:¬ op=20:=fun e=>h (by simp [e]);have h28:¬ op=28:=fun e=>h (by simp [e]);have h29:¬ op=29:=fun e=>h (by simp [e]);by_cases h13:op=13
  ·subst h13;by_cases h0:i=0
   ·subst h0;simp only [QW,↓XX,XY,↓reduceIte,seval];exact Ay _ _
   ·have h0':¬ (i:Int)=0:=by omega
    by_cases h2:i=2
    ·subst h2;simp only [QW,↓XX,XY,↓reduceIte,seval];exact Ay _ _
    ·have h2':¬ (i:Int)=2:=by omega
     simp only [QW,↓XX,XY,↓reduceIte,seval,h0,h0',h2,h2'];exact Ay _ _
  ·simp only [QW,↓XX,XY,↓reduceIte,seval,h3,h4,h6,h20,h28,h29,h13];exact Ay _ _
def I0 {n:Nat} (hn:1<n) (op:Int) (i:Nat):BC (SS dt n 127 [iv op,iv i] ⟨[],[]⟩) (.int .i64 (Al op i)):=by obtain ⟨n,rfl⟩:=psc n (by omega);rw [Ae5];have h:=YG (n:=n) (by omega) op i;simp only [qI,↓XX,XY,↓reduceIte,seval,↓i6,↓Ag h];exact Ay _ _
theorem dE {β:Type}:∀(l:List IV) (i:Nat) (x:IV) (k:List IV->Option β),i<l.length->GA l i x k=k (l.set i x)
 | [],i,x,k,h=>absurd h (by simp)
 | y::l,0,x,k,_=>rfl
 | y::l,i+1,x,k,h=>by
  show GA l i x (fun t=>k (y::t))=_
  rw [dE l i x _ (by simpa using h)];rfl
def nils (n:Nat):List PV:=List.replicate n .nil
theorem mE (n:Nat):Nz n [IV.fv .nilp]=((nils n).map PV.enc).map IV.fv:=by
 induction n with
 | zero=>rfl
 | succ n ih=>rw [Nz,ih];rfl
def sT {n:Nat} (hn:n<=1000) (s:Nat) (own:List (Nat×Blk)) (ext:List Blk) (k:KT (IV×Hp)) :
  AA (BD EE s 146 (iv n) (iv n)) s ⟨own,ext⟩ k=CV own s (Bf own s (.row (((nils n).map PV.enc).map IV.fv) false) fun own=>k (.slc (.own s) 1 n) ⟨own,ext⟩ [] [.own s]):=by
 have:BD EE s 146 (iv n) (iv n)=.ret { eff:={ val:=.slc (.own s) 1 n },new:=some (.row (((nils n).map PV.enc).map IV.fv) false) }:=by simp only [BD,eC,YA,TV];rw [if_pos ⟨by omega,by omega,by omega,by decide,by decide⟩,Int.toNat_natCast,mE]
 rw [this];unfold AA;simp only [Rd.runLog,Hy,CB,Cm];rfl
theorem v7 (v:PV):IV.one (.fv v.enc)=true:=by
 cases v with
 | nil=>rfl
 | mk op n k t e=>obtain ⟨bo,bn,bk⟩:=t;rw [Bc];rfl
def oZ {β:Type} {n i:Nat} (h:i<n) (r:Ref) (k:IV->Option β):AR 1 (.slc r 1 n) (iv i) k=k (.ptr r i):=by
 have e1:Nat.ble (Nat.succ i) n=true:=by rw [Bq];exact decide_eq_true h
 show (XW (iv i) fun n'=>cond (and (Nat.ble (Nat.succ n') n) (Nat.beq 1 1)) (Eb (n' * 1) fun o=>k (.ptr r o)) none)=_
 show (cond (and (Nat.ble (Nat.succ i) n) (Nat.beq 1 1)) (Eb (i * 1) fun o=>k (.ptr r o)) none)=_
 rw [e1];simp only [Ca,Nat.mul_one];rfl
def oX {done:List PV} {r:Nat} {β:Type} (v:PV) (k:List IV->Option β):GA (((done++nils (r+1)).map PV.enc).map IV.fv) done.length (.fv v.enc) k=k ((((done++[v])++nils r).map PV.enc).map IV.fv):=by rw [dE _ _ _ _ (by simp [nils])];congr 1;simp only [nils,List.replicate_succ,List.map_append,Ah5,List.append_assoc,List.cons_append,List.nil_append,Ah4];rw [List.set_append_right _ _ (by simp)];simp
abbrev Hev (op m:Int) (ks:List Tm) (env kk:List PV) (ro:Bool) (s w r e:Int):Hp :=⟨[(101711872,.row [iv op,iv m,.fv (.sl (ks.map Tm.enc))] false),(101715975,.row ((kk.map PV.enc).map .fv) ro),(101715979,.row [iv op,iv m,.slc (.own 101715975) 1 ks.length,iv op,iv m,.fv (.sl (ks.map Tm.enc)),.fv (PV.encEnv env)] ro)],MX s w r e⟩
def F5 {base rm:List Nat} {vals:List IV} {own:List (Nat×Blk)} {s w r e:Int} (hb:rm.any base.contains=false) (hf:AS rm vals own []=true) (k:Hp->Option (IV×Hp)) :
  Bo base rm vals ⟨own,MX s w r e⟩ k=k ⟨Hf rm vals own [],MX s w r e⟩:=Zg (fun j=>iM s w r e j) hb hf k
def Z1 {op m:Int} {ks:List Tm} {env kk:List PV} {s w r e:Int} (hl:kk.length=ks.length) (h3:ks.length<=300):By (some (.ptr (.own 101715979) 0,Hev op m ks env kk false s w r e)) (PV.mk op m kk (.mk op m ks) env).enc (MX s w r e):=by
 rw [Bc];have hl':ks.length=(kk.map PV.enc).length:=by simp [hl]
 have:=fun (e0:Option (IV×Hp)) (K:FV->List (Ref×Blk)->List Ref->Option (IV×Hp))=>zZ (s:=101715979) (s2:=101715975) (own:=(Hev op m ks env kk false s w r e).own) (ext:=MX s w r e) (es:=kk.map PV.enc) (ro:=false) (ro2:=false) (a:=.int .i64 op) (b:=.int .i64 m) (c:=.int .i64 op) (d:=.int .i64 m) (t:=.sl (ks.map Tm.enc)) (x:=PV.encEnv env)
  (by rw [<- hl'];rfl) (by rfl) (by simp [hl];omega) (by simp only [List.mem_map];rintro x ⟨v,_,rfl⟩;exact Nb v) [] e0 K
 exact ⟨_,_,rfl,_,_,this⟩
theorem Pd {ev:Tm->M3->Option (PV×M3)} {op:Int}:∀{i:Nat} {l:List Tm} {m:M3} {vs:List PV} {m':M3},Qb ev op i l m=some (vs,m')->vs.length=l.length
 | _,[],m,vs,m',h=>by simp only [Qb,AhZ,Ah0] at h;rw [<- h.1];rfl
 | i,t::l,m,vs,m',h=>by
  rw [Qb] at h;split at h
  ·cases hk:Qb ev op (i+1) l m with
   | none=>rw [hk] at h;cases h
   | some q =>rw [hk] at h;simp only [Ah2,AhZ,Ah0] at h;rw [<- h.1,Ah3,Ah3,Pd (vs:=q.1) (m':=q.2) hk]
  ·split at h
   ·cases h
   ·rename_i v m2 _;cases hk:Qb ev op (i+1) l m2 with
    | none=>rw [hk] at h;cases h
    | some q =>rw [hk] at h;simp only [Ah2,AhZ,Ah0] at h;rw [<- h.1,Ah3,Ah3,Pd (vs:=q.1) (m':=q.2) hk]
theorem nN {f:Nat} (he:lY f) (hc:iX f):lY (f+1):=by
 intro env t m0 m' v hev r n hn;obtain ⟨n,rfl⟩:=psc n (by omega);rw [c97];obtain ⟨op,m,ks⟩:=t;rw [An];rw [O0] at hev;cases ht:Hs m0 with
 | none=>rw [ht] at hev;cases hev
 | some m1 =>
 rw [ht] at hev;simp only at hev;have hc1:=Qy ht r (n:=n) (by omega);by_cases h1:op=1
 ·rw [if_pos h1] at hev;split at hev
  ·rename_i hv;simp only [AhZ,Ah0] at hev;obtain ⟨rfl,rfl⟩:=hev;have hvar:=TP (n:=n) env m hv.1 hv.2.1 (by omega);simp only [↓cA,↓XX,XY,↓reduceIte,seval,↓Fu _ _ hc1,h1,↓Ag hvar];exact AK _ _ _
  ·cases hev
 ·rw [if_neg h1] at hev;split at hev
  ·cases hev
  rename_i hb;have hk3:ks.length<=300:=by omega
  by_cases h2:m1.e≠0
  ·rw [if_pos h2] at hev;simp only [AhZ,Ah0] at hev;obtain ⟨rfl,rfl⟩:=hev;simp only [Lp,LF,S97,↓XX,XY,↓reduceIte,seval,↓Fu _ _ hc1,h1,h2,↓sT (show ks.length<=1000 by omega),↓ZW]
   exact Z1 (kk:=nils ks.length) (by simp [nils]) hk3
  ·rw [if_neg h2] at hev;have h2:m1.e=0:=by simpa using h2
   ·
    cases hkk:Qb (fun t m=>O0 f env t m) op 0 ks m1 with
    | none=>rw [hkk] at hev;cases hev
    | some q =>
    obtain ⟨vs,m2⟩:=q;rw [hkk] at hev;simp only at hev;simp only [h2] at hc1;simp only [Lp,LF,S97,↓XX,XY,↓reduceIte,seval,↓Fu _ _ hc1,h1,h2,↓sT (show ks.length<=1000 by omega),↓ZW,↓F5,↓AJ,XD,heldB,AS,XE,E5,D8]
    have hlen:=Pd hkk;refine Be (Q:=fun r=>By r _ _) (fun k V H=>∃(pre rest:List Tm) (done:List PV) (m3:M3) (us:List PV),ks=pre++rest/\rest.length=k/\done.length=pre.length /\
      V=[.ptr (.ext 0) 0,.fv (PV.encEnv env),.ptr (.own 101711872) 0,.ptr (.own 101715979) 0,.fv (.sl (ks.map Tm.enc)),iv ks.length,iv pre.length] /\
      H=Hev op m ks env (done++nils rest.length) false m3.s m3.w r m3.e /\
      Qb (fun t m=>O0 f env t m) op pre.length rest m3=some (us,m2)/\done++us=vs)
     ?_ n ks.length _ _ (by omega) ⟨[],ks,[],m1,vs,rfl,rfl,rfl,rfl,by rw [h2];rfl,hkk,rfl⟩
    rintro k V H rec ⟨pre,rest,done,m3,us,hk,hl,hdl,rfl,rfl,hkids,hvs⟩ hrec;have hkl:ks.length=pre.length+rest.length:=by rw [hk];simp
    cases rest with
    | nil =>
     simp only [Qb,AhZ,Ah0] at hkids;obtain ⟨rfl,rfl⟩:=hkids;rw [List.append_nil] at hvs;subst hvs;have hno:¬ ((pre.length:Int)<ks.length):=by rw [hkl];simp
     have hz:done++nils ([]:List Tm).length=done:=by simp [nils]
     rw [hz];by_cases h4:m3.e≠0
     ·rw [if_pos h4] at hev;simp only [AhZ,Ah0] at hev;obtain ⟨rfl,rfl⟩:=hev;simp only [↓cA,↓XX,XY,↓reduceIte,seval,hno,h4];exact Z1 hlen hk3
     ·rw [if_neg h4] at hev;have h4:m3.e=0:=by simpa using h4
      have hcc:=hc _ _ _ _ hev r n (by omega);rw [Bc] at hcc;simp only [h4] at hcc;have hlm:(done.map PV.enc).length=ks.length:=by simp [hlen]
      simp only [↓cA,↓XX,XY,↓reduceIte,seval,hno,h4]
      (try unfold is0);rw [mJ hcc (s0:=101715979) (s2:=101715975) (own':=(Hev op m ks env done true m3.s m3.w r 0).own) (by rfl) (by rfl) hlm (by decide) (by omega) (by simp only [List.mem_map];rintro x ⟨v,_,rfl⟩;exact Nb v) (by rfl)]
      exact AK _ _ _
    | cons x rest =>
     have hi:(pre.length:Int)<ks.length:=by rw [hkl];simp;omega
     have hg:=B2 hk;have hb:=I0 (n:=n) (by omega) op pre.length;have hwi:BF ((pre.length:Int)+1)=((pre++[x]).length:Int):=(Az (by omega) (by omega)).trans (by simp);simp only [Qb] at hkids;simp only [Ah3] at hl;by_cases hbn:0<Al op pre.length
     ·rw [if_pos hbn] at hkids;have hbn':¬ ((Al op pre.length:Nat):Int)=0:=by omega
      obtain ⟨o,p,l⟩:=x;simp only [↓cA,↓XX,XY,↓reduceIte,seval,hi,↓Br (AO hg) (Bm _ _ _),↓Cd,↓Ag hb,hbn',hwi,↓F5,↓AJ,XD,heldB,AS,XE,E5,D8];cases hkk2:Qb (fun t m=>O0 f env t m) op (pre.length+1) rest m3 with
      | none=>rw [hkk2] at hkids;cases hkids
      | some q =>
      obtain ⟨us',m4⟩:=q;rw [hkk2] at hkids;simp only [Ah2,AhZ,Ah0] at hkids;obtain ⟨rfl,rfl⟩:=hkids;refine hrec rest.length _ _ (by omega) ⟨pre++[.mk o p l],rest,done++[.nil],m3,us',by rw [hk];simp,rfl,by simp [hdl],rfl,?_,by simpa using hkk2,by rw [<- hvs];simp⟩;rw [show done++[.nil]++nils rest.length=done++nils (rest.length+1) by simp [nils,List.replicate_succ]]
     ·rw [if_neg hbn] at hkids;have hbn':((Al op pre.length:Nat):Int)=0:=by omega
      cases hev2:O0 f env x m3 with
      | none=>rw [hev2] at hkids;cases hkids
      | some q =>
      obtain ⟨y,m4⟩:=q;rw [hev2] at hkids;simp only at hkids;cases hkk2:Qb (fun t m=>O0 f env t m) op (pre.length+1) rest m4 with
      | none=>rw [hkk2] at hkids;cases hkids
      | some q =>
      obtain ⟨us',m5⟩:=q;rw [hkk2] at hkids;simp only [Ah2,AhZ,Ah0] at hkids;obtain ⟨rfl,rfl⟩:=hkids;have hce:=he _ _ _ _ _ hev2 r n (by omega);obtain ⟨o,p,l⟩:=x;rw [An] at hce;have hin:pre.length<ks.length:=by omega
      have hoff:=fun {β:Type}=>oX (done:=done) (r:=rest.length) (β:=β);rw [hdl] at hoff;simp only [↓cA,↓XX,XY,↓reduceIte,seval,hi,↓Br (AO hg) (Bm _ _ _),↓Cd,↓Ag hb,hbn',hwi,↓bJ _ _ hce,↓oZ hin,↓v7,↓hoff,↓F5,↓AJ,XD,heldB,AS,XE,E5,D8];exact hrec rest.length _ _ (by omega) ⟨pre++[.mk o p l],rest,done++[y],m4,us',by rw [hk];simp,rfl,by simp [hdl],rfl,rfl,by simpa using hkk2,by rw [<- hvs];simp⟩
theorem KZ:∀f,lY f/\iX f/\sE f/\dI f
 | 0=>⟨(fun _ _ _ _ _ h=>by rw [O0.eq_def] at h;cases h),(fun _ _ _ _ h=>by rw [ctP.eq_def] at h;cases h),(fun _ _ _ _ _ h=>by rw [stP.eq_def] at h;cases h),(fun _ _ _ _ _ _ h=>by rw [opP.eq_def] at h;cases h)⟩
 | f+1=>⟨nN (KZ f).1 (KZ f).2.1,gT (KZ f).2.2.1,jK (KZ f).2.1 (KZ f).2.2.2,nO (KZ f).1⟩
def QH (below:Int) (b:Nat):List PV:=(List.range b).map fun (j:Nat)=>PV.var (below+(j:Int))
def Y8 (u:Int) (b:Nat):QH u (b+1)=QH u b++[PV.var (u+b)]:=by simp [QH,List.range_succ]
def JG (u:Int) (b:Nat):(QH u b).length=b:=by simp [QH]
def YS (bk:PV->Int->M3->Int->Option (Tm×M3×Int)) (opn:Nat->List PV->M3->Option (PV×M3)) (op below:Int):Nat->List PV->M3->Int->Option (Option (List Tm)×M3×Int)
 | _,[],m,r=>some (some [],m,r)
 | i,x::l,m,r=>match (if 0<Al op i then opn i (QH below (Al op i)) m else some (x,m)) with
  | none=>none
  | some (y,m)=>if m.e≠0 then some (none,m,r) else match bk y (below+Al op i) m r with
   | none=>none
   | some (t,m,r)=>(YS bk opn op below (i+1) l m r).map fun (ts,m,r)=>(ts.map (t::·),m,r)
def RJ:Nat->PV->Int->Int->M3->Int->Option (Tm×M3×Int)
 | 0,_,_,_,_,_=>none
 | f+1,v,below,deep,m,r =>
  if r<0\/1000000000<r\/below<0\/1000000<below\/deep<0\/1000000<deep then none else
  match Hs ⟨m.s,m.w,if m.e=0/\(3000<r+1\/120<deep) then 5 else m.e⟩ with
  | none=>none
  | some m=>if m.e≠0 then some (.z,m,r+1) else match v with
   | .nil=>none
   | .mk op n k t e=>if op=1 then (if n < -2305843009213693952\/2305843009213693952<n then none else some (.mk 1 (below - 1 - n) [],m,r+1))
    else if f<=k.length+4\/100<k.length then none
    else match YS (fun v below m r=>RJ f v below (deep+1) m r) (fun i l m=>opP f (.mk op n k t e) i l m) op below 0 k m (r+1) with
     | none=>none
     | some (none,m,r)=>some (.z,m,r)
     | some (some ts,m,r)=>some (.mk op n ts,m,r)
def iF (f:Nat):Prop:=∀(v:PV) (below deep:Int) (m:M3) (r:Int) (t:Tm) (m':M3) (r':Int),RJ f v below deep m r=some (t,m',r')->∀n,f+1<=n ->
 By (SS dt n 98 [.ptr (.ext 0) 0,.fv v.enc,iv below,iv deep] ⟨[],MX m.s m.w r m.e⟩) t.enc (MX m'.s m'.w r' m'.e)
def Hq (j:Nat) (v:FV):Fp (.ext j) (.fv v)=true:=rfl
def Zv {ih:Ai} {n:Nat} {v w:FV} {below deep s u r e e1:Int} {ext:List Blk} (hr:0<=r) (hr2:r<=1000000000) (he1:(if e=0/\(3000<r+1\/120<deep) then (5:Int) else e)=e1)
  (h:By (E3 ih ⟨[(102760448,.row [iv 0,iv 0,.nils] false)],MX s u (r+1) e1⟩ (.ptr (.ext 0) 0) (.ptr (.own 102760448) 0) (.fv v) (iv below) ⟨[],MX s u r e⟩ (iv deep) n) w ext) :
  By (S98 ih n (.ptr (.ext 0) 0) (.fv v) (iv below) (iv deep) ⟨[],MX s u r e⟩) w ext:=by
 have wr:BF (r+1)=r+1:=by rw [Az]<;>omega
 have key:S98 ih n (.ptr (.ext 0) 0) (.fv v) (iv below) (iv deep) ⟨[],MX s u r e⟩=E3 ih ⟨[(102760448,.row [iv 0,iv 0,.nils] false)],MX s u (r+1) e1⟩ (.ptr (.ext 0) 0) (.ptr (.own 102760448) 0) (.fv v) (iv below) ⟨[],MX s u r e⟩ (iv deep) n:=by
  by_cases h0:e=0
  ·by_cases h3:3000<r+1
   ·rw [if_pos ⟨h0,.inl h3⟩] at he1;subst he1;simp only [D0,D3,C1,D7,E8,DR,Ea,EZ,DK,DZ,S98,↓XX,XY,↓reduceIte,seval,↓Hq,wr,h0,h3]
   ·by_cases h4:120<deep
    ·rw [if_pos ⟨h0,.inr h4⟩] at he1;subst he1;simp only [D0,D3,C1,D7,E8,DR,Ea,EZ,DK,DZ,S98,↓XX,XY,↓reduceIte,seval,↓Hq,wr,h0,h3,h4]
    ·rw [if_neg (by omega)] at he1;subst he1;simp only [D0,D3,C1,D7,E8,DR,Ea,EZ,DK,DZ,S98,↓XX,XY,↓reduceIte,seval,↓Hq,wr,h0,h3,h4]
  ·rw [if_neg (by omega)] at he1;subst he1;simp only [D0,D3,C1,D7,E8,DR,Ea,EZ,DK,DZ,S98,↓XX,XY,↓reduceIte,seval,↓Hq,wr,h0]
 rw [key];exact h
abbrev fZ (done:List Tm) (rest:Nat) (more:List (Nat×Blk)) (s w r e:Int):Hp :=⟨(102760448,.row [iv 0,iv 0,.nils] false)::(102769669,.row (BZ done rest) false)::more,MX s w r e⟩
def nF {ih:Ai} {f:FuncId} {w x y:FV} {a b:IV} {s0 len:Nat} {s u r e s' u' r' e':Int} {own own':List (Nat×Blk)} {es:List FV} {ro:Bool} (hr:By (ih f [.ptr (.ext 0) 0,.fv x,.fv y,.fv (.sl es)] ⟨[],MX s u r e⟩) w (MX s' u' r' e'))
  (ha:Bg a=some x) (hb:Bg b=some y) (hl:Aq s0 own=some (.row (es.map .fv) ro)) (hlen:es.length=len) (hn:es.length<=300) (hag:∀x∈es,∀l,x≠.agg l) (ho:AQ s0 (.row (es.map .fv) true) own=own')
  (k:KT (IV×Hp)) :
  A5 [true,false,false,false] false false ih f [.ptr (.ext 0) 0,a,b,.slc (.own s0) 1 len] ⟨own,MX s u r e⟩ k=k (.fv w) ⟨own',MX s' u' r' e'⟩ [.ext 1,.ext 0,.own s0] [.own s0,.ext 0,.ext 1]:=by
 subst ho hlen;refine VN (ks:=[false,false,false]) (vs:=[x,y,.sl es]) (u:=[(.own s0,.row (es.map .fv) true)]) (lg:=[.own s0]) ?_ (i1 ..) hr ?_ k
 ·intro e k;rw [PL,G6 _ _ e _ ha,PL,G6 _ _ e _ hb,PL,aH (d:=10) hl hn hag,rJ];rfl
 ·intro k
  show (EW own s0 fun _=>Bf own s0 (.row (es.map .fv) true) fun own=>k ⟨own,_⟩)=_
  rw [BB,hl,Option.bind_some,BO]
def lJ (op n:Int) (done:List Tm):Option (List Tm)->Tm
 | none=>.z
 | some ts=>.mk op n (done++ts)
def rR {n:Nat} {op nn bo bn below deep:Int} {k e:List PV} {bk:List Tm} {done:List Tm} {s w r er:Int} (h4:Hp) {rec:List IV->Hp->Option (IV×Hp)} (hd:done.length=k.length) (hk:k.length<=100) :
  By (EZ [.ptr (.ext 0) 0,.fv (PV.mk op nn k (.mk bo bn bk) e).enc,iv below,iv deep,.ptr (.own 102760448) 0,.slc (.own 102769669) 3 k.length,iv k.length,iv k.length] (fZ done 0 [] s w r er) (SS dt n) h4 rec n)
   (Tm.mk op nn done).enc (MX s w r er):=by
 rw [Bc,An];have hno:¬ ((k.length:Int)<k.length):=by omega
 simp only [D0,D3,C1,D7,E8,DR,Ea,EZ,DK,E3,DZ,S98,↓XX,XY,↓reduceIte,seval,↓Hq,hno];rw [<- hd];exact ⟨_,_,rfl,_,_,fun e0 K=>dV (by rfl) (by omega) [] e0 K⟩
def YX (more:List (Nat×Blk)):Prop:=more=[]\/∃(l:List FV) (ro:Bool),more=[(102775809,.row (l.map .fv) ro)]
def Aav {n:Nat} {v y:FV} {below deep b len i:IV} {done:List Tm} {rest kl:Nat} {more:List (Nat×Blk)} {s w r e:Int} (hM:YX more) (h4:Hp) {rec:List IV->Hp->Option (IV×Hp)} (he:e≠0) :
  By (C1 (.ptr (.ext 0) 0) (fZ done rest more s w r e) (.ptr (.own 102760448) 0) below b deep (SS dt n) (.fv y) (.slc (.own 102769669) 3 kl) i i h4 (.fv v) len rec) Tm.z.enc (MX s w r e):=by
 rcases hM with rfl | ⟨l,ro,rfl⟩
 ·simp only [↓SB,↓XX,XY,↓reduceIte,seval,↓Hq,he];exact EO rfl _ _
 ·simp only [↓SB,↓XX,XY,↓reduceIte,seval,↓Hq,he];exact EO rfl _ _
def AaZ {f n:Nat} {v:FV} {y:PV} {below deep:Int} {b:Nat} {len:Int} {done:List Tm} {rest kl:Nat} {more:List (Nat×Blk)} {m m5:M3} {r r5:Int} {t5:Tm} {w:FV} {ext:List Blk} (hb:iF f) (hn:f+1<=n) (hM:YX more) (ext4:List Blk)
  {rec:List IV->Hp->Option (IV×Hp)} (he:m.e=0) (hbk:RJ f y (below+b) (deep+1) m r=some (t5,m5,r5)) (hb1:0<=below) (hb2:below<=1000000) (hb3:b<=10) (hd1:0<=deep) (hd2:deep<=1000000) (hkl:done.length<kl) (hkl2:kl<=100)
  (h:By (rec [.ptr (.ext 0) 0,.fv v,iv below,iv deep,.ptr (.own 102760448) 0,.slc (.own 102769669) 3 kl,iv len,iv (done++[t5]).length] (fZ (done++[t5]) rest [] m5.s m5.w r5 m5.e)) w ext) :
  By (C1 (.ptr (.ext 0) 0) (fZ done (rest+1) more m.s m.w r m.e) (.ptr (.own 102760448) 0) (iv below) (iv b) (iv deep) (SS dt n) (.fv y.enc) (.slc (.own 102769669) 3 kl) (iv done.length) (iv done.length) ⟨[],ext4⟩ (.fv v) (iv len) rec) w ext:=by
 have hc:=hb _ _ _ _ _ _ _ _ hbk n hn;have wb:BF (below+b)=below+b:=by rw [Az]<;>omega
 have wd:BF (deep+1)=deep+1:=by rw [Az]<;>omega
 have wi:BF ((done.length:Int)+1)=((done++[t5]).length:Int):=(Az (by omega) (by omega)).trans (by simp);obtain ⟨o,p,ks⟩:=t5;rw [An] at hc;simp only [he] at hc ⊢;rcases hM with rfl | ⟨l,ro,rfl⟩
 ·simp only [↓SB,↓XX,XY,↓reduceIte,seval,↓Hq,wb,wd,↓PA _ _ hc,↓M0 hkl,↓Uw,wi,↓F5,↓AJ,XD,heldB,AS,XE,E5,D8,GG,E4];exact h
 ·simp only [↓SB,↓XX,XY,↓reduceIte,seval,↓Hq,wb,wd,↓PA _ _ hc,↓M0 hkl,↓Uw,wi,↓F5,↓AJ,XD,heldB,AS,XE,E5,D8,GG,E4];exact h
theorem Aa2 {f n:Nat} {v y:PV} {below deep:Int} {i b kl:Nat} {len:Int} {done:List Tm} {rest:Nat} {m m4:M3} {r:Int} {w:FV} {ext:List Blk} (hn:f+1<=n) (h3:3<=n) (ext4:List Blk)
  {j:IV->IV->IV->IV->IV->IV->IV->IV->IV->IV->IV->Hp->Option (IV×Hp)} (hb:b<=2) (hb1:0<=below) (hb2:below<=1000000) (hop:opP f v i (QH below b) m=some (y,m4))
  (hj:By (j (.ptr (.ext 0) 0) (.fv v.enc) (iv below) (iv deep) (.ptr (.own 102760448) 0) (.slc (.own 102769669) 3 kl) (iv i) (.fv y.enc) (iv b) (iv len) (iv i)
   (fZ done rest [(102775809,.row (((QH below b).map PV.enc).map .fv) true)] m4.s m4.w r m4.e)) w ext) :
  By (BK n (fun q119 l120 h121=>E8 l120 h121 ⟨[],ext4⟩ q119 (SS dt n) j) [.ptr (.ext 0) 0,.fv v.enc,iv below,iv deep,.ptr (.own 102760448) 0,.slc (.own 102769669) 3 kl,iv i,iv b,.slc (.own 102775809) 1 b,iv len,iv i,iv b,iv 0]
   (fZ done rest [(102775809,.row (((nils b).map PV.enc).map .fv) false)] m.s m.w r m.e)) w ext:=by
 refine Be (Q:=fun r=>By r _ _) (fun t V H=>∃(k:Nat),k+t=b /\
   V=[.ptr (.ext 0) 0,.fv v.enc,iv below,iv deep,.ptr (.own 102760448) 0,.slc (.own 102769669) 3 kl,iv i,iv b,.slc (.own 102775809) 1 b,iv len,iv i,iv b,iv k] /\
   H=fZ done rest [(102775809,.row (((QH below k++nils t).map PV.enc).map .fv) false)] m.s m.w r m.e) ?_ n b _ _ (by omega) ⟨0,by omega,rfl,rfl⟩
 rintro t V H rec ⟨k,hkt,rfl,rfl⟩ hrec;cases t with
 | zero =>
  have hkb:k=b:=by omega
  subst hkb;have hno:¬ ((k:Int)<k):=by omega
  have hc:=(KZ f).2.2.2 _ _ _ _ _ _ hop r n hn;rw [show QH below k++nils 0=QH below k by simp [nils]]
  simp only [D0,D3,C1,D7,DR,Ea,DK,E3,DZ,S98,E8,↓XX,XY,↓reduceIte,seval,↓Hq,hno]
  (try unfold is0);rw [nF hc rfl rfl (s0:=102775809) (own':=(fZ done rest [(102775809,.row (((QH below k).map PV.enc).map .fv) true)] m4.s m4.w r m4.e).own) (by rfl) (by simp [JG]) (by simp [JG];omega) (by simp only [List.mem_map];rintro x ⟨v,_,rfl⟩;exact Nb v) (by rfl)]
  exact hj
 | succ t =>
  have hlt:(k:Int)<b:=by omega
  have hkb:k<b:=by omega
  have wk:BF ((k:Int)+1)=((k+1:Nat):Int):=(Az (by omega) (by omega)).trans (by simp);have wbk:BF (below+(k:Int))=below+k:=by rw [Az]<;>omega
  have hoff:=fun {β:Type}=>oX (done:=QH below k) (r:=t) (β:=β) (PV.var (below+k));rw [JG,RH] at hoff;simp only [D0,D3,C1,D7,DR,Ea,DK,E3,DZ,S98,E8,↓XX,XY,↓reduceIte,seval,↓Hq,hlt,wbk];rw [VZ (fc:=[.int .i64 1,.int .i64 (below+k),.sl [],.int .i64 0,.int .i64 0,.sl [],.nilp]) rfl (by simp)];simp only [↓XX,XY,↓reduceIte,seval,↓Hq,↓oZ hkb,↓hoff,wk,↓F5,↓AJ,XD,heldB,AS,XE,E5,D8,GG,E4];exact hrec t _ _ (by omega) ⟨k+1,by omega,rfl,by rw [Y8]⟩
theorem jP {f:Nat} (hb:iF f):iF (f+1):=by
 intro v below deep m r t m' r' hev n hn;obtain ⟨n,rfl⟩:=psc n (by omega);rw [c98];rw [RJ.eq_def] at hev;simp only at hev;split at hev
 ·cases hev
 rename_i hbad;have wd:BF (deep+1)=deep+1:=by rw [Az]<;>omega
 have wb1:BF (below - 1)=below - 1:=by rw [Az]<;>omega
 generalize he1:(if m.e=0/\(3000<r+1\/120<deep) then (5:Int) else m.e)=e1 at hev;cases ht:Hs ⟨m.s,m.w,e1⟩ with
 | none=>rw [ht] at hev;cases hev
 | some m1 =>
 rw [ht] at hev;simp only at hev;have hc1:=Qy ht (r+1) (n:=n) (by omega);simp only at hc1;refine Zv (by omega) (by omega) he1 ?_;by_cases h1:m1.e≠0
 ·rw [if_pos h1] at hev;simp only [AhZ,Ah0] at hev;obtain ⟨rfl,rfl,rfl⟩:=hev;simp only [↓SB,↓XX,XY,↓reduceIte,seval,↓Hq,↓Fu _ _ hc1,h1];exact EO rfl _ _
 ·rw [if_neg h1] at hev;have h1:m1.e=0:=by simpa using h1
  cases v with
  | nil=>cases hev
  | mk op nn k t0 e =>
  obtain ⟨bo,bn,bk⟩:=t0;simp only at hev;by_cases h2:op=1
  ·rw [if_pos h2] at hev;split at hev
   ·cases hev
   rename_i hnn;simp only [AhZ,Ah0] at hev;obtain ⟨rfl,rfl,rfl⟩:=hev;have wb2:BF (below - 1 - nn)=below - 1 - nn:=by rw [Az]<;>omega
   rw [Bc];simp only [↓SB,↓XX,XY,↓reduceIte,seval,↓Hq,↓Fu _ _ hc1,h1,h2,wb1,wb2];exact EO rfl _ _
  ·rw [if_neg h2] at hev;split at hev
   ·cases hev
   rename_i hk100;have hk100:k.length<=100:=by omega
   cases hkk:YS (fun v below m r=>RJ f v below (deep+1) m r) (fun i l m=>opP f (.mk op nn k (.mk bo bn bk) e) i l m) op below 0 k m1 (r+1) with
   | none=>rw [hkk] at hev;cases hev
   | some q =>
   obtain ⟨res,m2,r2⟩:=q;rw [hkk] at hev;have hres:t=lJ op nn [] res/\m'=m2/\r'=r2:=by
    cases res with
    | none=>simp only [AhZ,Ah0] at hev;exact ⟨hev.1.symm,hev.2.1.symm,hev.2.2.symm⟩
    | some ts=>simp only [AhZ,Ah0] at hev;exact ⟨hev.1.symm,hev.2.1.symm,hev.2.2.symm⟩
   obtain ⟨ht5,rfl,rfl⟩:=hres;generalize hV:PV.mk op nn k (.mk bo bn bk) e=V5 at *;have hVe:V5.enc=.fp [.int .i64 op,.int .i64 nn,.sl (k.map PV.enc),.int .i64 bo,.int .i64 bn,.sl (bk.map Tm.enc),PV.encEnv e] 0:=by rw [<- hV,Bc]
   rw [hVe];simp only [↓SB,↓XX,XY,↓reduceIte,seval,↓Hq,↓Fu _ _ hc1,h1,h2,↓vE (show k.length<=1000 by omega),↓F5,↓AJ,XD,heldB,AS,XE,E5,D8,GG,E4]
   refine Be (Q:=fun r=>By r _ _) (fun j V H=>∃(pre rest:List PV) (done:List Tm) (m3:M3) (r3:Int) (res3:Option (List Tm)),k=pre++rest/\rest.length=j/\done.length=pre.length /\
     V=[.ptr (.ext 0) 0,.fv V5.enc,iv below,iv deep,.ptr (.own 102760448) 0,.slc (.own 102769669) 3 k.length,iv k.length,iv pre.length] /\
     H=fZ done rest.length [] m3.s m3.w r3 m3.e /\
     YS (fun v below m r=>RJ f v below (deep+1) m r) (fun i l m=>opP f V5 i l m) op below pre.length rest m3 r3=some (res3,m',r')/\lJ op nn done res3=t)
    ?_ n k.length _ _ (by omega) ⟨[],k,[],m1,r+1,res,rfl,rfl,rfl,by rw [hVe];rfl,by rw [h1],hkk,ht5.symm⟩
   rintro j V H rec ⟨pre,rest,done,m3,r3,res3,hk,hl,hdl,rfl,rfl,hkids,hts⟩ hrec;have hkl:k.length=pre.length+rest.length:=by rw [hk];simp
   cases rest with
   | nil =>simp only [YS,AhZ,Ah0] at hkids;obtain ⟨rfl,rfl,rfl⟩:=hkids;rw [List.length_nil,Nat.add_zero] at hkl;rw [<- hts,<- hV,lJ,List.append_nil,<- hkl];exact rR _ (by omega) hk100
   | cons x rest =>
    have hi:(pre.length:Int)<k.length:=by rw [hkl];simp;omega
    have hg:=B2 hk;have hbn:=I0 (n:=n) (by omega) op pre.length;have hble:=A0 op pre.length;simp only [YS] at hkids;simp only [Ah3] at hl hkl;have behind:∀(y:PV) (m4:M3) (more:List (Nat×Blk)),YX more->(if m4.e≠0 then some (none,m4,r3) else match RJ f y (below+Al op pre.length) (deep+1) m4 r3 with
       | none=>none
       | some (t,m,r)=>(YS (fun v below m r=>RJ f v below (deep+1) m r) (fun i l m=>opP f V5 i l m) op below (pre.length+1) rest m r).map fun (ts,m,r)=>(ts.map (t::·),m,r))=some (res3,m',r') ->
      By (C1 (.ptr (.ext 0) 0) (fZ done (rest.length+1) more m4.s m4.w r3 m4.e) (.ptr (.own 102760448) 0) (iv below) (iv (Al op pre.length)) (iv deep) (SS dt n) (.fv y.enc) (.slc (.own 102769669) 3 k.length) (iv pre.length) (iv pre.length) ⟨[],MX m.s m.w r m.e⟩ (.fv V5.enc) (iv k.length) rec)
       t.enc (MX m'.s m'.w r' m'.e):=by
     intro y m4 more hM hy;by_cases h4:m4.e≠0
     ·rw [if_pos h4] at hy;simp only [AhZ,Ah0] at hy;obtain ⟨rfl,rfl,rfl⟩:=hy;rw [<- hts];exact Aav hM _ h4
     ·rw [if_neg h4] at hy;have h4:m4.e=0:=by simpa using h4
      cases hbk:RJ f y (below+Al op pre.length) (deep+1) m4 r3 with
      | none=>rw [hbk] at hy;cases hy
      | some q =>
      obtain ⟨t5,m5,r5⟩:=q;rw [hbk] at hy;simp only at hy;cases hk2:YS (fun v below m r=>RJ f v below (deep+1) m r) (fun i l m=>opP f V5 i l m) op below (pre.length+1) rest m5 r5 with
      | none=>rw [hk2] at hy;cases hy
      | some q =>
      obtain ⟨res6,m6,r6⟩:=q;rw [hk2] at hy;simp only [Ah2,AhZ,Ah0] at hy;obtain ⟨rfl,rfl,rfl⟩:=hy;rw [<- hdl];refine AaZ hb (by omega) hM _ h4 (by rw [hdl];exact hbk) (by omega) (by omega) (by rw [hdl];omega) (by omega) (by omega) (by omega) hk100 ?_;refine hrec rest.length _ _ (by omega) ⟨pre++[x],rest,done++[t5],m5,r5,res6,by rw [hk];simp,rfl,by simp [hdl],by simp [hdl],rfl,by simpa using hk2,?_⟩;rw [<- hts];cases res6 with
      | none=>rfl
      | some ts=>simp [lJ]
    rw [hVe];by_cases hb0:0<Al op pre.length
    ·rw [if_pos hb0] at hkids;have hb0':(0:Int)<Al op pre.length:=by omega
     cases hop:opP f V5 pre.length (QH below (Al op pre.length)) m3 with
     | none=>rw [hop] at hkids;cases hkids
     | some q =>
     obtain ⟨y,m4⟩:=q;rw [hop] at hkids;have h9:=behind y m4 [(102775809,.row (((QH below (Al op pre.length)).map PV.enc).map .fv) true)] (.inr ⟨_,_,rfl⟩) hkids;have hin:=Aa2 (f:=f) (n:=n) (v:=V5) (y:=y) (below:=below) (deep:=deep) (i:=pre.length) (b:=Al op pre.length) (kl:=k.length) (len:=k.length) (done:=done) (rest:=rest.length+1) (m:=m3) (m4:=m4) (r:=r3) (w:=t.enc) (ext:=MX m'.s m'.w r' m'.e) (by omega) (by omega) (MX m.s m.w r m.e)
      (j:=fun x79 x80 x81 x82 x83 x84 x85 x86 x87 x88 x89 h90=>C1 x79 h90 x83 x81 x87 x82 (SS dt n) x86 x84 x85 x89 ⟨[],MX m.s m.w r m.e⟩ x80 x88 rec) (by omega) (by omega) (by omega) hop h9
     simp only [D0,D3,D7,DR,Ea,EZ,DK,E3,DZ,S98,↓XX,XY,↓reduceIte,seval,↓Hq,hi,↓r9 hg,↓Ag hbn,hb0',↓sT (show Al op pre.length<=1000 by omega),↓F5,↓AJ,XD,heldB,AS,XE,E5,D8,GG,E4]
     rw [hVe] at hin;exact hin
    ·rw [if_neg hb0] at hkids;have hb0':¬ (0:Int)<Al op pre.length:=by omega
     have h9:=behind x m3 [] (.inl rfl) hkids;simp only [D0,D3,D7,DR,Ea,EZ,DK,E3,DZ,S98,↓XX,XY,↓reduceIte,seval,↓Hq,hi,↓r9 hg,↓Ag hbn,hb0'];rw [hVe] at h9;exact h9
theorem oG:∀f,iF f
 | 0=>(fun _ _ _ _ _ _ _ _ h=>by rw [RJ.eq_def] at h;cases h)
 | f+1=>jP (oG f)
abbrev EU (mb:Nat) (f:FuncId):IV:=.agg [.func (.func f) [.ptr (.own mb) 0] []]
abbrev Ds (mb:Nat):List (Int×IV):=[(5,EU mb 120),(8,EU mb 121),(9,EU mb 121),(13,EU mb 122),(30,EU mb 123),(19,EU mb 124)]
def nG (r:Ref):IV.one (.mapr r)=true:=rfl
def aL {β:Type} (l:List IV) (e:Option β) (k:List FV->Option β):CI (.dead::l) e k=e:=rfl
def of4 {β:Type} (x y z u v b:IV) (l:List IV) (k:List IV->Option β):GA (x::y::z::u::v::l) 4 b k=k (x::y::z::u::b::l):=rfl
def AdS (s:Nat) (own:List (Nat×Blk)) (ext:List Blk) (k:KT (IV×Hp)):AA (Gl s) s ⟨own,ext⟩ k=CV own s (Bf own s (.map []) fun own=>k (.mapr (.own s)) ⟨own,ext⟩ [] [.own s]):=by unfold AA;simp only [Gl,Rd.runLog,Hy,CB,Cm];rfl
def Abr (b:Blk) (k:List (Int×IV)->Option (IV×Hp)):Option (IV×Hp):=match b with
 | .map es=>k es
 | _=>none
def aK (es:List (Int×IV)) (k:List (Int×IV)->Option (IV×Hp)):Abr (.map es) k=k es:=rfl
theorem zE (m j:Nat) (v:IV) (hv:v.alive=true) (n:Int) (s:Nat) (own:List (Nat×Blk)) (ext:List Blk) (k:KT (IV×Hp)) :
  AA (Cp EE 124 (.mapr (.own m)) (iv n) v) s ⟨own,ext⟩ k=EW own m fun b=>Abr b fun es=>Bf own m (.map (CK n v es)) fun own=>k .dead ⟨own,ext⟩ [.own m] [.own m]:=by
 have h1:=tMk;have h2:=tIk;cases hm:EE.T 124 with
 | none=>rw [hm] at h1;cases h1
 | some ti =>
  cases hi:EE.T 3 with
  | none=>rw [hi] at h2;cases h2
  | some ii =>
   rw [hm] at h1;rw [hi] at h2;obtain ⟨a,b,kd,z⟩:=ti;obtain ⟨a2,b2,kd2,z2⟩:=ii;simp only [Ah2,AhZ] at h1 h2;subst h1 h2;rw [BB];unfold AA;cases hl:Aq m own with
   | none=>simp only [Cp,hm,hi,TV,Rd.runLog,Hp.get,hl];rfl
   | some bl =>
    cases bl with
    | row c ro=>simp only [Cp,hm,hi,TV,Rd.runLog,Hp.get,hl];rfl
    | tok a b=>simp only [Cp,hm,hi,TV,Rd.runLog,Hp.get,hl];rfl
    | map es =>
     simp only [Cp,hm,hi,TV,Rd.runLog,Hp.get,hl,dW,hv,and_self,if_true,Option.bind_some,aK]
     show (dG (.own m) fun q=>Dr q ⟨own,ext⟩ fun _=>XL (.map (CK n v es)) fun b=>FJ q b ⟨own,ext⟩ fun h=>Hy none s h fun h=>fV 3 .dead fun v=>k v h [.own m] ([.own m]++[]))=_
     simp only [MQ,CB,Cm,Hy,FJ,Dr];rw [BB,hl];rfl
def xB {ks:List Bool} (hks:∀b∈ks,b=false) {ih:Ai} {f:FuncId} {args:List IV} {vs:List FV} {w:FV} {mb mp:Nat} {own:List (Nat×Blk)} {s u r e s' u' r' e':Int} (hz:Bx args=some vs) (hne:mb≠mp)
  (hl1:Aq mb own=some (.row [iv s,iv u,iv r,iv e,.mapr (.own mp)] false)) (hl2:Aq mp own=some (.map (Ds mb))) (hr:By (ih f (.ptr (.ext 0) 0::vs.map .fv) ⟨[],MX s u r e⟩) w (MX s' u' r' e')) (k:KT (IV×Hp)) :
  A5 (true::ks) false false ih f (.ptr (.own mb) 0::args) ⟨own,[]⟩ k=k (.fv w) ⟨AQ mp (.map (Ds mb)) (AQ mb (.row [iv s',iv u',iv r',iv e',.mapr (.own mp)] false) own),[]⟩ [.own mp,.own mb] [.own mb,.own mp]:=by
 obtain ⟨v,own',e1,hfz⟩:=hr;obtain ⟨uu,hu⟩:=I9 hfz;have hD:Ec (true::ks) false false ih f (.ptr (.own mb) 0::args) ⟨own,[]⟩ k=k (.fv w) ⟨AQ mp (.map (Ds mb)) (AQ mb (.row [iv s',iv u',iv r',iv e',.mapr (.own mp)] false) own),[]⟩ [.own mp,.own mb] [.own mb,.own mp]:=by
  have h1:BA (true::ks) (.ptr (.own mb) 0::args)=.ret (.ptr (.own mb) 0::vs.map .fv,[.own mb],[]):=by simp only [BA,H8 args ks hks hz,Rd.bind,IV.refs];rfl
  have hn1:¬ (Ref.own mp=Ref.own mb):=by intro h;cases h;exact hne rfl
  have h2:(B6 4096 [.own mb] []).runLog ⟨own,[]⟩ []=some ([(.own mb,.row [iv s,iv u,iv r,iv e,.mapr (.own mp)] false),(.own mp,.map (Ds mb))],[.own mp,.own mb]):=by
   show (B6 (4087+1+1+1+1+1+1+1+1+1) [.own mb] []).runLog ⟨own,[]⟩ []=_
   simp only [B6,hasRef,Bool.false_eq_true,if_false,Rd.runLog,Hp.get,hl1,hl2,Blk.refs,IV.refs.refsL,IV.refs,List.append_nil,List.nil_append,List.cons_append,Ah5,Ah4,hn1,decide_false,decide_true,Bool.or_false,Bool.true_or,if_true]
  have p1:DO [(.own mb,.row [iv s,iv u,iv r,iv e,.mapr (.own mp)] false),(.own mp,.map (Ds mb))] (.own mb)=some (.ext 0):=by simp [DO,Cu]
  have p2:DO [(.own mb,.row [iv s,iv u,iv r,iv e,.mapr (.own mp)] false),(.own mp,.map (Ds mb))] (.own mp)=some (.ext 1):=by simp [DO,Cu,hn1]
  have h3:IV.ren.renL (DO [(.own mb,.row [iv s,iv u,iv r,iv e,.mapr (.own mp)] false),(.own mp,.map (Ds mb))]) (.ptr (.own mb) 0::vs.map .fv)=some (.ptr (.ext 0) 0::vs.map .fv):=by simp only [IV.ren.renL,IV.ren,p1,Ah2,Option.bind_some,DJ]
  have h4:Bi (DO [(.own mb,.row [iv s,iv u,iv r,iv e,.mapr (.own mp)] false),(.own mp,.map (Ds mb))]) [.row [iv s,iv u,iv r,iv e,.mapr (.own mp)] false,.map (Ds mb)]=some (MX s u r e):=by simp only [Bi,Blk.ren,IV.ren.renL,IV.ren,p1,p2,Ah2,Option.bind_some,Ah5,Ah4,List.zip_cons_cons,List.zip_nil_left]
  have h5:Bi (CF [(.own mb,.row [iv s,iv u,iv r,iv e,.mapr (.own mp)] false),(.own mp,.map (Ds mb))]) (MX s' u' r' e')=some [.row [iv s',iv u',iv r',iv e',.mapr (.own mp)] false,.map (Ds mb)]:=by simp only [Bi,Blk.ren,IV.ren.renL,IV.ren,CF,Aib,Aic,Ah2,Option.bind_some,Ah5,Ah4,List.zip_cons_cons,List.zip_nil_left]
  unfold Ec;simp only [h1,Rd.runLog,h2,h3,Ah5,Ah4,h4,CX (Cm 3),CX CB,Ep,Bool.false_eq_true,if_false,e1,hu,Ah2,IV.ren,h5,Ah3,List.length_nil,Bz,List.all_nil,and_self,if_true,List.nil_append,List.zip_cons_cons,List.zip_nil_left];have hl3:Aq mp (AQ mb (.row [iv s',iv u',iv r',iv e',.mapr (.own mp)] false) own)=some (.map (Ds mb)):=by
   rw [<- hl2];clear hl1 hl2 h2 e1 hu hfz
   induction own with
   | nil=>simp only [AQ,Aq,if_neg (fun h=>hne (Eq.symm h))]
   | cons p l ih =>
    obtain ⟨j,c⟩:=p;simp only [AQ];split
    ·rename_i h;subst h;simp only [Aq,if_neg (fun h=>hne (Eq.symm h))]
    ·simp only [Aq,ih]
  have h6:laid ⟨own,[]⟩ [(.own mb,.row [iv s',iv u',iv r',iv e',.mapr (.own mp)] false),(.own mp,.map (Ds mb))]=some ⟨AQ mp (.map (Ds mb)) (AQ mb (.row [iv s',iv u',iv r',iv e',.mapr (.own mp)] false) own),[]⟩:=by simp only [laid,Hp.get,hl1,Hp.set,hl3]
  simp only [h6,Il,Cm]
 rw [JJ,TN,Pg,LW 0 args _ _ _ _ ks hks hz];simp only [Qj,Ps,cond_false];exact hD
def GI (op:Int):Int:=if op=8\/op=9\/op=12\/op=19\/op=30 then 1 else if op=4\/op=5 then 2 else if op=7 then 3 else if op=13 then 4 else -1
theorem jE {n:Nat} (hn:0<n) (op:Int):BC (SS dt n 119 [iv op] ⟨[],[]⟩) (.int .i64 (GI op)):=by
 obtain ⟨n,rfl⟩:=psc n (by omega);rw [Acs];unfold GI;by_cases h:op=8\/op=9\/op=12\/op=19\/op=30
 ·rw [if_pos h];rcases h with rfl | rfl | rfl | rfl | rfl<;>(simp only [S5,↓XX,XY,↓reduceIte,seval];exact Ay _ _)
 ·rw [if_neg h];have h8:¬ op=8:=fun e=>h (by simp [e]);have h9:¬ op=9:=fun e=>h (by simp [e]);have h12:¬ op=12:=fun e=>h (by simp [e]);have h19:¬ op=19:=fun e=>h (by simp [e]);have h30:¬ op=30:=fun e=>h (by simp [e]);by_cases h2:op=4\/op=5
  ·rw [if_pos h2];rcases h2 with rfl | rfl<;>(simp only [S5,↓XX,XY,↓reduceIte,seval];exact Ay _ _)
  ·rw [if_neg h2];have h4:¬ op=4:=fun e=>h2 (by simp [e]);have h5:¬ op=5:=fun e=>h2 (by simp [e]);by_cases h7:op=7
   ·subst h7;simp only [S5,↓XX,XY,↓reduceIte,seval];exact Ay _ _
   ·by_cases h13:op=13
    ·subst h13;simp only [S5,↓XX,XY,↓reduceIte,seval];exact Ay _ _
    ·simp only [S5,↓XX,XY,↓reduceIte,seval,h4,h5,h7,h8,h9,h12,h13,h19,h30];exact Ay _ _
mutual
def Tm.shaped:Tm->Bool
 | .mk op n ks=>!(decide (0<=GI op/\GI op≠ks.length) || decide (op=1/\n<0)) && Tm.shapedL ks
def Tm.shapedL:List Tm->Bool
 | []=>true
 | t::l=>t.shaped && Tm.shapedL l
end
theorem N9:∀(n:Nat) (t:Tm),t.wt+1<n->t.wt<=1152921504606846976->BC (SS dt n 95 [.fv t.enc] ⟨[],[]⟩) (.bool t.shaped):=by
 intro n
 induction n with
 | zero=>intro t h;omega
 | succ n ih =>
  intro t h hw;obtain ⟨op,m,ks⟩:=t;simp only [Tm.wt] at h hw;rw [c95,An];have hlen:=Dq ks;have hk:=jE (n:=n) (by omega) op;rw [Tm.shaped];have wl:∀j:Nat,j<=ks.length->BF (j:Int)=j:=fun j hj=>Az (by omega) (by omega);have loop:BC (BK n (fun q99 l100 h101=>I3 l100 h101 (SS dt n) ⟨[],[]⟩ q99) [.fv (.sl (ks.map Tm.enc)),iv ks.length,iv 0] ⟨[(99614720,.row [iv op,iv m,.fv (.sl (ks.map Tm.enc))] false)],[]⟩) (.bool (Tm.shapedL ks)):=by
   refine Be (Q:=fun r=>BC r _) (fun k V H=>∃pre rest,ks=pre++rest/\rest.length=k/\V=[.fv (.sl (ks.map Tm.enc)),iv ks.length,iv pre.length]/\H=⟨[(99614720,.row [iv op,iv m,.fv (.sl (ks.map Tm.enc))] false)],[]⟩/\Tm.shapedL rest=Tm.shapedL ks)
    ?_ n ks.length _ _ (by omega) ⟨[],ks,rfl,rfl,rfl,rfl,rfl⟩
   rintro k V H rec ⟨pre,rest,hk,hl,rfl,rfl,ht⟩ hrec;have hkl:ks.length=pre.length+rest.length:=by rw [hk];simp
   cases rest with
   | nil =>
    have hno:¬ ((pre.length:Int)<ks.length):=by rw [hkl];simp
    rw [<- ht];simp only [Jc,I3,JK,S95,↓XX,XY,↓reduceIte,seval,hno,Tm.shapedL];exact Ay _ _
   | cons t rest =>
    have hi:(pre.length:Int)<ks.length:=by rw [hkl];simp;omega
    have hg:=B2 hk;have htw:=Cb (t:=t) (l:=ks) (by rw [hk];simp);have hs:=ih t (by omega) (by omega);have hwi:BF ((pre.length:Int)+1)=((pre++[t]).length:Int):=(Az (by omega) (by omega)).trans (by simp);simp only [Tm.shapedL] at ht;generalize t.shaped=v at hs ht;obtain ⟨o,p,l⟩:=t;simp only [Ah3] at hl;rw [An] at hs;cases v
    ·rw [<- ht];simp only [Jc,I3,JK,S95,↓XX,XY,↓reduceIte,seval,hi,↓Br (AO hg) (Bm _ _ _),↓Cd,hwi,↓Ar hs,Bool.false_and];exact Ay _ _
    ·simp only [Jc,I3,JK,S95,↓XX,XY,↓reduceIte,seval,hi,↓Br (AO hg) (Bm _ _ _),↓Cd,hwi,↓Ar hs,↓AJ,XD,heldB,AS,XE];refine hrec rest.length _ _ (by omega) ?_;exact ⟨pre++[.mk o p l],rest,by rw [hk];simp,rfl,rfl,rfl,by simpa using ht⟩
  by_cases h0:0<=GI op
  ·by_cases h1:GI op=ks.length
   ·by_cases h2:op=1
    ·exfalso;subst h2;revert h0;decide
    ·have e1:(!(decide (0<=GI op/\GI op≠ks.length) || decide (op=1/\m<0)) && Tm.shapedL ks)=Tm.shapedL ks:=by simp [h1,h2]
     rw [e1];have h0':(0:Int)<=ks.length:=by omega
     rw [h1] at hk;simp only [↓bK,↓XX,XY,↓reduceIte,seval,↓Ar hk,h0',h2,↓AJ,XD,heldB,AS,XE];exact loop
   ·have e1:(!(decide (0<=GI op/\GI op≠ks.length) || decide (op=1/\m<0)) && Tm.shapedL ks)=false:=by simp [h0,h1]
    rw [e1];simp only [↓bK,↓XX,XY,↓reduceIte,seval,↓Ar hk,h0,h1];exact Ay _ _
  ·by_cases h2:op=1
   ·subst h2;by_cases h3:m<0
    ·have e1:(!(decide (0<=GI 1/\GI 1≠ks.length) || decide ((1:Int)=1/\m<0)) && Tm.shapedL ks)=false:=by simp [h3]
     rw [e1];simp only [↓bK,↓XX,XY,↓reduceIte,seval,↓Ar hk,h0,h3];exact Ay _ _
    ·have e1:(!(decide (0<=GI 1/\GI 1≠ks.length) || decide ((1:Int)=1/\m<0)) && Tm.shapedL ks)=Tm.shapedL ks:=by simp [h0,h3]
     rw [e1];simp only [↓bK,↓XX,XY,↓reduceIte,seval,↓Ar hk,h0,h3,↓AJ,XD,heldB,AS,XE];exact loop
   ·have e1:(!(decide (0<=GI op/\GI op≠ks.length) || decide (op=1/\m<0)) && Tm.shapedL ks)=Tm.shapedL ks:=by simp [h0,h2]
    rw [e1];simp only [↓bK,↓XX,XY,↓reduceIte,seval,↓Ar hk,h0,h2,↓AJ,XD,heldB,AS,XE];exact loop
def WC (f:Nat) (t:Tm):Option (Tm×Int) :=
 if t.shaped=false then some (.z,1) else match O0 f [] t ⟨100000,5000000,0⟩ with
 | none=>none
 | some (v,m)=>if m.e≠0 then some (.z,m.e) else match RJ f v 0 1 m 0 with
  | none=>none
  | some (u,m,_)=>if m.e≠0 then some (.z,m.e) else some (u,0)
theorem Y4 {ih:Ai} {f:FuncId} {args:List IV} {h h':Hp} {v:IV} (hr:ih f args h=some (v,h')) (k:KT (IV×Hp)):Z7 ih f args h k=k v h' [] []:=by unfold Z7;rw [hr]
abbrev tD (a b:Blk) (s u r e:Int):Hp :=⟨[(85983232,a),(85983233,b),(100664321,.row [iv s,iv u,iv r,iv e,.mapr (.own 100665345)] false),(100665345,.map (Ds 100664321))],[]⟩
abbrev aR (a b:Blk) (es:List (Int×IV)):Hp :=⟨[(85983232,a),(85983233,b),(100664321,.row [iv 100000,iv 5000000,iv 0,iv 0,.dead] false),(100665345,.map es)],[]⟩
abbrev fnO (g:FuncId):IV:=.func (.func g) [.ptr (.own 100664321) 0] []
theorem Od (a b:Blk) (es:List (Int×IV)) (g:FuncId) (n:Int) (s:Nat) (k:KT (IV×Hp)) :
  AA (Cp EE 124 (.mapr (.own 100665345)) (iv n) (EU 100664321 g)) s (aR a b es) k=k .dead (aR a b (CK n (EU 100664321 g) es)) [.own 100665345] [.own 100665345]:=by
 rw [zE _ 0 _ rfl,BB];rw [show Aq 100665345 (aR a b es).own=some (.map es) from rfl,Option.bind_some,aK,BO]
 rfl
theorem NU (g:FuncId) (k:IV->Option (IV×Hp)):A9 [.fv .nilf] [(0,1,fnO g)] k=k (EU 100664321 g):=rfl
theorem cS (a b:Blk) (es:List (Int×IV)):Py (.ptr (.own 100664321) 0) (aR a b es) (.mapr (.own 100665345))=some (.ptr (.own 100664321) 0,⟨[(85983232,a),(85983233,b),(100664321,.row [iv 100000,iv 5000000,iv 0,iv 0,.mapr (.own 100665345)] false),(100665345,.map es)],[]⟩):=by simp only [Py,↓XX,XY,↓reduceIte,seval,↓nG,↓of4]
theorem Kp (g:FuncId) (s:Nat) (h:Hp) (k:KT (IV×Hp)):AA (Idl.val (CJ (.func g) [.ptr (.own 100664321) 0] [])) s h k=k (fnO g) h [] []:=gen_val' _ _ _ _
theorem Zx (a b:Blk) (es:List (Int×IV)):PW (fnO 123) (aR a b es) (.mapr (.own 100665345)) (.ptr (.own 100664321) 0) =
  Py (.ptr (.own 100664321) 0) (aR a b (CK 19 (EU 100664321 124) (CK 30 (EU 100664321 123) es))) (.mapr (.own 100665345)):=by
 unfold PW;rw [NU,Od,Kp,NU,Od]
theorem ZE (a b:Blk) (es:List (Int×IV)):PK (aR a b es) (.mapr (.own 100665345)) (EU 100664321 121) (.ptr (.own 100664321) 0) =
  PW (fnO 123) (aR a b (CK 13 (EU 100664321 122) (CK 9 (EU 100664321 121) es))) (.mapr (.own 100665345)) (.ptr (.own 100664321) 0):=by
 unfold PK;rw [Od,Kp,NU,Od,Kp]
theorem bO (a b:Blk) (es:List (Int×IV)):Tb (aR a b es) (.ptr (.own 100664321) 0) (.mapr (.own 100665345)) =
  PK (aR a b (CK 8 (EU 100664321 121) es)) (.mapr (.own 100665345)) (EU 100664321 121) (.ptr (.own 100664321) 0):=by
 unfold Tb;rw [Kp,NU,Od,Kp,NU]
theorem AbL (k:IV->Option (IV×Hp)):A9 [.fv (.int .i64 0),.fv (.int .i64 0),.fv (.int .i64 0),.fv (.int .i64 0),.dead] [(0,1,.fv (.int .i64 100000)),(1,1,.fv (.int .i64 5000000))] k=k (.agg [iv 100000,iv 5000000,iv 0,iv 0,.dead]):=by simp only [↓XX,XY,↓reduceIte,seval,↓aL]
theorem Pt {n:Nat} (hn:0<n) (a b:Blk):SS dt n 96 [] ⟨[(85983232,a),(85983233,b)],[]⟩=some (.ptr (.own 100664321) 0,tD a b 100000 5000000 0 0):=by
 obtain ⟨n,rfl⟩:=psc n (by omega);rw [c96];unfold S96;rw [AbL,RR];have e1:∀k:KT (IV×Hp),E1 100664321 (.row [iv 100000,iv 5000000,iv 0,iv 0,.dead] false) (.ptr (.own 100664321) 0) ⟨[(85983232,a),(85983233,b)],[]⟩ k =
   k (.ptr (.own 100664321) 0) ⟨[(85983232,a),(85983233,b),(100664321,.row [iv 100000,iv 5000000,iv 0,iv 0,.dead] false)],[]⟩ [] [.own 100664321]:=by
  intro k;simp only [↓XX,XY,↓reduceIte,seval]
 rw [e1];have e2:∀k:KT (IV×Hp),AA (Gl 100665345) 100665345 ⟨[(85983232,a),(85983233,b),(100664321,.row [iv 100000,iv 5000000,iv 0,iv 0,.dead] false)],[]⟩ k =
   k (.mapr (.own 100665345)) (aR a b []) [] [.own 100665345]:=by
  intro k;rw [AdS];simp only [↓XX,XY,↓reduceIte,seval]
 rw [e2,Kp,NU,Od,bO,ZE,Zx,cS];rfl
section
variable {ih:Ai} {f:FuncId} {w:FV} {a b:Blk} {s u r e s' u' r' e':Int} (k:KT (IV×Hp))
theorem nU (args:List IV) (ks:List Bool) (hks:∀b∈ks,b=false) {vs:List FV} (hz:Bx args=some vs) (hr:By (ih f (.ptr (.ext 0) 0::vs.map .fv) ⟨[],MX s u r e⟩) w (MX s' u' r' e')) :
  A5 (true::ks) false false ih f (.ptr (.own 100664321) 0::args) (tD a b s u r e) k=k (.fv w) (tD a b s' u' r' e') [.own 100665345,.own 100664321] [.own 100664321,.own 100665345]:=by
 (try unfold is0);rw [xB hks hz (mp:=100665345) (by decide) (by rfl) (by rfl) hr]
 rfl
theorem Tx {x y:IV} {vx vy:FV} (hr:By (ih f [.ptr (.ext 0) 0,.fv vx,.fv vy] ⟨[],MX s u r e⟩) w (MX s' u' r' e')) (hx:Bg x=some vx) (hy:Bg y=some vy) :
  A5 [true,false,false] false false ih f [.ptr (.own 100664321) 0,x,y] (tD a b s u r e) k=k (.fv w) (tD a b s' u' r' e') [.own 100665345,.own 100664321] [.own 100664321,.own 100665345] :=
 nU k [x,y] [false,false] (by simp) (SW hx hy) hr
theorem bW {x y z:IV} {vx vy vz:FV} (hr:By (ih f [.ptr (.ext 0) 0,.fv vx,.fv vy,.fv vz] ⟨[],MX s u r e⟩) w (MX s' u' r' e')) (hx:Bg x=some vx) (hy:Bg y=some vy) (hz:Bg z=some vz) :
  A5 [true,false,false,false] false false ih f [.ptr (.own 100664321) 0,x,y,z] (tD a b s u r e) k=k (.fv w) (tD a b s' u' r' e') [.own 100665345,.own 100664321] [.own 100664321,.own 100665345] :=
 nU k [x,y,z] [false,false,false] (by simp) (YN hx hy hz) hr
end
theorem Z4 {f n:Nat} {t u:Tm} {e:Int} (h:WC f t=some (u,e)) (hn:f+3<=n) (hw:t.wt+3<n) (hw2:t.wt<=1152921504606846976):BC (SS dt n 82 [.fv t.enc] ⟨[],[]⟩) (.tuple [u.enc,.int .i64 e]):=by
 obtain ⟨n,rfl⟩:=psc n (by omega);rw [c82];have hs:=N9 n t (by omega) hw2;unfold WC at h;obtain ⟨op,m,ks⟩:=t;rw [An] at hs ⊢;by_cases h0:(Tm.mk op m ks).shaped=false
 ·rw [if_pos h0] at h;simp only [AhZ,Ah0] at h;obtain ⟨rfl,rfl⟩:=h;rw [h0] at hs;simp only [MZ,xV,↓XX,XY,↓reduceIte,seval,↓Ar hs];exact QS rfl (by simp) _
 ·rw [if_neg h0] at h;have h0:(Tm.mk op m ks).shaped=true:=by simpa using h0
  rw [h0] at hs;cases hev:O0 f [] (.mk op m ks) ⟨100000,5000000,0⟩ with
  | none=>rw [hev] at h;cases h
  | some q =>
   obtain ⟨v,m1⟩:=q;rw [hev] at h;simp only at h;have hc1:=(KZ f).1 _ _ _ _ _ hev 0 n (by omega);rw [An,Rz] at hc1;by_cases h1:m1.e=0
   ·rw [if_neg (by simpa using h1)] at h;simp only [h1] at hc1;cases hbk:RJ f v 0 1 m1 0 with
    | none=>rw [hbk] at h;cases h
    | some q =>
     obtain ⟨u1,m2,r2⟩:=q;rw [hbk] at h;simp only at h;have hc2:=oG f _ _ _ _ _ _ _ _ hbk n (by omega);obtain ⟨o1,n1,k1⟩:=u1;rw [An] at hc2;simp only [h1] at hc2;by_cases h2:m2.e=0
     ·rw [if_neg (by simpa using h2)] at h;simp only [AhZ,Ah0] at h;obtain ⟨rfl,rfl⟩:=h;rw [An];simp only [MZ,xV,↓XX,XY,↓reduceIte,seval,↓Ar hs,↓Y4 (Pt (n:=n) (by omega) _ _),↓Tx _ hc1,↓bW _ hc2,h1,h2];exact Ay _ _
     ·rw [if_pos h2] at h;simp only [AhZ,Ah0] at h;obtain ⟨rfl,rfl⟩:=h;simp only [MZ,xV,↓XX,XY,↓reduceIte,seval,↓Ar hs,↓Y4 (Pt (n:=n) (by omega) _ _),↓Tx _ hc1,↓bW _ hc2,h1,h2];exact QS rfl (by simp) _
   ·rw [if_pos h1] at h;simp only [AhZ,Ah0] at h;obtain ⟨rfl,rfl⟩:=h;simp only [MZ,xV,↓XX,XY,↓reduceIte,seval,↓Ar hs,↓Y4 (Pt (n:=n) (by omega) _ _),↓Tx _ hc1,h1];exact QS rfl (by simp) _
mutual
def Tm.surf:Tm->Nat
 | .mk op _ ks=>1+Tm.surfL op 0 ks
def Tm.surfL:Int->Nat->List Tm->Nat
 | _,_,[]=>0
 | op,i,t::l=>(if 0<Al op i then 0 else t.surf)+Tm.surfL op (i+1) l
end
mutual
def Tm.inn:Tm->Nat
 | .mk op _ ks=>Tm.innL op 0 ks
def Tm.innL:Int->Nat->List Tm->Nat
 | _,_,[]=>0
 | op,i,t::l=>(if 0<Al op i then t.wt else t.inn)+Tm.innL op (i+1) l
end
mutual
theorem MU:∀t:Tm,t.surf+t.inn=t.wt
 | .mk op n ks=>by
  have:=surfL_innL op 0 ks
  simp only [Tm.surf,Tm.inn,Tm.wt];omega
theorem surfL_innL:∀(op:Int) (i:Nat) (l:List Tm),Tm.surfL op i l+Tm.innL op i l=Tm.wtL l
 | _,_,[]=>rfl
 | op,i,t::l=>by
  have h1:=MU t;have h2:=surfL_innL op (i+1) l;simp only [Tm.surfL,Tm.innL,Tm.wtL];split<;>omega
end
mutual
def RV.vsz:RV->Nat
 | .mk op _ k _ _=>1+RV.vszL op 0 k
def RV.vszL:Int->Nat->List RV->Nat
 | _,_,[]=>0
 | op,i,v::l=>(if 0<Al op i then 0 else v.vsz)+RV.vszL op (i+1) l
end
theorem Vl (v:RV):1<=v.vsz:=by obtain ⟨op,n,k,env,b⟩:=v;rw [RV.vsz];omega
inductive Rel (B:Nat):PV->RV->Prop
 | var (n:Int):Rel B (.var n) (.var n)
 | node (op n n':Int) (kp:List PV) (kr:List RV) (ts:List Tm) (e:List PV) (env:List RV) (h1:op≠1) (har:ar op=some ts.length) (hl:kp.length=ts.length) (hl2:kr.length=ts.length)
   (hk:∀i p r,Al op i=0->kp[i]?=some p->kr[i]?=some r->Rel B p r)
   (hb:∀i b,0<Al op i->ts[i]?=some b->(b.good/\b.wt<=B)/\kp[i]?=some .nil/\kr[i]?=some (.clo env b))
   (hel:e.length=env.length) (he:∀(i:Nat) p r,e[i]?=some p->env.reverse[i]?=some r->Rel B p r):Rel B (.mk op n kp (.mk op n' ts) e) (.node op n kr)
def Gb (B:Nat) (e:List PV) (env:List RV):Prop:=e.length=env.length/\∀(i:Nat) p r,e[i]?=some p->env.reverse[i]?=some r->Rel B p r
theorem L7 {B:Nat} {p:PV} {r:RV} (h:Rel B p r):∃op n k t e,p=.mk op n k t e/\r.op=op/\r.n=n:=by
 cases h with
 | var n=>exact ⟨_,_,_,_,_,rfl,rfl,rfl⟩
 | node=>exact ⟨_,_,_,_,_,rfl,rfl,rfl⟩
theorem SA (B:Nat):Gb B [] []:=⟨rfl,fun i p r h=>by simp at h⟩
theorem TW {B:Nat} {e l:List PV} {env l':List RV} (h:Gb B e env) (hl:l.length=l'.length) (hr:∀(i:Nat) p r,l[i]?=some p->l'[i]?=some r->Rel B p r):Gb B (l.reverse++e) (env++l'):=by
 refine ⟨by simp [h.1,hl,Nat.add_comm],?_⟩;intro i p r hp hr';rw [List.reverse_append] at hr';by_cases hi:i<l.length
 ·rw [Ah9 (by simpa using hi),List.getElem?_reverse hi] at hp;rw [Ah9 (by simp;omega),List.getElem?_reverse (by omega)] at hr';exact hr _ _ _ hp (by rw [hl];exact hr')
 ·rw [Ah8 (by simp;omega),List.length_reverse] at hp;rw [Ah8 (by simp;omega),List.length_reverse,<- hl] at hr';exact h.2 _ _ _ hp hr'
theorem kN {B:Nat} {e:List PV} {env:List RV} (h:Gb B e env) {m:Int} (h0:0<=m) (hm:m<env.length) {r:RV} (hr:env[(env.length - 1 - m).toNat]?=some r):Rel B (FN e m) r:=by
 rw [FN,if_pos (by rw [h.1];exact hm)];have hi:m.toNat<e.length:=by rw [h.1];omega
 rw [List.getD_eq_getElem?_getD,Ah6 hi];refine h.2 m.toNat _ _ (Ah6 hi) ?_;rw [List.getElem?_reverse (by omega),show env.length - 1 - m.toNat=(env.length - 1 - m).toNat by omega]
 exact hr
def sl (t:Tm) (v:RV):Nat:=if t.op=19/\v.op=19 then 1 else if t.op=30/\v.op=30 then 0 else if t.badR=true then 2 else 3
theorem TQ (t:Tm) (v:RV):sl t v<=3:=by unfold sl;split;omega;split;omega;split<;>omega
structure Cost (t:Tm) (v:RV) (k c u:Nat):Prop where
 le:c<=t.surf+k * t.inn
 p:5 * u<=3 * c+10 * k
 q:5 * u+sl t v<=3 * c+10 * k
 v:k=0->t.surf<=v.vsz
structure MOk (m:M3) (k T:Nat):Prop where
 e:m.e=0
 w:(T:Int)<=m.w
 w2:m.w<=5000000
 s:(k:Int)<=m.s
 s2:m.s<=100000
def Gf (m:M3) (k T:Nat):M3:=⟨m.s - k,m.w - T,0⟩
theorem Fa (m:M3) (k1 T1 k2 T2:Nat):Gf (Gf m k1 T1) k2 T2=Gf m (k1+k2) (T1+T2):=by simp only [Gf,M3.mk.injEq,and_true];omega
theorem MN {m:M3} {k1 T1 k2 T2:Nat} (h:MOk m (k1+k2) (T1+T2)):MOk m k1 T1:=⟨h.e,by have:=h.w;omega,h.w2,by have:=h.s;omega,h.s2⟩
theorem Ip {m:M3} {k1 T1 k2 T2:Nat} (h:MOk m (k1+k2) (T1+T2)):MOk (Gf m k1 T1) k2 T2:=⟨rfl,by have:=h.w;simp only [Gf];omega,by have:=h.w2;simp only [Gf];omega,by have:=h.s;simp only [Gf];omega,by have:=h.s2;simp only [Gf];omega⟩
theorem LN {m:M3} {k T:Nat} (h:MOk m k (1+T)):Hs m=some (Gf m 0 1):=by have h1:=h.w;have h2:=h.w2;have h3:=h.e;rw [Hs,if_neg (by omega),if_neg (by omega),h3];simp only [Gf,AhZ,M3.mk.injEq,and_true];omega
def cZ (B:Nat) (e:List PV) (t:Tm) (v:RV) (k T:Nat):Prop:=∃v',Rel B v' v/\∃F,∀f,F<=f->∀m,MOk m k T->O0 f e t m=some (v',Gf m k T)
def Vc (B f:Nat):Prop:=∀(s:Int) (t:Tm) (env:List RV) (v:RV) (s':Int),AC f s 0 t env=some (v,s',0)->t.good->t.wt<=B->∀e,Gb B e env->∃k c u T:Nat,s'=s+k/\Cost t v k c u/\T<=c+u+2 * k/\cZ B e t v k T
def GU (op:Int):Nat->List Tm->List RV->Nat
 | _,[],_=>0
 | _,_::_,[]=>0
 | i,t::l,v::vs=>(if 0<Al op i then 0 else sl t v)+GU op (i+1) l vs
theorem UO (k1 k2 a b:Nat):k1 * a+k2 * b<=(k1+k2) * (a+b):=by rw [Nat.add_mul,Nat.mul_add,Nat.mul_add];have h1:0<=k1 * b:=Nat.zero_le _;have h2:0<=k2 * a:=Nat.zero_le _;omega
theorem Ms {B f:Nat} (ih:Vc B f) (op:Int) (env:List RV) (e:List PV) (he:Gb B e env):∀(l:List Tm) (i:Nat) (s:Int) (vs:List RV) (s':Int),A7 (fun s e t=>AC f s e t env) op env i l s 0=some (vs,s',0)->Tm.goodL l->Tm.wtL l<=B ->
  ∃k c u T:Nat,s'=s+k/\c<=Tm.surfL op i l+k * Tm.innL op i l/\5 * u+GU op i l vs<=3 * c+10 * k/\(k=0->Tm.surfL op i l<=RV.vszL op i vs)/\T<=c+u+2 * k/\vs.length=l.length /\
   ∃ps:List PV,ps.length=l.length/\(∀j t,l[j]?=some t->0<Al op (i+j)->ps[j]?=some .nil/\vs[j]?=some (.clo env t))/\(∀j p r,Al op (i+j)=0->ps[j]?=some p->vs[j]?=some r->Rel B p r) /\
    (∀j t r,l[j]?=some t->Al op (i+j)=0->vs[j]?=some r->∃s1 s2,AC f s1 0 t env=some (r,s2,0))/\∃F,∀g,F<=g->∀m,MOk m k T->Qb (fun t m=>O0 g e t m) op i l m=some (ps,Gf m k T)
 | [],i,s,vs,s',h,_,_=>by
  simp only [A7,AhZ,Ah0] at h;obtain ⟨rfl,rfl,_⟩:=h;refine ⟨0,0,0,0,by omega,by omega,by rw [GU];omega,fun _=>by rw [Tm.surfL,RV.vszL];omega,by omega,rfl,[],rfl,fun j t h=>by simp at h,fun j p r _ h=>by simp at h,fun j t r h=>by simp at h,0,fun g _ m hm=>?_⟩
  have:Gf m 0 0=m:=by
   obtain ⟨a,b,c⟩:=m
   have:=hm.e
   simp only at this;subst this;simp [Gf]
  rw [Qb,this]
 | t::l,i,s,vs,s',h,hg,hw=>by
  rw [Tm.goodL] at hg;rw [Tm.wtL] at hw;simp only [A7] at h;by_cases hb:0<Al op i
  ·rw [if_pos hb] at h;cases hk:A7 (fun s e t=>AC f s e t env) op env (i+1) l s 0 with
   | none=>rw [hk] at h;cases h
   | some q =>
    obtain ⟨vs1,s1,e1⟩:=q;rw [hk] at h;simp only [Ah2,AhZ,Ah0] at h;obtain ⟨rfl,rfl,rfl⟩:=h;obtain ⟨k,c,u,T,h1,h2,h3,h4,h5,h6,ps,h7,h8,h9,h10,F,h11⟩:=Ms ih op env e he l (i+1) s vs1 s1 hk hg.2 (by omega);refine ⟨k,c,u,T,h1,?_,?_,?_,h5,by simp [h6],.nil::ps,by simp [h7],?_,?_,?_,F,?_⟩
    ·rw [Tm.surfL,Tm.innL,if_pos hb,if_pos hb]
     have:=UO 0 k t.wt (Tm.innL op (i+1) l)
     rw [Nat.zero_mul,Nat.zero_add,Nat.zero_add] at this;omega
    ·rw [GU,if_pos hb];omega
    ·intro hk0;rw [Tm.surfL,RV.vszL,if_pos hb,if_pos hb]
     have:=h4 hk0
     omega
    ·intro j x hj hbj;cases j with
     | zero =>simp only [Aib,AhZ] at hj;subst hj;exact ⟨rfl,rfl⟩
     | succ j =>rw [Aic] at hj;rw [Aic,Aic];exact h8 j x hj (by rwa [show i+1+j=i+(j+1) by omega])
    ·intro j p r hbj hp hr;cases j with
     | zero=>rw [Nat.add_zero] at hbj;omega
     | succ j =>rw [Aic] at hp hr;exact h9 j p r (by rwa [show i+1+j=i+(j+1) by omega]) hp hr
    ·intro j x r hj hbj hr;cases j with
     | zero=>rw [Nat.add_zero] at hbj;omega
     | succ j =>rw [Aic] at hj hr;exact h10 j x r hj (by rwa [show i+1+j=i+(j+1) by omega]) hr
    ·intro g hgF m hm;rw [Qb,if_pos hb,h11 g hgF m hm];rfl
  ·rw [if_neg hb] at h;split at h
   ·cases h
   ·rename_i v s1 e1 hev;cases hk:A7 (fun s e t=>AC f s e t env) op env (i+1) l s1 e1 with
    | none=>rw [hk] at h;cases h
    | some q =>
     obtain ⟨vs1,s2,e2⟩:=q;rw [hk] at h;simp only [Ah2,AhZ,Ah0] at h;obtain ⟨rfl,rfl,rfl⟩:=h;have h0:=Gk _ (fun s e t v s' h=>Cq h) op env l _ _ _ _ _ hk;subst h0;obtain ⟨k1,c1,u1,T1,a1,a2,a3,p1,a4,F1,a5⟩:=ih s t env v s1 hev hg.1 (by omega) e he;obtain ⟨k,c,u,T,h1,h2,h3,h4,h5,h6,ps,h7,h8,h9,h10,F,h11⟩:=Ms ih op env e he l (i+1) s1 vs1 s2 hk hg.2 (by omega);have ac:=a2.le;have ap:=a2.p;have aq:=a2.q;refine ⟨k1+k,c1+c,u1+u,T1+T,by omega,?_,?_,?_,by omega,by simp [h6],p1::ps,by simp [h7],?_,?_,?_,F1+F,?_⟩
     ·rw [Tm.surfL,Tm.innL,if_neg hb,if_neg hb]
      have:=UO k1 k t.inn (Tm.innL op (i+1) l)
      omega
     ·rw [GU,if_neg hb];omega
     ·intro hk0;rw [Tm.surfL,RV.vszL,if_neg hb,if_neg hb]
      have:=h4 (by omega)
      have:=a2.v (by omega)
      omega
     ·intro j x hj hbj;cases j with
      | zero=>rw [Nat.add_zero] at hbj;exact absurd hbj hb
      | succ j =>rw [Aic] at hj;rw [Aic,Aic];exact h8 j x hj (by rwa [show i+1+j=i+(j+1) by omega])
     ·intro j p r hbj hp hr;cases j with
      | zero =>simp only [Aib,AhZ] at hp hr;subst hp hr;exact a4
      | succ j =>rw [Aic] at hp hr;exact h9 j p r (by rwa [show i+1+j=i+(j+1) by omega]) hp hr
     ·intro j x r hj hbj hr;cases j with
      | zero =>simp only [Aib,AhZ] at hj hr;subst hj hr;exact ⟨_,_,hev⟩
      | succ j =>rw [Aic] at hj hr;exact h10 j x r hj (by rwa [show i+1+j=i+(j+1) by omega]) hr
     ·intro g hgF m hm;rw [Qb,if_neg hb,a5 g (by omega) m (MN hm)];simp only;rw [h11 g (by omega) _ (Ip hm),Fa];rfl
theorem H0 {B:Nat} {p:PV} {r:RV} (h:Rel B p r) (h1:r.op≠1):∃n' kp ts e env,p=.mk r.op r.n kp (.mk r.op n' ts) e/\ar r.op=some ts.length/\kp.length=ts.length/\r.k.length=ts.length /\
  (∀i p' r',Al r.op i=0->kp[i]?=some p'->r.k[i]?=some r'->Rel B p' r') /\
  (∀i b,0<Al r.op i->ts[i]?=some b->(b.good/\b.wt<=B)/\kp[i]?=some .nil/\r.k[i]?=some (.clo env b))/\Gb B e env:=by
 cases h with
 | var n=>exact absurd rfl h1
 | node op n n' kp kr ts e env h1 har hl hl2 hk hb hel he=>exact ⟨n',kp,ts,e,env,rfl,har,hl,hl2,hk,hb,hel,he⟩
def Oj {m:M3} (h:m.e=0):Gf m 0 0=m:=by obtain ⟨a,b,c⟩:=m;simp only at h;subst h;simp [Gf]
def Zr {op:Int} {r:Nat} (h:ar op=some r):r<=4:=by
 unfold ar at h
 repeat' split at h
 all_goals first | (simp only [AhZ] at h;omega) | cases h
def AeR (g:Nat) (n:Int) (o0 n0:Int) (k0:List PV) (t0:Tm) (e0:List PV) (x:PV) (t:Tm) (e:List PV) (m:M3):stP (g+1) (.mk 5 n [.mk o0 n0 k0 t0 e0,x] t e) m=if o0=4 then opP g (.mk o0 n0 k0 t0 e0) 1 [x] m else some (.nil,m):=by rw [stP.eq_def];simp only [if_true]
def Abo (g:Nat) (op n:Int) (h:op=8\/op=9) (n0:Int) (a x y:PV) (t0:Tm) (e0:List PV) (t:Tm) (e:List PV) (m:M3):stP (g+1) (.mk op n [.mk 7 n0 [a,x,y] t0 e0] t e) m=some (if op=8 then x else y,m):=by rw [stP.eq_def];simp only;rw [if_neg (by omega),if_pos h,if_true]
def uV (g:Nat) (n:Int) (p0 z p2:PV) (n3:Int) (k3:List PV) (t3:Tm) (e3:List PV) (t:Tm) (e:List PV) (m:M3):stP (g+1) (.mk 13 n [p0,z,p2,.mk 11 n3 k3 t3 e3] t e) m=some (z,m):=by rw [stP.eq_def];simp only [Int.reduceEq,if_false,if_true,or_self]
def rV {g:Nat} {n:Int} {p0 z p2:PV} {n3:Int} {x y:PV} {t3:Tm} {e3:List PV} {t:Tm} {e:List PV} {m m':M3} (hc:ctP g (.mk 13 n [.nil,z,.nil,x] t e) m=some (y,m')):stP (g+1) (.mk 13 n [p0,z,p2,.mk 12 n3 [x] t3 e3] t e) m=opP g (.mk 13 n [p0,z,p2,.mk 12 n3 [x] t3 e3] t e) 2 [x,y] m':=by rw [stP.eq_def];simp only [Int.reduceEq,if_false,if_true,or_self,hc]
def wR (g:Nat) (n:Int) (p0 z p2:PV) (o3 n3:Int) (k3:List PV) (t3:Tm) (e3:List PV) (t:Tm) (e:List PV) (m:M3) (h11:o3≠11) (h12:o3≠12):stP (g+1) (.mk 13 n [p0,z,p2,.mk o3 n3 k3 t3 e3] t e) m=some (.nil,m):=by rw [stP.eq_def];simp only [Int.reduceEq,if_false,if_true,or_self,h11,h12]
def Aa1 (g:Nat) (n:Int) (n0:Int) (x:PV) (t0:Tm) (e0:List PV) (t:Tm) (e:List PV) (m:M3):stP (g+1) (.mk 30 n [.mk 19 n0 [x] t0 e0] t e) m=some (x,m):=by rw [stP.eq_def];simp only [Int.reduceEq,if_false,if_true,or_self]
def wN (g:Nat) (n:Int) (o0 n0:Int) (k0:List PV) (t0:Tm) (e0:List PV) (t:Tm) (e:List PV) (m:M3) (h:o0≠19):stP (g+1) (.mk 30 n [.mk o0 n0 k0 t0 e0] t e) m=some (.nil,m):=by rw [stP.eq_def];simp only [Int.reduceEq,if_false,if_true,or_self,h]
def yB (g:Nat) (n:Int) (n0:Int) (x:PV) (t0:Tm) (e0:List PV) (t:Tm) (e:List PV) (m:M3):stP (g+1) (.mk 19 n [.mk 30 n0 [x] t0 e0] t e) m=some (x,m):=by rw [stP.eq_def];simp only [Int.reduceEq,if_false,if_true,or_self]
def wK (g:Nat) (n:Int) (o0 n0:Int) (k0:List PV) (t0:Tm) (e0:List PV) (t:Tm) (e:List PV) (m:M3) (h:o0≠30):stP (g+1) (.mk 19 n [.mk o0 n0 k0 t0 e0] t e) m=some (.nil,m):=by rw [stP.eq_def];simp only [Int.reduceEq,if_false,if_true,or_self,h]
def Hx (op n:Int) (ps:List PV) (t:Tm) (e:List PV) (v':PV) (k T:Nat):Prop:=∃F,∀g,F<=g->∀m,MOk m k T->ctP g (.mk op n ps t e) m=some (v',Gf m k T)
def Aba {op n:Int} {ps:List PV} {t:Tm} {e:List PV} (h:C9 op=false):Hx op n ps t e (.mk op n ps t e) 0 0:=by refine ⟨1,fun g hg m hm=>?_⟩;obtain ⟨g,rfl⟩:=psc g (by omega);rw [ctP,h,Oj hm.e];rfl
def L9 {op n:Int} {ps:List PV} {t:Tm} {e:List PV} (h:C9 op=true) (hs:∃F,∀g,F<=g->∀m,stP g (.mk op n ps t e) m=some (.nil,m)):Hx op n ps t e (.mk op n ps t e) 0 1:=by obtain ⟨F,hs⟩:=hs;refine ⟨F+2,fun g hg m hm=>?_⟩;obtain ⟨g,rfl⟩:=psc g (by omega);rw [ctP,if_pos h,if_neg (fun h=>h hm.e),if_neg (by omega),LN (k:=0) (T:=0) hm];simp only;rw [if_neg (by simp [Gf]),hs g (by omega)]
theorem Gw {op n:Int} {ps:List PV} {t:Tm} {e:List PV} {v':PV} {k T:Nat} (h:C9 op=true) (hv:v'≠.nil) (hs:∃F,∀g,F<=g->∀m,MOk m k T->stP g (.mk op n ps t e) m=some (v',Gf m k T)):Hx op n ps t e v' (k+1) (1+T):=by
 obtain ⟨F,hs⟩:=hs;refine ⟨F+2,fun g hg m hm=>?_⟩;obtain ⟨g,rfl⟩:=psc g (by omega);have hm':MOk (Gf m 0 1) k T:=Ip (k1:=0) (k2:=k) ⟨hm.e,hm.w,hm.w2,by have:=hm.s;omega,hm.s2⟩;rw [ctP,if_pos h,if_neg (fun h=>h hm.e),if_neg (by omega),LN hm];simp only;rw [if_neg (by simp [Gf]),hs g (by omega) _ hm',Fa];have h1:=hm.s;have h2:=hm.s2;cases v' with
 | nil=>exact absurd rfl hv
 | mk o1 n1 k1 t1 e1 =>simp only;rw [if_neg (by simp [Gf]),if_neg (by simp only [Gf];omega),if_neg (by simp only [Gf];omega)];simp only [Gf,AhZ,Ah0,true_and,M3.mk.injEq,and_true];omega
def T8 {B:Nat} {op n n':Int} {ps:List PV} {ts:List Tm} {e:List PV} {i:Nat} {b:Tm} {l:List PV} {v:RV} {k T:Nat} (hb:ts[i]?=some b) (hl:l.length<=2) (h:cZ B (l.reverse++e) b v k T) :
  ∃v',Rel B v' v/\∃F,∀g,F<=g->∀m,MOk m k T->opP g (.mk op n ps (.mk op n' ts) e) i l m=some (v',Gf m k T):=by
 obtain ⟨v',hr,F,h⟩:=h;refine ⟨v',hr,F+10,fun g hg m hm=>?_⟩;obtain ⟨g,rfl⟩:=psc g (by omega);rw [opP];rw [if_neg (by omega),hb];exact h g (by omega) m hm
def Kf {B:Nat} {p:PV} {r:RV} (h:Rel B p r):p≠.nil:=by obtain ⟨op,n,k,t,e,rfl,_⟩:=L7 h;exact fun h=>by cases h
def MR {B f:Nat} (ih:Vc B f) {e l:List PV} {env l':List RV} (he:Gb B e env) (hl:l.length=l'.length) (hr:∀(i:Nat) p r,l[i]?=some p->l'[i]?=some r->Rel B p r) {b:Tm} (hg:b.good) (hw:b.wt<=B) {s s':Int} {v:RV}
  (h:AC f s 0 b (env++l')=some (v,s',0)):∃k c u T:Nat,s'=s+k/\Cost b v k c u/\T<=c+u+2 * k/\cZ B (l.reverse++e) b v k T :=
 ih s b _ v s' h hg hw _ (TW he hl hr)
def Pw {b:Tm} {v:RV} {k c u:Nat} (h:Cost b v k c u):c<=(k+1) * b.wt:=by have h1:=h.le;have h2:=MU b;have h3:k * b.inn<=k * b.wt:=Nat.mul_le_mul_left _ (by omega);rw [Nat.add_mul,Nat.one_mul];omega
theorem jY {B:Nat}:∀f,(∀g,g<f->Vc B g)->∀(s:Int) (n n0:Int) (env:List RV) (b0 b2:Tm) (vz vn w:RV) (s':Int) (e:List PV) (pz pn:PV) (n':Int) (ts:List Tm),headR f s 0 (.node 13 n0 [.clo env b0,vz,.clo env b2,vn])=some (w,s',0) ->
  Rel B pz vz->Rel B pn vn->Gb B e env->ts[2]?=some b2->b2.good->b2.wt<=B->(∀pw:PV,Rel B (.mk 13 n [.nil,pz,.nil,pn] (.mk 13 n' ts) e) (.node 13 n0 [.clo env b0,vz,.clo env b2,vn])) ->
  (∀(px:PV) (vx:RV),Rel B px vx->Rel B (.mk 13 n [.nil,pz,.nil,px] (.mk 13 n' ts) e) (.node 13 0 [.clo env b0,vz,.clo env b2,vx])) ->
  ∃k c u T:Nat,s'=s+k/\c<=k * b2.wt/\5 * u<=3 * c+10 * k/\T<=c+u+2 * k+(if k=0 then 1 else 0)/\(k=0->c=0/\u=0/\w=.node 13 n0 [.clo env b0,vz,.clo env b2,vn]) /\
   ∃w',Rel B w' w/\Hx 13 n [.nil,pz,.nil,pn] (.mk 13 n' ts) e w' k T:=by
 intro f
 induction f with
 | zero=>intro _ s n n0 env b0 b2 vz vn w s' e pz pn n' ts h;rw [headR] at h;cases h
 | succ f ihf =>
  intro ih s n n0 env b0 b2 vz vn w s' e pz pn n' ts h hz hn he hb2 hg2 hw2 hself hless;obtain ⟨V,hV⟩:∃V,V=RV.node 13 n0 [.clo env b0,vz,.clo env b2,vn]:=⟨_,rfl⟩;have hop:V.op=13:=by rw [hV];rfl
  have hk0:V.k[0]?=some (.clo env b0):=by rw [hV];rfl
  have hk1:V.k[1]?=some vz:=by rw [hV];rfl
  have hk2:V.k[2]?=some (.clo env b2):=by rw [hV];rfl
  have hk3:V.k[3]?=some vn:=by rw [hV];rfl
  rw [<- hV] at h hself ⊢;rw [headR] at h;rw [if_neg (by simp)] at h;split at h
  ·cases h
  simp only [hop,if_true] at h;rw [if_neg (by decide),if_neg (by decide),if_neg (by decide),if_neg (by decide),hk0,hk1,hk2,hk3] at h;simp only at h;obtain ⟨on,nn,kn,tn,en,hpn,hon,hnn⟩:=L7 hn;by_cases h11:vn.op=11
  ·rw [if_pos h11] at h;by_cases hs:s+1<=1000
   ·rw [if_pos hs] at h;simp only [AhZ,Ah0] at h;obtain ⟨rfl,rfl,_⟩:=h;refine ⟨1,0,0,1,rfl,by omega,by omega,by simp,fun h=>by omega,pz,hz,Gw (k:=0) (T:=0) (by decide) (Kf hz) ⟨1,fun g hg m hm=>?_⟩⟩;obtain ⟨g,rfl⟩:=psc g (by omega);rw [hpn,<- hon,h11,uV,Oj hm.e]
   ·rw [if_neg hs] at h;simp at h
  ·rw [if_neg h11] at h;by_cases h12:vn.op=12
   ·rw [if_pos h12] at h;by_cases hs:s+1<=1000
    ·rw [if_pos hs] at h;have hvn1:vn.op≠1:=by omega
     obtain ⟨nn',kp,ts',en',envn,hpn',har,hkl,hrl,hkk,_,_⟩:=H0 hn hvn1;rw [h12,show ar 12=some 1 by decide,AhZ] at har
     obtain ⟨vx,hvx⟩:=FD (l:=vn.k) (by omega);obtain ⟨px,hpx⟩:=FD (l:=kp) (by omega);have hx:Rel B px vx:=hkk 0 px vx (by rw [h12];decide) (by rw [hpx];rfl) (by rw [hvx];rfl);have hv0:(RV.k vn)[0]?=some vx:=by rw [hvx];rfl
     obtain ⟨on2,nn2,kn2,envn2,bn2⟩:=vn;simp only [RV.k] at hv0 h;rw [hv0] at h;simp only at h;split at h
     ·cases h
     rename_i vh s2 e2 hh;split at h
     ·cases h
     rw [show (RV.clo env b2).env=env from rfl,show (RV.clo env b2).b=b2 from rfl] at h
     have he2:=Cq h;subst he2;obtain ⟨k1,c1,u1,T1,a1,a2,a3,a4,a5,w1,a6,F1,a7⟩:=ihf (fun g hg=>ih g (by omega)) (s+1) n 0 env b0 b2 vz vx vh s2 e pz px n' ts hh hz hx he hb2 hg2 hw2 (fun _=>hless px vx hx) hless;obtain ⟨k2,c2,u2,T2,d1,d2,d3,d4⟩:=MR (ih f (by omega)) (l:=[px,w1]) (l':=[vx,vh]) he rfl (by
      intro i p r hp hr
      match i with
      | 0=>simp only [Aib,AhZ] at hp hr;subst hp hr;exact hx
      | 1=>simp only [Aic,Aib,AhZ] at hp hr;subst hp hr;exact a6
      | i+2=>simp at hp) hg2 hw2 h
     obtain ⟨w2,q1,F2,q2⟩:=T8 (op:=13) (n:=n) (n':=n') (ps:=[.nil,pz,.nil,pn]) hb2 (by simp) d4;have hd:=Pw d2;have hdp:=d2.p;refine ⟨k1+k2+1,c1+c2,u1+u2,1+(T1+T2),by omega,?_,by omega,?_,fun h=>by omega,w2,q1,Gw (k:=k1+k2) (T:=T1+T2) (by decide) (Kf q1) ⟨F1+F2+2,fun g hg m hm=>?_⟩⟩
     ·have e1:(k1+k2+1) * b2.wt=k1 * b2.wt+(k2+1) * b2.wt:=by rw [show k1+k2+1=k1+(k2+1) by omega,Nat.add_mul]
      omega
     ·rw [if_neg (by omega)];split at a4<;>omega
     ·obtain ⟨g,rfl⟩:=psc g (by omega);simp only [RV.op] at h12;subst h12;rw [hpn',hpx];simp only [RV.op,RV.n];rw [rV (a7 g (by omega) m (MN hm))];rw [hpn',hpx] at q2;simp only [RV.op,RV.n] at q2;rw [q2 g (by omega) _ (Ip hm),Fa]
    ·rw [if_neg hs] at h;simp at h
   ·rw [if_neg h12] at h;simp only [AhZ,Ah0] at h;obtain ⟨rfl,rfl,_⟩:=h;refine ⟨0,0,0,1,by omega,by omega,by omega,by simp,fun _=>⟨rfl,rfl,rfl⟩,_,hself pz,L9 (by decide) ⟨1,fun g hg m=>?_⟩⟩;obtain ⟨g,rfl⟩:=psc g (by omega);rw [hpn,wR _ _ _ _ _ _ _ _ _ _ _ _ _ (by rw [<- hon];exact h11) (by rw [<- hon];exact h12)]
end Idl
end Go.Proofs.YtnenpcghegcnhaaGreat

/-
  Texts of a proof, part 14: an ideal semantics of the program, its functions in shallow form, contracts of them. No statement of the seat is proved here.
-/
import Derived.Test.YtaifgaidaglblaaEqualEtaK13
set_option linter.all false
noncomputable section
namespace Go.Proofs.Ytaifgaidaglblaa
namespace Idl
mutual
def Tm.wa:Tm→Prop
 | .mk op n ks=>ar op=some ks.length∧((op=1→0≤n)∧(op=19∨op=30→n=0))∧Tm.waL ks
def Tm.waL:List Tm→Prop
 | []=>True
 | t::l=>t.wa∧Tm.waL l
end
mutual
theorem Aiu:∀(t:Tm) (k:Nat),t.sc k→t.wa
 | .mk op n ks,k,h=>by
  rw [Tm.sc] at h;rw [Tm.wa];refine ⟨h.1,⟨fun h1=>?_,fun h9=>?_⟩,scL_wa ks op 0 k h.2.2⟩
  ·have:=h.2.1
   rw [if_pos h1] at this;exact this.1
  ·have:=h.2.1
   rw [if_neg (by omega)] at this;rcases h9 with rfl | rfl<;>simpa [BS] using this
theorem scL_wa:∀(l:List Tm) (op:Int) (i k:Nat),Tm.scL op i l k→Tm.waL l
 | [],_,_,_,_=>by rw [Tm.waL];trivial
 | t::l,op,i,k,h=>by
  rw [Tm.scL] at h;rw [Tm.waL];exact ⟨Aiu t _ h.1,scL_wa l op (i+1) k h.2⟩
end
inductive Un:Nat→RV→Tm→Prop
 | var (u:Nat) (n:Int) (h:n<u):Un u (.var n) (.mk 1 ((u:Int) - 1 - n) [])
 | node (u:Nat) (op n:Int) (k:List RV) (ts:List Tm) (T:Nat→Nat→Tm) (h1:op≠1) (h9:op=19∨op=30→n=0) (har:ar op=some ts.length) (hl:k.length=ts.length)
   (hk:∀(i:Nat) v t,Ae op i=0→k[i]?=some v→ts[i]?=some t→Un u v t)
   (hc:∀(i:Nat) (v:RV) t,0<Ae op i→k[i]?=some v→ts[i]?=some t→t=v.b.sub (Gk (Ae op i) (T i))∧v.b.wa)
   (hf:∀(i:Nat) (v:RV) (j:Nat),0<Ae op i→k[i]?=some v→v.env.length≤j→T i j=vT (u+(j - v.env.length)))
   (he:∀(i:Nat) (v:RV) (j:Nat) x,0<Ae op i→k[i]?=some v→v.env.reverse[j]?=some x→Un u x (T i j)):Un u (.node op n k) (.mk op n ts)
def V7 (u:Nat) (env:List RV) (τ:Nat→Tm):Prop:=(∀(j:Nat) x,env.reverse[j]?=some x→Un u x (τ j))∧∀j,env.length≤j→τ j=vT (u+(j - env.length))
theorem H5 {u:Nat} {v:RV} {t:Tm} (h:Un u v t) (h1:v.op≠1):∃(ts:List Tm) (T:Nat→Nat→Tm),(v.op=19∨v.op=30→v.n=0)∧v=.node v.op v.n v.k∧t=.mk v.op v.n ts∧ar v.op=some ts.length∧v.k.length=ts.length∧(∀(i:Nat) x y,Ae v.op i=0→v.k[i]?=some x→ts[i]?=some y→Un u x y) ∧
  (∀(i:Nat) (x:RV) y,0<Ae v.op i→v.k[i]?=some x→ts[i]?=some y→y=x.b.sub (Gk (Ae v.op i) (T i))∧x.b.wa∧V7 u x.env (T i)):=by
 cases h with
 | var=>exact absurd rfl h1
 | node op n k ts T h1 h9 har hl hk hc hf he =>
  refine ⟨ts,T,h9,rfl,rfl,har,hl,hk,fun i x y a b c=>?_⟩;obtain ⟨q1,q2⟩:=hc i x y a b c;exact ⟨q1,q2,fun j z hz=>he i x j z a b hz,fun j hj=>hf i x j a b hj⟩
theorem ArD {u:Nat} {v:RV} {t:Tm} (h:Un u v t):∀d:Nat,Un (u+d) v (t.ren fun j=>j+d):=by
 induction h with
 | var n h =>
  intro d;have e:(Tm.mk 1 ((u:Int) - 1 - n) [])=vT ((u:Int) - 1 - n).toNat:=by rw [vT];congr 1;omega
  rw [e,Lm]
  have:=Un.var (u+d) n (by omega)
  have e2:vT (((u:Int) - 1 - n).toNat+d)=.mk 1 (((u+d:Nat):Int) - 1 - n) []:=by rw [vT];congr 1;omega
  rw [e2];exact this
 | node op n k ts T h1 h9 har hl hk hc hf he ihk ihe =>
  intro d;rw [Tm.ren,if_neg h1];refine .node (u+d) op n k _ (fun i j=>(T i j).ren fun x=>x+d) h1 h9 (by rw [HT];exact har) (by rw [HT];exact hl) ?_ ?_ ?_ ?_
  ·intro i v t hb hv ht;rw [Og,Nat.zero_add] at ht;cases hx:ts[i]? with
   | none=>rw [hx] at ht;cases ht
   | some y =>
    rw [hx,hb,M9] at ht;simp only [AwS,AwP] at ht;subst ht;exact ihk i v y hb hv hx d
  ·intro i v t hb hv ht;rw [Og,Nat.zero_add] at ht;cases hx:ts[i]? with
   | none=>rw [hx] at ht;cases ht
   | some y =>
    rw [hx] at ht;simp only [AwS,AwP] at ht;subst ht;obtain ⟨q1,q2⟩:=hc i v y hb hv hx;refine ⟨?_,q2⟩;rw [q1,KA,Aba]
  ·intro i v j hb hv hj;rw [hf i v j hb hv hj,Lm];congr 1;omega
  ·intro i v j x hb hv hx;exact ihe i v j x hb hv hx d
theorem Ahj:V7 0 [] vT:=⟨fun j x h=>by simp at h,fun j _=>by simp⟩
theorem OJ {u:Nat} {env:List RV} {τ:Nat→Tm} (h:V7 u env τ) {x:RV} {t:Tm} (hx:Un u x t):V7 u (env++[x]) (fun i=>match i with | 0=>t | j+1=>τ j):=by
 refine ⟨fun j y hy=>?_,fun j hj=>?_⟩
 ·rw [List.reverse_append] at hy;cases j with
  | zero =>
   simp at hy;subst hy;exact hx
  | succ j =>
   simp only [List.reverse_cons,List.reverse_nil,List.nil_append,List.cons_append,List.getElem?_cons_succ] at hy;exact h.1 j y hy
 ·rw [List.length_append,AwT,List.length_nil] at hj ⊢;cases j with
  | zero=>omega
  | succ j =>
   simp only;rw [h.2 j (by omega)];congr 1;omega
theorem AlA {u:Nat} {env:List RV} {τ:Nat→Tm} (h:V7 u env τ) (b:Nat):V7 (u+b) (env++FK u b) (Gk b τ):=by
 refine ⟨fun j y hy=>?_,fun j hj=>?_⟩
 ·rw [List.reverse_append] at hy;by_cases hjb:j<b
  ·rw [List.getElem?_append_left (by rw [List.length_reverse,BW];exact hjb)] at hy;obtain ⟨_,rfl⟩:=Zi _ _ _ hy;simp only [Gk,if_pos hjb]
   have:=Un.var (u+b) ((u:Int)+((b - 1 - j:Nat):Int)) (by omega)
   have e:vT j=.mk 1 (((u+b:Nat):Int) - 1 - ((u:Int)+((b - 1 - j:Nat):Int))) []:=by rw [vT];congr 1;omega
   rw [e];exact this
  ·rw [List.getElem?_append_right (by rw [List.length_reverse,BW];omega),List.length_reverse,BW] at hy;simp only [Gk,if_neg hjb];exact ArD (h.1 _ _ hy) b
 ·rw [List.length_append,BW] at hj ⊢;simp only [Gk];rw [if_neg (by omega),h.2 _ (by omega),Lm];congr 1;omega
theorem Q6 {f:Nat} {s n:Int} {k0 x v:RV} {s':Int} (h:headR (f+1) s 0 (.node 5 n [k0,x])=some (v,s',0)):k0.op=4∧(∃c,k0.k[1]?=some c∧Au f (s+1) 0 c.b (c.env++[x])=some (v,s',0))∨k0.op≠4∧v=.node 5 n [k0,x]:=by
 rw [headR,if_neg (by simp)] at h;by_cases hs:s<0∨1000000<s
 ·rw [if_pos hs] at h;cases h
 rw [if_neg hs,if_pos (show RV.op (.node 5 n [k0,x])=5 from rfl),show RV.k (.node 5 n [k0,x])=[k0,x] from rfl] at h
 simp only [List.getElem?_cons_zero,List.getElem?_cons_succ] at h;by_cases h0:k0.op=4
 ·rw [if_pos h0] at h;by_cases h1:s+1≤1000
  ·rw [if_pos h1] at h;cases hc:k0.k[1]? with
   | none=>rw [hc] at h;cases h
   | some c =>
    rw [hc] at h;simp only at h;by_cases h2:900000<c.env.length
    ·rw [if_pos h2] at h;cases h
    ·rw [if_neg h2] at h;exact .inl ⟨h0,c,rfl,h⟩
  ·rw [if_neg h1] at h;simp at h
 ·rw [if_neg h0] at h;simp only [AwP,AwQ] at h;exact .inr ⟨h0,h.1.symm⟩
theorem Pa {f:Nat} {s op n:Int} {k0 v:RV} {s':Int} (ho:op=8∨op=9) (h:headR (f+1) s 0 (.node op n [k0])=some (v,s',0)):k0.op=7∧k0.k[(1+op - 8).toNat]?=some v∨k0.op≠7∧v=.node op n [k0]:=by
 rw [headR,if_neg (by simp)] at h;by_cases hs:s<0∨1000000<s
 ·rw [if_pos hs] at h;cases h
 have hop:RV.op (.node op n [k0])=op:=rfl;rw [if_neg hs,hop,if_neg (by omega),if_pos ho,show RV.k (.node op n [k0])=[k0] from rfl] at h
 simp only [List.getElem?_cons_zero] at h;by_cases h0:k0.op=7
 ·rw [if_pos h0] at h;by_cases h1:s+1≤1000
  ·rw [if_pos h1] at h;cases hw:k0.k[(1+op - 8).toNat]? with
   | none=>rw [hw] at h;cases h
   | some w =>
    rw [hw] at h;simp only [AwS,AwP,AwQ] at h;rw [← h.1];exact .inl ⟨h0,rfl⟩
  ·rw [if_neg h1] at h;simp at h
 ·rw [if_neg h0] at h;simp only [AwP,AwQ] at h;exact .inr ⟨h0,h.1.symm⟩
theorem TQ {ev:Int→Int→Tm→Option (RV×Int×Int)} {u:Nat} {env:List RV} {τ:Nat→Tm} (henv:V7 u env τ) (hev:∀s t v s',ev s 0 t=some (v,s',0)→t.wa→∃w,Un u v w∧Pars (t.sub τ) w) (herr:∀s e t v s',ev s e t=some (v,s',0)→e=0) (op:Int) :
  ∀(l:List Tm) (i:Nat) (s:Int) (vs:List RV) (s':Int),AR ev op env i l s 0=some (vs,s',0)→Tm.waL l→∃ts:List Tm,ts.length=l.length∧vs.length=l.length∧(∀(j:Nat) a b,(Tm.subL op i l τ)[j]?=some a→ts[j]?=some b→Pars a b) ∧
   (∀(j:Nat) v t,Ae op (i+j)=0→vs[j]?=some v→ts[j]?=some t→Un u v t)∧(∀(j:Nat) (v:RV) t,0<Ae op (i+j)→vs[j]?=some v→ts[j]?=some t→t=v.b.sub (Gk (Ae op (i+j)) τ)∧v.b.wa∧v.env=env)
 | [],i,s,vs,s',h,hw=>by
  simp only [AR,AwP,AwQ] at h;obtain ⟨rfl,_⟩:=h;exact ⟨[],rfl,rfl,fun j a b h=>by simp [Tm.subL] at h,fun j v t _ h=>by simp at h,fun j v t _ h=>by simp at h⟩
 | t::l,i,s,vs,s',h,hw=>by
  rw [Tm.waL] at hw;simp only [AR] at h;by_cases hb:0<Ae op i
  ·rw [if_pos hb] at h;cases hk:AR ev op env (i+1) l s 0 with
   | none=>rw [hk] at h;cases h
   | some q =>
    obtain ⟨us,s1,e1⟩:=q;rw [hk] at h;simp only [AwS,AwP,AwQ] at h;obtain ⟨rfl,rfl,rfl⟩:=h;obtain ⟨ts,a1,a2,a3,a4,a5⟩:=TQ henv hev herr op l (i+1) s us s1 hk hw.2;refine ⟨t.sub (Gk (Ae op i) τ)::ts,by simp [a1],by simp [a2],?_,?_,?_⟩
    ·intro j a b ha hb';cases j with
     | zero =>
      simp only [Tm.subL,List.getElem?_cons_zero,AwP] at ha hb';subst ha hb';exact .refl _
     | succ j =>
      simp only [Tm.subL,List.getElem?_cons_succ] at ha hb';exact a3 j a b ha hb'
    ·intro j v x h0 hv hx;cases j with
     | zero=>rw [Nat.add_zero] at h0;omega
     | succ j =>
      simp only [List.getElem?_cons_succ] at hv hx;exact a4 j v x (by rw [← h0];congr 1;omega) hv hx
    ·intro j v x h0 hv hx;cases j with
     | zero =>
      simp only [List.getElem?_cons_zero,AwP] at hv hx;subst hv hx;exact ⟨rfl,hw.1,rfl⟩
     | succ j =>
      simp only [List.getElem?_cons_succ] at hv hx
      have:=a5 j v x (by rw [show i+1+j=i+(j+1) by omega];exact h0) hv hx
      rw [show i+1+j=i+(j+1) by omega] at this
      exact this
  ·rw [if_neg hb] at h;have hb0:Ae op i=0:=by omega
   cases he:ev s 0 t with
   | none=>rw [he] at h;cases h
   | some q =>
    obtain ⟨v0,s1,e1⟩:=q;rw [he] at h;simp only at h;cases hk:AR ev op env (i+1) l s1 e1 with
    | none=>rw [hk] at h;cases h
    | some q =>
     obtain ⟨us,s3,e3⟩:=q;rw [hk] at h;simp only [AwS,AwP,AwQ] at h;obtain ⟨rfl,rfl,rfl⟩:=h;have he1:=Fj ev herr op env l _ _ _ _ _ hk;subst he1;obtain ⟨w,w1,w2⟩:=hev _ _ _ _ he hw.1;obtain ⟨ts,a1,a2,a3,a4,a5⟩:=TQ henv hev herr op l (i+1) s1 us s3 hk hw.2;refine ⟨w::ts,by simp [a1],by simp [a2],?_,?_,?_⟩
     ·intro j a b ha hb';cases j with
      | zero =>
       simp only [Tm.subL,List.getElem?_cons_zero,AwP] at ha hb';subst ha hb';rw [hb0,Nd];exact w2
      | succ j =>
       simp only [Tm.subL,List.getElem?_cons_succ] at ha hb';exact a3 j a b ha hb'
     ·intro j v x h0 hv hx;cases j with
      | zero =>
       simp only [List.getElem?_cons_zero,AwP] at hv hx;subst hv hx;exact w1
      | succ j =>
       simp only [List.getElem?_cons_succ] at hv hx;exact a4 j v x (by rw [← h0];congr 1;omega) hv hx
     ·intro j v x h0 hv hx;cases j with
      | zero=>rw [Nat.add_zero] at h0;omega
      | succ j =>
       simp only [List.getElem?_cons_succ] at hv hx
       have:=a5 j v x (by rw [show i+1+j=i+(j+1) by omega];exact h0) hv hx
       rw [show i+1+j=i+(j+1) by omega] at this
       exact this
def EvU (f:Nat):Prop:=∀s t env v s' u τ,Au f s 0 t env=some (v,s',0)→t.wa→V7 u env τ→∃w,Un u v w∧Pars (t.sub τ) w
def HdU (f:Nat):Prop:=∀s op n k v s' u ts,headR f s 0 (.node op n k)=some (v,s',0)→op≠1→Un u (.node op n k) (.mk op n ts)→∃w,Un u v w∧Pars (.mk op n ts) w
theorem AsG {f:Nat} (ihE:EvU f) (ihH:HdU f):EvU (f+1):=by
 intro s t env v s' u τ h hw henv;obtain ⟨op,m,ks⟩:=t;rw [Tm.wa] at hw;by_cases h1:op=1
 ·subst h1;have hks:ks=[]:=List.eq_nil_of_length_eq_zero (Option.some.inj hw.1.symm);subst hks;have hm:=hw.2.1.1 rfl;have hv:¬ (m<0∨([]:List Tm).isEmpty=false):=by
   rintro (h | h)
   ·omega
   ·cases h
  rw [Tm.sub,if_pos rfl,if_neg hv];rcases (TN h hm).1 with ⟨a1,a2⟩ | ⟨a1,rfl⟩
  ·exact ⟨_,henv.1 _ _ a2,.refl _⟩
  ·refine ⟨_,?_,.refl _⟩;rw [henv.2 _ (by omega)]
   have:=Un.var u ((env.length:Int) - 1 - m) (by omega)
   have e:vT (u+(m.toNat - env.length))=.mk 1 ((u:Int) - 1 - ((env.length:Int) - 1 - m)) []:=by rw [vT];congr 1;omega
   rw [e];exact this
 ·obtain ⟨vs,s1,q1,q2⟩:=Fa h h1;obtain ⟨ts,a1,a2,a3,a4,a5⟩:=TQ henv (fun s t v s' a b=>ihE s t env v s' u τ a b henv) (fun s e t v s' a=>B4 a) op ks 0 s vs s1 q1 hw.2.2;simp only [Nat.zero_add] at a4 a5;have hun:Un u (.node op m vs) (.mk op m ts):=by
   refine .node u op m vs ts (fun _=>τ) h1 hw.2.1.2 (by rw [a1];exact hw.1) (by rw [a1,a2]) a4 (fun i v t b c d=>⟨(a5 i v t b c d).1,(a5 i v t b c d).2.1⟩) ?_ ?_
   ·intro i v j b c hj;have hi:i<ts.length:=by rw [a1,← a2];exact (List.getElem?_eq_some_iff.1 c).1
    have:=(a5 i v _ b c (List.getElem?_eq_getElem hi)).2.2
    rw [this] at hj ⊢;exact henv.2 j hj
   ·intro i v j x b c hx;have hi:i<ts.length:=by rw [a1,← a2];exact (List.getElem?_eq_some_iff.1 c).1
    have:=(a5 i v _ b c (List.getElem?_eq_getElem hi)).2.2
    rw [this] at hx;exact henv.1 j x hx
  obtain ⟨w,w1,w2⟩:=ihH _ _ _ _ _ _ u ts q2 h1 hun;refine ⟨w,w1,?_⟩;rw [Tm.sub,if_neg h1];exact CJ (Ix h1 (by rw [KO,a1]) a3) w2
theorem Asz {f:Nat} (ihE:EvU f) (ihH:HdU f):HdU (f+1):=by
 intro s op n k v s' u ts h h1 hun;obtain ⟨ts',T,hn9,_,e2,har,hl,hk,hc⟩:=H5 hun h1;simp only [RV.node,RV.op,RV.n,RV.k,Tm.mk.injEq,true_and] at e2 har hl hk hc hn9;subst e2;by_cases h5:op=5
 ·subst h5;obtain ⟨t0,tx,rfl⟩:=MK (Option.some.inj har.symm:ts.length=2);obtain ⟨k0,x,rfl⟩:=MK (hl.trans rfl:k.length=2);have u0:=hk 0 k0 t0 rfl rfl rfl;have ux:=hk 1 x tx rfl rfl rfl;rcases Q6 h with ⟨h4,c,hcc,hev⟩ | ⟨_,rfl⟩
  ·obtain ⟨us,T0,n0,e0,rfl,Pp,l0,_,c0⟩:=H5 u0 (by omega);rw [h4] at Pp c0 ⊢;obtain ⟨ta,tb,rfl⟩:=MK (Option.some.inj Pp.symm:us.length=2);obtain ⟨rfl,hwa,henv⟩:=c0 1 c tb (by decide) hcc rfl;obtain ⟨w,w1,w2⟩:=ihE _ _ _ _ _ u _ hev hwa (OJ henv ux);refine ⟨w,w1,.step (.beta n k0.n ta _ _ tx tx (Bl _) (Bl _)) ?_⟩;rw [Ht]
   have:(fun i=>(Gk (Ae 4 1) (T0 1) i).sub (s1 tx))=fun i=>match i with | 0=>tx | j+1=>T0 1 j:=by
    funext i
    cases i with
    | zero=>simp [Gk,JS,s1,show Ae 4 1=1 from rfl]
    | succ i =>
     simp only [Gk,show Ae 4 1=1 from rfl]
     rw [if_neg (by omega),Nat.add_sub_cancel,Lp _ _ _ (fun j=>rfl)]
   rw [this];exact w2
  ·exact ⟨_,hun,.refl _⟩
 by_cases h89:op=8∨op=9
 ·have hl1:ts.length=1:=by rcases h89 with rfl | rfl<;>exact Option.some.inj har.symm
  obtain ⟨t0,rfl⟩:=Cf hl1;obtain ⟨k0,rfl⟩:=Cf (hl.trans rfl:k.length=1);have u0:=hk 0 k0 t0 (by rcases h89 with rfl | rfl<;>rfl) rfl rfl;rcases Pa h89 h with ⟨h7,hx⟩ | ⟨_,rfl⟩
  ·obtain ⟨us,T0,n0,e0,rfl,Pp,l0,hk0,_⟩:=H5 u0 (by omega);rw [h7] at Pp hk0 ⊢;obtain ⟨ta,tb,tc,rfl⟩:=AiS (Option.some.inj Pp.symm:us.length=3);rcases h89 with rfl | rfl
   ·exact ⟨tb,hk0 1 v tb rfl hx rfl,Fd (.fst n k0.n ta tb tb tc (Bl _))⟩
   ·exact ⟨tc,hk0 2 v tc rfl hx rfl,Fd (.snd n k0.n ta tb tc tc (Bl _))⟩
  ·exact ⟨_,hun,.refl _⟩
 by_cases h30:op=30
 ·subst h30;obtain ⟨t0,rfl⟩:=Cf (Option.some.inj har.symm:ts.length=1);obtain ⟨k0,rfl⟩:=Cf (hl.trans rfl:k.length=1);have u0:=hk 0 k0 t0 rfl rfl rfl;rcases O7 h with ⟨h7,hx⟩ | ⟨_,rfl⟩
  ·obtain ⟨us,T0,n0,e0,rfl,Pp,l0,hk0,_⟩:=H5 u0 (by omega);rw [h7] at Pp hk0 ⊢;obtain ⟨ta,rfl⟩:=Cf (Option.some.inj Pp.symm:us.length=1);exact ⟨ta,hk0 0 v ta rfl hx rfl,by rw [hn9 (.inr rfl),n0 (.inl h7)];exact Fd (.splq ta ta (Bl _))⟩
  ·exact ⟨_,hun,.refl _⟩
 by_cases h19:op=19
 ·subst h19;obtain ⟨t0,rfl⟩:=Cf (Option.some.inj har.symm:ts.length=1);obtain ⟨k0,rfl⟩:=Cf (hl.trans rfl:k.length=1);have u0:=hk 0 k0 t0 rfl rfl rfl;rcases Pl h with ⟨h7,hx⟩ | ⟨_,rfl⟩
  ·obtain ⟨us,T0,n0,e0,rfl,Pp,l0,hk0,_⟩:=H5 u0 (by omega);rw [h7] at Pp hk0 ⊢;obtain ⟨ta,rfl⟩:=Cf (Option.some.inj Pp.symm:us.length=1);exact ⟨ta,hk0 0 v ta rfl hx rfl,by rw [hn9 (.inl rfl),n0 (.inr h7)];exact Fd (.quos ta ta (Bl _))⟩
  ·exact ⟨_,hun,.refl _⟩
 by_cases h13:op=13
 ·subst h13;obtain ⟨t0,t1,t2,t3,rfl⟩:=OO (Option.some.inj har.symm:ts.length=4);obtain ⟨k0,k1,k2,k3,rfl⟩:=OO (hl.trans rfl:k.length=4);have u1:=hk 1 k1 t1 rfl rfl rfl;have u3:=hk 3 k3 t3 rfl rfl rfl;rcases Pr h with ⟨h11,rfl⟩ | ⟨h12,x,w,s1',hx,hw,hv⟩ | ⟨_,rfl⟩
  ·obtain ⟨us,T0,n0,e0,rfl,Pp,l0,hk0,_⟩:=H5 u3 (by omega);rw [h11];exact ⟨t1,u1,Fd (.recz n k3.n t0 t1 t1 t2 us (Bl _))⟩
  ·obtain ⟨us,T0,n0,e0,rfl,Pp,l0,hk0,_⟩:=H5 u3 (by omega);rw [h12] at Pp hk0 ⊢;obtain ⟨tk,rfl⟩:=Cf (Option.some.inj Pp.symm:us.length=1);have ux:=hk0 0 x tk rfl hx rfl;obtain ⟨c2,hwa2,henv2⟩:=hc 2 k2 t2 (by decide) rfl rfl;have hun2:Un u (.node 13 0 [k0,k1,k2,x]) (.mk 13 0 [t0,t1,t2,tk]):=by
    refine .node u 13 0 _ _ T (by decide) (by omega) rfl rfl ?_ ?_ ?_ ?_
    ·intro i v t hb a b
     match i with
     | 0=>exact absurd hb (by decide)
     | 1=>simp at a b;subst a b;exact u1
     | 2=>exact absurd hb (by decide)
     | 3=>simp at a b;subst a b;exact ux
     | i+4=>simp at a
    ·intro i v t hb a b
     match i with
     | 0=>simp at a b;subst a b;exact ⟨(hc 0 k0 t0 hb rfl rfl).1,(hc 0 k0 t0 hb rfl rfl).2.1⟩
     | 1=>exact absurd hb (by decide)
     | 2=>simp at a b;subst a b;exact ⟨(hc 2 k2 t2 hb rfl rfl).1,(hc 2 k2 t2 hb rfl rfl).2.1⟩
     | 3=>exact absurd hb (by decide)
     | i+4=>simp at a
    ·intro i v j hb a hj
     match i with
     | 0=>simp at a;subst a;exact (hc 0 k0 t0 hb rfl rfl).2.2.2 j hj
     | 1=>exact absurd hb (by decide)
     | 2=>simp at a;subst a;exact (hc 2 k2 t2 hb rfl rfl).2.2.2 j hj
     | 3=>exact absurd hb (by decide)
     | i+4=>simp at a
    ·intro i v j y hb a hy
     match i with
     | 0=>simp at a;subst a;exact (hc 0 k0 t0 hb rfl rfl).2.2.1 j y hy
     | 1=>exact absurd hb (by decide)
     | 2=>simp at a;subst a;exact (hc 2 k2 t2 hb rfl rfl).2.2.1 j y hy
     | 3=>exact absurd hb (by decide)
     | i+4=>simp at a
   obtain ⟨tw,w1,w2⟩:=ihH _ _ _ _ _ _ u _ hw (by decide) hun2;have henv3:=OJ (OJ henv2 ux) w1;rw [List.append_assoc] at henv3;obtain ⟨tv,v1,v2⟩:=ihE _ _ _ _ _ u _ hv hwa2 henv3;refine ⟨tv,v1,.step (.recs n k3.n t0 t0 t1 t1 t2 t2 tk tk (Bl _) (Bl _) (Bl _) (Bl _)) ?_⟩;have e2:t2=k2.b.sub (Gk 2 (T 2)):=c2;have e3:∀r:Tm,t2.sub (s2 r tk)=k2.b.sub (fun i=>if i=0 then r else (fun i=>match i with | 0=>tw | j+1=>(fun i=>match i with | 0=>tk | j+1=>T 2 j) j) i):=by
    intro r;rw [e2,Ht];congr 1
    funext i
    match i with
    | 0=>simp [Gk,JS,s2]
    | 1=>simp [Gk,JS,s2]
    | i+2 =>
     simp only [Gk];rw [if_neg (by omega),if_neg (by omega),Nat.add_sub_cancel,Lp _ _ _ (fun j=>rfl)]
   rw [e3];refine CJ (Aj6 k2.b _ 0 w2) ?_;have e4:(fun i=>if i=0 then tw else (fun i=>match i with | 0=>tw | j+1=>(fun i=>match i with | 0=>tk | j+1=>T 2 j) j) i)=(fun i=>match i with | 0=>tw | j+1=>(fun i=>match i with | 0=>tk | j+1=>T 2 j) j:Nat→Tm):=by
    funext i
    cases i with
    | zero=>simp
    | succ i=>simp
   rw [e4];exact v2
  ·exact ⟨_,hun,.refl _⟩
 obtain ⟨rfl,_⟩:=FR h (by omega);exact ⟨_,hun,.refl _⟩
theorem AcW:∀f,EvU f∧HdU f:=by
 intro f
 induction f with
 | zero=>exact ⟨(by intro s t env v s' u τ h;rw [Au] at h;cases h),(by intro s op n k v s' u ts h;rw [headR] at h;cases h)⟩
 | succ f ih=>exact ⟨AsG ih.1 ih.2,Asz ih.1 ih.2⟩
theorem AjW:∀(f:Nat) (s nd:Int) (v:RV) (u:Nat) (d:Int) (t:Tm) (s' nd':Int) (w:Tm),AS f s nd 0 v u d=some (t,s',nd',0)→Un u v w→Pars w t:=by
 intro f
 induction f with
 | zero=>intro s nd v u d t s' nd' w h;rw [AS] at h;cases h
 | succ f ih =>
  intro s nd v u d t s' nd' w h hun;rcases OK h with ⟨h1,rfl⟩ | ⟨h1,ts,hrk,rfl⟩
  ·cases hun with
   | var=>exact .refl _
   | node op n k us T h2=>exact absurd h1 h2
  ·obtain ⟨us,T,_,e1,rfl,har,hl,hk,hc⟩:=H5 hun h1;obtain ⟨n1,n2⟩:=IJ (fun s nd e v u t s' nd' h=>Cr h) v.op u v.k 0 s (nd+1) 0 ts s' nd' hrk;refine Ix h1 (by rw [n1,hl]) (fun i a b ha hb=>?_);have hi:i<v.k.length:=by rw [hl];exact (List.getElem?_eq_some_iff.1 ha).1
   have hki:=List.getElem?_eq_getElem hi;obtain ⟨q1,q2,k',q3,q4,⟨q5,q6⟩,q7⟩:=n2 i _ b hki hb;rw [Nat.zero_add] at q5 q6 q7;by_cases hb0:Ae v.op i=0
   ·have:=q6 hb0
    subst this;rw [hb0] at q7;simp only [Int.ofNat_zero,Int.add_zero] at q7;exact ih _ _ _ u _ _ _ _ a (by simpa using q7) (hk i _ a hb0 hki ha)
   ·have hbp:0<Ae v.op i:=by omega
    obtain ⟨s0,hev⟩:=q5 hbp;obtain ⟨rfl,hwa,henv⟩:=hc i _ a hbp hki ha;obtain ⟨w',w1,w2⟩:=(AcW f).1 _ _ _ _ _ (u+Ae v.op i) _ hev hwa (AlA henv _);rw [show (u:Int)+(Ae v.op i:Int)=((u+Ae v.op i:Nat):Int) by omega] at q7
    exact CJ w2 (ih q1 q2 k' (u+Ae v.op i) (d+1) b q3 q4 w' q7 w1)
theorem Hn {f:Nat} {t n:Tm} {k:Nat} (h:AI f t=some (n,0)) (ht:t.sc k):Pars t n:=by
 rw [AI] at h;cases he:Au f 0 0 t [] with
 | none=>rw [he] at h;cases h
 | some q =>
  obtain ⟨v,s,e⟩:=q;rw [he] at h;simp only at h;cases hr:AS f s 0 e v 0 1 with
  | none=>rw [hr] at h;cases h
  | some q =>
   obtain ⟨w,s2,nd2,e2⟩:=q;rw [hr] at h;simp only [AwP] at h;by_cases h2:e2≠0
   ·rw [if_pos h2] at h;simp only [AwQ] at h;exact absurd h.2 h2
   rw [if_neg h2] at h;simp only [AwQ,and_true] at h;subst h;have he2:e2=0:=by omega
   subst he2;have he0:=Cr hr;subst he0;obtain ⟨x,x1,x2⟩:=(AcW f).1 _ _ _ _ _ 0 vT he (Aiu t k ht) Ahj;rw [PL] at x2;exact CJ x2 (AjW f s 0 v 0 1 w s2 nd2 x (by simpa using hr) x1)
def stV (op:Int) (k:List RV):Prop:=(op=30→∀k0,k[0]?=some k0→k0.op≠19)∧(op=19→∀k0,k[0]?=some k0→k0.op≠30)∧(op=13→∀k3,k[3]?=some k3→k3.op≠11∧k3.op≠12)∧(op=5→∀k0,k[0]?=some k0→k0.op≠4)∧(op=8∨op=9→∀k0,k[0]?=some k0→k0.op≠7)
inductive VS:RV→Prop
 | var (n:Int):VS (.var n)
 | node (op n:Int) (k:List RV) (h1:op≠1) (har:ar op=some k.length) (hst:stV op k) (hk:∀(i:Nat) v,Ae op i=0→k[i]?=some v→VS v)
   (hw:∀(i:Nat) (v:RV),0<Ae op i→k[i]?=some v→v.b.wa) (he:∀(i:Nat) (v:RV) y,0<Ae op i→k[i]?=some v→y∈v.env→VS y):VS (.node op n k)
structure NodeS (op:Int) (k:List RV):Prop where
 ar:ar op=some k.length
 kd:∀(i:Nat) v,Ae op i=0→k[i]?=some v→VS v
 w:∀(i:Nat) (v:RV),0<Ae op i→k[i]?=some v→v.b.wa
 e:∀(i:Nat) (v:RV) y,0<Ae op i→k[i]?=some v→y∈v.env→VS y
theorem Mr {v:RV} (h:VS v) (h1:v.op≠1):NodeS v.op v.k∧stV v.op v.k:=by
 cases h with
 | var=>exact absurd rfl h1
 | node op n k h1 har hst hk hw he=>exact ⟨⟨har,hk,hw,he⟩,hst⟩
theorem RZ {ev:Int→Int→Tm→Option (RV×Int×Int)} {env:List RV} (hev:∀s t v s',ev s 0 t=some (v,s',0)→t.wa→VS v) (herr:∀s e t v s',ev s e t=some (v,s',0)→e=0) (op:Int) :
  ∀(l:List Tm) (i:Nat) (s:Int) (vs:List RV) (s':Int),AR ev op env i l s 0=some (vs,s',0)→Tm.waL l→vs.length=l.length∧(∀(j:Nat) v,Ae op (i+j)=0→vs[j]?=some v→VS v)∧(∀(j:Nat) (v:RV),0<Ae op (i+j)→vs[j]?=some v→v.b.wa∧v.env=env)
 | [],i,s,vs,s',h,hw=>by
  simp only [AR,AwP,AwQ] at h;obtain ⟨rfl,_⟩:=h;exact ⟨rfl,fun j v _ h=>by simp at h,fun j v _ h=>by simp at h⟩
 | t::l,i,s,vs,s',h,hw=>by
  rw [Tm.waL] at hw;simp only [AR] at h;by_cases hb:0<Ae op i
  ·rw [if_pos hb] at h;cases hk:AR ev op env (i+1) l s 0 with
   | none=>rw [hk] at h;cases h
   | some q =>
    obtain ⟨vs2,s2,e2⟩:=q;rw [hk] at h;simp only [AwS,AwP,AwQ] at h;obtain ⟨rfl,rfl,rfl⟩:=h;obtain ⟨a1,a2,a3⟩:=RZ hev herr op l (i+1) s vs2 s2 hk hw.2;refine ⟨by simp [a1],fun j v hj hv=>?_,fun j v hj hv=>?_⟩
    ·cases j with
     | zero=>rw [Nat.add_zero] at hj;omega
     | succ j=>exact a2 j v (by rw [← hj];congr 1;omega) (by simpa using hv)
    ·cases j with
     | zero=>simp only [List.getElem?_cons_zero,AwP] at hv;subst hv;exact ⟨hw.1,rfl⟩
     | succ j=>exact a3 j v (by rw [show i+1+j=i+(j+1) by omega];exact hj) (by simpa using hv)
  ·rw [if_neg hb] at h;split at h
   ·cases h
   rename_i v1 s1 e1 hv1;cases hk:AR ev op env (i+1) l s1 e1 with
   | none=>rw [hk] at h;cases h
   | some q =>
    obtain ⟨vs2,s2,e2⟩:=q;rw [hk] at h;simp only [AwS,AwP,AwQ] at h;obtain ⟨rfl,rfl,rfl⟩:=h
    have:=Fj _ herr op env l _ _ _ _ _ hk
    subst this;obtain ⟨a1,a2,a3⟩:=RZ hev herr op l (i+1) s1 vs2 s2 hk hw.2;refine ⟨by simp [a1],fun j v hj hv=>?_,fun j v hj hv=>?_⟩
    ·cases j with
     | zero=>simp only [List.getElem?_cons_zero,AwP] at hv;subst hv;exact hev _ _ _ _ hv1 hw.1
     | succ j=>exact a2 j v (by rw [← hj];congr 1;omega) (by simpa using hv)
    ·cases j with
     | zero=>rw [Nat.add_zero] at hj;omega
     | succ j=>exact a3 j v (by rw [show i+1+j=i+(j+1) by omega];exact hj) (by simpa using hv)
def EvS (f:Nat):Prop:=∀s t env v s',Au f s 0 t env=some (v,s',0)→t.wa→(∀y∈env,VS y)→VS v
def HdS (f:Nat):Prop:=∀s op n k v s',headR f s 0 (.node op n k)=some (v,s',0)→op≠1→NodeS op k→VS v
theorem AsD {f:Nat} (ihE:EvS f) (ihH:HdS f):EvS (f+1):=by
 intro s t env v s' h hw henv;obtain ⟨op,m,ks⟩:=t;rw [Tm.wa] at hw;by_cases h1:op=1
 ·subst h1;rcases (TN h (hw.2.1.1 rfl)).1 with ⟨a1,a2⟩ | ⟨a1,rfl⟩
  ·exact henv _ (List.mem_reverse.1 (List.mem_of_getElem? a2))
  ·exact .var _
 ·obtain ⟨vs,s1,q1,q2⟩:=Fa h h1;obtain ⟨a2,a4,a5⟩:=RZ (fun s t v s' a b=>ihE s t env v s' a b henv) (fun s e t v s' a=>B4 a) op ks 0 s vs s1 q1 hw.2.2;simp only [Nat.zero_add] at a4 a5;exact ihH _ _ _ _ _ _ q2 h1 ⟨by rw [a2];exact hw.1,a4,fun i v b c=>(a5 i v b c).1,fun i v y b c hy=>by rw [(a5 i v b c).2] at hy;exact henv y hy⟩
theorem AqR {f:Nat} (ihE:EvS f) (ihH:HdS f):HdS (f+1):=by
 intro s op n k v s' h h1 hN;have mk:stV op k→VS (.node op n k):=fun hst=>.node op n k h1 hN.ar hst hN.kd hN.w hN.e;have har:=hN.ar;by_cases h5:op=5
 ·subst h5;obtain ⟨k0,x,rfl⟩:=MK (Option.some.inj har.symm:k.length=2);have u0:=hN.kd 0 k0 rfl rfl;have ux:=hN.kd 1 x rfl rfl;rcases Q6 h with ⟨h4,c,hcc,hev⟩ | ⟨h4,rfl⟩
  ·have q:=(Mr u0 (by omega)).1;rw [h4] at q;refine ihE _ _ _ _ _ hev (q.w 1 c (by decide) hcc) fun y hy=>?_;rcases List.mem_append.1 hy with hy | hy
   ·exact q.e 1 c y (by decide) hcc hy
   ·rw [List.mem_singleton.1 hy];exact ux
  ·refine mk ⟨by omega,by omega,by omega,fun _ w hw=>?_,by omega⟩;simp only [List.getElem?_cons_zero,AwP] at hw;subst hw;exact h4
 by_cases h89:op=8∨op=9
 ·have hl1:k.length=1:=by rcases h89 with rfl | rfl<;>exact Option.some.inj har.symm
  obtain ⟨k0,rfl⟩:=Cf hl1;have u0:=hN.kd 0 k0 (by rcases h89 with rfl | rfl<;>rfl) rfl;rcases Pa h89 h with ⟨h7,hx⟩ | ⟨h7,rfl⟩
  ·have q:=(Mr u0 (by omega)).1;rw [h7] at q;refine q.kd _ v ?_ hx;rcases h89 with rfl | rfl<;>rfl
  ·refine mk ⟨by omega,by omega,by omega,by omega,fun _ w hw=>?_⟩;simp only [List.getElem?_cons_zero,AwP] at hw;subst hw;exact h7
 by_cases h30:op=30
 ·subst h30;obtain ⟨k0,rfl⟩:=Cf (Option.some.inj har.symm:k.length=1);have u0:=hN.kd 0 k0 rfl rfl;rcases O7 h with ⟨h7,hx⟩ | ⟨h7,rfl⟩
  ·have q:=(Mr u0 (by omega)).1;rw [h7] at q;exact q.kd 0 v rfl hx
  ·refine mk ⟨fun _ w hw=>?_,by omega,by omega,by omega,by omega⟩;simp only [List.getElem?_cons_zero,AwP] at hw;subst hw;exact h7
 by_cases h19:op=19
 ·subst h19;obtain ⟨k0,rfl⟩:=Cf (Option.some.inj har.symm:k.length=1);have u0:=hN.kd 0 k0 rfl rfl;rcases Pl h with ⟨h7,hx⟩ | ⟨h7,rfl⟩
  ·have q:=(Mr u0 (by omega)).1;rw [h7] at q;exact q.kd 0 v rfl hx
  ·refine mk ⟨by omega,fun _ w hw=>?_,by omega,by omega,by omega⟩;simp only [List.getElem?_cons_zero,AwP] at hw;subst hw;exact h7
 by_cases h13:op=13
 ·subst h13;obtain ⟨k0,k1,k2,k3,rfl⟩:=OO (Option.some.inj har.symm:k.length=4);have u1:=hN.kd 1 k1 rfl rfl;have u3:=hN.kd 3 k3 rfl rfl;rcases Pr h with ⟨h11,rfl⟩ | ⟨h12,x,w,s1',hx,hw,hv⟩ | ⟨⟨ha,hb⟩,rfl⟩
  ·exact u1
  ·have q:=(Mr u3 (by omega)).1;rw [h12] at q;have ux:=q.kd 0 x rfl hx;have hw':=ihH _ _ _ _ _ _ hw (by decide) ⟨rfl,fun i v hb hi=>by
     match i with
     | 0=>exact absurd hb (by decide)
     | 1=>simp at hi;subst hi;exact u1
     | 2=>exact absurd hb (by decide)
     | 3=>simp at hi;subst hi;exact ux
     | i+4=>simp at hi,fun i v hb hi=>by
     match i with
     | 0=>exact hN.w 0 v hb (by simpa using hi)
     | 1=>exact absurd hb (by decide)
     | 2=>exact hN.w 2 v hb (by simpa using hi)
     | 3=>exact absurd hb (by decide)
     | i+4=>simp at hi,fun i v y hb hi hy=>by
     match i with
     | 0=>exact hN.e 0 v y hb (by simpa using hi) hy
     | 1=>exact absurd hb (by decide)
     | 2=>exact hN.e 2 v y hb (by simpa using hi) hy
     | 3=>exact absurd hb (by decide)
     | i+4=>simp at hi⟩
   refine ihE _ _ _ _ _ hv (hN.w 2 k2 (by decide) rfl) fun y hy=>?_;rcases List.mem_append.1 hy with hy | hy
   ·exact hN.e 2 k2 y (by decide) rfl hy
   ·simp only [List.mem_cons,List.not_mem_nil,or_false] at hy;rcases hy with rfl | rfl
    ·exact ux
    ·exact hw'
  ·refine mk ⟨by omega,by omega,fun _ w hw=>?_,by omega,by omega⟩;simp only [List.getElem?_cons_succ,List.getElem?_cons_zero,AwP] at hw;subst hw;exact ⟨ha,hb⟩
 obtain ⟨rfl,_⟩:=FR h (by omega);exact mk ⟨by omega,by omega,by omega,by omega,by omega⟩
theorem Aam:∀f,EvS f∧HdS f:=by
 intro f
 induction f with
 | zero=>exact ⟨(by intro s t env v s' h;rw [Au] at h;cases h),(by intro s op n k v s' h;rw [headR] at h;cases h)⟩
 | succ f ih=>exact ⟨AsD ih.1 ih.2,AqR ih.1 ih.2⟩
theorem Aku:∀(f:Nat) (s nd:Int) (v:RV) (u d:Int) (t:Tm) (s' nd':Int),AS f s nd 0 v u d=some (t,s',nd',0)→VS v→t.stl∧t.op=v.op:=by
 intro f
 induction f with
 | zero=>intro s nd v u d t s' nd' h;rw [AS] at h;cases h
 | succ f ih =>
  intro s nd v u d t s' nd' h hv;rcases OK h with ⟨h1,rfl⟩ | ⟨h1,ts,hrk,rfl⟩
  ·exact ⟨by rw [Tm.stl];exact ⟨⟨⟨by omega,by omega,by omega⟩,by omega,by omega⟩,by rw [Tm.stlL];trivial⟩,h1.symm⟩
  ·obtain ⟨
       hN,hst⟩:=Mr hv h1
   obtain ⟨n1,n2⟩:=IJ (fun s nd e v u t s' nd' h=>Cr h) v.op u v.k 0 s (nd+1) 0 ts s' nd' hrk;have key:∀(i:Nat) b,ts[i]?=some b→∃kv,v.k[i]?=some kv∧b.stl∧(Ae v.op i=0→b.op=kv.op):=by
    intro i b hb;have hi:i<v.k.length:=by rw [← n1];exact (List.getElem?_eq_some_iff.1 hb).1
    have hki:=List.getElem?_eq_getElem hi;obtain ⟨q1,q2,k',q3,q4,⟨q5,q6⟩,q7⟩:=n2 i _ b hki hb;rw [Nat.zero_add] at q5 q6 q7;refine ⟨_,hki,?_⟩;by_cases hb0:Ae v.op i=0
    ·have:=q6 hb0
     subst this
     have:=ih _ _ _ _ _ _ _ _ q7 (hN.kd i _ hb0 hki)
     exact ⟨this.1,fun _=>this.2⟩
    ·have hbp:0<Ae v.op i:=by omega
     obtain ⟨s0,hev⟩:=q5 hbp;have hvs:=(Aam f).1 _ _ _ _ _ hev (hN.w i _ hbp hki) (fun y hy=>by
      rcases List.mem_append.1 hy with hy | hy
      ·exact hN.e i _ y hbp hki hy
      ·obtain ⟨j,_,rfl⟩:=List.mem_map.1 hy;exact .var _)
     exact ⟨(ih _ _ _ _ _ _ _ _ q7 hvs).1,fun h=>absurd h hb0⟩
   refine ⟨?_,rfl⟩;rw [Tm.stl];refine ⟨⟨⟨fun e k0 hk=>?_,fun e k0 hk=>?_,fun e k0 hk=>?_⟩,fun e k0 hk=>?_,fun e k0 hk=>?_⟩,Us fun i t hi=>?_⟩
   ·obtain ⟨kv,a,_,c⟩:=key 0 k0 hk;rw [c (by rw [e];rfl)];exact hst.1 e kv a
   ·obtain ⟨kv,a,_,c⟩:=key 0 k0 hk;rw [c (by rw [e];rfl)];exact hst.2.1 e kv a
   ·obtain ⟨kv,a,_,c⟩:=key 3 k0 hk;rw [c (by rw [e];rfl)];exact hst.2.2.1 e kv a
   ·obtain ⟨kv,a,_,c⟩:=key 0 k0 hk;rw [c (by rw [e];rfl)];exact hst.2.2.2.1 e kv a
   ·obtain ⟨kv,a,_,c⟩:=key 0 k0 hk;rw [c (by rcases e with e | e<;>rw [e]<;>rfl)];exact hst.2.2.2.2 e kv a
   ·obtain ⟨_,_,b,_⟩:=key i t hi;exact b
theorem HE {f:Nat} {t n:Tm} {k:Nat} (h:AI f t=some (n,0)) (ht:t.sc k):n.stl:=by
 rw [AI] at h;split at h
 ·cases h
 rename_i v s e he;split at h
 ·cases h
 rename_i u s2 nd2 e2 hr;by_cases h2:e2=0
 ·subst h2;rw [if_neg (by simp)] at h;simp only [AwP,AwQ,and_true] at h;subst h
  have:=Cr hr
  subst this;exact (Aku f _ _ _ _ _ _ _ _ hr ((Aam f).1 _ _ _ _ _ he (Aiu t k ht) (fun y hy=>by simp at hy))).1
 ·rw [if_pos h2] at h;simp only [AwP,AwQ] at h;exact absurd h.2 h2
theorem Aj3:(Tm.mk 1 0 []).good:=by
 rw [Tm.good,Tm.goodL];refine ⟨⟨rfl,fun _=>⟨by omega,by omega⟩,?_⟩,trivial⟩;exact ⟨by omega,by omega,by omega,by omega,by omega,by omega⟩
set_option maxHeartbeats 1000000 in
theorem Arg {B f:Nat} {s s':Int} {F:Tm} {env:List RV} {e:List PV} {v:RV} (h:Au f s 0 (.mk 5 0 [F,.mk 1 0 []]) env=some (v,s',0)) (hg:F.good) (hw:F.wt+1≤B) (he:Em B e env) :
  ∃k c u T:Nat,s'=s+k∧c≤(k+1) * B+1∧5 * u≤3 * c+10 * k+5∧T≤c+u+2 * k∧Wv B e (.mk 5 0 [F,.mk 1 0 []]) v k T:=by
 cases f with
 | zero=>rw [Au] at h;cases h
 | succ f =>
 rw [Au] at h;rw [if_neg (by simp)] at h;split at h
 ·cases h
 rw [if_neg (by decide)] at h;split at h
 ·cases h
 split at h
 ·cases h
 split at h
 ·cases h
 rename_i vs s1 e1 hk;have he1:=F9 h;subst he1;have hwl:Tm.wtL [F,.mk 1 0 []]=F.wt+1:=by simp [Tm.wtL,Tm.wt]
 obtain ⟨k1,c1,u1,T1,q1,q2,q3,q4,q5,q6,ps,q7,q8,q9,q10,q11⟩:=Ii (FW B f) 5 env e he [F,.mk 1 0 []] 0 s vs s1 hk (by simp only [Tm.goodL,and_true];exact ⟨hg,Aj3⟩) (by omega);simp only [Nat.zero_add] at q8 q9 q10;have hsi:=surfL_innL 5 0 [F,.mk 1 0 []];have hc1:c1≤(k1+1) * B:=by
  have e2:k1 * Tm.innL 5 0 [F,.mk 1 0 []]≤k1 * B:=Nat.mul_le_mul_left _ (by omega);rw [Nat.add_mul,Nat.one_mul];omega
 have hnode:Rel B (.mk 5 0 ps (.mk 5 0 [F,.mk 1 0 []]) e) (.node 5 0 vs):=by
  refine .node 5 0 0 ps vs [F,.mk 1 0 []] e env (by decide) rfl q7 q6 (fun i p r=>q9 i p r) ?_ he.1 he.2;intro i b hb hi;have hi2:i<2:=by have:=(List.getElem?_eq_some_iff.1 hi).1;simpa using this
  have hi':i=0∨i=1:=by omega
  rcases hi' with rfl | rfl<;>exact absurd hb (by decide)
 obtain ⟨v0,vx,rfl⟩:=MK q6;obtain ⟨p0,px,rfl⟩:=MK q7;have r0:=q9 0 p0 v0 (by decide) rfl rfl;have rx:=q9 1 px vx (by decide) rfl rfl;cases f with
 | zero=>rw [headR] at h;cases h
 | succ f =>
 rw [headR] at h;rw [if_neg (by simp)] at h;split at h
 ·cases h
 rw [show (RV.node 5 0 [v0,vx]).op=5 from rfl,if_pos rfl,show (RV.node 5 0 [v0,vx]).k=[v0,vx] from rfl] at h
 simp only [List.getElem?_cons_succ,List.getElem?_cons_zero] at h;have hrule:Cu 5=true:=rfl;by_cases hv4:v0.op=4
 ·rw [if_pos hv4] at h;obtain ⟨n',kp,ts,e0,env0,hp0,b1,b2,b3,b4,b5,b6⟩:=GH r0 (by omega);rw [hv4,show ar 4=some 2 by decide,AwP] at b1
  obtain ⟨a',b',rfl⟩:=MK b1.symm;obtain ⟨⟨g1,g2⟩,_,g3⟩:=b5 1 b' (by rw [hv4];decide) rfl;rw [g3] at h;split at h
  ·simp only at h;split at h
   ·cases h
   rw [show (RV.clo env0 b').env=env0 from rfl,show (RV.clo env0 b').b=b' from rfl] at h
   obtain ⟨k2,c2,u2,T2,d1,d2,d3,d4⟩:=KZ (FW B f) (l:=[px]) (l':=[vx]) b6 rfl (by
    intro i p r hp hr
    match i with
    | 0=>simp only [List.getElem?_cons_zero,AwP] at hp hr;subst hp hr;exact rx
    | i+1=>simp at hp) g1 g2 h
   obtain ⟨w2,y1,F2,y2⟩:=OV (op:=v0.op) (n:=v0.n) (n':=n') (ps:=kp) (ts:=[a',b']) (i:=1) (b:=b') (l:=[px]) rfl (by simp) d4;have hd:=Jx d2;have hdp:=d2.p;have hdb:(k2+1) * b'.wt≤(k2+1) * B:=Nat.mul_le_mul_left _ g2;refine ⟨k1+(k2+1),1+(c1+c2),u1+u2,1+(T1+(1+T2)),by omega,?_,by omega,by omega,w2,y1,B5 (by decide) (by simp) q11 (Fh (k:=k2) (T:=T2) hrule (Ie y1) ⟨F2+1,fun g hg m hm=>?_⟩)⟩
   ·have e1:(k1+(k2+1)+1) * B=(k1+1) * B+(k2+1) * B:=by rw [← Nat.add_mul];congr 1;omega
    omega
   ·obtain ⟨g,rfl⟩:∃k,g=k+1:=⟨g - 1,by omega⟩;rw [hp0,An1,if_pos hv4];exact y2 g (by omega) m hm
  ·simp at h
 ·rw [if_neg hv4] at h;simp only [AwP,AwQ] at h;obtain ⟨rfl,rfl,_⟩:=h;obtain ⟨o0,n0,k0,t0,e0,hp0,ho0,_⟩:=J4 r0;refine ⟨k1,1+c1,u1+1,1+(T1+1),q1,by omega,by omega,by omega,_,hnode,B5 (kh:=0) (by decide) (by simp) q11 (Ib hrule ⟨1,fun g hg m=>?_⟩)⟩;obtain ⟨g,rfl⟩:∃k,g=k+1:=⟨g - 1,by omega⟩;rw [hp0,An1,if_neg (by rw [← ho0];exact hv4)]
set_option maxHeartbeats 2000000 in
theorem Afi {f:Nat} {a0 F U:Tm} (ha:a0.good) (hF:F.good) (hw:(Tm.mk 4 0 [a0,.mk 5 0 [F,.mk 1 0 []]]).wt≤3000) (hs:(Tm.mk 4 0 [a0,.mk 5 0 [F,.mk 1 0 []]]).shaped=true) (h:AI f (.mk 4 0 [a0,.mk 5 0 [F,.mk 1 0 []]])=some (U,0)) :
  ∃F',∀g,F'≤g→Ns g (.mk 4 0 [a0,.mk 5 0 [F,.mk 1 0 []]])=some (U,0):=by
 simp only [Tm.wt,Tm.wtL] at hw;obtain ⟨S,hS⟩:∃S,S=Tm.mk 5 0 [F,.mk 1 0 []]:=⟨_,rfl⟩;rw [AI] at h;split at h
 ·cases h
 rename_i v s e he;split at h
 ·cases h
 rename_i w s2 nd2 e2 hr;simp only [AwP] at h;by_cases h2:e2=0
 case neg =>
  rw [if_pos h2] at h;simp only [AwQ] at h;exact absurd h.2 h2
 subst h2;rw [if_neg (by simp)] at h;simp only [AwQ,and_true] at h;subst h;have h1:=Cr hr;subst h1;rw [← hS] at he hs ⊢;obtain ⟨va,f1,hva,rfl⟩:∃va f1,Au f1 0 0 a0 []=some (va,s,0)∧v=.node 4 0 [va,.clo [] S]:=by
  cases f with
  | zero=>rw [Au] at he;cases he
  | succ f =>
   rw [Au] at he;rw [if_neg (by simp)] at he;split at he
   ·cases he
   rw [if_neg (by decide)] at he;split at he
   ·cases he
   split at he
   ·cases he
   split at he
   ·cases he
   rename_i vs s1 e1 hk;have he1:=F9 he;subst he1;simp only [AR] at hk;rw [if_neg (by decide)] at hk;split at hk
   ·cases hk
   rename_i va s3 e3 hva;rw [if_pos (by decide)] at hk;simp only [AwS,AwP,AwQ] at hk;obtain ⟨rfl,rfl,rfl⟩:=hk;cases f with
   | zero=>rw [headR] at he;cases he
   | succ f =>
    rw [headR] at he;rw [if_neg (by simp)] at he;split at he
    ·cases he
    have hop:(RV.node 4 0 [va,.clo [] S]).op=4:=rfl;rw [hop,if_neg (by decide),if_neg (by decide),if_neg (by decide),if_neg (by decide),if_neg (by decide)] at he;simp only [AwP,AwQ] at he;obtain ⟨rfl,rfl,_⟩:=he;exact ⟨va,_,hva,rfl⟩
 obtain ⟨k0,c0,u0,T0,a1,a2,a3,va',a4,F0,a5⟩:=FW 3000 f1 0 a0 [] va s hva ha (by omega) [] (Et _);cases f with
 | zero=>rw [AS] at hr;cases hr
 | succ f =>
 rw [AS] at hr;split at hr
 ·cases hr
 rename_i hrg;rw [if_neg (show ¬ ((if (0:Int)=0∧(3000<(0:Int)+1∨120<(1:Int)) then (5:Int) else 0)≠0) by simp)] at hr
 rw [show (RV.node 4 0 [va,.clo [] S]).op=4 from rfl,if_neg (by decide),show (RV.node 4 0 [va,.clo [] S]).n=0 from rfl,show (RV.node 4 0 [va,.clo [] S]).k=[va,.clo [] S] from rfl] at hr
 cases hk:Ba (fun s nd e k u=>AS f s nd e k u (1+1)) f 4 0 0 [va,.clo [] S] s (0+1) 0 with
 | none=>rw [hk] at hr;cases hr
 | some q =>
 obtain ⟨rs,s1,nd1,e1⟩:=q;rw [hk] at hr;simp only [AwS,AwP,AwQ] at hr;obtain ⟨rfl,rfl,rfl,rfl⟩:=hr;simp only [Ba] at hk;rw [if_neg (show ¬ 0<Ae 4 0 by decide)] at hk
 simp only at hk;split at hk
 ·cases hk
 rename_i ta s3 nd3 e3 hra;rw [if_pos (show 0<Ae 4 (0+1) by decide)] at hk
 rw [show (RV.clo [] S).env=[] from rfl,show (RV.clo [] S).b=S from rfl,if_neg (by simp)] at hk
 split at hk
 ·simp at hk
 rename_i vb s4 e4 heb;split at hk
 ·simp at hk
 rename_i tb s5 nd5 e5 hrb;simp only [AwS,AwP,AwQ] at hk;obtain ⟨rfl,rfl,rfl,rfl⟩:=hk;have x4:=Cr hrb;subst x4;have x3:=B4 heb;subst x3;obtain ⟨kr,cr,ur,Tr,Nr,r1,r2,r3,r4,r5,r6,r7,F2,r8⟩:=Ko 3000 f s (0+1) va _ _ ta s3 nd3 hra (by omega) va' a4;have hEnv:Em 3000 ((SH 0 (Ae 4 (0+1))).reverse++[]) ([]++FK 0 (Ae 4 (0+1))):=PI (Et _) (by rw [HJ,BW]) (AfV 0 _);rw [hS] at heb;obtain ⟨kb,cb,ub,Tb,b1,b2,b3,b4,b5⟩:=Arg heb hF (by omega) hEnv;rw [← hS] at b5;obtain ⟨w1,y1,F3,y2⟩:=OV (op:=4) (n:=0) (n':=0) (ps:=[va',.nil]) (ts:=[a0,S]) (i:=1) rfl (by rw [HJ];exact AU 4 (0+1)) b5;obtain ⟨kc,cc,uc,Tc,Nc,z1,z2,z3,z4,z5,z6,z7,F4,z8⟩:=Ko 3000 f s4 nd3 vb _ _ tb s5 nd5 hrb (by omega) w1 y1;have hs1:=(VV f1).1 _ _ _ _ _ hva (by omega);have hs3:=r4 hs1;have hs4:=(VV f).1 _ _ _ _ _ heb hs3;have hs5:=z4 hs4;have hc:=Jx a2;have hp:=a2.p;have hk:k0+kr+kb+kc≤1000:=by omega
 have hc2:(k0+1) * a0.wt≤(k0+1) * 3000:=Nat.mul_le_mul_left _ (by omega);have hvp:=ND va;have hvp2:=ND vb;have hrun0:∃F,∀g,F≤g→∀m,MOk m (k0+0) (1+(T0+0))→Qc g [] (.mk 4 0 [a0,S]) m=some (.mk 4 0 [va',.nil] (.mk 4 0 [a0,S]) [],Fe m (k0+0) (1+(T0+0))) :=
  B5 (by decide) (by simp) ⟨F0,fun g hg m hm=>by
   rw [Nv,if_neg (show ¬ 0<Ae 4 0 by decide),a5 g hg m hm]
   simp only [Nv];rw [if_pos (show 0<Ae 4 (0+1) by decide)]
   rfl⟩ (AgL (Rf (by omega)))
 obtain ⟨F5,hrun⟩:=hrun0;refine ⟨F0+F2+F3+F4+F5+200,fun g hg=>?_⟩;have hm:MOk ⟨100000,5000000,0⟩ ((k0+0)+(kr+(kb+kc))) ((1+(T0+0))+(1+(Tr+(Tb+Tc)))):=⟨rfl,by simp only;omega,by simp,by simp only;omega,by simp⟩;rw [Ns,if_neg (by rw [hs];simp),hrun g (by omega) _ (G9 hm)];simp only;have hm2:=Dq hm;rw [if_neg (by simp [Fe])];obtain ⟨g,rfl⟩:∃k,g=k+1:=⟨g - 1,by omega⟩;generalize Fe ⟨100000,5000000,0⟩ (k0+0) (1+(T0+0))=m1 at hm2 ⊢;have hm3:MOk (Fe m1 0 1) (kr+(kb+kc)) (Tr+(Tb+Tc)):=Dq (k1:=0) ⟨hm2.e,hm2.w,hm2.w2,by have:=hm2.s;omega,hm2.s2⟩;have htick:HK ⟨m1.s,m1.w,if m1.e=0∧(3000<(0:Int)+1∨120<(1:Int)) then 5 else m1.e⟩=some (Fe m1 0 1):=by
  rw [if_neg (fun h=>by omega)];exact Ms hm2
 rw [Vb,if_neg (by omega),htick];simp only;rw [if_neg (by simp [Fe]),if_neg (by decide),if_neg (by simp;omega)];rw [XS,if_neg (show ¬ 0<Ae 4 0 by decide)]
 simp only;rw [if_neg (fun h=>h hm3.e),r8 g (by omega) _ (G9 hm3)];simp only;rw [XS,if_pos (show 0<Ae 4 (0+1) by decide),y2 g (by omega) _ (G9 (Dq hm3))]
 simp only;rw [if_neg (by simp [Fe]),z8 g (by omega) _ (Dq (Dq hm3))];simp only [XS,AwS];rw [if_neg (by simp [Fe])]
mutual
def Tm.up:Tm→Int→Tm
 | .mk op n ks,c=>.mk op (if op=1∧c≤n then n+1 else n) (Tm.upL op 0 ks c)
def Tm.upL:Int→Nat→List Tm→Int→List Tm
 | _,_,[],_=>[]
 | op,i,t::l,c=>t.up (c+Ae op i)::Tm.upL op (i+1) l c
end
mutual
def Tm.dn:Tm→Int→Tm
 | .mk op n ks,c=>.mk op (if op=1∧c<n then n - 1 else n) (Tm.dnL op 0 ks c)
def Tm.dnL:Int→Nat→List Tm→Int→List Tm
 | _,_,[],_=>[]
 | op,i,t::l,c=>t.dn (c+Ae op i)::Tm.dnL op (i+1) l c
end
mutual
theorem Abq:∀(t:Tm) (c:Int),(t.up c).dn c=t
 | .mk op n ks,c=>by
  rw [Tm.up,Tm.dn,dnL_up ks op 0 c];congr 1;by_cases h1:op=1
  ·by_cases h2:c≤n
   ·rw [show (if op=1∧c≤n then n+1 else n)=n+1 from if_pos ⟨h1,h2⟩,if_pos ⟨h1,by omega⟩];omega
   ·rw [show (if op=1∧c≤n then n+1 else n)=n from if_neg (fun h=>h2 h.2),if_neg (by omega)]
  ·rw [if_neg (fun h=>h1 h.1),if_neg (fun h=>h1 h.1)]
theorem dnL_up:∀(l:List Tm) (op:Int) (i:Nat) (c:Int),Tm.dnL op i (Tm.upL op i l c) c=l
 | [],_,_,_=>rfl
 | t::l,op,i,c=>by rw [Tm.upL,Tm.dnL,Abq t,dnL_up l]
end
theorem Ah9 {a b:Tm} {c:Int} (h:a.up c=b.up c):a=b:=by rw [← Abq a c,← Abq b c,h]
theorem HF {n:Int} {ks:List Tm} {k:Nat} (h:(Tm.mk 1 n ks).sc k):ks=[]:=by
 rw [Tm.sc] at h
 have:=h.1
 rw [show ar 1=some 0 by decide,AwP] at this
 exact List.eq_nil_of_length_eq_zero this.symm
mutual
theorem L7:∀(t:Tm) (c d:Int) (k:Nat),t.sc k→k+2 * t.wt≤1000000000→0≤c→t.free c=false→t.subst c d AM=t.dn c
 | .mk op n ks,c,d,k,hs,hw,hc,hf=>by
  by_cases h1:op=1
  ·subst h1;have hk:=HF hs;subst hk;rw [Tm.free,if_pos rfl] at hf;have hne:n≠c:=by simpa using hf
   rw [Tm.sc] at hs;have hn:=hs.2.1;rw [if_pos rfl] at hn;rw [Tm.subst,if_pos rfl,if_neg hne,Tm.dn,Tm.dnL];by_cases h2:c<n
   ·rw [if_pos h2,if_pos ⟨rfl,h2⟩,As (by omega) (by omega)]
   ·rw [if_neg h2,if_neg (fun h=>h2 h.2)]
  ·rw [Tm.free,if_neg h1] at hf;rw [Tm.sc] at hs;rw [Tm.wt] at hw;rw [Tm.subst,if_neg h1,Tm.dn,if_neg (fun h=>h1 h.1),substL_dn ks op 0 c d k hs.2.2 (by omega) hc hf]
theorem substL_dn:∀(l:List Tm) (op:Int) (i:Nat) (c d:Int) (k:Nat),Tm.scL op i l k→k+2+2 * Tm.wtL l≤1000000000→0≤c→Tm.freeL op i l c=false→Tm.substL op i l c d AM=Tm.dnL op i l c
 | [],_,_,_,_,_,_,_,_,_=>rfl
 | t::l,op,i,c,d,k,hs,hw,hc,hf=>by
  rw [Tm.scL] at hs;rw [Tm.wtL] at hw;have hb:=AU op i;rw [Tm.freeL,Bool.or_eq_false_iff] at hf;rw [Tm.substL,Tm.dnL,L7 t _ _ _ hs.1 (by omega) (by omega) hf.1,substL_dn l op (i+1) c d k hs.2 (by omega) hc hf.2]
end
mutual
theorem G6:∀(t:Tm) (c:Int) (k:Nat),t.sc k→k+2 * t.wt≤1000000000→t.shift 1 c=t.up c
 | .mk op n ks,c,k,hs,hw=>by
  rw [Tm.sc] at hs;rw [Tm.wt] at hw;rw [Tm.shift,Tm.up,shiftL_up ks op 0 c k hs.2.2 (by omega)];by_cases h1:op=1∧c≤n
  ·have hn:=hs.2.1;rw [if_pos h1.1] at hn;rw [if_pos h1,if_pos h1,As (by omega) (by omega)]
  ·rw [if_neg h1,if_neg h1]
theorem shiftL_up:∀(l:List Tm) (op:Int) (i:Nat) (c:Int) (k:Nat),Tm.scL op i l k→k+2+2 * Tm.wtL l≤1000000000→Tm.shiftL op i l 1 c=Tm.upL op i l c
 | [],_,_,_,_,_,_=>rfl
 | t::l,op,i,c,k,hs,hw=>by
  rw [Tm.scL] at hs;rw [Tm.wtL] at hw;have hb:=AU op i;rw [Tm.shiftL,Tm.upL,G6 t _ _ hs.1 (by omega),shiftL_up l op (i+1) c k hs.2 (by omega)]
end
mutual
theorem On:∀(t:Tm) (a c:Int),a<c→(t.up c).free a=t.free a
 | .mk op n ks,a,c,h=>by
  rw [Tm.up,Tm.free,Tm.free];by_cases h1:op=1
  ·rw [if_pos h1,if_pos h1];by_cases h2:c≤n
   ·rw [if_pos ⟨h1,h2⟩,decide_eq_false (by omega),decide_eq_false (by omega)]
   ·rw [if_neg (fun h=>h2 h.2)]
  ·rw [if_neg h1,if_neg h1,freeL_up ks op 0 a c h]
theorem freeL_up:∀(l:List Tm) (op:Int) (i:Nat) (a c:Int),a<c→Tm.freeL op i (Tm.upL op i l c) a=Tm.freeL op i l a
 | [],_,_,_,_,_=>rfl
 | t::l,op,i,a,c,h=>by rw [Tm.upL,Tm.freeL,Tm.freeL,On t _ _ (by omega),freeL_up l op (i+1) a c h]
end
mutual
theorem OB:∀(t:Tm) (c:Int),(t.up c).free c=false
 | .mk op n ks,c=>by
  rw [Tm.up,Tm.free];by_cases h1:op=1
  ·rw [if_pos h1];by_cases h2:c≤n
   ·rw [if_pos ⟨h1,h2⟩,decide_eq_false (by omega)]
   ·rw [if_neg (fun h=>h2 h.2),decide_eq_false (by omega)]
  ·rw [if_neg h1,freeL_up0 ks op 0 c]
theorem freeL_up0:∀(l:List Tm) (op:Int) (i:Nat) (c:Int),Tm.freeL op i (Tm.upL op i l c) c=false
 | [],_,_,_=>rfl
 | t::l,op,i,c=>by rw [Tm.upL,Tm.freeL,OB t,freeL_up0 l op (i+1) c];rfl
end
mutual
theorem Ahk:∀(t:Tm) (a c:Int) (k:Nat),t.sc k→a≤c→t.free a=false→(t.up (c+1)).dn a=(t.dn a).up c
 | .mk op n ks,a,c,k,hs,h,hf=>by
  by_cases h1:op=1
  ·subst h1;have hk:=HF hs;subst hk;rw [Tm.free,if_pos rfl] at hf;have hne:n≠a:=by simpa using hf
   rw [Tm.up,Tm.dn,Tm.dn,Tm.up,Tm.upL,Tm.dnL,Tm.upL];congr 1;by_cases h2:a<n
   ·by_cases h3:c+1≤n
    ·rw [show (if (1:Int)=1∧c+1≤n then n+1 else n)=n+1 from if_pos ⟨rfl,h3⟩,show (if (1:Int)=1∧a<n then n - 1 else n)=n - 1 from if_pos ⟨rfl,h2⟩,if_pos ⟨rfl,by omega⟩,if_pos ⟨rfl,by omega⟩];omega
    ·rw [show (if (1:Int)=1∧c+1≤n then n+1 else n)=n from if_neg (fun h=>h3 h.2),show (if (1:Int)=1∧a<n then n - 1 else n)=n - 1 from if_pos ⟨rfl,h2⟩,if_neg (by omega)]
   ·rw [show (if (1:Int)=1∧c+1≤n then n+1 else n)=n from if_neg (by omega),show (if (1:Int)=1∧a<n then n - 1 else n)=n from if_neg (fun h=>h2 h.2),if_neg (by omega)]
  ·rw [Tm.free,if_neg h1] at hf;rw [Tm.sc] at hs;rw [Tm.up,Tm.dn,Tm.dn,Tm.up,dnL_up1 ks op 0 a c k hs.2.2 h hf,if_neg (fun h=>h1 h.1),if_neg (fun h=>h1 h.1),if_neg (fun h=>h1 h.1),if_neg (fun h=>h1 h.1)]
theorem dnL_up1:∀(l:List Tm) (op:Int) (i:Nat) (a c:Int) (k:Nat),Tm.scL op i l k→a≤c→Tm.freeL op i l a=false→Tm.dnL op i (Tm.upL op i l (c+1)) a=Tm.upL op i (Tm.dnL op i l a) c
 | [],_,_,_,_,_,_,_,_=>rfl
 | t::l,op,i,a,c,k,hs,h,hf=>by
  rw [Tm.scL] at hs;rw [Tm.freeL,Bool.or_eq_false_iff] at hf;rw [Tm.upL,Tm.dnL,Tm.dnL,Tm.upL,show c+1+(Ae op i:Int)=c+(Ae op i:Int)+1 by omega,Ahk t _ _ _ hs.1 (by omega) hf.1,dnL_up1 l op (i+1) a c k hs.2 h hf.2]
end
theorem VB (t:Tm) (c:Int):(t.up c).op=t.op:=by cases t;rfl
theorem Abw (c:Int):AM.up c=AM:=by rw [AM,Tm.up,if_neg (fun h=>absurd h.1 (by decide)),Tm.upL]
theorem Af3 {m:Int} {z b:Tm} (h:∀n1 f,b=.mk 5 n1 [f,.mk 1 0 []]→f.free 0=false→False) (hb:∀n1 f n2 k2,b=.mk 5 n1 [f,.mk 1 n2 k2]→k2=[]):Q3 (.mk 4 m [z,b])=.mk 4 m [z,b]:=by
 unfold Q3;split
 ·rename_i h1;simp only [Tm.mk.injEq,List.cons.injEq,and_true] at h1;obtain ⟨_,_,_,rfl⟩:=h1;rename_i n1 f o2 n2 k2;split
  ·rename_i hc;obtain ⟨rfl,rfl,rfl,hf⟩:=hc
   have:=hb _ _ _ _ rfl
   subst this;exact absurd hf (fun hf=>h _ _ rfl hf)
  ·rfl
 ·rfl
theorem Sr (m:Int) (z:Tm) (n1:Int) (f:Tm) (hf:f.free 0=false):Q3 (.mk 4 m [z,.mk 5 n1 [f,.mk 1 0 []]])=f.subst 0 0 AM:=by
 rw [Q3,if_pos ⟨rfl,rfl,rfl,hf⟩]
theorem Age (b:Tm) (k:Nat) (hs:b.sc k):(∃n1 f,b=.mk 5 n1 [f,.mk 1 0 []]∧f.free 0=false)∨(∀m z,Q3 (.mk 4 m [z,b])=.mk 4 m [z,b])∧(∀n1 f,b=.mk 5 n1 [f,.mk 1 0 []]→f.free 0=false→False):=by
 by_cases h:∃n1 f,b=.mk 5 n1 [f,.mk 1 0 []]∧f.free 0=false
 ·exact .inl h
 ·have h2:∀n1 f,b=.mk 5 n1 [f,.mk 1 0 []]→f.free 0=false→False:=fun n1 f h1 h2=>h ⟨n1,f,h1,h2⟩;refine .inr ⟨fun m z=>Af3 h2 ?_,h2⟩;intro n1 f n2 k2 he;subst he;rw [Tm.sc] at hs
  have:=hs.2.2.2.1
  exact HF this
theorem RI (m:Int) (z:Tm) (n1 n2:Int) (x:Tm):SO (.mk 7 m [z,.mk 8 n1 [x],.mk 9 n2 [x]])=x:=by
 rw [SO,if_pos ⟨rfl,rfl,(IS x x).2 rfl⟩]
theorem WA (a b:Tm):(∃n1 n2 x,a=.mk 8 n1 [x]∧b=.mk 9 n2 [x])∨(∀m z,SO (.mk 7 m [z,a,b])=.mk 7 m [z,a,b])∧(∀n1 n2 x,a=.mk 8 n1 [x]→b=.mk 9 n2 [x]→False):=by
 by_cases h:∃n1 n2 x,a=.mk 8 n1 [x]∧b=.mk 9 n2 [x]
 ·exact .inl h
 ·refine .inr ⟨fun m z=>?_,fun n1 n2 x h1 h2=>h ⟨n1,n2,x,h1,h2⟩⟩;unfold SO;split
  ·rename_i h1;simp only [Tm.mk.injEq,List.cons.injEq,and_true] at h1;obtain ⟨_,_,_,rfl,rfl⟩:=h1;split
   ·rename_i hc;obtain ⟨rfl,rfl,hs⟩:=hc;rw [(IS _ _).1 hs] at h;exact absurd ⟨_,_,_,rfl,rfl⟩ h
   ·rfl
  ·rfl
theorem Aj7 {op m:Int} {ks:List Tm} {k:Nat} (hs:(Tm.mk op m ks).sc k) (h:ar op=some 2):∃a b,ks=[a,b]:=by
 rw [Tm.sc] at hs
 have:=hs.1
 rw [h,AwP] at this
 match ks,this with
 | [a,b],_=>exact ⟨a,b,rfl⟩
theorem Aq5 {op m:Int} {ks:List Tm} {k:Nat} (hs:(Tm.mk op m ks).sc k) (h:ar op=some 3):∃a b c,ks=[a,b,c]:=by
 rw [Tm.sc] at hs
 have:=hs.1
 rw [h,AwP] at this
 match ks,this with
 | [a,b,c],_=>exact ⟨a,b,c,rfl⟩
theorem up5 (n1:Int) (f x:Tm) (c:Int):(Tm.mk 5 n1 [f,x]).up c=.mk 5 n1 [f.up c,x.up c]:=by
 rw [Tm.up,if_neg (fun h=>absurd h.1 (by decide)),Tm.upL,Tm.upL,Tm.upL,show Ae 5 0=0 by decide,show Ae 5 (0+1)=0 by decide,Int.natCast_zero,Int.add_zero]
theorem up4 (m:Int) (a b:Tm) (c:Int):(Tm.mk 4 m [a,b]).up c=.mk 4 m [a.up c,b.up (c+1)]:=by
 rw [Tm.up,if_neg (fun h=>absurd h.1 (by decide)),Tm.upL,Tm.upL,Tm.upL,show Ae 4 0=0 by decide,show Ae 4 (0+1)=1 by decide,Int.natCast_zero,Int.add_zero];rfl
theorem Ap4 {op:Int} (h1:op≠1) (hb:Ae op 0=0) (n1:Int) (x:Tm) (c:Int):(Tm.mk op n1 [x]).up c=.mk op n1 [x.up c]:=by
 rw [Tm.up,if_neg (fun h=>h1 h.1),Tm.upL,Tm.upL,hb,Int.natCast_zero,Int.add_zero]
theorem up7 (m:Int) (a b d:Tm) (c:Int):(Tm.mk 7 m [a,b,d]).up c=.mk 7 m [a.up c,b.up c,d.up c]:=by
 rw [Tm.up,if_neg (fun h=>absurd h.1 (by decide)),Tm.upL,Tm.upL,Tm.upL,Tm.upL,show Ae 7 0=0 by decide,show Ae 7 (0+1)=0 by decide,show Ae 7 (0+1+1)=0 by decide,Int.natCast_zero,Int.add_zero]
theorem Arq {c:Int} (hc:0<c):(Tm.mk 1 0 []).up c=.mk 1 0 []:=by
 rw [Tm.up,if_neg (by omega),Tm.upL]
theorem Ar1 {x:Tm} {c:Int} (hc:0<c) (h:x.up c=.mk 1 0 []):x=.mk 1 0 []:=by
 apply Ah9 (c:=c);rw [h,Arq hc]
theorem At5 (n1:Int) (f x:Tm):(Tm.mk 5 n1 [f,x]).eta=.mk 5 n1 [f.eta,x.eta]:=by
 rw [Tm.eta,if_neg (by decide),if_neg (by decide),Tm.etaL,Tm.etaL,Tm.etaL]
theorem Agx (m:Int) (a b:Tm):(Tm.mk 4 m [a,b]).eta=Q3 (.mk 4 m [AM,b.eta]):=by
 rw [Tm.eta,if_pos rfl,Tm.etaL,Tm.etaL,Tm.etaL,Ny]
theorem Agl (m:Int) (a b d:Tm):(Tm.mk 7 m [a,b,d]).eta=SO (.mk 7 m [AM,b.eta,d.eta]):=by
 rw [Tm.eta,if_neg (by decide),if_pos rfl,Tm.etaL,Tm.etaL,Tm.etaL,Tm.etaL,Ny]
theorem Aoe:(Tm.mk 1 0 []).eta=.mk 1 0 []:=by rw [Tm.eta,if_neg (by decide),if_neg (by decide),Tm.etaL]
theorem Apa {m:Int} {b:Tm} {c:Int} {k:Nat} (hc:0≤c) (hs:b.sc k) (hw:k+2 * b.wt≤900000000):Q3 (.mk 4 m [AM,b.up (c+1)])=(Q3 (.mk 4 m [AM,b])).up c:=by
 rcases Age b k hs with ⟨n1,f,rfl,hf⟩ | ⟨h,hno⟩
 ·rw [up5,Arq (by omega),Sr _ _ _ _ hf,Sr _ _ _ _ (by rw [On _ _ _ (by omega)];exact hf)];have hsf:f.sc k:=by rw [Tm.sc] at hs;have:=hs.2.2.1;rwa [show Ae 5 0=0 by decide] at this
  simp only [Tm.wt,Tm.wtL] at hw;have hsu:(f.up (c+1)).sc (k+1):=by
   obtain ⟨c',hc'⟩:∃c':Nat,c+1=c':=⟨(c+1).toNat,by omega⟩;rw [← G6 f (c+1) k hsf (by omega),hc'];exact CF f 1 c' k hsf (by omega)
  have hwu:(f.up (c+1)).wt=f.wt:=by rw [← G6 f (c+1) k hsf (by omega),Cl]
  rw [L7 f 0 0 k hsf (by omega) (by omega) hf,L7 (f.up (c+1)) 0 0 (k+1) hsu (by omega) (by omega) (by rw [On _ _ _ (by omega)];exact hf),Ahk f 0 c k hsf hc hf]
 ·rw [h,up4,Abw];have h2:∀n1 f,b.up (c+1)=.mk 5 n1 [f,.mk 1 0 []]→f.free 0=false→False:=by
   intro n1 f he hf;obtain ⟨op,n,ks⟩:=b;have h5:op=5:=by have:=VB (.mk op n ks) (c+1);rw [he] at this;exact this.symm
   subst h5;obtain ⟨g,x,rfl⟩:=Aj7 hs (by decide);rw [up5] at he;simp only [Tm.mk.injEq,List.cons.injEq,and_true,true_and] at he;obtain ⟨_,hg,hx⟩:=he;have hx:=Ar1 (by omega) hx;subst hx hg;exact hno n g rfl (by rwa [On _ _ _ (by omega)] at hf)
  refine Af3 h2 ?_;intro n1 f n2 k2 he;obtain ⟨op,n,ks⟩:=b;have h5:op=5:=by have:=VB (.mk op n ks) (c+1);rw [he] at this;exact this.symm
  subst h5;obtain ⟨g,x,rfl⟩:=Aj7 hs (by decide);rw [up5] at he;simp only [Tm.mk.injEq,List.cons.injEq,and_true,true_and] at he;obtain ⟨_,hg,hx⟩:=he;have hxo:x.op=1:=by rw [← VB x (c+1),hx];rfl
  obtain ⟨o,p,kx⟩:=x;simp only [Tm.op] at hxo;subst hxo;rw [Tm.sc] at hs
  have:=HF hs.2.2.2.1
  subst this;rw [Tm.up,Tm.upL] at hx;simp only [Tm.mk.injEq] at hx;exact hx.2.2.symm
theorem Ape (m:Int) (a b:Tm) (c:Int) (k:Nat) (ha:a.sc k) (hb:b.sc k):SO (.mk 7 m [AM,a.up c,b.up c])=(SO (.mk 7 m [AM,a,b])).up c:=by
 rcases WA a b with ⟨n1,n2,x,rfl,rfl⟩ | ⟨h,hno⟩
 ·rw [RI,Ap4 (by decide) (by decide),Ap4 (by decide) (by decide),RI]
 ·rw [h,up7,Abw];rcases WA (a.up c) (b.up c) with ⟨n1,n2,x,h1,h2⟩ | ⟨h',_⟩
  ·exfalso;have o1:a.op=8:=by rw [← VB a c,h1];rfl
   have o2:b.op=9:=by rw [← VB b c,h2];rfl
   obtain ⟨oa,na,ka⟩:=a;obtain ⟨ob,nb,kb⟩:=b;simp only [Tm.op] at o1 o2;subst o1 o2;have l1:=EF ha rfl (show ar 8=some 1 by decide)
   have l2:=EF hb rfl (show ar 9=some 1 by decide)
   simp only [Tm.kids] at l1 l2
   match ka,l1,kb,l2 with
   | [y],_,[z],_ =>
    rw [Ap4 (by decide) (by decide)] at h1 h2;simp only [Tm.mk.injEq,List.cons.injEq,and_true,true_and] at h1 h2
    have:y=z:=Ah9 (h1.2.trans h2.2.symm)
    subst this;exact hno _ _ _ rfl rfl
  ·exact h' _ _
mutual
theorem Ag2:∀(t:Tm) (c:Int) (k:Nat),0≤c→t.sc k→k+2 * t.wt≤800000000→(t.up c).eta=(t.eta).up c
 | .mk op m ks,c,k,hc,hs,hw=>by
  have hs0:=hs;rw [Tm.sc] at hs;simp only [Tm.wt] at hw;have hl:=etaL_up ks op 0 c k hc hs.2.2 (by omega);have hel:=etaL_sc op 0 ks k hs.2.2 (by omega);by_cases h4:op=4
  ·subst h4;obtain ⟨a,b,rfl⟩:=Aj7 hs0 (by decide);simp only [Tm.upL,Tm.etaL,List.cons.injEq,and_true] at hl;simp only [Tm.etaL,Tm.scL,Tm.wtL] at hel;rw [show Ae 4 (0+1)=1 by decide] at hl hel
   simp only [Tm.wtL] at hw;rw [up4,Agx,Agx,← Apa hc hel.1.2.1 (by omega)]
   have:=hl.2
   rw [show ((1:Nat):Int)=1 from rfl] at this
   rw [this]
  ·by_cases h7:op=7
   ·subst h7;obtain ⟨a,b,d,rfl⟩:=Aq5 hs0 (by decide);simp only [Tm.upL,Tm.etaL,List.cons.injEq,and_true] at hl;simp only [Tm.etaL,Tm.scL,Tm.wtL] at hel;rw [show Ae 7 (0+1)=0 by decide,show Ae 7 (0+1+1)=0 by decide] at hl hel
    simp only [Int.natCast_zero,Int.add_zero] at hl;rw [up7,Agl,Agl,← Ape _ _ _ _ _ hel.1.2.1 hel.1.2.2.1,hl.2.1,hl.2.2]
   ·rw [Tm.up,Tm.eta,if_neg h4,if_neg h7,Tm.eta,if_neg h4,if_neg h7,Tm.up,hl]
theorem etaL_up:∀(l:List Tm) (op:Int) (i:Nat) (c:Int) (k:Nat),0≤c→Tm.scL op i l k→k+2+2 * Tm.wtL l≤800000000→Tm.etaL (Tm.upL op i l c)=Tm.upL op i (Tm.etaL l) c
 | [],_,_,_,_,_,_,_=>rfl
 | t::l,op,i,c,k,hc,hs,hw=>by
  rw [Tm.scL] at hs;rw [Tm.wtL] at hw;have hb:=AU op i;rw [Tm.upL,Tm.etaL,Tm.etaL,Tm.upL,Ag2 t _ _ (by omega) hs.1 (by omega),etaL_up l op (i+1) c k hc hs.2 (by omega)]
end
theorem AlM (n d:Tm) (k:Nat) (hs:n.sc k) (hw:k+2 * n.wt≤700000000):(Tm.mk 4 0 [d,.mk 5 0 [n.shift 1 0,.mk 1 0 []]]).eta=n.eta:=by
 have he:=Oo n k hs (by omega);have hu:(n.eta.up 0).sc (k+1):=by
  rw [← G6 n.eta 0 k he.1 (by omega)];exact CF n.eta 1 0 k he.1 (by omega)
 have hwu:(n.eta.up 0).wt=n.eta.wt:=by rw [← G6 n.eta 0 k he.1 (by omega),Cl]
 rw [Agx,At5,Aoe,G6 n 0 k hs (by omega),Ag2 n 0 k (by omega) hs (by omega),Sr _ _ _ _ (OB _ _),L7 _ 0 0 (k+1) hu (by omega) (by omega) (OB _ _),Abq]
theorem AhQ (n a:Tm):(Tm.mk 7 0 [a,.mk 8 0 [n],.mk 9 0 [n]]).eta=n.eta:=by
 have h8:(Tm.mk 8 0 [n]).eta=.mk 8 0 [n.eta]:=by rw [Tm.eta,if_neg (by decide),if_neg (by decide),Tm.etaL,Tm.etaL]
 have h9:(Tm.mk 9 0 [n]).eta=.mk 9 0 [n.eta]:=by rw [Tm.eta,if_neg (by decide),if_neg (by decide),Tm.etaL,Tm.etaL]
 rw [Agl,h8,h9,RI]
theorem Q9:∀(m:Nat) (t:Tm) (d c:Int),t.wt<m→t.stl→(t.shift d c).stl
 | 0,t,d,c,h,_=>by omega
 | m+1,.mk op n ks,d,c,hm,h=>by
  rw [Tm.shift];rw [Tm.stl] at h ⊢;simp only [Tm.wt] at hm;have kid:∀(i:Nat) k0,(Tm.shiftL op 0 ks d c)[i]?=some k0→∃k1,ks[i]?=some k1∧k0.op=k1.op:=by
   intro i k0 hk;rw [Hi] at hk;cases hx:ks[i]? with
   | none=>rw [hx] at hk;cases hk
   | some k1 =>
    rw [hx] at hk;simp only [AwS,AwP] at hk;exact ⟨k1,rfl,by rw [← hk,PO]⟩
  obtain ⟨⟨⟨a30,a19,a13⟩,a5,a89⟩,hL⟩:=h;refine ⟨⟨⟨fun e k0 hk=>?_,fun e k0 hk=>?_,fun e k0 hk=>?_⟩,fun e k0 hk=>?_,fun e k0 hk=>?_⟩,Us fun i t hi=>?_⟩
  ·obtain ⟨k1,h1,h2⟩:=kid _ _ hk;rw [h2];exact a30 e k1 h1
  ·obtain ⟨k1,h1,h2⟩:=kid _ _ hk;rw [h2];exact a19 e k1 h1
  ·obtain ⟨k1,h1,h2⟩:=kid _ _ hk;rw [h2];exact a13 e k1 h1
  ·obtain ⟨k1,h1,h2⟩:=kid _ _ hk;rw [h2];exact a5 e k1 h1
  ·obtain ⟨k1,h1,h2⟩:=kid _ _ hk;rw [h2];exact a89 e k1 h1
  ·rw [Hi] at hi;cases hx:ks[i]? with
   | none=>rw [hx] at hi;cases hi
   | some k1 =>
    rw [hx] at hi;simp only [AwS,AwP] at hi;subst hi
    have:=HO hx
    exact Q9 m k1 _ _ (by omega) (CE hL (List.mem_of_getElem? hx))
theorem Ajf {T X:Tm} (h:Pars T X):∀n d S,T=.mk 4 n [d,S]→∃d' S',X=.mk 4 n [d',S']∧Pars d d'∧Pars S S':=by
 induction h with
 | refl t=>rintro n d S rfl;exact ⟨d,S,rfl,.refl _,.refl _⟩
 | step h hs ih =>
  rintro n d S rfl;obtain ⟨d1,S1,rfl,h1,h2⟩:=Amg h ⟨by decide,by decide⟩;obtain ⟨d2,S2,rfl,h3,h4⟩:=ih _ _ _ rfl;exact ⟨d2,S2,rfl,.step h1 h3,.step h2 h4⟩
theorem AeS {T X:Tm} (h:Pars T X):∀n d x y,T=.mk 7 n [d,x,y]→∃d' x' y',X=.mk 7 n [d',x',y']∧Pars d d'∧Pars x x'∧Pars y y':=by
 induction h with
 | refl t=>rintro n d x y rfl;exact ⟨d,x,y,rfl,.refl _,.refl _,.refl _⟩
 | step h hs ih =>
  rintro n d x y rfl;obtain ⟨d1,x1,y1,rfl,h1,h2,h3⟩:=Ag8 h (by decide);obtain ⟨d2,x2,y2,rfl,h4,h5,h6⟩:=ih _ _ _ _ rfl;exact ⟨d2,x2,y2,rfl,.step h1 h4,.step h2 h5,.step h3 h6⟩
theorem Ad2 {n d:Tm} {k:Nat} (nsc:n.sc k) (dsc:d.sc k) (hk:k+2 * n.wt≤1000000):(Tm.mk 4 0 [d,.mk 5 0 [n.shift 1 0,.mk 1 0 []]]).sc k:=by
 have n1:(n.shift 1 0).sc (k+1):=by have:=CF n 1 0 k nsc (by omega);simpa using this
 have h5:(Tm.mk 5 0 [n.shift 1 0,.mk 1 0 []]).sc (k+1):=by
  rw [Tm.sc,if_neg (by decide)];refine ⟨rfl,Bs (by decide) (by decide) (by decide),?_⟩;simp only [Tm.scL,show Ae 5 0=0 from rfl,show Ae 5 (0+1)=0 from rfl,Nat.add_zero,and_true]
  refine ⟨n1,?_⟩;rw [Tm.sc,if_pos rfl];refine ⟨rfl,⟨by omega,by omega⟩,trivial⟩
 rw [Tm.sc,if_neg (by decide)];refine ⟨rfl,Bs (by decide) (by decide) (by decide),?_⟩;simp only [Tm.scL,show Ae 4 0=0 from rfl,show Ae 4 (0+1)=1 from rfl,Nat.add_zero,and_true]
 exact ⟨dsc,h5⟩
theorem Aov {G:List Nat} {F d U:Tm} {s sd k f:Nat} (hF:HasT G F s) (hd:HasT G d sd) (fsc:F.sc k) (dsc:d.sc k) (hk:k≤1000) (hG:G.length≤1000) (hw:d.wt+F.wt+3≤3000)
  (h:AI f (.mk 4 0 [d,.mk 5 0 [F.shift 1 0,.mk 1 0 []]])=some (U,0)):Ev 55 [.fv (Tm.mk 4 0 [d,.mk 5 0 [F.shift 1 0,.mk 1 0 []]]).enc] (.tuple [U.enc,.int .i64 0]):=by
 have f1:(F.shift 1 0).sc (k+1):=by have:=CF F 1 0 k fsc (by omega);simpa using this
 have hF1:=N9 hF [0] (by simp only [AwT,List.length_nil];omega);have xsc:=Ad2 fsc dsc (k:=k) (by omega);have hwt:(Tm.mk 4 0 [d,.mk 5 0 [F.shift 1 0,.mk 1 0 []]]).wt≤3000:=by simp only [Tm.wt,Tm.wtL,Cl];omega
 obtain ⟨F',hF'⟩:=Afi (Hc hd k dsc (by omega)) (Hc hF1 (k+1) f1 (by rw [Cl];omega)) hwt (G3 _ k xsc) h;exact ⟨F'+10000,fun n hn=>Pb (f:=F') (hF' F' (Nat.le_refl _)) (by omega) (by omega) (by omega)⟩
theorem WI {f:Nat} {op:Int} {env:List RV} {i:Nat} {t:Tm} {l:List Tm} {s:Int} {vs:List RV} {s1:Int} (hb:Ae op i=0) (h:AR (fun s e t=>Au f s e t env) op env i (t::l) s 0=some (vs,s1,0)) :
  ∃v s2 vs',Au f s 0 t env=some (v,s2,0)∧AR (fun s e t=>Au f s e t env) op env (i+1) l s2 0=some (vs',s1,0)∧vs=v::vs':=by
 rw [AR,if_neg (by omega)] at h;cases hv:Au f s 0 t env with
 | none=>simp only [hv] at h;cases h
 | some q =>
  obtain ⟨v,s2,e2⟩:=q;simp only [hv] at h;cases hk:AR (fun s e t=>Au f s e t env) op env (i+1) l s2 e2 with
  | none=>rw [hk] at h;cases h
  | some q =>
   obtain ⟨vs',s3,e3⟩:=q;rw [hk] at h;simp only [AwS,AwP,AwQ] at h;obtain ⟨rfl,rfl,rfl⟩:=h
   have:e2=0:=Fj _ (fun s e t v s' h=>B4 h) op env l _ _ _ _ _ hk
   subst this;exact ⟨v,s2,vs',rfl,hk,rfl⟩
theorem AoD {f:Nat} {op:Int} {env:List RV} {i:Nat} {s:Int} {vs:List RV} {s1:Int} (h:AR (fun s e t=>Au f s e t env) op env i [] s 0=some (vs,s1,0)):vs=[]∧s1=s:=by
 simp only [AR,AwP,AwQ] at h;exact ⟨h.1.symm,h.2.1.symm⟩
theorem W7 {t t':Tm} {k:Nat} (h:Pars t t') (ht:t.sc k) (ht':t'.sc k) (hk:k≤1000) (tw:t.wt≤100000) (tw':t'.wt≤100000):Pars (t.shift 1 0) (t'.shift 1 0):=by
 have e1:=Jw t 1 0 k ht (by omega);have e2:=Jw t' 1 0 k ht' (by omega);rw [show ((0:Nat):Int)=0 from rfl,show ((1:Nat):Int)=1 from rfl] at e1 e2
 rw [e1,e2,J2,J2];exact Ag9 h _
theorem Yx {f:Nat} {x X:Tm} (h:AI f x=some (X,0)):∃v s s' nd',Au f 0 0 x []=some (v,s,0)∧AS f s 0 0 v 0 1=some (X,s',nd',0):=by
 rw [AI] at h;split at h
 ·cases h
 rename_i v s e he;split at h
 ·cases h
 rename_i u s2 nd2 e2 hr;by_cases h2:e2=0
 ·subst h2;rw [if_neg (by simp)] at h;simp only [AwP,AwQ,and_true] at h;subst h
  have:=Cr hr
  subst this;exact ⟨v,s,s2,nd2,he,hr⟩
 ·rw [if_pos h2] at h;simp only [AwP,AwQ] at h;exact absurd h.2 h2
theorem Nf {op m:Int} {ks:List Tm} {k:Nat} (h:(Tm.mk op m ks).sc k) (h1:op≠1) (h2:op≠2) (h26:op≠26) (h25:op≠25):m=0:=by
 rw [Tm.sc,if_neg h1] at h
 have:=h.2.1
 unfold BS at this;rw [if_neg h2,if_neg h26,if_neg h25] at this;exact this
theorem AsP {op n:Int} {a a' b b':Tm} (h1:op≠1) (ha:Pars a a') (hb:Pars b b'):Pars (.mk op n [a,b]) (.mk op n [a',b']):=by
 refine Ix h1 rfl fun i x y hx hy=>?_
 match i with
 | 0=>simp only [List.getElem?_cons_zero,AwP] at hx hy;subst hx;subst hy;exact ha
 | 1=>simp only [List.getElem?_cons_succ,List.getElem?_cons_zero,AwP] at hx hy;subst hx;subst hy;exact hb
 | i+2=>simp at hx
theorem Amr {op n:Int} {a a':Tm} (h1:op≠1) (ha:Pars a a'):Pars (.mk op n [a]) (.mk op n [a']):=by
 refine Ix h1 rfl fun i x y hx hy=>?_
 match i with
 | 0=>simp only [List.getElem?_cons_zero,AwP] at hx hy;subst hx;subst hy;exact ha
 | i+1=>simp at hx
theorem Auq {F n d X:Tm} {k f g:Nat} (hN:AI f F=some (n,0)) (fsc:F.sc k) (fw:F.wt≤100000) (ho:NOk k n) (xsc:(Tm.mk 4 0 [d,.mk 5 0 [F.shift 1 0,.mk 1 0 []]]).sc k) (hk:k≤1000)
  (h:AI g (.mk 4 0 [d,.mk 5 0 [F.shift 1 0,.mk 1 0 []]])=some (X,0)):X.eta=n.eta:=by
 have hp:=Hn h xsc;have hx:=HE h xsc;have hn:=HE hN fsc;have nsc:=ho.sc;have nw:=ho.wt;obtain ⟨d',S',rfl,h1,h2⟩:=Ajf hp _ _ _ rfl;rw [Tm.stl] at hx;have hS:=CE hx.2 (t:=S') (by simp);have hq:Pars (.mk 5 0 [F.shift 1 0,.mk 1 0 []]) (.mk 5 0 [n.shift 1 0,.mk 1 0 []]):=AsP (by decide) (W7 (Hn hN fsc) fsc nsc hk fw (by omega)) (.refl _);by_cases h4:n.op=4
 ·obtain ⟨op,m,ks⟩:=n;simp only [Tm.op] at h4;subst h4;obtain ⟨A,b,rfl⟩:=Aj7 nsc rfl;have hm:=Nf nsc (by decide) (by decide) (by decide) (by decide);subst hm;have nsc0:=nsc;rw [Tm.sc,if_neg (by decide)] at nsc;simp only [Tm.scL,show Ae 4 0=0 from rfl,show Ae 4 (0+1)=1 from rfl,Nat.add_zero,and_true] at nsc
  have bsc:=nsc.2.2.2;simp only [Tm.wt,Tm.wtL] at nw;have esh:(Tm.mk 4 0 [A,b]).shift 1 0=.mk 4 0 [A.shift 1 0,b.shift 1 1]:=by
   rw [Tm.shift,if_neg (by simp)];simp only [Tm.shiftL];rfl
  rw [esh] at hq;have eb:(b.shift 1 1).sub (s1 (.mk 1 0 []))=b:=by
   have:=Jw b 1 1 (k+1) bsc (by omega)
   rw [show ((1:Nat):Int)=1 from rfl] at this
   rw [this,Iz];refine Eq.trans ?_ (PL b);congr 1
   funext i
   match i with
   | 0=>rfl
   | i+1 =>
    rw [if_neg (by omega)];rfl
  have hbeta:Pars (.mk 5 0 [.mk 4 0 [A.shift 1 0,b.shift 1 1],.mk 1 0 []]) b:=by
   have:=Par.beta 0 0 (A.shift 1 0) (b.shift 1 1) (b.shift 1 1) (.mk 1 0 []) (.mk 1 0 []) (Bl _) (Bl _)
   rw [eb] at this;exact Fd this
  rw [Tm.stl] at hn;have hb:=CE hn.2 (t:=b) (by simp);have hSb:=Ml h2 (Pars.refl b) (CJ hq hbeta) (.refl b) hS hb;subst hSb;rw [Agx,Agx]
 ·have hst:(Tm.mk 5 0 [n.shift 1 0,.mk 1 0 []]).stl:=by
   rw [Tm.stl,Tm.stlL,Tm.stlL,Tm.stlL];refine ⟨⟨⟨by omega,by omega,by omega⟩,fun _ k0 hk0=>?_,by omega⟩,Q9 (n.wt+1) n 1 0 (by omega) hn,Art 1 0,trivial⟩;simp only [List.getElem?_cons_zero,AwP] at hk0;rw [← hk0,PO];exact h4
  have:=Ml h2 hq (.refl _) (.refl _) hS hst
  subst this;exact AlM n d' k nsc (by omega)
theorem AtZ {c n T X:Tm} {k f g:Nat} (hN:AI f c=some (n,0)) (csc:c.sc k) (ho:NOk k n) (xsc:(Tm.mk 7 0 [T,.mk 8 0 [c],.mk 9 0 [c]]).sc k)
  (h:AI g (.mk 7 0 [T,.mk 8 0 [c],.mk 9 0 [c]])=some (X,0)):X.eta=n.eta:=by
 have hp:=Hn h xsc;have hx:=HE h xsc;have hn:=HE hN csc;have nsc:=ho.sc;have hr:=Hn hN csc;obtain ⟨T',x,y,rfl,_,h1,h2⟩:=AeS hp _ _ _ _ rfl;rw [Tm.stl] at hx;have hxs:=CE hx.2 (t:=x) (by simp);have hys:=CE hx.2 (t:=y) (by simp);have q1:Pars (.mk 8 0 [c]) (.mk 8 0 [n]):=Amr (by decide) hr;have q2:Pars (.mk 9 0 [c]) (.mk 9 0 [n]):=Amr (by decide) hr;by_cases h7:n.op=7
 ·obtain ⟨op,m,ks⟩:=n;simp only [Tm.op] at h7;subst h7;obtain ⟨A,p,q,rfl⟩:=Aq5 nsc rfl;have hm:=Nf nsc (by decide) (by decide) (by decide) (by decide);subst hm;rw [Tm.stl] at hn;have hps:=CE hn.2 (t:=p) (by simp);have hqs:=CE hn.2 (t:=q) (by simp);have e1:=Ml h1 (Pars.refl p) (CJ q1 (Fd (.fst 0 0 A p p q (Bl _)))) (.refl p) hxs hps;have e2:=Ml h2 (Pars.refl q) (CJ q2 (Fd (.snd 0 0 A p q q (Bl _)))) (.refl q) hys hqs;subst e1;subst e2;rw [Agl,Agl]
 ·have st:∀o:Int,o=8∨o=9→(Tm.mk o 0 [n]).stl:=by
   intro o ho;rw [Tm.stl,Tm.stlL,Tm.stlL];refine ⟨⟨⟨by omega,by omega,by omega⟩,by omega,fun _ k0 hk0=>?_⟩,hn,trivial⟩;simp only [List.getElem?_cons_zero,AwP] at hk0;subst hk0;exact h7
  have e1:=Ml h1 q1 (.refl _) (.refl _) hxs (st 8 (.inl rfl));have e2:=Ml h2 q2 (.refl _) (.refl _) hys (st 9 (.inr rfl));subst e1;subst e2;exact AhQ n T'
theorem Abu {c T:Tm} {k:Nat} (csc:c.sc k) (tsc:T.sc k):(Tm.mk 7 0 [T,.mk 8 0 [c],.mk 9 0 [c]]).sc k :=
 R5 rfl (by decide) (Bs (by decide) (by decide) (by decide)) tsc (El rfl (by decide) (Bs (by decide) (by decide) (by decide)) csc) (El rfl (by decide) (Bs (by decide) (by decide) (by decide)) csc)
theorem Am9 (g:Nat) (op n:Int) (h:op=8∨op=9) (o0 n0:Int) (k0:List PV) (t0:Tm) (e0:List PV) (t:Tm) (e:List PV) (m:M3) (h7:o0≠7):stP (g+1) (.mk op n [.mk o0 n0 k0 t0 e0] t e) m=some (.nil,m):=by
 rw [stP.eq_def];simp only;rw [if_neg (by omega),if_pos h,if_neg h7]
set_option maxHeartbeats 1000000 in
theorem AlZ {B f:Nat} {s s' op:Int} {F:Tm} {env:List RV} {e:List PV} {v:RV} (ho:op=8∨op=9) (h:Au f s 0 (.mk op 0 [F]) env=some (v,s',0)) (hg:F.good) (hw:F.wt≤B) (he:Em B e env) :
  ∃k c u T:Nat,s'=s+k∧c≤(k+1) * B+1∧5 * u≤3 * c+10 * k+5∧T≤c+u+2 * k+1∧Wv B e (.mk op 0 [F]) v k T:=by
 cases f with
 | zero=>rw [Au] at h;cases h
 | succ f =>
 have hop1:op≠1:=by omega
 obtain ⟨vs,s1,hk,h⟩:=Fa h hop1;have hwl:Tm.wtL [F]=F.wt:=by simp [Tm.wtL]
 obtain ⟨k1,c1,u1,T1,q1,q2,q3,q4,q5,q6,ps,q7,q8,q9,q10,q11⟩:=Ii (FW B f) op env e he [F] 0 s vs s1 hk (by simp only [Tm.goodL,and_true];exact hg) (by omega);simp only [Nat.zero_add] at q8 q9 q10;have hsi:=surfL_innL op 0 [F];have hc1:c1≤(k1+1) * B:=by
  have e2:k1 * Tm.innL op 0 [F]≤k1 * B:=Nat.mul_le_mul_left _ (by omega);rw [Nat.add_mul,Nat.one_mul];omega
 have hb0:Ae op 0=0:=by rcases ho with rfl | rfl<;>rfl
 have har:ar op=some 1:=by rcases ho with rfl | rfl<;>rfl
 have hnode:Rel B (.mk op 0 ps (.mk op 0 [F]) e) (.node op 0 vs):=by
  refine .node op 0 0 ps vs [F] e env hop1 har q7 q6 (fun i p r=>q9 i p r) ?_ he.1 he.2;intro i b hb hi;have hi2:i<1:=by have:=(List.getElem?_eq_some_iff.1 hi).1;simpa using this
  have hi':i=0:=by omega
  subst hi';omega
 obtain ⟨v0,rfl⟩:=Cf q6;obtain ⟨p0,rfl⟩:=Cf q7;have r0:=q9 0 p0 v0 hb0 rfl rfl;have hrule:Cu op=true:=by rcases ho with rfl | rfl<;>rfl
 cases f with
 | zero=>rw [headR] at h;cases h
 | succ f =>
 rw [headR] at h;rw [if_neg (by simp)] at h;split at h
 ·cases h
 rw [show (RV.node op 0 [v0]).op=op from rfl,if_neg (by omega),if_pos ho,show (RV.node op 0 [v0]).k=[v0] from rfl] at h
 simp only [List.getElem?_cons_zero] at h;by_cases hv7:v0.op=7
 ·rw [if_pos hv7] at h;obtain ⟨n',kp,ts,e0,env0,hp0,b1,b2,b3,b4,b5,b6⟩:=GH r0 (by omega);rw [hv7,show ar 7=some 3 by decide,AwP] at b1
  rw [← b1] at b2 b3;obtain ⟨pa,px,py,rfl⟩:=AiS b2;obtain ⟨ra,rx,ry,e3⟩:=AiS b3;rw [e3] at h b4;split at h
  ·rename_i hs1;have hx:=b4 1 px rx (by rw [hv7];rfl) rfl rfl;have hy:=b4 2 py ry (by rw [hv7];rfl) rfl rfl;obtain ⟨w2,hw2,y1,hs⟩:∃w2,w2=(if op=8 then px else py)∧Rel B w2 v∧s'=s1+1:=by
    rcases ho with rfl | rfl
    ·rw [show (1+(8:Int) - 8).toNat=1 by decide] at h
     simp only [List.getElem?_cons_succ,List.getElem?_cons_zero,AwS,AwP,AwQ] at h;obtain ⟨rfl,rfl,_⟩:=h;exact ⟨px,rfl,hx,rfl⟩
    ·rw [show (1+(9:Int) - 8).toNat=2 by decide] at h
     simp only [List.getElem?_cons_succ,List.getElem?_cons_zero,AwS,AwP,AwQ] at h;obtain ⟨rfl,rfl,_⟩:=h;exact ⟨py,rfl,hy,rfl⟩
   refine ⟨k1+(0+1),1+c1,u1,1+(T1+(1+0)),by omega,?_,by omega,by omega,w2,y1,B5 hop1 (by simp) q11 (Fh (k:=0) (T:=0) hrule (Ie y1) ⟨1,fun g hg m hm=>?_⟩)⟩
   ·have e1:(k1+(0+1)+1) * B=(k1+1) * B+B:=by rw [Nat.add_mul _ 1,Nat.one_mul]
    omega
   ·obtain ⟨g,rfl⟩:∃k,g=k+1:=⟨g - 1,by omega⟩;rw [hp0,hv7,Ams g op 0 ho,← hw2,Pm hm.e]
  ·simp at h
 ·rw [if_neg hv7] at h;simp only [AwP,AwQ] at h;obtain ⟨rfl,rfl,_⟩:=h;obtain ⟨o0,n0,k0,t0,e0,hp0,ho0,_⟩:=J4 r0;refine ⟨k1,1+c1,u1+1,1+(T1+1),q1,by omega,by omega,by omega,_,hnode,B5 (kh:=0) hop1 (by simp) q11 (Ib hrule ⟨1,fun g hg m=>?_⟩)⟩;obtain ⟨g,rfl⟩:∃k,g=k+1:=⟨g - 1,by omega⟩;rw [hp0,Am9 g op 0 ho o0 n0 k0 t0 e0 _ _ _ (by rw [← ho0];exact hv7)]
set_option maxHeartbeats 2000000 in
theorem Ae3 {f:Nat} {a0 F U:Tm} (ha:a0.good) (hF:F.good) (hw:(Tm.mk 7 0 [a0,.mk 8 0 [F],.mk 9 0 [F]]).wt≤3000) (hs:(Tm.mk 7 0 [a0,.mk 8 0 [F],.mk 9 0 [F]]).shaped=true) (h:AI f (.mk 7 0 [a0,.mk 8 0 [F],.mk 9 0 [F]])=some (U,0)) :
  ∃F',∀g,F'≤g→Ns g (.mk 7 0 [a0,.mk 8 0 [F],.mk 9 0 [F]])=some (U,0):=by
 simp only [Tm.wt,Tm.wtL] at hw;obtain ⟨v,s,s',nd',he,hr⟩:=Yx h
 match f,he,hr with
 | f+1,he,hr =>
 obtain ⟨ws,s2,hkp,hhp⟩:=Fa he (by decide);obtain ⟨rfl,rfl⟩:=FR hhp (by decide);obtain ⟨va,sa,ws1,hva,hk3,rfl⟩:=WI rfl hkp;obtain ⟨vt,st,ws2,hvt,hk4,rfl⟩:=WI rfl hk3;obtain ⟨vz,sz,ws3,hvz,hk5,rfl⟩:=WI rfl hk4;obtain ⟨rfl,rfl⟩:=AoD hk5;obtain ⟨k0,c0,u0,T0,a1,a2,a3,pa,a4,F0,a5⟩:=FW 3000 f 0 a0 [] va sa hva ha (by omega) [] (Et _);obtain ⟨k1,c1,u1,T1,b1,b2,b3,b4,px,b5,F1,b6⟩:=AlZ (.inl rfl) hvt hF (B:=3000) (by omega) (Et _);obtain ⟨k2,c2,u2,T2,d1,d2,d3,d4,py,d5,F2,d6⟩:=AlZ (.inr rfl) hvz hF (B:=3000) (by omega) (Et _);have hrel:Rel 3000 (.mk 7 0 [pa,px,py] (.mk 7 0 [a0,.mk 8 0 [F],.mk 9 0 [F]]) []) (.node 7 0 [va,vt,vz]):=by
  refine .node 7 0 0 _ _ _ [] [] (by decide) rfl rfl rfl (fun i p r _ hp hr=>?_) (fun i b hb hi=>?_) rfl (fun i p r hp=>by simp at hp)
  ·match i with
   | 0=>simp only [List.getElem?_cons_zero,AwP] at hp hr;subst hp hr;exact a4
   | 1=>simp only [List.getElem?_cons_succ,List.getElem?_cons_zero,AwP] at hp hr;subst hp hr;exact b5
   | 2=>simp only [List.getElem?_cons_succ,List.getElem?_cons_zero,AwP] at hp hr;subst hp hr;exact d5
   | i+3=>simp at hp
  ·have:Ae 7 i=0:=by simp [Ae]
   omega
 have hrun:∃F',∀g,F'≤g→∀m,MOk m ((k0+(k1+k2))+0) (1+((T0+(T1+T2))+0))→Qc g [] (.mk 7 0 [a0,.mk 8 0 [F],.mk 9 0 [F]]) m=some (.mk 7 0 [pa,px,py] (.mk 7 0 [a0,.mk 8 0 [F],.mk 9 0 [F]]) [],Fe m ((k0+(k1+k2))+0) (1+((T0+(T1+T2))+0))) :=
  B5 (by decide) (by simp) ⟨F0+F1+F2,fun g hg m hm=>by
   rw [Nv,if_neg (show ¬ 0<Ae 7 0 by decide),a5 g (by omega) m (G9 hm)]
   simp only;rw [Nv,if_neg (show ¬ 0<Ae 7 (0+1) by decide),b6 g (by omega) _ (G9 (Dq hm))]
   simp only;rw [Nv,if_neg (show ¬ 0<Ae 7 (0+1+1) by decide),d6 g (by omega) _ (Dq (Dq hm))]
   simp only [Nv,AwS,EG,Nat.add_assoc]⟩ (AgL (Rf (by omega)))
 obtain ⟨F3,hrun⟩:=hrun;obtain ⟨kr,cr,ur,Tr,Nr,r1,r2,r3,r4,r5,r6,r7,F4,r8⟩:=Ko 3000 (f+1) _ 0 _ 0 1 U s' nd' hr (by omega) _ hrel;have hs1:=(VV (f+1)).1 _ _ _ _ _ he (by omega);have hs2:=r4 hs1;have hc:=Jx a2;have hp:=a2.p;have hk:k0+k1+k2+kr≤1000:=by omega
 have hc2:(k0+1) * a0.wt≤(k0+1) * 3000:=Nat.mul_le_mul_left _ (by omega);refine ⟨F3+F4,fun g hg=>?_⟩;have hm:MOk ⟨100000,5000000,0⟩ (((k0+(k1+k2))+0)+kr) ((1+((T0+(T1+T2))+0))+Tr):=⟨rfl,by simp only;omega,by simp,by simp only;omega,by simp⟩;rw [Ns,if_neg (by rw [hs];simp),hrun g (by omega) _ (G9 hm)];simp only;rw [if_neg (by simp [Fe]),r8 g (by omega) _ (Dq hm)];simp only;rw [if_neg (by simp [Fe])]
theorem AjP {e:Int} (h:e=5∨e=17):(decide (e=17) || decide (e=5))=true:=by rcases h with rfl | rfl<;>rfl
theorem Ak6 {e:Int} (h:e=0):(decide (e=17) || decide (e=5))=false:=by rw [h];rfl
def FX (t:Tm):Blk:=.row [iv t.op,iv t.n,.fv (.sl (t.kids.map Tm.enc))] false
def uT (a f1:Tm):Tm:=.mk 4 0 [a,.mk 5 0 [f1,.mk 1 0 []]]
structure EtaC (n:Nat) (le ge ge':FV) (r q s a b f c f1 U Xf Xc Xu:Tm) (p h:Bool) (e i m ck:Int):Prop where
 hk:Bc (SS dt n 10 [] ⟨[],[]⟩) (.bool true)
 hm:Bc (SS dt n 11 [.fv le] ⟨[],[]⟩) (.bool true)
 fr:Bc (SS dt n 12 [.fv r.enc] ⟨[],[]⟩) (.bool true)
 fq:Bc (SS dt n 12 [.fv q.enc] ⟨[],[]⟩) (.bool true)
 fs:Bc (SS dt n 12 [.fv s.enc] ⟨[],[]⟩) (.bool true)
 hctx:Bc (SS dt n 20 [.fv le] ⟨[],[]⟩) ge
 h1:Bc (SS dt n 21 [.fv ge,.fv q.enc,iv 1] ⟨[],[]⟩) a.enc
 hmo:Bc (SS dt n 22 [.fv ge,iv 1,.fv a.enc] ⟨[],[]⟩) ge'
 h2:Bc (SS dt n 21 [.fv ge',.fv s.enc,iv 1] ⟨[],[]⟩) b.enc
 t3:Bc (SS dt n 24 [iv 3,.fv (.sl [a.enc,b.enc])] ⟨[],[]⟩) (Tm.mk 3 0 [a,b]).enc
 h3:Bc (SS dt n 23 [.fv ge,.fv (Tm.mk 3 0 [a,b]).enc,.fv r.enc,iv 4] ⟨[],[]⟩) (.tuple [f.enc,.bool p])
 t6:Bc (SS dt n 24 [iv 6,.fv (.sl [a.enc,b.enc])] ⟨[],[]⟩) (Tm.mk 6 0 [a,b]).enc
 h4:Bc (SS dt n 23 [.fv ge,.fv (Tm.mk 6 0 [a,b]).enc,.fv r.enc,iv 4] ⟨[],[]⟩) (.tuple [c.enc,.bool h])
 j1:Bc (SS dt n 17 [.fv f.enc] ⟨[],[]⟩) (.tuple [Xf.enc,.int .i64 e])
 j2:Bc (SS dt n 17 [.fv c.enc] ⟨[],[]⟩) (.tuple [Xc.enc,.int .i64 i])
 sh:Bc (SS dt n 25 [.fv f.enc,iv 1,iv 0] ⟨[],[]⟩) f1.enc
 v0:Bc (SS dt n 26 [iv 0] ⟨[],[]⟩) (Tm.mk 1 0 []).enc
 t5:Bc (SS dt n 24 [iv 5,.fv (.sl [f1.enc,(Tm.mk 1 0 []).enc])] ⟨[],[]⟩) (Tm.mk 5 0 [f1,.mk 1 0 []]).enc
 t4:Bc (SS dt n 24 [iv 4,.fv (.sl [a.enc,(Tm.mk 5 0 [f1,.mk 1 0 []]).enc])] ⟨[],[]⟩) U.enc
 j3:Bc (SS dt n 17 [.fv U.enc] ⟨[],[]⟩) (.tuple [Xu.enc,.int .i64 m])
 v1:Bc (SS dt n 15 [iv e] ⟨[],[]⟩) (.bool (decide (e=17) || decide (e=5)))
 v2:Bc (SS dt n 15 [iv i] ⟨[],[]⟩) (.bool (decide (i=17) || decide (i=5)))
 v3:Bc (SS dt n 15 [iv m] ⟨[],[]⟩) (.bool (decide (m=17) || decide (m=5)))
 c1:Bc (SS dt n 27 [.fv U.enc] ⟨[],[]⟩) (.int .i64 ck)
 e1:p=true→e=0→m=0→ck=0→Bc (SS dt n 16 [.fv f.enc,.fv U.enc] ⟨[],[]⟩) (.tuple [.bool true,.int .i64 0])
 he:e=0∨e=5∨e=17
 hi:i=0∨i=5∨i=17
 hm':m=0∨m=5∨m=17
set_option maxRecDepth 20000 in
set_option maxHeartbeats 16000000 in
theorem AsN {n:Nat} {le ge ge':FV} {r q s a b f c f1 U Xf Xc Xu:Tm} {p h:Bool} {e i m ck:Int} (C:EtaC n le ge ge' r q s a b f c f1 U Xf Xc Xu p h e i m ck) :
  SS dt (n+1) 5 [.fv le,.fv r.enc,.fv q.enc,.fv s.enc] ⟨[],[]⟩=TM ⟨[(5242880,FX r),(5242881,FX q),(5242882,FX s),(5249027,FX a),(5250053,FX b),(5251082,FX f),(5252106,FX c),(5253125,FX Xf),(5254149,FX Xc),(5255176,FX U),(5256197,FX Xu)],[]⟩ (.fv (.bool h)) (iv i) (SS dt n) (.ptr (.own 5252106) 0) (.ptr (.own 5249027) 0) (.ptr (.own 5250053) 0):=by
 obtain ⟨hk,hm,fr,fq,fs,hctx,h1,hmo,h2,t3,h3,t6,h4,j1,j2,sh,v0,t5,t4,j3,v1,v2,v3,c1,e1,he,hi,hm'⟩:=C;rw [c5];obtain ⟨or,nr,kr⟩:=r;obtain ⟨oq,nq,kq⟩:=q;obtain ⟨os,ns,ks⟩:=s;obtain ⟨oa,na,ka⟩:=a;obtain ⟨ob,nb,kb⟩:=b;obtain ⟨of,nf,kf⟩:=f;obtain ⟨oc,nc,kc⟩:=c;obtain ⟨of1,nf1,kf1⟩:=f1;obtain ⟨oU,nU,kU⟩:=U;obtain ⟨oXf,nXf,kXf⟩:=Xf;obtain ⟨oXc,nXc,kXc⟩:=Xc;obtain ⟨oXu,nXu,kXu⟩:=Xu;simp only [Ai,AwV,AwU] at fr fq fs h1 hmo h2 t3 h3 t6 h4 j1 j2 sh v0 t5 t4 j3 c1 e1 ⊢;simp (maxSteps:=2000000) only [Uz,S6,Ub,TD,T8,Rn,TS,R2,U0,U6,U2,Rb,S4,Sa,Tn,Uq,Sx,Uw,Sp,Uh,R9,RK,TW,Rk,U3,Tl,UU,TE,Sm,RB,RS,Rl,UK,Td,Uy,SD,S5,↓XX,XY,↓reduceIte,Nat.reduceBEq,Nat.reduceAdd,Int.reduceEq,Int.reduceLT,Int.reduceLE,↓Gl hk,↓Av hm,↓Av fr,↓Av fq,↓Av fs,↓Av hctx,↓AZ h1,↓AZ hmo,↓AZ h2,↓CY,↓Ag t3,↓AK h3,↓Ag t6,↓AK h4,↓Av j1,↓Av j2,↓AZ sh,↓Av v0,↓Ag t5,↓Ag t4,↓Av j3];clear hk hm fr fq fs hctx h1 hmo h2 t3 h3 t6 h4 j1 j2 sh v0 t5 t4 j3 v2 hi;cases p
 ·simp (maxSteps:=2000000) only [↓UU2,↓XX,XY,↓reduceIte,Nat.reduceBEq,Nat.reduceAdd,Int.reduceEq,Int.reduceLT,Int.reduceLE];rfl
 rcases he with rfl | he
 case inr =>
  rw [AjP he] at v1;simp (maxSteps:=2000000) only [↓UU2,↓XX,XY,↓reduceIte,Nat.reduceBEq,Nat.reduceAdd,Int.reduceEq,Int.reduceLT,Int.reduceLE,↓Av v1];rfl
 rw [Ak6 rfl] at v1;rcases hm' with rfl | hm'
 case inr =>
  rw [AjP hm'] at v3;simp (maxSteps:=2000000) only [↓UU2,↓XX,XY,↓reduceIte,Nat.reduceBEq,Nat.reduceAdd,Int.reduceEq,Int.reduceLT,Int.reduceLE,↓Av v1,↓Av v3];rfl
 rw [Ak6 rfl] at v3;by_cases z:ck=0
 ·have e1:=e1 rfl rfl rfl z;simp (maxSteps:=2000000) only [↓UU2,↓XX,XY,↓reduceIte,Nat.reduceBEq,Nat.reduceAdd,Int.reduceEq,Int.reduceLT,Int.reduceLE,↓Av v1,↓Av v3,↓Av c1,z,↓Ag e1];rfl
 ·simp (maxSteps:=2000000) only [↓UU2,↓XX,XY,↓reduceIte,Nat.reduceBEq,Nat.reduceAdd,Int.reduceEq,Int.reduceLT,Int.reduceLE,↓Av v1,↓Av v3,↓Av c1,z];rfl
structure EtaD (n:Nat) (a b c D Y:Tm) (h:Bool) (i kk:Int) (W:Nat):Prop where
 v2:Bc (SS dt n 15 [iv i] ⟨[],[]⟩) (.bool (decide (i=17) || decide (i=5)))
 hi:i=0∨i=5∨i=17
 sz:Bc (SS dt n 18 [.fv c.enc] ⟨[],[]⟩) (.int .i64 W)
 t6:Bc (SS dt n 24 [iv 6,.fv (.sl [a.enc,b.enc])] ⟨[],[]⟩) (Tm.mk 6 0 [a,b]).enc
 t8:Bc (SS dt n 24 [iv 8,.fv (.sl [c.enc])] ⟨[],[]⟩) (Tm.mk 8 0 [c]).enc
 t9:Bc (SS dt n 24 [iv 9,.fv (.sl [c.enc])] ⟨[],[]⟩) (Tm.mk 9 0 [c]).enc
 t7:Bc (SS dt n 24 [iv 7,.fv (.sl [(Tm.mk 6 0 [a,b]).enc,(Tm.mk 8 0 [c]).enc,(Tm.mk 9 0 [c]).enc])] ⟨[],[]⟩) D.enc
 j4:Bc (SS dt n 17 [.fv D.enc] ⟨[],[]⟩) (.tuple [Y.enc,.int .i64 kk])
 v4:Bc (SS dt n 15 [iv kk] ⟨[],[]⟩) (.bool (decide (kk=17) || decide (kk=5)))
 hk:kk=0∨kk=5∨kk=17
 e2:h=true→i=0→W<400→kk=0→Bc (SS dt n 16 [.fv c.enc,.fv D.enc] ⟨[],[]⟩) (.tuple [.bool true,.int .i64 0])
set_option maxRecDepth 20000 in
set_option maxHeartbeats 16000000 in
theorem ArS {n:Nat} {r q s a b f c U Xf Xc Xu D Y:Tm} {h:Bool} {i kk:Int} {W:Nat} (C:EtaD n a b c D Y h i kk W) :
  AjE (TM ⟨[(5242880,FX r),(5242881,FX q),(5242882,FX s),(5249027,FX a),(5250053,FX b),(5251082,FX f),(5252106,FX c),(5253125,FX Xf),(5254149,FX Xc),(5255176,FX U),(5256197,FX Xu)],[]⟩ (.fv (.bool h)) (iv i) (SS dt n) (.ptr (.own 5252106) 0) (.ptr (.own 5249027) 0) (.ptr (.own 5250053) 0)) (.bool true):=by
 obtain ⟨v2,hi,sz,t6,t8,t9,t7,j4,v4,hk,e2⟩:=C;obtain ⟨or,nr,kr⟩:=r;obtain ⟨oq,nq,kq⟩:=q;obtain ⟨os,ns,ks⟩:=s;obtain ⟨oa,na,ka⟩:=a;obtain ⟨ob,nb,kb⟩:=b;obtain ⟨of,nf,kf⟩:=f;obtain ⟨oc,nc,kc⟩:=c;obtain ⟨oU,nU,kU⟩:=U;obtain ⟨oXf,nXf,kXf⟩:=Xf;obtain ⟨oXc,nXc,kXc⟩:=Xc;obtain ⟨oXu,nXu,kXu⟩:=Xu;obtain ⟨oD,nD,kD⟩:=D;obtain ⟨oY,nY,kY⟩:=Y;simp only [Ai,AwV,AwU,FX,Tm.op,Tm.n,Tm.kids] at sz t6 t8 t9 t7 j4 e2 ⊢;cases h
 ·simp (maxSteps:=2000000) only [↓UU1,↓XX,XY,↓reduceIte,Nat.reduceBEq,Nat.reduceAdd,Int.reduceEq,Int.reduceLT,Int.reduceLE,↓AD,XD,heldB,AL,XE,P9];exact SG
 rcases hi with rfl | hi
 case inr =>
  rw [AjP hi] at v2;simp (maxSteps:=2000000) only [↓UU1,↓XX,XY,↓reduceIte,Nat.reduceBEq,Nat.reduceAdd,Int.reduceEq,Int.reduceLT,Int.reduceLE,↓AD,XD,heldB,AL,XE,P9,↓Av v2];exact SG
 rw [Ak6 rfl] at v2;by_cases hw:(W:Int)<400
 case neg =>
  simp (maxSteps:=2000000) only [↓UU1,↓XX,XY,↓reduceIte,Nat.reduceBEq,Nat.reduceAdd,Int.reduceEq,Int.reduceLT,Int.reduceLE,↓AD,XD,heldB,AL,XE,P9,↓Av v2,↓Av sz,hw];exact SG
 rcases hk with rfl | hk
 case inr =>
  rw [AjP hk] at v4;simp (maxSteps:=2000000) only [↓UU1,↓XX,XY,↓reduceIte,Nat.reduceBEq,Nat.reduceAdd,Int.reduceEq,Int.reduceLT,Int.reduceLE,↓AD,XD,heldB,AL,XE,P9,↓Av v2,↓Av sz,hw,↓CY,↓Im,↓Ec,↓Ag t6,↓Ag t8,↓Ag t9,↓Ag t7,↓Av j4,↓Av v4];exact SG
 rw [Ak6 rfl] at v4;have e2:=e2 rfl rfl (by omega) rfl;simp (maxSteps:=2000000) only [↓UU1,↓XX,XY,↓reduceIte,Nat.reduceBEq,Nat.reduceAdd,Int.reduceEq,Int.reduceLT,Int.reduceLE,↓AD,XD,heldB,AL,XE,P9,↓Av v2,↓Av sz,hw,↓CY,↓Im,↓Ec,↓Ag t6,↓Ag t8,↓Ag t9,↓Ag t7,↓Av j4,↓Av v4,↓Ag e2];exact SG
set_option maxRecDepth 20000 in
set_option maxHeartbeats 8000000 in
theorem AqJ {n:Nat} {le:FV} {r q s:Tm} {ml br bq bs:Bool} (hno:¬ (ml=true∧br=true∧bq=true∧bs=true)) (hk:Bc (SS dt n 10 [] ⟨[],[]⟩) (.bool true)) (hm:Bc (SS dt n 11 [.fv le] ⟨[],[]⟩) (.bool ml))
  (fr:Bc (SS dt n 12 [.fv r.enc] ⟨[],[]⟩) (.bool br)) (fq:Bc (SS dt n 12 [.fv q.enc] ⟨[],[]⟩) (.bool bq)) (fs:Bc (SS dt n 12 [.fv s.enc] ⟨[],[]⟩) (.bool bs)) :
  AjE (SS dt (n+1) 5 [.fv le,.fv r.enc,.fv q.enc,.fv s.enc] ⟨[],[]⟩) (.bool true):=by
 rw [c5];obtain ⟨o1,p1,k1⟩:=r;obtain ⟨o2,p2,k2⟩:=q;obtain ⟨o3,p3,k3⟩:=s;simp only [Ai] at fr fq fs ⊢;cases ml
 ·simp (maxSteps:=1000000) only [↓UU1,↓XX,XY,↓reduceIte,Nat.reduceBEq,Nat.reduceAdd,Int.reduceEq,Int.reduceLT,Int.reduceLE,↓Gl hk,↓Av hm];exact SG
 cases br
 ·simp (maxSteps:=1000000) only [↓UU1,↓XX,XY,↓reduceIte,Nat.reduceBEq,Nat.reduceAdd,Int.reduceEq,Int.reduceLT,Int.reduceLE,↓Gl hk,↓Av hm,↓Av fr];exact SG
 cases bq
 ·simp (maxSteps:=1000000) only [↓UU1,↓XX,XY,↓reduceIte,Nat.reduceBEq,Nat.reduceAdd,Int.reduceEq,Int.reduceLT,Int.reduceLE,↓Gl hk,↓Av hm,↓Av fr,↓Av fq];exact SG
 cases bs
 ·simp (maxSteps:=1000000) only [↓UU1,↓XX,XY,↓reduceIte,Nat.reduceBEq,Nat.reduceAdd,Int.reduceEq,Int.reduceLT,Int.reduceLE,↓Gl hk,↓Av hm,↓Av fr,↓Av fq,↓Av fs];exact SG
 exact absurd ⟨rfl,rfl,rfl,rfl⟩ hno
theorem Ahu {k:Nat} {a u:Tm} {e:Int} (h:e=0∧NOk k u∨(e=5∨e=17)∧u=.z):e=0∨e=5∨e=17:=by
 rcases h with ⟨h,_⟩ | ⟨h,_⟩
 ·exact .inl h
 ·exact .inr h
theorem Asx {a f:Tm} {k:Nat} (fsc:f.sc k) (asc:a.sc k) (h:k+2 * f.wt+1≤9000000000000000000):(uT a (f.shift 1 0)).sc k:=by
 have n1:(f.shift 1 0).sc (k+1):=by have:=CF f 1 0 k fsc (by omega);simpa using this
 exact B9 rfl (by decide) (Bs (by decide) (by decide) (by decide)) asc (B9 rfl (by decide) (Bs (by decide) (by decide) (by decide)) n1 (AhY (by decide) (by simp [Ae])))
theorem Ak2 {G:List Nat} {a f n U:Tm} {σ k g1 g2:Nat} (hf:HasT G f 4) (ha:HasT G a (10+σ)) (fsc:f.sc k) (asc:a.sc k) (hk:k≤1000) (hG:G.length≤1000) (hw:(uT a (f.shift 1 0)).wt≤3000) (h1:AI g1 f=some (n,0)) (hn:NOk k n) (h2:AI g2 (uT a (f.shift 1 0))=some (U,0)) (hU:NOk k U) :
  ∃N,∀m,N≤m→Bc (SS dt m 16 [.fv f.enc,.fv (uT a (f.shift 1 0)).enc] ⟨[],[]⟩) (.tuple [.bool true,.int .i64 0]):=by
 simp only [uT,Tm.wt,Tm.wtL,Cl] at hw;have usc:=Ad2 fsc asc (by omega);obtain ⟨M1,k1⟩:=Amf hf fsc (by omega) (by omega) h1;obtain ⟨M2,k2⟩:=Aov hf ha fsc asc hk hG (by omega) h2;have e:=Auq h1 fsc (by omega) hn usc hk h2;refine ⟨M1+M2+20002,fun m hm=>?_⟩;obtain ⟨m,rfl⟩:∃j,m=j+2:=⟨m - 2,by omega⟩;have q:=QU (k1 m (by omega)) (k2 m (by omega)) hn.sc hU.sc hk hn.wt hU.wt (by omega);rw [e,(IS n.eta n.eta).2 rfl] at q;exact q
theorem Akl {G:List Nat} {T c n U:Tm} {s k g1 g2:Nat} (hc:HasT G c s) (hT:T.good) (csc:c.sc k) (tsc:T.sc k) (hk:k≤1000) (hw:(Tm.mk 7 0 [T,.mk 8 0 [c],.mk 9 0 [c]]).wt≤3000) (h1:AI g1 c=some (n,0)) (hn:NOk k n) (h2:AI g2 (.mk 7 0 [T,.mk 8 0 [c],.mk 9 0 [c]])=some (U,0)) (hU:NOk k U) :
  ∃N,∀m,N≤m→Bc (SS dt m 16 [.fv c.enc,.fv (Tm.mk 7 0 [T,.mk 8 0 [c],.mk 9 0 [c]]).enc] ⟨[],[]⟩) (.tuple [.bool true,.int .i64 0]):=by
 have dsc:=Abu csc tsc;have hw':=hw;simp only [Tm.wt,Tm.wtL] at hw';obtain ⟨M1,k1⟩:=Amf hc csc (by omega) (by omega) h1;obtain ⟨F,hF⟩:=Ae3 hT (Hc hc k csc (by omega)) hw (G3 _ k dsc) h2;have k2:=fun n (hn:F+10000≤n)=>Pb (f:=F) (hF F (Nat.le_refl _)) (n:=n) (by omega) (by omega) (by omega);have e:=AtZ h1 csc hn dsc h2;refine ⟨M1+F+30002,fun m hm=>?_⟩;obtain ⟨m,rfl⟩:∃j,m=j+2:=⟨m - 2,by omega⟩;have q:=QU (k1 m (by omega)) (k2 m (by omega)) hn.sc hU.sc hk hn.wt hU.wt (by omega);rw [e,(IS n.eta n.eta).2 rfl] at q;exact q
set_option maxRecDepth 20000 in
set_option maxHeartbeats 8000000 in
theorem VK (l:List Tm) (hll:l.length≤9223372036854775807) (r q s:Tm):∃N,AjE (SS dt N 5 [.fv (.sl (l.map Tm.enc)),.fv r.enc,.fv q.enc,.fv s.enc] ⟨[],[]⟩) (.bool true):=by
 by_cases hb:Aha l=true∧decide (r.count 300<300)=true∧decide (q.count 300<300)=true∧decide (s.count 300<300)=true
 case neg =>
  obtain ⟨m,hm⟩:∃m,m=Tm.wtL l+r.wt+q.wt+s.wt+10000000000:=⟨_,rfl⟩;exact ⟨m+1+1,AqJ hb (PT (by omega)) (Abd l hll (by omega)) (JW r (by omega)) (JW q (by omega)) (JW s (by omega))⟩
 obtain ⟨b1,b2,b3,b4⟩:=hb;obtain ⟨g,⟨N0,hctx⟩,hg,hg4,hcg,_⟩:=WQ l hll;obtain ⟨G,hG⟩:=Ale hcg;have hGl:=hG.len;obtain ⟨hT6,_,_⟩:=PW 6 (by omega);obtain ⟨_,hG9,_⟩:=PW 9 (by omega);obtain ⟨a,⟨N1,h1⟩,ta⟩:=hT6 g q (AT (by omega) hg);have W5:Wg (6 - 1)=8192000:=rfl;have D5:Dg (6 - 1)=250:=rfl;have W9:Wg 9=2097152000:=rfl;have D9:Dg 9=290:=rfl;have aw:=AlX (t_6 ta.gr);have ad:=ta.dp;have asc:=ta.sc;have hg':GOk 9 (g++[(1,a)]):=CC hg asc (by omega) (by omega);obtain ⟨b,⟨N2,h2⟩,tb⟩:=hT6 (g++[(1,a)]) s (AT (by omega) hg');have bw:=AlX (t_6 tb.gr);have bd:=tb.dp;have bsc:b.sc (g.length+1):=by simpa using tb.sc
 have pisc:∀op:Int,op=3∨op=6→(Tm.mk op 0 [a,b]).sc g.length:=by
  rintro op (rfl | rfl)
  ·exact B9 rfl (by decide) (Bs (by decide) (by decide) (by decide)) asc bsc
  ·exact B9 rfl (by decide) (Bs (by decide) (by decide) (by decide)) asc bsc
 have aok:∀op:Int,op=3∨op=6→AOk g.length (.mk op 0 [a,b]):=fun op ho=>⟨pisc op ho,by simp only [Tm.wt,Tm.wtL];omega,by simp only [Tm.dp,Tm.dpL];omega⟩;obtain ⟨f,p,⟨N3,h3⟩,tf⟩:=hG9 g (.mk 3 0 [a,b]) r (AT (by omega) hg) (aok 3 (.inl rfl));obtain ⟨c,h,⟨N4,h4⟩,tc⟩:=hG9 g (.mk 6 0 [a,b]) r (AT (by omega) hg) (aok 6 (.inr rfl));have fw:=tf.wt;have fd:=tf.dp;have fsc:=tf.sc;have cw:=tc.wt;have cd:=tc.dp;have csc:=tc.sc;obtain ⟨σ,hσ,haT⟩:=(We ta.gr G hG).1 rfl;have g1:=Hh hG haT (QI _ g.length asc (by omega));obtain ⟨τ,hτ,hbT⟩:=(We tb.gr _ g1).1 rfl;have hfT:=fun hp:p=true=>(We (tf.gr hp) G hG).2.1 rfl 4 (ht2 (.piT σ τ hσ hτ) haT hbT);have sgT:HasT G (.mk 6 0 [a,b]) (10+5):=ht2 (.sigT σ τ hσ hτ) haT hbT;have hcT:=fun hp:h=true=>(We (tc.gr hp) G hG).2.1 rfl 5 sgT;obtain ⟨nf,e,⟨N5,j1⟩,q1,gf,hgf⟩:=FZ (k:=g.length) (by omega) fsc (by omega);obtain ⟨nc,i,⟨N6,j2⟩,q2,gc,hgc⟩:=FZ (k:=g.length) (by omega) csc (by omega);have usc:=Asx fsc asc (by omega);obtain ⟨nu,m,⟨N7,j3⟩,q3,gu,hgu⟩:=FZ (k:=g.length) (by omega) usc (by simp only [uT,Tm.dp,Tm.dpL,Fc];omega);have dsc:=Abu csc (pisc 6 (.inr rfl));obtain ⟨nd,kk,⟨N8,j4⟩,q4,gd,hgd⟩:=FZ (k:=g.length) (by omega) dsc (by simp only [Tm.dp,Tm.dpL];omega);have E1:∃N,∀n,N≤n→(p=true→e=0→m=0→((uT a (f.shift 1 0)).chk 0 1).2=0→Bc (SS dt n 16 [.fv f.enc,.fv (uT a (f.shift 1 0)).enc] ⟨[],[]⟩) (.tuple [.bool true,.int .i64 0])):=by
  by_cases hh:p=true∧e=0∧m=0∧((uT a (f.shift 1 0)).chk 0 1).2=0
  ·obtain ⟨rfl,rfl,rfl,hc⟩:=hh;obtain ⟨N,hN⟩:=Ak2 (hfT rfl) haT fsc asc (by omega) (by omega) (Anb hc).1 hgf (q1.resolve_right (by omega)).2 hgu (q3.resolve_right (by omega)).2;exact ⟨N,fun n hn _ _ _ _=>hN n hn⟩
  ·exact ⟨0,fun n _ a1 a2 a3 a4=>absurd ⟨a1,a2,a3,a4⟩ hh⟩
 have E2:∃N,∀n,N≤n→(h=true→i=0→c.wt<400→kk=0→Bc (SS dt n 16 [.fv c.enc,.fv (Tm.mk 7 0 [.mk 6 0 [a,b],.mk 8 0 [c],.mk 9 0 [c]]).enc] ⟨[],[]⟩) (.tuple [.bool true,.int .i64 0])):=by
  by_cases hh:h=true∧i=0∧c.wt<400∧kk=0
  ·obtain ⟨rfl,rfl,hcw,rfl⟩:=hh;obtain ⟨N,hN⟩:=Akl (hcT rfl) (Hc sgT g.length (pisc 6 (.inr rfl)) (by simp only [Tm.wt,Tm.wtL];omega)) csc (pisc 6 (.inr rfl)) (by omega) (by simp only [Tm.wt,Tm.wtL];omega) hgc (q2.resolve_right (by omega)).2 hgd (q4.resolve_right (by omega)).2;exact ⟨N,fun n hn _ _ _ _=>hN n hn⟩
  ·exact ⟨0,fun n _ a1 a2 a3 a4=>absurd ⟨a1,a2,a3,a4⟩ hh⟩
 obtain ⟨M1,hM1⟩:=E1;obtain ⟨M2,hM2⟩:=E2;obtain ⟨n,hn⟩:∃n,n=N0+N1+N2+N3+N4+N5+N6+N7+N8+M1+M2+Tm.wtL l+r.wt+q.wt+s.wt+100000000000:=⟨_,rfl⟩;obtain ⟨n',hn'⟩:∃n',n=n'+1:=⟨n - 1,by omega⟩;have hm:=Abd l hll (n:=n) (by omega);have fr:=JW (n:=n') r (by omega);have fq:=JW (n:=n') q (by omega);have fs:=JW (n:=n') s (by omega);rw [b1] at hm;rw [b2] at fr;rw [b3] at fq;rw [b4] at fs;rw [← hn'] at fr fq fs;have h0:0<n:=by omega
 have hz:∀(op:Int) (l:List Tm),Bc (SS dt n 24 [iv op,.fv (.sl (l.map Tm.enc))] ⟨[],[]⟩) (Tm.mk op 0 l).enc:=fun op l=>C6 h0 op l;have C:EtaC n (.sl (l.map Tm.enc)) (Bm g) (Bm (g++[(1,a)])) r q s a b f c (f.shift 1 0) (uT a (f.shift 1 0)) nf nc nu p h e i m ((uT a (f.shift 1 0)).chk 0 1).2 :=
  ⟨PT (by omega),hm,fr,fq,fs,hctx n (by omega),h1 n (by omega),C1 g 1 a (by omega) h0,h2 n (by omega),hz 3 [a,b],h3 n (by omega),hz 6 [a,b],h4 n (by omega),j1 n (by omega),j2 n (by omega),
   CW n f 1 0 (by omega) (Fm f _ fsc) (by omega) (by omega),AjN h0 0,hz 5 [f.shift 1 0,.mk 1 0 []],hz 4 [a,.mk 5 0 [f.shift 1 0,.mk 1 0 []]],j3 n (by omega),Ij h0 e,Ij h0 i,Ij h0 m,
   AgX _ (by simp only [uT,Tm.wt,Tm.wtL,Cl];omega),hM1 n (by omega),Ahu (a:=a) q1,Ahu (a:=a) q2,Ahu (a:=a) q3⟩
 refine ⟨n+1,?_⟩;rw [AsN C];exact ArS ⟨Ij h0 i,Ahu (a:=a) q2,Agz n c (by omega) (by omega),hz 6 [a,b],hz 8 [c],hz 9 [c],hz 7 [.mk 6 0 [a,b],.mk 8 0 [c],.mk 9 0 [c]],j4 n (by omega),Ij h0 kk,Ahu (a:=a) q4,hM2 n (by omega)⟩
end Idl
end Go.Proofs.Ytaifgaidaglblaa

/-
  Texts of a proof, part 12: an ideal semantics of the program, its functions in shallow form, contracts of them. No statement of the seat is proved here.
-/
import Derived.Test.YtkfecngimlcfoaaStagePlainK11
set_option linter.all false
noncomputable section
namespace Go.Proofs.Ytkfecngimlcfoaa
namespace Idl
def UV (op:Int) (k:List RV):Prop:=(op=30→∀k0,k[0]?=some k0→k0.op≠19)∧(op=19→∀k0,k[0]?=some k0→k0.op≠30)∧(op=13→∀k3,k[3]?=some k3→k3.op≠11∧k3.op≠12)
def AfM (op:Int) (k:List Tm):Prop:=(op=30→∀k0,k[0]?=some k0→k0.op≠19)∧(op=19→∀k0,k[0]?=some k0→k0.op≠30)∧(op=13→∀k3,k[3]?=some k3→k3.op≠11∧k3.op≠12)
inductive VT (G0:List Nat):List Nat→RV→Nat→Prop
 | var (L:List Nat) (n:Int) (s:Nat) (env:List RV) (b:Tm) (h:0≤n∧L[n.toNat]?=some s∨n<0∧G0[(-1 - n).toNat]?=some s) (hs:s<10):VT G0 L (.mk 1 n [] env b) s
 | node (L:List Nat) (op n:Int) (k env:List RV) (b:Tm) (s:Nat) (sg:Lv) (D:Nat→List Nat) (hr:Rule op s sg) (hl:k.length=sg.length) (hst:UV op k)
   (hk:∀(i:Nat) v s',k[i]?=some v→sg[i]?=some ([],s')→VT G0 L v s')
   (hc:∀(i:Nat) (v:RV) bs s',k[i]?=some v→sg[i]?=some (bs,s')→bs≠[]→(D i).length=v.env.length∧HasT (bs++(D i++G0)) v.b s')
   (he:∀(i:Nat) (v:RV) bs s' (j:Nat) x y,k[i]?=some v→sg[i]?=some (bs,s')→bs≠[]→v.env.reverse[j]?=some x→(D i)[j]?=some y→VT G0 L x y):VT G0 L (.mk op n k env b) s
structure NodeT (G0 L:List Nat) (op:Int) (k:List RV) (s:Nat) (sg:Lv) (D:Nat→List Nat):Prop where
 hr:Rule op s sg
 hl:k.length=sg.length
 hk:∀(i:Nat) v s',k[i]?=some v→sg[i]?=some ([],s')→VT G0 L v s'
 hc:∀(i:Nat) (v:RV) bs s',k[i]?=some v→sg[i]?=some (bs,s')→bs≠[]→(D i).length=v.env.length∧HasT (bs++(D i++G0)) v.b s'
 he:∀(i:Nat) (v:RV) bs s' (j:Nat) x y,k[i]?=some v→sg[i]?=some (bs,s')→bs≠[]→v.env.reverse[j]?=some x→(D i)[j]?=some y→VT G0 L x y
theorem Mz {G0 L:List Nat} {op n:Int} {k:List RV} {s:Nat} {sg:Lv} {D:Nat→List Nat} (h:NodeT G0 L op k s sg D) (hst:UV op k):VT G0 L (.node op n k) s :=
 .node _ _ _ _ _ _ _ _ _ h.hr h.hl hst h.hk h.hc h.he
theorem Va {G0 L:List Nat} {v:RV} {s:Nat} (h:VT G0 L v s) (h1:v.op≠1):UV v.op v.k∧∃sg D,NodeT G0 L v.op v.k s sg D:=by
 cases h with
 | var=>exact absurd rfl h1
 | node op n k env b s sg D hr hl hst hk hc he=>exact ⟨hst,sg,D,hr,hl,hk,hc,he⟩
theorem Ah5 {G0 L:List Nat} {v:RV} {s:Nat} (h:VT G0 L v s):∀M,VT G0 (L++M) v s:=by
 induction h with
 | var n s env b h hs =>
  intro M;refine .var _ _ _ _ _ ?_ hs;rcases h with ⟨h1,h2⟩ | h
  ·exact .inl ⟨h1,by rw [List.getElem?_append_left (List.getElem?_eq_some_iff.1 h2).1];exact h2⟩
  ·exact .inr h
 | node op n k env b s sg D hr hl hst hk hc he ihk ihe =>
  intro M;exact .node _ _ _ _ _ _ _ sg D hr hl hst (fun i v s' a b=>ihk i v s' a b M) hc (fun i v bs s' j x y a b c d e=>ihe i v bs s' j x y a b c d e M)
def R3 (G0 L:List Nat) (env:List RV) (D:List Nat):Prop:=D.length=env.length∧∀(j:Nat) x y,env.reverse[j]?=some x→D[j]?=some y→VT G0 L x y
theorem To {G0 L D bs:List Nat} {env l:List RV} (h:R3 G0 L env D) (hl:bs.length=l.length) (hx:∀(j:Nat) x y,l.reverse[j]?=some x→bs[j]?=some y→VT G0 L x y):R3 G0 L (env++l) (bs++D):=by
 refine ⟨by simp only [List.length_append,h.1,hl];omega,?_⟩;intro j x y h1 h2;rw [List.reverse_append] at h1;by_cases hj:j<bs.length
 ·rw [List.getElem?_append_left (by rw [List.length_reverse];omega)] at h1;rw [List.getElem?_append_left hj] at h2;exact hx j x y h1 h2
 ·rw [List.getElem?_append_right (by rw [List.length_reverse];omega),List.length_reverse] at h1;rw [List.getElem?_append_right (by omega),hl] at h2;exact h.2 _ x y h1 h2
theorem WF {ev:Int→Int→Tm→Option (RV×Int×Int)} {G0 L D:List Nat} {env:List RV} (hev:∀s t v s' σ,ev s 0 t=some (v,s',0)→HasT (D++G0) t σ→VT G0 L v σ) (herr:∀s e t v s',ev s e t=some (v,s',0)→e=0) (op:Int) :
  ∀(l:List Tm) (i:Nat) (sg:Lv) (s:Int) (vs:List RV) (s':Int),A0 ev op env i l s 0=some (vs,s',0)→l.length=sg.length→(∀(j:Nat) bs s1,sg[j]?=some (bs,s1)→bs.length=Am op (i+j)) →
   (∀(j:Nat) t bs s1,l[j]?=some t→sg[j]?=some (bs,s1)→HasT (bs++(D++G0)) t s1) →
   vs.length=l.length∧∀(j:Nat) (v:RV) bs s1,vs[j]?=some v→sg[j]?=some (bs,s1)→(bs=[]→VT G0 L v s1)∧(bs≠[]→v.env=env∧HasT (bs++(D++G0)) v.b s1)
 | [],i,sg,s,vs,s',h,hl,hb,ht=>by
  simp only [A0,Axa,Axb] at h;obtain ⟨rfl,_,_⟩:=h;exact ⟨rfl,fun j v bs s1 h=>by simp at h⟩
 | t::l,i,[],s,vs,s',h,hl,hb,ht=>by simp at hl
 | t::l,i,(b0,σ0)::sg,s,vs,s',h,hl,hb,ht=>by
  have hb0:=hb 0 b0 σ0 rfl;have ht0:=ht 0 t b0 σ0 rfl rfl;rw [Nat.add_zero] at hb0;have next:=fun (s:Int) (vs:List RV) (h:A0 ev op env (i+1) l s 0=some (vs,s',0))=>WF hev herr op l (i+1) sg s vs s' h (by simpa using hl) (fun j bs s1 hj=>by rw [hb (j+1) bs s1 (by simpa using hj)];congr 1;omega) (fun j t bs s1 h1 h2=>ht (j+1) t bs s1 (by simpa using h1) (by simpa using h2));simp only [A0] at h;by_cases hc:0<Am op i
  ·rw [if_pos hc] at h;cases hk:A0 ev op env (i+1) l s 0 with
   | none=>rw [hk] at h;cases h
   | some q =>
    obtain ⟨us,s2,e2⟩:=q;rw [hk] at h;simp only [Axd,Axa,Axb] at h;obtain ⟨rfl,rfl,rfl⟩:=h;obtain ⟨n1,n2⟩:=next s us hk;refine ⟨by simp [n1],?_⟩;intro j v bs s1 h1 h2;cases j with
    | zero =>
     simp only [List.getElem?_cons_zero,Axa,Axb] at h1 h2;obtain ⟨rfl,rfl⟩:=h2;subst h1;exact ⟨fun h=>by rw [h] at hb0;simp at hb0;omega,fun _=>⟨rfl,ht0⟩⟩
    | succ j =>
     simp only [List.getElem?_cons_succ] at h1 h2;exact n2 j v bs s1 h1 h2
  ·rw [if_neg hc] at h;have hbe:b0=[]:=List.eq_nil_of_length_eq_zero (by omega);subst hbe;split at h
   ·cases h
   rename_i v0 s1 e1 hv;cases hk:A0 ev op env (i+1) l s1 e1 with
   | none=>rw [hk] at h;cases h
   | some q =>
    obtain ⟨us,s2,e2⟩:=q;rw [hk] at h;simp only [Axd,Axa,Axb] at h;obtain ⟨rfl,rfl,rfl⟩:=h;have he1:=Hz ev herr op env l _ _ _ _ _ hk;subst he1;obtain ⟨n1,n2⟩:=next s1 us hk;refine ⟨by simp [n1],?_⟩;intro j v bs s3 h1 h2;cases j with
    | zero =>
     simp only [List.getElem?_cons_zero,Axa,Axb] at h1 h2;obtain ⟨rfl,rfl⟩:=h2;subst h1;exact ⟨fun _=>hev _ _ _ _ _ hv (by simpa using ht0),fun h=>absurd rfl h⟩
    | succ j =>
     simp only [List.getElem?_cons_succ] at h1 h2;exact n2 j v bs s3 h1 h2
theorem JC {f:Nat} {s:Int} {op n:Int} {ks:List Tm} {env:List RV} {v:RV} {s':Int} (h:AE (f+1) s 0 (.mk op n ks) env=some (v,s',0)) (h1:op≠1) :
  ∃vs s1,A0 (fun s e t=>AE f s e t env) op env 0 ks s 0=some (vs,s1,0)∧headR f s1 0 (.node op n vs)=some (v,s',0):=by
 rw [AE] at h;rw [if_neg (by simp)] at h;split at h
 ·cases h
 first | rw [if_neg h1] at h | skip
 split at h
 ·cases h
 split at h
 ·cases h
 split at h
 ·cases h
 rename_i vs s1 e1 hk;have he:=HB h;subst he;exact ⟨vs,s1,hk,h⟩
theorem NH {f:Nat} {s:Int} {op n:Int} {k:List RV} {v:RV} {s':Int} (h:headR f s 0 (.node op n k)=some (v,s',0)) (h0:¬ (op=5∨op=8∨op=9∨op=13∨op=19∨op=30)):v=.node op n k∧s'=s:=by
 cases f with
 | zero=>rw [headR] at h;cases h
 | succ f =>
  rw [headR] at h;rw [if_neg (by simp)] at h;split at h
  ·cases h
  have hop:(RV.node op n k).op=op:=rfl;rw [hop,if_neg (by omega),if_neg (by omega),if_neg (by omega),if_neg (by omega),if_neg (by omega)] at h;simp only [Axa,Axb] at h;exact ⟨h.1.symm,h.2.1.symm⟩
theorem LC {f:Nat} {G0 L D:List Nat} {env:List RV} (ih:∀s t v s' σ,AE f s 0 t env=some (v,s',0)→HasT (D++G0) t σ→VT G0 L v σ) (henv:R3 G0 L env D) {op:Int} {ks:List Tm} {σ:Nat} {sg:Lv} {s s1:Int} {vs:List RV}
  (hr:Rule op σ sg) (hl:ks.length=sg.length) (hk:∀(i:Nat) t bs s',ks[i]?=some t→sg[i]?=some (bs,s')→HasT (bs++(D++G0)) t s') (h:A0 (fun s e t=>AE f s e t env) op env 0 ks s 0=some (vs,s1,0)):NodeT G0 L op vs σ sg (fun _=>D):=by
 obtain ⟨n1,n2⟩:=WF (G0:=G0) (L:=L) (D:=D) ih (fun s e t v s' h=>Cr h) op ks 0 sg s vs s1 h hl (fun j bs s1 hj=>by rw [Nat.zero_add];exact (GN hr hj).1) hk;refine ⟨hr,by rw [n1];exact hl,?_,?_,?_⟩
 ·intro i v s' a b;exact (n2 i v [] s' a b).1 rfl
 ·intro i v bs s' a b c;obtain ⟨q1,q2⟩:=(n2 i v bs s' a b).2 c;exact ⟨by rw [q1];exact henv.1,q2⟩
 ·intro i v bs s' j x y a b c d e;obtain ⟨q1,q2⟩:=(n2 i v bs s' a b).2 c;rw [q1] at d;exact henv.2 j x y d e
theorem AeO {f:Nat} {s n m:Int} {va x:RV} {env:List RV} {b:Tm} {v:RV} {s':Int} (h:headR (f+1) s 0 (.node 5 n [.node 4 m [va,.clo env b],x])=some (v,s',0)):AE f (s+1) 0 b (env++[x])=some (v,s',0):=by
 rw [headR,if_neg (by simp)] at h;by_cases hs:s<0∨1000000<s
 ·rw [if_pos hs] at h;cases h
 rw [if_neg hs,if_pos (show RV.op (.node 5 n [.node 4 m [va,.clo env b],x])=5 from rfl)] at h
 simp only [RV.node,RV.k,List.getElem?_cons_zero] at h;rw [if_pos (show RV.op (.mk 4 m [va,.clo env b] [] .z)=4 from rfl)] at h
 by_cases h1:s+1≤1000
 ·rw [if_pos h1] at h;simp only [List.getElem?_cons_zero,List.getElem?_cons_succ] at h;rw [show (RV.clo env b).env=env from rfl,show (RV.clo env b).b=b from rfl] at h
  by_cases h2:900000<env.length
  ·rw [if_pos h2] at h;cases h
  ·rw [if_neg h2] at h;exact h
 ·rw [if_neg h1] at h;simp at h
theorem AcG {f:Nat} {s op n m:Int} {ws:List RV} {v:RV} {s':Int} (ho:op=8∨op=9) (h:headR (f+1) s 0 (.node op n [.node 7 m ws])=some (v,s',0)):ws[(1+op - 8).toNat]?=some v:=by
 rw [headR,if_neg (by simp)] at h;by_cases hs:s<0∨1000000<s
 ·rw [if_pos hs] at h;cases h
 have hop:RV.op (.node op n [.node 7 m ws])=op:=rfl;rw [if_neg hs,hop,if_neg (by omega),if_pos ho] at h;simp only [RV.node,RV.k,List.getElem?_cons_zero] at h;rw [if_pos (show RV.op (.mk 7 m ws [] .z)=7 from rfl)] at h
 by_cases h1:s+1≤1000
 ·rw [if_pos h1] at h;cases hw:ws[(1+op - 8).toNat]? with
  | none=>rw [hw] at h;cases h
  | some w =>
   rw [hw] at h;simp only [Axd,Axa,Axb] at h;rw [h.1]
 ·rw [if_neg h1] at h;simp at h
theorem Aee {f:Nat} {s n:Int} {k0 v:RV} {s':Int} (h:headR (f+1) s 0 (.node 30 n [k0])=some (v,s',0)):k0.op=19∧k0.k[0]?=some v∨k0.op≠19∧v=.node 30 n [k0]:=by
 rw [headR,if_neg (by simp)] at h;by_cases hs:s<0∨1000000<s
 ·rw [if_pos hs] at h;cases h
 have hop:RV.op (.node 30 n [k0])=30:=rfl;rw [if_neg hs,hop,if_neg (by decide),if_neg (by decide),if_pos rfl,show RV.k (.node 30 n [k0])=[k0] from rfl] at h
 simp only [List.getElem?_cons_zero] at h;by_cases h0:k0.op=19
 ·rw [if_pos h0] at h;by_cases h1:s+1≤1000
  ·rw [if_pos h1] at h;cases hw:k0.k[0]? with
   | none=>rw [hw] at h;cases h
   | some w =>
    rw [hw] at h;simp only [Axd,Axa,Axb] at h;rw [← h.1];exact .inl ⟨h0,rfl⟩
  ·rw [if_neg h1] at h;simp at h
 ·rw [if_neg h0] at h;simp only [Axa,Axb] at h;exact .inr ⟨h0,h.1.symm⟩
theorem AdW {f:Nat} {s n:Int} {k0 v:RV} {s':Int} (h:headR (f+1) s 0 (.node 19 n [k0])=some (v,s',0)):k0.op=30∧k0.k[0]?=some v∨k0.op≠30∧v=.node 19 n [k0]:=by
 rw [headR,if_neg (by simp)] at h;by_cases hs:s<0∨1000000<s
 ·rw [if_pos hs] at h;cases h
 have hop:RV.op (.node 19 n [k0])=19:=rfl;rw [if_neg hs,hop,if_neg (by decide),if_neg (by decide),if_neg (by decide),if_pos rfl,show RV.k (.node 19 n [k0])=[k0] from rfl] at h
 simp only [List.getElem?_cons_zero] at h;by_cases h0:k0.op=30
 ·rw [if_pos h0] at h;by_cases h1:s+1≤1000
  ·rw [if_pos h1] at h;cases hw:k0.k[0]? with
   | none=>rw [hw] at h;cases h
   | some w =>
    rw [hw] at h;simp only [Axd,Axa,Axb] at h;rw [← h.1];exact .inl ⟨h0,rfl⟩
  ·rw [if_neg h1] at h;simp at h
 ·rw [if_neg h0] at h;simp only [Axa,Axb] at h;exact .inr ⟨h0,h.1.symm⟩
theorem Ae3 {f:Nat} {s n:Int} {k0 k1 k2 k3 v:RV} {s':Int} (h:headR (f+1) s 0 (.node 13 n [k0,k1,k2,k3])=some (v,s',0)) :
  k3.op=11∧v=k1∨k3.op=12∧(∃x w s1,k3.k[0]?=some x∧headR f (s+1) 0 (.node 13 0 [k0,k1,k2,x])=some (w,s1,0)∧AE f s1 0 k2.b (k2.env++[x,w])=some (v,s',0))∨(k3.op≠11∧k3.op≠12)∧v=.node 13 n [k0,k1,k2,k3]:=by
 rw [headR,if_neg (by simp)] at h;by_cases hs:s<0∨1000000<s
 ·rw [if_pos hs] at h;cases h
 have hop:RV.op (.node 13 n [k0,k1,k2,k3])=13:=rfl;have hk:RV.k (.node 13 n [k0,k1,k2,k3])=[k0,k1,k2,k3]:=rfl;rw [if_neg hs,hop,if_neg (by decide),if_neg (by decide),if_neg (by decide),if_neg (by decide),if_pos rfl,hk] at h;simp only [List.getElem?_cons_zero,List.getElem?_cons_succ] at h;by_cases h11:k3.op=11
 ·rw [if_pos h11] at h;by_cases h1:s+1≤1000
  ·rw [if_pos h1] at h;simp only [Axa,Axb] at h;exact .inl ⟨h11,h.1.symm⟩
  ·rw [if_neg h1] at h;simp at h
 rw [if_neg h11] at h;by_cases h12:k3.op=12
 ·rw [if_pos h12] at h;by_cases h1:s+1≤1000
  ·rw [if_pos h1] at h;cases hx:k3.k[0]? with
   | none=>rw [hx] at h;cases h
   | some x =>
    rw [hx] at h;simp only at h;cases hw:headR f (s+1) 0 (.node 13 0 [k0,k1,k2,x]) with
    | none=>rw [hw] at h;cases h
    | some q =>
     obtain ⟨w,s1,e1⟩:=q;rw [hw] at h;simp only at h;by_cases h2:900000<k2.env.length
     ·rw [if_pos h2] at h;cases h
     ·rw [if_neg h2] at h;have he:=Cr h;subst he;exact .inr (.inl ⟨h12,x,w,s1,rfl,hw,h⟩)
  ·rw [if_neg h1] at h;simp at h
 ·rw [if_neg h12] at h;simp only [Axa,Axb] at h;exact .inr (.inr ⟨⟨h11,h12⟩,h.1.symm⟩)
theorem AkX {f:Nat} {s n:Int} {ks:List Tm} {env:List RV} {v:RV} {s':Int} (h:AE (f+1) s 0 (.mk 1 n ks) env=some (v,s',0)) (h0:0≤n):(n<env.length∧env.reverse[n.toNat]?=some v∨¬ n<env.length∧v=.var (env.length - 1 - n))∧s'=s:=by
 rw [AE,if_neg (by simp)] at h;by_cases h9:900000<env.length
 ·rw [if_pos h9] at h;cases h
 rw [if_neg h9,if_pos rfl] at h;by_cases hm:n<env.length
 ·rw [if_pos hm,if_pos h0] at h;cases hx:env[((env.length:Int) - 1 - n).toNat]? with
  | none=>rw [hx] at h;cases h
  | some x =>
   rw [hx] at h;simp only [Axd,Axa,Axb] at h;obtain ⟨rfl,rfl,_⟩:=h;refine ⟨.inl ⟨hm,?_⟩,rfl⟩;rw [List.getElem?_reverse (by omega),show env.length - 1 - n.toNat=((env.length:Int) - 1 - n).toNat by omega]
   exact hx
 ·rw [if_neg hm] at h;by_cases h4:n≤4611686018427387904
  ·rw [if_pos h4] at h;simp only [Axa,Axb] at h;exact ⟨.inr ⟨hm,h.1.symm⟩,h.2.1.symm⟩
  ·rw [if_neg h4] at h;cases h
theorem Aih {f:Nat} {s n m:Int} {a b x:Tm} {env:List RV} {v:RV} {s':Int} (h:AE (f+1) s 0 (.mk 5 n [.mk 4 m [a,b],x]) env=some (v,s',0)):∃f' s1 s2 vx,f'≤f∧AE f s1 0 x env=some (vx,s2,0)∧AE f' (s2+1) 0 b (env++[vx])=some (v,s',0):=by
 obtain ⟨vs,s2,h1,h2⟩:=JC h (by decide);simp only [A0] at h1;rw [if_neg (by decide)] at h1;cases hv0:AE f s 0 (.mk 4 m [a,b]) env with
 | none=>rw [hv0] at h1;cases h1
 | some q =>
  obtain ⟨v0,s3,e3⟩:=q;rw [hv0] at h1;simp only at h1;rw [if_neg (by decide)] at h1;cases hv1:AE f s3 e3 x env with
  | none=>rw [hv1] at h1;cases h1
  | some q =>
   obtain ⟨v1,s4,e4⟩:=q;rw [hv1] at h1;simp only [Axd,Axa,Axb] at h1;obtain ⟨rfl,rfl,rfl⟩:=h1;have e3:=Cr hv1;subst e3;obtain ⟨va,rfl⟩:=Y3 hv0;cases f with
   | zero=>rw [headR] at h2;cases h2
   | succ f=>exact ⟨f,s3,s4,v1,by omega,hv1,AeO h2⟩
theorem TS {f:Nat} {s op n m:Int} {a x y:Tm} {env:List RV} {v:RV} {s':Int} (ho:op=8∨op=9) (h:AE (f+1) s 0 (.mk op n [.mk 7 m [a,x,y]]) env=some (v,s',0)):∃f' ws s1,f'≤f∧A0 (fun s e t=>AE f' s e t env) 7 env 0 [a,x,y] s 0=some (ws,s1,0)∧ws[(1+op - 8).toNat]?=some v:=by
 obtain ⟨vs,s2,h1,h2⟩:=JC h (by omega);have hb:Am op 0=0:=by rcases ho with rfl | rfl<;>rfl
 simp only [A0] at h1;rw [if_neg (by omega)] at h1;cases hv0:AE f s 0 (.mk 7 m [a,x,y]) env with
 | none=>rw [hv0] at h1;cases h1
 | some q =>
  obtain ⟨v0,s3,e3⟩:=q;rw [hv0] at h1;simp only [Axd,Axa,Axb] at h1;obtain ⟨rfl,rfl,rfl⟩:=h1;cases f with
  | zero=>rw [headR] at h2;cases h2
  | succ f =>
   obtain ⟨ws,s4,q1,q2⟩:=JC hv0 (by decide);obtain ⟨rfl,rfl⟩:=NH q2 (by decide);exact ⟨f,ws,s3,by omega,q1,AcG ho h2⟩
theorem Aeh {f:Nat} {s nd u d:Int} {v:RV} {t:Tm} {s' nd':Int} (h:AV (f+1) s nd 0 v u d=some (t,s',nd',0)) :
  v.op=1∧t=.mk 1 (u - 1 - v.n) []∨v.op≠1∧∃ts,Bc (fun s nd e k u=>AV f s nd e k u (d+1)) f v.op u 0 v.k s (nd+1) 0=some (ts,s',nd',0)∧t=.mk v.op v.n ts:=by
 rw [AV] at h;by_cases hb:nd<0∨1000000<nd∨u<0∨1000000<u∨d<0∨1000000<d∨v.n < -2305843009213693952∨2305843009213693952<v.n∨f≤v.k.length∨900000<v.k.length∨f≤3
 ·rw [if_pos hb] at h;cases h
 rw [if_neg hb] at h;by_cases h3:(0:Int)=0∧(3000<nd+1∨120<d)
 ·rw [if_pos h3,if_pos (by decide)] at h;simp at h
 rw [if_neg h3,if_neg (by simp)] at h;by_cases h1:v.op=1
 ·rw [if_pos h1] at h;simp only [Axa,Axb] at h;exact .inl ⟨h1,h.1.symm⟩
 ·rw [if_neg h1] at h;cases hrk:Bc (fun s nd e k u=>AV f s nd e k u (d+1)) f v.op u 0 v.k s (nd+1) 0 with
  | none=>rw [hrk] at h;cases h
  | some q =>
   obtain ⟨ts,s1,nd1,e1⟩:=q;rw [hrk] at h;simp only [Axd,Axa,Axb] at h;obtain ⟨rfl,rfl,rfl,rfl⟩:=h;exact .inr ⟨h1,ts,rfl,rfl⟩
def EvT (G0 L:List Nat) (f:Nat):Prop:=∀s t env v s' D σ,AE f s 0 t env=some (v,s',0)→HasT (D++G0) t σ→R3 G0 L env D→VT G0 L v σ
def HdT (G0 L:List Nat) (f:Nat):Prop:=∀s op n k v s' σ sg D,headR f s 0 (.node op n k)=some (v,s',0)→NodeT G0 L op k σ sg D→VT G0 L v σ
theorem Ao8 {G0 L D:List Nat} {env:List RV} (h:R3 G0 L env D) {x:RV} {y:Nat} (hx:VT G0 L x y):R3 G0 L (env++[x]) (y::D):=by
 refine To (bs:=[y]) h rfl ?_;intro j x' y' a b;cases j with
 | zero =>
  simp only [List.reverse_cons,List.reverse_nil,List.nil_append,List.getElem?_cons_zero,Axa] at a b;subst a b;exact hx
 | succ j=>simp at a
theorem AuB {G0 L D:List Nat} {env:List RV} (h:R3 G0 L env D) {x w:RV} {y z:Nat} (hx:VT G0 L x y) (hw:VT G0 L w z):R3 G0 L (env++[x,w]) (z::y::D):=by
 have:=Ao8 (Ao8 h hx) hw
 rw [List.append_assoc] at this;exact this
theorem AmZ {G:List Nat} {a x y:Tm} {s0 s1 s2:Nat} (ha:HasT G a s0) (hx:HasT G x s1) (hy:HasT G y s2):∀(i:Nat) t bs s',[a,x,y][i]?=some t→[(([]:List Nat),s0),([],s1),([],s2)][i]?=some (bs,s')→HasT (bs++G) t s':=by
 intro i t bs s' a1 a2
 match i with
 | 0=>simp at a1 a2;obtain ⟨rfl,rfl⟩:=a2;subst a1;exact ha
 | 1=>simp at a1 a2;obtain ⟨rfl,rfl⟩:=a2;subst a1;exact hx
 | 2=>simp at a1 a2;obtain ⟨rfl,rfl⟩:=a2;subst a1;exact hy
 | i+3=>simp at a1
theorem As9 {G0 L:List Nat} {f:Nat} (ihE:∀g,g≤f→EvT G0 L g) (ihH:HdT G0 L f):EvT G0 L (f+1):=by
 intro s t env v s' D σ h ht henv;generalize hG:D++G0=G at ht;cases ht with
 | var _ n _ h0 hg hs =>
  subst hG;rcases (AkX h h0).1 with ⟨h1,h2⟩ | ⟨h1,rfl⟩
  ·refine henv.2 n.toNat v σ h2 ?_;rw [List.getElem?_append_left (by have:=henv.1;omega)] at hg;exact hg
  ·refine .var _ _ _ _ _ (.inr ⟨by omega,?_⟩) hs;rw [List.getElem?_append_right (by have:=henv.1;omega),henv.1] at hg;rw [show (-1 - ((env.length:Int) - 1 - n)).toNat=n.toNat - env.length by omega]
   exact hg
 | node _ op n ks _ sg hr hl hk =>
  subst hG;obtain ⟨vs,s1,h1,h2⟩:=JC h (El hr).1;exact ihH _ _ _ _ _ _ _ _ _ h2 (LC (fun s t v s' σ a b=>ihE f (Nat.le_refl _) s t env v s' D σ a b henv) henv hr hl hk h1)
 | app _ n m a b x y _ s1 hs hy ha hb hx =>
  subst hG;obtain ⟨f',s1,s2,vx,hf,h1,h2⟩:=Aih h;exact ihE f' hf _ _ _ _ _ (y::D) σ h2 hb (Ao8 henv (ihE f (Nat.le_refl _) _ _ _ _ _ D y h1 hx henv))
 | fst _ n m a x y _ s1 s0 hs ha hx hy =>
  subst hG;obtain ⟨f',ws,s2,hf,h1,h2⟩:=TS (.inl rfl) h;have hn:=LC (fun s t v s' σ a b=>ihE f' hf s t env v s' D σ a b henv) henv (Rule.pair s0 σ s1) rfl (AmZ ha hx hy) h1;exact hn.hk 1 v σ h2 rfl
 | snd _ n m a x y _ s1 s0 hs ha hx hy =>
  subst hG;obtain ⟨f',ws,s2,hf,h1,h2⟩:=TS (.inr rfl) h;have hn:=LC (fun s t v s' σ a b=>ihE f' hf s t env v s' D σ a b henv) henv (Rule.pair s0 s1 σ) rfl (AmZ ha hx hy) h1;exact hn.hk 2 v σ h2 rfl
theorem AgU {G0 L:List Nat} {k0 k1 k2 k3 x:RV} {σ s0:Nat} {D:Nat→List Nat} (hn:NodeT G0 L 13 [k0,k1,k2,k3] σ [([0],s0),([],σ),([σ,0],σ),([],0)] D) (hx:VT G0 L x 0):NodeT G0 L 13 [k0,k1,k2,x] σ [([0],s0),([],σ),([σ,0],σ),([],0)] D:=by
 refine ⟨hn.hr,rfl,?_,?_,?_⟩
 ·intro i v s' a b
  match i with
  | 0=>exact hn.hk 0 v s' a b
  | 1=>exact hn.hk 1 v s' a b
  | 2=>exact hn.hk 2 v s' a b
  | 3 =>
   simp at a b;subst a b;exact hx
  | i+4=>simp at a
 ·intro i v bs s' a b c
  match i with
  | 0=>exact hn.hc 0 v bs s' a b c
  | 1=>exact hn.hc 1 v bs s' a b c
  | 2=>exact hn.hc 2 v bs s' a b c
  | 3=>simp at b;exact absurd b.1 c
  | i+4=>simp at a
 ·intro i v bs s' j x' y' a b c d e
  match i with
  | 0=>exact hn.he 0 v bs s' j x' y' a b c d e
  | 1=>exact hn.he 1 v bs s' j x' y' a b c d e
  | 2=>exact hn.he 2 v bs s' j x' y' a b c d e
  | 3=>simp at b;exact absurd b.1 c
  | i+4=>simp at a
theorem ArM {G0 L:List Nat} {f:Nat} (ihE:EvT G0 L f) (ihH:HdT G0 L f):HdT G0 L (f+1):=by
 intro s op n k v s' σ sg D h hn;obtain ⟨o1,o5,o8,o9⟩:=El hn.hr;by_cases h30:op=30
 ·subst h30;have hr:=hn.hr;cases hr;obtain ⟨k0,rfl⟩:=FN hn.hl;have hk0:=hn.hk 0 k0 3 rfl rfl;rcases Aee h with ⟨h19,hx⟩ | ⟨h19,rfl⟩
  ·obtain ⟨_,sg2,D2,hn2⟩:=Va hk0 (by omega);rw [h19] at hn2;have hr2:=hn2.hr;cases hr2;exact hn2.hk 0 v 6 hx rfl
  ·refine Mz hn ⟨fun _ k1 hk1=>?_,by omega,by omega⟩;simp only [List.getElem?_cons_zero,Axa] at hk1;subst hk1;exact h19
 by_cases h19:op=19
 ·subst h19;have hr:=hn.hr;cases hr;obtain ⟨k0,rfl⟩:=FN hn.hl;have hk0:=hn.hk 0 k0 6 rfl rfl;rcases AdW h with ⟨h19,hx⟩ | ⟨h19,rfl⟩
  ·obtain ⟨_,sg2,D2,hn2⟩:=Va hk0 (by omega);rw [h19] at hn2;have hr2:=hn2.hr;cases hr2;exact hn2.hk 0 v 3 hx rfl
  ·refine Mz hn ⟨by omega,fun _ k1 hk1=>?_,by omega⟩;simp only [List.getElem?_cons_zero,Axa] at hk1;subst hk1;exact h19
 by_cases h13:op=13
 ·subst h13;have hr:=hn.hr;cases hr with
  | recR _ s0 hs =>
  obtain ⟨k0,k1,k2,k3,rfl⟩:=Ux hn.hl;have hk1:=hn.hk 1 k1 σ rfl rfl;have hk3:=hn.hk 3 k3 0 rfl rfl;have hc2:=hn.hc 2 k2 [σ,0] σ rfl rfl (by simp);have he2:=fun (j:Nat) x y=>hn.he 2 k2 [σ,0] σ j x y rfl rfl (by simp);rcases Ae3 h with ⟨h11,rfl⟩ | ⟨h12,x,w,s1,hx,hw,hv⟩ | ⟨h3,rfl⟩
  ·exact hk1
  ·obtain ⟨_,sg2,D2,hn2⟩:=Va hk3 (by omega);rw [h12] at hn2;have hr2:=hn2.hr;cases hr2;have hxv:=hn2.hk 0 x 0 hx rfl;have hwv:=ihH _ _ _ _ _ _ _ _ _ hw (AgU hn hxv);exact ihE _ _ _ _ _ (σ::0::D 2) σ hv hc2.2 (AuB ⟨hc2.1,he2⟩ hxv hwv)
  ·refine Mz hn ⟨by omega,by omega,fun _ q hq=>?_⟩;simp at hq;subst hq;exact h3
 obtain ⟨rfl,_⟩:=NH h (by omega);exact Mz hn ⟨by omega,by omega,by omega⟩
theorem AbC (G0 L:List Nat):∀f,EvT G0 L f∧HdT G0 L f:=by
 intro f
 induction f using Nat.strongRecOn with
 | _ f ih =>
 cases f with
 | zero=>exact ⟨(by intro s t env v s' D σ h;rw [AE] at h;cases h),(by intro s op n k v s' σ sg D h;rw [headR] at h;cases h)⟩
 | succ f=>exact ⟨As9 (fun g hg=>(ih g (by omega)).1) (ih f (by omega)).2,ArM (ih f (by omega)).1 (ih f (by omega)).2⟩
inductive NfT:List Nat→Tm→Nat→Prop
 | var (G:List Nat) (n:Int) (s:Nat) (h0:0≤n) (h:G[n.toNat]?=some s) (hs:s<10):NfT G (.mk 1 n []) s
 | node (G:List Nat) (op n:Int) (ks:List Tm) (s:Nat) (sg:Lv) (hr:Rule op s sg) (hl:ks.length=sg.length) (hst:AfM op ks) (hk:∀(i:Nat) t bs s',ks[i]?=some t→sg[i]?=some (bs,s')→NfT (bs++G) t s'):NfT G (.mk op n ks) s
theorem JD {G:List Nat} {t:Tm} {s:Nat} (h:NfT G t s):HasT G t s:=by
 induction h with
 | var G n s h0 h hs=>exact .var _ _ _ h0 h hs
 | node G op n ks s sg hr hl hst hk ih=>exact .node _ _ _ _ _ sg hr hl ih
theorem PA {rd:Int→Int→Int→RV→Int→Option (Tm×Int×Int×Int)} {f:Nat} (herr:∀s nd e v u t s' nd',rd s nd e v u=some (t,s',nd',0)→e=0) (op u:Int) :
  ∀(l:List RV) (i:Nat) (s nd e:Int) (ts:List Tm) (s' nd':Int),Bc rd f op u i l s nd e=some (ts,s',nd',0)→ts.length=l.length∧∀(j:Nat) k t,l[j]?=some k→ts[j]?=some t →
   ∃s1 nd1 k' s2 nd2,((0<Am op (i+j)→∃s0,AE f s0 0 k.b (k.env++FK u (Am op (i+j)))=some (k',s1,0))∧(Am op (i+j)=0→k'=k))∧rd s1 nd1 0 k' (u+Am op (i+j))=some (t,s2,nd2,0)
 | [],i,s,nd,e,ts,s',nd',h=>by
  simp only [Bc,Axa,Axb] at h;obtain ⟨rfl,_⟩:=h;exact ⟨rfl,fun j k t h=>by simp at h⟩
 | k::l,i,s,nd,e,ts,s',nd',h=>by
  simp only [Bc] at h;split at h
  ·cases h
  rename_i k' s1 e1 hk;split at h
  ·cases h
  rename_i t s2 nd2 e2 ht;cases hr:Bc rd f op u (i+1) l s2 nd2 e2 with
  | none=>rw [hr] at h;cases h
  | some q =>
   obtain ⟨us,s3,nd3,e3⟩:=q;rw [hr] at h;simp only [Axd,Axa,Axb] at h;obtain ⟨rfl,rfl,rfl,rfl⟩:=h;have he2:e2=0:=by
    cases l with
    | nil=>simp only [Bc,Axa,Axb] at hr;exact hr.2.2.2
    | cons k2 l2 =>
     simp only [Bc] at hr;split at hr
     ·cases hr
     rename_i k2' s5 e5 hk2;split at hr
     ·cases hr
     rename_i t2 s6 nd6 e6 ht2;cases hr2:Bc rd f op u (i+1+1) l2 s6 nd6 e6 with
     | none=>rw [hr2] at hr;cases hr
     | some q =>
      obtain ⟨ws,s7,nd7,e7⟩:=q;rw [hr2] at hr;simp only [Axd,Axa,Axb] at hr;obtain ⟨_,_,_,rfl⟩:=hr;have h6:e6=0:=readK_err herr op u l2 _ _ _ _ _ _ _ hr2;subst h6;have h5:=herr _ _ _ _ _ _ _ _ ht2;subst h5;split at hk2
      ·split at hk2
       ·cases hk2
       exact Cr hk2
      ·simp only [Axa,Axb] at hk2;exact hk2.2.2
   subst he2;have he1:=herr _ _ _ _ _ _ _ _ ht;subst he1;obtain ⟨n1,n2⟩:=PA herr op u l (i+1) s2 nd2 0 us s3 nd3 hr;refine ⟨by simp [n1],?_⟩;intro j k2 t2 a b;cases j with
   | zero =>
    simp only [List.getElem?_cons_zero,Axa] at a b;subst a b;rw [Nat.add_zero];refine ⟨s1,nd,k',s2,nd2,⟨fun hb=>?_,fun hb=>?_⟩,ht⟩
    ·rw [if_pos hb] at hk;split at hk
     ·cases hk
     have:=Cr hk
     subst this;exact ⟨s,hk⟩
    ·rw [if_neg (by omega)] at hk;simp only [Axa,Axb] at hk;exact hk.1.symm
   | succ j =>
    simp only [List.getElem?_cons_succ] at a b
    have:=n2 j k2 t2 a b
    rw [show i+1+j=i+(j+1) by omega] at this
    exact this
where
 readK_err {rd:Int→Int→Int→RV→Int→Option (Tm×Int×Int×Int)} {f:Nat} (herr:∀s nd e v u t s' nd',rd s nd e v u=some (t,s',nd',0)→e=0) (op u:Int) :
   ∀(l:List RV) (i:Nat) (s nd e:Int) (ts:List Tm) (s' nd':Int),Bc rd f op u i l s nd e=some (ts,s',nd',0)→e=0
  | [],i,s,nd,e,ts,s',nd',h=>by
   simp only [Bc,Axa,Axb] at h;exact h.2.2.2
  | k::l,i,s,nd,e,ts,s',nd',hr=>by
   simp only [Bc] at hr;split at hr
   ·cases hr
   rename_i k2' s5 e5 hk2;split at hr
   ·cases hr
   rename_i t2 s6 nd6 e6 ht2;cases hr2:Bc rd f op u (i+1) l s6 nd6 e6 with
   | none=>rw [hr2] at hr;cases hr
   | some q =>
    obtain ⟨ws,s7,nd7,e7⟩:=q;rw [hr2] at hr;simp only [Axd,Axa,Axb] at hr;obtain ⟨_,_,_,rfl⟩:=hr;have h6:e6=0:=readK_err herr op u l _ _ _ _ _ _ _ hr2;subst h6;have h5:=herr _ _ _ _ _ _ _ _ ht2;subst h5;split at hk2
    ·split at hk2
     ·cases hk2
     exact Cr hk2
    ·simp only [Axa,Axb] at hk2;exact hk2.2.2
theorem QV (u:Int) (b j:Nat) (h:j<b):(FK u b)[j]?=some (.var (u+j)):=by
 simp [FK,h]
theorem Ai5 (u:Int) (b j:Nat) {x:RV} (h:(FK u b).reverse[j]?=some x):j<b∧x=.var (u+((b - 1 - j:Nat):Int)):=by
 have hj:j<b:=by
  have:=(List.getElem?_eq_some_iff.1 h).1
  rw [List.length_reverse,Cp] at this;exact this
 rw [List.getElem?_reverse (by rw [Cp];exact hj),Cp,QV _ _ _ (by omega),Axa] at h;exact ⟨hj,h.symm⟩
theorem Ah7 (G0:List Nat):∀(f:Nat) (L:List Nat) (s nd:Int) (v:RV) (d:Int) (t:Tm) (s' nd':Int) (σ:Nat),AV f s nd 0 v L.length d=some (t,s',nd',0)→VT G0 L v σ→NfT (L.reverse++G0) t σ∧t.op=v.op:=by
 intro f
 induction f with
 | zero=>intro L s nd v d t s' nd' σ h;rw [AV] at h;cases h
 | succ f ih =>
  intro L s nd v d t s' nd' σ h hv;have hri:=Aeh h;cases hv with
  | var n _ env b h1 hs =>
   rcases hri with ⟨_,rfl⟩ | ⟨hne,_⟩
   case inr=>exact absurd rfl hne
   refine ⟨.var _ _ _ ?_ ?_ hs,rfl⟩
   ·rcases h1 with ⟨h1,h2⟩ | ⟨h1,h2⟩
    ·have:=(List.getElem?_eq_some_iff.1 h2).1
     simp only [RV.n];omega
    ·simp only [RV.n];omega
   ·simp only [RV.n];rcases h1 with ⟨h1,h2⟩ | ⟨h1,h2⟩
    ·have hlt:=(List.getElem?_eq_some_iff.1 h2).1;rw [List.getElem?_append_left (by rw [List.length_reverse];omega),List.getElem?_reverse (by omega)];rw [show L.length - 1 - ((L.length:Int) - 1 - n).toNat=n.toNat by omega]
     exact h2
    ·rw [List.getElem?_append_right (by rw [List.length_reverse];omega),List.length_reverse];rw [show ((L.length:Int) - 1 - n).toNat - L.length=(-1 - n).toNat by omega]
     exact h2
  | node op n k env b _ sg D hr hl hst hk hc he =>
   rcases hri with ⟨he1,_⟩ | ⟨_,ts,hrk,rfl⟩
   case inl=>exact absurd he1 (El hr).1
   ·simp only [RV.op,RV.n,RV.k] at hrk ⊢;obtain ⟨n1,n2⟩:=PA (fun s nd e v u t s' nd' h=>Hw h) op L.length k 0 s (nd+1) 0 ts s' nd' hrk;have key:∀(i:Nat) t bs s',ts[i]?=some t→sg[i]?=some (bs,s')→NfT (bs++(L.reverse++G0)) t s'∧(bs=[]→∀kv,k[i]?=some kv→t.op=kv.op):=by
     intro i t bs s' a b;have hi:i<k.length:=by rw [← n1];exact (List.getElem?_eq_some_iff.1 a).1
     have hki:=List.getElem?_eq_getElem hi;obtain ⟨q1,q2,k',q3,q4,⟨q5,q6⟩,q7⟩:=n2 i _ t hki a;rw [Nat.zero_add] at q5 q6 q7;have hbn:=(GN hr b).1;cases bs with
     | nil =>
      simp only [List.length_nil] at hbn;rw [← hbn] at q6 q7
      have:=q6 rfl
      subst this;simp only [Int.ofNat_zero,Int.add_zero] at q7;have hv:=hk i _ s' hki b;have h3:=ih L _ _ _ _ _ _ _ _ q7 hv;refine ⟨by simpa using h3.1,fun _ kv hkv=>?_⟩;rw [hki,Axa] at hkv;rw [← hkv];exact h3.2
     | cons b0 bs =>
      have hlb:=hbn;rw [Axe] at hbn;obtain ⟨s0,hev⟩:=q5 (by omega);obtain ⟨c1,c2⟩:=hc i _ _ s' hki b (by simp);have henv:R3 G0 (L++(b0::bs).reverse) (k[i].env++FK L.length (Am op i)) ((b0::bs)++D i):=by
       refine To ⟨c1,fun j x y p q=>Ah5 (he i _ _ s' j x y hki b (by simp) p q) _⟩ (by rw [Cp];exact hlb) ?_;intro j x y p q;obtain ⟨hj,rfl⟩:=Ai5 _ _ _ p;have hjl:j<(b0::bs).length:=by rw [hlb];exact hj
       refine .var _ _ _ _ _ (.inl ⟨by omega,?_⟩) ?_
       ·rw [show ((L.length:Int)+((Am op i - 1 - j:Nat):Int)).toNat=L.length+(Am op i - 1 - j) by omega]
        rw [List.getElem?_append_right (by omega),Nat.add_sub_cancel_left,← hlb,List.getElem?_reverse (by omega)];rw [show (b0::bs).length - 1 - ((b0::bs).length - 1 - j)=j by omega]
        exact q
       ·exact (GN hr b).2 y (List.mem_of_getElem? q)
      have hvt:=(AbC G0 (L++(b0::bs).reverse) f).1 _ _ _ _ _ _ _ hev (by rw [List.append_assoc];exact c2) henv;rw [← hlb] at q7;have hlen:((L.length:Int)+((b0::bs).length:Int))=((L++(b0::bs).reverse).length:Int):=by
       rw [List.length_append,List.length_reverse];omega
      rw [hlen] at q7;have h3:=ih _ _ _ _ _ _ _ _ _ q7 hvt;refine ⟨?_,fun h=>by cases h⟩
      have:=h3.1
      rw [List.reverse_append,List.reverse_reverse,List.append_assoc] at this;exact this
    refine ⟨.node _ _ _ _ _ sg hr (by rw [n1];exact hl) ?_ (fun i t bs s' a b=>(key i t bs s' a b).1),rfl⟩;refine ⟨fun ho k0 hk0=>?_,fun ho k0 hk0=>?_,fun ho k3 hk3=>?_⟩
    ·subst ho;cases hr;obtain ⟨w,hw⟩:=FN hl
     have:=(key 0 k0 [] 3 hk0 rfl).2 rfl w (by rw [hw];rfl)
     rw [this];exact hst.1 rfl w (by rw [hw];rfl)
    ·subst ho;cases hr;obtain ⟨w,hw⟩:=FN hl
     have:=(key 0 k0 [] 6 hk0 rfl).2 rfl w (by rw [hw];rfl)
     rw [this];exact hst.2.1 rfl w (by rw [hw];rfl)
    ·subst ho;cases hr;obtain ⟨w0,w1,w2,w3,hw⟩:=Ux hl
     have:=(key 3 k3 [] 0 hk3 rfl).2 rfl w3 (by rw [hw];rfl)
     rw [this];exact hst.2.2 rfl w3 (by rw [hw];rfl)
theorem Gz {f:Nat} {t u:Tm} {G:List Nat} {s:Nat} (h:A5 f t=some (u,0)) (ht:HasT G t s):NfT G u s:=by
 rw [A5] at h;split at h
 ·cases h
 rename_i v s1 e1 he;split at h
 ·cases h
 rename_i w s2 nd2 e2 hr;simp only [Axa] at h;by_cases h2:e2=0
 ·subst h2;rw [if_neg (by simp)] at h;simp only [Axb,and_true] at h;subst h;have h1:=Hw hr;subst h1;have hv:=(AbC G [] f).1 0 t [] v s1 [] s he ht ⟨rfl,fun j x y a=>by simp at a⟩
  have:=Ah7 G f [] s1 0 v 1 w s2 nd2 s hr hv
  simpa using this.1
 ·rw [if_pos h2] at h;simp only [Axb] at h;exact absurd h.2 h2
def Arq (op:Int) (ks:List Tm):Prop:=AfM op ks∧(op=5→∀k0,ks[0]?=some k0→k0.op≠4)∧(op=8∨op=9→∀k0,ks[0]?=some k0→k0.op≠7)
mutual
def Tm.stl:Tm→Prop
 | .mk op _ ks=>Arq op ks∧Tm.stlL ks
def Tm.stlL:List Tm→Prop
 | []=>True
 | t::l=>t.stl∧Tm.stlL l
end
theorem Abq:∀{l:List Tm},(∀(i:Nat) t,l[i]?=some t→t.stl)→Tm.stlL l
 | [],_=>by rw [Tm.stlL];trivial
 | x::l,h=>by
  rw [Tm.stlL];exact ⟨h 0 x rfl,Abq fun i t hi=>h (i+1) t (by simpa using hi)⟩
theorem M6:∀{l:List Tm} {t:Tm},Tm.stlL l→t∈l→t.stl
 | x::l,t,h,hm=>by
  rw [Tm.stlL] at h;rcases List.mem_cons.1 hm with rfl | hm
  ·exact h.1
  ·exact M6 h.2 hm
theorem Ak8 {G:List Nat} {t:Tm} {s:Nat} (h:NfT G t s):t.stl:=by
 induction h with
 | var G n s h0 h hs =>
  rw [Tm.stl,Tm.stlL];exact ⟨⟨⟨by omega,by omega,by omega⟩,by omega,by omega⟩,trivial⟩
 | node G op n ks s sg hr hl hst hk ih =>
  rw [Tm.stl];obtain ⟨o1,o5,o8,o9⟩:=El hr;refine ⟨⟨hst,fun h=>absurd h o5,by omega⟩,Abq fun i t hi=>?_⟩
  have:i<sg.length:=by rw [← hl];exact (List.getElem?_eq_some_iff.1 hi).1
  exact ih i t _ _ hi (List.getElem?_eq_getElem this)
mutual
def Tm.val:Tm→Nat→RV
 | .mk op n ks,u=>if op=1 then .var ((u:Int) - 1 - n) else .node op n (Tm.valL op 0 ks u)
def Tm.valL:Int→Nat→List Tm→Nat→List RV
 | _,_,[],_=>[]
 | op,i,t::l,u=>(if 0<Am op i then .clo (FK 0 u) t else t.val u)::Tm.valL op (i+1) l u
end
theorem MO (t:Tm) (u:Nat):(t.val u).op=t.op:=by
 obtain ⟨op,n,ks⟩:=t;rw [Tm.val];split
 ·rename_i h;subst h;rfl
 ·rfl
theorem TY (op:Int) (u:Nat):∀(l:List Tm) (i:Nat),(Tm.valL op i l u).length=l.length
 | [],_=>rfl
 | t::l,i=>by simp only [Tm.valL,Axe,TY op u l]
theorem SM (op:Int) (u:Nat):∀(l:List Tm) (i j:Nat),(Tm.valL op i l u)[j]?=(l[j]?).map fun t=>if 0<Am op (i+j) then .clo (FK 0 u) t else t.val u
 | [],_,_=>by simp [Tm.valL]
 | t::l,i,0=>by simp [Tm.valL]
 | t::l,i,j+1=>by
  simp only [Tm.valL,List.getElem?_cons_succ];rw [SM op u l (i+1) j,show i+1+j=i+(j+1) by omega]
theorem Afz {s:Int} (h0:0≤s) (h1:s≤1000000) {op n:Int} {ks:List Tm} (har:ar op=some ks.length) (hst:Arq op ks) (u:Nat):headR 1 s 0 (.node op n (Tm.valL op 0 ks u))=some (.node op n (Tm.valL op 0 ks u),s,0):=by
 obtain ⟨⟨a1,a2,a3⟩,a4,a5⟩:=hst;have kid:∀(j:Nat) k,ks[j]?=some k→Am op j=0→(Tm.valL op 0 ks u)[j]?=some (k.val u):=by
  intro j k hk hb;rw [SM,hk,Nat.zero_add,hb];rfl
 rw [headR,if_neg (by simp),if_neg (by omega)];have hop:(RV.node op n (Tm.valL op 0 ks u)).op=op:=rfl;have hk:(RV.node op n (Tm.valL op 0 ks u)).k=Tm.valL op 0 ks u:=rfl;rw [hop,hk];by_cases h5:op=5
 ·subst h5;obtain ⟨x,y,rfl⟩:=AiG (Option.some.inj har.symm:ks.length=2);rw [if_pos rfl,kid 0 x rfl rfl];simp only;rw [if_neg (by rw [MO];exact a4 rfl x rfl)]
 rw [if_neg h5];by_cases h89:op=8∨op=9
 ·have hl:ks.length=1:=by
   rcases h89 with rfl | rfl<;>exact (Option.some.inj har.symm)
  obtain ⟨x,rfl⟩:=FN hl;rw [if_pos h89,kid 0 x rfl (by rcases h89 with rfl | rfl<;>rfl)];simp only;rw [if_neg (by rw [MO];exact a5 h89 x rfl)]
 rw [if_neg h89];by_cases h30:op=30
 ·subst h30;obtain ⟨x,rfl⟩:=FN (Option.some.inj har.symm:ks.length=1);rw [if_pos rfl,kid 0 x rfl rfl];simp only;rw [if_neg (by rw [MO];exact a1 rfl x rfl)]
 rw [if_neg h30];by_cases h19:op=19
 ·subst h19;obtain ⟨x,rfl⟩:=FN (Option.some.inj har.symm:ks.length=1);rw [if_pos rfl,kid 0 x rfl rfl];simp only;rw [if_neg (by rw [MO];exact a2 rfl x rfl)]
 rw [if_neg h19];by_cases h13:op=13
 ·subst h13;obtain ⟨x,y,z,w,rfl⟩:=Ux (Option.some.inj har.symm:ks.length=4);rw [if_pos rfl];have q:=a3 rfl w rfl;simp only [Tm.valL,List.getElem?_cons_zero,List.getElem?_cons_succ,show Am 13 0=1 from rfl,show Am 13 (0+1)=0 from rfl,show Am 13 (0+1+1)=2 from rfl,show Am 13 (0+1+1+1)=0 from rfl,Nat.lt_irrefl,if_false,MO]
  rw [if_neg q.1,if_neg q.2]
 rw [if_neg h13]
theorem O3 {s:Int} {env:List RV} {u:Nat} (henv:env=FK 0 u) (op:Int):∀(l:List Tm) (i:Nat),(∀(j:Nat) t,l[j]?=some t→Am op (i+j)=0→∃f,AE f s 0 t env=some (t.val u,s,0))→∃f,A0 (fun s e t=>AE f s e t env) op env i l s 0=some (Tm.valL op i l u,s,0)
 | [],i,_=>⟨0,rfl⟩
 | t::l,i,h=>by
  obtain ⟨f,hf⟩:=O3 henv op l (i+1) (fun j t a b=>h (j+1) t (by simpa using a) (by rw [← b];congr 1;omega));by_cases hb:0<Am op i
  ·refine ⟨f,?_⟩;rw [A0,if_pos hb,hf,Tm.valL,if_pos hb,henv];rfl
  ·obtain ⟨g,hg⟩:=h 0 t rfl (by rw [Nat.add_zero];omega);refine ⟨f+g,?_⟩;rw [A0,if_neg hb];simp only [Cf (show g≤f+g by omega) hg]
   rw [CY (ev:=fun s e t=>AE f s e t env) (fun s e t r h=>Cf (by omega) h) op env l (i+1) s 0 _ hf,Tm.valL,if_neg hb];rfl
theorem O6 {s:Int} (h0:0≤s) (h1:s≤1000000) (k0:Nat):∀(m:Nat) (t:Tm) (u:Nat),t.wt<m→t.stl→t.sc (k0+u)→k0+u+2 * t.wt≤900000→∃f,AE f s 0 t (FK 0 u)=some (t.val u,s,0):=by
 intro m
 induction m with
 | zero=>intro t u h;omega
 | succ m ih =>
  intro t u hw hst hsc hb;obtain ⟨op,n,ks⟩:=t;rw [Tm.stl] at hst;rw [Tm.sc] at hsc;simp only [Tm.wt] at hw hb;by_cases h1o:op=1
  ·subst h1o;rw [if_pos rfl] at hsc;refine ⟨1,?_⟩;rw [AE,if_neg (by simp),if_neg (by rw [Cp];omega),if_pos rfl,Tm.val,if_pos rfl,Cp];by_cases hn:n<u
   ·rw [if_pos hn,if_pos hsc.2.1.1,QV _ _ _ (by omega)];simp only [Axd,Axa,Axb,and_true];congr 1;omega
   ·rw [if_neg hn,if_pos (by omega)]
  ·rw [if_neg h1o] at hsc;obtain ⟨f,hf⟩:=O3 (s:=s) (u:=u) rfl op ks 0 (fun j t a b=>by
    rw [Nat.zero_add] at b;have hwt:=Jo a
    have:=Lq hsc.2.2 a
    rw [Nat.zero_add,b,Nat.add_zero] at this;exact ih t u (by omega) (M6 hst.2 (List.mem_of_getElem? a)) this (by omega))
   have har:=SU hsc.1;refine ⟨f+10+1,?_⟩;rw [AE,if_neg (by simp),if_neg (by rw [Cp];omega),if_neg h1o,if_neg (by omega),if_neg (by omega)];rw [CY (ev:=fun s e t=>AE f s e t (FK 0 u)) (fun s e t r h=>Cf (by omega) h) op (FK 0 u) ks 0 s 0 _ hf];simp only;rw [PX (show 1≤f+10 by omega) (Afz h0 h1 hsc.1 hst.1 u),Tm.val,if_neg h1o]
theorem Aiu (u b:Nat):FK 0 u++FK (u:Int) b=FK 0 (u+b):=by
 induction b with
 | zero=>simp [FK]
 | succ b ih =>
  rw [K3,← List.append_assoc,ih,← Nat.add_assoc,K3];congr 2;simp
theorem Nv {s:Int} {u:Nat} {d:Int} (op:Int):∀(l:List Tm) (i:Nat) (nd:Int),0≤nd→u≤800000 →
  (∀(j:Nat) t,l[j]?=some t→∀nd:Int,0≤nd→nd+t.wt≤3000→∃f,(0<Am op (i+j)→AE f s 0 t (FK 0 (u+Am op (i+j)))=some (t.val (u+Am op (i+j)),s,0))∧AV f s nd 0 (t.val (u+Am op (i+j))) ((u:Int)+Am op (i+j)) d=some (t,s,nd+t.wt,0)) →
  nd+Tm.wtL l≤3000→∃f,Bc (fun s nd e k u=>AV f s nd e k u d) f op u i (Tm.valL op i l u) s nd 0=some (l,s,nd+Tm.wtL l,0)
 | [],i,nd,_,_,_,_=>⟨0,by simp [Tm.valL,Bc,Tm.wtL]⟩
 | t::l,i,nd,hnd,hu,h,hw=>by
  simp only [Tm.wtL] at hw;obtain ⟨g,hg1,hg2⟩:=h 0 t rfl nd hnd (by omega);rw [Nat.add_zero] at hg1 hg2;obtain ⟨f,hf⟩:=Nv (s:=s) (u:=u) (d:=d) op l (i+1) (nd+t.wt) (by omega) hu (fun j t a nd b c=>by
   obtain ⟨f,q1,q2⟩:=h (j+1) t (by simpa using a) nd b c;rw [show i+(j+1)=i+1+j by omega] at q1 q2
   exact ⟨f,q1,q2⟩) (by omega)
  refine ⟨f+g,?_⟩;rw [Tm.valL,Bc];have hbn:=Bi op i;have hr:=Df (show g≤f+g by omega) hg2
  have hk:=Ec (f:=f) (g:=f+g) (by omega) (rd:=fun s nd e k u=>AV f s nd e k u d) (rd':=fun s nd e k u=>AV (f+g) s nd e k u d) (fun s nd e k u r h=>Df (by omega) h) op u _ _ _ _ _ _ hf;by_cases hb:0<Am op i
  ·rw [if_pos hb,if_pos hb];rw [show (RV.clo (FK 0 u) t).env=FK 0 u from rfl,show (RV.clo (FK 0 u) t).b=t from rfl]
   rw [if_neg (by rw [Cp];omega),Aiu,Cf (show g≤f+g by omega) (hg1 hb)]
   simp only;rw [hr];simp only;rw [hk];simp only [Axd,Tm.wtL,Axa,Axb,true_and,and_true];omega
  ·have hb0:Am op i=0:=by omega
   rw [hb0] at hr;rw [if_neg hb,if_neg hb,hb0];simp only;simp only [Nat.add_zero] at hr;rw [hr];simp only;rw [hk];simp only [Axd,Tm.wtL,Axa,Axb,true_and,and_true];omega
theorem QA:∀{l:List Tm} {j:Nat} {t:Tm},l[j]?=some t→t.dp≤Tm.dpL l
 | [],_,_,h=>by simp at h
 | x::l,0,t,h=>by
  simp only [List.getElem?_cons_zero,Axa] at h;subst h;simp only [Tm.dpL];omega
 | x::l,j+1,t,h=>by
  simp only [List.getElem?_cons_succ] at h
  have:=QA h
  simp only [Tm.dpL];omega
theorem Ac2 {s:Int} (h0:0≤s) (h1:s≤1000000) (k0:Nat):∀(m:Nat) (t:Tm) (u:Nat) (nd d:Int),t.wt<m→t.stl→t.sc (k0+u)→k0+u+2 * t.wt≤800000→0≤nd→nd+t.wt≤3000→1≤d→d+t.dp≤121→∃f,AV f s nd 0 (t.val u) u d=some (t,s,nd+t.wt,0):=by
 intro m
 induction m with
 | zero=>intro t u nd d h;omega
 | succ m ih =>
  intro t u nd d hw hst hsc hb hnd hnw hd hdd;obtain ⟨op,n,ks⟩:=t;rw [Tm.stl] at hst;rw [Tm.sc] at hsc;simp only [Tm.wt] at hw hb hnw;simp only [Tm.dp] at hdd;have har:=SU hsc.1;by_cases h1o:op=1
  ·subst h1o;rw [if_pos rfl] at hsc;have hks:ks=[]:=List.eq_nil_of_length_eq_zero (Option.some.inj hsc.1.symm);subst hks;refine ⟨5,?_⟩;rw [Tm.val,if_pos rfl,AV];rw [show (RV.var ((u:Int) - 1 - n)).n=(u:Int) - 1 - n from rfl,show (RV.var ((u:Int) - 1 - n)).k=[] from rfl,show (RV.var ((u:Int) - 1 - n)).op=1 from rfl,List.length_nil]
   rw [if_neg (by omega)];have hc:(if (0:Int)=0∧(3000<nd+1∨120<d) then (5:Int) else 0)=0:=if_neg (by simp only [Tm.wtL] at hnw;omega);rw [hc,if_neg (by simp),if_pos rfl];simp only [Axa,Axb,Tm.mk.injEq,Tm.wt,Tm.wtL,true_and,and_true];omega
  ·rw [if_neg h1o] at hsc;have hnum:=AeA hsc.2.1;obtain ⟨f,hf⟩:=Nv (s:=s) (u:=u) (d:=d+1) op ks 0 (nd+1) (by omega) (by omega) (fun j t a nd b c=>by
    have hwt:=Jo a;have hdt:=QA a;have hsk:=Lq hsc.2.2 a;have hbn:=Bi op j;rw [Nat.zero_add] at hsk ⊢;have hstl:=M6 hst.2 (List.mem_of_getElem? a);obtain ⟨f1,hf1⟩:=ih t (u+Am op j) nd (d+1) (by omega) hstl (by rw [← Nat.add_assoc];exact hsk) (by omega) b c (by omega) (by omega);obtain ⟨f2,hf2⟩:=O6 h0 h1 k0 (t.wt+1) t (u+Am op j) (by omega) hstl (by rw [← Nat.add_assoc];exact hsk) (by omega);refine ⟨f1+f2,fun _=>Cf (by omega) hf2,?_⟩
    have:=Df (show f1≤f1+f2 by omega) hf1
    rw [show ((u+Am op j:Nat):Int)=(u:Int)+(Am op j:Int) by omega] at this
    exact this) (by omega)
   refine ⟨f+10+1,?_⟩;rw [Tm.val,if_neg h1o,AV];rw [show (RV.node op n (Tm.valL op 0 ks u)).n=n from rfl,show (RV.node op n (Tm.valL op 0 ks u)).k=Tm.valL op 0 ks u from rfl,show (RV.node op n (Tm.valL op 0 ks u)).op=op from rfl]
   rw [if_neg (by rw [TY];omega)];have hc:(if (0:Int)=0∧(3000<nd+1∨120<d) then (5:Int) else 0)=0:=if_neg (by omega);rw [hc,if_neg (by simp),if_neg h1o];rw [Ec (f:=f) (g:=f+10) (by omega) (rd:=fun s nd e k u=>AV f s nd e k u (d+1)) (rd':=fun s nd e k u=>AV (f+10) s nd e k u (d+1)) (fun s nd e k u r h=>Df (by omega) h) op u _ _ _ _ _ _ hf];simp only [Axd,Axa,Axb,Tm.wt,true_and,and_true];omega
theorem Tv {t:Tm} {k:Nat} (hst:t.stl) (hsc:t.sc k) (hk:k≤700000) (hw:t.wt≤3000) (hd:t.dp≤120):∃f,A5 f t=some (t,0):=by
 obtain ⟨f1,h1⟩:=O6 (s:=0) (by omega) (by omega) k (t.wt+1) t 0 (by omega) hst (by simpa using hsc) (by omega);obtain ⟨f2,h2⟩:=Ac2 (s:=0) (by omega) (by omega) k (t.wt+1) t 0 0 1 (by omega) hst (by simpa using hsc) (by omega) (by omega) (by omega) (by omega) (by omega);refine ⟨f1+f2,?_⟩;have e0:FK 0 0=[]:=rfl;rw [e0] at h1
 have:=Df (show f2≤f1+f2 by omega) h2
 rw [A5,Cf (show f1≤f1+f2 by omega) h1]
 simp only;rw [show ((0:Nat):Int)=0 from rfl] at this
 rw [this];simp
theorem NM {f g:Nat} (hfg:f≤g) {t:Tm} {r:Tm×Int} (h:A5 f t=some r):A5 g t=some r:=by
 rw [A5] at h ⊢;split at h
 ·cases h
 rename_i v s e he;rw [Cf hfg he];split at h
 ·cases h
 rename_i w s2 nd2 e2 hr;rw [← h];simp only;rw [Df hfg hr]
theorem Uc {f g:Nat} {t:Tm} {r r':Tm×Int} (h:A5 f t=some r) (h':A5 g t=some r'):r=r':=by
 have h1:=NM (show f≤f+g by omega) h
 have h2:=NM (show g≤f+g by omega) h'
 rw [h1] at h2;exact Option.some.inj h2
mutual
def Tm.vb:Tm→Prop
 | .mk op n ks=>(op=1→n≤4000000000000000000)∧Tm.vbL ks
def Tm.vbL:List Tm→Prop
 | []=>True
 | t::l=>t.vb∧Tm.vbL l
end
mutual
theorem SZ:∀(t:Tm) (k:Nat),t.sc k→k+2 * t.wt≤4000000000000000000→t.vb
 | .mk op n ks,k,h,hk=>by
  rw [Tm.sc] at h;rw [Tm.wt] at hk;rw [Tm.vb];refine ⟨fun h1=>?_,scL_vb ks op 0 k h.2.2 (by omega)⟩
  have:=h.2.1
  rw [if_pos h1] at this;omega
theorem scL_vb:∀(l:List Tm) (op:Int) (i k:Nat),Tm.scL op i l k→k+2+2 * Tm.wtL l≤4000000000000000000→Tm.vbL l
 | [],_,_,_,_,_=>by rw [Tm.vbL];trivial
 | t::l,op,i,k,h,hk=>by
  rw [Tm.scL] at h;simp only [Tm.wtL] at hk
  have:=Bi op i
  rw [Tm.vbL];exact ⟨SZ t _ h.1 (by omega),scL_vb l op (i+1) k h.2 (by omega)⟩
end
inductive ShR (d:Nat):RV→RV→Prop
 | neg (n:Int) (h:n<0):ShR d (.var n) (.var (n - d))
 | pos (n:Int) (h:0≤n):ShR d (.var n) (.var n)
 | node (op n:Int) (k k':List RV) (h1:op≠1) (hl:k'.length=k.length)
   (hk:∀(i:Nat) v v',Am op i=0→k[i]?=some v→k'[i]?=some v'→ShR d v v')
   (hc:∀(i:Nat) (v v':RV),0<Am op i→k[i]?=some v→k'[i]?=some v'→v'.b=v.b.shift d (v.env.length+Am op i:Nat)∧v'.env.length=v.env.length∧v.b.vb)
   (he:∀(i:Nat) (v v':RV) (j:Nat) x x',0<Am op i→k[i]?=some v→k'[i]?=some v'→v.env[j]?=some x→v'.env[j]?=some x'→ShR d x x'):ShR d (.node op n k) (.node op n k')
def Tj (d:Nat) (env env':List RV):Prop:=env'.length=env.length∧∀(j:Nat) x x',env[j]?=some x→env'[j]?=some x'→ShR d x x'
theorem Oy {d:Nat} {env env' l l':List RV} (h:Tj d env env') (hl:l'.length=l.length) (hx:∀(j:Nat) x x',l[j]?=some x→l'[j]?=some x'→ShR d x x'):Tj d (env++l) (env'++l'):=by
 refine ⟨by simp [h.1,hl],?_⟩;intro j x x' a b;by_cases hj:j<env.length
 ·rw [List.getElem?_append_left hj] at a;rw [List.getElem?_append_left (by rw [h.1];exact hj)] at b;exact h.2 j x x' a b
 ·rw [List.getElem?_append_right (by omega)] at a;rw [List.getElem?_append_right (by rw [h.1];omega),h.1] at b;exact hx _ x x' a b
theorem IM {d:Nat} {v v':RV} (h:ShR d v v'):v'.op=v.op∧(v.op≠1→v'.n=v.n∧v'.k.length=v.k.length∧v=.node v.op v.n v.k∧v'=.node v.op v.n v'.k ∧
  (∀(i:Nat) x x',Am v.op i=0→v.k[i]?=some x→v'.k[i]?=some x'→ShR d x x') ∧
  (∀(i:Nat) (x x':RV),0<Am v.op i→v.k[i]?=some x→v'.k[i]?=some x'→(x'.b=x.b.shift d (x.env.length+Am v.op i:Nat)∧x.b.vb)∧Tj d x.env x'.env)):=by
 cases h with
 | neg n h=>exact ⟨rfl,fun h=>absurd rfl h⟩
 | pos n h=>exact ⟨rfl,fun h=>absurd rfl h⟩
 | node op n k k' h1 hl hk hc he =>
  refine ⟨rfl,fun _=>⟨rfl,hl,rfl,rfl,hk,fun i x x' a b c=>?_⟩⟩;obtain ⟨q1,q2,q3⟩:=hc i x x' a b c;exact ⟨⟨q1,q3⟩,q2,fun j y y' p q=>he i x x' j y y' a b c p q⟩
theorem Oo {d:Nat} {op n:Int} {k k':List RV} (h1:op≠1) (hl:k'.length=k.length) (hk:∀(i:Nat) v v',Am op i=0→k[i]?=some v→k'[i]?=some v'→ShR d v v')
  (hc:∀(i:Nat) (x x':RV),0<Am op i→k[i]?=some x→k'[i]?=some x'→(x'.b=x.b.shift d (x.env.length+Am op i:Nat)∧x.b.vb)∧Tj d x.env x'.env):ShR d (.node op n k) (.node op n k') :=
 .node op n k k' h1 hl hk (fun i v v' a b c=>⟨(hc i v v' a b c).1.1,(hc i v v' a b c).2.1,(hc i v v' a b c).1.2⟩) (fun i v v' j x x' a b c e f=>(hc i v v' a b c).2.2 j x x' e f)
theorem BX {l l':List RV} (h:l'.length=l.length) {j:Nat} {x':RV} (hx:l'[j]?=some x'):∃x,l[j]?=some x :=
 ⟨_,List.getElem?_eq_getElem (by rw [← h];exact (List.getElem?_eq_some_iff.1 hx).1)⟩
theorem Q7 {d:Nat} {env env':List RV} {ev ev':Int→Int→Tm→Option (RV×Int×Int)} (henv:Tj d env env') (op:Int)
  (hev:∀s e t v' s' e',ev' s e (t.shift d env.length)=some (v',s',e')→t.vb→∃v,ev s e t=some (v,s',e')∧ShR d v v') :
  ∀(l:List Tm) (i:Nat) (s e:Int) (vs':List RV) (s' e':Int),A0 ev' op env' i (Tm.shiftL op i l d env.length) s e=some (vs',s',e')→Tm.vbL l →
   ∃vs,A0 ev op env i l s e=some (vs,s',e')∧vs'.length=vs.length∧(∀(j:Nat) v v',Am op (i+j)=0→vs[j]?=some v→vs'[j]?=some v'→ShR d v v') ∧
    (∀(j:Nat) (x x':RV),0<Am op (i+j)→vs[j]?=some x→vs'[j]?=some x'→(x'.b=x.b.shift d (x.env.length+Am op (i+j):Nat)∧x.b.vb)∧Tj d x.env x'.env)
 | [],i,s,e,vs',s',e',h,hv=>by
  simp only [Tm.shiftL,A0,Axa,Axb] at h;obtain ⟨rfl,rfl,rfl⟩:=h;exact ⟨[],rfl,rfl,fun j v v' _ h=>by simp at h,fun j v v' _ h=>by simp at h⟩
 | t::l,i,s,e,vs',s',e',h,hv=>by
  rw [Tm.vbL] at hv;rw [Tm.shiftL,A0] at h;by_cases hb:0<Am op i
  ·rw [if_pos hb] at h;cases hk:A0 ev' op env' (i+1) (Tm.shiftL op (i+1) l d env.length) s e with
   | none=>rw [hk] at h;cases h
   | some q =>
    obtain ⟨us',s1,e1⟩:=q;rw [hk] at h;simp only [Axd,Axa,Axb] at h;obtain ⟨rfl,rfl,rfl⟩:=h;obtain ⟨us,q1,q2,q3,q4⟩:=Q7 henv op hev l (i+1) s e us' s1 e1 hk hv.2;refine ⟨.clo env t::us,by rw [A0,if_pos hb,q1];rfl,by simp [q2],?_,?_⟩
    ·intro j v v' h0 a b;cases j with
     | zero=>rw [Nat.add_zero] at h0;omega
     | succ j =>
      simp only [List.getElem?_cons_succ] at a b;exact q3 j v v' (by rw [← h0];congr 1;omega) a b
    ·intro j x x' h0 a b;cases j with
     | zero =>
      simp only [List.getElem?_cons_zero,Axa] at a b;subst a b;simp only [Nat.add_zero,RV.clo,RV.b,RV.env];exact ⟨⟨by congr 1,hv.1⟩,henv⟩
     | succ j =>
      simp only [List.getElem?_cons_succ] at a b
      have:=q4 j x x' (by rw [show i+1+j=i+(j+1) by omega];exact h0) a b
      rw [show i+1+j=i+(j+1) by omega] at this
      exact this
  ·rw [if_neg hb] at h;have hb0:Am op i=0:=by omega
   rw [hb0] at h;simp only [Int.ofNat_zero,Int.add_zero] at h;split at h
   ·cases h
   rename_i v0' s1 e1 hv0;obtain ⟨v0,p1,p2⟩:=hev s e t v0' s1 e1 (by simpa using hv0) hv.1;cases hk:A0 ev' op env' (i+1) (Tm.shiftL op (i+1) l d env.length) s1 e1 with
   | none=>rw [hk] at h;cases h
   | some q =>
    obtain ⟨us',s2,e2⟩:=q;rw [hk] at h;simp only [Axd,Axa,Axb] at h;obtain ⟨rfl,rfl,rfl⟩:=h;obtain ⟨us,q1,q2,q3,q4⟩:=Q7 henv op hev l (i+1) s1 e1 us' s2 e2 hk hv.2;refine ⟨v0::us,by rw [A0,if_neg hb,p1];simp only;rw [q1];rfl,by simp [q2],?_,?_⟩
    ·intro j v v' h0 a b;cases j with
     | zero =>
      simp only [List.getElem?_cons_zero,Axa] at a b;subst a b;exact p2
     | succ j =>
      simp only [List.getElem?_cons_succ] at a b;exact q3 j v v' (by rw [← h0];congr 1;omega) a b
    ·intro j x x' h0 a b;cases j with
     | zero=>rw [Nat.add_zero] at h0;omega
     | succ j =>
      simp only [List.getElem?_cons_succ] at a b
      have:=q4 j x x' (by rw [show i+1+j=i+(j+1) by omega];exact h0) a b
      rw [show i+1+j=i+(j+1) by omega] at this
      exact this
theorem N6 {d f:Nat} {s:Int} {v v' w':RV} {s' e':Int} (hb:Am v.op 0=0) (hs:ShR d v v') (hv1:v.op≠1) (i:Nat) (o:Int) (ho1:o≠1) (hbi:Am o i=0)
  (h:(match v'.k[0]? with
   | none=>none
   | some k0=>if k0.op=o then (if s+1≤1000 then (k0.k[i]?).map fun x=>(x,s+1,(0:Int)) else some (v',s+1,17)) else some (v',s,0))=some (w',s',e')) :
  ∃w,(match v.k[0]? with
   | none=>none
   | some k0=>if k0.op=o then (if s+1≤1000 then (k0.k[i]?).map fun x=>(x,s+1,(0:Int)) else some (v,s+1,17)) else some (v,s,0))=some (w,s',e')∧ShR d w w':=by
 obtain ⟨_,a2⟩:=IM hs;obtain ⟨a3,a4,a5,a6,a7,a8⟩:=a2 hv1;cases hk:v'.k[0]? with
 | none=>rw [hk] at h;cases h
 | some k0' =>
  rw [hk] at h;obtain ⟨k0,hk0⟩:=BX a4 hk;have hr:=a7 0 k0 k0' hb hk0 hk;obtain ⟨b1,b2⟩:=IM hr;rw [hk0];simp only at h ⊢;rw [b1] at h;by_cases hop:k0.op=o
  ·rw [if_pos hop] at h ⊢;by_cases hq:s+1≤1000
   ·rw [if_pos hq] at h ⊢;obtain ⟨b3,b4,b5,b6,b7,b8⟩:=b2 (by rw [hop];exact ho1);cases hx:k0'.k[i]? with
    | none=>rw [hx] at h;cases h
    | some x' =>
     rw [hx] at h;simp only [Axd,Axa,Axb] at h;obtain ⟨rfl,rfl,rfl⟩:=h;obtain ⟨x,hx0⟩:=BX b4 hx;rw [hx0];exact ⟨x,rfl,b7 i x x' (by rw [hop];exact hbi) hx0 hx⟩
   ·rw [if_neg hq] at h ⊢;simp only [Axa,Axb] at h;obtain ⟨rfl,rfl,rfl⟩:=h;exact ⟨v,rfl,hs⟩
  ·rw [if_neg hop] at h ⊢;simp only [Axa,Axb] at h;obtain ⟨rfl,rfl,rfl⟩:=h;exact ⟨v,rfl,hs⟩
theorem XC (d:Nat) (hd:d≤1000000):∀f,(∀s e t env env' v' s' e',AE f s e (t.shift d env.length) env'=some (v',s',e')→t.vb→Tj d env env'→∃v,AE f s e t env=some (v,s',e')∧ShR d v v') ∧
  (∀s e v v' w' s' e',headR f s e v'=some (w',s',e')→ShR d v v'→v.op≠1→∃w,headR f s e v=some (w,s',e')∧ShR d w w'):=by
 intro f
 induction f with
 | zero=>exact ⟨(by intro s e t env env' v' s' e' h;rw [AE] at h;cases h),(by intro s e v v' w' s' e' h;rw [headR] at h;cases h)⟩
 | succ f ih =>
  refine ⟨?_,?_⟩
  ·intro s e t env env' v' s' e' h hvb henv;obtain ⟨op,m,ks⟩:=t;rw [Tm.vb] at hvb;rw [Tm.shift] at h;obtain ⟨m',hm'⟩:∃m':Int,m'=(if op=1∧(env.length:Int)≤m then BA (m+d) else m):=⟨_,rfl⟩;rw [← hm',AE] at h;rw [AE];by_cases he:e≠0
   ·rw [if_pos he] at h ⊢;simp only [Axa,Axb] at h;obtain ⟨rfl,rfl,rfl⟩:=h;exact ⟨_,rfl,Oo (by decide) rfl (fun i v v' _ h=>by simp at h) (fun i v v' _ h=>by simp at h)⟩
   rw [if_neg he] at h ⊢;rw [henv.1] at h;by_cases hl:900000<env.length
   ·rw [if_pos hl] at h;cases h
   rw [if_neg hl] at h ⊢;by_cases h1:op=1
   ·rw [if_pos h1] at h ⊢;by_cases hm:(env.length:Int)≤m
    ·have hw:BA (m+d)=m+d:=by rw [Ax (by omega) (by have:=hvb.1 h1;omega)]
     rw [if_pos ⟨h1,hm⟩,hw] at hm';rw [if_neg (by omega)] at h;rw [if_neg (by omega)];split at h
     ·simp only [Axa,Axb] at h;obtain ⟨rfl,rfl,rfl⟩:=h;rw [if_pos (by omega),hm'];refine ⟨_,rfl,?_⟩
      have:=ShR.neg (d:=d) ((env.length:Int) - 1 - m) (by omega)
      rw [show (env.length:Int) - 1 - m - d=(env.length:Int) - 1 - (m+d) by omega] at this
      exact this
     ·cases h
    ·rw [if_neg (fun h=>hm h.2)] at hm';rw [hm'] at h;rw [if_pos (by omega)] at h;rw [if_pos (by omega)];split at h
     ·rename_i h0;rw [if_pos h0];cases hx:env'[((env.length:Int) - 1 - m).toNat]? with
      | none=>rw [hx] at h;cases h
      | some x' =>
       rw [hx] at h;simp only [Axd,Axa,Axb] at h;obtain ⟨rfl,rfl,rfl⟩:=h;obtain ⟨x,hx0⟩:=BX henv.1 hx;rw [hx0];exact ⟨x,rfl,henv.2 _ x x' hx0 hx⟩
     ·cases h
   ·rw [if_neg h1] at h ⊢;rw [if_neg (fun h=>h1 h.1)] at hm';rw [hm'] at h;rw [Ed] at h;split at h
    ·cases h
    rename_i h2;rw [if_neg h2];split at h
    ·cases h
    rename_i h3;rw [if_neg h3];split at h
    ·cases h
    rename_i vs' s1 e1 hk;obtain ⟨vs,q1,q2,q3,q4⟩:=Q7 (ev:=fun s e t=>AE f s e t env) henv op (fun s e t v' s' e' a b=>ih.1 s e t env env' v' s' e' a b henv) ks 0 s e vs' s1 e1 hk hvb.2;rw [q1];simp only;simp only [Nat.zero_add] at q3 q4;exact ih.2 _ _ _ _ _ _ _ h (Oo h1 q2 q3 q4) h1
  ·intro s e v v' w' s' e' h hs hv1;obtain ⟨a1,a2⟩:=IM hs;obtain ⟨a3,a4,a5,a6,a7,a8⟩:=a2 hv1;rw [headR] at h ⊢;rw [a1] at h;by_cases he:e≠0
   ·rw [if_pos he] at h ⊢;simp only [Axa,Axb] at h;obtain ⟨rfl,rfl,rfl⟩:=h;exact ⟨v,rfl,hs⟩
   rw [if_neg he] at h ⊢;have he0:e=0:=by omega
   subst he0;split at h
   ·cases h
   rename_i hsb;rw [if_neg hsb];by_cases h5:v.op=5
   ·rw [if_pos h5] at h ⊢;cases hk:v'.k[0]? with
    | none=>rw [hk] at h;cases h
    | some k0' =>
     rw [hk] at h;obtain ⟨k0,hk0⟩:=BX a4 hk;have hr:=a7 0 k0 k0' (by rw [h5];rfl) hk0 hk;obtain ⟨b1,b2⟩:=IM hr;rw [hk0];simp only at h ⊢;rw [b1] at h;by_cases hop:k0.op=4
     ·rw [if_pos hop] at h ⊢;by_cases hq:s+1≤1000
      ·rw [if_pos hq] at h ⊢;obtain ⟨b3,b4,b5,b6,b7,b8⟩:=b2 (by rw [hop];decide);cases hc:k0'.k[1]? with
       | none=>rw [hc] at h;cases h
       | some c' =>
       cases hx:v'.k[1]? with
       | none=>rw [hc,hx] at h;cases h
       | some x' =>
        rw [hc,hx] at h;obtain ⟨c,hc0⟩:=BX b4 hc;obtain ⟨x,hx0⟩:=BX a4 hx;have hxr:=a7 1 x x' (by rw [h5];rfl) hx0 hx;obtain ⟨⟨c1,c2⟩,c3⟩:=b8 1 c c' (by rw [hop];decide) hc0 hc;rw [hc0,hx0];simp only at h ⊢;rw [c3.1] at h;split at h
        ·cases h
        rename_i hcl;rw [if_neg hcl];rw [hop,show Am 4 1=1 from rfl] at c1
        rw [c1] at h;have henv:=Oy (l:=[x]) (l':=[x']) c3 rfl (fun j y y' a b=>by
         cases j with
         | zero =>
          simp only [List.getElem?_cons_zero,Axa] at a b;subst a b;exact hxr
         | succ j=>simp at a)
        exact ih.1 _ _ c.b (c.env++[x]) _ _ _ _ (by rw [List.length_append];exact h) c2 henv
      ·rw [if_neg hq] at h ⊢;simp only [Axa,Axb] at h;obtain ⟨rfl,rfl,rfl⟩:=h;exact ⟨v,rfl,hs⟩
     ·rw [if_neg hop] at h ⊢;simp only [Axa,Axb] at h;obtain ⟨rfl,rfl,rfl⟩:=h;exact ⟨v,rfl,hs⟩
   rw [if_neg h5] at h ⊢;by_cases h89:v.op=8∨v.op=9
   ·rw [if_pos h89] at h ⊢;exact N6 (f:=f) (by rcases h89 with h | h<;>rw [h]<;>rfl) hs hv1 (1+v.op - 8).toNat 7 (by decide) (by simp [Am]) h
   rw [if_neg h89] at h ⊢;by_cases h30:v.op=30
   ·rw [if_pos h30] at h ⊢;exact N6 (f:=f) (by rw [h30];rfl) hs hv1 0 19 (by decide) rfl h
   rw [if_neg h30] at h ⊢;by_cases h19:v.op=19
   ·rw [if_pos h19] at h ⊢;exact N6 (f:=f) (by rw [h19];rfl) hs hv1 0 30 (by decide) rfl h
   rw [if_neg h19] at h ⊢;by_cases h13:v.op=13
   ·rw [if_pos h13] at h ⊢;cases hk0:v'.k[0]? with
    | none=>rw [hk0] at h;cases h
    | some k0' =>
    cases hk1:v'.k[1]? with
    | none=>rw [hk0,hk1] at h;cases h
    | some k1' =>
    cases hk2:v'.k[2]? with
    | none=>rw [hk0,hk1,hk2] at h;cases h
    | some k2' =>
    cases hk3:v'.k[3]? with
    | none=>rw [hk0,hk1,hk2,hk3] at h;cases h
    | some k3' =>
     rw [hk0,hk1,hk2,hk3] at h;obtain ⟨k0,g0⟩:=BX a4 hk0;obtain ⟨k1,g1⟩:=BX a4 hk1;obtain ⟨k2,g2⟩:=BX a4 hk2;obtain ⟨k3,g3⟩:=BX a4 hk3;rw [g0,g1,g2,g3];simp only at h ⊢;have r1:=a7 1 k1 k1' (by rw [h13];rfl) g1 hk1;have r3:=a7 3 k3 k3' (by rw [h13];rfl) g3 hk3;obtain ⟨b1,b2⟩:=IM r3;rw [b1] at h;split at h
     ·rename_i h11;rw [if_pos h11];split at h
      ·rename_i hq;rw [if_pos hq];simp only [Axa,Axb] at h;obtain ⟨rfl,rfl,rfl⟩:=h;exact ⟨k1,rfl,r1⟩
      ·rename_i hq;rw [if_neg hq];simp only [Axa,Axb] at h;obtain ⟨rfl,rfl,rfl⟩:=h;exact ⟨v,rfl,hs⟩
     ·rename_i h11;rw [if_neg h11];split at h
      ·rename_i h12;rw [if_pos h12];split at h
       ·rename_i hq;rw [if_pos hq];obtain ⟨b3,b4,b5,b6,b7,b8⟩:=b2 (by rw [h12];decide);cases hx:k3'.k[0]? with
        | none=>rw [hx] at h;cases h
        | some x' =>
         rw [hx] at h;obtain ⟨x,hx0⟩:=BX b4 hx;have rx:=b7 0 x x' (by rw [h12];rfl) hx0 hx;rw [hx0];simp only at h ⊢;split at h
         ·cases h
         rename_i w2' s5 e5 hw;obtain ⟨⟨c1,c2⟩,c3⟩:=a8 2 k2 k2' (by rw [h13];decide) g2 hk2;have c0:=a8 0 k0 k0' (by rw [h13];decide) g0 hk0;rw [h13] at c0 c1;have hn:ShR d (.node 13 0 [k0,k1,k2,x]) (.node 13 0 [k0',k1',k2',x']):=by
          refine Oo (by decide) rfl ?_ ?_
          ·intro i y y' hb a b
           match i with
           | 0=>exact absurd hb (by decide)
           | 1=>simp at a b;subst a b;exact r1
           | 2=>exact absurd hb (by decide)
           | 3=>simp at a b;subst a b;exact rx
           | i+4=>simp at a
          ·intro i y y' hb a b
           match i with
           | 0=>simp at a b;subst a b;exact c0
           | 1=>exact absurd hb (by decide)
           | 2=>simp at a b;subst a b;exact ⟨⟨c1,c2⟩,c3⟩
           | 3=>exact absurd hb (by decide)
           | i+4=>simp at a
         obtain ⟨w2,p1,p2⟩:=ih.2 _ _ _ _ _ _ _ hw hn (by simp [RV.node,RV.op]);rw [p1];simp only;rw [c3.1] at h;split at h
         ·cases h
         rename_i hcl;rw [if_neg hcl];rw [c1] at h;have henv:=Oy (l:=[x,w2]) (l':=[x',w2']) c3 rfl (fun j y y' a b=>by
          match j with
          | 0=>simp at a b;subst a b;exact rx
          | 1=>simp at a b;subst a b;exact p2
          | j+2=>simp at a)
         exact ih.1 _ _ k2.b (k2.env++[x,w2]) _ _ _ _ (by rw [List.length_append];exact h) c2 henv
       ·rename_i hq;rw [if_neg hq];simp only [Axa,Axb] at h;obtain ⟨rfl,rfl,rfl⟩:=h;exact ⟨v,rfl,hs⟩
      ·rename_i h12;rw [if_neg h12];simp only [Axa,Axb] at h;obtain ⟨rfl,rfl,rfl⟩:=h;exact ⟨v,rfl,hs⟩
   rw [if_neg h13] at h ⊢;simp only [Axa,Axb] at h;obtain ⟨rfl,rfl,rfl⟩:=h;exact ⟨v,rfl,hs⟩
theorem TQ {d f:Nat} (hd:d≤1000000) {rd:Int→Int→Int→RV→Int→Option (Tm×Int×Int×Int)} {u:Nat}
  (hrd:∀s nd e v v' (u:Nat) t' s' nd' e',rd s nd e v' u=some (t',s',nd',e')→ShR d v v'→∃t,rd s nd e v u=some (t,s',nd',e')∧t'=t.shift d u) (op:Int) :
  ∀(l l':List RV) (i:Nat) (s nd e:Int) (ts':List Tm) (s' nd' e':Int),Bc rd f op u i l' s nd e=some (ts',s',nd',e')→l'.length=l.length →
   (∀(j:Nat) v v',Am op (i+j)=0→l[j]?=some v→l'[j]?=some v'→ShR d v v') →
   (∀(j:Nat) (x x':RV),0<Am op (i+j)→l[j]?=some x→l'[j]?=some x'→(x'.b=x.b.shift d (x.env.length+Am op (i+j):Nat)∧x.b.vb)∧Tj d x.env x'.env) →
   ∃ts,Bc rd f op u i l s nd e=some (ts,s',nd',e')∧ts'=Tm.shiftL op i ts d u
 | [],[],i,s,nd,e,ts',s',nd',e',h,_,_,_=>by
  simp only [Bc,Axa,Axb] at h;obtain ⟨rfl,rfl,rfl,rfl⟩:=h;exact ⟨[],rfl,rfl⟩
 | k::l,k'::l',i,s,nd,e,ts',s',nd',e',h,hl,hk,hc=>by
  simp only [Bc] at h ⊢;split at h
  ·cases h
  rename_i y' s1 e1 hy;split at h
  ·cases h
  rename_i t' s2 nd2 e2 ht;have hkey:∃y,(if 0<Am op i then (if 900000<k.env.length then none else AE f s e k.b (k.env++FK u (Am op i))) else some (k,s,e))=some (y,s1,e1)∧ShR d y y':=by
   by_cases hb:0<Am op i
   ·rw [if_pos hb] at hy ⊢;obtain ⟨⟨c1,c2⟩,c3⟩:=hc 0 k k' (by rw [Nat.add_zero];exact hb) rfl rfl;rw [c3.1] at hy;split at hy
    ·cases hy
    rename_i hcl;rw [if_neg hcl];rw [c1,Nat.add_zero] at hy;have henv:=Oy (l:=FK u (Am op i)) (l':=FK u (Am op i)) c3 rfl (fun j y y' a b=>by
     have hj:j<Am op i:=by
      have:=(List.getElem?_eq_some_iff.1 a).1
      rw [Cp] at this;exact this
     rw [QV _ _ _ hj,Axa] at a b;subst a b;exact .pos _ (by omega))
    exact (XC d hd f).1 _ _ k.b (k.env++FK u (Am op i)) _ _ _ _ (by rw [List.length_append,Cp];exact hy) c2 henv
   ·rw [if_neg hb] at hy ⊢;simp only [Axa,Axb] at hy;obtain ⟨rfl,rfl,rfl⟩:=hy;exact ⟨k,rfl,hk 0 k k' (by rw [Nat.add_zero];omega) rfl rfl⟩
  obtain ⟨y,p1,p2⟩:=hkey;rw [p1];simp only;obtain ⟨t,q1,q2⟩:=hrd _ _ _ y y' (u+Am op i) t' s2 nd2 e2 (by rw [show ((u+Am op i:Nat):Int)=(u:Int)+(Am op i:Int) by omega];exact ht) p2
  rw [show ((u+Am op i:Nat):Int)=(u:Int)+(Am op i:Int) by omega] at q1
  rw [q1];simp only;cases hr:Bc rd f op u (i+1) l' s2 nd2 e2 with
  | none=>rw [hr] at h;cases h
  | some q =>
   obtain ⟨us',s3,nd3,e3⟩:=q;rw [hr] at h;simp only [Axd,Axa,Axb] at h;obtain ⟨rfl,rfl,rfl,rfl⟩:=h;obtain ⟨us,r1,r2⟩:=TQ hd hrd op l l' (i+1) s2 nd2 e2 us' s3 nd3 e3 hr (by simpa using hl) (fun j v v' a b c=>hk (j+1) v v' (by rw [← a];congr 1;omega) (by simpa using b) (by simpa using c)) (fun j x x' a b c=>by
    have:=hc (j+1) x x' (by rw [show i+(j+1)=i+1+j by omega];exact a) (by simpa using b) (by simpa using c)
    rw [show i+(j+1)=i+1+j by omega] at this
    exact this)
   rw [r1];refine ⟨t::us,rfl,?_⟩;rw [Tm.shiftL,r2,q2];rw [show ((u+Am op i:Nat):Int)=(u:Int)+(Am op i:Int) by omega]
 | [],_::_,_,_,_,_,_,_,_,_,_,hl,_,_=>by simp at hl
 | _::_,[],_,_,_,_,_,_,_,_,_,hl,_,_=>by simp at hl
theorem AlM (d:Nat) (hd:d≤1000000):∀f s nd e v v' (u:Nat) dd t' s' nd' e',AV f s nd e v' u dd=some (t',s',nd',e')→ShR d v v'→∃t,AV f s nd e v u dd=some (t,s',nd',e')∧t'=t.shift d u:=by
 intro f
 induction f with
 | zero=>intro s nd e v v' u dd t' s' nd' e' h;rw [AV] at h;cases h
 | succ f ih =>
  intro s nd e v v' u dd t' s' nd' e' h hs;rw [AV] at h ⊢;by_cases h1:v.op=1
  ·obtain ⟨n,n',rfl,rfl,hn⟩:∃n n':Int,v=.var n∧v'=.var n'∧(n<0∧n'=n - d∨0≤n∧n'=n):=by
    cases hs with
    | neg n hn=>exact ⟨n,_,rfl,rfl,.inl ⟨hn,rfl⟩⟩
    | pos n hn=>exact ⟨n,n,rfl,rfl,.inr ⟨hn,rfl⟩⟩
    | node op n k k' h1'=>exact absurd h1 h1'
   rw [show (RV.var n').n=n' from rfl,show (RV.var n').k=[] from rfl,show (RV.var n').op=1 from rfl,List.length_nil] at h
   rw [show (RV.var n).n=n from rfl,show (RV.var n).k=[] from rfl,show (RV.var n).op=1 from rfl,List.length_nil]
   by_cases hb:nd<0∨1000000<nd∨(u:Int)<0∨1000000<(u:Int)∨dd<0∨1000000<dd∨n' < -2305843009213693952∨2305843009213693952<n'∨f≤0∨900000<0∨f≤3
   ·rw [if_pos hb] at h;cases h
   rw [if_neg hb] at h;rw [if_neg (by omega)];by_cases hne:(if e=0∧(3000<nd+1∨120<dd) then (5:Int) else e)≠0
   ·rw [if_pos hne] at h ⊢;simp only [Axa,Axb] at h;obtain ⟨rfl,rfl,rfl,rfl⟩:=h;exact ⟨_,rfl,rfl⟩
   ·rw [if_neg hne,if_pos rfl] at h ⊢;simp only [Axa,Axb] at h;obtain ⟨rfl,rfl,rfl,rfl⟩:=h;refine ⟨_,rfl,?_⟩;rw [Tm.shift,Tm.shiftL];rcases hn with ⟨hn,rfl⟩ | ⟨hn,rfl⟩
    ·rw [if_pos ⟨rfl,by omega⟩,Ax (by omega) (by omega)];congr 1;omega
    ·rw [if_neg (by omega)]
  obtain ⟨a1,a2⟩:=IM hs;rw [a1] at h;split at h
  ·cases h
  rename_i hbad
  ·obtain ⟨a3,a4,a5,a6,a7,a8⟩:=a2 h1
   first | rw [if_neg h1] at h | skip
   rw [if_neg h1];rw [a3,a4] at hbad;rw [a3] at h;rw [if_neg hbad];by_cases hne:(if e=0∧(3000<nd+1∨120<dd) then (5:Int) else e)≠0
   ·rw [if_pos hne] at h ⊢;simp only [Axa,Axb] at h;obtain ⟨rfl,rfl,rfl,rfl⟩:=h;exact ⟨_,rfl,rfl⟩
   ·rw [if_neg hne] at h ⊢;cases hr:Bc (fun s nd e k u=>AV f s nd e k u (dd+1)) f v.op u 0 v'.k s (nd+1) 0 with
    | none=>rw [hr] at h;cases h
    | some q =>
     obtain ⟨us',s3,nd3,e3⟩:=q;rw [hr] at h;simp only [Axd,Axa,Axb] at h;obtain ⟨rfl,rfl,rfl,rfl⟩:=h;obtain ⟨us,r1,r2⟩:=TQ hd (rd:=fun s nd e k u=>AV f s nd e k u (dd+1)) (fun s nd e v v' u t' s' nd' e' a b=>ih s nd e v v' u (dd+1) t' s' nd' e' a b) v.op v.k v'.k 0 s (nd+1) 0 us' s3 nd3 e3 hr a4 (fun j x x' a b c=>a7 j x x' (by rw [← a];congr 1;omega) b c) (fun j x x' a b c=>by
      rw [Nat.zero_add] at a ⊢;exact a8 j x x' a b c)
     rw [r1];refine ⟨_,rfl,?_⟩;rw [Tm.shift,if_neg (fun h=>h1 h.1),r2]
theorem AcA {d:Nat} (hd:d≤1000000) {f:Nat} {t u':Tm} {e':Int} (h:A5 f (t.shift d 0)=some (u',e')) (hvb:t.vb):∃u,A5 f t=some (u,e')∧u'=u.shift d 0:=by
 rw [A5] at h ⊢;split at h
 ·cases h
 rename_i v' s e he;obtain ⟨v,p1,p2⟩:=(XC d hd f).1 0 0 t [] [] v' s e (by simpa using he) hvb ⟨rfl,fun j x x' a=>by simp at a⟩;rw [p1];simp only;split at h
 ·cases h
 rename_i w' s2 nd2 e2 hr;obtain ⟨w,q1,q2⟩:=AlM d hd f s 0 e v v' 0 1 w' s2 nd2 e2 (by simpa using hr) p2;rw [show ((0:Nat):Int)=0 from rfl] at q1 q2
 rw [q1];simp only [Axa] at h ⊢;by_cases h2:e2≠0
 ·rw [if_pos h2] at h ⊢;simp only [Axb] at h;obtain ⟨rfl,rfl⟩:=h;exact ⟨_,rfl,rfl⟩
 ·rw [if_neg h2] at h ⊢;simp only [Axb] at h;obtain ⟨rfl,rfl⟩:=h;exact ⟨_,rfl,q2⟩
def Hit (g:Cd) (st:Int) (a:Tm) (i:Nat):Prop:=i<g.length∧∃T f w,g[g.length - 1 - i]?=some (st,T)∧A5 f (T.shift ((i+1:Nat):Int) 0)=some (w,0)∧w.eta=a.eta
inductive Gr:Nat→Nat→Cd→Tm→Tm→Prop
 | tnat (e:Nat) (g:Cd) (a:Tm):Gr 0 e g a (.mk 10 0 [])
 | tty (e:Nat) (g:Cd) (a:Tm):Gr 0 e g a (.mk 14 0 [])
 | tu (e:Nat) (g:Cd) (a:Tm):Gr 0 e g a (.mk 2 0 [])
 | tlp (e:Nat) (g:Cd) (a r:Tm):Gr 0 e g a (.mk 18 0 [r.plainT 1])
 | tpi (e:Nat) (g:Cd) (a x y:Tm) (op:Int) (ho:op=3∨op=6) (h6:6≤e) (hgl:g.length≤60) (hx:AOk g.length x) (h1:Gr 0 (e - 1) g .z x) (h2:Gr 0 (e - 1) (g++[(1,x)]) .z y):Gr 0 e g a (.mk op 0 [x,y])
 | tlift (e:Nat) (g:Cd) (a t:Tm) (h6:6≤e) (h1:Gr 1 (e - 1) g (.mk 14 0 []) t):Gr 0 e g a (.mk 18 0 [t])
 | grow (e:Nat) (g:Cd) (a0 a t:Tm) (f:Nat) (hn:A5 f a0=some (a,0)) (hg:g.length≤60) (ha:NOk g.length a) (h1:Gr 3 e g a t):Gr 1 e g a0 t
 | objc (e:Nat) (g:Cd) (a0 a t:Tm) (f:Nat) (hn:A5 f a0=some (a,0)) (hg:g.length≤60) (ha:NOk g.length a) (h1:Gr 4 e g a t):Gr 2 e g a0 t
 | var1 (e:Nat) (g:Cd) (a:Tm) (i:Nat) (h:Hit g 1 a i):Gr 3 e g a (.mk 1 i [])
 | var0 (e:Nat) (g:Cd) (a:Tm) (i:Nat) (h:Hit g 0 a i):Gr 4 e g a (.mk 1 i [])
 | fst (e:Nat) (g:Cd) (a b c x:Tm) (h6:6≤e) (hb:AOk g.length b) (h1:Gr 0 6 g .z b) (h2:Gr 1 (e - 2) g b x) (h3:Gr 1 (e - 2) g a c):Gr 3 e g a (.mk 8 0 [.mk 7 0 [.mk 6 0 [a,b.shift 1 0],c,x]])
 | app (e:Nat) (g:Cd) (a b c x:Tm) (h6:6≤e) (hb:AOk g.length b) (h1:Gr 0 6 g .z b) (h2:Gr 1 (e - 2) g b x) (h3:Gr 1 (e - 2) (g++[(1,b)]) (a.shift 1 0) c):Gr 3 e g a (.mk 5 0 [.mk 4 0 [b,c],x])
 | recc (e:Nat) (g:Cd) (a n z s:Tm) (h6:6≤e) (ha:a.op=10∨a.op=14) (h1:Gr 1 (e - 2) g (.mk 10 0 []) n) (h2:Gr 1 (e - 2) g a z) (h3:Gr 1 (e - 2) (g++[(1,.mk 10 0 [])]++[(1,a.shift 1 0)]) (a.shift 2 0) s):Gr 3 e g a (.mk 13 0 [a.shift 1 0,z,s,n])
 | suc (e:Nat) (g:Cd) (a n:Tm) (h6:6≤e) (ha:a.op=10) (h1:Gr 1 (e - 1) g a n):Gr 3 e g a (.mk 12 0 [n])
 | num (e:Nat) (g:Cd) (a:Tm) (j:Nat) (ha:a.op=10) (hj:j≤3):Gr 3 e g a (Hu j)
 | tint (e:Nat) (g:Cd) (a:Tm) (ha:a.op=14):Gr 3 e g a (.mk 15 0 [])
 | tfun (e:Nat) (g:Cd) (a x y:Tm) (op:Int) (ho:op=16∨op=17) (h6:6≤e) (ha:a.op=14) (h1:Gr 1 (e - 1) g a x) (h2:Gr 1 (e - 1) g a y):Gr 3 e g a (.mk op 0 [x,y])
 | uni (e:Nat) (g:Cd) (a:Tm) (n:Int) (ha:a.op=2):Gr 3 e g a (.mk 2 n [])
 | unat (e:Nat) (g:Cd) (a:Tm) (ha:a.op=2):Gr 3 e g a (.mk 10 0 [])
 | uty (e:Nat) (g:Cd) (a:Tm) (ha:a.op=2):Gr 3 e g a (.mk 14 0 [])
 | ult (e:Nat) (g:Cd) (a:Tm) (ha:a.op=2):Gr 3 e g a (.mk 18 0 [.mk 15 0 []])
 | upi (e:Nat) (g:Cd) (a x y:Tm) (op:Int) (ho:op=3∨op=6) (h6:6≤e) (ha:a.op=2) (hx:AOk g.length x) (h1:Gr 1 (e - 1) g a x) (h2:Gr 1 (e - 1) (g++[(1,x)]) a y):Gr 3 e g a (.mk op 0 [x,y])
 | lam (e:Nat) (g:Cd) (n:Int) (d c x:Tm) (h1:Gr 1 (e - 1) (g++[(1,d)]) c x):Gr 3 e g (.mk 3 n [d,c]) (.mk 4 0 [d,x])
 | pair (e:Nat) (g:Cd) (n:Int) (d c x y:Tm) (hx:AOk g.length x) (h1:Gr 1 (e - 1) g d x) (h2:Gr 1 (e - 1) g (c.subst 0 0 x) y):Gr 3 e g (.mk 6 n [d,c]) (.mk 7 0 [.mk 6 n [d,c],x,y])
 | quo (e:Nat) (g:Cd) (n:Int) (d x:Tm) (h1:Gr 2 (e - 1) g d x):Gr 3 e g (.mk 18 n [d]) (.mk 19 0 [x])
 | oif (e:Nat) (g:Cd) (a c x y:Tm) (h6:6≤e) (h1:Gr 2 (e - 2) g (.mk 15 0 []) c) (h2:Gr 2 (e - 2) g a x) (h3:Gr 2 (e - 2) g a y):Gr 4 e g a (.mk 27 0 [c,x,y])
 | olet (e:Nat) (g:Cd) (a r x y:Tm) (h6:6≤e) (h1:Gr 2 (e - 2) g (r.plainT 1) x) (h2:Gr 2 (e - 2) (g++[(0,r.plainT 1)]) (a.shift 1 0) y):Gr 4 e g a (.mk 28 0 [x,y])
 | oapp (e:Nat) (g:Cd) (a r x y:Tm) (h6:6≤e) (h1:Gr 2 (e - 2) g (r.plainT 1) x) (h2:Gr 2 (e - 2) (g++[(0,r.plainT 1)]) (a.shift 1 0) y):Gr 4 e g a (.mk 21 0 [.mk 20 0 [r.plainT 1,y],x])
 | ofst (e:Nat) (g:Cd) (a x y:Tm) (h6:6≤e) (h1:Gr 2 (e - 2) g a x) (h2:Gr 2 (e - 2) g (.mk 15 0 []) y):Gr 4 e g a (.mk 23 0 [.mk 22 0 [x,y]])
 | ofix (e:Nat) (g:Cd) (a x:Tm) (h6:6≤e) (h1:Gr 2 (e - 2) (g++[(0,a)]) (a.shift 1 0) x):Gr 4 e g a (.mk 29 0 [a,x])
 | spl (e:Nat) (g:Cd) (a x:Tm) (h6:6≤e) (h1:Gr 1 (e - 1) g (.mk 18 0 [a]) x):Gr 4 e g a (.mk 30 0 [x])
 | oint (e:Nat) (g:Cd) (a:Tm) (n:Int) (ha:a.op=15):Gr 4 e g a (.mk 25 n [])
 | oprim (e:Nat) (g:Cd) (a p q:Tm) (n:Int) (h6:6≤e) (ha:a.op=15) (h1:Gr 2 (e - 1) g a p) (h2:Gr 2 (e - 1) g a q):Gr 4 e g a (.mk 26 n [p,q])
 | olam (e:Nat) (g:Cd) (n:Int) (d c b:Tm) (h1:Gr 2 (e - 1) (g++[(0,d)]) (c.shift 1 0) b):Gr 4 e g (.mk 16 n [d,c]) (.mk 20 0 [d,b])
 | opair (e:Nat) (g:Cd) (n:Int) (d c p q:Tm) (h1:Gr 2 (e - 1) g d p) (h2:Gr 2 (e - 1) g c q):Gr 4 e g (.mk 17 n [d,c]) (.mk 22 0 [p,q])
theorem Aco:∀k,(Hu k).wt=k+1:=by
 intro k
 induction k with
 | zero=>rfl
 | succ k ih=>simp only [Hu,Tm.wt,Tm.wtL,ih];omega
theorem dp1 (op n:Int) (a:Tm):(Tm.mk op n [a]).dp=1+a.dp:=by simp only [Tm.dp,Tm.dpL];omega
theorem OZ (op n:Int) (a b:Tm):(Tm.mk op n [a,b]).dp=1+max a.dp b.dp:=by simp only [Tm.dp,Tm.dpL];omega
theorem dp3 (op n:Int) (a b c:Tm):(Tm.mk op n [a,b,c]).dp=1+max a.dp (max b.dp c.dp):=by simp only [Tm.dp,Tm.dpL];omega
theorem dp4 (op n:Int) (a b c d:Tm):(Tm.mk op n [a,b,c,d]).dp=1+max a.dp (max b.dp (max c.dp d.dp)):=by simp only [Tm.dp,Tm.dpL];omega
theorem wt1 (op n:Int) (a:Tm):(Tm.mk op n [a]).wt=1+a.wt:=by simp only [Tm.wt,Tm.wtL];omega
theorem NK (op n:Int) (a b:Tm):(Tm.mk op n [a,b]).wt=1+a.wt+b.wt:=by simp only [Tm.wt,Tm.wtL];omega
theorem wt3 (op n:Int) (a b c:Tm):(Tm.mk op n [a,b,c]).wt=1+a.wt+b.wt+c.wt:=by simp only [Tm.wt,Tm.wtL];omega
theorem wt4 (op n:Int) (a b c d:Tm):(Tm.mk op n [a,b,c,d]).wt=1+a.wt+b.wt+c.wt+d.wt:=by simp only [Tm.wt,Tm.wtL];omega
structure CtxT (g:Cd) (G:List Nat):Prop where
 len:G.length=g.length
 ok:∀(i:Nat) (st:Int) (T:Tm),i<g.length→g[g.length - 1 - i]?=some (st,T)→∃s,G[i]?=some s∧s<10∧(st=0→s=6)∧(st=1→T.vb∧∀f w,A5 f T=some (w,0)→w.op≠4∧w.op≠7∧∀τ,PD w.op=some τ→s=τ)
theorem Aga:CtxT [] []:=⟨rfl,fun i st T h=>by simp at h⟩
theorem H6 {g:Cd} {G:List Nat} (h:CtxT g G) (st:Int) (T:Tm) (s:Nat) (hs:s<10) (h0:st=0→s=6) (h1:st=1→T.vb∧∀f w,A5 f T=some (w,0)→w.op≠4∧w.op≠7∧∀τ,PD w.op=some τ→s=τ):CtxT (g++[(st,T)]) (s::G):=by
 refine ⟨by simp [h.len],?_⟩;intro i st' T' hi hg;rw [List.length_append,Axe,List.length_nil] at hi hg;cases i with
 | zero =>
  rw [List.getElem?_append_right (by omega),show g.length+(0+1) - 1 - 0 - g.length=0 by omega] at hg
  simp only [List.getElem?_cons_zero,Axa,Axb] at hg;obtain ⟨rfl,rfl⟩:=hg;exact ⟨s,rfl,hs,h0,h1⟩
 | succ i =>
  rw [List.getElem?_append_left (by omega),show g.length+(0+1) - 1 - (i+1)=g.length - 1 - i by omega] at hg
  rw [List.getElem?_cons_succ];exact h.ok i st' T' (by omega) hg
theorem Aeo {k:Nat} {a:Tm} (h:AOk k a) (hk:k≤1000):a.vb:=SZ a k h.sc (by have:=h.wt;omega)
theorem Agx {op:Int} {s:Nat} (h:PD op=some s):op≠4∧op≠7:=by
 constructor<;>(rintro rfl;simp [PD] at h)
theorem Jz {g:Cd} {G:List Nat} (h:CtxT g G) {T:Tm} {s:Nat} (hT:HasT G T (10+s)) (hv:T.vb):CtxT (g++[(1,T)]) (s::G):=by
 have hs:=(Cg hT).2;refine H6 h 1 T s (by omega) (by omega) (fun _=>⟨hv,fun f w hw=>?_⟩)
 have:=(Cg (JD (Gz hw hT))).1
 have hne:=Agx this;exact ⟨hne.1,hne.2,fun τ hτ=>by rw [this] at hτ;exact Option.some.inj hτ⟩
theorem MG {g:Cd} {G:List Nat} (h:CtxT g G) (T:Tm):CtxT (g++[(0,T)]) (6::G):=H6 h 0 T 6 (by omega) (fun _=>rfl) (by omega)
theorem Ap8 {op:Int} {s:Nat} (h:PD op=some s):s<6:=by
 unfold PD at h
 repeat' (split at h)
 all_goals first | (cases h;done) | (simp only [Axa] at h;omega)
theorem Anv {g:Cd} {G:List Nat} (h:CtxT g G) {T:Tm} (hT:HasT G T 2) (hv:T.vb):∃s,s<10∧CtxT (g++[(1,T)]) (s::G):=by
 have hne:∀f w,A5 f T=some (w,0)→w.op≠4∧w.op≠7:=by
  intro f w hw
  have:=Gz hw hT
  cases this with
  | var=>simp only [Tm.op];omega
  | node _ op n ks _ sg hr =>
   simp only [Tm.op];cases hr<;>decide
 by_cases hex:∃f w s,A5 f T=some (w,0)∧PD w.op=some s
 ·obtain ⟨f,w,s,hw,hs⟩:=hex;have hlt:=Ap8 hs;refine ⟨s,by omega,H6 h 1 T s (by omega) (by omega) (fun _=>⟨hv,fun f' w' hw'=>⟨(hne f' w' hw').1,(hne f' w' hw').2,fun τ hτ=>?_⟩⟩)⟩
  have:=Uc hw hw'
  simp only [Axb,and_true] at this;subst this;rw [hs] at hτ;exact Option.some.inj hτ
 ·exact ⟨7,by omega,H6 h 1 T 7 (by omega) (by omega) (fun _=>⟨hv,fun f' w' hw'=>⟨(hne f' w' hw').1,(hne f' w' hw').2,fun τ hτ=>absurd ⟨f',w',τ,hw',hτ⟩ hex⟩⟩)⟩
theorem AgM {t:Tm} (h4:t.op≠4) (h7:t.op≠7):t.eta.op=t.op:=by
 obtain ⟨op,n,ks⟩:=t;simp only [Tm.op] at h4 h7;rw [Tm.eta,if_neg h4,if_neg h7];rfl
theorem Aeu (t:Tm) (d c:Int):(t.shift d c).op=t.op:=by
 obtain ⟨op,n,ks⟩:=t;rw [Tm.shift];rfl
theorem AeM {g:Cd} {G:List Nat} (h:CtxT g G) (hl:g.length≤1000) {st:Int} {a:Tm} {i:Nat} (hh:Hit g st a i):(st=0→HasT G (.mk 1 i []) 6)∧(st=1→∀s,PD a.op=some s→HasT G (.mk 1 i []) s):=by
 obtain ⟨hi,T,f,w,hg,hn,he⟩:=hh;obtain ⟨s,h1,h2,h3,h4⟩:=h.ok i st T hi hg;refine ⟨fun h0=>?_,fun h0 s' hs'=>?_⟩
 ·have:=h3 h0
  subst this;exact .var _ _ _ (by omega) (by simpa using h1) (by omega)
 ·obtain ⟨hv,h5⟩:=h4 h0;obtain ⟨w0,q1,q2⟩:=AcA (d:=i+1) (by omega) hn hv;obtain ⟨n4,n7,h6⟩:=h5 f w0 q1;have ha:=Agx hs';have e1:w.op=w0.op:=by rw [q2,Aeu]
  have e2:w.op=a.op:=by
   have e3:=AgM (t:=w) (by rw [e1];exact n4) (by rw [e1];exact n7);have e4:=AgM (t:=a) ha.1 ha.2;rw [← e3,he,e4]
  have:=h6 s' (by rw [← e1,e2];exact hs')
  subst this;exact .var _ _ _ (by omega) (by simpa using h1) h2
theorem ht0 {G:List Nat} {op n:Int} {s:Nat} (h:Rule op s []):HasT G (.mk op n []) s:=.node _ _ _ _ _ _ h rfl (fun i t bs s' a=>by simp at a)
theorem ht1 {G:List Nat} {op n:Int} {s:Nat} {b0:List Nat} {s0:Nat} {x:Tm} (h:Rule op s [(b0,s0)]) (hx:HasT (b0++G) x s0):HasT G (.mk op n [x]) s:=.node _ _ _ _ _ _ h rfl (fun i t bs s' a b=>by
 match i with
 | 0=>simp at a b;obtain ⟨rfl,rfl⟩:=b;subst a;exact hx
 | i+1=>simp at a)
theorem ht2 {G:List Nat} {op n:Int} {s:Nat} {b0 b1:List Nat} {s0 s1:Nat} {x y:Tm} (h:Rule op s [(b0,s0),(b1,s1)]) (hx:HasT (b0++G) x s0) (hy:HasT (b1++G) y s1):HasT G (.mk op n [x,y]) s:=.node _ _ _ _ _ _ h rfl (fun i t bs s' a b=>by
 match i with
 | 0=>simp at a b;obtain ⟨rfl,rfl⟩:=b;subst a;exact hx
 | 1=>simp at a b;obtain ⟨rfl,rfl⟩:=b;subst a;exact hy
 | i+2=>simp at a)
theorem ht3 {G:List Nat} {op n:Int} {s:Nat} {b0 b1 b2:List Nat} {s0 s1 s2:Nat} {x y z:Tm} (h:Rule op s [(b0,s0),(b1,s1),(b2,s2)]) (hx:HasT (b0++G) x s0) (hy:HasT (b1++G) y s1) (hz:HasT (b2++G) z s2):HasT G (.mk op n [x,y,z]) s:=.node _ _ _ _ _ _ h rfl (fun i t bs s' a b=>by
 match i with
 | 0=>simp at a b;obtain ⟨rfl,rfl⟩:=b;subst a;exact hx
 | 1=>simp at a b;obtain ⟨rfl,rfl⟩:=b;subst a;exact hy
 | 2=>simp at a b;obtain ⟨rfl,rfl⟩:=b;subst a;exact hz
 | i+3=>simp at a)
theorem ht4 {G:List Nat} {op n:Int} {s:Nat} {b0 b1 b2 b3:List Nat} {s0 s1 s2 s3:Nat} {x y z w:Tm} (h:Rule op s [(b0,s0),(b1,s1),(b2,s2),(b3,s3)]) (hx:HasT (b0++G) x s0) (hy:HasT (b1++G) y s1) (hz:HasT (b2++G) z s2) (hw:HasT (b3++G) w s3):HasT G (.mk op n [x,y,z,w]) s:=.node _ _ _ _ _ _ h rfl (fun i t bs s' a b=>by
 match i with
 | 0=>simp at a b;obtain ⟨rfl,rfl⟩:=b;subst a;exact hx
 | 1=>simp at a b;obtain ⟨rfl,rfl⟩:=b;subst a;exact hy
 | 2=>simp at a b;obtain ⟨rfl,rfl⟩:=b;subst a;exact hz
 | 3=>simp at a b;obtain ⟨rfl,rfl⟩:=b;subst a;exact hw
 | i+4=>simp at a)
theorem Cy (G:List Nat):∀(d:Nat) (r:Tm),HasT G (r.plainT d) 1
 | 0,r=>by rw [Tm.plainT];exact ht0 .tint
 | d+1,r=>by
  have h1:=Int.emod_nonneg r.n (show (4:Int)≠0 by decide)
  have h2:=Int.emod_lt_of_pos r.n (show (0:Int)<4 by decide)
  rw [Tm.plainT];split
  ·exact ht0 .tint
  ·have h3:16+r.n % 4 - 2=16∨16+r.n % 4 - 2=17:=by omega
   rcases h3 with h3 | h3<;>rw [h3]
   ·exact ht2 .tfun (Cy _ d _) (Cy _ d _)
   ·exact ht2 .tpro (Cy _ d _) (Cy _ d _)
theorem Afy (G:List Nat):∀j,HasT G (Hu j) 0
 | 0=>ht0 .zero
 | j+1=>ht1 .suc (Afy G j)
theorem Amz {G:List Nat} {n:Int} {d c:Tm} {op:Int} (ho:op=3∨op=6) {s:Nat} (h:HasT G (.mk op n [d,c]) (10+s)):(s=4∧op=3∨s=5∧op=6)∧∃a b,a<6∧b<6∧HasT G d (10+a)∧HasT (a::G) c (10+b):=by
 generalize hq:10+s=q at h;rcases ho with rfl | rfl
 ·cases h with
  | node _ _ _ _ _ sg hr hl hk =>
   cases hr with
   | piT a b ha hb=>exact ⟨by omega,a,b,ha,hb,hk 0 d [] (10+a) rfl rfl,hk 1 c [a] (10+b) rfl rfl⟩
   | piU=>omega
 ·cases h with
  | node _ _ _ _ _ sg hr hl hk =>
   cases hr with
   | sigT a b ha hb=>exact ⟨by omega,a,b,ha,hb,hk 0 d [] (10+a) rfl rfl,hk 1 c [a] (10+b) rfl rfl⟩
   | sigU=>omega
theorem AlE {G:List Nat} {n:Int} {d:Tm} {s:Nat} (h:HasT G (.mk 18 n [d]) (10+s)):s=3∧HasT G d 1:=by
 generalize hq:10+s=q at h;cases h with
 | node _ _ _ _ _ sg hr hl hk =>
  cases hr with
  | liftT=>exact ⟨by omega,hk 0 d [] 1 rfl rfl⟩
  | liftU=>omega
theorem Abk {G:List Nat} {n:Int} {d c:Tm} {op:Int} (ho:op=16∨op=17) (h:HasT G (.mk op n [d,c]) 1):HasT G d 1∧HasT G c 1:=by
 rcases ho with rfl | rfl
 ·cases h with
  | node _ _ _ _ _ sg hr hl hk=>cases hr;exact ⟨hk 0 d [] 1 rfl rfl,hk 1 c [] 1 rfl rfl⟩
 ·cases h with
  | node _ _ _ _ _ sg hr hl hk=>cases hr;exact ⟨hk 0 d [] 1 rfl rfl,hk 1 c [] 1 rfl rfl⟩
theorem up1 {g:Cd} {G:List Nat} (h:CtxT g G) (hl:g.length≤1000) {t:Tm} {s:Nat} (ht:HasT G t s) (hw:t.wt≤1000000000000000) (x:Nat):HasT (x::G) (t.shift 1 0) s:=PJ ht [x] (by rw [h.len];simp only [Axe,List.length_nil];omega)
theorem up2 {g:Cd} {G:List Nat} (h:CtxT g G) (hl:g.length≤1000) {t:Tm} {s:Nat} (ht:HasT G t s) (hw:t.wt≤1000000000000000) (x y:Nat):HasT (x::y::G) (t.shift 2 0) s:=PJ ht [x,y] (by rw [h.len];simp only [Axe,List.length_nil];omega)
theorem AsY {k e:Nat} {g:Cd} {a t:Tm} (h:Gr k e g a t):∀G,CtxT g G →
  (k=0→∃s,s<6∧HasT G t (10+s))∧(k=1→∀s,HasT G a (10+s)→HasT G t s)∧(k=2→HasT G a 1→HasT G t 6) ∧
  (k=3→g.length≤60→NOk g.length a→∀s,HasT G a (10+s)→HasT G t s)∧(k=4→g.length≤60→NOk g.length a→HasT G a 1→HasT G t 6):=by
 induction h with
 | tnat e g a=>intro G hG;exact ⟨fun _=>⟨0,by omega,ht0 .natT⟩,by omega,by omega,by omega,by omega⟩
 | tty e g a=>intro G hG;exact ⟨fun _=>⟨1,by omega,ht0 .tyT⟩,by omega,by omega,by omega,by omega⟩
 | tu e g a=>intro G hG;exact ⟨fun _=>⟨2,by omega,ht0 .uT⟩,by omega,by omega,by omega,by omega⟩
 | tlp e g a r=>intro G hG;exact ⟨fun _=>⟨3,by omega,ht1 .liftT (Cy _ 1 r)⟩,by omega,by omega,by omega,by omega⟩
 | tpi e g a x y op ho h6 hgl hx h1 h2 ih1 ih2 =>
  intro G hG;refine ⟨fun _=>?_,by omega,by omega,by omega,by omega⟩;obtain ⟨s1,q1,q2⟩:=(ih1 G hG).1 rfl;have hvb:x.vb:=by
   have:=hx.wt
   exact SZ x g.length hx.sc (by have:=hG.len;omega)
  obtain ⟨s2,q3,q4⟩:=(ih2 (s1::G) (Jz hG q2 hvb)).1 rfl;rcases ho with rfl | rfl
  ·exact ⟨4,by omega,ht2 (.piT s1 s2 q1 q3) q2 q4⟩
  ·exact ⟨5,by omega,ht2 (.sigT s1 s2 q1 q3) q2 q4⟩
 | tlift e g a t h6 h1 ih =>
  intro G hG;exact ⟨fun _=>⟨3,by omega,ht1 .liftT ((ih G hG).2.1 rfl 1 (ht0 .tyT))⟩,by omega,by omega,by omega,by omega⟩
 | grow e g a0 a t f hn hg ha h1 ih =>
  intro G hG;exact ⟨by omega,fun _ s hs=>(ih G hG).2.2.2.1 rfl hg ha s (JD (Gz hn hs)),by omega,by omega,by omega⟩
 | objc e g a0 a t f hn hg ha h1 ih =>
  intro G hG;exact ⟨by omega,by omega,fun _ hs=>(ih G hG).2.2.2.2 rfl hg ha (JD (Gz hn hs)),by omega,by omega⟩
 | var1 e g a i h =>
  intro G hG;exact ⟨by omega,by omega,by omega,fun _ hl ha s hs=>(AeM hG (by omega) h).2 rfl s (Cg hs).1,by omega⟩
 | var0 e g a i h =>
  intro G hG;exact ⟨by omega,by omega,by omega,by omega,fun _ hl ha hs=>(AeM hG (by omega) h).1 rfl⟩
 | fst e g a b c x h6 hb h1 h2 h3 ih1 ih2 ih3 =>
  intro G hG;refine ⟨by omega,by omega,by omega,fun _ hl ha s hs=>?_,by omega⟩;obtain ⟨s1,q1,q2⟩:=(ih1 G hG).1 rfl;have hx:=(ih2 G hG).2.1 rfl s1 q2;have hc:=(ih3 G hG).2.1 rfl s hs;exact .fst _ _ _ _ _ _ s s1 2 (by have:=(Cg hs).2;omega) (ht2 (.sigU 0 (10+s) (10+s1) (by omega)) hs (up1 hG (by omega) q2 hb.wt 0)) hc hx
 | app e g a b c x h6 hb h1 h2 h3 ih1 ih2 ih3 =>
  intro G hG;refine ⟨by omega,by omega,by omega,fun _ hl ha s hs=>?_,by omega⟩;obtain ⟨s1,q1,q2⟩:=(ih1 G hG).1 rfl;have hx:=(ih2 G hG).2.1 rfl s1 q2;have hc:=(ih3 (s1::G) (Jz hG q2 (Aeo hb (by omega)))).2.1 rfl s (up1 hG (by omega) hs (by have:=ha.wt;omega) s1);exact .app _ _ _ _ _ _ s1 s (10+s1) (by have:=(Cg hs).2;omega) (by omega) q2 hc hx
 | recc e g a n z s h6 ha h1 h2 h3 ih1 ih2 ih3 =>
  intro G hG;refine ⟨by omega,by omega,by omega,fun _ hl hna σ hs=>?_,by omega⟩;have hn:=(ih1 G hG).2.1 rfl 0 (ht0 .natT);have hz:=(ih2 G hG).2.1 rfl σ hs;have hs1:=up1 hG (by omega) hs (by have:=hna.wt;omega) 0;have g1:=Jz hG (T:=.mk 10 0 []) (s:=0) (ht0 .natT) (by simp [Tm.vb,Tm.vbL]);have g2:=Jz g1 hs1 (SZ _ (g.length+1) (GP a 1 0 g.length hna.sc (by have:=hna.wt;omega)) (by rw [Fo];have:=hna.wt;omega));have hs3:=(ih3 _ g2).2.1 rfl σ (up2 hG (by omega) hs (by have:=hna.wt;omega) σ 0);have h01:σ=0∨σ=1:=by
   have:=(Cg hs).1
   rcases ha with ha | ha<;>rw [ha] at this<;>simp [PD] at this<;>omega
  exact ht4 (.recR σ (10+σ) h01) hs1 hz hs3 hn
 | suc e g a n h6 ha h1 ih =>
  intro G hG;refine ⟨by omega,by omega,by omega,fun _ hl hna s hs=>?_,by omega⟩;have h0:s=0:=by
   have:=(Cg hs).1
   rw [ha] at this;simp [PD] at this;omega
  subst h0;exact ht1 .suc ((ih G hG).2.1 rfl 0 hs)
 | num e g a j ha hj =>
  intro G hG;refine ⟨by omega,by omega,by omega,fun _ hl hna s hs=>?_,by omega⟩;have h0:s=0:=by
   have:=(Cg hs).1
   rw [ha] at this;simp [PD] at this;omega
  subst h0;exact Afy _ j
 | tint e g a ha =>
  intro G hG;refine ⟨by omega,by omega,by omega,fun _ hl hna s hs=>?_,by omega⟩;have h0:s=1:=by
   have:=(Cg hs).1
   rw [ha] at this;simp [PD] at this;omega
  subst h0;exact ht0 .tint
 | tfun e g a x y op ho h6 ha h1 h2 ih1 ih2 =>
  intro G hG;refine ⟨by omega,by omega,by omega,fun _ hl hna s hs=>?_,by omega⟩;have h0:s=1:=by
   have:=(Cg hs).1
   rw [ha] at this;simp [PD] at this;omega
  subst h0;have q1:=(ih1 G hG).2.1 rfl 1 hs;have q2:=(ih2 G hG).2.1 rfl 1 hs;rcases ho with rfl | rfl
  ·exact ht2 .tfun q1 q2
  ·exact ht2 .tpro q1 q2
 | uni e g a n ha =>
  intro G hG;refine ⟨by omega,by omega,by omega,fun _ hl hna s hs=>?_,by omega⟩;have h0:s=2:=by
   have:=(Cg hs).1
   rw [ha] at this;simp [PD] at this;omega
  subst h0;exact ht0 .uU
 | unat e g a ha =>
  intro G hG;refine ⟨by omega,by omega,by omega,fun _ hl hna s hs=>?_,by omega⟩;have h0:s=2:=by
   have:=(Cg hs).1
   rw [ha] at this;simp [PD] at this;omega
  subst h0;exact ht0 .natU
 | uty e g a ha =>
  intro G hG;refine ⟨by omega,by omega,by omega,fun _ hl hna s hs=>?_,by omega⟩;have h0:s=2:=by
   have:=(Cg hs).1
   rw [ha] at this;simp [PD] at this;omega
  subst h0;exact ht0 .tyU
 | ult e g a ha =>
  intro G hG;refine ⟨by omega,by omega,by omega,fun _ hl hna s hs=>?_,by omega⟩;have h0:s=2:=by
   have:=(Cg hs).1
   rw [ha] at this;simp [PD] at this;omega
  subst h0;exact ht1 .liftU (ht0 .tint)
 | upi e g a x y op ho h6 ha hx h1 h2 ih1 ih2 =>
  intro G hG;refine ⟨by omega,by omega,by omega,fun _ hl hna s hs=>?_,by omega⟩;have h0:s=2:=by
   have:=(Cg hs).1
   rw [ha] at this;simp [PD] at this;omega
  subst h0;have q1:=(ih1 G hG).2.1 rfl 2 hs;obtain ⟨s1,hs1,g1⟩:=Anv hG q1 (Aeo hx (by omega));have q2:=(ih2 _ g1).2.1 rfl 2 (by
   obtain ⟨oa,na,ka⟩:=a;simp only [Tm.op] at ha;subst ha;have hk:ka=[]:=by
    have:=hna.sc
    rw [Tm.sc] at this;exact List.eq_nil_of_length_eq_zero (Option.some.inj this.1.symm)
   subst hk;exact ht0 .uT)
  rcases ho with rfl | rfl
  ·exact ht2 (.piU s1 hs1) q1 q2
  ·exact ht2 (.sigU s1 2 2 hs1) q1 q2
 | lam e g n d c x h1 ih =>
  intro G hG;refine ⟨by omega,by omega,by omega,fun _ hl hna s hs=>?_,by omega⟩;obtain ⟨h4,a1,b1,ha1,hb1,hd,hc⟩:=Amz (.inl rfl) hs;have h0:s=4:=by omega
  subst h0;have hna2:=hna.sc;have hnw:=hna.wt;rw [NK] at hnw;rw [Tm.sc] at hna2;have hvb:=SZ d g.length hna2.2.2.1 (by omega);exact ht2 (.lam a1 b1 (10+a1) (by omega)) hd ((ih _ (Jz hG hd hvb)).2.1 rfl b1 hc)
 | pair e g n d c x y hx h1 h2 ih1 ih2 =>
  intro G hG;refine ⟨by omega,by omega,by omega,fun _ hl hna s hs=>?_,by omega⟩;obtain ⟨h5,a1,b1,ha1,hb1,hd,hc⟩:=Amz (.inr rfl) hs;have h0:s=5:=by omega
  subst h0;have hnw:=hna.wt;rw [NK] at hnw;have qx:=(ih1 G hG).2.1 rfl a1 hd;have hsub:=VF hc [] G a1 x rfl qx (by have:=hx.wt;rw [hG.len];simp only [List.length_nil];omega);have qy:=(ih2 G hG).2.1 rfl b1 (by simpa using hsub);exact ht3 (.pair (10+5) a1 b1) hs qx qy
 | quo e g n d x h1 ih =>
  intro G hG;refine ⟨by omega,by omega,by omega,fun _ hl hna s hs=>?_,by omega⟩;obtain ⟨h3,hd⟩:=AlE hs;subst h3;exact ht1 .quo ((ih G hG).2.2.1 rfl hd)
 | oif e g a c x y h6 h1 h2 h3 ih1 ih2 ih3 =>
  intro G hG;exact ⟨by omega,by omega,by omega,by omega,fun _ hl hna hs=>ht3 .oif ((ih1 G hG).2.2.1 rfl (ht0 .tint)) ((ih2 G hG).2.2.1 rfl hs) ((ih3 G hG).2.2.1 rfl hs)⟩
 | olet e g a r x y h6 h1 h2 ih1 ih2 =>
  intro G hG;exact ⟨by omega,by omega,by omega,by omega,fun _ hl hna hs=>ht2 .olet ((ih1 G hG).2.2.1 rfl (Cy _ 1 r)) ((ih2 _ (MG hG _)).2.2.1 rfl (up1 hG (by omega) hs (by have:=hna.wt;omega) 6))⟩
 | oapp e g a r x y h6 h1 h2 ih1 ih2 =>
  intro G hG;exact ⟨by omega,by omega,by omega,by omega,fun _ hl hna hs=>ht2 .oapp (ht2 .olam (Cy _ 1 r) ((ih2 _ (MG hG _)).2.2.1 rfl (up1 hG (by omega) hs (by have:=hna.wt;omega) 6))) ((ih1 G hG).2.2.1 rfl (Cy _ 1 r))⟩
 | ofst e g a x y h6 h1 h2 ih1 ih2 =>
  intro G hG;exact ⟨by omega,by omega,by omega,by omega,fun _ hl hna hs=>ht1 .ofst (ht2 .opair ((ih1 G hG).2.2.1 rfl hs) ((ih2 G hG).2.2.1 rfl (ht0 .tint)))⟩
 | ofix e g a x h6 h1 ih =>
  intro G hG;exact ⟨by omega,by omega,by omega,by omega,fun _ hl hna hs=>ht2 .ofix hs ((ih _ (MG hG _)).2.2.1 rfl (up1 hG (by omega) hs (by have:=hna.wt;omega) 6))⟩
 | spl e g a x h6 h1 ih =>
  intro G hG;exact ⟨by omega,by omega,by omega,by omega,fun _ hl hna hs=>ht1 .spl ((ih G hG).2.1 rfl 3 (ht1 .liftT hs))⟩
 | oint e g a n ha =>
  intro G hG;exact ⟨by omega,by omega,by omega,by omega,fun _ hl hna hs=>ht0 .oint⟩
 | oprim e g a p q n h6 ha h1 h2 ih1 ih2 =>
  intro G hG;exact ⟨by omega,by omega,by omega,by omega,fun _ hl hna hs=>ht2 .oprim ((ih1 G hG).2.2.1 rfl hs) ((ih2 G hG).2.2.1 rfl hs)⟩
 | olam e g n d c b h1 ih =>
  intro G hG;refine ⟨by omega,by omega,by omega,by omega,fun _ hl hna hs=>?_⟩;obtain ⟨hd,hc⟩:=Abk (.inl rfl) hs;have hnw:=hna.wt;rw [NK] at hnw;exact ht2 .olam hd ((ih _ (MG hG _)).2.2.1 rfl (up1 hG (by omega) hc (by omega) 6))
 | opair e g n d c p q h1 h2 ih1 ih2 =>
  intro G hG;refine ⟨by omega,by omega,by omega,by omega,fun _ hl hna hs=>?_⟩;obtain ⟨hd,hc⟩:=Abk (.inr rfl) hs;exact ht2 .opair ((ih1 G hG).2.2.1 rfl hd) ((ih2 G hG).2.2.1 rfl hc)
inductive CtxG:Cd→Prop
 | nil:CtxG []
 | ob (g:Cd) (t:Tm) (h:CtxG g) (h1:Gr 1 7 g (.mk 14 0 []) t):CtxG (g++[(0,t)])
 | me (g:Cd) (a:Tm) (h:CtxG g) (ha:AOk g.length a) (hl:g.length≤60) (h1:Gr 0 7 g .z a):CtxG (g++[(1,a)])
theorem K8 {k:Nat} {a:Tm} (hk:k≤1000) (h:a.sc k) (hd:a.dp≤20000):∃u e,Ev 34 [.fv a.enc] (.tuple [u.enc,.int .i64 e])∧(e=0∧NOk k u∨(e=5∨e=17)∧u=.z)∧∃f,A5 f a=some (u,e):=by
 obtain ⟨f,u,e,h1,h2⟩:=VP (k:=k) (by omega) h (by have:=AmI a;omega);refine ⟨u,e,⟨f+2,fun n hn=>Adg f a u e h1 n hn⟩,?_,f,h1⟩;rcases h2 with ⟨h3,h4,h5,h6⟩ | h2
 ·exact .inl ⟨h3,⟨h4,h5,h6⟩⟩
 ·exact .inr h2
structure TG (κ e:Nat) (g:Cd) (a t:Tm) (b:Bool):Prop where
 sc:t.sc g.length
 wt:t.wt≤Wg e
 dp:t.dp≤Dg e
 gr:b=true→Gr κ e g a t
theorem tg {κ e:Nat} {g:Cd} {a t:Tm} {b:Bool} (h:TOk g.length e t) (hg:b=true→Gr κ e g a t):TG κ e g a t b:=⟨h.sc,h.wt,h.dp,hg⟩
theorem AfP {κ e:Nat} {g:Cd} {a t:Tm} {b:Bool} (h:TG κ e g a t b) (he:e≤10):AOk g.length t:=⟨h.sc,by have:=h.wt;have:=Nu he;omega,by have:=h.dp;unfold Dg at this;omega⟩
theorem AfD {κ κ' e:Nat} {g:Cd} {a a' t:Tm} {b:Bool} (h:TG κ e g a t b) (hg:Gr κ e g a t→Gr κ' e g a' t):TG κ' e g a' t b:=⟨h.sc,h.wt,h.dp,fun hb=>hg (h.gr hb)⟩
theorem LD {p q:Bool} (h:(p && q)=true):p=true:=by cases p<;>simp_all
theorem Jt {p q:Bool} (h:(p && q)=true):q=true:=by cases p<;>simp_all
set_option maxRecDepth 20000 in
set_option maxHeartbeats 4000000 in
theorem Adf:∀(n:Nat) (t:Tm),t.wt<n→t.wt≤1000000000→BE (SS dt n 22 [.fv t.enc] ⟨[],[]⟩) (.bool t.plainP):=by
 intro n
 induction n with
 | zero=>intro t h;omega
 | succ n ih =>
  intro t hn hw;obtain ⟨op,m,ks⟩:=t;simp only [Tm.wt] at hn hw;rw [c22,An,Tm.plainP];have hlen:=EW ks;have body:∀b:Bool,BE (By n (fun q l h=>JI l h (SS dt n) q) [.ptr (.own 23068672) 0,.fv (.bool b),iv 0] ⟨[(23068672,.row [iv op,iv m,.fv (.sl (ks.map Tm.enc))] false)],[]⟩) (.bool (b && Tm.plainPL ks)):=by
   intro b;refine Bb (Q:=fun r=>BE r _) (fun k V H=>∃pre rest b',ks=pre++rest∧rest.length=k∧V=[.ptr (.own 23068672) 0,.fv (.bool b'),iv pre.length]∧H=⟨[(23068672,.row [iv op,iv m,.fv (.sl (ks.map Tm.enc))] false)],[]⟩∧(b' && Tm.plainPL rest)=(b && Tm.plainPL ks))
    ?_ n ks.length _ _ (by omega) ⟨[],ks,b,rfl,rfl,rfl,rfl,rfl⟩
   rintro k V H rec ⟨pre,rest,b',hk,hkl,rfl,rfl,hr⟩ hrec;have hkk:ks.length=pre.length+rest.length:=by rw [hk];simp
   rw [← hr];cases rest with
   | nil =>
    have hno:¬ ((pre.length:Int)<ks.length):=by rw [hkk];simp
    rw [Tm.plainPL,Bool.and_true];simp only [KO,JJ,Kx,JI,JO,Kt,KB,Kn,S22,↓XX,XY,↓reduceIte,Nat.reduceBEq,Nat.reduceAdd,Int.reduceEq,Int.reduceLT,Int.reduceLE,hno];exact Ao _ _
   | cons t rest =>
    have hi:(pre.length:Int)<ks.length:=by rw [hkk];simp;omega
    cases b'
    ·rw [Bool.false_and];simp only [KO,JJ,Kx,JI,JO,Kt,KB,Kn,S22,↓XX,XY,↓reduceIte,Nat.reduceBEq,Nat.reduceAdd,Int.reduceEq,Int.reduceLT,Int.reduceLE,hi];exact Ao _ _
    ·have hg:=Cu hk;have htw:=CX (t:=t) (l:=ks) (by rw [hk];simp);have hc:=ih t (by omega) (by omega);have hwi:BA ((pre.length:Int)+1)=((pre++[t]).length:Int):=(Ax (by omega) (by omega)).trans (by simp);have h9:=hrec rest.length [.ptr (.own 23068672) 0,.fv (.bool t.plainP),iv (pre++[t]).length] _ (by simp only [Axe] at hkl;omega) ⟨pre++[t],rest,t.plainP,by rw [hk];simp,rfl,rfl,rfl,by rw [← hr,Tm.plainPL,Bool.true_and]⟩;rw [← hr] at h9;generalize t.plainP=bt at hc h9;obtain ⟨o,p,l⟩:=t;rw [An] at hc;simp only [KO,JJ,Kx,JI,JO,Kt,KB,Kn,S22,↓XX,XY,↓reduceIte,Nat.reduceBEq,Nat.reduceAdd,Int.reduceEq,Int.reduceLT,Int.reduceLE,hi,↓Bz (AQ hg) (Bg _ _ _),↓Cb,↓Av hc,hwi];exact h9
  by_cases c20:20≤op∧op≤29
  ·have e:okP op=true:=by simp [okP,c20]
   rw [e];have h1:¬ op<20:=by omega
   have h1':(20:Int)≤op:=by omega
   have h2:op<30:=by omega
   have b:=body true;simp only [↓VN,↓XX,XY,↓reduceIte,Nat.reduceBEq,Nat.reduceAdd,Int.reduceEq,Int.reduceLT,Int.reduceLE,h1,h1',h2];exact b
  ·have h30:¬ ((20:Int)≤op∧op<30):=by omega
   by_cases c1:op=1
   ·subst c1;have b:=body true;simp only [↓VN,↓XX,XY,↓reduceIte,Nat.reduceBEq,Nat.reduceAdd,Int.reduceEq,Int.reduceLT,Int.reduceLE];exact b
   by_cases c15:op=15
   ·subst c15;have b:=body true;simp only [↓VN,↓XX,XY,↓reduceIte,Nat.reduceBEq,Nat.reduceAdd,Int.reduceEq,Int.reduceLT,Int.reduceLE];exact b
   by_cases c16:op=16
   ·subst c16;have b:=body true;simp only [↓VN,↓XX,XY,↓reduceIte,Nat.reduceBEq,Nat.reduceAdd,Int.reduceEq,Int.reduceLT,Int.reduceLE];exact b
   by_cases c17:op=17
   ·subst c17;have b:=body true;simp only [↓VN,↓XX,XY,↓reduceIte,Nat.reduceBEq,Nat.reduceAdd,Int.reduceEq,Int.reduceLT,Int.reduceLE];exact b
   have e:okP op=false:=by simp [okP,c1,c15,c16,c17];omega
   rw [e];have b:=body false;by_cases h1:(20:Int)≤op
   ·have h2:¬ op<30:=by omega
    simp only [↓VN,↓XX,XY,↓reduceIte,Nat.reduceBEq,Nat.reduceAdd,Int.reduceEq,Int.reduceLT,Int.reduceLE,h1,h2,c1,c15,c16,c17];exact b
   ·simp only [↓VN,↓XX,XY,↓reduceIte,Nat.reduceBEq,Nat.reduceAdd,Int.reduceEq,Int.reduceLT,Int.reduceLE,h1,c1,c15,c16,c17];exact b
theorem AcP {n:Nat} {t u:Tm} {e:Int} (h:BE (SS dt n 34 [.fv t.enc] ⟨[],[]⟩) (.tuple [u.enc,.int .i64 e])) (hz:e≠0→u=.z):BE (SS dt (n+1) 14 [.fv t.enc] ⟨[],[]⟩) (.tuple [u.enc,.int .i64 e]):=by
 rw [c14];by_cases he:e=0
 ·obtain ⟨o1,p1,k1⟩:=t;obtain ⟨o2,p2,k2⟩:=u;simp only [An] at h ⊢;simp only [V0,Vr,VV,S14,↓XX,XY,↓reduceIte,Nat.reduceBEq,Nat.reduceAdd,Int.reduceEq,Int.reduceLT,Int.reduceLE,↓Av h,he];first | exact Ao _ _ | exact AR rfl (by simp) _
 ·have:=hz he
  subst this;obtain ⟨o1,p1,k1⟩:=t;simp only [An,Tm.z,Axf] at h ⊢;simp only [V0,Vr,VV,S14,↓XX,XY,↓reduceIte,Nat.reduceBEq,Nat.reduceAdd,Int.reduceEq,Int.reduceLT,Int.reduceLE,↓Av h,he];first | exact Ao _ _ | exact AR rfl (by simp) _
inductive PV where
 | nil
 | mk (op n:Int) (k:List PV) (t:Tm) (e:List PV)
def PV.enc:PV→FV
 | .nil=>.nilp
 | .mk op n k (.mk to tn tk) e=>.fp [.int .i64 op,.int .i64 n,.sl (encL k),.int .i64 to,.int .i64 tn,.sl (tk.map Tm.enc),encE e] 0
where
 encL:List PV→List FV
  | []=>[]
  | v::l=>v.enc::encL l
 encE:List PV→FV
  | []=>.nilp
  | v::l=>.fp [v.enc,encE l] 0
def PV.encEnv:List PV→FV
 | []=>.nilp
 | v::l=>.fp [v.enc,encEnv l] 0
theorem Aff (l:List PV):PV.enc.encL l=l.map PV.enc:=by
 induction l with
 | nil=>rfl
 | cons t l ih=>simp [PV.enc.encL,ih]
theorem Agz (l:List PV):PV.enc.encE l=PV.encEnv l:=by
 induction l with
 | nil=>rfl
 | cons t l ih=>simp [PV.enc.encE,PV.encEnv,ih]
theorem GA:PV.nil.enc=.nilp:=rfl
theorem AW (op n:Int) (k:List PV) (bo bn:Int) (bk:List Tm) (e:List PV):(PV.mk op n k (.mk bo bn bk) e).enc =
  .fp [.int .i64 op,.int .i64 n,.sl (k.map PV.enc),.int .i64 bo,.int .i64 bn,.sl (bk.map Tm.enc),PV.encEnv e] 0:=by simp only [PV.enc,Aff,Agz]
theorem Tg:PV.encEnv []=.nilp:=rfl
theorem OU (v:PV) (l:List PV):PV.encEnv (v::l)=.fp [v.enc,PV.encEnv l] 0:=rfl
def PV.var (n:Int):PV:=.mk 1 n [] .z []
theorem Ub (n:Int):(PV.var n).enc=.fp [.int .i64 1,.int .i64 n,.sl [],.int .i64 0,.int .i64 0,.sl [],.nilp] 0:=by rw [PV.var,Tm.z,AW];rfl
theorem N7 (v:PV):∀l,v.enc≠.agg l:=by
 intro l h;cases v with
 | nil=>cases h
 | mk op n k t e=>obtain ⟨bo,bn,bk⟩:=t;rw [AW] at h;cases h
theorem Aea (v:PV):HH v.enc=true:=by
 cases v with
 | nil=>rfl
 | mk op n k t e=>obtain ⟨bo,bn,bk⟩:=t;rw [AW];rfl
theorem Ea (v:PV):v.enc.cells=[v.enc]:=by
 cases v with
 | nil=>rfl
 | mk op n k t e=>obtain ⟨bo,bn,bk⟩:=t;rw [AW];rfl
theorem Ang {β:Type} {l:List PV} {i:Nat} {v:PV} (h:l[i]?=some v) (k:IV→Option β):AT 1 (.fv (.sl (l.map PV.enc))) (iv i) k=k (.fv (.fp [v.enc] 0)):=by
 have h1:(l.map PV.enc)[i]?=some v.enc:=by rw [List.getElem?_map,h];rfl
 rw [Bz h1 (by rw [Ea];rfl),Ea]
theorem tPs:EE.T 127=some ⟨1,24,.slice 96,[.nils]⟩:=by kernel_rfl
theorem tPp:EE.T 96=some ⟨1,8,.ptr,[.fv .nilp]⟩:=by kernel_rfl
theorem AsP (a:PV) (s:Nat) (h:Hp) (k:IV→Hp→List Ref→List Ref→Option (IV×Hp)):Ay (Ak EE 127 1 [(0,.fv a.enc)]) s h k=k (.clip [a.enc]) h [] []:=by
 cases a with
 | nil=>exact Cl tPs tPp (by decide) (cells:=[.nilp]) rfl k
 | mk op n kk t e =>
  obtain ⟨bo,bn,bk⟩:=t;rw [AW];exact Cl tPs tPp (by decide) (cells:=[.fp [.int .i64 op,.int .i64 n,.sl (kk.map PV.enc),.int .i64 bo,.int .i64 bn,.sl (bk.map Tm.enc),PV.encEnv e] 0]) rfl k
theorem MB (a:PV):a.enc=.nilp∨∃l,a.enc=.fp l 0:=by
 cases a with
 | nil=>exact .inl rfl
 | mk op n kk t e=>obtain ⟨bo,bn,bk⟩:=t;exact .inr ⟨_,AW ..⟩
theorem Ar1 (a b:PV) (s:Nat) (h:Hp) (k:IV→Hp→List Ref→List Ref→Option (IV×Hp)):Ay (Ak EE 127 2 [(0,.fv a.enc),(1,.fv b.enc)]) s h k=k (.clip [a.enc,b.enc]) h [] []:=by
 have key:∀x y:FV,(x=.nilp∨∃l,x=.fp l 0)→(y=.nilp∨∃l,y=.fp l 0)→Ay (Ak EE 127 2 [(0,.fv x),(1,.fv y)]) s h k=k (.clip [x,y]) h [] []:=by
  rintro x y (rfl | ⟨la,rfl⟩) (rfl | ⟨lb,rfl⟩)
  ·exact Cl (len:=2) tPs tPp (by decide) (cells:=[.nilp,.nilp]) rfl k
  ·exact Cl (len:=2) tPs tPp (by decide) (cells:=[.nilp,.fp lb 0]) rfl k
  ·exact Cl (len:=2) tPs tPp (by decide) (cells:=[.fp la 0,.nilp]) rfl k
  ·exact Cl (len:=2) tPs tPp (by decide) (cells:=[.fp la 0,.fp lb 0]) rfl k
 exact key _ _ (MB a) (MB b)
theorem AsQ (b d:PV) (s:Nat) (h:Hp) (k:IV→Hp→List Ref→List Ref→Option (IV×Hp)):Ay (Ak EE 127 4 [(0,.fv .nilp),(1,.fv b.enc),(2,.fv .nilp),(3,.fv d.enc)]) s h k=k (.clip [.nilp,b.enc,.nilp,d.enc]) h [] []:=by
 have key:∀x y:FV,(x=.nilp∨∃l,x=.fp l 0)→(y=.nilp∨∃l,y=.fp l 0)→Ay (Ak EE 127 4 [(0,.fv .nilp),(1,.fv x),(2,.fv .nilp),(3,.fv y)]) s h k=k (.clip [.nilp,x,.nilp,y]) h [] []:=by
  rintro x y (rfl | ⟨la,rfl⟩) (rfl | ⟨lb,rfl⟩)
  ·exact Cl (len:=4) tPs tPp (by decide) (cells:=[.nilp,.nilp,.nilp,.nilp]) rfl k
  ·exact Cl (len:=4) tPs tPp (by decide) (cells:=[.nilp,.nilp,.nilp,.fp lb 0]) rfl k
  ·exact Cl (len:=4) tPs tPp (by decide) (cells:=[.nilp,.fp la 0,.nilp,.nilp]) rfl k
  ·exact Cl (len:=4) tPs tPp (by decide) (cells:=[.nilp,.fp la 0,.nilp,.fp lb 0]) rfl k
 exact key _ _ (MB b) (MB d)
theorem Ari {β:Type} (v:PV) (z:List IV) (o:Nat) (k:List IV→Option β):Hb z o 1 (.fv v.enc) k=GF z o (.fv v.enc) k:=by
 unfold Hb;rw [AgW,Aea];rfl
theorem Aeg {β:Type} (l:List PV) (z:List IV) (o:Nat) (k:List IV→Option β):Hb z o 1 (.fv (PV.encEnv l)) k=GF z o (.fv (PV.encEnv l)) k:=by
 unfold Hb;rw [AgW,show HH (PV.encEnv l)=true by cases l<;>rfl]
 rfl
abbrev CM (f:FuncId):IV:=.agg [.func (.func f) [.ptr (.ext 0) 0] []]
abbrev AqJ:Blk:=.map [(5,CM 94),(8,CM 95),(9,CM 95),(13,CM 96),(30,CM 97),(19,CM 98)]
abbrev MX (s w r e:Int):List Blk:=[.row [iv s,iv w,iv r,iv e,.mapr (.ext 1)] false,AqJ]
theorem Air (s w r e:Int):∀j,Ref.own j ∉ (MX s w r e).flatMap Blk.refs:=by
 intro j h;simp only [MX,List.flatMap_cons,List.flatMap_nil,Blk.refs,IV.refs.refsL,IV.refs,Axg,Axf,List.append_nil,List.nil_append,List.cons_append,List.mem_cons,List.not_mem_nil,or_false,reduceCtorEq] at h
theorem AlO (s w r e s' w' r' e':Int):ExtX (MX s w r e) (MX s' w' r' e'):=⟨rfl,rfl,rfl⟩
section
variable {ih:Aa} {f:FuncId} {w:FV} {s u r e s' u' r' e':Int} (own:List (Nat×Blk)) (k:IV→Hp→List Ref→List Ref→Option (IV×Hp))
theorem WZ (args:List IV) (ks:List Bool) (hks:∀b∈ks,b=false) {vs:List FV} (hz:BG args=some vs) (hr:Bm (ih f (.ptr (.ext 0) 0::vs.map .fv) ⟨[],MX s u r e⟩) w (MX s' u' r' e')) :
  Ah (true::ks) false false ih f (.ptr (.ext 0) 0::args) ⟨own,MX s u r e⟩ k=k (.fv w) ⟨own,MX s' u' r' e'⟩ [.ext 1,.ext 0] [.ext 0,.ext 1] :=
 Zh (fun e k=>NU 0 args _ _ e k ks hks hz) (AlO ..) hr (fun _=>rfl) k
theorem FH (hr:Bm (ih f [.ptr (.ext 0) 0] ⟨[],MX s u r e⟩) w (MX s' u' r' e')):Ah [true] false false ih f [.ptr (.ext 0) 0] ⟨own,MX s u r e⟩ k=k (.fv w) ⟨own,MX s' u' r' e'⟩ [.ext 1,.ext 0] [.ext 0,.ext 1]:=WZ own k [] [] (by simp) rfl hr
theorem Rq {a:IV} {x:FV} (hr:Bm (ih f [.ptr (.ext 0) 0,.fv x] ⟨[],MX s u r e⟩) w (MX s' u' r' e')) (ha:A6 a=some x):Ah [true,false] false false ih f [.ptr (.ext 0) 0,a] ⟨own,MX s u r e⟩ k=k (.fv w) ⟨own,MX s' u' r' e'⟩ [.ext 1,.ext 0] [.ext 0,.ext 1] :=
 WZ own k [a] [false] (by simp) (Agm ha) hr
theorem Aem {a b:IV} {x y:FV} (hr:Bm (ih f [.ptr (.ext 0) 0,.fv x,.fv y] ⟨[],MX s u r e⟩) w (MX s' u' r' e')) (ha:A6 a=some x) (hb:A6 b=some y):Ah [true,false,false] false false ih f [.ptr (.ext 0) 0,a,b] ⟨own,MX s u r e⟩ k=k (.fv w) ⟨own,MX s' u' r' e'⟩ [.ext 1,.ext 0] [.ext 0,.ext 1] :=
 WZ own k [a,b] [false,false] (by simp) (UI ha hb) hr
theorem Qe {a b c:IV} {x y z:FV} (hr:Bm (ih f [.ptr (.ext 0) 0,.fv x,.fv y,.fv z] ⟨[],MX s u r e⟩) w (MX s' u' r' e')) (ha:A6 a=some x) (hb:A6 b=some y) (hc:A6 c=some z) :
  Ah [true,false,false,false] false false ih f [.ptr (.ext 0) 0,a,b,c] ⟨own,MX s u r e⟩ k=k (.fv w) ⟨own,MX s' u' r' e'⟩ [.ext 1,.ext 0] [.ext 0,.ext 1] :=
 WZ own k [a,b,c] [false,false,false] (by simp) (Acr ha hb hc) hr
end
theorem Alp {ih:Aa} {f:FuncId} {w:FV} {s0:Nat} {s u r e s' u' r' e':Int} {own:List (Nat×Blk)} {cells:List IV} {ro:Bool} {fc:List FV} (hr:Bm (ih f [.ptr (.ext 0) 0,.fv (.fp fc 0)] ⟨[],MX s u r e⟩) w (MX s' u' r' e'))
  (hl:Aq s0 own=some (.row cells ro)) (hz:C1 cells=some fc) (hn:cells.length≤300) (k:IV→Hp→List Ref→List Ref→Option (IV×Hp)) :
  Ah [true,false] false false ih f [.ptr (.ext 0) 0,.ptr (.own s0) 0] ⟨own,MX s u r e⟩ k=k (.fv w) ⟨AO s0 (.row cells true) own,MX s' u' r' e'⟩ [.ext 1,.ext 0,.own s0] [.own s0,.ext 0,.ext 1]:=by
 refine Zh (ks:=[false]) (vs:=[.fp fc 0]) (u:=[(.own s0,.row cells true)]) (lg:=[.own s0]) ?_ (AlO ..) hr ?_ k
 ·intro e k;rw [RJ,U8,LV,BB,hl];simp only [Option.bind_some,Js];rw [Bl,decide_eq_true hn,c_t,XR 10 _ _ _ cells _ hz,fz0];rfl
 ·intro k
  show (Gu own s0 fun _=>A2 own s0 (.row cells true) fun own=>k ⟨own,_⟩)=_
  rw [BB,hl,Option.bind_some,BV]
theorem AhZ {ih:Aa} {f:FuncId} {w:FV} {s0 s2 len:Nat} {s u r e s' u' r' e':Int} {own own':List (Nat×Blk)} {es:List FV} {ro ro2:Bool} {a b c d t x:FV} (hr:Bm (ih f [.ptr (.ext 0) 0,.fv (.fp [a,b,.sl es,c,d,t,x] 0)] ⟨[],MX s u r e⟩) w (MX s' u' r' e'))
  (hl:Aq s0 own=some (.row [.fv a,.fv b,.slc (.own s2) 1 len,.fv c,.fv d,.fv t,.fv x] ro)) (hl2:Aq s2 own=some (.row (es.map .fv) ro2)) (hlen:es.length=len) (hne:s2≠s0) (hn:es.length≤300) (ha:∀x∈es,∀l,x≠.agg l)
  (ho:AO s2 (.row (es.map .fv) true) (AO s0 (.row [.fv a,.fv b,.slc (.own s2) 1 len,.fv c,.fv d,.fv t,.fv x] true) own)=own') (k:IV→Hp→List Ref→List Ref→Option (IV×Hp)) :
  Ah [true,false] false false ih f [.ptr (.ext 0) 0,.ptr (.own s0) 0] ⟨own,MX s u r e⟩ k=k (.fv w) ⟨own',MX s' u' r' e'⟩ [.ext 1,.ext 0,.own s2,.own s0] [.own s0,.own s2,.ext 0,.ext 1]:=by
 subst ho hlen;refine Zh (ks:=[false]) (vs:=[.fp [a,b,.sl es,c,d,t,x] 0]) (u:=[(.own s0,.row [.fv a,.fv b,.slc (.own s2) 1 es.length,.fv c,.fv d,.fv t,.fv x] true),(.own s2,.row (es.map .fv) true)]) (lg:=[.own s2,.own s0]) ?_ (AlO ..) hr ?_ k
 ·intro e k;rw [RJ,Ars hl hl2 hn ha,fz0];rfl
 ·intro k;have h2:∀(own:List (Nat×Blk)) (b:Blk),Aq s2 (AO s0 b own)=Aq s2 own:=by
   intro own b
   induction own with
   | nil=>simp only [AO,Aq,if_neg hne]
   | cons p l ih =>
    obtain ⟨j,c⟩:=p;simp only [AO];split
    ·rename_i h;subst h;simp only [Aq,if_neg hne]
    ·simp only [Aq,ih]
  show (Gu own s0 fun _=>A2 own s0 _ fun own=>Gu own s2 fun _=>A2 own s2 _ fun own=>k ⟨own,_⟩)=_
  rw [BB,hl,Option.bind_some,BV,BB,h2,hl2,Option.bind_some,BV]
theorem Atl (e:List PV) (l:List FV):DW (PV.encEnv e::l)=DW l:=TZ (by cases e<;>rfl) l
structure M3 where
 s:Int
 w:Int
 e:Int
def Hg (m:M3):Option M3:=if m.w < -1000000000∨1000000000<m.w then none else some ⟨m.s,m.w - 1,if m.w - 1<0∧m.e=0 then 17 else m.e⟩
theorem QL {m m':M3} (h:Hg m=some m') (r:Int) {n:Nat} (hn:0<n):Bm (SS dt n 99 [.ptr (.ext 0) 0] ⟨[],MX m.s m.w r m.e⟩) (.tuple []) (MX m'.s m'.w r m'.e):=by
 obtain ⟨n,rfl⟩:∃k,n=k+1:=⟨n - 1,by omega⟩;rw [c99];unfold Hg at h;split at h
 ·cases h
 ·cases h;have hw:BA (m.w - 1)=m.w - 1:=by rw [Ax]<;>omega
  by_cases h1:m.w - 1<0
  ·by_cases h2:m.e=0
   ·simp only [RH,Rz,QU,R1,S99,↓XX,XY,↓reduceIte,Nat.reduceBEq,Nat.reduceAdd,Int.reduceEq,Int.reduceLT,Int.reduceLE,hw,h1,h2,true_and,and_true,if_true];exact AG _ _ _
   ·simp only [RH,Rz,QU,R1,S99,↓XX,XY,↓reduceIte,Nat.reduceBEq,Nat.reduceAdd,Int.reduceEq,Int.reduceLT,Int.reduceLE,hw,h1,h2,and_false,if_false];exact AG _ _ _
  ·simp only [RH,Rz,QU,R1,S99,↓XX,XY,↓reduceIte,Nat.reduceBEq,Nat.reduceAdd,Int.reduceEq,Int.reduceLT,Int.reduceLE,hw,h1,false_and,if_false];exact AG _ _ _
def Gl (env:List PV) (m:Int):PV:=if m<env.length then env.getD m.toNat .nil else .var (env.length - 1 - m)
theorem S6:∀(env:List PV) (m:Int),0≤m→m≤2305843009213693952→∀n,env.length<n→BE (By n (fun q3 l4 h5=>Kk l4 h5 q3) [.fv (PV.encEnv env),iv m] ⟨[],[]⟩) (Gl env m).enc:=by
 intro env m h0 h1 n hn;refine Bb (Q:=fun r=>BE r _) (fun k V H=>∃(rest:List PV) (j:Int),rest.length=k∧0≤j+env.length∧j≤m∧V=[.fv (PV.encEnv rest),iv j]∧H=⟨[],[]⟩∧Gl rest j=Gl env m∧0≤j) ?_ n env.length _ _ hn ⟨env,m,rfl,by omega,Int.le_refl _,rfl,rfl,rfl,h0⟩;rintro k V H rec ⟨rest,j,hl,hj,hjm,rfl,rfl,hlk,hj0⟩ hrec;have hw:BA (-1 - j)=-1 - j:=by rw [Ax]<;>omega
 have hw2:BA (j - 1)=j - 1:=by rw [Ax]<;>omega
 cases rest with
 | nil =>
  have:Gl ([]:List PV) j=.var (-1 - j):=by
   unfold Gl;rw [if_neg (by simp<;>omega)];rfl
  rw [← hlk,this,Ub];simp only [Mk,Mt,Mg,Mm,Kk,V3,Tg,↓XX,XY,↓reduceIte,Nat.reduceBEq,Nat.reduceAdd,Int.reduceEq,Int.reduceLT,Int.reduceLE,hw];exact ⟨_,_,rfl,.inl ⟨_,_,fun _ _=>rfl⟩⟩
 | cons v rest =>
  by_cases hz:j=0
  ·subst hz
   have:Gl (v::rest) 0=v:=by
    unfold Gl;rw [if_pos (by simp<;>omega)];rfl
   rw [← hlk,this];simp only [Mk,Mt,Mg,Mm,Kk,V3,OU,↓XX,XY,↓reduceIte,Nat.reduceBEq,Nat.reduceAdd,Int.reduceEq,Int.reduceLT,Int.reduceLE];exact Ao _ _
  ·simp only [Mk,Mt,Mg,Mm,Kk,V3,OU,↓XX,XY,↓reduceIte,Nat.reduceBEq,Nat.reduceAdd,Int.reduceEq,Int.reduceLT,Int.reduceLE,hz,hw2];simp only [Axe] at hl;refine hrec rest.length _ _ (by omega) ⟨rest,j - 1,rfl,by omega,by omega,rfl,rfl,?_,by omega⟩;rw [← hlk];unfold Gl;simp only [Axe,Int.natCast_add,Int.natCast_one];by_cases h:j<rest.length+1
   ·rw [if_pos h,if_pos (by omega)];obtain ⟨i,rfl⟩:∃i:Nat,j=i+1:=⟨(j - 1).toNat,by omega⟩;rw [show ((i:Int)+1 - 1).toNat=i by omega,show ((i:Int)+1).toNat=i+1 by omega]
    rfl
   ·rw [if_neg h,if_neg (by omega)];congr 1;omega
theorem VX {n:Nat} (env:List PV) (m:Int) (h0:0≤m) (h1:m≤2305843009213693952) (hn:env.length+1<n):BE (SS dt n 100 [.fv (PV.encEnv env),iv m] ⟨[],[]⟩) (Gl env m).enc:=by
 obtain ⟨n,rfl⟩:∃k,n=k+1:=⟨n - 1,by omega⟩;rw [At6];exact S6 env m h0 h1 n (by omega)
theorem Am9 {n:Nat} (env l:List PV) (hl:l.length≤10) (hn:l.length+1<n):BE (SS dt n 111 [.fv (PV.encEnv env),.fv (.sl (l.map PV.enc))] ⟨[],[]⟩) (PV.encEnv (l.reverse++env)):=by
 obtain ⟨n,rfl⟩:∃k,n=k+1:=⟨n - 1,by omega⟩;rw [Aur];simp only [MH,L6,UT,↓XX,XY,↓reduceIte,Nat.reduceBEq,Nat.reduceAdd,Int.reduceEq,Int.reduceLT,Int.reduceLE,↓AJ,XD,heldB,AL,XE];refine Bb (Q:=fun r=>BE r _) (fun k V H=>∃(pre rest:List PV),l=pre++rest∧rest.length=k∧V=[.fv (PV.encEnv (pre.reverse++env)),.fv (.sl (l.map PV.enc)),iv l.length,iv pre.length]∧H=⟨[],[]⟩) ?_ n l.length _ _ (by omega) ⟨[],l,rfl,rfl,rfl,rfl⟩;rintro k V H rec ⟨pre,rest,hk,hl2,rfl,rfl⟩ hrec;have hkl:l.length=pre.length+rest.length:=by rw [hk];simp
 cases rest with
 | nil =>
  have hno:¬ ((pre.length:Int)<l.length):=by rw [hkl];simp
  rw [List.append_nil] at hk;subst hk;simp only [MH,L6,Qa,UT,↓XX,XY,↓reduceIte,Nat.reduceBEq,Nat.reduceAdd,Int.reduceEq,Int.reduceLT,Int.reduceLE,hno];exact Ao _ _
 | cons x rest =>
  have hi:(pre.length:Int)<l.length:=by rw [hkl];simp;omega
  have hg:=Cu hk;have hwi:BA ((pre.length:Int)+1)=((pre++[x]).length:Int):=(Ax (by omega) (by omega)).trans (by simp);simp only [Axe] at hl2;simp only [MH,L6,Qa,UT,↓XX,XY,↓reduceIte,Nat.reduceBEq,Nat.reduceAdd,Int.reduceEq,Int.reduceLT,Int.reduceLE,hi,↓Ang hg,↓Ari,↓Aeg,hwi,↓AJ,XD,heldB,AL,XE];refine hrec rest.length _ _ (by omega) ⟨pre++[x],rest,by rw [hk];simp,rfl,?_,rfl⟩;simp [PV.encEnv]
end Idl
end Go.Proofs.Ytkfecngimlcfoaa
namespace Go.Proofs.Ytkfecngimlcfoaa
namespace Idl
def PV.op:PV→Int
 | .nil=>0
 | .mk op _ _ _ _=>op
def RX (ev:Tm→M3→Option (PV×M3)) (op:Int):Nat→List Tm→M3→Option (List PV×M3)
 | _,[],m=>some ([],m)
 | i,t::l,m=>if 0<Am op i then (RX ev op (i+1) l m).map fun (vs,m)=>(.nil::vs,m) else
  match ev t m with
  | none=>none
  | some (v,m)=>(RX ev op (i+1) l m).map fun (vs,m)=>(v::vs,m)
def CE (op:Int):Bool:=op == 5 || (op == 8 || (op == 9 || (op == 13 || (op == 30 || op == 19))))
mutual
def Qw:Nat→List PV→Tm→M3→Option (PV×M3)
 | 0,_,_,_=>none
 | f+1,env,.mk op n ks,m=>match Hg m with
  | none=>none
  | some m=>if op=1 then (if 0≤n∧n≤2305843009213693952∧env.length+1<f then some (Gl env n,m) else none)
   else if f≤ks.length∨300<ks.length∨f=0 then none
   else if m.e≠0 then some (.mk op n (List.replicate ks.length .nil) (.mk op n ks) env,m)
   else match RX (fun t m=>Qw f env t m) op 0 ks m with
    | none=>none
    | some (vs,m)=>if m.e≠0 then some (.mk op n vs (.mk op n ks) env,m) else ctP f (.mk op n vs (.mk op n ks) env) m
def ctP:Nat→PV→M3→Option (PV×M3)
 | 0,_,_=>none
 | f+1,v,m=>match v with
  | .nil=>none
  | .mk op n k t e=>if CE op then (if m.e≠0 then some (.mk op n k t e,m) else if f=0 then none else match Hg m with
    | none=>none
    | some m=>if m.e≠0 then some (.mk op n k t e,m) else match stP f (.mk op n k t e) m with
     | none=>none
     | some (.nil,m)=>some (.mk op n k t e,m)
     | some (u,m)=>if m.e≠0 then some (.mk op n k t e,m) else if m.s < -1000000000∨1000000000<m.s then none else
      some (u,⟨m.s - 1,m.w,if m.s - 1<0 then 17 else 0⟩))
   else some (.mk op n k t e,m)
def stP:Nat→PV→M3→Option (PV×M3)
 | 0,_,_=>none
 | f+1,v,m=>match v with
  | .nil=>none
  | .mk op n k t e=>if op=5 then (match k with
    | [.mk o0 n0 k0 t0 e0,x]=>if o0=4 then opP f (.mk o0 n0 k0 t0 e0) 1 [x] m else some (.nil,m)
    | _=>none)
   else if op=8∨op=9 then (match k with
    | [.mk o0 n0 k0 t0 e0]=>if o0=7 then (match k0 with
      | [_,x,y]=>some (if op=8 then x else y,m)
      | _=>none) else some (.nil,m)
    | _=>none)
   else if op=13 then (match k with
    | [_,z,_,.mk o3 n3 k3 t3 e3]=>if o3=11 then some (z,m) else if o3=12 then (match k3 with
      | [x]=>(match ctP f (.mk op n [.nil,z,.nil,x] t e) m with
       | none=>none
       | some (h,m)=>opP f (.mk op n k t e) 2 [x,h] m)
      | _=>none) else some (.nil,m)
    | _=>none)
   else (
      match k with
    | [.mk o0 n0 k0 t0 e0]=>if o0=(if op=30 then 19 else 30) then (match k0 with
      | [x]=>some (x,m)
      | _=>none) else some (.nil,m)
    | _=>none)
def opP:Nat→PV→Nat→List PV→M3→Option (PV×M3)
 | 0,_,_,_,_=>none
 | f+1,v,i,l,m=>match v with
  | .nil=>none
  | .mk _ _ _ (.mk _ _ tk) e=>if f≤l.length+1∨10<l.length then none else match tk[i]? with
   | none=>none
   | some b=>Qw f (l.reverse++e) b m
end
theorem tMk:(EE.T 98).map (·.kind)=some (.map 3 124):=by kernel_rfl
theorem tIk:(EE.T 3).map (·.kind)=some (.int .i64):=by kernel_rfl
theorem tRz:(EE.T 124).bind Rg=some (.fv (.agg [.nilf])):=by kernel_rfl
def KH:List (Int×IV):=[(5,CM 94),(8,CM 95),(9,CM 95),(13,CM 96),(30,CM 97),(19,CM 98)]
theorem Asi (op:Int) (own:List (Nat×Blk)) (s w r e:Int):(GJ EE 98 (.mapr (.ext 1)) (iv op) true).runLog ⟨own,MX s w r e⟩ [] =
  some ((match CW op KH with
   | some v=>({ eff:={ val:=Co [v,.fv (.bool true)] } }:Made)
   | none=>{ eff:={ val:=Co [.fv (.agg [.nilf]),.fv (.bool false)] } }),[.ext 1]):=by
 have h1:=tMk;have h2:=tIk;have h3:=tRz;cases hm:EE.T 98 with
 | none=>rw [hm] at h1;cases h1
 | some ti =>
  cases hi:EE.T 3 with
  | none=>rw [hi] at h2;cases h2
  | some ii =>
   cases hr:EE.T 124 with
   | none=>rw [hr] at h3;cases h3
   | some ri =>
    rw [hm] at h1;rw [hi] at h2;rw [hr] at h3;obtain ⟨a,b,kd,z⟩:=ti;obtain ⟨a2,b2,kd2,z2⟩:=ii;simp only [Axd,Axa] at h1 h2;simp only [Option.bind_some] at h3;subst h1 h2;simp only [GJ,hm,hi,hr,UO,Rd.runLog,Hp.get,MX,List.getElem?_cons_succ,List.getElem?_cons_zero]
    show (match CW op KH with | some v=>val (Co [v,.fv (.bool true)]) | none=>_).runLog _ _=_
    cases CW op KH with
    | some v=>rfl
    | none=>simp only [h3];rfl
theorem Lj {op:Int} {g:FuncId} (hg:CW op KH=some (CM g)) (s0:Nat) (own:List (Nat×Blk)) (s w r e:Int) (k:IV→Hp→List Ref→List Ref→Option (IV×Hp)) :
  Ay (GJ EE 98 (.mapr (.ext 1)) (iv op) true) s0 ⟨own,MX s w r e⟩ k=k (.tuple [CM g,.fv (.bool true)]) ⟨own,MX s w r e⟩ [.ext 1] []:=by
 unfold Ay;rw [Asi,hg];simp only [Jd,Ci];rfl
theorem Ake {op:Int} (hg:CW op KH=none) (s0:Nat) (own:List (Nat×Blk)) (s w r e:Int) (k:IV→Hp→List Ref→List Ref→Option (IV×Hp)) :
  Ay (GJ EE 98 (.mapr (.ext 1)) (iv op) true) s0 ⟨own,MX s w r e⟩ k=k (.fv (.tuple [.agg [.nilf],.bool false])) ⟨own,MX s w r e⟩ [.ext 1] []:=by
 unfold Ay;rw [Asi,hg];simp only [Jd,Ci];rfl
theorem Wf (op:Int):CW op KH=if op=5 then some (CM 94) else if op=8∨op=9 then some (CM 95) else if op=13 then some (CM 96) else
  if op=30 then some (CM 97) else if op=19 then some (CM 98) else none:=by
 simp only [KH,CW];split
 ·rfl
 ·split
  ·rename_i h;rw [if_pos (.inl h)]
  ·split
   ·rename_i h;rw [if_pos (.inr h)]
   ·rename_i h1 h2;simp only [h1,h2,or_self,if_false]
theorem T5 {g:FuncId} (h:EE.pol.inl g=false) (h1:EE.pol.keep g=[true,false]) (h2:EE.pol.split g=false) (h3:EE.pol.raw g=false) (ih:Aa) (x:IV) (h0:Hp) (k:IV→Hp→List Ref→List Ref→Option (IV×Hp)) :
  Fs EE ih (.func (.func g) [.ptr (.ext 0) 0] []) [x] h0 k=Ah [true,false] false false ih g [.ptr (.ext 0) 0,x] h0 k:=by
 unfold Fs;simp only [callee,h,cond_false,AdP,h1,h2,h3];rfl
theorem Anr (ih:Aa) (x:IV) (h0:Hp) (k:IV→Hp→List Ref→List Ref→Option (IV×Hp)):Fs EE ih (.func (.func 94) [.ptr (.ext 0) 0] []) [x] h0 k=Ah [true,false] false false ih 94 [.ptr (.ext 0) 0,x] h0 k :=
 T5 (by kernel_rfl) (by kernel_rfl) (by kernel_rfl) (by kernel_rfl) ..
theorem Abm (ih:Aa) (x:IV) (h0:Hp) (k:IV→Hp→List Ref→List Ref→Option (IV×Hp)):Fs EE ih (.func (.func 95) [.ptr (.ext 0) 0] []) [x] h0 k=Ah [true,false] false false ih 95 [.ptr (.ext 0) 0,x] h0 k :=
 T5 (by kernel_rfl) (by kernel_rfl) (by kernel_rfl) (by kernel_rfl) ..
theorem Anh (ih:Aa) (x:IV) (h0:Hp) (k:IV→Hp→List Ref→List Ref→Option (IV×Hp)):Fs EE ih (.func (.func 96) [.ptr (.ext 0) 0] []) [x] h0 k=Ah [true,false] false false ih 96 [.ptr (.ext 0) 0,x] h0 k :=
 T5 (by kernel_rfl) (by kernel_rfl) (by kernel_rfl) (by kernel_rfl) ..
theorem Ap9 (ih:Aa) (x:IV) (h0:Hp) (k:IV→Hp→List Ref→List Ref→Option (IV×Hp)):Fs EE ih (.func (.func 97) [.ptr (.ext 0) 0] []) [x] h0 k=Ah [true,false] false false ih 97 [.ptr (.ext 0) 0,x] h0 k :=
 T5 (by kernel_rfl) (by kernel_rfl) (by kernel_rfl) (by kernel_rfl) ..
theorem Apf (ih:Aa) (x:IV) (h0:Hp) (k:IV→Hp→List Ref→List Ref→Option (IV×Hp)):Fs EE ih (.func (.func 98) [.ptr (.ext 0) 0] []) [x] h0 k=Ah [true,false] false false ih 98 [.ptr (.ext 0) 0,x] h0 k :=
 T5 (by kernel_rfl) (by kernel_rfl) (by kernel_rfl) (by kernel_rfl) ..
theorem ZN (cs:List FV) (o:Nat) (k:IV→Option (IV×Hp)):AN EE 96 (.fv (.fp cs o)) (.fv .nilp) k=k (.fv (.bool false)):=by
 have:FJ EE .eql 96 (.fv (.fp cs o)) (.fv .nilp)=some (.fv (.bool false)):=by
  simp only [FJ,tPp];rfl
 show CL (FJ EE .eql 96 (.fv (.fp cs o)) (.fv .nilp)) k=_
 rw [this];rfl
theorem W4 (k:IV→Option (IV×Hp)):AN EE 96 (.fv .nilp) (.fv .nilp) k=k (.fv (.bool true)):=by
 have:FJ EE .eql 96 (.fv .nilp) (.fv .nilp)=some (.fv (.bool true)):=by
  simp only [FJ,tPp];rfl
 show CL (FJ EE .eql 96 (.fv .nilp) (.fv .nilp)) k=_
 rw [this];rfl
theorem HM (g:FuncId) (s0:Nat) (ext:List Blk) (k:Hp→List Ref→List Ref→Option (IV×Hp)):Af 1 (.ptr (.own s0) 0) (CM g) ⟨[(s0,.row [.fv .nilf] false)],ext⟩ k=k ⟨[(s0,.row [.func (.func g) [.ptr (.ext 0) 0] []] false)],ext⟩ [.own s0] [.own s0]:=by
 simp only [Af,UW,Qy,LV,AmK,Yl];rw [if_pos ⟨rfl,rfl,by simp,rfl,rfl⟩,AdP]
 show FM (.own s0) (.row [.func (.func g) [.ptr (.ext 0) 0] []] false) _ _=_
 rw [Ab3,AmB]
def AlW (f:Nat):Prop:=∀(env:List PV) (t:Tm) (m m':M3) (v:PV),Qw f env t m=some (v,m')→∀(r:Int) (n:Nat),f+1≤n →
 Bm (SS dt n 71 [.ptr (.ext 0) 0,.fv (PV.encEnv env),.fv t.enc] ⟨[],MX m.s m.w r m.e⟩) v.enc (MX m'.s m'.w r m'.e)
def Alq (f:Nat):Prop:=∀(v u:PV) (m m':M3),ctP f v m=some (u,m')→∀(r:Int) (n:Nat),f+1≤n →
 Bm (SS dt n 102 [.ptr (.ext 0) 0,.fv v.enc] ⟨[],MX m.s m.w r m.e⟩) u.enc (MX m'.s m'.w r m'.e)
def I6 (op:Int):FuncId:=if op=5 then 94 else if op=8∨op=9 then 95 else if op=13 then 96 else if op=30 then 97 else 98
def An9 (f:Nat):Prop:=∀(v u:PV) (m m':M3),CE v.op=true→stP f v m=some (u,m')→∀(r:Int) (n:Nat),f+1≤n →
 Bm (SS dt n (I6 v.op) [.ptr (.ext 0) 0,.fv v.enc] ⟨[],MX m.s m.w r m.e⟩) u.enc (MX m'.s m'.w r m'.e)
def Aed (f:Nat):Prop:=∀(v u:PV) (i:Nat) (l:List PV) (m m':M3),opP f v i l m=some (u,m')→∀(r:Int) (n:Nat),f+1≤n →
 Bm (SS dt n 103 [.ptr (.ext 0) 0,.fv v.enc,iv i,.fv (.sl (l.map PV.enc))] ⟨[],MX m.s m.w r m.e⟩) u.enc (MX m'.s m'.w r m'.e)
theorem GO {op:Int} (h:CE op=true):CW op KH=some (CM (I6 op)):=by
 rw [Wf];unfold I6;simp only [CE,Bool.or_eq_true,beq_iff_eq] at h;rcases h with h | h | h | h | h | h<;>subst h<;>rfl
theorem AcJ {op:Int} (h:CE op=false):CW op KH=none:=by
 rw [Wf];simp only [CE,Bool.or_eq_false_iff,beq_eq_false_iff_ne,ne_eq] at h;obtain ⟨h1,h2,h3,h4,h5,h6⟩:=h;simp only [h1,h2,h3,h4,h5,h6,or_self,if_false]
theorem MI {op:Int} (h:CE op=true) (ih:Aa) (x:IV) (h0:Hp) (k:IV→Hp→List Ref→List Ref→Option (IV×Hp)) :
  Fs EE ih (.func (.func (I6 op)) [.ptr (.ext 0) 0] []) [x] h0 k=Ah [true,false] false false ih (I6 op) [.ptr (.ext 0) 0,x] h0 k:=by
 simp only [CE,Bool.or_eq_true,beq_iff_eq] at h;rcases h with h | h | h | h | h | h<;>subst h
 ·exact Anr ..
 ·exact Abm ..
 ·exact Abm ..
 ·exact Anh ..
 ·exact Ap9 ..
 ·exact Apf ..
set_option maxHeartbeats 1000000 in
theorem Ahq {f:Nat} (hs:An9 f):Alq (f+1):=by
 intro v u m m' hev r n hn;obtain ⟨n,rfl⟩:∃k,n=k+1:=⟨n - 1,by omega⟩;rw [Auj];cases v with
 | nil=>rw [ctP] at hev;cases hev
 | mk op nn k t e =>
 rw [ctP] at hev;have hs:=hs (.mk op nn k t e);obtain ⟨bo,bn,bk⟩:=t;rw [AW] at hs ⊢;cases hr:CE op with
 | false =>
  simp only [hr,Bool.false_eq_true,if_false,Axa,Axb] at hev;obtain ⟨rfl,rfl⟩:=hev;rw [AW];simp only [↓VS,↓XX,XY,↓reduceIte,Nat.reduceBEq,Nat.reduceAdd,Int.reduceEq,Int.reduceLT,Int.reduceLE,↓Ake (AcJ hr)];exact AG _ _ _
 | true =>
  simp only [hr,if_true] at hev;by_cases h0:m.e≠0
  ·rw [if_pos h0] at hev;simp only [Axa,Axb] at hev;obtain ⟨rfl,rfl⟩:=hev;rw [AW];simp only [↓VS,↓XX,XY,↓reduceIte,Nat.reduceBEq,Nat.reduceAdd,Int.reduceEq,Int.reduceLT,Int.reduceLE,↓Lj (GO hr),↓HM,h0];exact AG _ _ _
  ·rw [if_neg h0] at hev;have h0:m.e=0:=by simpa using h0
   split at hev
   ·cases hev
   ·rename_i hf0;cases ht:Hg m with
    | none=>rw [ht] at hev;cases hev
    | some m1 =>
     rw [ht] at hev;simp only at hev;have hc1:=QL ht r (n:=n) (by omega);by_cases h1:m1.e≠0
     ·rw [if_pos h1] at hev;simp only [Axa,Axb] at hev;obtain ⟨rfl,rfl⟩:=hev;rw [AW];simp only [h0] at hc1;simp only [↓VS,↓XX,XY,↓reduceIte,Nat.reduceBEq,Nat.reduceAdd,Int.reduceEq,Int.reduceLT,Int.reduceLE,↓Lj (GO hr),↓HM,h0,↓FH _ _ hc1,h1];exact AG _ _ _
     ·rw [if_neg h1] at hev;have h1:m1.e=0:=by simpa using h1
      cases hst:stP f (.mk op nn k (.mk bo bn bk) e) m1 with
      | none=>rw [hst] at hev;cases hev
      | some q =>
       obtain ⟨x,m2⟩:=q;rw [hst] at hev;have hc2:=hs x m1 m2 hr hst r n (by omega);simp only [PV.op] at hc2;simp only [h0] at hc1;simp only [h1] at hc1 hc2;cases x with
       | nil =>
        simp only [Axa,Axb] at hev;obtain ⟨rfl,rfl⟩:=hev;rw [AW];rw [GA] at hc2;simp only [↓VS,↓XX,XY,↓reduceIte,Nat.reduceBEq,Nat.reduceAdd,Int.reduceEq,Int.reduceLT,Int.reduceLE,↓Lj (GO hr),↓HM,h0,↓FH _ _ hc1,h1,↓MI hr,↓Rq _ _ hc2,↓ZN,↓W4];exact AG _ _ _
       | mk op2 nn2 k2 t2 e2 =>
        simp only at hev;obtain ⟨bo2,bn2,bk2⟩:=t2;by_cases h2:m2.e≠0
        ·rw [if_pos h2] at hev;simp only [Axa,Axb] at hev;obtain ⟨rfl,rfl⟩:=hev;rw [AW] at hc2 ⊢;simp only [↓VS,↓XX,XY,↓reduceIte,Nat.reduceBEq,Nat.reduceAdd,Int.reduceEq,Int.reduceLT,Int.reduceLE,↓Lj (GO hr),↓HM,h0,↓FH _ _ hc1,h1,↓MI hr,↓Rq _ _ hc2,↓ZN,↓W4,h2];exact AG _ _ _
        ·rw [if_neg h2] at hev;have h2:m2.e=0:=by simpa using h2
         split at hev
         ·cases hev
         ·simp only [Axa,Axb] at hev;obtain ⟨rfl,rfl⟩:=hev;have hw:BA (m2.s - 1)=m2.s - 1:=by rw [Ax]<;>omega
          rw [AW] at hc2 ⊢;simp only [h2] at hc2;by_cases h3:m2.s - 1<0
          ·simp only [↓VS,↓XX,XY,↓reduceIte,Nat.reduceBEq,Nat.reduceAdd,Int.reduceEq,Int.reduceLT,Int.reduceLE,↓Lj (GO hr),↓HM,h0,↓FH _ _ hc1,h1,↓MI hr,↓Rq _ _ hc2,↓ZN,↓W4,h2,hw,h3];exact AG _ _ _
          ·simp only [↓VS,↓XX,XY,↓reduceIte,Nat.reduceBEq,Nat.reduceAdd,Int.reduceEq,Int.reduceLT,Int.reduceLE,↓Lj (GO hr),↓HM,h0,↓FH _ _ hc1,h1,↓MI hr,↓Rq _ _ hc2,↓ZN,↓W4,h2,hw,h3];exact AG _ _ _
theorem ixg {β:Type} {l:List FV} {i:Nat} {x:FV} (h:l[i]?=some x) (hx:x.cells=[x]) (k:IV→Option β):AT 1 (.fv (.sl l)) (iv i) k=k (.fv (.fp [x] 0)):=by
 rw [Bz h (by rw [hx];rfl),hx]
section
variable {β:Type} (a b c:FV) (l:List FV) (cs:List FV) (o:Nat) (v:PV) (k:IV→Option β)
theorem Auh:AT 1 (.fv (.sl (.fp cs o::l))) (iv 0) k=k (.fv (.fp [.fp cs o] 0)):=ixg (i:=0) rfl rfl k
theorem AtU:AT 1 (.fv (.sl (v.enc::l))) (iv 0) k=k (.fv (.fp [v.enc] 0)):=ixg (i:=0) rfl (Ea v) k
theorem AtV:AT 1 (.fv (.sl (a :: .fp cs o::l))) (iv 1) k=k (.fv (.fp [.fp cs o] 0)):=ixg (i:=1) rfl rfl k
theorem Auf:AT 1 (.fv (.sl (a::v.enc::l))) (iv 1) k=k (.fv (.fp [v.enc] 0)):=ixg (i:=1) rfl (Ea v) k
theorem Auz:AT 1 (.fv (.sl (a::b :: .fp cs o::l))) (iv 2) k=k (.fv (.fp [.fp cs o] 0)):=ixg (i:=2) rfl rfl k
theorem AtP:AT 1 (.fv (.sl (a::b::v.enc::l))) (iv 2) k=k (.fv (.fp [v.enc] 0)):=ixg (i:=2) rfl (Ea v) k
theorem AtT:AT 1 (.fv (.sl (a::b::c :: .fp cs o::l))) (iv 3) k=k (.fv (.fp [.fp cs o] 0)):=ixg (i:=3) rfl rfl k
theorem At8:AT 1 (.fv (.sl (a::b::c::v.enc::l))) (iv 3) k=k (.fv (.fp [v.enc] 0)):=ixg (i:=3) rfl (Ea v) k
end
def XI:=Aw9 @Auh<|Aw9 @AtV<|Aw9 @Auz<|Aw9 @AtT<|Aw9 @AtU<|Aw9 @Auf<|Aw9 @AtP @At8
theorem Arg {β:Type} (o p:Nat) (cs:List FV) (k:IV→Option β):Ab o (.fv (.fp cs p)) k=k (.fv (.fp cs (p+o))):=by rw [Pu]
theorem Aom (s:Nat) (b:Blk) (l:List (Nat×Blk)):Aq s ((s,b)::l)=some b:=by simp only [Aq,if_true]
theorem Ahg {f:Nat} (he:AlW f):Aed (f+1):=by
 intro v u i l m m' hev r n hn;obtain ⟨n,rfl⟩:∃k,n=k+1:=⟨n - 1,by omega⟩;rw [AtN];cases v with
 | nil=>rw [opP] at hev;cases hev
 | mk op nn k t e =>
 obtain ⟨bo,bn,bk⟩:=t;rw [opP] at hev;split at hev
 ·cases hev
 ·rename_i hf;cases hb:bk[i]? with
  | none=>rw [hb] at hev;cases hev
  | some b =>
   rw [hb] at hev;simp only at hev;have hw:=Am9 (n:=n) e l (by omega) (by omega);have hc:=he _ _ _ _ _ hev r n (by omega);rw [AW];obtain ⟨b1,b2,b3⟩:=b;have hg:=AQ hb;rw [An] at hc;simp only [Ab9,Wh,AgG,↓XX,XY,↓reduceIte,Nat.reduceBEq,Nat.reduceAdd,Int.reduceEq,Int.reduceLT,Int.reduceLE,↓Aj hw,↓Bz hg (Bg _ _ _),↓Cb,↓Arg,↓Aem _ _ hc];exact AG _ _ _
theorem Ta {n:Nat} (hn:0<n) (op nn:Int) (o0 n0:Int) (k0:List PV) (t0:Tm) (e0:List PV) (t:Tm) (e:List PV) (want:Int) (hk:o0=want→∃x,k0=[x]) :
  BE (SS dt n 109 [.fv (PV.mk op nn [.mk o0 n0 k0 t0 e0] t e).enc,iv want] ⟨[],[]⟩) (if o0=want then k0.headD .nil else .nil).enc:=by
 obtain ⟨n,rfl⟩:∃k,n=k+1:=⟨n - 1,by omega⟩;rw [At4];obtain ⟨bo,bn,bk⟩:=t;obtain ⟨co,cn,ck⟩:=t0;rw [AW,Axg,Axf,AW];by_cases h:o0=want
 ·obtain ⟨x,rfl⟩:=hk h;rw [if_pos h];simp only [Ri,PU,Qp,Adb,↓XX,XY,↓reduceIte,Nat.reduceBEq,Nat.reduceAdd,Int.reduceEq,Int.reduceLT,Int.reduceLE,↓XI,h,List.headD_cons];exact Ao _ _
 ·rw [if_neg h,GA];simp only [Ri,PU,Qp,Adb,↓XX,XY,↓reduceIte,Nat.reduceBEq,Nat.reduceAdd,Int.reduceEq,Int.reduceLT,Int.reduceLE,↓XI,h];exact Ao _ _
theorem AiF {f:Nat} (hc:Alq f) (ho:Aed f):An9 (f+1):=by
 intro v u m m' hr hev r n hn;obtain ⟨n,rfl⟩:∃k,n=k+1:=⟨n - 1,by omega⟩;cases v with
 | nil=>rw [stP] at hev;cases hev
 | mk op nn k t e =>
 obtain ⟨bo,bn,bk⟩:=t;rw [stP.eq_def] at hev;simp only at hev;simp only [PV.op] at hr ⊢;by_cases h5:op=5
 ·subst h5;rw [if_pos rfl] at hev;rw [show I6 5=94 from rfl,c94]
  match k,hev with
  | [.mk o0 n0 k0 t0 e0,x],hev =>
   simp only at hev;obtain ⟨co,cn,ck⟩:=t0;by_cases h4:o0=4
   ·subst h4;rw [if_pos rfl] at hev;have hq:=ho _ _ _ _ _ _ hev r n (by omega);rw [AW] at hq ⊢;simp only [Axg,Axf,AW] at hq ⊢;simp only [V4,VH,UP,S94,↓XX,XY,↓reduceIte,Nat.reduceBEq,Nat.reduceAdd,Int.reduceEq,Int.reduceLT,Int.reduceLE,↓XI,↓AsP,↓Qe _ _ hq];exact AG _ _ _
   ·rw [if_neg h4] at hev;simp only [Axa,Axb] at hev;obtain ⟨rfl,rfl⟩:=hev;rw [AW];simp only [Axg,Axf,AW,GA];simp only [V4,VH,UP,S94,↓XX,XY,↓reduceIte,Nat.reduceBEq,Nat.reduceAdd,Int.reduceEq,Int.reduceLT,Int.reduceLE,↓XI,h4];exact AG _ _ _
 ·rw [if_neg h5] at hev;by_cases h8:op=8∨op=9
  ·rw [if_pos h8] at hev;rw [show I6 op=95 by rcases h8 with rfl | rfl<;>rfl,c95]
   match k,hev with
   | [.mk o0 n0 k0 t0 e0],hev =>
    simp only at hev;obtain ⟨co,cn,ck⟩:=t0;by_cases h7:o0=7
    ·subst h7;rw [if_pos rfl] at hev
     match k0,hev with
     | [w,x,y],hev =>
      simp only [Axa,Axb] at hev;obtain ⟨rfl,rfl⟩:=hev;rw [AW];simp only [Axg,Axf,AW];rcases h8 with rfl | rfl
      ·simp only [Rp,Qz,R2,PQ,S95,↓XX,XY,↓reduceIte,Nat.reduceBEq,Nat.reduceAdd,Int.reduceEq,Int.reduceLT,Int.reduceLE,↓XI];exact AG _ _ _
      ·simp only [Rp,Qz,R2,PQ,S95,↓XX,XY,↓reduceIte,Nat.reduceBEq,Nat.reduceAdd,Int.reduceEq,Int.reduceLT,Int.reduceLE,↓XI];exact AG _ _ _
    ·rw [if_neg h7] at hev;simp only [Axa,Axb] at hev;obtain ⟨rfl,rfl⟩:=hev;rw [AW];simp only [Axg,Axf,AW,GA];simp only [Rp,Qz,R2,PQ,S95,↓XX,XY,↓reduceIte,Nat.reduceBEq,Nat.reduceAdd,Int.reduceEq,Int.reduceLT,Int.reduceLE,↓XI,h7];exact AG _ _ _
  ·rw [if_neg h8] at hev;by_cases h13:op=13
   ·subst h13;rw [if_pos rfl] at hev;rw [show I6 13=96 from rfl,c96]
    match k,hev with
    | [p0,z,p2,.mk o3 n3 k3 t3 e3],hev =>
     simp only at hev;obtain ⟨co,cn,ck⟩:=t3;by_cases h11:o3=11
     ·subst h11;rw [if_pos rfl] at hev;simp only [Axa,Axb] at hev;obtain ⟨rfl,rfl⟩:=hev;rw [AW];simp only [Axg,Axf,AW];simp only [QM,P6,Qg,Q1,Qs,PW,RL,Rk,Sd,QI,S96,↓XX,XY,↓reduceIte,Nat.reduceBEq,Nat.reduceAdd,Int.reduceEq,Int.reduceLT,Int.reduceLE,↓XI];exact AG _ _ _
     ·rw [if_neg h11] at hev;by_cases h12:o3=12
      ·subst h12;rw [if_pos rfl] at hev
       match k3,hev with
       | [x],hev =>
        simp only at hev;cases hcc:ctP f (.mk 13 nn [.nil,z,.nil,x] (.mk bo bn bk) e) m with
        | none=>rw [hcc] at hev;cases hev
        | some q =>
         obtain ⟨h,m1⟩:=q;rw [hcc] at hev;have hq1:=hc _ _ _ _ hcc r n (by omega);have hq2:=ho _ _ _ _ _ _ hev r n (by omega);rw [AW] at hq1 hq2 ⊢;simp only [Axg,Axf,AW,GA] at hq1 hq2 ⊢;simp only [QM,P6,Qg,Q1,Qs,PW,RL,Rk,Sd,QI,S96,↓XX,XY,↓reduceIte,Nat.reduceBEq,Nat.reduceAdd,Int.reduceEq,Int.reduceLT,Int.reduceLE,↓XI,↓AsQ,↓Atl];rw [Alp hq1 (s0:=100669443) (Aom ..) rfl (by simp)];simp only [↓XX,XY,↓reduceIte,Nat.reduceBEq,Nat.reduceAdd,Int.reduceEq,Int.reduceLT,Int.reduceLE,↓Ar1,↓Qe _ _ hq2];exact AG _ _ _
      ·rw [if_neg h12] at hev;simp only [Axa,Axb] at hev;obtain ⟨rfl,rfl⟩:=hev;rw [AW];simp only [Axg,Axf,AW,GA];simp only [QM,P6,Qg,Q1,Qs,PW,RL,Rk,Sd,QI,S96,↓XX,XY,↓reduceIte,Nat.reduceBEq,Nat.reduceAdd,Int.reduceEq,Int.reduceLT,Int.reduceLE,↓XI,h11,h12];exact AG _ _ _
   ·rw [if_neg h13] at hev
    match k,hev with
    | [.mk o0 n0 k0 t0 e0],hev =>
     simp only at hev;have h30:op=30∨op=19:=by
      simp only [CE,Bool.or_eq_true,beq_iff_eq] at hr;omega
     have hu:((o0=(if op=30 then 19 else 30)→∃x,k0=[x])∧(if o0=(if op=30 then 19 else 30) then k0.headD .nil else .nil)=u∧m=m'):=by
      by_cases ho0:o0=(if op=30 then 19 else 30)
      ·rw [if_pos ho0] at hev
       match k0,hev with
       | [x],hev =>
        simp only [Axa,Axb] at hev;obtain ⟨rfl,rfl⟩:=hev;exact ⟨fun _=>⟨_,rfl⟩,by rw [if_pos ho0];rfl,rfl⟩
      ·rw [if_neg ho0] at hev;simp only [Axa,Axb] at hev;obtain ⟨rfl,rfl⟩:=hev;exact ⟨fun h=>absurd h ho0,by rw [if_neg ho0],rfl⟩
     obtain ⟨hu1,rfl,rfl⟩:=hu;rcases h30 with rfl | rfl
     ·rw [show I6 30=97 from rfl,c97]
      rw [show (if (30:Int)=30 then (19:Int) else 30)=19 from rfl] at hu1 ⊢
      have hw:=Ta (n:=n) (by omega) 30 nn o0 n0 k0 t0 e0 (.mk bo bn bk) e 19 hu1;simp only [S97,↓XX,XY,↓reduceIte,Nat.reduceBEq,Nat.reduceAdd,Int.reduceEq,Int.reduceLT,Int.reduceLE,↓Aj hw];exact AG _ _ _
     ·rw [show I6 19=98 from rfl,c98]
      rw [show (if (19:Int)=30 then (19:Int) else 30)=30 from rfl] at hu1 ⊢
      have hw:=Ta (n:=n) (by omega) 19 nn o0 n0 k0 t0 e0 (.mk bo bn bk) e 30 hu1;simp only [S98,↓XX,XY,↓reduceIte,Nat.reduceBEq,Nat.reduceAdd,Int.reduceEq,Int.reduceLT,Int.reduceLE,↓Aj hw];exact AG _ _ _
end Idl
end Go.Proofs.Ytkfecngimlcfoaa
namespace Go.Proofs.Ytkfecngimlcfoaa
namespace Idl
theorem AjB (ih:Aa) (xs:List IV) (h0:Hp) (k:IV→Hp→List Ref→List Ref→Option (IV×Hp)):Fs EE ih (.fv (.func (.func 110) [] [])) xs h0 k=Ah [] false false ih 110 xs h0 k :=
 Arx (by kernel_rfl) (by kernel_rfl) (by kernel_rfl) (by kernel_rfl) ..
theorem Ac5 {n:Nat} (hn:0<n) (op:Int) (i:Nat):BE (SS dt n 110 [iv op,iv i] ⟨[],[]⟩) (.int .i64 (Am op i)):=by
 obtain ⟨n,rfl⟩:∃k,n=k+1:=⟨n - 1,by omega⟩;rw [Auu];unfold Am;by_cases h:op=3∨op=4∨op=6∨op=20∨op=28∨op=29
 ·rw [if_pos h];by_cases hi:i=1
  ·subst hi;rcases h with rfl | rfl | rfl | rfl | rfl | rfl<;>(simp only [↓AcU,↓XX,XY,↓reduceIte,Nat.reduceBEq,Nat.reduceAdd,Int.reduceEq,Int.reduceLT,Int.reduceLE];exact Ao _ _)
  ·have hi':¬ (i:Int)=1:=by omega
   rcases h with rfl | rfl | rfl | rfl | rfl | rfl<;>(simp only [↓AcU,↓XX,XY,↓reduceIte,Nat.reduceBEq,Nat.reduceAdd,Int.reduceEq,Int.reduceLT,Int.reduceLE,hi',hi];exact Ao _ _)
 ·rw [if_neg h];have h3:¬ op=3:=fun e=>h (by simp [e]);have h4:¬ op=4:=fun e=>h (by simp [e]);have h6:¬ op=6:=fun e=>h (by simp [e]);have h20:¬ op=20:=fun e=>h (by simp [e]);have h28:¬ op=28:=fun e=>h (by simp [e]);have h29:¬ op=29:=fun e=>h (by simp [e]);by_cases h13:op=13
  ·subst h13;by_cases h0:i=0
   ·subst h0;simp only [↓AcU,↓XX,XY,↓reduceIte,Nat.reduceBEq,Nat.reduceAdd,Int.reduceEq,Int.reduceLT,Int.reduceLE];exact Ao _ _
   ·have h0':¬ (i:Int)=0:=by omega
    by_cases h2:i=2
    ·subst h2;simp only [↓AcU,↓XX,XY,↓reduceIte,Nat.reduceBEq,Nat.reduceAdd,Int.reduceEq,Int.reduceLT,Int.reduceLE];exact Ao _ _
    ·have h2':¬ (i:Int)=2:=by omega
     simp only [↓AcU,↓XX,XY,↓reduceIte,Nat.reduceBEq,Nat.reduceAdd,Int.reduceEq,Int.reduceLT,Int.reduceLE,h0,h0',h2,h2'];exact Ao _ _
  ·simp only [↓AcU,↓XX,XY,↓reduceIte,Nat.reduceBEq,Nat.reduceAdd,Int.reduceEq,Int.reduceLT,Int.reduceLE,h3,h4,h6,h20,h28,h29,h13];exact Ao _ _
theorem Us {n:Nat} (hn:1<n) (op:Int) (i:Nat):BE (SS dt n 101 [iv op,iv i] ⟨[],[]⟩) (.int .i64 (Am op i)):=by
 obtain ⟨n,rfl⟩:∃k,n=k+1:=⟨n - 1,by omega⟩;rw [AuS];have h:=Ac5 (n:=n) (by omega) op i;simp only [Ad5,↓XX,XY,↓reduceIte,Nat.reduceBEq,Nat.reduceAdd,Int.reduceEq,Int.reduceLT,Int.reduceLE,↓AjB,↓Aj h];exact Ao _ _
theorem AgH {β:Type}:∀(l:List IV) (i:Nat) (x:IV) (k:List IV→Option β),i<l.length→GF l i x k=k (l.set i x)
 | [],i,x,k,h=>absurd h (by simp)
 | y::l,0,x,k,_=>rfl
 | y::l,i+1,x,k,h=>by
  show GF l i x (fun t=>k (y::t))=_
  rw [AgH l i x _ (by simpa using h)];rfl
def nils (n:Nat):List PV:=List.replicate n .nil
theorem Ai9 (n:Nat):OL n [IV.fv .nilp]=((nils n).map PV.enc).map IV.fv:=by
 induction n with
 | zero=>rfl
 | succ n ih=>rw [OL,ih];rfl
theorem Ap1 {n:Nat} (hn:n≤1000) (s:Nat) (own:List (Nat×Blk)) (ext:List Blk) (k:IV→Hp→List Ref→List Ref→Option (IV×Hp)) :
  Ay (BS EE s 127 (iv n) (iv n)) s ⟨own,ext⟩ k=CF own s (A2 own s (.row (((nils n).map PV.enc).map IV.fv) false) fun own=>k (.slc (.own s) 1 n) ⟨own,ext⟩ [] [.own s]):=by
 have:BS EE s 127 (iv n) (iv n)=.ret { eff:={ val:=.slc (.own s) 1 n },new:=some (.row (((nils n).map PV.enc).map IV.fv) false) }:=by
  simp only [BS,tPs,tPp,UO];rw [if_pos ⟨by omega,by omega,by omega,by decide,by decide⟩,Int.toNat_natCast,Ai9]
 rw [this];unfold Ay;simp only [Rd.runLog,Jd,CD,Ci];rfl
theorem Anu (v:PV):IV.one (.fv v.enc)=true:=by
 cases v with
 | nil=>rfl
 | mk op n k t e=>obtain ⟨bo,bn,bk⟩:=t;rw [AW];rfl
theorem AmS {β:Type} {n i:Nat} (h:i<n) (r:Ref) (k:IV→Option β):AT 1 (.slc r 1 n) (iv i) k=k (.ptr r i):=by
 have e1:Nat.ble (Nat.succ i) n=true:=by rw [Bl];exact decide_eq_true h
 show (Adc (iv i) fun n'=>cond (and (Nat.ble (Nat.succ n') n) (Nat.beq 1 1)) (D0 (n' * 1) fun o=>k (.ptr r o)) none)=_
 show (cond (and (Nat.ble (Nat.succ i) n) (Nat.beq 1 1)) (D0 (i * 1) fun o=>k (.ptr r o)) none)=_
 rw [e1];simp only [BO,Nat.mul_one];rfl
theorem AmE {done:List PV} {r:Nat} {β:Type} (v:PV) (k:List IV→Option β):GF (((done++nils (r+1)).map PV.enc).map IV.fv) done.length (.fv v.enc) k=k ((((done++[v])++nils r).map PV.enc).map IV.fv):=by
 rw [AgH _ _ _ _ (by simp [nils])];congr 1;simp only [nils,List.replicate_succ,List.map_append,Axg,List.append_assoc,List.cons_append,List.nil_append,Axf];rw [List.set_append_right _ _ (by simp)];simp
abbrev Hev (op m:Int) (ks:List Tm) (env kk:List PV) (ro:Bool) (s w r e:Int):Hp :=
 ⟨[(74448896,.row [iv op,iv m,.fv (.sl (ks.map Tm.enc))] false),(74452999,.row ((kk.map PV.enc).map .fv) ro),(74453003,.row [iv op,iv m,.slc (.own 74452999) 1 ks.length,iv op,iv m,.fv (.sl (ks.map Tm.enc)),.fv (PV.encEnv env)] ro)],MX s w r e⟩
theorem Ga {base rm:List Nat} {vals:List IV} {own:List (Nat×Blk)} {s w r e:Int} (hb:rm.any base.contains=false) (hf:AL rm vals own []=true) (k:Hp→Option (IV×Hp)) :
  Bs base rm vals ⟨own,MX s w r e⟩ k=k ⟨Ho rm vals own [],MX s w r e⟩:=Ago (fun j=>Air s w r e j) hb hf k
theorem Afh {op m:Int} {ks:List Tm} {env kk:List PV} {s w r e:Int} (hl:kk.length=ks.length) (h3:ks.length≤300):Bm (some (.ptr (.own 74453003) 0,Hev op m ks env kk false s w r e)) (PV.mk op m kk (.mk op m ks) env).enc (MX s w r e):=by
 rw [AW];have hl':ks.length=(kk.map PV.enc).length:=by simp [hl]
 have:=fun (e0:Option (IV×Hp)) (K:FV→List (Ref×Blk)→List Ref→Option (IV×Hp))=>Ars (s:=74453003) (s2:=74452999) (own:=(Hev op m ks env kk false s w r e).own) (ext:=MX s w r e) (es:=kk.map PV.enc) (ro:=false) (ro2:=false) (a:=.int .i64 op) (b:=.int .i64 m) (c:=.int .i64 op) (d:=.int .i64 m) (t:=.sl (ks.map Tm.enc)) (x:=PV.encEnv env)
  (by rw [← hl'];rfl) (by rfl) (by simp [hl];omega) (by simp only [List.mem_map];rintro x ⟨v,_,rfl⟩;exact N7 v) [] e0 K
 exact ⟨_,_,rfl,_,_,this⟩
theorem Ry {ev:Tm→M3→Option (PV×M3)} {op:Int}:∀{i:Nat} {l:List Tm} {m:M3} {vs:List PV} {m':M3},RX ev op i l m=some (vs,m')→vs.length=l.length
 | _,[],m,vs,m',h=>by simp only [RX,Axa,Axb] at h;rw [← h.1];rfl
 | i,t::l,m,vs,m',h=>by
  rw [RX] at h;split at h
  ·cases hk:RX ev op (i+1) l m with
   | none=>rw [hk] at h;cases h
   | some q =>
    rw [hk] at h;simp only [Axd,Axa,Axb] at h;rw [← h.1,Axe,Axe,Ry (vs:=q.1) (m':=q.2) hk]
  ·split at h
   ·cases h
   ·rename_i v m2 _;cases hk:RX ev op (i+1) l m2 with
    | none=>rw [hk] at h;cases h
    | some q =>
     rw [hk] at h;simp only [Axd,Axa,Axb] at h;rw [← h.1,Axe,Axe,Ry (vs:=q.1) (m':=q.2) hk]
set_option maxRecDepth 20000 in
set_option maxHeartbeats 1000000 in
theorem Alh {f:Nat} (he:AlW f) (hc:Alq f):AlW (f+1):=by
 intro env t m0 m' v hev r n hn;obtain ⟨n,rfl⟩:∃k,n=k+1:=⟨n - 1,by omega⟩;rw [c71];obtain ⟨op,m,ks⟩:=t;rw [An];rw [Qw] at hev;cases ht:Hg m0 with
 | none=>rw [ht] at hev;cases hev
 | some m1 =>
 rw [ht] at hev;simp only at hev;have hc1:=QL ht r (n:=n) (by omega);by_cases h1:op=1
 ·rw [if_pos h1] at hev;split at hev
  ·rename_i hv;simp only [Axa,Axb] at hev;obtain ⟨rfl,rfl⟩:=hev;have hvar:=VX (n:=n) env m hv.1 hv.2.1 (by omega);simp only [↓AfS,↓XX,XY,↓reduceIte,Nat.reduceBEq,Nat.reduceAdd,Int.reduceEq,Int.reduceLT,Int.reduceLE,↓FH _ _ hc1,h1,↓Aj hvar];exact AG _ _ _
  ·cases hev
 ·rw [if_neg h1] at hev;split at hev
  ·cases hev
  rename_i hb;have hk3:ks.length≤300:=by omega
  by_cases h2:m1.e≠0
  ·rw [if_pos h2] at hev;simp only [Axa,Axb] at hev;obtain ⟨rfl,rfl⟩:=hev;simp only [ME,My,L9,Ml,Ma,MF,Me,Mh,Mq,Md,L7,Mw,L8,Ms,S71,↓XX,XY,↓reduceIte,Nat.reduceBEq,Nat.reduceAdd,Int.reduceEq,Int.reduceLT,Int.reduceLE,↓FH _ _ hc1,h1,h2,↓Ap1 (show ks.length≤1000 by omega),↓Aeg]
   exact Afh (kk:=nils ks.length) (by simp [nils]) hk3
  ·rw [if_neg h2] at hev;have h2:m1.e=0:=by simpa using h2
   ·
    cases hkk:RX (fun t m=>Qw f env t m) op 0 ks m1 with
    | none=>rw [hkk] at hev;cases hev
    | some q =>
    obtain ⟨vs,m2⟩:=q;rw [hkk] at hev;simp only at hev;simp only [h2] at hc1;simp only [ME,My,L9,Ml,Ma,MF,Me,Mh,Mq,Md,L7,Mw,L8,Ms,S71,↓XX,XY,↓reduceIte,Nat.reduceBEq,Nat.reduceAdd,Int.reduceEq,Int.reduceLT,Int.reduceLE,↓FH _ _ hc1,h1,h2,↓Ap1 (show ks.length≤1000 by omega),↓Aeg,↓Ga,↓AJ,XD,heldB,AL,XE,Ff,Dr]
    have hlen:=Ry hkk;refine Bb (Q:=fun r=>Bm r _ _) (fun k V H=>∃(pre rest:List Tm) (done:List PV) (m3:M3) (us:List PV),ks=pre++rest∧rest.length=k∧done.length=pre.length ∧
      V=[.ptr (.ext 0) 0,.fv (PV.encEnv env),.ptr (.own 74448896) 0,.ptr (.own 74453003) 0,.fv (.sl (ks.map Tm.enc)),iv ks.length,iv pre.length] ∧
      H=Hev op m ks env (done++nils rest.length) false m3.s m3.w r m3.e ∧
      RX (fun t m=>Qw f env t m) op pre.length rest m3=some (us,m2)∧done++us=vs)
     ?_ n ks.length _ _ (by omega) ⟨[],ks,[],m1,vs,rfl,rfl,rfl,rfl,by rw [h2];rfl,hkk,rfl⟩
    rintro k V H rec ⟨pre,rest,done,m3,us,hk,hl,hdl,rfl,rfl,hkids,hvs⟩ hrec;have hkl:ks.length=pre.length+rest.length:=by rw [hk];simp
    cases rest with
    | nil =>
     simp only [RX,Axa,Axb] at hkids;obtain ⟨rfl,rfl⟩:=hkids;rw [List.append_nil] at hvs;subst hvs;have hno:¬ ((pre.length:Int)<ks.length):=by rw [hkl];simp
     have hz:done++nils ([]:List Tm).length=done:=by simp [nils]
     rw [hz];by_cases h4:m3.e≠0
     ·rw [if_pos h4] at hev;simp only [Axa,Axb] at hev;obtain ⟨rfl,rfl⟩:=hev;simp only [↓AfS,↓XX,XY,↓reduceIte,Nat.reduceBEq,Nat.reduceAdd,Int.reduceEq,Int.reduceLT,Int.reduceLE,hno,h4];exact Afh hlen hk3
     ·rw [if_neg h4] at hev;have h4:m3.e=0:=by simpa using h4
      have hcc:=hc _ _ _ _ hev r n (by omega);rw [AW] at hcc;simp only [h4] at hcc;have hlm:(done.map PV.enc).length=ks.length:=by simp [hlen]
      simp only [↓AfS,↓XX,XY,↓reduceIte,Nat.reduceBEq,Nat.reduceAdd,Int.reduceEq,Int.reduceLT,Int.reduceLE,hno,h4];rw [AhZ hcc (s0:=74453003) (s2:=74452999) (own':=(Hev op m ks env done true m3.s m3.w r 0).own) (by rfl) (by rfl) hlm (by decide) (by omega) (by simp only [List.mem_map];rintro x ⟨v,_,rfl⟩;exact N7 v) (by rfl)];exact AG _ _ _
    | cons x rest =>
     have hi:(pre.length:Int)<ks.length:=by rw [hkl];simp;omega
     have hg:=Cu hk;have hb:=Us (n:=n) (by omega) op pre.length;have hwi:BA ((pre.length:Int)+1)=((pre++[x]).length:Int):=(Ax (by omega) (by omega)).trans (by simp);simp only [RX] at hkids;simp only [Axe] at hl;by_cases hbn:0<Am op pre.length
     ·rw [if_pos hbn] at hkids;have hbn':¬ ((Am op pre.length:Nat):Int)=0:=by omega
      obtain ⟨o,p,l⟩:=x;simp only [↓AfS,↓XX,XY,↓reduceIte,Nat.reduceBEq,Nat.reduceAdd,Int.reduceEq,Int.reduceLT,Int.reduceLE,hi,↓Bz (AQ hg) (Bg _ _ _),↓Cb,↓Aj hb,hbn',hwi,↓Ga,↓AJ,XD,heldB,AL,XE,Ff,Dr];cases hkk2:RX (fun t m=>Qw f env t m) op (pre.length+1) rest m3 with
      | none=>rw [hkk2] at hkids;cases hkids
      | some q =>
      obtain ⟨us',m4⟩:=q;rw [hkk2] at hkids;simp only [Axd,Axa,Axb] at hkids;obtain ⟨rfl,rfl⟩:=hkids;refine hrec rest.length _ _ (by omega) ⟨pre++[.mk o p l],rest,done++[.nil],m3,us',by rw [hk];simp,rfl,by simp [hdl],rfl,?_,by simpa using hkk2,by rw [← hvs];simp⟩;rw [show done++[.nil]++nils rest.length=done++nils (rest.length+1) by simp [nils,List.replicate_succ]]
     ·rw [if_neg hbn] at hkids;have hbn':((Am op pre.length:Nat):Int)=0:=by omega
      cases hev2:Qw f env x m3 with
      | none=>rw [hev2] at hkids;cases hkids
      | some q =>
      obtain ⟨y,m4⟩:=q;rw [hev2] at hkids;simp only at hkids;cases hkk2:RX (fun t m=>Qw f env t m) op (pre.length+1) rest m4 with
      | none=>rw [hkk2] at hkids;cases hkids
      | some q =>
      obtain ⟨us',m5⟩:=q;rw [hkk2] at hkids;simp only [Axd,Axa,Axb] at hkids;obtain ⟨rfl,rfl⟩:=hkids;have hce:=he _ _ _ _ _ hev2 r n (by omega);obtain ⟨o,p,l⟩:=x;rw [An] at hce;have hin:pre.length<ks.length:=by omega
      have hoff:=fun {β:Type}=>AmE (done:=done) (r:=rest.length) (β:=β);rw [hdl] at hoff;simp only [↓AfS,↓XX,XY,↓reduceIte,Nat.reduceBEq,Nat.reduceAdd,Int.reduceEq,Int.reduceLT,Int.reduceLE,hi,↓Bz (AQ hg) (Bg _ _ _),↓Cb,↓Aj hb,hbn',hwi,↓Aem _ _ hce,↓AmS hin,↓Anu,↓hoff,↓Ga,↓AJ,XD,heldB,AL,XE,Ff,Dr];exact hrec rest.length _ _ (by omega) ⟨pre++[.mk o p l],rest,done++[y],m4,us',by rw [hk];simp,rfl,by simp [hdl],rfl,rfl,by simpa using hkk2,by rw [← hvs];simp⟩
theorem LJ:∀f,AlW f∧Alq f∧An9 f∧Aed f
 | 0=>⟨(fun _ _ _ _ _ h=>by rw [Qw.eq_def] at h;cases h),(fun _ _ _ _ h=>by rw [ctP.eq_def] at h;cases h),(fun _ _ _ _ _ h=>by rw [stP.eq_def] at h;cases h),(fun _ _ _ _ _ _ h=>by rw [opP.eq_def] at h;cases h)⟩
 | f+1=>⟨Alh (LJ f).1 (LJ f).2.1,Ahq (LJ f).2.2.1,AiF (LJ f).2.1 (LJ f).2.2.2,Ahg (LJ f).1⟩
def SI (below:Int) (b:Nat):List PV:=(List.range b).map fun (j:Nat)=>PV.var (below+(j:Int))
theorem Agf (u:Int) (b:Nat):SI u (b+1)=SI u b++[PV.var (u+b)]:=by simp [SI,List.range_succ]
theorem K1 (u:Int) (b:Nat):(SI u b).length=b:=by simp [SI]
def bkK (bk:PV→Int→M3→Int→Option (Tm×M3×Int)) (opn:Nat→List PV→M3→Option (PV×M3)) (op below:Int):Nat→List PV→M3→Int→Option (Option (List Tm)×M3×Int)
 | _,[],m,r=>some (some [],m,r)
 | i,x::l,m,r=>match (if 0<Am op i then opn i (SI below (Am op i)) m else some (x,m)) with
  | none=>none
  | some (y,m)=>if m.e≠0 then some (none,m,r) else match bk y (below+Am op i) m r with
   | none=>none
   | some (t,m,r)=>(bkK bk opn op below (i+1) l m r).map fun (ts,m,r)=>(ts.map (t::·),m,r)
def Ut:Nat→PV→Int→Int→M3→Int→Option (Tm×M3×Int)
 | 0,_,_,_,_,_=>none
 | f+1,v,below,deep,m,r =>
  if r<0∨1000000000<r∨below<0∨1000000<below∨deep<0∨1000000<deep then none else
  match Hg ⟨m.s,m.w,if m.e=0∧(3000<r+1∨120<deep) then 5 else m.e⟩ with
  | none=>none
  | some m=>if m.e≠0 then some (.z,m,r+1) else match v with
   | .nil=>none
   | .mk op n k t e=>if op=1 then (if n < -2305843009213693952∨2305843009213693952<n then none else some (.mk 1 (below - 1 - n) [],m,r+1))
    else if f≤k.length+4∨100<k.length then none
    else match bkK (fun v below m r=>Ut f v below (deep+1) m r) (fun i l m=>opP f (.mk op n k t e) i l m) op below 0 k m (r+1) with
     | none=>none
     | some (none,m,r)=>some (.z,m,r)
     | some (some ts,m,r)=>some (.mk op n ts,m,r)
def AjU (f:Nat):Prop:=∀(v:PV) (below deep:Int) (m:M3) (r:Int) (t:Tm) (m':M3) (r':Int),Ut f v below deep m r=some (t,m',r')→∀n,f+1≤n →
 Bm (SS dt n 72 [.ptr (.ext 0) 0,.fv v.enc,iv below,iv deep] ⟨[],MX m.s m.w r m.e⟩) t.enc (MX m'.s m'.w r' m'.e)
theorem Hl (j:Nat) (v:FV):Fu (.ext j) (.fv v)=true:=rfl
theorem Afo {ih:Aa} {n:Nat} {v w:FV} {below deep s u r e e1:Int} {ext:List Blk} (hr:0≤r) (hr2:r≤1000000000) (he1:(if e=0∧(3000<r+1∨120<deep) then (5:Int) else e)=e1)
  (h:Bm (E4 ih ⟨[(75497472,.row [iv 0,iv 0,.nils] false)],MX s u (r+1) e1⟩ (.ptr (.ext 0) 0) (.ptr (.own 75497472) 0) (.fv v) (iv below) ⟨[],MX s u r e⟩ (iv deep) n) w ext) :
  Bm (S72 ih n (.ptr (.ext 0) 0) (.fv v) (iv below) (iv deep) ⟨[],MX s u r e⟩) w ext:=by
 have wr:BA (r+1)=r+1:=by rw [Ax]<;>omega
 have key:S72 ih n (.ptr (.ext 0) 0) (.fv v) (iv below) (iv deep) ⟨[],MX s u r e⟩=E4 ih ⟨[(75497472,.row [iv 0,iv 0,.nils] false)],MX s u (r+1) e1⟩ (.ptr (.ext 0) 0) (.ptr (.own 75497472) 0) (.fv v) (iv below) ⟨[],MX s u r e⟩ (iv deep) n:=by
  by_cases h0:e=0
  ·by_cases h3:3000<r+1
   ·rw [if_pos ⟨h0,.inl h3⟩] at he1;subst he1;simp only [Dp,DO,DB,DU,Dn,Dw,Cz,DE,DS,Dk,Dz,Dl,E8,DQ,Dy,DH,Da,DK,DM,C6,DX,DI,E1,DF,DL,Du,C7,DN,DV,DP,Di,DC,S72,↓XX,XY,↓reduceIte,Nat.reduceBEq,Nat.reduceAdd,Int.reduceEq,Int.reduceLT,Int.reduceLE,↓Hl,wr,h0,h3]
   ·by_cases h4:120<deep
    ·rw [if_pos ⟨h0,.inr h4⟩] at he1;subst he1;simp only [Dp,DO,DB,DU,Dn,Dw,Cz,DE,DS,Dk,Dz,Dl,E8,DQ,Dy,DH,Da,DK,DM,C6,DX,DI,E1,DF,DL,Du,C7,DN,DV,DP,Di,DC,S72,↓XX,XY,↓reduceIte,Nat.reduceBEq,Nat.reduceAdd,Int.reduceEq,Int.reduceLT,Int.reduceLE,↓Hl,wr,h0,h3,h4]
    ·rw [if_neg (by omega)] at he1;subst he1;simp only [Dp,DO,DB,DU,Dn,Dw,Cz,DE,DS,Dk,Dz,Dl,E8,DQ,Dy,DH,Da,DK,DM,C6,DX,DI,E1,DF,DL,Du,C7,DN,DV,DP,Di,DC,S72,↓XX,XY,↓reduceIte,Nat.reduceBEq,Nat.reduceAdd,Int.reduceEq,Int.reduceLT,Int.reduceLE,↓Hl,wr,h0,h3,h4]
  ·rw [if_neg (by omega)] at he1;subst he1;simp only [Dp,DO,DB,DU,Dn,Dw,Cz,DE,DS,Dk,Dz,Dl,E8,DQ,Dy,DH,Da,DK,DM,C6,DX,DI,E1,DF,DL,Du,C7,DN,DV,DP,Di,DC,S72,↓XX,XY,↓reduceIte,Nat.reduceBEq,Nat.reduceAdd,Int.reduceEq,Int.reduceLT,Int.reduceLE,↓Hl,wr,h0]
 rw [key];exact h
abbrev Hbk (done:List Tm) (rest:Nat) (more:List (Nat×Blk)) (s w r e:Int):Hp :=
 ⟨(75497472,.row [iv 0,iv 0,.nils] false)::(75506693,.row (B6 done rest) false)::more,MX s w r e⟩
theorem AhS {ih:Aa} {f:FuncId} {w x y:FV} {a b:IV} {s0 len:Nat} {s u r e s' u' r' e':Int} {own own':List (Nat×Blk)} {es:List FV} {ro:Bool} (hr:Bm (ih f [.ptr (.ext 0) 0,.fv x,.fv y,.fv (.sl es)] ⟨[],MX s u r e⟩) w (MX s' u' r' e'))
  (ha:A6 a=some x) (hb:A6 b=some y) (hl:Aq s0 own=some (.row (es.map .fv) ro)) (hlen:es.length=len) (hn:es.length≤300) (hag:∀x∈es,∀l,x≠.agg l) (ho:AO s0 (.row (es.map .fv) true) own=own')
  (k:IV→Hp→List Ref→List Ref→Option (IV×Hp)) :
  Ah [true,false,false,false] false false ih f [.ptr (.ext 0) 0,a,b,.slc (.own s0) 1 len] ⟨own,MX s u r e⟩ k=k (.fv w) ⟨own',MX s' u' r' e'⟩ [.ext 1,.ext 0,.own s0] [.own s0,.ext 0,.ext 1]:=by
 subst ho hlen;refine Zh (ks:=[false,false,false]) (vs:=[x,y,.sl es]) (u:=[(.own s0,.row (es.map .fv) true)]) (lg:=[.own s0]) ?_ (AlO ..) hr ?_ k
 ·intro e k;rw [RJ,KU _ _ e _ ha,RJ,KU _ _ e _ hb,RJ,AgT (d:=10) hl hn hag,fz0];rfl
 ·intro k
  show (Gu own s0 fun _=>A2 own s0 (.row (es.map .fv) true) fun own=>k ⟨own,_⟩)=_
  rw [BB,hl,Option.bind_some,BV]
def AhU (op n:Int) (done:List Tm):Option (List Tm)→Tm
 | none=>.z
 | some ts=>.mk op n (done++ts)
set_option maxRecDepth 20000 in
set_option maxHeartbeats 1000000 in
theorem Ao3 {n:Nat} {op nn bo bn below deep:Int} {k e:List PV} {bk:List Tm} {done:List Tm} {s w r er:Int} (h4:Hp) {rec:List IV→Hp→Option (IV×Hp)} (hd:done.length=k.length) (hk:k.length≤100) :
  Bm (E1 [.ptr (.ext 0) 0,.fv (PV.mk op nn k (.mk bo bn bk) e).enc,iv below,iv deep,.ptr (.own 75497472) 0,.slc (.own 75506693) 3 k.length,iv k.length,iv k.length] (Hbk done 0 [] s w r er) (SS dt n) h4 rec n)
   (Tm.mk op nn done).enc (MX s w r er):=by
 rw [AW,An];have hno:¬ ((k.length:Int)<k.length):=by omega
 simp only [Dp,DO,DB,DU,Dn,Dw,Cz,DE,DS,Dk,Dz,Dl,E8,DQ,Dy,DH,Da,DK,DM,C6,DX,DI,E1,DF,DL,Du,C7,E4,DN,DV,DP,Di,DC,S72,↓XX,XY,↓reduceIte,Nat.reduceBEq,Nat.reduceAdd,Int.reduceEq,Int.reduceLT,Int.reduceLE,↓Hl,hno];rw [← hd];exact ⟨_,_,rfl,_,_,fun e0 K=>Ar9 (by rfl) (by omega) [] e0 K⟩
def AeJ (more:List (Nat×Blk)):Prop:=more=[]∨∃(l:List FV) (ro:Bool),more=[(75512833,.row (l.map .fv) ro)]
set_option maxRecDepth 20000 in
set_option maxHeartbeats 1000000 in
theorem AsM {n:Nat} {v y:FV} {below deep b len i:IV} {done:List Tm} {rest kl:Nat} {more:List (Nat×Blk)} {s w r e:Int} (hM:AeJ more) (h4:Hp) {rec:List IV→Hp→Option (IV×Hp)} (he:e≠0) :
  Bm (Cz (.ptr (.ext 0) 0) (Hbk done rest more s w r e) (.ptr (.own 75497472) 0) below b deep (SS dt n) (.fv y) (.slc (.own 75506693) 3 kl) i i h4 (.fv v) len rec) Tm.z.enc (MX s w r e):=by
 rcases hM with rfl | ⟨l,ro,rfl⟩
 ·simp only [↓VQ,↓XX,XY,↓reduceIte,Nat.reduceBEq,Nat.reduceAdd,Int.reduceEq,Int.reduceLT,Int.reduceLE,↓Hl,he];exact EV rfl _ _
 ·simp only [↓VQ,↓XX,XY,↓reduceIte,Nat.reduceBEq,Nat.reduceAdd,Int.reduceEq,Int.reduceLT,Int.reduceLE,↓Hl,he];exact EV rfl _ _
set_option maxRecDepth 20000 in
set_option maxHeartbeats 1000000 in
theorem Atc {f n:Nat} {v:FV} {y:PV} {below deep:Int} {b:Nat} {len:Int} {done:List Tm} {rest kl:Nat} {more:List (Nat×Blk)} {m m5:M3} {r r5:Int} {t5:Tm} {w:FV} {ext:List Blk} (hb:AjU f) (hn:f+1≤n) (hM:AeJ more) (ext4:List Blk)
  {rec:List IV→Hp→Option (IV×Hp)} (he:m.e=0) (hbk:Ut f y (below+b) (deep+1) m r=some (t5,m5,r5)) (hb1:0≤below) (hb2:below≤1000000) (hb3:b≤10) (hd1:0≤deep) (hd2:deep≤1000000) (hkl:done.length<kl) (hkl2:kl≤100)
  (h:Bm (rec [.ptr (.ext 0) 0,.fv v,iv below,iv deep,.ptr (.own 75497472) 0,.slc (.own 75506693) 3 kl,iv len,iv (done++[t5]).length] (Hbk (done++[t5]) rest [] m5.s m5.w r5 m5.e)) w ext) :
  Bm (Cz (.ptr (.ext 0) 0) (Hbk done (rest+1) more m.s m.w r m.e) (.ptr (.own 75497472) 0) (iv below) (iv b) (iv deep) (SS dt n) (.fv y.enc) (.slc (.own 75506693) 3 kl) (iv done.length) (iv done.length) ⟨[],ext4⟩ (.fv v) (iv len) rec) w ext:=by
 have hc:=hb _ _ _ _ _ _ _ _ hbk n hn;have wb:BA (below+b)=below+b:=by rw [Ax]<;>omega
 have wd:BA (deep+1)=deep+1:=by rw [Ax]<;>omega
 have wi:BA ((done.length:Int)+1)=((done++[t5]).length:Int):=(Ax (by omega) (by omega)).trans (by simp);obtain ⟨o,p,ks⟩:=t5;rw [An] at hc;simp only [he] at hc ⊢;rcases hM with rfl | ⟨l,ro,rfl⟩
 ·simp only [↓VQ,↓XX,XY,↓reduceIte,Nat.reduceBEq,Nat.reduceAdd,Int.reduceEq,Int.reduceLT,Int.reduceLE,↓Hl,wb,wd,↓Qe _ _ hc,↓Agr hkl,↓AmU,wi,↓Ga,↓AJ,XD,heldB,AL,XE,Ff,Dr,OC,JW];exact h
 ·simp only [↓VQ,↓XX,XY,↓reduceIte,Nat.reduceBEq,Nat.reduceAdd,Int.reduceEq,Int.reduceLT,Int.reduceLE,↓Hl,wb,wd,↓Qe _ _ hc,↓Agr hkl,↓AmU,wi,↓Ga,↓AJ,XD,heldB,AL,XE,Ff,Dr,OC,JW];exact h
set_option maxRecDepth 20000 in
set_option maxHeartbeats 1000000 in
theorem Ar8 {f n:Nat} {v y:PV} {below deep:Int} {i b kl:Nat} {len:Int} {done:List Tm} {rest:Nat} {m m4:M3} {r:Int} {w:FV} {ext:List Blk} (hn:f+1≤n) (h3:3≤n) (ext4:List Blk)
  {j:IV→IV→IV→IV→IV→IV→IV→IV→IV→IV→IV→Hp→Option (IV×Hp)} (hb:b≤2) (hb1:0≤below) (hb2:below≤1000000) (hop:opP f v i (SI below b) m=some (y,m4))
  (hj:Bm (j (.ptr (.ext 0) 0) (.fv v.enc) (iv below) (iv deep) (.ptr (.own 75497472) 0) (.slc (.own 75506693) 3 kl) (iv i) (.fv y.enc) (iv b) (iv len) (iv i)
   (Hbk done rest [(75512833,.row (((SI below b).map PV.enc).map .fv) true)] m4.s m4.w r m4.e)) w ext) :
  Bm (By n (fun q119 l120 h121=>E8 l120 h121 ⟨[],ext4⟩ q119 (SS dt n) j) [.ptr (.ext 0) 0,.fv v.enc,iv below,iv deep,.ptr (.own 75497472) 0,.slc (.own 75506693) 3 kl,iv i,iv b,.slc (.own 75512833) 1 b,iv len,iv i,iv b,iv 0]
   (Hbk done rest [(75512833,.row (((nils b).map PV.enc).map .fv) false)] m.s m.w r m.e)) w ext:=by
 refine Bb (Q:=fun r=>Bm r _ _) (fun t V H=>∃(k:Nat),k+t=b ∧
   V=[.ptr (.ext 0) 0,.fv v.enc,iv below,iv deep,.ptr (.own 75497472) 0,.slc (.own 75506693) 3 kl,iv i,iv b,.slc (.own 75512833) 1 b,iv len,iv i,iv b,iv k] ∧
   H=Hbk done rest [(75512833,.row (((SI below k++nils t).map PV.enc).map .fv) false)] m.s m.w r m.e) ?_ n b _ _ (by omega) ⟨0,by omega,rfl,rfl⟩
 rintro t V H rec ⟨k,hkt,rfl,rfl⟩ hrec;cases t with
 | zero =>
  have hkb:k=b:=by omega
  subst hkb;have hno:¬ ((k:Int)<k):=by omega
  have hc:=(LJ f).2.2.2 _ _ _ _ _ _ hop r n hn;rw [show SI below k++nils 0=SI below k by simp [nils]]
  simp only [Dp,DO,DB,DU,Dn,Dw,Cz,DE,DS,Dk,Dz,Dl,DQ,Dy,DH,Da,DK,DM,C6,DX,DI,DF,DL,Du,C7,E4,DN,DV,DP,Di,DC,S72,E8,↓XX,XY,↓reduceIte,Nat.reduceBEq,Nat.reduceAdd,Int.reduceEq,Int.reduceLT,Int.reduceLE,↓Hl,hno];rw [AhS hc rfl rfl (s0:=75512833) (own':=(Hbk done rest [(75512833,.row (((SI below k).map PV.enc).map .fv) true)] m4.s m4.w r m4.e).own) (by rfl) (by simp [K1]) (by simp [K1];omega) (by simp only [List.mem_map];rintro x ⟨v,_,rfl⟩;exact N7 v) (by rfl)];exact hj
 | succ t =>
  have hlt:(k:Int)<b:=by omega
  have hkb:k<b:=by omega
  have wk:BA ((k:Int)+1)=((k+1:Nat):Int):=(Ax (by omega) (by omega)).trans (by simp);have wbk:BA (below+(k:Int))=below+k:=by rw [Ax]<;>omega
  have hoff:=fun {β:Type}=>AmE (done:=SI below k) (r:=t) (β:=β) (PV.var (below+k));rw [K1,Ub] at hoff;simp only [Dp,DO,DB,DU,Dn,Dw,Cz,DE,DS,Dk,Dz,Dl,DQ,Dy,DH,Da,DK,DM,C6,DX,DI,DF,DL,Du,C7,E4,DN,DV,DP,Di,DC,S72,E8,↓XX,XY,↓reduceIte,Nat.reduceBEq,Nat.reduceAdd,Int.reduceEq,Int.reduceLT,Int.reduceLE,↓Hl,hlt,wbk];rw [Aap (fc:=[.int .i64 1,.int .i64 (below+k),.sl [],.int .i64 0,.int .i64 0,.sl [],.nilp]) rfl (by simp)];simp only [↓XX,XY,↓reduceIte,Nat.reduceBEq,Nat.reduceAdd,Int.reduceEq,Int.reduceLT,Int.reduceLE,↓Hl,↓AmS hkb,↓hoff,wk,↓Ga,↓AJ,XD,heldB,AL,XE,Ff,Dr,OC,JW];exact hrec t _ _ (by omega) ⟨k+1,by omega,rfl,by rw [Agf]⟩
set_option maxRecDepth 20000 in
set_option maxHeartbeats 1000000 in
theorem Akm {f:Nat} (hb:AjU f):AjU (f+1):=by
 intro v below deep m r t m' r' hev n hn;obtain ⟨n,rfl⟩:∃k,n=k+1:=⟨n - 1,by omega⟩;rw [c72];rw [Ut.eq_def] at hev;simp only at hev;split at hev
 ·cases hev
 rename_i hbad;have wd:BA (deep+1)=deep+1:=by rw [Ax]<;>omega
 have wb1:BA (below - 1)=below - 1:=by rw [Ax]<;>omega
 generalize he1:(if m.e=0∧(3000<r+1∨120<deep) then (5:Int) else m.e)=e1 at hev;cases ht:Hg ⟨m.s,m.w,e1⟩ with
 | none=>rw [ht] at hev;cases hev
 | some m1 =>
 rw [ht] at hev;simp only at hev;have hc1:=QL ht (r+1) (n:=n) (by omega);simp only at hc1;refine Afo (by omega) (by omega) he1 ?_;by_cases h1:m1.e≠0
 ·rw [if_pos h1] at hev;simp only [Axa,Axb] at hev;obtain ⟨rfl,rfl,rfl⟩:=hev;simp only [↓VQ,↓XX,XY,↓reduceIte,Nat.reduceBEq,Nat.reduceAdd,Int.reduceEq,Int.reduceLT,Int.reduceLE,↓Hl,↓FH _ _ hc1,h1];exact EV rfl _ _
 ·rw [if_neg h1] at hev;have h1:m1.e=0:=by simpa using h1
  cases v with
  | nil=>cases hev
  | mk op nn k t0 e =>
  obtain ⟨bo,bn,bk⟩:=t0;simp only at hev;by_cases h2:op=1
  ·rw [if_pos h2] at hev;split at hev
   ·cases hev
   rename_i hnn;simp only [Axa,Axb] at hev;obtain ⟨rfl,rfl,rfl⟩:=hev;have wb2:BA (below - 1 - nn)=below - 1 - nn:=by rw [Ax]<;>omega
   rw [AW];simp only [↓VQ,↓XX,XY,↓reduceIte,Nat.reduceBEq,Nat.reduceAdd,Int.reduceEq,Int.reduceLT,Int.reduceLE,↓Hl,↓FH _ _ hc1,h1,h2,wb1,wb2];exact EV rfl _ _
  ·rw [if_neg h2] at hev;split at hev
   ·cases hev
   rename_i hk100;have hk100:k.length≤100:=by omega
   cases hkk:bkK (fun v below m r=>Ut f v below (deep+1) m r) (fun i l m=>opP f (.mk op nn k (.mk bo bn bk) e) i l m) op below 0 k m1 (r+1) with
   | none=>rw [hkk] at hev;cases hev
   | some q =>
   obtain ⟨res,m2,r2⟩:=q;rw [hkk] at hev;have hres:t=AhU op nn [] res∧m'=m2∧r'=r2:=by
    cases res with
    | none=>simp only [Axa,Axb] at hev;exact ⟨hev.1.symm,hev.2.1.symm,hev.2.2.symm⟩
    | some ts=>simp only [Axa,Axb] at hev;exact ⟨hev.1.symm,hev.2.1.symm,hev.2.2.symm⟩
   obtain ⟨ht5,rfl,rfl⟩:=hres;generalize hV:PV.mk op nn k (.mk bo bn bk) e=V5 at *;have hVe:V5.enc=.fp [.int .i64 op,.int .i64 nn,.sl (k.map PV.enc),.int .i64 bo,.int .i64 bn,.sl (bk.map Tm.enc),PV.encEnv e] 0:=by rw [← hV,AW]
   rw [hVe];simp only [↓VQ,↓XX,XY,↓reduceIte,Nat.reduceBEq,Nat.reduceAdd,Int.reduceEq,Int.reduceLT,Int.reduceLE,↓Hl,↓FH _ _ hc1,h1,h2,↓AtF (show k.length≤1000 by omega),↓Ga,↓AJ,XD,heldB,AL,XE,Ff,Dr,OC,JW]
   refine Bb (Q:=fun r=>Bm r _ _) (fun j V H=>∃(pre rest:List PV) (done:List Tm) (m3:M3) (r3:Int) (res3:Option (List Tm)),k=pre++rest∧rest.length=j∧done.length=pre.length ∧
     V=[.ptr (.ext 0) 0,.fv V5.enc,iv below,iv deep,.ptr (.own 75497472) 0,.slc (.own 75506693) 3 k.length,iv k.length,iv pre.length] ∧
     H=Hbk done rest.length [] m3.s m3.w r3 m3.e ∧
     bkK (fun v below m r=>Ut f v below (deep+1) m r) (fun i l m=>opP f V5 i l m) op below pre.length rest m3 r3=some (res3,m',r')∧AhU op nn done res3=t)
    ?_ n k.length _ _ (by omega) ⟨[],k,[],m1,r+1,res,rfl,rfl,rfl,by rw [hVe];rfl,by rw [h1],hkk,ht5.symm⟩
   rintro j V H rec ⟨pre,rest,done,m3,r3,res3,hk,hl,hdl,rfl,rfl,hkids,hts⟩ hrec;have hkl:k.length=pre.length+rest.length:=by rw [hk];simp
   cases rest with
   | nil =>
    simp only [bkK,Axa,Axb] at hkids;obtain ⟨rfl,rfl,rfl⟩:=hkids;rw [List.length_nil,Nat.add_zero] at hkl;rw [← hts,← hV,AhU,List.append_nil,← hkl];exact Ao3 _ (by omega) hk100
   | cons x rest =>
    have hi:(pre.length:Int)<k.length:=by rw [hkl];simp;omega
    have hg:=Cu hk;have hbn:=Us (n:=n) (by omega) op pre.length;have hble:=Bi op pre.length;simp only [bkK] at hkids;simp only [Axe] at hl hkl;have behind:∀(y:PV) (m4:M3) (more:List (Nat×Blk)),AeJ more→(if m4.e≠0 then some (none,m4,r3) else match Ut f y (below+Am op pre.length) (deep+1) m4 r3 with
       | none=>none
       | some (t,m,r)=>(bkK (fun v below m r=>Ut f v below (deep+1) m r) (fun i l m=>opP f V5 i l m) op below (pre.length+1) rest m r).map fun (ts,m,r)=>(ts.map (t::·),m,r))=some (res3,m',r') →
      Bm (Cz (.ptr (.ext 0) 0) (Hbk done (rest.length+1) more m4.s m4.w r3 m4.e) (.ptr (.own 75497472) 0) (iv below) (iv (Am op pre.length)) (iv deep) (SS dt n) (.fv y.enc) (.slc (.own 75506693) 3 k.length) (iv pre.length) (iv pre.length) ⟨[],MX m.s m.w r m.e⟩ (.fv V5.enc) (iv k.length) rec)
       t.enc (MX m'.s m'.w r' m'.e):=by
     intro y m4 more hM hy;by_cases h4:m4.e≠0
     ·rw [if_pos h4] at hy;simp only [Axa,Axb] at hy;obtain ⟨rfl,rfl,rfl⟩:=hy;rw [← hts];exact AsM hM _ h4
     ·rw [if_neg h4] at hy;have h4:m4.e=0:=by simpa using h4
      cases hbk:Ut f y (below+Am op pre.length) (deep+1) m4 r3 with
      | none=>rw [hbk] at hy;cases hy
      | some q =>
      obtain ⟨t5,m5,r5⟩:=q;rw [hbk] at hy;simp only at hy;cases hk2:bkK (fun v below m r=>Ut f v below (deep+1) m r) (fun i l m=>opP f V5 i l m) op below (pre.length+1) rest m5 r5 with
      | none=>rw [hk2] at hy;cases hy
      | some q =>
      obtain ⟨res6,m6,r6⟩:=q;rw [hk2] at hy;simp only [Axd,Axa,Axb] at hy;obtain ⟨rfl,rfl,rfl⟩:=hy;rw [← hdl];refine Atc hb (by omega) hM _ h4 (by rw [hdl];exact hbk) (by omega) (by omega) (by rw [hdl];omega) (by omega) (by omega) (by omega) hk100 ?_;refine hrec rest.length _ _ (by omega) ⟨pre++[x],rest,done++[t5],m5,r5,res6,by rw [hk];simp,rfl,by simp [hdl],by simp [hdl],rfl,by simpa using hk2,?_⟩;rw [← hts];cases res6 with
      | none=>rfl
      | some ts=>simp [AhU]
    rw [hVe];by_cases hb0:0<Am op pre.length
    ·rw [if_pos hb0] at hkids;have hb0':(0:Int)<Am op pre.length:=by omega
     cases hop:opP f V5 pre.length (SI below (Am op pre.length)) m3 with
     | none=>rw [hop] at hkids;cases hkids
     | some q =>
     obtain ⟨y,m4⟩:=q;rw [hop] at hkids;have h9:=behind y m4 [(75512833,.row (((SI below (Am op pre.length)).map PV.enc).map .fv) true)] (.inr ⟨_,_,rfl⟩) hkids;have hin:=Ar8 (f:=f) (n:=n) (v:=V5) (y:=y) (below:=below) (deep:=deep) (i:=pre.length) (b:=Am op pre.length) (kl:=k.length) (len:=k.length) (done:=done) (rest:=rest.length+1) (m:=m3) (m4:=m4) (r:=r3) (w:=t.enc) (ext:=MX m'.s m'.w r' m'.e) (by omega) (by omega) (MX m.s m.w r m.e)
      (j:=fun x79 x80 x81 x82 x83 x84 x85 x86 x87 x88 x89 h90=>Cz x79 h90 x83 x81 x87 x82 (SS dt n) x86 x84 x85 x89 ⟨[],MX m.s m.w r m.e⟩ x80 x88 rec) (by omega) (by omega) (by omega) hop h9
     simp only [Dp,DO,DB,DU,Dn,Dw,DE,DS,Dk,Dz,Dl,DQ,Dy,DH,Da,DK,DM,C6,DX,DI,E1,DF,DL,Du,C7,E4,DN,DV,DP,Di,DC,S72,↓XX,XY,↓reduceIte,Nat.reduceBEq,Nat.reduceAdd,Int.reduceEq,Int.reduceLT,Int.reduceLE,↓Hl,hi,↓Ang hg,↓Aj hbn,hb0',↓Ap1 (show Am op pre.length≤1000 by omega),↓Ga,↓AJ,XD,heldB,AL,XE,Ff,Dr,OC,JW]
     rw [hVe] at hin;exact hin
    ·rw [if_neg hb0] at hkids;have hb0':¬ (0:Int)<Am op pre.length:=by omega
     have h9:=behind x m3 [] (.inl rfl) hkids;simp only [Dp,DO,DB,DU,Dn,Dw,DE,DS,Dk,Dz,Dl,DQ,Dy,DH,Da,DK,DM,C6,DX,DI,E1,DF,DL,Du,C7,E4,DN,DV,DP,Di,DC,S72,↓XX,XY,↓reduceIte,Nat.reduceBEq,Nat.reduceAdd,Int.reduceEq,Int.reduceLT,Int.reduceLE,↓Hl,hi,↓Ang hg,↓Aj hbn,hb0'];rw [hVe] at h9;exact h9
theorem Am0:∀f,AjU f
 | 0=>(fun _ _ _ _ _ _ _ _ h=>by rw [Ut.eq_def] at h;cases h)
 | f+1=>Akm (Am0 f)
abbrev EY (mb:Nat) (f:FuncId):IV:=.agg [.func (.func f) [.ptr (.own mb) 0] []]
abbrev CU (mb:Nat):List (Int×IV):=[(5,EY mb 94),(8,EY mb 95),(9,EY mb 95),(13,EY mb 96),(30,EY mb 97),(19,EY mb 98)]
theorem Akv (r:Ref):IV.one (.mapr r)=true:=rfl
theorem Ad8 {β:Type} (l:List IV) (e:Option β) (k:List FV→Option β):Cm (.dead::l) e k=e:=rfl
theorem of4 {β:Type} (x y z u v b:IV) (l:List IV) (k:List IV→Option β):GF (x::y::z::u::v::l) 4 b k=k (x::y::z::u::b::l):=rfl
theorem Auq (s:Nat) (own:List (Nat×Blk)) (ext:List Blk) (k:IV→Hp→List Ref→List Ref→Option (IV×Hp)):Ay (GC s) s ⟨own,ext⟩ k=CF own s (A2 own s (.map []) fun own=>k (.mapr (.own s)) ⟨own,ext⟩ [] [.own s]):=by
 unfold Ay;simp only [GC,Rd.runLog,Jd,CD,Ci];rfl
def Asp (b:Blk) (k:List (Int×IV)→Option (IV×Hp)):Option (IV×Hp):=match b with
 | .map es=>k es
 | _=>none
theorem Af6 (es:List (Int×IV)) (k:List (Int×IV)→Option (IV×Hp)):Asp (.map es) k=k es:=rfl
theorem Atd (m j:Nat) (v:IV) (hv:v.alive=true) (n:Int) (s:Nat) (own:List (Nat×Blk)) (ext:List Blk) (k:IV→Hp→List Ref→List Ref→Option (IV×Hp)) :
  Ay (B4 EE 98 (.mapr (.own m)) (iv n) v) s ⟨own,ext⟩ k=Gu own m fun b=>Asp b fun es=>A2 own m (.map (Cn n v es)) fun own=>k .dead ⟨own,ext⟩ [.own m] [.own m]:=by
 have h1:=tMk;have h2:=tIk;cases hm:EE.T 98 with
 | none=>rw [hm] at h1;cases h1
 | some ti =>
  cases hi:EE.T 3 with
  | none=>rw [hi] at h2;cases h2
  | some ii =>
   rw [hm] at h1;rw [hi] at h2;obtain ⟨a,b,kd,z⟩:=ti;obtain ⟨a2,b2,kd2,z2⟩:=ii;simp only [Axd,Axa] at h1 h2;subst h1 h2;rw [BB];unfold Ay;cases hl:Aq m own with
   | none=>simp only [B4,hm,hi,UO,Rd.runLog,Hp.get,hl];rfl
   | some bl =>
    cases bl with
    | row c ro=>simp only [B4,hm,hi,UO,Rd.runLog,Hp.get,hl];rfl
    | tok a b=>simp only [B4,hm,hi,UO,Rd.runLog,Hp.get,hl];rfl
    | map es =>
     simp only [B4,hm,hi,UO,Rd.runLog,Hp.get,hl,Afq,hv,and_self,if_true,Option.bind_some,Af6]
     show (fRf (.own m) fun q=>C5 q ⟨own,ext⟩ fun _=>fBk (.map (Cn n v es)) fun b=>FM q b ⟨own,ext⟩ fun h=>Jd none s h fun h=>fV 3 .dead fun v=>k v h [.own m] ([.own m]++[]))=_
     simp only [N9,CD,Ci,Jd,FM,C5];rw [BB,hl];rfl
theorem Aqr {ks:List Bool} (hks:∀b∈ks,b=false) {ih:Aa} {f:FuncId} {args:List IV} {vs:List FV} {w:FV} {mb mp:Nat} {own:List (Nat×Blk)} {s u r e s' u' r' e':Int} (hz:BG args=some vs) (hne:mb≠mp)
  (hl1:Aq mb own=some (.row [iv s,iv u,iv r,iv e,.mapr (.own mp)] false)) (hl2:Aq mp own=some (.map (CU mb))) (hr:Bm (ih f (.ptr (.ext 0) 0::vs.map .fv) ⟨[],MX s u r e⟩) w (MX s' u' r' e')) (k:IV→Hp→List Ref→List Ref→Option (IV×Hp)) :
  Ah (true::ks) false false ih f (.ptr (.own mb) 0::args) ⟨own,[]⟩ k=k (.fv w) ⟨AO mp (.map (CU mb)) (AO mb (.row [iv s',iv u',iv r',iv e',.mapr (.own mp)] false) own),[]⟩ [.own mp,.own mb] [.own mb,.own mp]:=by
 obtain ⟨v,own',e1,hfz⟩:=hr;obtain ⟨uu,hu⟩:=NE hfz;have hD:E6 (true::ks) false false ih f (.ptr (.own mb) 0::args) ⟨own,[]⟩ k=k (.fv w) ⟨AO mp (.map (CU mb)) (AO mb (.row [iv s',iv u',iv r',iv e',.mapr (.own mp)] false) own),[]⟩ [.own mp,.own mb] [.own mb,.own mp]:=by
  have h1:Bk (true::ks) (.ptr (.own mb) 0::args)=.ret (.ptr (.own mb) 0::vs.map .fv,[.own mb],[]):=by
   simp only [Bk,IF args ks hks hz,Rd.bind,IV.refs];rfl
  have hn1:¬ (Ref.own mp=Ref.own mb):=by intro h;cases h;exact hne rfl
  have h2:(BT 4096 [.own mb] []).runLog ⟨own,[]⟩ []=some ([(.own mb,.row [iv s,iv u,iv r,iv e,.mapr (.own mp)] false),(.own mp,.map (CU mb))],[.own mp,.own mb]):=by
   show (BT (4087+1+1+1+1+1+1+1+1+1) [.own mb] []).runLog ⟨own,[]⟩ []=_
   simp only [BT,hasRef,Bool.false_eq_true,if_false,Rd.runLog,Hp.get,hl1,hl2,Blk.refs,IV.refs.refsL,IV.refs,List.append_nil,List.nil_append,List.cons_append,Axg,Axf,hn1,decide_false,decide_true,Bool.or_false,Bool.true_or,if_true]
  have p1:Dt [(.own mb,.row [iv s,iv u,iv r,iv e,.mapr (.own mp)] false),(.own mp,.map (CU mb))] (.own mb)=some (.ext 0):=by simp [Dt,B9]
  have p2:Dt [(.own mb,.row [iv s,iv u,iv r,iv e,.mapr (.own mp)] false),(.own mp,.map (CU mb))] (.own mp)=some (.ext 1):=by simp [Dt,B9,hn1]
  have h3:IV.ren.renL (Dt [(.own mb,.row [iv s,iv u,iv r,iv e,.mapr (.own mp)] false),(.own mp,.map (CU mb))]) (.ptr (.own mb) 0::vs.map .fv)=some (.ptr (.ext 0) 0::vs.map .fv):=by
   simp only [IV.ren.renL,IV.ren,p1,Axd,Option.bind_some,E3]
  have h4:A3 (Dt [(.own mb,.row [iv s,iv u,iv r,iv e,.mapr (.own mp)] false),(.own mp,.map (CU mb))]) [.row [iv s,iv u,iv r,iv e,.mapr (.own mp)] false,.map (CU mb)]=some (MX s u r e):=by
   simp only [A3,Blk.ren,IV.ren.renL,IV.ren,p1,p2,Axd,Option.bind_some,Axg,Axf,List.zip_cons_cons,List.zip_nil_left]
  have h5:A3 (Cj [(.own mb,.row [iv s,iv u,iv r,iv e,.mapr (.own mp)] false),(.own mp,.map (CU mb))]) (MX s' u' r' e')=some [.row [iv s',iv u',iv r',iv e',.mapr (.own mp)] false,.map (CU mb)]:=by
   simp only [A3,Blk.ren,IV.ren.renL,IV.ren,Cj,List.getElem?_cons_zero,List.getElem?_cons_succ,Axd,Option.bind_some,Axg,Axf,List.zip_cons_cons,List.zip_nil_left]
  unfold E6;simp only [h1,Rd.runLog,h2,h3,Axg,Axf,h4,DA (Ci 3),DA CD,Jh,Bool.false_eq_true,if_false,e1,hu,Axd,IV.ren,h5,Axe,List.length_nil,Bq,List.all_nil,and_self,if_true,List.nil_append,List.zip_cons_cons,List.zip_nil_left];have hl3:Aq mp (AO mb (.row [iv s',iv u',iv r',iv e',.mapr (.own mp)] false) own)=some (.map (CU mb)):=by
   rw [← hl2];clear hl1 hl2 h2 e1 hu hfz
   induction own with
   | nil=>simp only [AO,Aq,if_neg (fun h=>hne (Eq.symm h))]
   | cons p l ih =>
    obtain ⟨j,c⟩:=p;simp only [AO];split
    ·rename_i h;subst h;simp only [Aq,if_neg (fun h=>hne (Eq.symm h))]
    ·simp only [Aq,ih]
  have h6:laid ⟨own,[]⟩ [(.own mb,.row [iv s',iv u',iv r',iv e',.mapr (.own mp)] false),(.own mp,.map (CU mb))]=some ⟨AO mp (.map (CU mb)) (AO mb (.row [iv s',iv u',iv r',iv e',.mapr (.own mp)] false) own),[]⟩:=by
   simp only [laid,Hp.get,hl1,Hp.set,hl3]
  simp only [h6,LQ,Ci]
 rw [J5,UA,Qy,NU 0 args _ _ _ _ ks hks hz];simp only [Qb,Rm,cond_false];exact hD
def Ha (op:Int):Int:=if op=8∨op=9∨op=12∨op=19∨op=30 then 1 else if op=4∨op=5 then 2 else if op=7 then 3 else if op=13 then 4 else -1
theorem AkN {n:Nat} (hn:0<n) (op:Int):BE (SS dt n 93 [iv op] ⟨[],[]⟩) (.int .i64 (Ha op)):=by
 obtain ⟨n,rfl⟩:∃k,n=k+1:=⟨n - 1,by omega⟩;rw [c93];unfold Ha;by_cases h:op=8∨op=9∨op=12∨op=19∨op=30
 ·rw [if_pos h];rcases h with rfl | rfl | rfl | rfl | rfl<;>(simp only [↓Agi,↓XX,XY,↓reduceIte,Nat.reduceBEq,Nat.reduceAdd,Int.reduceEq,Int.reduceLT,Int.reduceLE];exact Ao _ _)
 ·rw [if_neg h];have h8:¬ op=8:=fun e=>h (by simp [e]);have h9:¬ op=9:=fun e=>h (by simp [e]);have h12:¬ op=12:=fun e=>h (by simp [e]);have h19:¬ op=19:=fun e=>h (by simp [e]);have h30:¬ op=30:=fun e=>h (by simp [e]);by_cases h2:op=4∨op=5
  ·rw [if_pos h2];rcases h2 with rfl | rfl<;>(simp only [↓Agi,↓XX,XY,↓reduceIte,Nat.reduceBEq,Nat.reduceAdd,Int.reduceEq,Int.reduceLT,Int.reduceLE];exact Ao _ _)
  ·rw [if_neg h2];have h4:¬ op=4:=fun e=>h2 (by simp [e]);have h5:¬ op=5:=fun e=>h2 (by simp [e]);by_cases h7:op=7
   ·subst h7;simp only [↓Agi,↓XX,XY,↓reduceIte,Nat.reduceBEq,Nat.reduceAdd,Int.reduceEq,Int.reduceLT,Int.reduceLE];exact Ao _ _
   ·by_cases h13:op=13
    ·subst h13;simp only [↓Agi,↓XX,XY,↓reduceIte,Nat.reduceBEq,Nat.reduceAdd,Int.reduceEq,Int.reduceLT,Int.reduceLE];exact Ao _ _
    ·simp only [↓Agi,↓XX,XY,↓reduceIte,Nat.reduceBEq,Nat.reduceAdd,Int.reduceEq,Int.reduceLT,Int.reduceLE,h4,h5,h7,h8,h9,h12,h13,h19,h30];exact Ao _ _
mutual
def Tm.shaped:Tm→Bool
 | .mk op n ks=>!(decide (0≤Ha op∧Ha op≠ks.length) || decide (op=1∧n<0)) && Tm.shapedL ks
def Tm.shapedL:List Tm→Bool
 | []=>true
 | t::l=>t.shaped && Tm.shapedL l
end
set_option maxHeartbeats 1000000 in
theorem Adi:∀(n:Nat) (t:Tm),t.wt+1<n→t.wt≤1152921504606846976→BE (SS dt n 69 [.fv t.enc] ⟨[],[]⟩) (.bool t.shaped):=by
 intro n
 induction n with
 | zero=>intro t h;omega
 | succ n ih =>
  intro t h hw;obtain ⟨op,m,ks⟩:=t;simp only [Tm.wt] at h hw;rw [c69,An];have hlen:=EW ks;have hk:=AkN (n:=n) (by omega) op;rw [Tm.shaped];have wl:∀j:Nat,j≤ks.length→BA (j:Int)=j:=fun j hj=>Ax (by omega) (by omega);have loop:BE (By n (fun q99 l100 h101=>Kj l100 h101 (SS dt n) ⟨[],[]⟩ q99) [.fv (.sl (ks.map Tm.enc)),iv ks.length,iv 0] ⟨[(72351744,.row [iv op,iv m,.fv (.sl (ks.map Tm.enc))] false)],[]⟩) (.bool (Tm.shapedL ks)):=by
   refine Bb (Q:=fun r=>BE r _) (fun k V H=>∃pre rest,ks=pre++rest∧rest.length=k∧V=[.fv (.sl (ks.map Tm.enc)),iv ks.length,iv pre.length]∧H=⟨[(72351744,.row [iv op,iv m,.fv (.sl (ks.map Tm.enc))] false)],[]⟩∧Tm.shapedL rest=Tm.shapedL ks)
    ?_ n ks.length _ _ (by omega) ⟨[],ks,rfl,rfl,rfl,rfl,rfl⟩
   rintro k V H rec ⟨pre,rest,hk,hl,rfl,rfl,ht⟩ hrec;have hkl:ks.length=pre.length+rest.length:=by rw [hk];simp
   cases rest with
   | nil =>
    have hno:¬ ((pre.length:Int)<ks.length):=by rw [hkl];simp
    rw [← ht];simp only [J8,JA,KV,Kj,Kd,JX,JK,K6,S69,↓XX,XY,↓reduceIte,Nat.reduceBEq,Nat.reduceAdd,Int.reduceEq,Int.reduceLT,Int.reduceLE,hno,Tm.shapedL];exact Ao _ _
   | cons t rest =>
    have hi:(pre.length:Int)<ks.length:=by rw [hkl];simp;omega
    have hg:=Cu hk;have htw:=CX (t:=t) (l:=ks) (by rw [hk];simp);have hs:=ih t (by omega) (by omega);have hwi:BA ((pre.length:Int)+1)=((pre++[t]).length:Int):=(Ax (by omega) (by omega)).trans (by simp);simp only [Tm.shapedL] at ht;generalize t.shaped=v at hs ht;obtain ⟨o,p,l⟩:=t;simp only [Axe] at hl;rw [An] at hs;cases v
    ·rw [← ht];simp only [J8,JA,KV,Kj,Kd,JX,JK,K6,S69,↓XX,XY,↓reduceIte,Nat.reduceBEq,Nat.reduceAdd,Int.reduceEq,Int.reduceLT,Int.reduceLE,hi,↓Bz (AQ hg) (Bg _ _ _),↓Cb,hwi,↓Av hs,Bool.false_and];exact Ao _ _
    ·simp only [J8,JA,KV,Kj,Kd,JX,JK,K6,S69,↓XX,XY,↓reduceIte,Nat.reduceBEq,Nat.reduceAdd,Int.reduceEq,Int.reduceLT,Int.reduceLE,hi,↓Bz (AQ hg) (Bg _ _ _),↓Cb,hwi,↓Av hs,↓AJ,XD,heldB,AL,XE];refine hrec rest.length _ _ (by omega) ?_;exact ⟨pre++[.mk o p l],rest,by rw [hk];simp,rfl,rfl,rfl,by simpa using ht⟩
  by_cases h0:0≤Ha op
  ·by_cases h1:Ha op=ks.length
   ·by_cases h2:op=1
    ·exfalso;subst h2;revert h0;decide
    ·have e1:(!(decide (0≤Ha op∧Ha op≠ks.length) || decide (op=1∧m<0)) && Tm.shapedL ks)=Tm.shapedL ks:=by simp [h1,h2]
     rw [e1];have h0':(0:Int)≤ks.length:=by omega
     rw [h1] at hk;simp only [↓Afb,↓XX,XY,↓reduceIte,Nat.reduceBEq,Nat.reduceAdd,Int.reduceEq,Int.reduceLT,Int.reduceLE,↓Av hk,h0',h2,↓AJ,XD,heldB,AL,XE];exact loop
   ·have e1:(!(decide (0≤Ha op∧Ha op≠ks.length) || decide (op=1∧m<0)) && Tm.shapedL ks)=false:=by simp [h0,h1]
    rw [e1];simp only [↓Afb,↓XX,XY,↓reduceIte,Nat.reduceBEq,Nat.reduceAdd,Int.reduceEq,Int.reduceLT,Int.reduceLE,↓Av hk,h0,h1];exact Ao _ _
  ·by_cases h2:op=1
   ·subst h2;by_cases h3:m<0
    ·have e1:(!(decide (0≤Ha 1∧Ha 1≠ks.length) || decide ((1:Int)=1∧m<0)) && Tm.shapedL ks)=false:=by simp [h3]
     rw [e1];simp only [↓Afb,↓XX,XY,↓reduceIte,Nat.reduceBEq,Nat.reduceAdd,Int.reduceEq,Int.reduceLT,Int.reduceLE,↓Av hk,h0,h3];exact Ao _ _
    ·have e1:(!(decide (0≤Ha 1∧Ha 1≠ks.length) || decide ((1:Int)=1∧m<0)) && Tm.shapedL ks)=Tm.shapedL ks:=by simp [h0,h3]
     rw [e1];simp only [↓Afb,↓XX,XY,↓reduceIte,Nat.reduceBEq,Nat.reduceAdd,Int.reduceEq,Int.reduceLT,Int.reduceLE,↓Av hk,h0,h3,↓AJ,XD,heldB,AL,XE];exact loop
   ·have e1:(!(decide (0≤Ha op∧Ha op≠ks.length) || decide (op=1∧m<0)) && Tm.shapedL ks)=Tm.shapedL ks:=by simp [h0,h2]
    rw [e1];simp only [↓Afb,↓XX,XY,↓reduceIte,Nat.reduceBEq,Nat.reduceAdd,Int.reduceEq,Int.reduceLT,Int.reduceLE,↓Av hk,h0,h2,↓AJ,XD,heldB,AL,XE];exact loop
def Tf (f:Nat) (t:Tm):Option (Tm×Int) :=
 if t.shaped=false then some (.z,1) else match Qw f [] t ⟨100000,5000000,0⟩ with
 | none=>none
 | some (v,m)=>if m.e≠0 then some (.z,m.e) else match Ut f v 0 1 m 0 with
  | none=>none
  | some (u,m,_)=>if m.e≠0 then some (.z,m.e) else some (u,0)
theorem Aep {ih:Aa} {f:FuncId} {args:List IV} {h h':Hp} {v:IV} (hr:ih f args h=some (v,h')) (k:IV→Hp→List Ref→List Ref→Option (IV×Hp)):Af9 ih f args h k=k v h' [] []:=by
 unfold Af9;rw [hr]
abbrev Hnm (a b:Blk) (s u r e:Int):Hp :=
 ⟨[(42991616,a),(42991617,b),(73401345,.row [iv s,iv u,iv r,iv e,.mapr (.own 73402369)] false),(73402369,.map (CU 73401345))],[]⟩
abbrev Hbg (a b:Blk) (es:List (Int×IV)):Hp :=
 ⟨[(42991616,a),(42991617,b),(73401345,.row [iv 100000,iv 5000000,iv 0,iv 0,.dead] false),(73402369,.map es)],[]⟩
abbrev fnO (g:FuncId):IV:=.func (.func g) [.ptr (.own 73401345) 0] []
theorem PC (a b:Blk) (es:List (Int×IV)) (g:FuncId) (n:Int) (s:Nat) (k:IV→Hp→List Ref→List Ref→Option (IV×Hp)) :
  Ay (B4 EE 98 (.mapr (.own 73402369)) (iv n) (EY 73401345 g)) s (Hbg a b es) k=k .dead (Hbg a b (Cn n (EY 73401345 g) es)) [.own 73402369] [.own 73402369]:=by
 rw [Atd _ 0 _ rfl,BB];rw [show Aq 73402369 (Hbg a b es).own=some (.map es) from rfl,Option.bind_some,Af6,BV]
 rfl
theorem Pv (g:FuncId) (k:IV→Option (IV×Hp)):Bw [.fv .nilf] [(0,1,fnO g)] k=k (EY 73401345 g):=rfl
theorem Aft (a b:Blk) (es:List (Int×IV)):RN (.ptr (.own 73401345) 0) (Hbg a b es) (.mapr (.own 73402369))=some (.ptr (.own 73401345) 0,⟨[(42991616,a),(42991617,b),(73401345,.row [iv 100000,iv 5000000,iv 0,iv 0,.mapr (.own 73402369)] false),(73402369,.map es)],[]⟩):=by
 simp only [RN,↓XX,XY,↓reduceIte,Nat.reduceBEq,Nat.reduceAdd,Int.reduceEq,Int.reduceLT,Int.reduceLE,↓Akv,↓of4]
theorem Ls (g:FuncId) (s:Nat) (h:Hp) (k:IV→Hp→List Ref→List Ref→Option (IV×Hp)):Ay (Idl.val (CV (.func g) [.ptr (.own 73401345) 0] [])) s h k=k (fnO g) h [] []:=gen_val' _ _ _ _
theorem AfG (a b:Blk) (es:List (Int×IV)):Q4 (fnO 97) (Hbg a b es) (.mapr (.own 73402369)) (.ptr (.own 73401345) 0) =
  RN (.ptr (.own 73401345) 0) (Hbg a b (Cn 19 (EY 73401345 98) (Cn 30 (EY 73401345 97) es))) (.mapr (.own 73402369)):=by
 unfold Q4;rw [Pv,PC,Ls,Pv,PC]
theorem AfY (a b:Blk) (es:List (Int×IV)):Ro (Hbg a b es) (.mapr (.own 73402369)) (EY 73401345 95) (.ptr (.own 73401345) 0) =
  Q4 (fnO 97) (Hbg a b (Cn 13 (EY 73401345 96) (Cn 9 (EY 73401345 95) es))) (.mapr (.own 73402369)) (.ptr (.own 73401345) 0):=by
 unfold Ro;rw [PC,Ls,Pv,PC,Ls]
theorem Agt (a b:Blk) (es:List (Int×IV)):U0 (Hbg a b es) (.ptr (.own 73401345) 0) (.mapr (.own 73402369)) =
  Ro (Hbg a b (Cn 8 (EY 73401345 95) es)) (.mapr (.own 73402369)) (EY 73401345 95) (.ptr (.own 73401345) 0):=by
 unfold U0;rw [Ls,Pv,PC,Ls,Pv]
theorem ArC (k:IV→Option (IV×Hp)):Bw [.fv (.int .i64 0),.fv (.int .i64 0),.fv (.int .i64 0),.fv (.int .i64 0),.dead] [(0,1,.fv (.int .i64 100000)),(1,1,.fv (.int .i64 5000000))] k=k (.agg [iv 100000,iv 5000000,iv 0,iv 0,.dead]):=by
 simp only [↓XX,XY,↓reduceIte,Nat.reduceBEq,Nat.reduceAdd,Int.reduceEq,Int.reduceLT,Int.reduceLE,↓Ad8]
theorem Ql {n:Nat} (hn:0<n) (a b:Blk):SS dt n 70 [] ⟨[(42991616,a),(42991617,b)],[]⟩=some (.ptr (.own 73401345) 0,Hnm a b 100000 5000000 0 0):=by
 obtain ⟨n,rfl⟩:∃k,n=k+1:=⟨n - 1,by omega⟩;rw [c70];unfold S70;rw [ArC,T4];have e1:∀k:IV→Hp→List Ref→List Ref→Option (IV×Hp),AD 73401345 (.row [iv 100000,iv 5000000,iv 0,iv 0,.dead] false) (.ptr (.own 73401345) 0) ⟨[(42991616,a),(42991617,b)],[]⟩ k =
   k (.ptr (.own 73401345) 0) ⟨[(42991616,a),(42991617,b),(73401345,.row [iv 100000,iv 5000000,iv 0,iv 0,.dead] false)],[]⟩ [] [.own 73401345]:=by
  intro k;simp only [↓XX,XY,↓reduceIte,Nat.reduceBEq,Nat.reduceAdd,Int.reduceEq,Int.reduceLT,Int.reduceLE]
 rw [e1];have e2:∀k:IV→Hp→List Ref→List Ref→Option (IV×Hp),Ay (GC 73402369) 73402369 ⟨[(42991616,a),(42991617,b),(73401345,.row [iv 100000,iv 5000000,iv 0,iv 0,.dead] false)],[]⟩ k =
   k (.mapr (.own 73402369)) (Hbg a b []) [] [.own 73402369]:=by
  intro k;rw [Auq];simp only [↓XX,XY,↓reduceIte,Nat.reduceBEq,Nat.reduceAdd,Int.reduceEq,Int.reduceLT,Int.reduceLE]
 rw [e2,Ls,Pv,PC,Agt,AfY,AfG,Aft];rfl
section
variable {ih:Aa} {f:FuncId} {w:FV} {a b:Blk} {s u r e s' u' r' e':Int} (k:IV→Hp→List Ref→List Ref→Option (IV×Hp))
theorem Amv (args:List IV) (ks:List Bool) (hks:∀b∈ks,b=false) {vs:List FV} (hz:BG args=some vs) (hr:Bm (ih f (.ptr (.ext 0) 0::vs.map .fv) ⟨[],MX s u r e⟩) w (MX s' u' r' e')) :
  Ah (true::ks) false false ih f (.ptr (.own 73401345) 0::args) (Hnm a b s u r e) k=k (.fv w) (Hnm a b s' u' r' e') [.own 73402369,.own 73401345] [.own 73401345,.own 73402369]:=by
 rw [Aqr hks hz (mp:=73402369) (by decide) (by rfl) (by rfl) hr];rfl
theorem V8 {x y:IV} {vx vy:FV} (hr:Bm (ih f [.ptr (.ext 0) 0,.fv vx,.fv vy] ⟨[],MX s u r e⟩) w (MX s' u' r' e')) (hx:A6 x=some vx) (hy:A6 y=some vy) :
  Ah [true,false,false] false false ih f [.ptr (.own 73401345) 0,x,y] (Hnm a b s u r e) k=k (.fv w) (Hnm a b s' u' r' e') [.own 73402369,.own 73401345] [.own 73401345,.own 73402369] :=
 Amv k [x,y] [false,false] (by simp) (UI hx hy) hr
theorem AgF {x y z:IV} {vx vy vz:FV} (hr:Bm (ih f [.ptr (.ext 0) 0,.fv vx,.fv vy,.fv vz] ⟨[],MX s u r e⟩) w (MX s' u' r' e')) (hx:A6 x=some vx) (hy:A6 y=some vy) (hz:A6 z=some vz) :
  Ah [true,false,false,false] false false ih f [.ptr (.own 73401345) 0,x,y,z] (Hnm a b s u r e) k=k (.fv w) (Hnm a b s' u' r' e') [.own 73402369,.own 73401345] [.own 73401345,.own 73402369] :=
 Amv k [x,y,z] [false,false,false] (by simp) (Acr hx hy hz) hr
end
set_option maxRecDepth 20000 in
set_option maxHeartbeats 1000000 in
theorem Aez {f n:Nat} {t u:Tm} {e:Int} (h:Tf f t=some (u,e)) (hn:f+3≤n) (hw:t.wt+3<n) (hw2:t.wt≤1152921504606846976):BE (SS dt n 41 [.fv t.enc] ⟨[],[]⟩) (.tuple [u.enc,.int .i64 e]):=by
 obtain ⟨n,rfl⟩:∃k,n=k+1:=⟨n - 1,by omega⟩;rw [c41];have hs:=Adi n t (by omega) hw2;unfold Tf at h;obtain ⟨op,m,ks⟩:=t;rw [An] at hs ⊢;by_cases h0:(Tm.mk op m ks).shaped=false
 ·rw [if_pos h0] at h;simp only [Axa,Axb] at h;obtain ⟨rfl,rfl⟩:=h;rw [h0] at hs;simp only [NW,Oe,N5,Nh,M7,MT,On,Nt,Oi,Na,S41,↓XX,XY,↓reduceIte,Nat.reduceBEq,Nat.reduceAdd,Int.reduceEq,Int.reduceLT,Int.reduceLE,↓Av hs];exact AR rfl (by simp) _
 ·rw [if_neg h0] at h;have h0:(Tm.mk op m ks).shaped=true:=by simpa using h0
  rw [h0] at hs;cases hev:Qw f [] (.mk op m ks) ⟨100000,5000000,0⟩ with
  | none=>rw [hev] at h;cases h
  | some q =>
   obtain ⟨v,m1⟩:=q;rw [hev] at h;simp only at h;have hc1:=(LJ f).1 _ _ _ _ _ hev 0 n (by omega);rw [An,Tg] at hc1;by_cases h1:m1.e=0
   ·rw [if_neg (by simpa using h1)] at h;simp only [h1] at hc1;cases hbk:Ut f v 0 1 m1 0 with
    | none=>rw [hbk] at h;cases h
    | some q =>
     obtain ⟨u1,m2,r2⟩:=q;rw [hbk] at h;simp only at h;have hc2:=Am0 f _ _ _ _ _ _ _ _ hbk n (by omega);obtain ⟨o1,n1,k1⟩:=u1;rw [An] at hc2;simp only [h1] at hc2;by_cases h2:m2.e=0
     ·rw [if_neg (by simpa using h2)] at h;simp only [Axa,Axb] at h;obtain ⟨rfl,rfl⟩:=h;rw [An];simp only [NW,Oe,N5,Nh,M7,MT,On,Nt,Oi,Na,S41,↓XX,XY,↓reduceIte,Nat.reduceBEq,Nat.reduceAdd,Int.reduceEq,Int.reduceLT,Int.reduceLE,↓Av hs,↓Aep (Ql (n:=n) (by omega) _ _),↓V8 _ hc1,↓AgF _ hc2,h1,h2];exact Ao _ _
     ·rw [if_pos h2] at h;simp only [Axa,Axb] at h;obtain ⟨rfl,rfl⟩:=h;simp only [NW,Oe,N5,Nh,M7,MT,On,Nt,Oi,Na,S41,↓XX,XY,↓reduceIte,Nat.reduceBEq,Nat.reduceAdd,Int.reduceEq,Int.reduceLT,Int.reduceLE,↓Av hs,↓Aep (Ql (n:=n) (by omega) _ _),↓V8 _ hc1,↓AgF _ hc2,h1,h2];exact AR rfl (by simp) _
   ·rw [if_pos h1] at h;simp only [Axa,Axb] at h;obtain ⟨rfl,rfl⟩:=h;simp only [NW,Oe,N5,Nh,M7,MT,On,Nt,Oi,Na,S41,↓XX,XY,↓reduceIte,Nat.reduceBEq,Nat.reduceAdd,Int.reduceEq,Int.reduceLT,Int.reduceLE,↓Av hs,↓Aep (Ql (n:=n) (by omega) _ _),↓V8 _ hc1,h1];exact AR rfl (by simp) _
end Idl
end Go.Proofs.Ytkfecngimlcfoaa
namespace Go.Proofs.Ytkfecngimlcfoaa
namespace Idl
theorem AfJ {f n:Nat} {t u:Tm} (hc:(t.chk 0 1).2=0) (h:Tf f t=some (u,0)) (hp:u.plainP=true) (hn:f+4≤n) (h2:2 * t.wt+4<n) (h3:4 * u.wt+6<n) (h4:u.wt≤900000) :
  BE (SS dt n 16 [.fv t.enc] ⟨[],[]⟩) (.tuple [u.enc,.int .i64 0]):=by
 obtain ⟨n,rfl⟩:∃k,n=k+1:=⟨n - 1,by omega⟩;rw [c16];have h1:=Ac4 (n:=n) t (by omega);have hw:=AbP t 0 1 (by omega);have hN:=Aez (n:=n) h (by omega) (by omega) (by have:=hw.2.2 hc;omega);have hP:=Pd (n:=n) u (by omega) h4;rw [hc] at h1;rw [hp] at hP;obtain ⟨o1,n1,k1⟩:=t;obtain ⟨o2,n2,k2⟩:=u;simp only [An] at h1 hN hP ⊢;simp only [Afj,Aej,AdL,Agn,Ae6,Aes,AfT,S16,↓XX,XY,↓reduceIte,Nat.reduceBEq,Nat.reduceAdd,Int.reduceEq,Int.reduceLT,Int.reduceLE,↓Av h1,↓Av hN,↓Av hP];first | exact Ao _ _ | exact AR rfl (by simp) _
theorem Apj:EE.T 27=some ⟨1,24,.slice 69,[.nils]⟩:=by kernel_rfl
theorem tV1:EE.T 69=some ⟨4,48,.struct [(0,3),(1,30)],[.fv (.int .i64 0),.fv (.int .i64 0),.fv (.int .i64 0),.nils]⟩:=by kernel_rfl
theorem sV1:SliceT EE 27 4:=⟨_,_,_,_,_,Apj,tV1,rfl,by decide,by decide⟩
theorem Afr (s:Nat) (h:Hp) (k:IV→Hp→List Ref→List Ref→Option (IV×Hp)):Ay (Ak EE 27 0 []) s h k=k (.clip []) h [] []:=Cl Apj tV1 (by decide) (cells:=[]) rfl k
theorem Afi (s0 o n:Int) (ks:List FV) (s:Nat) (h:Hp) (k:IV→Hp→List Ref→List Ref→Option (IV×Hp)):Ay (Ak EE 27 1 [(0,.fv (.agg [.int .i64 s0,.int .i64 o,.int .i64 n,.sl ks]))]) s h k=k (.clip [.agg [.int .i64 s0,.int .i64 o,.int .i64 n,.sl ks]]) h [] [] :=
 Cl Apj tV1 (by decide) (cells:=[.int .i64 s0,.int .i64 o,.int .i64 n,.sl ks]) rfl k
theorem L5 (g:Cd):BC 4 (g.map v1)=true:=by
 cases g with
 | nil=>rfl
 | cons a l=>simp only [Axg,BC,v1,FV.cells,Axe,List.length_nil,beq_self_eq_true]
theorem AnY (g:Cd):((g.map v1).all fun e=>e.cells.all FV.one)=true:=by
 rw [List.all_map,List.all_eq_true];intro p _;rfl
theorem DG {n:Nat} (g:Cd) (st:Int) (a:Tm) (hg:g.length≤1000) (hn:0<n):BE (SS dt n 60 [.fv (Be g),iv st,.fv a.enc] ⟨[],[]⟩) (Be (g++[(st,a)])):=by
 obtain ⟨n,rfl⟩:∃k,n=k+1:=⟨n - 1,by omega⟩;rw [c60];rw [Be,Be,List.map_append,Axg,Axf];cases g with
 | nil =>
  have h0:=fun {β:Type}=>Am3 (β:=β) (E:=EE) sV1 (.sl []) (s0:=.clip []) (.inr rfl);have happ:=fun {β:Type}=>KG (β:=β) sV1 (.clip [v1 (st,a)]) (L5 [(st,a)]) rfl (by simp) (s0:=.clip []) (.inr rfl);obtain ⟨o,p,k⟩:=a;simp only [v1,Tm.op,Tm.n,Tm.kids] at happ ⊢;rw [An];simp only [UC,U7,S60,↓XX,XY,↓reduceIte,Nat.reduceBEq,Nat.reduceAdd,Int.reduceEq,Int.reduceLT,Int.reduceLE,↓Afr,↓h0,↓Afi,↓happ];exact Ba rfl _
 | cons t g =>
  have h0:=fun {β:Type}=>KG (β:=β) sV1 (.sl ((t::g).map v1)) (L5 (t::g)) rfl (by simp at hg ⊢;omega) (s0:=.clip []) (.inr rfl);have happ:=fun {β:Type}=>Po (β:=β) sV1 (es:=(t::g).map v1) (es2:=[v1 (st,a)]) (.clip _) (L5 [(st,a)]) (L5 (t::g)) (AnY [(st,a)]) (by simp at hg ⊢;omega);obtain ⟨o,p,k⟩:=a;simp only [Axg,List.length_map,Axe,List.length_nil,List.cons_append] at h0 happ ⊢;simp only [v1,Tm.op,Tm.n,Tm.kids] at h0 happ ⊢;rw [An];simp only [UC,U7,S60,↓XX,XY,↓reduceIte,Nat.reduceBEq,Nat.reduceAdd,Int.reduceEq,Int.reduceLT,Int.reduceLE,↓Afr,↓h0,↓Afi,↓happ,Hd];exact Ba rfl _
theorem Mr {n:Nat} (hn:1<n):BE (SS dt n 64 [] ⟨[],[]⟩) (Tm.mk 10 0 []).enc:=by
 obtain ⟨n,rfl⟩:∃k,n=k+1:=⟨n - 1,by omega⟩;rw [c64];have t:=D3 (n:=n) (by omega) 10;rw [An] at t ⊢;simp only [S64,↓XX,XY,↓reduceIte,Nat.reduceBEq,Nat.reduceAdd,Int.reduceEq,Int.reduceLT,Int.reduceLE,↓Aj t];exact Ao _ _
end Idl
end Go.Proofs.Ytkfecngimlcfoaa

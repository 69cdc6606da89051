/-
  Texts of a proof, part 13: an ideal semantics of the program, its functions in shallow form, contracts of them. No statement of the seat is proved here.
-/
import Derived.Test.YtkfecngimlcfoaaStagePlainK12
set_option linter.all false
noncomputable section
namespace Go.Proofs.Ytkfecngimlcfoaa
namespace Idl
theorem AgK {P:Nat→Nat→Prop}:∀m,(∀i,i<m→∃N,∀n,N≤n→P i n)→∃N,∀i,i<m→∀n,N≤n→P i n:=by
 intro m
 induction m with
 | zero=>intro _;exact ⟨0,fun i hi=>by omega⟩
 | succ m ih =>
  intro h;obtain ⟨N1,h1⟩:=ih fun i hi=>h i (by omega);obtain ⟨N2,h2⟩:=h m (by omega);refine ⟨N1+N2,fun i hi n hn=>?_⟩;by_cases him:i=m
  ·subst him;exact h2 n (by omega)
  ·exact h1 i (by omega) n (by omega)
theorem Afu:EE.T 75=some ⟨1,24,.slice 3,[.nils]⟩:=by kernel_rfl
theorem An3:EE.T 3=some ⟨1,8,.int .i64,[.fv (.int .i64 0)]⟩:=by kernel_rfl
theorem AsD:SliceT EE 75 1:=⟨_,_,_,_,_,Afu,An3,rfl,by decide,by decide⟩
theorem AmC (a:Int) (s:Nat) (h:Hp) (k:IV→Hp→List Ref→List Ref→Option (IV×Hp)):Ay (Ak EE 75 1 [(0,iv a)]) s h k=k (.clip [.int .i64 a]) h [] []:=Cl Afu An3 (by decide) (cells:=[.int .i64 a]) rfl k
def iE (l:List Nat):List FV:=l.map fun (i:Nat)=>FV.int .i64 (i:Int)
theorem Vi (l:List Nat):BC 1 (iE l)=true:=by
 cases l with
 | nil=>rfl
 | cons a l=>rfl
theorem As1 (l:List Nat):((iE l).all fun e=>e.cells.all FV.one)=true:=by
 rw [iE,List.all_map,List.all_eq_true];intro p _;rfl
def lV:List Nat→IV
 | []=>.nils
 | i::l=>.app (.own 60825603) (iE (i::l))
def lH:List Nat→List (Nat×Blk)
 | []=>[]
 | i::l=>[(60825603,.tok (i::l).length 1)]
abbrev MM (o m:Int) (ks:List Tm) (l:List Nat):Hp :=
 ⟨[(60817408,.row [iv o,iv m,.fv (.sl (ks.map Tm.enc))] false),(60817409,.row [iv 0,iv 0,.nils] false)]++lH l,[]⟩
theorem AcC (p:Nat→Bool) (i:Nat):(List.range (i+1)).filter p=(List.range i).filter p++(if p i then [i] else []):=by
 rw [List.range_succ,List.filter_append];cases h:p i<;>simp [h]
set_option maxRecDepth 20000 in
set_option maxHeartbeats 4000000 in
theorem LL {e0:Nat} {g:Cd} (hg:GOk e0 g) (st:Int) {a:Tm} (ha:NOk g.length a) (x:Int):∃t b,Ev 58 [.fv (Be g),iv st,.fv a.enc,iv x] (.tuple [Tm.enc t,.bool b])∧TOk g.length 0 t∧(b=true→∃i:Nat,t=.mk 1 i []∧Hit g st a i):=by
 have hlen:=hg.len;have hc:∀i:Nat,∃(p:Int×Tm) (u:Tm) (e:Int),i<g.length→g[g.length - 1 - i]?=some p∧p.2.wk∧p.2.wt≤100000000000∧Ev 34 [.fv (p.2.shift ((i:Int)+1) 0).enc] (.tuple [u.enc,.int .i64 e])∧(e=0∧NOk g.length u∨(e=5∨e=17)∧u=.z)∧∃f,A5 f (p.2.shift ((i:Int)+1) 0)=some (u,e):=by
  intro i;by_cases hi:i<g.length
  ·obtain ⟨p,hp⟩:∃p,g[g.length - 1 - i]?=some p:=⟨_,List.getElem?_eq_getElem (by omega)⟩;obtain ⟨h1,h2,h3⟩:=hg.ok _ _ hp;have h4:=GP p.2 (i+1) 0 _ h1 (by omega);rw [show g.length - 1 - i+(i+1)=g.length by omega] at h4
   obtain ⟨u,e,h5,h6,h7⟩:=K8 (k:=g.length) (by omega) h4 (by rw [FF];omega);exact ⟨p,u,e,fun _=>⟨hp,GI _ _ h1,h2,h5,h6,h7⟩⟩
  ·exact ⟨(0,.z),.z,0,fun h=>absurd h hi⟩
 obtain ⟨P,hP⟩:=Classical.axiomOfChoice hc;obtain ⟨U,hP⟩:=Classical.axiomOfChoice hP;obtain ⟨E,hU⟩:=Classical.axiomOfChoice hP;clear hP hc;obtain ⟨N,hN⟩:=AgK (P:=fun i n=>BE (SS dt n 34 [.fv ((P i).2.shift ((i:Int)+1) 0).enc] ⟨[],[]⟩) (.tuple [(U i).enc,.int .i64 (E i)])) g.length (fun i hi=>(hU i hi).2.2.2.1);obtain ⟨hit,hhit⟩:∃h:Nat→Bool,∀i,h i=(decide ((P i).1=st) && (decide (E i=0) && (U i).eta.same a.eta)):=⟨_,fun _=>rfl⟩;obtain ⟨L,hL⟩:∃L,L=(List.range g.length).filter hit:=⟨_,rfl⟩;obtain ⟨tt,htt⟩:∃tt:Tm,tt=if L=[] then .z else .mk 1 ((L.getD (x % (L.length:Int)).toNat 0:Nat):Int) []:=⟨_,rfl⟩;have hLlt:∀i∈L,i<g.length:=fun i hi=>by
  rw [hL] at hi;exact List.mem_range.1 (List.mem_filter.1 hi).1
 refine ⟨tt,!decide (L=[]),⟨N+200000000000+1,?_⟩,?_,?_⟩
 ·intro n hn;obtain ⟨n,rfl⟩:∃k,n=k+1:=⟨n - 1,by omega⟩;have hka:=Wo n a g.length ha.sc (by have:=ha.wt;omega) (by have:=ha.wt;omega);rw [c58];generalize hae:a.eta=ae at hka hhit;obtain ⟨oa,ma,ka⟩:=a;obtain ⟨oe,me,ke⟩:=ae;simp only [An] at hka ⊢;simp only [Su,Sn,PY,PE,PF,Sf,Rv,QR,RZ,QJ,QD,QG,Rt,PN,S58,↓XX,XY,↓reduceIte,Nat.reduceBEq,Nat.reduceAdd,Int.reduceEq,Int.reduceLT,Int.reduceLE,Be,↓AJ,XD,heldB,AL,XE];refine Bb (Q:=fun r=>BE r _) (fun k V H=>∃i:Nat,i+k=g.length∧∃l:List Nat,l=(List.range i).filter hit∧V=[.fv (.sl (g.map v1)),iv st,iv x,.ptr (.own 60817408) 0,.ptr (.own 60817409) 0,lV l,iv i]∧H=MM oa ma ka l)
   ?_ n g.length _ _ (by omega) ⟨0,by omega,[],rfl,rfl,rfl⟩
  rintro k V H rec ⟨i,hik,l,hl,rfl,rfl⟩ hrec;cases k with
  | zero =>
   have hig:i=g.length:=by omega
   rw [hig] at hl;rw [← hL] at hl;subst hl;have hno:¬ ((i:Int)<g.length):=by omega
   cases l with
   | nil =>
    rw [htt,if_pos rfl];simp only [lV,Tm.z,An];simp only [↓OR,↓XX,XY,↓reduceIte,Nat.reduceBEq,Nat.reduceAdd,Int.reduceEq,Int.reduceLT,Int.reduceLE,hno]
    first | exact Ao _ _ | exact AR rfl (by simp) _
   | cons i0 l0 =>
    rw [htt,if_neg (by simp)];generalize hl1:i0::l0=l at *;have hlp:0<l.length:=by rw [← hl1];simp
    have hll:l.length≤100:=by
     have h1:=List.length_filter_le hit (List.range g.length);rw [← hL,List.length_range] at h1;omega
    have hw:=Au (n:=n) (by omega) x (m:=(l.length:Int)) (by omega) (by omega);have h1:=Int.emod_nonneg x (show (l.length:Int)≠0 by omega)
    have h2:=Int.emod_lt_of_pos x (show (0:Int)<l.length by omega)
    obtain ⟨j,hj⟩:∃j:Nat,x % (l.length:Int)=j:=⟨(x % (l.length:Int)).toNat,by omega⟩;rw [hj] at hw h2 ⊢;have hjl:j<l.length:=by omega
    have hget:(iE l)[j]?=some (.int .i64 ((l.getD j 0:Nat):Int)):=by
     rw [iE,List.getElem?_map,List.getD_eq_getElem?_getD,List.getElem?_eq_getElem hjl];rfl
    rw [Int.toNat_natCast];have hix:=fun {β:Type}=>Bz (β:=β) (size:=1) hget rfl;have hv:=Aqx (n:=n) (by omega) ((l.getD j 0:Nat):Int);generalize ((l.getD j 0:Nat):Int)=q at hix hv ⊢;have hln:¬ ((l.length:Int)=0):=by omega
    have hiel:(iE l).length=l.length:=by rw [iE,List.length_map]
    have hap:∀(β:Type) (x:IV) (k:IV→Option β),AT 1 (.app (.own 60825603) (iE l)) x k=AT 1 (.fv (.sl (iE l))) x k:=fun _ _ _=>rfl;have hlV:lV l=.app (.own 60825603) (iE l):=by rw [← hl1];rfl
    have hlH:lH l=[(60825603,.tok l.length 1)]:=by rw [← hl1];rfl
    have hne:decide (l=[])=false:=by rw [← hl1];simp
    rw [hlV,MM,hlH,hne];simp only [List.cons_append,List.nil_append];simp only [An,Axf] at hv ⊢;simp only [↓OR,↓XX,XY,↓reduceIte,Nat.reduceBEq,Nat.reduceAdd,Int.reduceEq,Int.reduceLT,Int.reduceLE,hno,hiel,hln,↓Aj hw,↓hap,↓hix,FV.cells,↓Av hv]
    first | exact Ao _ _ | exact AR rfl (by simp) _
  | succ k =>
   have hig:i<g.length:=by omega
   have hlt:(i:Int)<g.length:=by omega
   obtain ⟨hp,hwk,hwt,_,hN',_⟩:=hU i hig;have hget:(g.map v1)[g.length - 1 - i]?=some (v1 (P i)):=by rw [List.getElem?_map,hp];rfl
   have hix:=fun {β:Type}=>Bz (β:=β) (size:=4) hget rfl;have w1:BA ((g.length:Int) - 1)=(g.length:Int) - 1:=by rw [Ax]<;>omega
   have w2:BA ((g.length:Int) - 1 - i)=((g.length - 1 - i:Nat):Int):=by rw [Ax (by omega) (by omega)];omega
   have wi:BA ((i:Int)+1)=(i:Int)+1:=by rw [Ax]<;>omega
   have hsh:=Db n (P i).2 ((i:Int)+1) 0 (by omega) hwk (by omega) (by omega);have hNi:=hN i hig n (by omega);have h9:=fun (l':List Nat) (e:l'=l++if hit i then [i] else [])=>hrec k [.fv (.sl (g.map v1)),iv st,iv x,.ptr (.own 60817408) 0,.ptr (.own 60817409) 0,lV l',iv (i+1:Nat)] (MM oa ma ka l') (by omega)
    ⟨i+1,by omega,l',by rw [AcC,← hl,e],rfl,rfl⟩
   have hi1:((i+1:Nat):Int)=(i:Int)+1:=by omega
   rw [hi1] at h9;have hhi:=hhit i;generalize (P i).2.shift ((i:Int)+1) 0=ts at hsh hNi;generalize P i=p at hp hget hix hsh hhi;obtain ⟨sp,tp⟩:=p;by_cases c1:sp=st
   ·by_cases c2:E i=0
    ·have hUi:NOk g.length (U i):=by
      rcases hN' with ⟨_,h⟩ | ⟨h,_⟩
      ·exact h
      ·omega
     have hke:=Wo n (U i) g.length hUi.sc (by have:=hUi.wt;omega) (by have:=hUi.wt;omega);have hew:=(AdK (U i) g.length hUi.sc (by have:=hUi.wt;omega)).2;have hsm:=MA n (U i).eta (.mk oe me ke) (by have:=hUi.wt;omega) (by have:=hUi.wt;omega);rw [c2] at hNi;simp only [c1,c2,decide_true,Bool.true_and] at hhi;rw [← hhi] at hsm;generalize (U i).eta=ue at hke hsm;generalize U i=ui at hNi hke;obtain ⟨o1,n1,k1⟩:=tp;obtain ⟨o2,n2,k2⟩:=ts;obtain ⟨o3,n3,k3⟩:=ui;obtain ⟨o4,n4,k4⟩:=ue;subst c1;simp only [An,v1,Tm.op,Tm.n,Tm.kids] at hsh hNi hke hsm hix;cases hb:hit i
     ·rw [hb] at hsm h9;have h9:=h9 l (by simp);cases l with
      | nil =>
       simp only [lV,lH,MM,List.append_nil] at h9 ⊢;simp only [↓OR,↓XX,XY,↓reduceIte,Nat.reduceBEq,Nat.reduceAdd,Int.reduceEq,Int.reduceLT,Int.reduceLE,hlt,w1,w2,wi,↓hix,FV.cells,↓AZ hsh,↓Av hNi,↓Av hke,↓Av hka,↓Aj hsm,↓AJ,XD,heldB,AL,XE];exact h9
      | cons i0 l0 =>
       simp only [lV,lH,MM,List.cons_append,List.nil_append] at h9 ⊢;simp only [↓OR,↓XX,XY,↓reduceIte,Nat.reduceBEq,Nat.reduceAdd,Int.reduceEq,Int.reduceLT,Int.reduceLE,hlt,w1,w2,wi,↓hix,FV.cells,↓AZ hsh,↓Av hNi,↓Av hke,↓Av hka,↓Aj hsm,↓AJ,XD,heldB,AL,XE];exact h9
     ·rw [hb] at hsm h9;have h9:=h9 (l++[i]) (by simp);cases l with
      | nil =>
       have happ:=fun {β:Type}=>KG (β:=β) AsD (.clip [.int .i64 (i:Int)]) (Vi [i]) rfl (by simp) (s0:=.nils) (.inl rfl);simp only [lV,lH,MM,List.cons_append,List.nil_append] at h9 ⊢;simp only [↓OR,↓XX,XY,↓reduceIte,Nat.reduceBEq,Nat.reduceAdd,Int.reduceEq,Int.reduceLT,Int.reduceLE,hlt,w1,w2,wi,↓hix,FV.cells,↓AZ hsh,↓Av hNi,↓Av hke,↓Av hka,↓Aj hsm,↓AmC,↓happ,↓AJ,XD,heldB,AL,XE];exact h9
      | cons i0 l0 =>
       have hll:(i0::l0).length≤100:=by
        have h1:=List.length_filter_le hit (List.range i);rw [← hl,List.length_range] at h1;omega
       have happ:=fun {β:Type}=>Po (β:=β) AsD (es:=iE (i0::l0)) (es2:=[.int .i64 (i:Int)]) (.clip _) (Vi [i]) (Vi _) (As1 [i]) (by rw [iE,List.length_map];simp only [Axe,List.length_nil] at hll ⊢;omega);have hil:(iE (i0::l0)).length=(i0::l0).length:=by rw [iE,List.length_map]
       have hia:iE (i0::l0)++[.int .i64 (i:Int)]=iE (i0::(l0++[i])):=by simp [iE]
       have hil2:(i0::(l0++[i])).length=(i0::l0).length+1:=by simp
       simp only [hil,hia,Axe,List.length_nil,Nat.zero_add] at happ;simp only [lV,lH,MM,List.cons_append,List.nil_append,hil2] at h9 ⊢;simp only [Axe] at h9 ⊢;simp only [↓OR,↓XX,XY,↓reduceIte,Nat.reduceBEq,Nat.reduceAdd,Int.reduceEq,Int.reduceLT,Int.reduceLE,hlt,w1,w2,wi,↓hix,FV.cells,↓AZ hsh,↓Av hNi,↓Av hke,↓Av hka,↓Aj hsm,↓AmC,↓happ,Hd,↓AJ,XD,heldB,AL,XE];exact h9
    ·simp only [c2,decide_false,Bool.false_and,Bool.and_false] at hhi;rw [hhi] at h9;have h9:=h9 l (by simp);generalize E i=ei at hNi c2;generalize U i=ui at hNi;obtain ⟨o1,n1,k1⟩:=tp;obtain ⟨o2,n2,k2⟩:=ts;obtain ⟨o3,n3,k3⟩:=ui;subst c1;simp only [An,v1,Tm.op,Tm.n,Tm.kids] at hsh hNi hix;cases l with
     | nil =>
      simp only [lV,lH,MM,List.append_nil] at h9 ⊢;simp only [↓OR,↓XX,XY,↓reduceIte,Nat.reduceBEq,Nat.reduceAdd,Int.reduceEq,Int.reduceLT,Int.reduceLE,hlt,w1,w2,wi,↓hix,FV.cells,↓AZ hsh,↓Av hNi,c2,↓AJ,XD,heldB,AL,XE];exact h9
     | cons i0 l0 =>
      simp only [lV,lH,MM,List.cons_append,List.nil_append] at h9 ⊢;simp only [↓OR,↓XX,XY,↓reduceIte,Nat.reduceBEq,Nat.reduceAdd,Int.reduceEq,Int.reduceLT,Int.reduceLE,hlt,w1,w2,wi,↓hix,FV.cells,↓AZ hsh,↓Av hNi,c2,↓AJ,XD,heldB,AL,XE];exact h9
   ·simp only [c1,decide_false,Bool.false_and] at hhi;rw [hhi] at h9;have h9:=h9 l (by simp);obtain ⟨o1,n1,k1⟩:=tp;simp only [v1,Tm.op,Tm.n,Tm.kids] at hix;cases l with
    | nil =>
     simp only [lV,lH,MM,List.append_nil] at h9 ⊢;simp only [↓OR,↓XX,XY,↓reduceIte,Nat.reduceBEq,Nat.reduceAdd,Int.reduceEq,Int.reduceLT,Int.reduceLE,hlt,w1,w2,wi,↓hix,FV.cells,c1,↓AJ,XD,heldB,AL,XE];exact h9
    | cons i0 l0 =>
     simp only [lV,lH,MM,List.cons_append,List.nil_append] at h9 ⊢;simp only [↓OR,↓XX,XY,↓reduceIte,Nat.reduceBEq,Nat.reduceAdd,Int.reduceEq,Int.reduceLT,Int.reduceLE,hlt,w1,w2,wi,↓hix,FV.cells,c1,↓AJ,XD,heldB,AL,XE];exact h9
 ·rw [htt];split
  ·exact ⟨Ap5 _,by have:=L4 0;simp [Tm.z,Tm.wt,Tm.wtL];omega,by simp [Tm.z,Tm.dp,Tm.dpL,Dg]⟩
  ·rename_i hne;have h1:=Int.emod_nonneg x (show (L.length:Int)≠0 by
    intro h;exact hne (List.eq_nil_of_length_eq_zero (by omega)))
   have h2:=Int.emod_lt_of_pos x (show (0:Int)<L.length by
    have:L.length≠0:=fun h=>hne (List.eq_nil_of_length_eq_zero h)
    omega)
   have hj:(x % (L.length:Int)).toNat<L.length:=by omega
   have:=hLlt (L.getD (x % (L.length:Int)).toNat 0) (by rw [List.getD_eq_getElem?_getD,List.getElem?_eq_getElem hj];exact List.getElem_mem hj)
   exact ⟨Ao1 (by omega) (by omega),by have:=L4 0;simp [Tm.wt,Tm.wtL];omega,by simp [Tm.dp,Tm.dpL,Dg]⟩
 ·intro hb;have hne:L≠[]:=by simpa using hb
  rw [htt,if_neg hne];have h1:=Int.emod_nonneg x (show (L.length:Int)≠0 by
   intro h;exact hne (List.eq_nil_of_length_eq_zero (by omega)))
  have h2:=Int.emod_lt_of_pos x (show (0:Int)<L.length by
   have:L.length≠0:=fun h=>hne (List.eq_nil_of_length_eq_zero h)
   omega)
  have hj:(x % (L.length:Int)).toNat<L.length:=by omega
  have hm:L.getD (x % (L.length:Int)).toNat 0∈L:=by rw [List.getD_eq_getElem?_getD,List.getElem?_eq_getElem hj];exact List.getElem_mem hj
  generalize L.getD (x % (L.length:Int)).toNat 0=i at hm;refine ⟨i,rfl,hLlt i hm,?_⟩;have hig:=hLlt i hm;rw [hL] at hm;have hh:=(List.mem_filter.1 hm).2;rw [hhit,Bool.and_eq_true,Bool.and_eq_true,decide_eq_true_eq,decide_eq_true_eq] at hh;obtain ⟨hp,_,_,_,_,f,hf⟩:=hU i hig;rw [hh.2.1] at hf;refine ⟨(P i).2,f,U i,by rw [hp,← hh.1],?_,(QY _ _).1 hh.2.2⟩;rw [show ((i+1:Nat):Int)=(i:Int)+1 by omega]
  exact hf
def D5 (F:FuncId) (κ e:Nat):Prop:=∀(g:Cd) (a r:Tm),GOk e g→AOk g.length a→∃t b,Ev F [.fv (Be g),.fv a.enc,.fv r.enc,iv ((e:Int) - 5)] (.tuple [Tm.enc t,.bool b])∧TG κ e g a t b
def Pm (F:FuncId) (κ e:Nat):Prop:=∀(g:Cd) (a r:Tm),GOk e g→NOk g.length a→∃t b,Ev F [.fv (Be g),.fv a.enc,.fv r.enc,iv ((e:Int) - 5)] (.tuple [Tm.enc t,.bool b])∧TG κ e g a t b
structure TyOk (g:Cd) (e:Nat) (t:Tm):Prop where
 sc:t.sc g.length
 wt:t.wt≤Wg (e - 1)+10
 dp:t.dp≤Dg (e - 1)+3
 gr:Gr 0 e g .z t
def LY (e:Nat):Prop:=∀(g:Cd) (r:Tm),GOk e g→∃t,Ev 38 [.fv (Be g),.fv r.enc,iv ((e:Int) - 5)] (Tm.enc t)∧TyOk g e t
theorem ND {k:Nat} {a:Tm} (h:NOk k a) (hk:k≤1000) (d:Nat) (hd:d≤10):NOk (k+d) (a.shift d 0):=⟨GP a d 0 k h.sc (by have:=h.wt;omega),by rw [Fo];exact h.wt,by rw [FF];exact h.dp⟩
set_option maxRecDepth 20000 in
set_option maxHeartbeats 4000000 in
theorem AgD {e:Nat} (h6:6≤e) (he:e≤10) (hT:LY 6) (hG:D5 39 1 (e - 2)):Pm 65 3 e:=by
 intro g a r hg ha;have hlen:=hg.len;have hW2:Wg e=16 * Wg (e - 2):=by
  obtain ⟨f,rfl⟩:∃f,e=f+2:=⟨e - 2,by omega⟩;rw [show f+2=(f+1)+1 by omega,L0,L0,show f+1+1 - 2=f by omega];omega
 have hW20:=L4 (e - 2);have hW5:4 * Wg 5≤Wg e:=by rw [← L0];exact PZ (by omega)
 have hW10:=Nu he;have hDe:Dg e=Dg (e - 2)+20:=by unfold Dg;omega
 have hD5:Dg 5+10≤Dg e:=by unfold Dg;omega
 have hD2:200≤Dg (e - 2):=by unfold Dg;omega
 have hDm:Dg e≤300:=by unfold Dg;omega
 obtain ⟨b,⟨N1,h1⟩,tb⟩:=hT g (r.pick 0) (AU (by omega) hg);have bw:=tb.wt;have bd:=tb.dp;simp only [show 6 - 1=5 from rfl] at bw bd
 have hba:AOk g.length b:=⟨tb.sc,by omega,by omega⟩;have hbm:GOk (e - 2) (g++[(1,b)]):=CN (AU (by omega) hg) tb.sc (by omega) (by omega);obtain ⟨x,p,⟨N2,h2⟩,tx⟩:=hG g b (r.pick 1) (AU (by omega) hg) hba;obtain ⟨c,q,⟨N3,h3⟩,tc⟩:=hG g a (r.pick 2) (AU (by omega) hg) (Bx ha);have hsa:=ND ha (by omega) 1 (by omega);obtain ⟨c2,q2,⟨N4,h4⟩,tc2⟩:=hG (g++[(1,b)]) (a.shift 1 0) (r.pick 2) hbm (by simpa using Bx hsa);have we:BA ((e:Int) - 5 - 2)=((e - 2:Nat):Int) - 5:=by rw [Ax (by omega) (by omega)];omega
 have hd2:(((e - 2:Nat):Int) - 5)=((e - 2:Nat):Int) - 5:=rfl;have aw:=ha.wt;have ad:=ha.dp;have xw:=tx.wt;have cw:=tc.wt;have c2w:=tc2.wt;have xd:=tx.dp;have cd:=tc.dp;have c2d:=tc2.dp;have c2s:c2.sc (g.length+1):=by simpa using tc2.sc
 by_cases h0:r.n % 3=0
 ·refine ⟨.mk 8 0 [.mk 7 0 [.mk 6 0 [a,b.shift 1 0],c,x]],p && q,⟨N1+N2+N3+200000000000+1,?_⟩,?_,?_,?_,fun hb=>.fst e g a b c x h6 hba tb.gr (tx.gr (LD hb)) (tc.gr (Jt hb))⟩
  ·intro n hn;obtain ⟨n,rfl⟩:∃k,n=k+1:=⟨n - 1,by omega⟩;have h1:=h1 n (by omega);have h2:=h2 n (by omega);have h3:=h3 n (by omega);rw [← we] at h2 h3;have p0:=AM (n:=n) (by omega) r 0;have p1:=AM (n:=n) (by omega) r 1;have p2:=AM (n:=n) (by omega) r 2;have hw:=Au (n:=n) (by omega) r.n (m:=3) (by omega) (by omega);have hsh:=Db n b 1 0 (by omega) (GI _ _ tb.sc) (by omega) (by omega);have t6:=C4 (n:=n) (by omega) 6 [a,b.shift 1 0];have t7:=C4 (n:=n) (by omega) 7 [.mk 6 0 [a,b.shift 1 0],c,x];have t8:=C4 (n:=n) (by omega) 8 [.mk 7 0 [.mk 6 0 [a,b.shift 1 0],c,x]];rw [h0] at hw;rw [c65];clear h4 tb tx tc tc2 ha hg hG hT hba hbm hsa aw ad xw cw c2w bw xd cd c2d bd c2s;generalize b.shift 1 0=bs at hsh t6 t7 t8 ⊢;generalize r.pick 0=r0 at p0 h1;generalize r.pick 1=r1 at p1 h2;generalize r.pick 2=r2 at p2 h3;obtain ⟨o1,m1,k1⟩:=a;obtain ⟨o2,m2,k2⟩:=b;obtain ⟨o3,m3,k3⟩:=r;obtain ⟨o4,m4,k4⟩:=bs;obtain ⟨o5,m5,k5⟩:=x;obtain ⟨o6,m6,k6⟩:=c;obtain ⟨o7,m7,k7⟩:=r0;obtain ⟨o8,m8,k8⟩:=r1;obtain ⟨o9,m9,k9⟩:=r2;simp only [Tm.n,Be,Axg,Axf,An,Int.reduceSub,Int.cast_ofNat_Int] at h1 h2 h3 p0 p1 p2 hw hsh t6 t7 t8 ⊢;cases p
   ·simp (maxSteps:=1000000) only [JU,Kz,Kv,Ki,Ky,K2,KQ,J0,KN,Kg,Kb,KJ,JV,KX,KI,Kq,JZ,K7,KK,J4,Kw,S65,↓XX,XY,↓reduceIte,Nat.reduceBEq,Nat.reduceAdd,Int.reduceEq,Int.reduceLT,Int.reduceLE,↓Aj p0,↓Aj p1,↓Aj p2,↓AZ h1,↓AK h2,↓Aj hw,↓AK h3,↓AZ hsh,↓D4,↓Aj t6,↓Ks,↓Aj t7,↓D1,↓Aj t8]
    first | exact Ao _ _ | exact AR rfl (by simp) _
   ·simp (maxSteps:=1000000) only [JU,Kz,Kv,Ki,Ky,K2,KQ,J0,KN,Kg,Kb,KJ,JV,KX,KI,Kq,JZ,K7,KK,J4,Kw,S65,↓XX,XY,↓reduceIte,Nat.reduceBEq,Nat.reduceAdd,Int.reduceEq,Int.reduceLT,Int.reduceLE,↓Aj p0,↓Aj p1,↓Aj p2,↓AZ h1,↓AK h2,↓Aj hw,↓AK h3,↓AZ hsh,↓D4,↓Aj t6,↓Ks,↓Aj t7,↓D1,↓Aj t8]
    first | exact Ao _ _ | exact AR rfl (by simp) _
  ·exact Gt (by decide) (by decide) (B3 (by decide) (by decide) (by decide)) (VE (by decide) (by decide) (B3 (by decide) (by decide) (by decide))
    (Cw (by decide) (by decide) (B3 (by decide) (by decide) (by decide)) ha.sc (GP b 1 0 _ tb.sc (by simp only [show Am 8 0=0 from rfl,show Am 7 0=0 from rfl];omega))) tc.sc tx.sc)
  ·rw [wt1,wt3,NK,Fo];omega
  ·rw [dp1,dp3,OZ,FF];omega
 ·refine ⟨.mk 5 0 [.mk 4 0 [b,c2],x],p && q2,⟨N1+N2+N4+200000000000+1,?_⟩,?_,?_,?_,fun hb=>.app e g a b c2 x h6 hba tb.gr (tx.gr (LD hb)) (tc2.gr (Jt hb))⟩
  ·intro n hn;obtain ⟨n,rfl⟩:∃k,n=k+1:=⟨n - 1,by omega⟩;have h1:=h1 n (by omega);have h2:=h2 n (by omega);have h4:=h4 n (by omega);rw [← we] at h2 h4;have p0:=AM (n:=n) (by omega) r 0;have p1:=AM (n:=n) (by omega) r 1;have p2:=AM (n:=n) (by omega) r 2;have hw:=Au (n:=n) (by omega) r.n (m:=3) (by omega) (by omega);have hsh:=Db n a 1 0 (by omega) (GI _ _ ha.sc) (by omega) (by omega);have hm:=DG (n:=n) g 1 b (by omega) (by omega);have t4:=C4 (n:=n) (by omega) 4 [b,c2];have t5:=C4 (n:=n) (by omega) 5 [.mk 4 0 [b,c2],x];rw [c65];clear h3 tb tx tc tc2 ha hg hG hT hba hbm hsa aw ad xw cw c2w bw xd cd c2d bd c2s;generalize a.shift 1 0=sa at hsh h4;generalize r.pick 0=r0 at p0 h1;generalize r.pick 1=r1 at p1 h2;generalize r.pick 2=r2 at p2 h4;generalize r.n % 3=w3 at hw h0;obtain ⟨o1,m1,k1⟩:=a;obtain ⟨o2,m2,k2⟩:=b;obtain ⟨o3,m3,k3⟩:=r;obtain ⟨o4,m4,k4⟩:=sa;obtain ⟨o5,m5,k5⟩:=x;obtain ⟨o6,m6,k6⟩:=c2;obtain ⟨o7,m7,k7⟩:=r0;obtain ⟨o8,m8,k8⟩:=r1;obtain ⟨o9,m9,k9⟩:=r2;simp only [Tm.n,Be,Axg,Axf,An,Int.reduceSub,Int.cast_ofNat_Int] at h1 h2 h4 p0 p1 p2 hw hsh hm t4 t5 ⊢;cases p
   ·simp (maxSteps:=1000000) only [JU,Kz,Kv,Ki,Ky,K2,KQ,J0,KN,Kg,Kb,KJ,JV,KX,KI,Kq,JZ,K7,KK,J4,Kw,S65,↓XX,XY,↓reduceIte,Nat.reduceBEq,Nat.reduceAdd,Int.reduceEq,Int.reduceLT,Int.reduceLE,↓Aj p0,↓Aj p1,↓Aj p2,↓AZ h1,↓AK h2,↓Aj hw,h0,↓AK h4,↓AZ hsh,↓AZ hm,↓D4,↓Aj t4,↓Aj t5]
    first | exact Ao _ _ | exact AR rfl (by simp) _
   ·simp (maxSteps:=1000000) only [JU,Kz,Kv,Ki,Ky,K2,KQ,J0,KN,Kg,Kb,KJ,JV,KX,KI,Kq,JZ,K7,KK,J4,Kw,S65,↓XX,XY,↓reduceIte,Nat.reduceBEq,Nat.reduceAdd,Int.reduceEq,Int.reduceLT,Int.reduceLE,↓Aj p0,↓Aj p1,↓Aj p2,↓AZ h1,↓AK h2,↓Aj hw,h0,↓AK h4,↓AZ hsh,↓AZ hm,↓D4,↓Aj t4,↓Aj t5]
    first | exact Ao _ _ | exact AR rfl (by simp) _
  ·exact Cw (by decide) (by decide) (B3 (by decide) (by decide) (by decide)) (Cw (by decide) (by decide) (B3 (by decide) (by decide) (by decide)) tb.sc c2s) tx.sc
  ·rw [NK,NK];omega
  ·rw [OZ,OZ];omega
set_option maxRecDepth 20000 in
set_option maxHeartbeats 4000000 in
theorem AiT {e:Nat} (he:e≤10) (hT:6≤e→LY (e - 1)) (hG:6≤e→D5 39 1 (e - 1)):LY e:=by
 intro g r hg;have hlen:=hg.len;have hk1:=Int.emod_nonneg r.op (show (9:Int)≠0 by decide)
 have hk2:=Int.emod_lt_of_pos r.op (show (0:Int)<9 by decide)
 have hW0:=L4 (e - 1);have hD0:200≤Dg (e - 1):=by unfold Dg;omega
 have hleaf:∀op n:Int,ar op=some 0→op≠1→BK op n→Gr 0 e g .z (.mk op n [])→TyOk g e (.mk op n []):=fun op n h1 h2 h3 h4=>⟨DR h1 h2 h3,by simp only [Tm.wt,Tm.wtL];omega,by simp only [Tm.dp,Tm.dpL];omega,h4⟩;have hpl:=GH 1 r;have hpd:=Uk (r.plainT 1);have c0:(r.op % 9=0∨r.op % 9=1∨e≤5∧(r.op % 9=5∨r.op % 9=6))→∃t,Ev 38 [.fv (Be g),.fv r.enc,iv ((e:Int) - 5)] (Tm.enc t)∧TyOk g e t:=by
  intro hc;refine ⟨.mk 10 0 [],⟨100,fun n hn=>?_⟩,hleaf 10 0 (by decide) (by decide) (B3 (by decide) (by decide) (by decide)) (.tnat e g _)⟩;obtain ⟨n,rfl⟩:∃k,n=k+1:=⟨n - 1,by omega⟩;have hw:=Au (n:=n) (by omega) r.op (m:=9) (by omega) (by omega);have hn4:=Mr (n:=n) (by omega);rw [c38];obtain ⟨o,p,k⟩:=r;simp only [Tm.op] at hw hc;simp only [An,Axf] at hn4 ⊢;rcases hc with hc | hc | ⟨he5,hc | hc⟩
  ·rw [hc] at hw;by_cases hd:(e:Int) - 5≤0<;>(simp (maxSteps:=1000000) only [↓KZ,↓XX,XY,↓reduceIte,Nat.reduceBEq,Nat.reduceAdd,Int.reduceEq,Int.reduceLT,Int.reduceLE,↓Aj hw,hd,↓FE hn4];first | exact Ao _ _ | exact Ba rfl _)
  ·rw [hc] at hw;by_cases hd:(e:Int) - 5≤0<;>(simp (maxSteps:=1000000) only [↓KZ,↓XX,XY,↓reduceIte,Nat.reduceBEq,Nat.reduceAdd,Int.reduceEq,Int.reduceLT,Int.reduceLE,↓Aj hw,hd,↓FE hn4];first | exact Ao _ _ | exact Ba rfl _)
  ·rw [hc] at hw;have hd:(e:Int) - 5≤0:=by omega
   simp (maxSteps:=1000000) only [↓KZ,↓XX,XY,↓reduceIte,Nat.reduceBEq,Nat.reduceAdd,Int.reduceEq,Int.reduceLT,Int.reduceLE,↓Aj hw,hd,↓Nl (show (5:Int)≠0 by decide),show (5:Int).tmod 5=0 from rfl,↓FE hn4];first | exact Ao _ _ | exact Ba rfl _
  ·rw [hc] at hw;have hd:(e:Int) - 5≤0:=by omega
   simp (maxSteps:=1000000) only [↓KZ,↓XX,XY,↓reduceIte,Nat.reduceBEq,Nat.reduceAdd,Int.reduceEq,Int.reduceLT,Int.reduceLE,↓Aj hw,hd,↓Nl (show (5:Int)≠0 by decide),show (6:Int).tmod 5=1 from rfl,↓FE hn4];first | exact Ao _ _ | exact Ba rfl _
 have c2:(r.op % 9=2∨e≤5∧r.op % 9=7)→∃t,Ev 38 [.fv (Be g),.fv r.enc,iv ((e:Int) - 5)] (Tm.enc t)∧TyOk g e t:=by
  intro hc;refine ⟨.mk 14 0 [],⟨100,fun n hn=>?_⟩,hleaf 14 0 (by decide) (by decide) (B3 (by decide) (by decide) (by decide)) (.tty e g _)⟩;obtain ⟨n,rfl⟩:∃k,n=k+1:=⟨n - 1,by omega⟩;have hw:=Au (n:=n) (by omega) r.op (m:=9) (by omega) (by omega);have hn4:=D3 (n:=n) (by omega) 14;rw [c38];obtain ⟨o,p,k⟩:=r;simp only [Tm.op] at hw hc;simp only [An,Axf] at hn4 ⊢;rcases hc with hc | ⟨he5,hc⟩
  ·rw [hc] at hw;by_cases hd:(e:Int) - 5≤0<;>(simp (maxSteps:=1000000) only [↓KZ,↓XX,XY,↓reduceIte,Nat.reduceBEq,Nat.reduceAdd,Int.reduceEq,Int.reduceLT,Int.reduceLE,↓Aj hw,hd,↓Aj hn4];first | exact Ao _ _ | exact Ba rfl _)
  ·rw [hc] at hw;have hd:(e:Int) - 5≤0:=by omega
   simp (maxSteps:=1000000) only [↓KZ,↓XX,XY,↓reduceIte,Nat.reduceBEq,Nat.reduceAdd,Int.reduceEq,Int.reduceLT,Int.reduceLE,↓Aj hw,hd,↓Nl (show (5:Int)≠0 by decide),show (7:Int).tmod 5=2 from rfl,↓Aj hn4];first | exact Ao _ _ | exact Ba rfl _
 have c3:(r.op % 9=3∨e≤5∧r.op % 9=8)→∃t,Ev 38 [.fv (Be g),.fv r.enc,iv ((e:Int) - 5)] (Tm.enc t)∧TyOk g e t:=by
  intro hc;refine ⟨.mk 18 0 [r.plainT 1],⟨100,fun n hn=>?_⟩,Gt (by decide) (by decide) (B3 (by decide) (by decide) (by decide)) (GQ _ 1 r),by rw [wt1];omega,by rw [dp1];omega,.tlp e g _ r⟩;obtain ⟨n,rfl⟩:∃k,n=k+1:=⟨n - 1,by omega⟩;have hw:=Au (n:=n) (by omega) r.op (m:=9) (by omega) (by omega);have hp:=Lx 1 n r (by omega) (by omega);have ht:=C4 (n:=n) (by omega) 18 [r.plainT 1];rw [c38];generalize r.plainT 1=q at hp ht ⊢;obtain ⟨o,p,k⟩:=r;obtain ⟨o2,p2,k2⟩:=q;simp only [Tm.op] at hw hc;simp only [An,Axg,Axf] at hp ht ⊢;rcases hc with hc | ⟨he5,hc⟩
  ·rw [hc] at hw;by_cases hd:(e:Int) - 5≤0<;>(simp (maxSteps:=1000000) only [↓KZ,↓XX,XY,↓reduceIte,Nat.reduceBEq,Nat.reduceAdd,Int.reduceEq,Int.reduceLT,Int.reduceLE,↓Aj hw,hd,↓Aj hp,↓D1,↓Aj ht];first | exact Ao _ _ | exact Ba rfl _)
  ·rw [hc] at hw;have hd:(e:Int) - 5≤0:=by omega
   simp (maxSteps:=1000000) only [↓KZ,↓XX,XY,↓reduceIte,Nat.reduceBEq,Nat.reduceAdd,Int.reduceEq,Int.reduceLT,Int.reduceLE,↓Aj hw,hd,↓Nl (show (5:Int)≠0 by decide),show (8:Int).tmod 5=3 from rfl,↓Aj hp,↓D1,↓Aj ht];first | exact Ao _ _ | exact Ba rfl _
 by_cases h4:r.op % 9=4
 ·refine ⟨.mk 2 0 [],⟨100,fun n hn=>?_⟩,hleaf 2 0 (by decide) (by decide) (by rw [BK,if_pos rfl];omega) (.tu e g _)⟩;obtain ⟨n,rfl⟩:∃k,n=k+1:=⟨n - 1,by omega⟩;have hw:=Au (n:=n) (by omega) r.op (m:=9) (by omega) (by omega);have hu:=Afk (n:=n) (by omega) 0;rw [c38];obtain ⟨o,p,k⟩:=r;simp only [Tm.op] at hw h4;simp only [An,Axf] at hu ⊢;rw [h4] at hw;by_cases hd:(e:Int) - 5≤0<;>(simp (maxSteps:=1000000) only [↓KZ,↓XX,XY,↓reduceIte,Nat.reduceBEq,Nat.reduceAdd,Int.reduceEq,Int.reduceLT,Int.reduceLE,↓Aj hw,hd,↓Av hu];first | exact Ao _ _ | exact Ba rfl _)
 by_cases hs:r.op % 9≤3∨e≤5
 ·have h:=hk1;by_cases h0:r.op % 9=0∨r.op % 9=1∨e≤5∧(r.op % 9=5∨r.op % 9=6)
  ·exact c0 h0
  by_cases h2:r.op % 9=2∨e≤5∧r.op % 9=7
  ·exact c2 h2
  exact c3 (by omega)
 have he6:6≤e:=by omega
 have hd:¬ (e:Int) - 5≤0:=by omega
 have we:BA ((e:Int) - 5 - 1)=((e - 1:Nat):Int) - 5:=by rw [Ax (by omega) (by omega)];omega
 have hW10:=Nu (e:=e - 1) (by omega);have hW1:Wg (e - 1)=4 * Wg (e - 2):=by
  obtain ⟨f,rfl⟩:∃f,e=f+2:=⟨e - 2,by omega⟩;rw [show f+2 - 1=f+1 by omega,L0,show f+2 - 2=f by omega]
 have hW2:=L4 (e - 2);have hD1:Dg (e - 1)=Dg (e - 2)+10:=by unfold Dg;omega
 have hDm:Dg (e - 1)≤300:=by unfold Dg;omega
 by_cases h8:r.op % 9=8
 ·obtain ⟨t,b,⟨N1,h1⟩,tt⟩:=hG he6 g (.mk 14 0 []) (r.pick 0) (AU (by omega) hg) ⟨DR (by decide) (by decide) (B3 (by decide) (by decide) (by decide)),by simp [Tm.wt,Tm.wtL],by simp [Tm.dp,Tm.dpL]⟩;refine ⟨if b=true then .mk 18 0 [t] else .mk 10 0 [],⟨N1+100,fun n hn=>?_⟩,?_⟩
  ·obtain ⟨n,rfl⟩:∃k,n=k+1:=⟨n - 1,by omega⟩;have hw:=Au (n:=n) (by omega) r.op (m:=9) (by omega) (by omega);have h1:=h1 n (by omega);rw [← we] at h1;have p0:=AM (n:=n) (by omega) r 0;have t14:=D3 (n:=n) (by omega) 14;have t18:=C4 (n:=n) (by omega) 18 [t];have hn4:=Mr (n:=n) (by omega);rw [c38];rw [h8] at hw;clear hG hT tt c0 c2 c3 hleaf;generalize r.pick 0=r0 at p0 h1;obtain ⟨o,p,k⟩:=r;obtain ⟨o2,p2,k2⟩:=t;obtain ⟨o3,p3,k3⟩:=r0;simp only [Tm.op] at hw;simp only [An,Be,Axg,Axf] at h1 p0 t14 t18 hn4 ⊢;cases b
   ·simp only [Bool.false_eq_true,if_false,An,Axf];simp (maxSteps:=1000000) only [↓KZ,↓XX,XY,↓reduceIte,Nat.reduceBEq,Nat.reduceAdd,Int.reduceEq,Int.reduceLT,Int.reduceLE,↓Aj hw,hd,↓Aj t14,↓Aj p0,↓AK h1,↓FE hn4];first | exact Ao _ _ | exact Ba rfl _
   ·simp only [if_true,An,Axf,Axg];simp (maxSteps:=1000000) only [↓KZ,↓XX,XY,↓reduceIte,Nat.reduceBEq,Nat.reduceAdd,Int.reduceEq,Int.reduceLT,Int.reduceLE,↓Aj hw,hd,↓Aj t14,↓Aj p0,↓AK h1,↓D1,↓Aj t18];first | exact Ao _ _ | exact Ba rfl _
  ·split
   ·rename_i hb;exact ⟨Gt (by decide) (by decide) (B3 (by decide) (by decide) (by decide)) tt.sc,by have:=tt.wt;rw [wt1];omega,by have:=tt.dp;rw [dp1];omega,.tlift e g _ t he6 (tt.gr hb)⟩
   ·exact hleaf 10 0 (by decide) (by decide) (B3 (by decide) (by decide) (by decide)) (.tnat e g _)
 ·obtain ⟨a,⟨N1,h1⟩,ta⟩:=hT he6 g (r.pick 0) (AU (by omega) hg);have aw:=ta.wt;have ad:=ta.dp;rw [show e - 1 - 1=e - 2 by omega] at aw ad
  obtain ⟨b,⟨N2,h2⟩,tb⟩:=hT he6 (g++[(1,a)]) (r.pick 1) (CN (by rw [show e - 1+1=e by omega];exact hg) ta.sc (by omega) (by omega))
  have bw:=tb.wt;have bd:=tb.dp;rw [show e - 1 - 1=e - 2 by omega] at bw bd
  have bs:b.sc (g.length+1):=by simpa using tb.sc
  have hop:∀op:Int,op=3∨op=6→TyOk g e (.mk op 0 [a,b]):=by
   rintro op (rfl | rfl)
   ·exact ⟨Cw (by decide) (by decide) (B3 (by decide) (by decide) (by decide)) ta.sc bs,by rw [NK];omega,by rw [OZ];omega,.tpi e g _ a b _ (by simp) he6 (by omega) ⟨ta.sc,by omega,by omega⟩ ta.gr tb.gr⟩
   ·exact ⟨Cw (by decide) (by decide) (B3 (by decide) (by decide) (by decide)) ta.sc bs,by rw [NK];omega,by rw [OZ];omega,.tpi e g _ a b _ (by simp) he6 (by omega) ⟨ta.sc,by omega,by omega⟩ ta.gr tb.gr⟩
  obtain ⟨oo,hoo⟩:∃oo:Int,oo=3∧(r.op % 9=5∨r.op % 9=6)∨oo=6∧r.op % 9=7:=by
   by_cases h7:r.op % 9=7
   ·exact ⟨6,.inr ⟨rfl,h7⟩⟩
   ·exact ⟨3,.inl ⟨rfl,by omega⟩⟩
  refine ⟨.mk oo 0 [a,b],⟨N1+N2+100,fun n hn=>?_⟩,hop oo (by omega)⟩;obtain ⟨n,rfl⟩:∃k,n=k+1:=⟨n - 1,by omega⟩;have hw:=Au (n:=n) (by omega) r.op (m:=9) (by omega) (by omega);have h1:=h1 n (by omega);have h2:=h2 n (by omega);rw [← we] at h1 h2;have p0:=AM (n:=n) (by omega) r 0;have p1:=AM (n:=n) (by omega) r 1;have t3:=C4 (n:=n) (by omega) 3 [a,b];have t6:=C4 (n:=n) (by omega) 6 [a,b];have hm:=DG (n:=n) g 1 a (by omega) (by omega);rw [c38];clear hG hT c0 c2 c3 hleaf ta tb hop bs aw ad bw bd;generalize r.pick 0=r0 at p0 h1;generalize r.pick 1=r1 at p1 h2;obtain ⟨o,p,k⟩:=r;obtain ⟨o2,p2,k2⟩:=a;obtain ⟨o3,p3,k3⟩:=b;obtain ⟨o4,p4,k4⟩:=r0;obtain ⟨o5,p5,k5⟩:=r1;simp only [Tm.op] at hw hoo;simp only [An,Be,Axg,Axf] at h1 h2 p0 p1 t3 t6 hm ⊢;rcases hoo with ⟨rfl,hk | hk⟩ | ⟨rfl,hk⟩
  ·rw [hk] at hw;simp (maxSteps:=1000000) only [↓KZ,↓XX,XY,↓reduceIte,Nat.reduceBEq,Nat.reduceAdd,Int.reduceEq,Int.reduceLT,Int.reduceLE,↓Aj hw,hd,↓Aj p0,↓Aj p1,↓AZ h1,↓AZ hm,↓AZ h2,↓D4,↓Aj t3];first | exact Ao _ _ | exact Ba rfl _
  ·rw [hk] at hw;simp (maxSteps:=1000000) only [↓KZ,↓XX,XY,↓reduceIte,Nat.reduceBEq,Nat.reduceAdd,Int.reduceEq,Int.reduceLT,Int.reduceLE,↓Aj hw,hd,↓Aj p0,↓Aj p1,↓AZ h1,↓AZ hm,↓AZ h2,↓D4,↓Aj t3];first | exact Ao _ _ | exact Ba rfl _
  ·rw [hk] at hw;simp (maxSteps:=1000000) only [↓KZ,↓XX,XY,↓reduceIte,Nat.reduceBEq,Nat.reduceAdd,Int.reduceEq,Int.reduceLT,Int.reduceLE,↓Aj hw,hd,↓Aj p0,↓Aj p1,↓AZ h1,↓AZ hm,↓AZ h2,↓D4,↓Aj t6];first | exact Ao _ _ | exact Ba rfl _
theorem AmX (a b:Int) (s:Nat) (h:Hp) (k:IV→Hp→List Ref→List Ref→Option (IV×Hp)):Ay (Ak EE 75 2 [(0,iv a),(1,iv b)]) s h k=k (.clip [.int .i64 a,.int .i64 b]) h [] []:=Cl Afu An3 (by decide) (cells:=[.int .i64 a,.int .i64 b]) rfl k
theorem Tu {β:Type} (z:Nat) (es:List FV) (x:IV) (k:IV→Option β):AT z (.clip es) x k=AT z (.fv (.sl es)) x k:=rfl
theorem Auc {β:Type} (a:Int) (r:List FV) (k:IV→Option β):AT 1 (.fv (.sl (.int .i64 a::r))) (iv 0) k=k (.fv (.fp [.int .i64 a] 0)):=Bz (el:=.int .i64 a) (n:=0) rfl rfl k
theorem AtL {β:Type} (a b:Int) (r:List FV) (k:IV→Option β):AT 1 (.fv (.sl (.int .i64 a :: .int .i64 b::r))) (iv 1) k=k (.fv (.fp [.int .i64 b] 0)):=Bz (el:=.int .i64 b) (n:=1) rfl rfl k
def Agq (F:FuncId) (κ e:Nat):Prop:=∀(g:Cd) (a r:Tm),GOk e g→NOk g.length a→(a.op=10∨a.op=14∨a.op=2)→∃t b,Ev F [.fv (Be g),.fv a.enc,.fv r.enc,iv ((e:Int) - 5)] (.tuple [Tm.enc t,.bool b])∧TG κ e g a t b
theorem Ahy {a:Tm} {k:Nat} (h:a.sc k) (ho:a.op=10∨a.op=14∨a.op=2):∃n,a=.mk a.op n []∧(a.op=2→0≤n∧n≤2)∧(a.op≠2→n=0):=by
 obtain ⟨o,n,l⟩:=a;simp only [Tm.op] at ho ⊢;rw [Tm.sc] at h;obtain ⟨h1,h2,_⟩:=h;have h3:ar o=some 0:=by rcases ho with rfl | rfl | rfl<;>decide
 rw [h3] at h1;have hl:l=[]:=List.eq_nil_of_length_eq_zero (Option.some.inj h1).symm;subst hl;rw [if_neg (by omega)] at h2;refine ⟨n,rfl,fun h=>?_,fun h=>?_⟩
 ·subst h;rw [BK,if_pos rfl] at h2;exact h2
 ·rw [BK,if_neg h,if_neg (by omega),if_neg (by omega)] at h2;exact h2
set_option maxRecDepth 20000 in
set_option maxHeartbeats 8000000 in
theorem AeQ {e:Nat} (h1e:1≤e) (he:e≤10) (hG:D5 39 1 (e - 1)) (hG2:6≤e→D5 39 1 (e - 2)):Agq 66 3 e:=by
 intro g a r hg ha hop;have hlen:=hg.len;have hW1:Wg e=4 * Wg (e - 1):=by
  obtain ⟨f,rfl⟩:∃f,e=f+1:=⟨e - 1,by omega⟩;rw [L0,Nat.add_sub_cancel]
 have hW0:=L4 (e - 1);have hW10:=Nu he;have hD1:Dg e=Dg (e - 1)+10:=by unfold Dg;omega
 have hD0:200≤Dg (e - 1):=by unfold Dg;omega
 have hDm:Dg e≤300:=by unfold Dg;omega
 obtain ⟨an,hae,hu1,hu2⟩:=Ahy ha.sc hop;have we:BA ((e:Int) - 5 - 1)=((e - 1:Nat):Int) - 5:=by rw [Ax (by omega) (by omega)];omega
 have hk1:=Int.emod_nonneg r.op (show (5:Int)≠0 by decide)
 have hk2:=Int.emod_lt_of_pos r.op (show (0:Int)<5 by decide)
 have aw:=ha.wt;have ad:=ha.dp;have leafT:∀op n:Int,ar op=some 0→op≠1→BK op n→TOk g.length e (.mk op n []):=fun op n h1 h2 h3=>⟨DR h1 h2 h3,by simp only [Tm.wt,Tm.wtL];omega,by simp only [Tm.dp,Tm.dpL];omega⟩;have tint:TOk g.length e (.mk 18 0 [.mk 15 0 []]):=⟨Gt (by decide) (by decide) (B3 (by decide) (by decide) (by decide)) (DR (by decide) (by decide) (B3 (by decide) (by decide) (by decide))),by simp only [Tm.wt,Tm.wtL];omega,by simp only [Tm.dp,Tm.dpL];omega⟩;by_cases hrec:6≤e∧r.op % 5=4∧a.op≠2
 ·obtain ⟨h6,h4,hn2⟩:=hrec;have hW2:Wg e=16 * Wg (e - 2):=by
   obtain ⟨f,rfl⟩:∃f,e=f+2:=⟨e - 2,by omega⟩;rw [show f+2=(f+1)+1 by omega,L0,L0,show f+1+1 - 2=f by omega];omega
  have hD2:Dg e=Dg (e - 2)+20:=by unfold Dg;omega
  have hW20:=L4 (e - 2);have we2:BA ((e:Int) - 5 - 2)=((e - 2:Nat):Int) - 5:=by rw [Ax (by omega) (by omega)];omega
  have hnat:∀k,NOk k (.mk 10 0 []):=fun k=>⟨DR (by decide) (by decide) (B3 (by decide) (by decide) (by decide)),by simp only [Tm.wt,Tm.wtL];omega,by simp only [Tm.dp,Tm.dpL];omega⟩;have hs1:=ND ha (by omega) 1 (by omega);have hs2:=ND ha (by omega) 2 (by omega);obtain ⟨nn,p,⟨N1,h1⟩,tn⟩:=hG2 h6 g (.mk 10 0 []) (r.pick 0) (AU (by omega) hg) (Bx (hnat _));obtain ⟨z,q,⟨N2,h2⟩,tz⟩:=hG2 h6 g a (r.pick 1) (AU (by omega) hg) (Bx ha);have hg1:GOk (e - 1) (g++[(1,Tm.mk 10 0 [])]):=CN (by rw [show e - 1+1=e by omega];exact hg) (hnat _).sc (by simp only [Tm.wt,Tm.wtL];omega) (by simp only [Tm.dp,Tm.dpL];omega)
  have hg2:GOk (e - 2) ((g++[(1,Tm.mk 10 0 [])])++[(1,a.shift 1 0)]):=CN (by rw [show e - 2+1=e - 1 by omega];exact hg1) (by simpa using hs1.sc) (by rw [Fo];omega) (by rw [FF];omega)
  obtain ⟨s,f,⟨N3,h3⟩,ts⟩:=hG2 h6 _ (a.shift 2 0) (r.pick 2) hg2 (by simpa using Bx hs2);have ss:s.sc (g.length+2):=by simpa using ts.sc
  refine ⟨.mk 13 0 [a.shift 1 0,z,s,nn],p && (q && f),⟨N1+N2+N3+100000,fun n hn=>?_⟩,?_,?_,?_,fun hb=>.recc e g a nn z s h6 (by omega) (tn.gr (LD hb)) (tz.gr (LD (Jt hb))) (ts.gr (Jt (Jt hb)))⟩
  ·obtain ⟨n,rfl⟩:∃k,n=k+1:=⟨n - 1,by omega⟩;have h1:=h1 n (by omega);have h2:=h2 n (by omega);have h3:=h3 n (by omega);rw [← we2] at h1 h2 h3;have hw:=Au (n:=n) (by omega) r.op (m:=5) (by omega) (by omega);rw [h4] at hw;have p0:=AM (n:=n) (by omega) r 0;have p1:=AM (n:=n) (by omega) r 1;have p2:=AM (n:=n) (by omega) r 2;have n4:=Mr (n:=n) (by omega);have m1:=DG (n:=n) g 1 (.mk 10 0 []) (by omega) (by omega);have m2:=DG (n:=n) (g++[(1,Tm.mk 10 0 [])]) 1 (a.shift 1 0) (by simp;omega) (by omega);have s1:=Db n a 1 0 (by omega) (GI _ _ ha.sc) (by omega) (by omega);have s2:=Db n a 2 0 (by omega) (GI _ _ ha.sc) (by omega) (by omega);have t13:=C4 (n:=n) (by omega) 13 [a.shift 1 0,z,s,nn];have hd0:(0:Int)<(e:Int) - 5:=by omega
   rw [c66];clear hG hG2 tn tz ts hg hg1 hg2 ha hs1 hs2 hnat ss leafT tint hae hu1 hu2;generalize a.shift 1 0=a1 at s1 m2 t13 h3 ⊢;generalize a.shift 2 0=a2 at s2 h3;generalize r.pick 0=r0 at p0 h1;generalize r.pick 1=r1 at p1 h2;generalize r.pick 2=r2 at p2 h3;obtain ⟨o1,x1,k1⟩:=a;obtain ⟨o2,x2,k2⟩:=r;obtain ⟨o3,x3,k3⟩:=a1;obtain ⟨o4,x4,k4⟩:=a2;obtain ⟨o5,x5,k5⟩:=nn;obtain ⟨o6,x6,k6⟩:=z;obtain ⟨o7,x7,k7⟩:=s;obtain ⟨o8,x8,k8⟩:=r0;obtain ⟨o9,x9,k9⟩:=r1;obtain ⟨oa,xa,ka⟩:=r2;simp only [Tm.op] at hw hn2;simp only [Be,Axg,Axf,An] at h1 h2 h3 p0 p1 p2 n4 m1 m2 s1 s2 t13 ⊢;cases p<;>cases q<;>(simp (maxSteps:=1000000) only [↓Ji,↓XX,XY,↓reduceIte,Nat.reduceBEq,Nat.reduceAdd,Int.reduceEq,Int.reduceLT,Int.reduceLE,hd0,↓Aj hw,hn2,↓FE n4,↓Aj p0,↓Aj p1,↓Aj p2,↓AK h1,↓AK h2,↓AZ m1,↓AZ m2,↓AZ s1,↓AZ s2,↓AK h3,↓Aro,↓Aj t13];first | exact Ao _ _ | exact AR rfl (by simp) _)
  ·exact Aqq (by decide) (by decide) (B3 (by decide) (by decide) (by decide)) hs1.sc tz.sc ss tn.sc
  ·have:=tz.wt;have:=ts.wt;have:=tn.wt;rw [wt4,Fo];omega
  ·have:=tz.dp;have:=ts.dp;have:=tn.dp;rw [dp4,FF];omega
 have hnr:¬ (0:Int)<(e:Int) - 5∨¬ r.op % 5=4∨a.op=2:=by omega
 by_cases o10:a.op=10
 ·have hz:=hu2 (by omega);rw [hz,o10] at hae;by_cases hs:6≤e∧r.op % 2=1
  ·obtain ⟨nn,p,⟨N1,h1⟩,tn⟩:=hG g a (r.pick 0) (AU (by omega) hg) (Bx ha);refine ⟨.mk 12 0 [nn],p,⟨N1+100,fun n hn=>?_⟩,Gt (by decide) (by decide) (B3 (by decide) (by decide) (by decide)) tn.sc,by have:=tn.wt;rw [wt1];omega,by have:=tn.dp;rw [dp1];omega,fun hb=>.suc e g a nn hs.1 o10 (tn.gr hb)⟩;obtain ⟨n,rfl⟩:∃k,n=k+1:=⟨n - 1,by omega⟩;have h1:=h1 n (by omega);rw [← we] at h1;have hw:=Au (n:=n) (by omega) r.op (m:=5) (by omega) (by omega);have hw2:=Au (n:=n) (by omega) r.op (m:=2) (by omega) (by omega);rw [hs.2] at hw2;have p0:=AM (n:=n) (by omega) r 0;have t12:=C4 (n:=n) (by omega) 12 [nn];have hd0:(0:Int)<(e:Int) - 5:=by omega
   have h45:¬ r.op % 5=4:=by omega
   rw [c66];rw [hae] at h1 ⊢;clear hG hG2 tn hg ha leafT tint hae hu1 hu2 hop hnr;generalize r.op % 5=w5 at hw h45;generalize r.pick 0=r0 at p0 h1;obtain ⟨o2,x2,k2⟩:=r;obtain ⟨o5,x5,k5⟩:=nn;obtain ⟨o8,x8,k8⟩:=r0;simp only [Tm.op] at hw hw2;simp only [Be,Axg,Axf,An] at h1 p0 t12 ⊢;simp (maxSteps:=1000000) only [↓Ji,↓XX,XY,↓reduceIte,Nat.reduceBEq,Nat.reduceAdd,Int.reduceEq,Int.reduceLT,Int.reduceLE,hd0,↓Aj hw,h45,↓Aj hw2,↓Aj p0,↓AK h1,↓D1,↓Aj t12]
   first | exact Ao _ _ | exact AR rfl (by simp) _
  ·have hj1:=Int.emod_nonneg r.n (show (4:Int)≠0 by decide)
   have hj2:=Int.emod_lt_of_pos r.n (show (0:Int)<4 by decide)
   obtain ⟨j,hj⟩:∃j:Nat,r.n % 4=j:=⟨(r.n % 4).toNat,by omega⟩;refine ⟨Hu j,true,⟨100,fun n hn=>?_⟩,Ags _ j,by rw [Aco];omega,by have:=Uk (Hu j);rw [Aco] at this;omega,fun _=>.num e g a j o10 (by omega)⟩;obtain ⟨n,rfl⟩:∃k,n=k+1:=⟨n - 1,by omega⟩;have hw:=Au (n:=n) (by omega) r.op (m:=5) (by omega) (by omega);have hw2:=Au (n:=n) (by omega) r.op (m:=2) (by omega) (by omega);have hw4:=Au (n:=n) (by omega) r.n (m:=4) (by omega) (by omega);rw [hj] at hw4;have hnum:=AqL (n:=n) j (by omega) (by omega);have h45:(0:Int)<(e:Int) - 5→¬ r.op % 5=4:=by omega
   have h21:(0:Int)<(e:Int) - 5→¬ r.op % 2=1:=by omega
   rw [c66];rw [hae];clear hG hG2 hg ha leafT tint hae hu1 hu2 hop hnr hs;generalize r.op % 5=w5 at hw h45;generalize r.op % 2=w2 at hw2 h21;generalize Hu j=nm at hnum ⊢;obtain ⟨o2,x2,k2⟩:=r;obtain ⟨o5,x5,k5⟩:=nm;simp only [Tm.op,Tm.n] at hw hw2 hw4;simp only [Be,Axf,An] at hnum ⊢;by_cases hd0:(0:Int)<(e:Int) - 5
   ·have h45:=h45 hd0;have h21:=h21 hd0;simp (maxSteps:=1000000) only [↓Ji,↓XX,XY,↓reduceIte,Nat.reduceBEq,Nat.reduceAdd,Int.reduceEq,Int.reduceLT,Int.reduceLE,hd0,↓Aj hw,h45,↓Aj hw2,h21,↓Aj hw4,↓Av hnum]
    first | exact Ao _ _ | exact AR rfl (by simp) _
   ·simp (maxSteps:=1000000) only [↓Ji,↓XX,XY,↓reduceIte,Nat.reduceBEq,Nat.reduceAdd,Int.reduceEq,Int.reduceLT,Int.reduceLE,hd0,↓Aj hw4,↓Av hnum]
    first | exact Ao _ _ | exact AR rfl (by simp) _
 by_cases o14:a.op=14
 ·have hz:=hu2 (by omega);rw [hz,o14] at hae;by_cases hs:6≤e∧1<r.op % 5
  ·obtain ⟨x,p,⟨N1,h1⟩,tx⟩:=hG g a (r.pick 0) (AU (by omega) hg) (Bx ha);obtain ⟨y,q,⟨N2,h2⟩,ty⟩:=hG g a (r.pick 1) (AU (by omega) hg) (Bx ha);have hj1:=Int.emod_nonneg r.n (show (2:Int)≠0 by decide)
   have hj2:=Int.emod_lt_of_pos r.n (show (0:Int)<2 by decide)
   obtain ⟨oo,hoo,hoo2⟩:∃oo:Int,oo=16+r.n % 2∧(oo=16∨oo=17):=⟨_,rfl,by omega⟩;have hsc:(Tm.mk oo 0 [x,y]).sc g.length:=by
    rcases hoo2 with rfl | rfl<;>exact Cw (by decide) (by decide) (B3 (by decide) (by decide) (by decide)) tx.sc ty.sc
   refine ⟨.mk oo 0 [x,y],p && q,⟨N1+N2+100,fun n hn=>?_⟩,hsc,by have:=tx.wt;have:=ty.wt;rw [NK];omega,by have:=tx.dp;have:=ty.dp;rw [OZ];omega,fun hb=>.tfun e g a x y oo hoo2 hs.1 o14 (tx.gr (LD hb)) (ty.gr (Jt hb))⟩;obtain ⟨n,rfl⟩:∃k,n=k+1:=⟨n - 1,by omega⟩;have h1:=h1 n (by omega);have h2:=h2 n (by omega);rw [← we] at h1 h2;have hw:=Au (n:=n) (by omega) r.op (m:=5) (by omega) (by omega);have hw2:=Au (n:=n) (by omega) r.n (m:=2) (by omega) (by omega);have wo:BA (16+r.n % 2)=oo:=by rw [Ax]<;>omega
   have p0:=AM (n:=n) (by omega) r 0;have p1:=AM (n:=n) (by omega) r 1;have t16:=C4 (n:=n) (by omega) oo [x,y];rw [← wo] at t16;have hd0:(0:Int)<(e:Int) - 5:=by omega
   have h45:¬ r.op % 5=4:=by omega
   have h15:=hs.2;rw [c66];rw [hae] at h1 h2 ⊢;clear hG hG2 tx ty hg ha leafT tint hae hu1 hu2 hop hnr hs hoo2 hsc;rw [← wo];clear wo hoo;generalize r.op % 5=w5 at hw h45 h15;generalize r.n % 2=w2 at hw2 t16 ⊢;generalize r.pick 0=r0 at p0 h1;generalize r.pick 1=r1 at p1 h2;obtain ⟨o2,x2,k2⟩:=r;obtain ⟨o5,x5,k5⟩:=x;obtain ⟨o6,x6,k6⟩:=y;obtain ⟨o8,x8,k8⟩:=r0;obtain ⟨o9,x9,k9⟩:=r1;simp only [Tm.op,Tm.n] at hw hw2;simp only [Be,Axg,Axf,An] at h1 h2 p0 p1 t16 ⊢;cases p<;>(simp (maxSteps:=1000000) only [↓Ji,↓XX,XY,↓reduceIte,Nat.reduceBEq,Nat.reduceAdd,Int.reduceEq,Int.reduceLT,Int.reduceLE,hd0,↓Aj hw,h45,h15,↓Aj hw2,↓Aj p0,↓Aj p1,↓AK h1,↓AK h2,↓D4,↓Aj t16];first | exact Ao _ _ | exact AR rfl (by simp) _)
  ·refine ⟨.mk 15 0 [],true,⟨100,fun n hn=>?_⟩,tg (leafT 15 0 (by decide) (by decide) (B3 (by decide) (by decide) (by decide))) (fun _=>.tint e g a o14)⟩;obtain ⟨n,rfl⟩:∃k,n=k+1:=⟨n - 1,by omega⟩;have hw:=Au (n:=n) (by omega) r.op (m:=5) (by omega) (by omega);have t15:=D3 (n:=n) (by omega) 15;have h45:(0:Int)<(e:Int) - 5→¬ r.op % 5=4∧¬ 1<r.op % 5:=by omega
   rw [c66];rw [hae];clear hG hG2 hg ha leafT tint hae hu1 hu2 hop hnr hs;generalize r.op % 5=w5 at hw h45;obtain ⟨o2,x2,k2⟩:=r;simp only [Tm.op] at hw;simp only [Be,Axf,An] at t15 ⊢;by_cases hd0:(0:Int)<(e:Int) - 5
   ·obtain ⟨h45,h15⟩:=h45 hd0;simp (maxSteps:=1000000) only [↓Ji,↓XX,XY,↓reduceIte,Nat.reduceBEq,Nat.reduceAdd,Int.reduceEq,Int.reduceLT,Int.reduceLE,hd0,↓Aj hw,h45,h15,↓Aj t15]
    first | exact Ao _ _ | exact AR rfl (by simp) _
   ·simp (maxSteps:=1000000) only [↓Ji,↓XX,XY,↓reduceIte,Nat.reduceBEq,Nat.reduceAdd,Int.reduceEq,Int.reduceLT,Int.reduceLE,hd0,↓Aj t15]
    first | exact Ao _ _ | exact AR rfl (by simp) _
 have o2:a.op=2:=by omega
 obtain ⟨hu3,hu4⟩:=hu1 o2;rw [o2] at hae;by_cases hn0:0<an
 ·refine ⟨.mk 2 (an - 1) [],true,⟨100,fun n hn=>?_⟩,tg (leafT 2 (an - 1) (by decide) (by decide) (by rw [BK,if_pos rfl];omega)) (fun _=>.uni e g a _ o2)⟩;obtain ⟨n,rfl⟩:∃k,n=k+1:=⟨n - 1,by omega⟩;have hw:=Au (n:=n) (by omega) r.op (m:=5) (by omega) (by omega);have wu:BA (an - 1)=an - 1:=by rw [Ax]<;>omega
  have hu:=Afk (n:=n) (by omega) (an - 1);rw [← wu] at hu;rw [c66];rw [hae,← wu];clear hG hG2 hg ha leafT tint hae hu1 hu2 hop hnr wu;generalize r.op % 5=w5 at hw;obtain ⟨o2,x2,k2⟩:=r;simp only [Tm.op] at hw;simp only [Be,Axf,An] at hu ⊢;by_cases hd0:(0:Int)<(e:Int) - 5
  ·by_cases h4:w5=4
   ·simp (maxSteps:=1000000) only [↓Ji,↓XX,XY,↓reduceIte,Nat.reduceBEq,Nat.reduceAdd,Int.reduceEq,Int.reduceLT,Int.reduceLE,hd0,↓Aj hw,h4,hn0,↓Av hu]
    first | exact Ao _ _ | exact AR rfl (by simp) _
   ·simp (maxSteps:=1000000) only [↓Ji,↓XX,XY,↓reduceIte,Nat.reduceBEq,Nat.reduceAdd,Int.reduceEq,Int.reduceLT,Int.reduceLE,hd0,↓Aj hw,h4,hn0,↓Av hu]
    first | exact Ao _ _ | exact AR rfl (by simp) _
  ·simp (maxSteps:=1000000) only [↓Ji,↓XX,XY,↓reduceIte,Nat.reduceBEq,Nat.reduceAdd,Int.reduceEq,Int.reduceLT,Int.reduceLE,hd0,hn0,↓Av hu]
   first | exact Ao _ _ | exact AR rfl (by simp) _
 have han:an=0:=by omega
 subst han;have hq1:=Int.emod_nonneg r.op (show (4:Int)≠0 by decide)
 have hq2:=Int.emod_lt_of_pos r.op (show (0:Int)<4 by decide)
 by_cases hs:6≤e∧1<r.op % 4
 ·obtain ⟨x,p,⟨N1,h1⟩,tx⟩:=hG g a (r.pick 0) (AU (by omega) hg) (Bx ha);have hgx:GOk (e - 1) (g++[(1,x)]):=CN (by rw [show e - 1+1=e by omega];exact hg) tx.sc (by have:=tx.wt;omega) (by have:=tx.dp;omega)
  have hax:AOk (g++[(1,x)]).length a:=⟨by rw [hae];exact DR (by decide) (by decide) (by rw [BK,if_pos rfl];omega),by omega,by omega⟩;obtain ⟨y,q,⟨N2,h2⟩,ty⟩:=hG (g++[(1,x)]) a (r.pick 1) hgx hax;have ys:y.sc (g.length+1):=by simpa using ty.sc
  obtain ⟨oo,hoo⟩:∃oo:Int,oo=3∧r.op % 4=2∨oo=6∧r.op % 4=3:=by
   by_cases h7:r.op % 4=2
   ·exact ⟨3,.inl ⟨rfl,h7⟩⟩
   ·exact ⟨6,.inr ⟨rfl,by omega⟩⟩
  have hsc:(Tm.mk oo 0 [x,y]).sc g.length:=by
   rcases hoo with ⟨rfl,_⟩ | ⟨rfl,_⟩<;>exact Cw (by decide) (by decide) (B3 (by decide) (by decide) (by decide)) tx.sc ys
  refine ⟨.mk oo 0 [x,y],p && q,⟨N1+N2+100,fun n hn=>?_⟩,hsc,by have:=tx.wt;have:=ty.wt;rw [NK];omega,by have:=tx.dp;have:=ty.dp;rw [OZ];omega,fun hb=>.upi e g a x y oo (by omega) hs.1 o2 (AfP tx (by omega)) (tx.gr (LD hb)) (ty.gr (Jt hb))⟩;obtain ⟨n,rfl⟩:∃k,n=k+1:=⟨n - 1,by omega⟩;have h1:=h1 n (by omega);have h2:=h2 n (by omega);rw [← we] at h1 h2;have hw:=Au (n:=n) (by omega) r.op (m:=5) (by omega) (by omega);have hw4:=Au (n:=n) (by omega) r.op (m:=4) (by omega) (by omega);have p0:=AM (n:=n) (by omega) r 0;have p1:=AM (n:=n) (by omega) r 1;have hm:=DG (n:=n) g 1 x (by omega) (by omega);have t3:=C4 (n:=n) (by omega) oo [x,y];have hd0:(0:Int)<(e:Int) - 5:=by omega
  have w22:BA (2 - 2)=0:=by rw [Ax]<;>omega
  have w32:BA (3 - 2)=1:=by rw [Ax]<;>omega
  have w0:BA 0=0:=by rw [Ax]<;>omega
  have w1:BA 1=1:=by rw [Ax]<;>omega
  rw [c66];rw [hae] at h1 h2 ⊢;clear hG hG2 tx ty hg ha leafT tint hae hu1 hu2 hop hnr hs hsc hgx hax ys;generalize r.op % 5=w5 at hw;generalize r.op % 4=w4 at hw4 hoo;generalize r.pick 0=r0 at p0 h1;generalize r.pick 1=r1 at p1 h2;obtain ⟨o2,x2,k2⟩:=r;obtain ⟨o5,x5,k5⟩:=x;obtain ⟨o6,x6,k6⟩:=y;obtain ⟨o8,x8,k8⟩:=r0;obtain ⟨o9,x9,k9⟩:=r1;simp only [Tm.op] at hw hw4;simp only [Be,Axg,Axf,An] at h1 h2 p0 p1 hm t3 ⊢;rcases hoo with ⟨rfl,rfl⟩ | ⟨rfl,rfl⟩
  ·by_cases h4:w5=4<;>cases p<;>(simp (maxSteps:=1000000) only [↓Ji,↓XX,XY,↓reduceIte,Nat.reduceBEq,Nat.reduceAdd,Int.reduceEq,Int.reduceLT,Int.reduceLE,hd0,↓Aj hw,h4,↓Aj hw4,↓Aj p0,↓Aj p1,↓AK h1,↓AZ hm,↓AK h2,↓D4,↓AmX,↓Tu,w22,w0,Int.reduceSub,↓Auc,↓Aj t3];first | exact Ao _ _ | exact AR rfl (by simp) _)
  ·by_cases h4:w5=4<;>cases p<;>(simp (maxSteps:=1000000) only [↓Ji,↓XX,XY,↓reduceIte,Nat.reduceBEq,Nat.reduceAdd,Int.reduceEq,Int.reduceLT,Int.reduceLE,hd0,↓Aj hw,h4,↓Aj hw4,↓Aj p0,↓Aj p1,↓AK h1,↓AZ hm,↓AK h2,↓D4,↓AmX,↓Tu,w32,w1,Int.reduceSub,↓AtL,↓Aj t3];first | exact Ao _ _ | exact AR rfl (by simp) _)
 ·have hj1:=Int.emod_nonneg r.n (show (3:Int)≠0 by decide)
  have hj2:=Int.emod_lt_of_pos r.n (show (0:Int)<3 by decide)
  obtain ⟨t,ht,tt⟩:∃t:Tm,(r.n % 3=0∧t=.mk 10 0 []∨r.n % 3=1∧t=.mk 14 0 []∨r.n % 3=2∧t=.mk 18 0 [.mk 15 0 []])∧TG 3 e g a t true:=by
   have h:r.n % 3=0∨r.n % 3=1∨r.n % 3=2:=by omega
   rcases h with h | h | h
   ·exact ⟨_,.inl ⟨h,rfl⟩,tg (leafT 10 0 (by decide) (by decide) (B3 (by decide) (by decide) (by decide))) (fun _=>.unat e g a o2)⟩
   ·exact ⟨_,.inr (.inl ⟨h,rfl⟩),tg (leafT 14 0 (by decide) (by decide) (B3 (by decide) (by decide) (by decide))) (fun _=>.uty e g a o2)⟩
   ·exact ⟨_,.inr (.inr ⟨h,rfl⟩),tg tint (fun _=>.ult e g a o2)⟩
  refine ⟨t,true,⟨100,fun n hn=>?_⟩,tt⟩;obtain ⟨n,rfl⟩:∃k,n=k+1:=⟨n - 1,by omega⟩;have hw:=Au (n:=n) (by omega) r.op (m:=5) (by omega) (by omega);have hw4:=Au (n:=n) (by omega) r.op (m:=4) (by omega) (by omega);have hw3:=Au (n:=n) (by omega) r.n (m:=3) (by omega) (by omega);have n4:=Mr (n:=n) (by omega);have t14:=D3 (n:=n) (by omega) 14;have t15:=D3 (n:=n) (by omega) 15;have t18:=C4 (n:=n) (by omega) 18 [.mk 15 0 []];have h41:(0:Int)<(e:Int) - 5→¬ 1<r.op % 4:=by omega
  rw [c66];rw [hae];clear hG hG2 hg ha leafT tint hae hu1 hu2 hop hnr hs tt;generalize r.op % 5=w5 at hw;generalize r.op % 4=w4 at hw4 h41;generalize r.n % 3=w3 at hw3 ht;obtain ⟨o2,x2,k2⟩:=r;simp only [Tm.op,Tm.n] at hw hw4 hw3;simp only [Be,Axg,Axf,An] at n4 t14 t15 t18 ⊢;by_cases hd0:(0:Int)<(e:Int) - 5
  ·have h41:=h41 hd0;by_cases h4:w5=4
   ·rcases ht with ⟨rfl,rfl⟩ | ⟨rfl,rfl⟩ | ⟨rfl,rfl⟩<;>(simp (maxSteps:=1000000) only [↓Ji,↓XX,XY,↓reduceIte,Nat.reduceBEq,Nat.reduceAdd,Int.reduceEq,Int.reduceLT,Int.reduceLE,hd0,↓Aj hw,h4,↓Aj hw4,h41,↓FE n4,↓Aj t14,↓Aj t15,↓D1,↓Aj t18,↓Ks,↓Aj hw3,↓Tu,↓He,↓HE,↓L3,An];first | exact Ao _ _ | exact AR rfl (by simp) _)
   ·rcases ht with ⟨rfl,rfl⟩ | ⟨rfl,rfl⟩ | ⟨rfl,rfl⟩<;>(simp (maxSteps:=1000000) only [↓Ji,↓XX,XY,↓reduceIte,Nat.reduceBEq,Nat.reduceAdd,Int.reduceEq,Int.reduceLT,Int.reduceLE,hd0,↓Aj hw,h4,↓Aj hw4,h41,↓FE n4,↓Aj t14,↓Aj t15,↓D1,↓Aj t18,↓Ks,↓Aj hw3,↓Tu,↓He,↓HE,↓L3,An];first | exact Ao _ _ | exact AR rfl (by simp) _)
  ·rcases ht with ⟨rfl,rfl⟩ | ⟨rfl,rfl⟩ | ⟨rfl,rfl⟩<;>(simp (maxSteps:=1000000) only [↓Ji,↓XX,XY,↓reduceIte,Nat.reduceBEq,Nat.reduceAdd,Int.reduceEq,Int.reduceLT,Int.reduceLE,hd0,↓Aj hw4,↓FE n4,↓Aj t14,↓Aj t15,↓D1,↓Aj t18,↓Ks,↓Aj hw3,↓Tu,↓He,↓HE,↓L3,An];first | exact Ao _ _ | exact AR rfl (by simp) _)
set_option maxRecDepth 20000 in
set_option maxHeartbeats 8000000 in
theorem Ado {e:Nat} (h6:6≤e) (he:e≤10) (hO:D5 33 2 (e - 2)) (hG:D5 39 1 (e - 1)):Pm 59 4 e:=by
 intro g a r hg ha;have hlen:=hg.len;have hW1:Wg e=4 * Wg (e - 1):=by
  obtain ⟨f,rfl⟩:∃f,e=f+1:=⟨e - 1,by omega⟩;rw [L0,Nat.add_sub_cancel]
 have hW2:Wg e=16 * Wg (e - 2):=by
  obtain ⟨f,rfl⟩:∃f,e=f+2:=⟨e - 2,by omega⟩;rw [show f+2=(f+1)+1 by omega,L0,L0,show f+1+1 - 2=f by omega];omega
 have hW0:=L4 (e - 2);have hW10:=Nu he;have hD1:Dg e=Dg (e - 1)+10:=by unfold Dg;omega
 have hD2:Dg e=Dg (e - 2)+20:=by unfold Dg;omega
 have hD0:200≤Dg (e - 2):=by unfold Dg;omega
 have hDm:Dg e≤300:=by unfold Dg;omega
 have we:BA ((e:Int) - 5 - 1)=((e - 1:Nat):Int) - 5:=by rw [Ax (by omega) (by omega)];omega
 have we2:BA ((e:Int) - 5 - 2)=((e - 2:Nat):Int) - 5:=by rw [Ax (by omega) (by omega)];omega
 have aw:=ha.wt;have ad:=ha.dp;have hk1:=Int.emod_nonneg r.n (show (7:Int)≠0 by decide)
 have hk2:=Int.emod_lt_of_pos r.n (show (0:Int)<7 by decide)
 have hi:AOk g.length (.mk 15 0 []):=⟨DR (by decide) (by decide) (B3 (by decide) (by decide) (by decide)),by simp only [Tm.wt,Tm.wtL];omega,by simp only [Tm.dp,Tm.dpL];omega⟩;have hs1:=ND ha (by omega) 1 (by omega);by_cases c0:r.n % 7=0
 ·obtain ⟨c,p,⟨N1,h1⟩,tc⟩:=hO g (.mk 15 0 []) (r.pick 0) (AU (by omega) hg) hi;obtain ⟨x,q,⟨N2,h2⟩,tx⟩:=hO g a (r.pick 1) (AU (by omega) hg) (Bx ha);obtain ⟨y,f,⟨N3,h3⟩,ty⟩:=hO g a (r.pick 2) (AU (by omega) hg) (Bx ha);refine ⟨.mk 27 0 [c,x,y],p && (q && f),⟨N1+N2+N3+100000,fun n hn=>?_⟩,VE (by decide) (by decide) (B3 (by decide) (by decide) (by decide)) tc.sc tx.sc ty.sc,by have:=tc.wt;have:=tx.wt;have:=ty.wt;rw [wt3];omega,by have:=tc.dp;have:=tx.dp;have:=ty.dp;rw [dp3];omega,fun hb=>.oif e g a c x y h6 (tc.gr (LD hb)) (tx.gr (LD (Jt hb))) (ty.gr (Jt (Jt hb)))⟩
  ·obtain ⟨n,rfl⟩:∃k,n=k+1:=⟨n - 1,by omega⟩;have h1:=h1 n (by omega);have h2:=h2 n (by omega);have h3:=h3 n (by omega);rw [← we2] at h1 h2 h3;have hw:=Au (n:=n) (by omega) r.n (m:=7) (by omega) (by omega);have t15:=D3 (n:=n) (by omega) 15;have p0:=AM (n:=n) (by omega) r 0;have p1:=AM (n:=n) (by omega) r 1;have p2:=AM (n:=n) (by omega) r 2;rw [c0] at hw;have t27:=C4 (n:=n) (by omega) 27 [c,x,y];rw [c59];clear hO hG tc tx ty hg ha hi hs1;generalize r.pick 0=r0 at p0 h1;generalize r.pick 1=r1 at p1 h2;generalize r.pick 2=r2 at p2 h3;obtain ⟨o1,x1,k1⟩:=a;obtain ⟨o2,x2,k2⟩:=r;obtain ⟨o3,x3,k3⟩:=c;obtain ⟨o4,x4,k4⟩:=x;obtain ⟨o5,x5,k5⟩:=y;obtain ⟨o6,x6,k6⟩:=r0;obtain ⟨o7,x7,k7⟩:=r1;obtain ⟨o8,x8,k8⟩:=r2;simp only [Tm.n] at hw;simp only [Be,Axg,Axf,An] at h1 h2 h3 t15 p0 p1 p2 t27 ⊢;cases p
   ·simp (maxSteps:=1000000) only [↓Tz,↓XX,XY,↓reduceIte,Nat.reduceBEq,Nat.reduceAdd,Int.reduceEq,Int.reduceLT,Int.reduceLE,↓Aj hw,↓Aj t15,↓Aj p0,↓Aj p1,↓Aj p2,↓AK h1,↓AK h2,↓AK h3,↓Ks,↓Aj t27];first | exact Ao _ _ | exact AR rfl (by simp) _
   ·cases q
    ·simp (maxSteps:=1000000) only [↓Tz,↓XX,XY,↓reduceIte,Nat.reduceBEq,Nat.reduceAdd,Int.reduceEq,Int.reduceLT,Int.reduceLE,↓Aj hw,↓Aj t15,↓Aj p0,↓Aj p1,↓Aj p2,↓AK h1,↓AK h2,↓AK h3,↓Ks,↓Aj t27];first | exact Ao _ _ | exact AR rfl (by simp) _
    ·simp (maxSteps:=1000000) only [↓Tz,↓XX,XY,↓reduceIte,Nat.reduceBEq,Nat.reduceAdd,Int.reduceEq,Int.reduceLT,Int.reduceLE,↓Aj hw,↓Aj t15,↓Aj p0,↓Aj p1,↓Aj p2,↓AK h1,↓AK h2,↓AK h3,↓Ks,↓Aj t27];first | exact Ao _ _ | exact AR rfl (by simp) _
 by_cases c12:r.n % 7=1∨r.n % 7=2
 ·have hb:=GQ g.length 1 (r.pick 0);have hbw:=GH 1 (r.pick 0);have hbd:=Uk ((r.pick 0).plainT 1);obtain ⟨b,hbe⟩:∃b,b=(r.pick 0).plainT 1:=⟨_,rfl⟩;rw [← hbe] at hb hbw hbd;obtain ⟨x,p,⟨N1,h1⟩,tx⟩:=hO g b (r.pick 1) (AU (by omega) hg) ⟨hb,by omega,by omega⟩;have hgb:GOk (e - 2) (g++[(0,b)]):=CN (AU (by omega) hg) hb (by omega) (by omega);obtain ⟨y,q,⟨N2,h2⟩,ty⟩:=hO (g++[(0,b)]) (a.shift 1 0) (r.pick 2) hgb (by simpa using Bx hs1);have ys:y.sc (g.length+1):=by simpa using ty.sc
  obtain ⟨tt,htt,hok⟩:∃tt:Tm,(r.n % 7=1∧tt=.mk 28 0 [x,y]∨r.n % 7=2∧tt=.mk 21 0 [.mk 20 0 [b,y],x])∧TG 4 e g a tt (p && q):=by
   rcases c12 with h | h
   ·exact ⟨_,.inl ⟨h,rfl⟩,Cw (by decide) (by decide) (B3 (by decide) (by decide) (by decide)) tx.sc ys,by have:=tx.wt;have:=ty.wt;rw [NK];omega,by have:=tx.dp;have:=ty.dp;rw [OZ];omega,fun hpq=>by subst hbe;exact .olet e g a (r.pick 0) x y h6 (tx.gr (LD hpq)) (ty.gr (Jt hpq))⟩
   ·exact ⟨_,.inr ⟨h,rfl⟩,Cw (by decide) (by decide) (B3 (by decide) (by decide) (by decide)) (Cw (by decide) (by decide) (B3 (by decide) (by decide) (by decide)) hb ys) tx.sc,by have:=tx.wt;have:=ty.wt;rw [NK,NK];omega,by have:=tx.dp;have:=ty.dp;rw [OZ,OZ];omega,fun hpq=>by subst hbe;exact .oapp e g a (r.pick 0) x y h6 (tx.gr (LD hpq)) (ty.gr (Jt hpq))⟩
  refine ⟨tt,p && q,⟨N1+N2+100000,fun n hn=>?_⟩,hok⟩
  ·obtain ⟨n,rfl⟩:∃k,n=k+1:=⟨n - 1,by omega⟩;have h1:=h1 n (by omega);have h2:=h2 n (by omega);rw [← we2] at h1 h2;have hw:=Au (n:=n) (by omega) r.n (m:=7) (by omega) (by omega);have t15:=D3 (n:=n) (by omega) 15;have p0:=AM (n:=n) (by omega) r 0;have p1:=AM (n:=n) (by omega) r 1;have p2:=AM (n:=n) (by omega) r 2;have hp:=Lx 1 n (r.pick 0) (by omega) (by omega);rw [← hbe] at hp;have hm:=DG (n:=n) g 0 b (by omega) (by omega);have sh:=Db n a 1 0 (by omega) (GI _ _ ha.sc) (by omega) (by omega);have t28:=C4 (n:=n) (by omega) 28 [x,y];have t20:=C4 (n:=n) (by omega) 20 [b,y];have t21:=C4 (n:=n) (by omega) 21 [.mk 20 0 [b,y],x];rw [c59];clear hO hG tx ty hg ha hi hs1 hbe hb hgb ys hok c12;generalize r.n % 7=w7 at hw htt;generalize a.shift 1 0=a1 at sh h2;generalize r.pick 0=r0 at p0 hp;generalize r.pick 1=r1 at p1 h1;generalize r.pick 2=r2 at p2 h2;obtain ⟨o1,x1,k1⟩:=a;obtain ⟨o2,x2,k2⟩:=r;obtain ⟨o3,x3,k3⟩:=b;obtain ⟨o4,x4,k4⟩:=x;obtain ⟨o5,x5,k5⟩:=y;obtain ⟨o6,x6,k6⟩:=r0;obtain ⟨o7,x7,k7⟩:=r1;obtain ⟨o8,x8,k8⟩:=r2;obtain ⟨o9,x9,k9⟩:=a1;simp only [Tm.n] at hw;simp only [Be,Axg,Axf,An] at h1 h2 t15 p0 p1 p2 hp hm sh t28 t20 t21 ⊢;rcases htt with ⟨rfl,rfl⟩ | ⟨rfl,rfl⟩
   ·cases p<;>(simp (maxSteps:=1000000) only [↓Tz,↓XX,XY,↓reduceIte,Nat.reduceBEq,Nat.reduceAdd,Int.reduceEq,Int.reduceLT,Int.reduceLE,↓Aj hw,↓Aj t15,↓Aj p0,↓Aj p1,↓Aj p2,↓Aj hp,↓AK h1,↓AZ hm,↓AZ sh,↓AK h2,↓D4,↓Aj t28,An,Axg,Axf];first | exact Ao _ _ | exact AR rfl (by simp) _)
   ·cases p<;>(simp (maxSteps:=1000000) only [↓Tz,↓XX,XY,↓reduceIte,Nat.reduceBEq,Nat.reduceAdd,Int.reduceEq,Int.reduceLT,Int.reduceLE,↓Aj hw,↓Aj t15,↓Aj p0,↓Aj p1,↓Aj p2,↓Aj hp,↓AK h1,↓AZ hm,↓AZ sh,↓AK h2,↓D4,↓Aj t20,↓Aj t21,An,Axg,Axf];first | exact Ao _ _ | exact AR rfl (by simp) _)
 by_cases c3:r.n % 7=3
 ·obtain ⟨x,p,⟨N1,h1⟩,tx⟩:=hO g a (r.pick 0) (AU (by omega) hg) (Bx ha);obtain ⟨y,q,⟨N2,h2⟩,ty⟩:=hO g (.mk 15 0 []) (r.pick 1) (AU (by omega) hg) hi;refine ⟨.mk 23 0 [.mk 22 0 [x,y]],p && q,⟨N1+N2+100000,fun n hn=>?_⟩,Gt (by decide) (by decide) (B3 (by decide) (by decide) (by decide)) (Cw (by decide) (by decide) (B3 (by decide) (by decide) (by decide)) tx.sc ty.sc),by have:=tx.wt;have:=ty.wt;rw [wt1,NK];omega,by have:=tx.dp;have:=ty.dp;rw [dp1,OZ];omega,fun hb=>.ofst e g a x y h6 (tx.gr (LD hb)) (ty.gr (Jt hb))⟩
  ·obtain ⟨n,rfl⟩:∃k,n=k+1:=⟨n - 1,by omega⟩;have h1:=h1 n (by omega);have h2:=h2 n (by omega);rw [← we2] at h1 h2;have hw:=Au (n:=n) (by omega) r.n (m:=7) (by omega) (by omega);have t15:=D3 (n:=n) (by omega) 15;have p0:=AM (n:=n) (by omega) r 0;have p1:=AM (n:=n) (by omega) r 1;have p2:=AM (n:=n) (by omega) r 2;rw [c3] at hw;have t22:=C4 (n:=n) (by omega) 22 [x,y];have t23:=C4 (n:=n) (by omega) 23 [.mk 22 0 [x,y]];rw [c59];clear hO hG tx ty hg ha hi hs1;generalize r.pick 0=r0 at p0 h1;generalize r.pick 1=r1 at p1 h2;obtain ⟨o1,x1,k1⟩:=a;obtain ⟨o2,x2,k2⟩:=r;obtain ⟨o4,x4,k4⟩:=x;obtain ⟨o5,x5,k5⟩:=y;obtain ⟨o6,x6,k6⟩:=r0;obtain ⟨o7,x7,k7⟩:=r1;simp only [Tm.n] at hw;simp only [Be,Axg,Axf,An] at h1 h2 t15 p0 p1 t22 t23 ⊢;cases p<;>(simp (maxSteps:=1000000) only [↓Tz,↓XX,XY,↓reduceIte,Nat.reduceBEq,Nat.reduceAdd,Int.reduceEq,Int.reduceLT,Int.reduceLE,↓Aj hw,↓Aj t15,↓Aj p0,↓Aj p1,↓AK h1,↓AK h2,↓D4,↓D1,↓Aj t22,↓Aj t23];first | exact Ao _ _ | exact AR rfl (by simp) _)
 by_cases c4:r.n % 7=4
 ·have hga:GOk (e - 2) (g++[(0,a)]):=CN (AU (by omega) hg) ha.sc (by omega) (by omega);obtain ⟨x,p,⟨N1,h1⟩,tx⟩:=hO (g++[(0,a)]) (a.shift 1 0) (r.pick 0) hga (by simpa using Bx hs1);have xs:x.sc (g.length+1):=by simpa using tx.sc
  refine ⟨.mk 29 0 [a,x],p,⟨N1+100000,fun n hn=>?_⟩,Cw (by decide) (by decide) (B3 (by decide) (by decide) (by decide)) ha.sc xs,by have:=tx.wt;rw [NK];omega,by have:=tx.dp;rw [OZ];omega,fun hb=>.ofix e g a x h6 (tx.gr hb)⟩
  ·obtain ⟨n,rfl⟩:∃k,n=k+1:=⟨n - 1,by omega⟩;have h1:=h1 n (by omega);rw [← we2] at h1;have hw:=Au (n:=n) (by omega) r.n (m:=7) (by omega) (by omega);have t15:=D3 (n:=n) (by omega) 15;have p0:=AM (n:=n) (by omega) r 0;have p1:=AM (n:=n) (by omega) r 1;have p2:=AM (n:=n) (by omega) r 2;rw [c4] at hw;have hm:=DG (n:=n) g 0 a (by omega) (by omega);have sh:=Db n a 1 0 (by omega) (GI _ _ ha.sc) (by omega) (by omega);have t29:=C4 (n:=n) (by omega) 29 [a,x];rw [c59];clear hO hG tx hg ha hi hs1 hga xs;generalize a.shift 1 0=a1 at sh h1;generalize r.pick 0=r0 at p0 h1;obtain ⟨o1,x1,k1⟩:=a;obtain ⟨o2,x2,k2⟩:=r;obtain ⟨o4,x4,k4⟩:=x;obtain ⟨o6,x6,k6⟩:=r0;obtain ⟨o9,x9,k9⟩:=a1;simp only [Tm.n] at hw;simp only [Be,Axg,Axf,An] at h1 t15 p0 hm sh t29 ⊢;simp (maxSteps:=1000000) only [↓Tz,↓XX,XY,↓reduceIte,Nat.reduceBEq,Nat.reduceAdd,Int.reduceEq,Int.reduceLT,Int.reduceLE,↓Aj hw,↓Aj t15,↓Aj p0,↓AZ hm,↓AZ sh,↓AK h1,↓D4,↓Aj t29];first | exact Ao _ _ | exact AR rfl (by simp) _
 ·have hla:AOk g.length (.mk 18 0 [a]):=⟨Gt (by decide) (by decide) (B3 (by decide) (by decide) (by decide)) ha.sc,by rw [wt1];omega,by rw [dp1];omega⟩;obtain ⟨x,p,⟨N1,h1⟩,tx⟩:=hG g (.mk 18 0 [a]) (r.pick 0) (AU (by omega) hg) hla;refine ⟨.mk 30 0 [x],p,⟨N1+100000,fun n hn=>?_⟩,Gt (by decide) (by decide) (B3 (by decide) (by decide) (by decide)) tx.sc,by have:=tx.wt;rw [wt1];omega,by have:=tx.dp;rw [dp1];omega,fun hb=>.spl e g a x h6 (tx.gr hb)⟩
  ·obtain ⟨n,rfl⟩:∃k,n=k+1:=⟨n - 1,by omega⟩;have h1:=h1 n (by omega);rw [← we] at h1;have hw:=Au (n:=n) (by omega) r.n (m:=7) (by omega) (by omega);have t15:=D3 (n:=n) (by omega) 15;have p0:=AM (n:=n) (by omega) r 0;have p1:=AM (n:=n) (by omega) r 1;have p2:=AM (n:=n) (by omega) r 2;have c1:¬ r.n % 7=1:=fun h=>c12 (.inl h);have c2:¬ r.n % 7=2:=fun h=>c12 (.inr h);have t18:=C4 (n:=n) (by omega) 18 [a];have t30:=C4 (n:=n) (by omega) 30 [x];rw [c59];clear hO hG tx hg ha hi hs1 hla c12 hk1 hk2;generalize r.n % 7=w7 at hw c0 c1 c2 c3 c4;generalize r.pick 0=r0 at p0 h1;obtain ⟨o1,x1,k1⟩:=a;obtain ⟨o2,x2,k2⟩:=r;obtain ⟨o4,x4,k4⟩:=x;obtain ⟨o6,x6,k6⟩:=r0;simp only [Tm.n] at hw;simp only [Be,Axg,Axf,An] at h1 t15 p0 t18 t30 ⊢;simp (maxSteps:=1000000) only [↓Tz,↓XX,XY,↓reduceIte,Nat.reduceBEq,Nat.reduceAdd,Int.reduceEq,Int.reduceLT,Int.reduceLE,↓Aj hw,c0,c1,c2,c3,c4,↓Aj t15,↓Aj p0,↓D1,↓Aj t18,↓AK h1,↓Aj t30];first | exact Ao _ _ | exact AR rfl (by simp) _
theorem GD {k:Nat} {a:Tm} {r:Nat} (h:NOk k a) (hr:ar a.op=some r):a.kids.length=r:=JS h.sc rfl hr
theorem Xk {l:List Tm} (h:l.length=2):∃x y,l=[x,y]:=by
 match l,h with
 | [x,y],_=>exact ⟨x,y,rfl⟩
theorem ArP {l:List Tm} (h:l.length=1):∃x,l=[x]:=by
 match l,h with
 | [x],_=>exact ⟨x,rfl⟩
theorem Ard {l:List Tm} (h:l.length=0):l=[]:=List.eq_nil_of_length_eq_zero h
set_option maxRecDepth 20000 in
set_option maxHeartbeats 8000000 in
theorem Ac1 {e:Nat} (he:e≤10) (hO:1≤e→D5 33 2 (e - 1)) (hA:6≤e→Pm 59 4 e):D5 33 2 e:=by
 intro g a0 r hg ha0;have hlen:=hg.len;have hW0:=L4 e;have hD0:200≤Dg e:=by unfold Dg;omega
 have hDm:Dg e≤300:=by unfold Dg;omega
 have hW10:=Nu he;obtain ⟨a,er,⟨N0,h0⟩,hcase,fn,hfn⟩:=K8 (k:=g.length) (by omega) ha0.sc (by have:=ha0.dp;omega);rcases hcase with ⟨rfl,ha⟩ | ⟨her,rfl⟩
 case inr =>
  have hne:er≠0:=by omega
  refine ⟨.z,false,⟨N0+100,fun n hn=>?_⟩,Ap5 _,by simp only [Tm.z,Tm.wt,Tm.wtL];omega,by simp only [Tm.z,Tm.dp,Tm.dpL];omega,fun h=>by cases h⟩;obtain ⟨n,rfl⟩:∃k,n=k+1:=⟨n - 1,by omega⟩;have h0:=h0 n (by omega);rw [c33];clear hO hA hg ha0;obtain ⟨o1,x1,k1⟩:=a0;obtain ⟨o2,x2,k2⟩:=r;simp only [Be,Tm.z,Axf,An] at h0 ⊢;simp (maxSteps:=1000000) only [↓MU,↓XX,XY,↓reduceIte,Nat.reduceBEq,Nat.reduceAdd,Int.reduceEq,Int.reduceLT,Int.reduceLE,↓Av h0,hne];first | exact Ao _ _ | exact AR rfl (by simp) _
 obtain ⟨v,is,⟨N1,h1⟩,tv0,hhit⟩:=LL hg 0 ha r.n;have up:∀{t:Tm},Gr 4 e g a t→Gr 2 e g a0 t:=fun h=>.objc e g a0 a _ fn hfn (by omega) ha h;have tv:TG 2 e g a0 v is:=tg (SY (Nat.zero_le _) tv0) (fun hb=>by
  obtain ⟨i,rfl,hi⟩:=hhit hb;exact up (.var0 e g a i hi))
 clear tv0 hhit;have aw:=ha.wt;have ad:=ha.dp;have hw3m:=Int.emod_nonneg r.op (show (3:Int)≠0 by decide)
 by_cases cv:is=true∧r.op % 3=0∨e=0
 ·refine ⟨v,is,⟨N0+N1+100,fun n hn=>?_⟩,tv⟩;obtain ⟨n,rfl⟩:∃k,n=k+1:=⟨n - 1,by omega⟩;have h0:=h0 n (by omega);have h1:=h1 n (by omega);have hw:=Au (n:=n) (by omega) r.op (m:=3) (by omega) (by omega);rw [c33];clear up hfn hO hA hg ha0 ha tv;obtain ⟨o0,x0,k0⟩:=a0;obtain ⟨o1,x1,k1⟩:=a;obtain ⟨o2,x2,k2⟩:=r;obtain ⟨o3,x3,k3⟩:=v;simp only [Tm.n,Tm.op] at h1 hw cv;simp only [Be,An] at h0 h1 ⊢;generalize o2 % 3=w3 at hw cv;rcases cv with ⟨rfl,rfl⟩ | rfl
  ·simp (maxSteps:=1000000) only [↓MU,↓XX,XY,↓reduceIte,Nat.reduceBEq,Nat.reduceAdd,Int.reduceEq,Int.reduceLT,Int.reduceLE,↓Av h0,↓AK h1,↓Aj hw];first | exact Ao _ _ | exact AR rfl (by simp) _
  ·have hd4:((0:Nat):Int) - 5 < -4:=by omega
   cases is
   ·simp (maxSteps:=1000000) only [↓MU,↓XX,XY,↓reduceIte,Nat.reduceBEq,Nat.reduceAdd,Int.reduceEq,Int.reduceLT,Int.reduceLE,↓Av h0,↓AK h1,↓Aj hw,hd4,Int.reduceSub,Int.reduceLT,Int.reduceNeg];first | exact Ao _ _ | exact AR rfl (by simp) _
   ·by_cases h3:w3=0
    ·simp (maxSteps:=1000000) only [↓MU,↓XX,XY,↓reduceIte,Nat.reduceBEq,Nat.reduceAdd,Int.reduceEq,Int.reduceLT,Int.reduceLE,↓Av h0,↓AK h1,↓Aj hw,h3,hd4,Int.reduceSub,Int.reduceLT,Int.reduceNeg];first | exact Ao _ _ | exact AR rfl (by simp) _
    ·simp (maxSteps:=1000000) only [↓MU,↓XX,XY,↓reduceIte,Nat.reduceBEq,Nat.reduceAdd,Int.reduceEq,Int.reduceLT,Int.reduceLE,↓Av h0,↓AK h1,↓Aj hw,h3,hd4,Int.reduceSub,Int.reduceLT,Int.reduceNeg];first | exact Ao _ _ | exact AR rfl (by simp) _
 have he1:1≤e:=by omega
 have hd4:¬ (e:Int) - 5 < -4:=by omega
 have hv:is=true→¬ r.op % 3=0:=fun h1 h2=>cv (.inl ⟨h1,h2⟩);have hW1:Wg e=4 * Wg (e - 1):=by
  obtain ⟨f,rfl⟩:∃f,e=f+1:=⟨e - 1,by omega⟩;rw [L0,Nat.add_sub_cancel]
 have hW01:=L4 (e - 1);have hD1:Dg e=Dg (e - 1)+10:=by unfold Dg;omega
 have hD01:200≤Dg (e - 1):=by unfold Dg;omega
 have we:BA ((e:Int) - 5 - 1)=((e - 1:Nat):Int) - 5:=by rw [Ax (by omega) (by omega)];omega
 have hO:=hO he1;by_cases ca:6≤e∧r.op % 3=1
 ·obtain ⟨t,b,⟨N2,h2⟩,tt⟩:=hA ca.1 g a r hg ha;refine ⟨t,b,⟨N0+N1+N2+100,fun n hn=>?_⟩,AfD tt up⟩;obtain ⟨n,rfl⟩:∃k,n=k+1:=⟨n - 1,by omega⟩;have h0:=h0 n (by omega);have h1:=h1 n (by omega);have h2:=h2 n (by omega);have hw:=Au (n:=n) (by omega) r.op (m:=3) (by omega) (by omega);rw [ca.2] at hw;have hd0:(0:Int)<(e:Int) - 5:=by omega
  rw [c33];clear up hfn hO hA hg ha0 ha tv tt;obtain ⟨o0,x0,k0⟩:=a0;obtain ⟨o1,x1,k1⟩:=a;obtain ⟨o2,x2,k2⟩:=r;obtain ⟨o3,x3,k3⟩:=v;obtain ⟨o4,x4,k4⟩:=t;simp only [Tm.n,Tm.op] at h1 hw;simp only [Be,An] at h0 h1 h2 ⊢;cases is<;>(simp (maxSteps:=1000000) only [↓MU,↓XX,XY,↓reduceIte,Nat.reduceBEq,Nat.reduceAdd,Int.reduceEq,Int.reduceLT,Int.reduceLE,↓Av h0,↓AK h1,↓Aj hw,hd4,hd0,↓AK h2];first | exact Ao _ _ | exact AR rfl (by simp) _)
 have hna:(0:Int)<(e:Int) - 5→¬ r.op % 3=1:=by omega
 by_cases o15:a.op=15
 ·have hl:=Ard (GD ha (show ar a.op=some 0 by rw [o15];decide))
  by_cases hs:6≤e∧r.op % 2=1
  ·obtain ⟨x,p,⟨N2,h2⟩,tx⟩:=hO g a (r.pick 0) (AU (by omega) hg) (Bx ha);obtain ⟨y,q,⟨N3,h3⟩,ty⟩:=hO g a (r.pick 1) (AU (by omega) hg) (Bx ha);have hj1:=Int.emod_nonneg r.n (show (5:Int)≠0 by decide)
   have hj2:=Int.emod_lt_of_pos r.n (show (0:Int)<5 by decide)
   refine ⟨.mk 26 (r.n % 5) [x,y],p && q,⟨N0+N1+N2+N3+100,fun n hn=>?_⟩,Cw (by decide) (by decide) (by rw [BK,if_neg (by decide),if_pos rfl];omega) tx.sc ty.sc,by have:=tx.wt;have:=ty.wt;rw [NK];omega,by have:=tx.dp;have:=ty.dp;rw [OZ];omega,fun hb=>up (.oprim e g a x y _ hs.1 o15 (tx.gr (LD hb)) (ty.gr (Jt hb)))⟩;obtain ⟨n,rfl⟩:∃k,n=k+1:=⟨n - 1,by omega⟩;have h0:=h0 n (by omega);have h1:=h1 n (by omega);have h2:=h2 n (by omega);have h3:=h3 n (by omega);rw [← we] at h2 h3;have hw:=Au (n:=n) (by omega) r.op (m:=3) (by omega) (by omega);have hw2:=Au (n:=n) (by omega) r.op (m:=2) (by omega) (by omega);rw [hs.2] at hw2;have hw5:=Au (n:=n) (by omega) r.n (m:=5) (by omega) (by omega);have p0:=AM (n:=n) (by omega) r 0;have p1:=AM (n:=n) (by omega) r 1;have hd0:(0:Int)<(e:Int) - 5:=by omega
   replace hna:=hna hd0;rw [c33];clear up hfn hO hA hg ha0 ha tv tx ty hj1 hj2;generalize r.op % 3=w3 at hw hv hna;generalize r.n % 5=w5 at hw5 ⊢;generalize r.pick 0=r0 at p0 h2;generalize r.pick 1=r1 at p1 h3;obtain ⟨o0,x0,k0⟩:=a0;obtain ⟨o1,x1,k1⟩:=a;simp only [Tm.op,Tm.kids] at o15 hl;subst o15 hl;obtain ⟨o2,x2,k2⟩:=r;obtain ⟨o3,x3,k3⟩:=v;obtain ⟨o4,x4,k4⟩:=x;obtain ⟨o5,x5,k5⟩:=y;obtain ⟨o6,x6,k6⟩:=r0;obtain ⟨o7,x7,k7⟩:=r1;simp only [Tm.n,Tm.op] at h1 hw hw2 hw5;simp only [Be,An,Axg,Axf] at h0 h1 h2 h3 p0 p1 ⊢;cases is<;>cases p<;>(simp (maxSteps:=1000000) only [↓MU,↓XX,XY,↓reduceIte,Nat.reduceBEq,Nat.reduceAdd,Int.reduceEq,Int.reduceLT,Int.reduceLE,↓Av h0,↓AK h1,↓Aj hw,hv,hd4,hd0,hna,↓Aj hw2,↓Aj p0,↓Aj p1,↓AK h2,↓AK h3,↓Aj hw5,↓D4];first | exact Ao _ _ | exact AR rfl (by simp) _)
  ·have hj1:=Int.emod_nonneg r.n (show (20:Int)≠0 by decide)
   have hj2:=Int.emod_lt_of_pos r.n (show (0:Int)<20 by decide)
   refine ⟨.mk 25 (r.n % 20 - 5) [],true,⟨N0+N1+100,fun n hn=>?_⟩,DR (by decide) (by decide) (by rw [BK,if_neg (by decide),if_neg (by decide),if_pos rfl];omega),by simp only [Tm.wt,Tm.wtL];omega,by simp only [Tm.dp,Tm.dpL];omega,fun _=>up (.oint e g a _ o15)⟩;obtain ⟨n,rfl⟩:∃k,n=k+1:=⟨n - 1,by omega⟩;have h0:=h0 n (by omega);have h1:=h1 n (by omega);have hw:=Au (n:=n) (by omega) r.op (m:=3) (by omega) (by omega);have hw2:=Au (n:=n) (by omega) r.op (m:=2) (by omega) (by omega);have hw20:=Au (n:=n) (by omega) r.n (m:=20) (by omega) (by omega);have w5:BA (r.n % 20 - 5)=r.n % 20 - 5:=by rw [Ax]<;>omega
   have hin:=AdV (n:=n) (by omega) (r.n % 20 - 5);rw [← w5] at hin;have h21:(0:Int)<(e:Int) - 5→¬ r.op % 2=1:=by omega
   rw [c33,← w5];clear up hfn hO hA hg ha0 ha tv hj1 hj2 w5 hs;generalize r.op % 3=w3 at hw hv hna;generalize r.op % 2=w2 at hw2 h21;generalize r.n % 20=w20 at hw20 hin ⊢;obtain ⟨o0,x0,k0⟩:=a0;obtain ⟨o1,x1,k1⟩:=a;simp only [Tm.op,Tm.kids] at o15 hl;subst o15 hl;obtain ⟨o2,x2,k2⟩:=r;obtain ⟨o3,x3,k3⟩:=v;simp only [Tm.n,Tm.op] at h1 hw hw2 hw20;simp only [Be,An,Axg,Axf] at h0 h1 hin ⊢;cases is<;>by_cases hd0:(0:Int)<(e:Int) - 5<;>(simp (maxSteps:=1000000) only [↓MU,↓XX,XY,↓reduceIte,Nat.reduceBEq,Nat.reduceAdd,Int.reduceEq,Int.reduceLT,Int.reduceLE,↓Av h0,↓AK h1,↓Aj hw,hv,hd4,hd0,hna,↓Aj hw2,h21,↓Aj hw20,↓Av hin];first | exact Ao _ _ | exact AR rfl (by simp) _)
 by_cases o16:a.op=16
 ·obtain ⟨d,c,hl⟩:=Xk (GD ha (show ar a.op=some 2 by rw [o16];decide))
  have hd:NOk g.length d∧NOk g.length c:=by
   obtain ⟨o1,x1,k1⟩:=a;simp only [Tm.op,Tm.kids] at o16 hl;subst o16 hl;have hsc:=ha.sc;rw [Tm.sc] at hsc;rw [NK] at aw;rw [OZ] at ad;exact ⟨⟨hsc.2.2.1,by omega,by omega⟩,⟨hsc.2.2.2.1,by omega,by omega⟩⟩
  obtain ⟨hd,hc⟩:=hd;have hgd:GOk (e - 1) (g++[(0,d)]):=CN (by rw [show e - 1+1=e by omega];exact hg) hd.sc (by have:=hd.wt;omega) (by have:=hd.dp;omega)
  obtain ⟨x,p,⟨N2,h2⟩,tx⟩:=hO (g++[(0,d)]) (c.shift 1 0) (r.pick 0) hgd (by simpa using Bx (ND hc (by omega) 1 (by omega)));have xs:x.sc (g.length+1):=by simpa using tx.sc
  refine ⟨.mk 20 0 [d,x],p,⟨N0+N1+N2+100000,fun n hn=>?_⟩,Cw (by decide) (by decide) (B3 (by decide) (by decide) (by decide)) hd.sc xs,by have:=tx.wt;have:=hd.wt;rw [NK];omega,by have:=tx.dp;have:=hd.dp;rw [OZ];omega,fun hb=>up (by
   obtain ⟨oa,xa,ka⟩:=a;simp only [Tm.op,Tm.kids] at o16 hl;subst o16 hl;exact .olam e g _ d c x (tx.gr hb))⟩
  ·obtain ⟨n,rfl⟩:∃k,n=k+1:=⟨n - 1,by omega⟩;have h0:=h0 n (by omega);have h1:=h1 n (by omega);have h2:=h2 n (by omega);rw [← we] at h2;have hw:=Au (n:=n) (by omega) r.op (m:=3) (by omega) (by omega);have p0:=AM (n:=n) (by omega) r 0;have hm:=DG (n:=n) g 0 d (by omega) (by omega);have sh:=Db n c 1 0 (by have:=hc.wt;omega) (GI _ _ hc.sc) (by omega) (by have:=hc.wt;omega);have t20:=C4 (n:=n) (by omega) 20 [d,x];rw [c33];clear up hfn hO hA hg ha0 ha tv tx hd hc hgd xs;generalize r.op % 3=w3 at hw hv hna;generalize c.shift 1 0=c1 at sh h2;generalize r.pick 0=r0 at p0 h2;obtain ⟨o0,x0,k0⟩:=a0;obtain ⟨o1,x1,k1⟩:=a;simp only [Tm.op,Tm.kids] at o16 hl;subst o16 hl;obtain ⟨o2,x2,k2⟩:=r;obtain ⟨o3,x3,k3⟩:=v;obtain ⟨o4,x4,k4⟩:=x;obtain ⟨o5,x5,k5⟩:=d;obtain ⟨o6,x6,k6⟩:=c;obtain ⟨o7,x7,k7⟩:=c1;obtain ⟨o8,x8,k8⟩:=r0;simp only [Tm.n,Tm.op] at h1 hw;simp only [Be,An,Axg,Axf] at h0 h1 h2 p0 hm sh t20 ⊢;cases is<;>by_cases hd0:(0:Int)<(e:Int) - 5<;>(simp (maxSteps:=1000000) only [↓MU,↓XX,XY,↓reduceIte,Nat.reduceBEq,Nat.reduceAdd,Int.reduceEq,Int.reduceLT,Int.reduceLE,↓Av h0,↓AK h1,↓Aj hw,hv,hd4,hd0,hna,↓He,↓HE,↓Aj p0,↓AZ hm,↓AZ sh,↓AK h2,↓D4,↓Aj t20];first | exact Ao _ _ | exact AR rfl (by simp) _)
 by_cases o17:a.op=17
 ·obtain ⟨d,c,hl⟩:=Xk (GD ha (show ar a.op=some 2 by rw [o17];decide))
  have hd:NOk g.length d∧NOk g.length c:=by
   obtain ⟨o1,x1,k1⟩:=a;simp only [Tm.op,Tm.kids] at o17 hl;subst o17 hl;have hsc:=ha.sc;rw [Tm.sc] at hsc;rw [NK] at aw;rw [OZ] at ad;exact ⟨⟨hsc.2.2.1,by omega,by omega⟩,⟨hsc.2.2.2.1,by omega,by omega⟩⟩
  obtain ⟨hd,hc⟩:=hd;obtain ⟨x,p,⟨N2,h2⟩,tx⟩:=hO g d (r.pick 0) (AU (by omega) hg) (Bx hd);obtain ⟨y,q,⟨N3,h3⟩,ty⟩:=hO g c (r.pick 1) (AU (by omega) hg) (Bx hc);refine ⟨.mk 22 0 [x,y],p && q,⟨N0+N1+N2+N3+100,fun n hn=>?_⟩,Cw (by decide) (by decide) (B3 (by decide) (by decide) (by decide)) tx.sc ty.sc,by have:=tx.wt;have:=ty.wt;rw [NK];omega,by have:=tx.dp;have:=ty.dp;rw [OZ];omega,fun hb=>up (by
   obtain ⟨oa,xa,ka⟩:=a;simp only [Tm.op,Tm.kids] at o17 hl;subst o17 hl;exact .opair e g _ d c x y (tx.gr (LD hb)) (ty.gr (Jt hb)))⟩
  ·obtain ⟨n,rfl⟩:∃k,n=k+1:=⟨n - 1,by omega⟩;have h0:=h0 n (by omega);have h1:=h1 n (by omega);have h2:=h2 n (by omega);have h3:=h3 n (by omega);rw [← we] at h2 h3;have hw:=Au (n:=n) (by omega) r.op (m:=3) (by omega) (by omega);have p0:=AM (n:=n) (by omega) r 0;have p1:=AM (n:=n) (by omega) r 1;have t22:=C4 (n:=n) (by omega) 22 [x,y];rw [c33];clear up hfn hO hA hg ha0 ha tv tx ty hd hc;generalize r.op % 3=w3 at hw hv hna;generalize r.pick 0=r0 at p0 h2;generalize r.pick 1=r1 at p1 h3;obtain ⟨o0,x0,k0⟩:=a0;obtain ⟨o1,x1,k1⟩:=a;simp only [Tm.op,Tm.kids] at o17 hl;subst o17 hl;obtain ⟨o2,x2,k2⟩:=r;obtain ⟨o3,x3,k3⟩:=v;obtain ⟨o4,x4,k4⟩:=x;obtain ⟨o5,x5,k5⟩:=d;obtain ⟨o6,x6,k6⟩:=c;obtain ⟨o7,x7,k7⟩:=y;obtain ⟨o8,x8,k8⟩:=r0;obtain ⟨o9,x9,k9⟩:=r1;simp only [Tm.n,Tm.op] at h1 hw;simp only [Be,An,Axg,Axf] at h0 h1 h2 h3 p0 p1 t22 ⊢;cases is<;>by_cases hd0:(0:Int)<(e:Int) - 5<;>cases p<;>(simp (maxSteps:=1000000) only [↓MU,↓XX,XY,↓reduceIte,Nat.reduceBEq,Nat.reduceAdd,Int.reduceEq,Int.reduceLT,Int.reduceLE,↓Av h0,↓AK h1,↓Aj hw,hv,hd4,hd0,hna,↓He,↓HE,↓Aj p0,↓Aj p1,↓AK h2,↓AK h3,↓D4,↓Aj t22];first | exact Ao _ _ | exact AR rfl (by simp) _)
 refine ⟨v,is,⟨N0+N1+100,fun n hn=>?_⟩,tv⟩
 ·obtain ⟨n,rfl⟩:∃k,n=k+1:=⟨n - 1,by omega⟩;have h0:=h0 n (by omega);have h1:=h1 n (by omega);have hw:=Au (n:=n) (by omega) r.op (m:=3) (by omega) (by omega);rw [c33];clear up hfn hO hA hg ha0 ha tv;generalize r.op % 3=w3 at hw hv hna;obtain ⟨o0,x0,k0⟩:=a0;obtain ⟨o1,x1,k1⟩:=a;obtain ⟨o2,x2,k2⟩:=r;obtain ⟨o3,x3,k3⟩:=v;simp only [Tm.n,Tm.op] at h1 hw o15 o16 o17;simp only [Be,An] at h0 h1 ⊢;cases is<;>by_cases hd0:(0:Int)<(e:Int) - 5<;>(simp (maxSteps:=1000000) only [↓MU,↓XX,XY,↓reduceIte,Nat.reduceBEq,Nat.reduceAdd,Int.reduceEq,Int.reduceLT,Int.reduceLE,↓Av h0,↓AK h1,↓Aj hw,hv,hd4,hd0,hna,o15,o16,o17];first | exact Ao _ _ | exact AR rfl (by simp) _)
set_option maxRecDepth 20000 in
set_option maxHeartbeats 8000000 in
theorem AhH {e:Nat} (he:e≤10) (hG:1≤e→D5 39 1 (e - 1)) (hO:1≤e→D5 33 2 (e - 1)) (hA:6≤e→Pm 65 3 e) (hP:1≤e→Agq 66 3 e):D5 39 1 e:=by
 intro g a0 r hg ha0;have hlen:=hg.len;have hW0:=L4 e;have hD0:200≤Dg e:=by unfold Dg;omega
 have hDm:Dg e≤300:=by unfold Dg;omega
 have hW10:=Nu he;obtain ⟨a,er,⟨N0,h0⟩,hcase,fn,hfn⟩:=K8 (k:=g.length) (by omega) ha0.sc (by have:=ha0.dp;omega);rcases hcase with ⟨rfl,ha⟩ | ⟨her,rfl⟩
 case inr =>
  have hne:er≠0:=by omega
  refine ⟨.z,false,⟨N0+100,fun n hn=>?_⟩,Ap5 _,by simp only [Tm.z,Tm.wt,Tm.wtL];omega,by simp only [Tm.z,Tm.dp,Tm.dpL];omega,fun h=>by cases h⟩;obtain ⟨n,rfl⟩:∃k,n=k+1:=⟨n - 1,by omega⟩;have h0:=h0 n (by omega);rw [c39];clear hG hO hA hP hg ha0;obtain ⟨o1,x1,k1⟩:=a0;obtain ⟨o2,x2,k2⟩:=r;simp only [Be,Tm.z,Axf,An] at h0 ⊢;simp (maxSteps:=1000000) only [↓J6,↓XX,XY,↓reduceIte,Nat.reduceBEq,Nat.reduceAdd,Int.reduceEq,Int.reduceLT,Int.reduceLE,↓Av h0,hne];first | exact Ao _ _ | exact AR rfl (by simp) _
 obtain ⟨v,is,⟨N1,h1⟩,tv0,hhit⟩:=LL hg 1 ha r.n;have up:∀{t:Tm},Gr 3 e g a t→Gr 1 e g a0 t:=fun h=>.grow e g a0 a _ fn hfn (by omega) ha h;have tv:TG 1 e g a0 v is:=tg (SY (Nat.zero_le _) tv0) (fun hb=>by
  obtain ⟨i,rfl,hi⟩:=hhit hb;exact up (.var1 e g a i hi))
 clear tv0 hhit;have aw:=ha.wt;have ad:=ha.dp;have hw3m:=Int.emod_nonneg r.op (show (3:Int)≠0 by decide)
 by_cases cv:is=true∧r.op % 3=0∨e=0
 ·refine ⟨v,is,⟨N0+N1+100,fun n hn=>?_⟩,tv⟩;obtain ⟨n,rfl⟩:∃k,n=k+1:=⟨n - 1,by omega⟩;have h0:=h0 n (by omega);have h1:=h1 n (by omega);have hw:=Au (n:=n) (by omega) r.op (m:=3) (by omega) (by omega);rw [c39];clear up hfn hG hO hA hP hg ha0 ha tv;obtain ⟨o0,x0,k0⟩:=a0;obtain ⟨o1,x1,k1⟩:=a;obtain ⟨o2,x2,k2⟩:=r;obtain ⟨o3,x3,k3⟩:=v;simp only [Tm.n,Tm.op] at h1 hw cv;simp only [Be,An] at h0 h1 ⊢;generalize o2 % 3=w3 at hw cv;rcases cv with ⟨rfl,rfl⟩ | rfl
  ·simp (maxSteps:=1000000) only [↓J6,↓XX,XY,↓reduceIte,Nat.reduceBEq,Nat.reduceAdd,Int.reduceEq,Int.reduceLT,Int.reduceLE,↓Av h0,↓AK h1,↓Aj hw];first | exact Ao _ _ | exact AR rfl (by simp) _
  ·have hd4:((0:Nat):Int) - 5 < -4:=by omega
   cases is
   ·simp (maxSteps:=1000000) only [↓J6,↓XX,XY,↓reduceIte,Nat.reduceBEq,Nat.reduceAdd,Int.reduceEq,Int.reduceLT,Int.reduceLE,↓Av h0,↓AK h1,↓Aj hw,hd4,Int.reduceSub,Int.reduceLT,Int.reduceNeg];first | exact Ao _ _ | exact AR rfl (by simp) _
   ·by_cases h3:w3=0
    ·simp (maxSteps:=1000000) only [↓J6,↓XX,XY,↓reduceIte,Nat.reduceBEq,Nat.reduceAdd,Int.reduceEq,Int.reduceLT,Int.reduceLE,↓Av h0,↓AK h1,↓Aj hw,h3,hd4,Int.reduceSub,Int.reduceLT,Int.reduceNeg];first | exact Ao _ _ | exact AR rfl (by simp) _
    ·simp (maxSteps:=1000000) only [↓J6,↓XX,XY,↓reduceIte,Nat.reduceBEq,Nat.reduceAdd,Int.reduceEq,Int.reduceLT,Int.reduceLE,↓Av h0,↓AK h1,↓Aj hw,h3,hd4,Int.reduceSub,Int.reduceLT,Int.reduceNeg];first | exact Ao _ _ | exact AR rfl (by simp) _
 have he1:1≤e:=by omega
 have hd4:¬ (e:Int) - 5 < -4:=by omega
 have hv:is=true→¬ r.op % 3=0:=fun h1 h2=>cv (.inl ⟨h1,h2⟩);have hW1:Wg e=4 * Wg (e - 1):=by
  obtain ⟨f,rfl⟩:∃f,e=f+1:=⟨e - 1,by omega⟩;rw [L0,Nat.add_sub_cancel]
 have hW01:=L4 (e - 1);have hD1:Dg e=Dg (e - 1)+10:=by unfold Dg;omega
 have hD01:200≤Dg (e - 1):=by unfold Dg;omega
 have we:BA ((e:Int) - 5 - 1)=((e - 1:Nat):Int) - 5:=by rw [Ax (by omega) (by omega)];omega
 have hO:=hO he1;have hG:=hG he1;have hP:=hP he1;by_cases ca:6≤e∧r.op % 7=6
 ·obtain ⟨t,b,⟨N2,h2⟩,tt⟩:=hA ca.1 g a r hg ha;refine ⟨t,b,⟨N0+N1+N2+100,fun n hn=>?_⟩,AfD tt up⟩;obtain ⟨n,rfl⟩:∃k,n=k+1:=⟨n - 1,by omega⟩;have h0:=h0 n (by omega);have h1:=h1 n (by omega);have h2:=h2 n (by omega);have hw:=Au (n:=n) (by omega) r.op (m:=3) (by omega) (by omega);have hw7:=Au (n:=n) (by omega) r.op (m:=7) (by omega) (by omega);rw [ca.2] at hw7;have hd0:(0:Int)<(e:Int) - 5:=by omega
  rw [c39];clear up hfn hG hO hA hP hg ha0 ha tv tt;generalize r.op % 3=w3 at hw hv;obtain ⟨o0,x0,k0⟩:=a0;obtain ⟨o1,x1,k1⟩:=a;obtain ⟨o2,x2,k2⟩:=r;obtain ⟨o3,x3,k3⟩:=v;obtain ⟨o4,x4,k4⟩:=t;simp only [Tm.n,Tm.op] at h1 hw hw7;simp only [Be,An] at h0 h1 h2 ⊢;cases is<;>(simp (maxSteps:=1000000) only [↓J6,↓XX,XY,↓reduceIte,Nat.reduceBEq,Nat.reduceAdd,Int.reduceEq,Int.reduceLT,Int.reduceLE,↓Av h0,↓AK h1,↓Aj hw,↓Aj hw7,hv,hd4,hd0,↓AK h2];first | exact Ao _ _ | exact AR rfl (by simp) _)
 have hna:(0:Int)<(e:Int) - 5→¬ r.op % 7=6:=by omega
 by_cases hpl:a.op=10∨a.op=14∨a.op=2
 ·obtain ⟨t,b,⟨N2,h2⟩,tt⟩:=hP g a r hg ha hpl;refine ⟨t,b,⟨N0+N1+N2+100,fun n hn=>?_⟩,AfD tt up⟩
  ·obtain ⟨n,rfl⟩:∃k,n=k+1:=⟨n - 1,by omega⟩;have h0:=h0 n (by omega);have h1:=h1 n (by omega);have h2:=h2 n (by omega);have hw:=Au (n:=n) (by omega) r.op (m:=3) (by omega) (by omega);have hw7:=Au (n:=n) (by omega) r.op (m:=7) (by omega) (by omega);rw [c39];clear up hfn hG hO hA hP hg ha0 ha tv tt;generalize r.op % 3=w3 at hw hv;generalize r.op % 7=w7 at hw7 hna;obtain ⟨o0,x0,k0⟩:=a0;obtain ⟨o1,x1,k1⟩:=a;obtain ⟨o2,x2,k2⟩:=r;obtain ⟨o3,x3,k3⟩:=v;obtain ⟨o4,x4,k4⟩:=t;simp only [Tm.n,Tm.op] at h1 hw hw7 hpl;simp only [Be,An] at h0 h1 h2 ⊢;rcases hpl with rfl | rfl | rfl
   ·cases is<;>by_cases hd0:(0:Int)<(e:Int) - 5<;>(simp (maxSteps:=1000000) only [↓J6,↓XX,XY,↓reduceIte,Nat.reduceBEq,Nat.reduceAdd,Int.reduceEq,Int.reduceLT,Int.reduceLE,↓Av h0,↓AK h1,↓Aj hw,↓Aj hw7,hv,hd4,hd0,hna,↓AK h2];first | exact Ao _ _ | exact AR rfl (by simp) _)
   ·cases is<;>by_cases hd0:(0:Int)<(e:Int) - 5<;>(simp (maxSteps:=1000000) only [↓J6,↓XX,XY,↓reduceIte,Nat.reduceBEq,Nat.reduceAdd,Int.reduceEq,Int.reduceLT,Int.reduceLE,↓Av h0,↓AK h1,↓Aj hw,↓Aj hw7,hv,hd4,hd0,hna,↓AK h2];first | exact Ao _ _ | exact AR rfl (by simp) _)
   ·cases is<;>by_cases hd0:(0:Int)<(e:Int) - 5<;>(simp (maxSteps:=1000000) only [↓J6,↓XX,XY,↓reduceIte,Nat.reduceBEq,Nat.reduceAdd,Int.reduceEq,Int.reduceLT,Int.reduceLE,↓Av h0,↓AK h1,↓Aj hw,↓Aj hw7,hv,hd4,hd0,hna,↓AK h2];first | exact Ao _ _ | exact AR rfl (by simp) _)
 by_cases o3:a.op=3
 ·obtain ⟨d,c,hl⟩:=Xk (GD ha (show ar a.op=some 2 by rw [o3];decide))
  have hd:NOk g.length d∧NOk (g.length+1) c:=by
   obtain ⟨o1,x1,k1⟩:=a;simp only [Tm.op,Tm.kids] at o3 hl;subst o3 hl;have hsc:=ha.sc;rw [Tm.sc] at hsc;rw [NK] at aw;rw [OZ] at ad;exact ⟨⟨hsc.2.2.1,by omega,by omega⟩,⟨hsc.2.2.2.1,by omega,by omega⟩⟩
  obtain ⟨hd,hc⟩:=hd;have hgd:GOk (e - 1) (g++[(1,d)]):=CN (by rw [show e - 1+1=e by omega];exact hg) hd.sc (by have:=hd.wt;omega) (by have:=hd.dp;omega)
  obtain ⟨x,p,⟨N2,h2⟩,tx⟩:=hG (g++[(1,d)]) c (r.pick 0) hgd (by simpa using Bx hc);have xs:x.sc (g.length+1):=by simpa using tx.sc
  refine ⟨.mk 4 0 [d,x],p,⟨N0+N1+N2+100000,fun n hn=>?_⟩,Cw (by decide) (by decide) (B3 (by decide) (by decide) (by decide)) hd.sc xs,by have:=tx.wt;have:=hd.wt;rw [NK];omega,by have:=tx.dp;have:=hd.dp;rw [OZ];omega,fun hb=>up (by
   obtain ⟨oa,xa,ka⟩:=a;simp only [Tm.op,Tm.kids] at o3 hl;subst o3 hl;exact .lam e g _ d c x (tx.gr hb))⟩
  ·obtain ⟨n,rfl⟩:∃k,n=k+1:=⟨n - 1,by omega⟩;have h0:=h0 n (by omega);have h1:=h1 n (by omega);have h2:=h2 n (by omega);rw [← we] at h2;have hw:=Au (n:=n) (by omega) r.op (m:=3) (by omega) (by omega);have hw7:=Au (n:=n) (by omega) r.op (m:=7) (by omega) (by omega);have p0:=AM (n:=n) (by omega) r 0;have hm:=DG (n:=n) g 1 d (by omega) (by omega);have t4:=C4 (n:=n) (by omega) 4 [d,x];rw [c39];clear up hfn hG hO hA hP hg ha0 ha tv tx hd hc hgd xs hpl;generalize r.op % 3=w3 at hw hv;generalize r.op % 7=w7 at hw7 hna;generalize r.pick 0=r0 at p0 h2;obtain ⟨o0,x0,k0⟩:=a0;obtain ⟨o1,x1,k1⟩:=a;simp only [Tm.op,Tm.kids] at o3 hl;subst o3 hl;obtain ⟨o2,x2,k2⟩:=r;obtain ⟨o3,x3,k3⟩:=v;obtain ⟨o4,x4,k4⟩:=x;obtain ⟨o5,x5,k5⟩:=d;obtain ⟨o6,x6,k6⟩:=c;obtain ⟨o8,x8,k8⟩:=r0;simp only [Tm.n,Tm.op] at h1 hw hw7;simp only [Be,An,Axg,Axf] at h0 h1 h2 p0 hm t4 ⊢;cases is<;>by_cases hd0:(0:Int)<(e:Int) - 5<;>(simp (maxSteps:=1000000) only [↓J6,↓XX,XY,↓reduceIte,Nat.reduceBEq,Nat.reduceAdd,Int.reduceEq,Int.reduceLT,Int.reduceLE,↓Av h0,↓AK h1,↓Aj hw,↓Aj hw7,hv,hd4,hd0,hna,↓He,↓HE,↓Aj p0,↓AZ hm,↓AK h2,↓D4,↓Aj t4];first | exact Ao _ _ | exact AR rfl (by simp) _)
 by_cases o6:a.op=6
 ·obtain ⟨d,c,hl⟩:=Xk (GD ha (show ar a.op=some 2 by rw [o6];decide))
  have hd:NOk g.length d∧NOk (g.length+1) c:=by
   obtain ⟨o1,x1,k1⟩:=a;simp only [Tm.op,Tm.kids] at o6 hl;subst o6 hl;have hsc:=ha.sc;rw [Tm.sc] at hsc;rw [NK] at aw;rw [OZ] at ad;exact ⟨⟨hsc.2.2.1,by omega,by omega⟩,⟨hsc.2.2.2.1,by omega,by omega⟩⟩
  obtain ⟨hd,hc⟩:=hd;obtain ⟨x,p,⟨N2,h2⟩,tx⟩:=hG g d (r.pick 0) (AU (by omega) hg) (Bx hd);cases p
  ·refine ⟨v,is,⟨N0+N1+N2+100,fun n hn=>?_⟩,tv⟩;obtain ⟨n,rfl⟩:∃k,n=k+1:=⟨n - 1,by omega⟩;have h0:=h0 n (by omega);have h1:=h1 n (by omega);have h2:=h2 n (by omega);rw [← we] at h2;have hw:=Au (n:=n) (by omega) r.op (m:=3) (by omega) (by omega);have hw7:=Au (n:=n) (by omega) r.op (m:=7) (by omega) (by omega);have p0:=AM (n:=n) (by omega) r 0;rw [c39];clear up hfn hG hO hA hP hg ha0 ha tv tx hd hc hpl;generalize r.op % 3=w3 at hw hv;generalize r.op % 7=w7 at hw7 hna;generalize r.pick 0=r0 at p0 h2;obtain ⟨o0,x0,k0⟩:=a0;obtain ⟨o1,x1,k1⟩:=a;simp only [Tm.op,Tm.kids] at o6 hl;subst o6 hl;obtain ⟨o2,x2,k2⟩:=r;obtain ⟨o3,x3,k3⟩:=v;obtain ⟨o4,x4,k4⟩:=x;obtain ⟨o5,x5,k5⟩:=d;obtain ⟨o6,x6,k6⟩:=c;obtain ⟨o8,x8,k8⟩:=r0;simp only [Tm.n,Tm.op] at h1 hw hw7;simp only [Be,An,Axg,Axf] at h0 h1 h2 p0 ⊢;cases is<;>by_cases hd0:(0:Int)<(e:Int) - 5<;>(simp (maxSteps:=1000000) only [↓J6,↓XX,XY,↓reduceIte,Nat.reduceBEq,Nat.reduceAdd,Int.reduceEq,Int.reduceLT,Int.reduceLE,↓Av h0,↓AK h1,↓Aj hw,↓Aj hw7,hv,hd4,hd0,hna,↓He,↓HE,↓Aj p0,↓AK h2];first | exact Ao _ _ | exact AR rfl (by simp) _)
  ·have hss:AOk g.length (c.subst 0 0 x):=by
    have xw:=tx.wt;have xd:=tx.dp;have cw:=hc.wt;have cd:=hc.dp;have h1:=NZ c x 0 0;have h2:=S8 c x 0 0;have h3:c.wt * x.wt≤3000 * 21000000000:=Nat.mul_le_mul cw (by omega);exact ⟨Np c x 0 g.length hc.sc tx.sc (by omega),by omega,by omega⟩
   obtain ⟨y,q,⟨N3,h3⟩,ty⟩:=hG g (c.subst 0 0 x) (r.pick 1) (AU (by omega) hg) hss;refine ⟨.mk 7 0 [a,x,y],q,⟨N0+N1+N2+N3+1000000000000,fun n hn=>?_⟩,VE (by decide) (by decide) (B3 (by decide) (by decide) (by decide)) ha.sc tx.sc ty.sc,by have:=tx.wt;have:=ty.wt;rw [wt3];omega,by have:=tx.dp;have:=ty.dp;rw [dp3];omega,fun hb=>up (by
   obtain ⟨oa,xa,ka⟩:=a;simp only [Tm.op,Tm.kids] at o6 hl;subst o6 hl;exact .pair e g _ d c x y (AfP tx (by omega)) (tx.gr rfl) (ty.gr hb))⟩
   obtain ⟨n,rfl⟩:∃k,n=k+1:=⟨n - 1,by omega⟩;have h0:=h0 n (by omega);have h1:=h1 n (by omega);have h2:=h2 n (by omega);have h3:=h3 n (by omega);rw [← we] at h2 h3;have hw:=Au (n:=n) (by omega) r.op (m:=3) (by omega) (by omega);have hw7:=Au (n:=n) (by omega) r.op (m:=7) (by omega) (by omega);have p0:=AM (n:=n) (by omega) r 0;have p1:=AM (n:=n) (by omega) r 1;have hsb:=Tl (n:=n) c x 0 (GI _ _ tx.sc) (by have:=tx.wt;omega) (by have:=tx.wt;have:=hc.wt;omega) (GI _ _ hc.sc) (by have:=hc.wt;omega) (by omega) (by have:=hc.wt;omega);have t7:=C4 (n:=n) (by omega) 7 [a,x,y];rw [c39];clear up hfn hG hO hA hP hg ha0 ha tv tx ty hd hc hpl hss;generalize r.op % 3=w3 at hw hv;generalize r.op % 7=w7 at hw7 hna;generalize c.subst 0 0 x=sb at hsb h3;generalize r.pick 0=r0 at p0 h2;generalize r.pick 1=r1 at p1 h3;obtain ⟨o0,x0,k0⟩:=a0;obtain ⟨o1,x1,k1⟩:=a;simp only [Tm.op,Tm.kids] at o6 hl;subst o6 hl;obtain ⟨o2,x2,k2⟩:=r;obtain ⟨o3,x3,k3⟩:=v;obtain ⟨o4,x4,k4⟩:=x;obtain ⟨o5,x5,k5⟩:=d;obtain ⟨o6,x6,k6⟩:=c;obtain ⟨o7,x7,k7⟩:=y;obtain ⟨o8,x8,k8⟩:=r0;obtain ⟨o9,x9,k9⟩:=r1;obtain ⟨oa,xa,ka⟩:=sb;simp only [Tm.n,Tm.op] at h1 hw hw7;simp only [Be,An,Axg,Axf] at h0 h1 h2 h3 p0 p1 hsb t7 ⊢;cases is<;>by_cases hd0:(0:Int)<(e:Int) - 5<;>(simp (maxSteps:=1000000) only [↓J6,↓XX,XY,↓reduceIte,Nat.reduceBEq,Nat.reduceAdd,Int.reduceEq,Int.reduceLT,Int.reduceLE,↓Av h0,↓AK h1,↓Aj hw,↓Aj hw7,hv,hd4,hd0,hna,↓He,↓HE,↓Aj p0,↓Aj p1,↓AK h2,↓AZ hsb,↓AK h3,↓Ks,↓Aj t7];first | exact Ao _ _ | exact AR rfl (by simp) _)
 by_cases o18:a.op=18
 ·obtain ⟨d,hl⟩:=ArP (GD ha (show ar a.op=some 1 by rw [o18];decide))
  have hd:NOk g.length d:=by
   obtain ⟨o1,x1,k1⟩:=a;simp only [Tm.op,Tm.kids] at o18 hl;subst o18 hl;have hsc:=ha.sc;rw [Tm.sc] at hsc;rw [wt1] at aw;rw [dp1] at ad;exact ⟨hsc.2.2.1,by omega,by omega⟩
  obtain ⟨x,p,⟨N2,h2⟩,tx⟩:=hO g d (r.pick 0) (AU (by omega) hg) (Bx hd);refine ⟨.mk 19 0 [x],p,⟨N0+N1+N2+100,fun n hn=>?_⟩,Gt (by decide) (by decide) (B3 (by decide) (by decide) (by decide)) tx.sc,by have:=tx.wt;rw [wt1];omega,by have:=tx.dp;rw [dp1];omega,fun hb=>up (by
   obtain ⟨oa,xa,ka⟩:=a;simp only [Tm.op,Tm.kids] at o18 hl;subst o18 hl;exact .quo e g _ d x (tx.gr hb))⟩
  ·obtain ⟨n,rfl⟩:∃k,n=k+1:=⟨n - 1,by omega⟩;have h0:=h0 n (by omega);have h1:=h1 n (by omega);have h2:=h2 n (by omega);rw [← we] at h2;have hw:=Au (n:=n) (by omega) r.op (m:=3) (by omega) (by omega);have hw7:=Au (n:=n) (by omega) r.op (m:=7) (by omega) (by omega);have p0:=AM (n:=n) (by omega) r 0;have t19:=C4 (n:=n) (by omega) 19 [x];rw [c39];clear up hfn hG hO hA hP hg ha0 ha tv tx hd hpl;generalize r.op % 3=w3 at hw hv;generalize r.op % 7=w7 at hw7 hna;generalize r.pick 0=r0 at p0 h2;obtain ⟨o0,x0,k0⟩:=a0;obtain ⟨o1,x1,k1⟩:=a;simp only [Tm.op,Tm.kids] at o18 hl;subst o18 hl;obtain ⟨o2,x2,k2⟩:=r;obtain ⟨o3,x3,k3⟩:=v;obtain ⟨o4,x4,k4⟩:=x;obtain ⟨o5,x5,k5⟩:=d;obtain ⟨o8,x8,k8⟩:=r0;simp only [Tm.n,Tm.op] at h1 hw hw7;simp only [Be,An,Axg,Axf] at h0 h1 h2 p0 t19 ⊢;cases is<;>by_cases hd0:(0:Int)<(e:Int) - 5<;>(simp (maxSteps:=1000000) only [↓J6,↓XX,XY,↓reduceIte,Nat.reduceBEq,Nat.reduceAdd,Int.reduceEq,Int.reduceLT,Int.reduceLE,↓Av h0,↓AK h1,↓Aj hw,↓Aj hw7,hv,hd4,hd0,hna,↓He,↓Aj p0,↓AK h2,↓D1,↓Aj t19];first | exact Ao _ _ | exact AR rfl (by simp) _)
 have q1:a.op≠10:=fun h=>hpl (.inl h);have q2:a.op≠14:=fun h=>hpl (.inr (.inl h));have q3:a.op≠2:=fun h=>hpl (.inr (.inr h));refine ⟨v,is,⟨N0+N1+100,fun n hn=>?_⟩,tv⟩
 ·obtain ⟨n,rfl⟩:∃k,n=k+1:=⟨n - 1,by omega⟩;have h0:=h0 n (by omega);have h1:=h1 n (by omega);have hw:=Au (n:=n) (by omega) r.op (m:=3) (by omega) (by omega);have hw7:=Au (n:=n) (by omega) r.op (m:=7) (by omega) (by omega);rw [c39];clear up hfn hG hO hA hP hg ha0 ha tv hpl;generalize r.op % 3=w3 at hw hv;generalize r.op % 7=w7 at hw7 hna;obtain ⟨o0,x0,k0⟩:=a0;obtain ⟨o1,x1,k1⟩:=a;obtain ⟨o2,x2,k2⟩:=r;obtain ⟨o4,x3,k3⟩:=v;simp only [Tm.n,Tm.op] at h1 hw hw7 o3 o6 o18 q1 q2 q3;simp only [Be,An] at h0 h1 ⊢;cases is<;>by_cases hd0:(0:Int)<(e:Int) - 5<;>(simp (maxSteps:=1000000) only [↓J6,↓XX,XY,↓reduceIte,Nat.reduceBEq,Nat.reduceAdd,Int.reduceEq,Int.reduceLT,Int.reduceLE,↓Av h0,↓AK h1,↓Aj hw,↓Aj hw7,hv,hd4,hd0,hna,o3,o6,o18,q1,q2,q3];first | exact Ao _ _ | exact AR rfl (by simp) _)
theorem Oz:∀e,e≤10→LY e∧D5 39 1 e∧D5 33 2 e:=by
 intro e
 induction e using Nat.strongRecOn with
 | _ e ih =>
  intro he;have hp:1≤e→LY (e - 1)∧D5 39 1 (e - 1)∧D5 33 2 (e - 1):=fun h=>ih (e - 1) (by omega) (by omega);have hp2:2≤e→LY (e - 2)∧D5 39 1 (e - 2)∧D5 33 2 (e - 2):=fun h=>ih (e - 2) (by omega) (by omega);have hT:LY e:=AiT he (fun h=>(hp (by omega)).1) (fun h=>(hp (by omega)).2.1);have hT6:6≤e→LY 6:=fun h=>by
   by_cases h6:e=6
   ·exact h6 ▸ hT
   ·exact (ih 6 (by omega) (by omega)).1
  have hR:6≤e→Pm 65 3 e:=fun h=>AgD h he (hT6 h) (hp2 (by omega)).2.1;have hP:1≤e→Agq 66 3 e:=fun h=>AeQ h he (hp h).2.1 (fun h6=>(hp2 (by omega)).2.1);have hA:6≤e→Pm 59 4 e:=fun h=>Ado h he (hp2 (by omega)).2.2 (hp (by omega)).2.1;have hO:D5 33 2 e:=Ac1 he (fun h=>(hp h).2.2) hA;exact ⟨hT,AhH he (fun h=>(hp h).2.1) (fun h=>(hp h).2.2) hR hP,hO⟩
def Agb (T1 T2:Cd→Tm→Tm) (B1:Cd→Tm→Bool) (g:Cd) (r:Tm):Cd:=if r.n % 3=0 then (if B1 g r then g++[(0,T1 g r)] else g) else g++[(1,T2 g r)]
def BZ (f:Cd→Tm→Cd) (l:List Tm):Nat→Cd
 | 0=>[]
 | i+1=>match l[i]? with
  | some r=>f (BZ f l i) r
  | none=>BZ f l i
def gV:Cd→IV
 | []=>.nils
 | p::g=>.fv (Be (p::g))
theorem AmD {g:Cd} (h:g≠[]):gV g=.fv (Be g):=by
 cases g with
 | nil=>exact absurd rfl h
 | cons p g=>rfl
theorem Aqm (g:Cd):gV g=.nils∨∃x,gV g=.fv x:=by
 cases g with
 | nil=>exact .inl rfl
 | cons p g=>exact .inr ⟨_,rfl⟩
theorem ApO (g:Cd) (own:List (Nat×Blk)):BE (Al [gV g] ⟨own,[]⟩) (Be g):=by
 cases g with
 | nil=>exact Ba rfl _
 | cons p g=>exact Ao _ _
theorem AqG (g:Cd):A6 (gV g)=some (Be g):=by
 cases g with
 | nil=>rfl
 | cons p g=>rfl
set_option maxRecDepth 20000 in
set_option maxHeartbeats 4000000 in
theorem VM (l:List Tm) (hll:l.length≤9223372036854775807):∃g,Ev 37 [.fv (.sl (l.map Tm.enc))] (Be g)∧GOk 10 g∧g.length≤4∧CtxG g∧(l=[]→g=[]):=by
 have hc:∀p:Cd×Tm,∃(t1 t2:Tm) (b1:Bool),GOk 10 p.1→Ev 39 [.fv (Be p.1),.fv (Tm.mk 14 0 []).enc,.fv p.2.enc,iv 2] (.tuple [Tm.enc t1,.bool b1])∧TG 1 7 p.1 (.mk 14 0 []) t1 b1∧Ev 38 [.fv (Be p.1),.fv p.2.enc,iv 2] (Tm.enc t2)∧TyOk p.1 7 t2:=by
  rintro ⟨g,r⟩;by_cases hg:GOk 10 g
  ·obtain ⟨hT,hG,_⟩:=Oz 7 (by omega);obtain ⟨t1,b1,h1,h2⟩:=hG g (.mk 14 0 []) r (AU (by omega) hg) ⟨DR (by decide) (by decide) (B3 (by decide) (by decide) (by decide)),by simp [Tm.wt,Tm.wtL],by simp [Tm.dp,Tm.dpL]⟩;obtain ⟨t2,h3,h4⟩:=hT g r (AU (by omega) hg);exact ⟨t1,t2,b1,fun _=>⟨h1,h2,h3,h4⟩⟩
  ·exact ⟨.z,.z,false,fun h=>absurd h hg⟩
 obtain ⟨T1,hc⟩:=Classical.axiomOfChoice hc;obtain ⟨T2,hc⟩:=Classical.axiomOfChoice hc;obtain ⟨B1,hc⟩:=Classical.axiomOfChoice hc;obtain ⟨f,hf⟩:∃f,f=Agb (fun g r=>T1 (g,r)) (fun g r=>T2 (g,r)) (fun g r=>B1 (g,r)):=⟨_,rfl⟩;have hD7:Dg 7=270:=rfl;have hD6:Dg 6=260:=rfl;have hW7:Wg 7=131072000:=rfl;have hW6:Wg 6=32768000:=rfl;have hstep:∀i,i≤4→GOk 10 (BZ f l i)∧(BZ f l i).length≤i∧CtxG (BZ f l i):=by
  intro i
  induction i with
  | zero=>intro _;exact ⟨⟨by simp [BZ],fun i p h=>by simp [BZ] at h⟩,by simp [BZ],.nil⟩
  | succ i ih =>
   intro h;obtain ⟨h1,h2,hcg⟩:=ih (by omega);rw [BZ];cases hr:l[i]? with
   | none=>simp only;exact ⟨h1,by omega,hcg⟩
   | some r =>
    simp only;generalize BZ f l i=g at h1 h2 hcg;obtain ⟨_,h4,_,h6⟩:=hc (g,r) h1;simp only at h4 h6;have h4s:=h4.sc;have h4w:=h4.wt;have h4d:=h4.dp;have h6s:=h6.sc;have h6w:=h6.wt;have h6d:=h6.dp;rw [show 7 - 1=6 from rfl] at h6w h6d
    have big:∀(s:Int) (t:Tm),t.sc g.length→t.wt≤100000000000→t.dp≤6000→GOk 10 (g++[(s,t)]):=by
     intro s t q1 q2 q3;have h11:GOk 11 g:=⟨by omega,h1.ok⟩;exact CN h11 q1 q2 q3
    rw [hf,Agb];split
    ·split
     ·rename_i hb;exact ⟨big _ _ h4s (by omega) (by omega),by simp;omega,.ob g _ hcg (h4.gr hb)⟩
     ·exact ⟨h1,by omega,hcg⟩
    ·exact ⟨big _ _ h6s (by omega) (by omega),by simp;omega,.me g _ hcg ⟨h6s,by omega,by omega⟩ (by omega) h6.gr⟩
 obtain ⟨m,hm⟩:∃m,m=min l.length 4:=⟨_,rfl⟩;obtain ⟨N,hN⟩:=AgK (P:=fun i n=>∀r,l[i]?=some r→BE (SS dt n 39 [.fv (Be (BZ f l i)),.fv (Tm.mk 14 0 []).enc,.fv r.enc,iv 2] ⟨[],[]⟩) (.tuple [Tm.enc (T1 (BZ f l i,r)),.bool (B1 (BZ f l i,r))])∧BE (SS dt n 38 [.fv (Be (BZ f l i)),.fv r.enc,iv 2] ⟨[],[]⟩) (Tm.enc (T2 (BZ f l i,r)))) m (fun i hi=>by
  have hil:i<l.length:=by omega
  obtain ⟨⟨N1,h1⟩,_,⟨N2,h2⟩,_⟩:=hc (BZ f l i,l[i]) (hstep i (by omega)).1;refine ⟨N1+N2,fun n hn r hr=>?_⟩;rw [List.getElem?_eq_getElem hil,Axa] at hr;subst hr;exact ⟨h1 n (by omega),h2 n (by omega)⟩)
 have hm4:=hstep m (by omega);refine ⟨BZ f l m,⟨N+100,fun n hn=>?_⟩,hm4.1,by omega,hm4.2.2,fun h=>by subst h;rw [hm];rfl⟩;obtain ⟨n,rfl⟩:∃k,n=k+1:=⟨n - 1,by omega⟩;rw [c37];simp only [UL,VJ,Vc,US,VZ,Vb,V1,Vx,UY,S37,↓XX,XY,↓reduceIte,Nat.reduceBEq,Nat.reduceAdd,Int.reduceEq,Int.reduceLT,Int.reduceLE,↓AJ,XD,heldB,AL,XE];refine Bb (Q:=fun r=>BE r _) (fun k V H=>∃i:Nat,i+k=m∧V=[.fv (.sl (l.map Tm.enc)),gV (BZ f l i),iv i]∧H=⟨[],[]⟩)
  ?_ n m _ _ (by omega) ⟨0,by omega,rfl,rfl⟩
 rintro k V H rec ⟨i,hik,rfl,rfl⟩ hrec;have hi4:=hstep i (by omega);cases k with
 | zero =>
  have him:i=m:=by omega
  subst him;have ha:=fun own=>ApO (BZ f l i) own;generalize gV (BZ f l i)=gv at ha;by_cases h1:(i:Int)<l.length
  ·have h4:¬ ((i:Int)<4):=by omega
   simp only [↓SL,↓XX,XY,↓reduceIte,Nat.reduceBEq,Nat.reduceAdd,Int.reduceEq,Int.reduceLT,Int.reduceLE,h1,h4];exact ha _
  ·simp only [↓SL,↓XX,XY,↓reduceIte,Nat.reduceBEq,Nat.reduceAdd,Int.reduceEq,Int.reduceLT,Int.reduceLE,h1];exact ha _
 | succ k =>
  have hil:i<l.length:=by omega
  have h1:(i:Int)<l.length:=by omega
  have h4:(i:Int)<4:=by omega
  have wi:BA ((i:Int)+1)=(i:Int)+1:=by rw [Ax]<;>omega
  obtain ⟨r,hr⟩:∃r,l[i]?=some r:=⟨_,List.getElem?_eq_getElem hil⟩;obtain ⟨g1,g2⟩:=hN i (by omega) n (by omega) r hr;have hw:=Au (n:=n) (by omega) r.n (m:=3) (by omega) (by omega);have t14:=D3 (n:=n) (by omega) 14;have h9:=hrec k [.fv (.sl (l.map Tm.enc)),gV (BZ f l (i+1)),iv (i+1:Nat)] ⟨[],[]⟩ (by omega) ⟨i+1,by omega,rfl,rfl⟩;have hi1:((i+1:Nat):Int)=(i:Int)+1:=by omega
  rw [hi1,BZ,hr] at h9;simp only [hf,Agb] at h9;rw [← hf] at h9;have hfz:=AqG (BZ f l i);have htw:=Aqm (BZ f l i);have m1:=DG (n:=n) (BZ f l i) 0 (T1 (BZ f l i,r)) (by omega) (by omega);have m2:=DG (n:=n) (BZ f l i) 1 (T2 (BZ f l i,r)) (by omega) (by omega);have n1:=AmD (g:=BZ f l i++[((0:Int),T1 (BZ f l i,r))]) (by simp);have n2:=AmD (g:=BZ f l i++[((1:Int),T2 (BZ f l i,r))]) (by simp);generalize Be (BZ f l i++[((0:Int),T1 (BZ f l i,r))])=e1 at m1 n1;generalize Be (BZ f l i++[((1:Int),T2 (BZ f l i,r))])=e2 at m2 n2;clear hc hstep hN hi4 hm4;by_cases c0:r.n % 3=0
  ·rw [if_pos c0] at h9;rw [c0] at hw;cases hb:B1 (BZ f l i,r)
   ·rw [hb] at g1 h9;simp only [Bool.false_eq_true,if_false] at h9;generalize T1 (BZ f l i,r)=t1 at g1;generalize gV (BZ f l i)=gv at hfz h9 htw;generalize Be (BZ f l i)=ge at hfz g1;obtain ⟨o,p,ks⟩:=r;obtain ⟨o1,p1,k1⟩:=t1;simp only [Tm.n] at hw;simp only [An,Axf] at g1 t14;have g1:=AK (a:=gv) (b:=.fv (.agg [.int .i64 14,.int .i64 0,.sl []])) (c:=.fv (.agg [.int .i64 o,.int .i64 p,.sl (ks.map Tm.enc)])) (d:=iv 2) g1 hfz rfl rfl rfl;rcases htw with rfl | ⟨x0,rfl⟩
    ·simp (maxSteps:=1000000) only [↓SL,↓XX,XY,↓reduceIte,Nat.reduceBEq,Nat.reduceAdd,Int.reduceEq,Int.reduceLT,Int.reduceLE,h1,h4,wi,↓Bz (AQ hr) (Bg _ _ _),↓Cb,↓Aj hw,↓Aj t14,↓g1,↓AJ,XD,heldB,AL,XE];exact h9
    ·simp (maxSteps:=1000000) only [↓SL,↓XX,XY,↓reduceIte,Nat.reduceBEq,Nat.reduceAdd,Int.reduceEq,Int.reduceLT,Int.reduceLE,h1,h4,wi,↓Bz (AQ hr) (Bg _ _ _),↓Cb,↓Aj hw,↓Aj t14,↓g1,↓AJ,XD,heldB,AL,XE];exact h9
   ·rw [hb] at g1 h9;simp only [if_true] at h9;rw [n1] at h9;generalize T1 (BZ f l i,r)=t1 at g1 m1;generalize gV (BZ f l i)=gv at hfz htw;generalize Be (BZ f l i)=ge at hfz g1 m1;obtain ⟨o,p,ks⟩:=r;obtain ⟨o1,p1,k1⟩:=t1;simp only [Tm.n] at hw;simp only [An,Axf] at g1 t14 m1;have g1:=AK (a:=gv) (b:=.fv (.agg [.int .i64 14,.int .i64 0,.sl []])) (c:=.fv (.agg [.int .i64 o,.int .i64 p,.sl (ks.map Tm.enc)])) (d:=iv 2) g1 hfz rfl rfl rfl;have m1:=AZ (a:=gv) (b:=iv 0) (c:=.fv (.agg [.int .i64 o1,.int .i64 p1,.sl (k1.map Tm.enc)])) m1 hfz rfl rfl;rcases htw with rfl | ⟨x0,rfl⟩
    ·simp (maxSteps:=1000000) only [↓SL,↓XX,XY,↓reduceIte,Nat.reduceBEq,Nat.reduceAdd,Int.reduceEq,Int.reduceLT,Int.reduceLE,h1,h4,wi,↓Bz (AQ hr) (Bg _ _ _),↓Cb,↓Aj hw,↓Aj t14,↓g1,↓m1,↓AJ,XD,heldB,AL,XE];exact h9
    ·simp (maxSteps:=1000000) only [↓SL,↓XX,XY,↓reduceIte,Nat.reduceBEq,Nat.reduceAdd,Int.reduceEq,Int.reduceLT,Int.reduceLE,h1,h4,wi,↓Bz (AQ hr) (Bg _ _ _),↓Cb,↓Aj hw,↓Aj t14,↓g1,↓m1,↓AJ,XD,heldB,AL,XE];exact h9
  ·rw [if_neg c0,n2] at h9;generalize T2 (BZ f l i,r)=t2 at g2 m2;generalize gV (BZ f l i)=gv at hfz htw;generalize Be (BZ f l i)=ge at hfz g2 m2;obtain ⟨o,p,ks⟩:=r;obtain ⟨o1,p1,k1⟩:=t2;simp only [Tm.n] at hw c0;generalize p % 3=w3 at hw c0;simp only [An,Axf] at g2 m2;have g2:=AZ (a:=gv) (b:=.fv (.agg [.int .i64 o,.int .i64 p,.sl (ks.map Tm.enc)])) (c:=iv 2) g2 hfz rfl rfl;have m2:=AZ (a:=gv) (b:=iv 1) (c:=.fv (.agg [.int .i64 o1,.int .i64 p1,.sl (k1.map Tm.enc)])) m2 hfz rfl rfl;rcases htw with rfl | ⟨x0,rfl⟩
   ·simp (maxSteps:=1000000) only [↓SL,↓XX,XY,↓reduceIte,Nat.reduceBEq,Nat.reduceAdd,Int.reduceEq,Int.reduceLT,Int.reduceLE,h1,h4,wi,c0,↓Bz (AQ hr) (Bg _ _ _),↓Cb,↓Aj hw,↓g2,↓m2,↓AJ,XD,heldB,AL,XE];exact h9
   ·simp (maxSteps:=1000000) only [↓SL,↓XX,XY,↓reduceIte,Nat.reduceBEq,Nat.reduceAdd,Int.reduceEq,Int.reduceLT,Int.reduceLE,h1,h4,wi,c0,↓Bz (AQ hr) (Bg _ _ _),↓Cb,↓Aj hw,↓g2,↓m2,↓AJ,XD,heldB,AL,XE];exact h9
structure CaseOk (g:Cd) (a t:Tm) (is object:Bool):Prop where
 gok:GOk 10 g
 len:g.length≤4
 asc:a.sc g.length
 awt:a.wt≤32768010
 adp:a.dp≤300
 tsc:t.sc g.length
 tdp:t.dp≤300
 chk:is=true→(t.chk 0 1).2=0
 cg:CtxG g
 ga:object=false→Gr 0 7 g .z a
 gt:is=true→Gr (if object then 2 else 1) 10 g a t
set_option maxRecDepth 20000 in
set_option maxHeartbeats 4000000 in
theorem Alc (l:List Tm) (hll:l.length≤9223372036854775807) (r q:Tm) (object:Bool):∃g a t is,Ev 13 [.fv (.sl (l.map Tm.enc)),.fv r.enc,.fv q.enc,.fv (.bool object)] (.tuple [Be g,a.enc,t.enc,.bool is])∧CaseOk g a t is object∧(object=true→a=q.plainT 2)∧(l=[]→g=[]):=by
 obtain ⟨g,⟨N0,h0⟩,hg,hg4,hcg,hnil⟩:=VM l hll;have hW6:Wg 6=32768000:=rfl;have hD6:Dg 6=260:=rfl;have hW10:Wg 10=8388608000:=rfl;have hD10:Dg 10=300:=rfl;obtain ⟨_,hG,hO⟩:=Oz 10 (by omega);cases object
 ·obtain ⟨hT,_,_⟩:=Oz 7 (by omega);obtain ⟨a,⟨N1,h1⟩,ta⟩:=hT g q (AU (by omega) hg);have aw:=ta.wt;have ad:=ta.dp;have asc:=ta.sc;rw [show 7 - 1=6 from rfl] at aw ad
  obtain ⟨t,b,⟨N2,h2⟩,tt⟩:=hG g a r hg ⟨asc,by omega,by omega⟩;have tw:=tt.wt;have ts:=tt.sc;have body:∀(t':Tm) (is:Bool),(is=true∧t'=t∧b=true∧(t.chk 0 1).2=0∨is=false∧t'=A8∧(b=false∨b=true∧(t.chk 0 1).2≠0))→Ev 13 [.fv (.sl (l.map Tm.enc)),.fv r.enc,.fv q.enc,.fv (.bool false)] (.tuple [Be g,a.enc,t'.enc,.bool is]):=by
   intro t' is hd;refine ⟨N0+N1+N2+100000000000+1,fun n hn=>?_⟩;obtain ⟨n,rfl⟩:∃k,n=k+1:=⟨n - 1,by omega⟩;have h0:=h0 n (by omega);have h1:=h1 n (by omega);have h2:=h2 n (by omega);have hk:=Ug (n:=n) t (by omega);have t11:=D3 (n:=n) (by omega) 11;rw [c13];clear ta tt;generalize (t.chk 0 1).2=ck at hk hd;rw [show ((10:Nat):Int) - 5=5 from rfl] at h2
   rw [show ((7:Nat):Int) - 5=2 from rfl] at h1
   generalize Be g=ge at *;generalize (FV.sl (l.map Tm.enc))=le at *;rcases hd with ⟨rfl,rfl,rfl,rfl⟩ | ⟨rfl,rfl,hd⟩
   ·obtain ⟨o1,p1,k1⟩:=r;obtain ⟨o2,p2,k2⟩:=q;obtain ⟨o3,p3,k3⟩:=a;obtain ⟨o4,p4,k4⟩:=t';simp only [An] at h1 h2 hk ⊢;simp (maxSteps:=1000000) only [↓Adj,↓XX,XY,↓reduceIte,Nat.reduceBEq,Nat.reduceAdd,Int.reduceEq,Int.reduceLT,Int.reduceLE,↓Av h0,↓AZ h1,↓AK h2,↓Av hk];first | exact Ao _ _ | exact AR rfl (by simp) _
   ·rw [A8];rcases hd with rfl | ⟨rfl,hd⟩
    ·obtain ⟨o1,p1,k1⟩:=r;obtain ⟨o2,p2,k2⟩:=q;obtain ⟨o3,p3,k3⟩:=a;obtain ⟨o4,p4,k4⟩:=t;simp only [An,Axf] at h1 h2 hk t11 ⊢;simp (maxSteps:=1000000) only [↓Adj,↓XX,XY,↓reduceIte,Nat.reduceBEq,Nat.reduceAdd,Int.reduceEq,Int.reduceLT,Int.reduceLE,↓Av h0,↓AZ h1,↓AK h2,↓Av hk,↓Aj t11];first | exact Ao _ _ | exact AR rfl (by simp) _
    ·obtain ⟨o1,p1,k1⟩:=r;obtain ⟨o2,p2,k2⟩:=q;obtain ⟨o3,p3,k3⟩:=a;obtain ⟨o4,p4,k4⟩:=t;simp only [An,Axf] at h1 h2 hk t11 ⊢;simp (maxSteps:=1000000) only [↓Adj,↓XX,XY,↓reduceIte,Nat.reduceBEq,Nat.reduceAdd,Int.reduceEq,Int.reduceLT,Int.reduceLE,hd,↓Av h0,↓AZ h1,↓AK h2,↓Av hk,↓Aj t11];first | exact Ao _ _ | exact AR rfl (by simp) _
  by_cases hb:b=true
  ·by_cases hc:(t.chk 0 1).2=0
   ·exact ⟨g,a,t,true,body t true (.inl ⟨rfl,rfl,hb,hc⟩),⟨hg,hg4,asc,by omega,by omega,ts,by have:=tt.dp;omega,fun _=>hc,hcg,fun _=>ta.gr,fun _=>tt.gr hb⟩,(fun h=>by cases h),hnil⟩
   ·exact ⟨g,a,A8,false,body A8 false (.inr ⟨rfl,rfl,.inr ⟨hb,hc⟩⟩),⟨hg,hg4,asc,by omega,by omega,JY _,by decide,(fun h=>by cases h),hcg,fun _=>ta.gr,fun h=>by cases h⟩,(fun h=>by cases h),hnil⟩
  ·exact ⟨g,a,A8,false,body A8 false (.inr ⟨rfl,rfl,.inl (by simpa using hb)⟩),⟨hg,hg4,asc,by omega,by omega,JY _,by decide,(fun h=>by cases h),hcg,fun _=>ta.gr,fun h=>by cases h⟩,(fun h=>by cases h),hnil⟩
 ·obtain ⟨a,ha⟩:∃a,a=q.plainT 2:=⟨_,rfl⟩;have asc:a.sc g.length:=ha ▸ GQ _ 2 q;have aw:a.wt≤20:=by have:=GH 2 q;rw [← ha] at this;simpa using Nat.le_trans this (by decide)
  have ad:a.dp≤300:=Nat.le_trans (Uk a) (by omega);obtain ⟨t,b,⟨N2,h2⟩,tt⟩:=hO g a r hg ⟨asc,by omega,by omega⟩;have tw:=tt.wt;have ts:=tt.sc;have body:∀(t':Tm) (is:Bool),(is=true∧t'=t∧b=true∧(t.chk 0 1).2=0∨is=false∧t'=.mk 25 0 []∧(b=false∨b=true∧(t.chk 0 1).2≠0))→Ev 13 [.fv (.sl (l.map Tm.enc)),.fv r.enc,.fv q.enc,.fv (.bool true)] (.tuple [Be g,a.enc,t'.enc,.bool is]):=by
   intro t' is hd;refine ⟨N0+N2+100000000000+1,fun n hn=>?_⟩;obtain ⟨n,rfl⟩:∃k,n=k+1:=⟨n - 1,by omega⟩;have h0:=h0 n (by omega);have h1:=Lx 2 n q (by omega) (by omega);have h2:=h2 n (by omega);have hk:=Ug (n:=n) t (by omega);have t25:=AdV (n:=n) (by omega) 0;rw [c13];rw [← ha] at h1;clear tt ha;generalize (t.chk 0 1).2=ck at hk hd;rw [show ((10:Nat):Int) - 5=5 from rfl] at h2
   generalize Be g=ge at *;generalize (FV.sl (l.map Tm.enc))=le at *;rcases hd with ⟨rfl,rfl,rfl,rfl⟩ | ⟨rfl,rfl,hd⟩
   ·obtain ⟨o1,p1,k1⟩:=r;obtain ⟨o2,p2,k2⟩:=q;obtain ⟨o3,p3,k3⟩:=a;obtain ⟨o4,p4,k4⟩:=t';simp only [An,Int.cast_ofNat_Int] at h1 h2 hk ⊢;simp (maxSteps:=1000000) only [↓Adj,↓XX,XY,↓reduceIte,Nat.reduceBEq,Nat.reduceAdd,Int.reduceEq,Int.reduceLT,Int.reduceLE,↓Av h0,↓Aj h1,↓AK h2,↓Av hk];first | exact Ao _ _ | exact AR rfl (by simp) _
   ·rcases hd with rfl | ⟨rfl,hd⟩
    ·obtain ⟨o1,p1,k1⟩:=r;obtain ⟨o2,p2,k2⟩:=q;obtain ⟨o3,p3,k3⟩:=a;obtain ⟨o4,p4,k4⟩:=t;simp only [An,Axf,Int.cast_ofNat_Int] at h1 h2 hk t25 ⊢;simp (maxSteps:=1000000) only [↓Adj,↓XX,XY,↓reduceIte,Nat.reduceBEq,Nat.reduceAdd,Int.reduceEq,Int.reduceLT,Int.reduceLE,↓Av h0,↓Aj h1,↓AK h2,↓Av hk,↓Av t25];first | exact Ao _ _ | exact AR rfl (by simp) _
    ·obtain ⟨o1,p1,k1⟩:=r;obtain ⟨o2,p2,k2⟩:=q;obtain ⟨o3,p3,k3⟩:=a;obtain ⟨o4,p4,k4⟩:=t;simp only [An,Axf,Int.cast_ofNat_Int] at h1 h2 hk t25 ⊢;simp (maxSteps:=1000000) only [↓Adj,↓XX,XY,↓reduceIte,Nat.reduceBEq,Nat.reduceAdd,Int.reduceEq,Int.reduceLT,Int.reduceLE,hd,↓Av h0,↓Aj h1,↓AK h2,↓Av hk,↓Av t25];first | exact Ao _ _ | exact AR rfl (by simp) _
  have is25:∀k,(Tm.mk 25 0 []).sc k:=fun k=>DR (by decide) (by decide) (by rw [BK];simp);by_cases hb:b=true
  ·by_cases hc:(t.chk 0 1).2=0
   ·exact ⟨g,a,t,true,body t true (.inl ⟨rfl,rfl,hb,hc⟩),⟨hg,hg4,asc,by omega,by omega,ts,by have:=tt.dp;omega,fun _=>hc,hcg,(fun h=>by cases h),fun _=>tt.gr hb⟩,(fun _=>ha),hnil⟩
   ·exact ⟨g,a,_,false,body _ false (.inr ⟨rfl,rfl,.inr ⟨hb,hc⟩⟩),⟨hg,hg4,asc,by omega,by omega,is25 _,by decide,(fun h=>by cases h),hcg,(fun h=>by cases h),fun h=>by cases h⟩,(fun _=>ha),hnil⟩
  ·exact ⟨g,a,_,false,body _ false (.inr ⟨rfl,rfl,.inl (by simpa using hb)⟩),⟨hg,hg4,asc,by omega,by omega,is25 _,by decide,(fun h=>by cases h),hcg,(fun h=>by cases h),fun h=>by cases h⟩,(fun _=>ha),hnil⟩
def P0 (p:Tm):Prop:=p=.mk 15 0 []∨∃op:Int,(op=16∨op=17)∧p=.mk op 0 [.mk 15 0 [],.mk 15 0 []]
def F0 (t:Tm):Prop:=t=.mk 10 0 []∨t=.mk 14 0 []∨t=.mk 2 0 []∨∃p,P0 p∧t=.mk 18 0 [p]
def F1 (t:Tm):Prop:=F0 t∨(∃(op:Int) (d c:Tm),(op=3∨op=6)∧F0 d∧F0 c∧t=.mk op 0 [d,c])∨∃p:Tm,(p=.mk 15 0 []∨∃i:Nat,p=.mk 1 i [])∧t=.mk 18 0 [p]
theorem Ajd {op:Int} {r:Nat} (h:ar op=some r):¬ (0≤Ha op∧Ha op≠(r:Int)):=by
 unfold Ha;by_cases h1:op=8∨op=9∨op=12∨op=19∨op=30
 ·rw [if_pos h1];rcases h1 with rfl | rfl | rfl | rfl | rfl<;>(cases (show r=1 from by have:=h;revert this;simp [ar];omega);decide)
 ·rw [if_neg h1];by_cases h2:op=4∨op=5
  ·rw [if_pos h2];rcases h2 with rfl | rfl<;>(cases (show r=2 from by have:=h;revert this;simp [ar];omega);decide)
  ·rw [if_neg h2];by_cases h7:op=7
   ·subst h7;cases (show r=3 from by have:=h;revert this;simp [ar];omega);decide
   ·rw [if_neg h7];by_cases h13:op=13
    ·subst h13;cases (show r=4 from by have:=h;revert this;simp [ar];omega);decide
    ·rw [if_neg h13];omega
mutual
theorem O1:∀(t:Tm) (k:Nat),t.sc k→t.shaped=true
 | .mk op n ks,k,h=>by
  rw [Tm.sc] at h;rw [Tm.shaped,scL_shaped op 0 ks k h.2.2];have h1:=Ajd h.1;have h2:¬ (op=1∧n<0):=by
   rintro ⟨rfl,h3⟩
   have:=h.2.1
   rw [if_pos rfl] at this;omega
  rw [decide_eq_false h1,decide_eq_false h2];rfl
theorem scL_shaped:∀(op:Int) (i:Nat) (l:List Tm) (k:Nat),Tm.scL op i l k→Tm.shapedL l=true
 | _,_,[],_,_=>by rw [Tm.shapedL]
 | op,i,t::l,k,h=>by
  rw [Tm.scL] at h;rw [Tm.shapedL,O1 t _ h.1,scL_shaped op (i+1) l k h.2];rfl
end
mutual
def Tm.surf:Tm→Nat
 | .mk op _ ks=>1+Tm.surfL op 0 ks
def Tm.surfL:Int→Nat→List Tm→Nat
 | _,_,[]=>0
 | op,i,t::l=>(if 0<Am op i then 0 else t.surf)+Tm.surfL op (i+1) l
end
mutual
def Tm.inn:Tm→Nat
 | .mk op _ ks=>Tm.innL op 0 ks
def Tm.innL:Int→Nat→List Tm→Nat
 | _,_,[]=>0
 | op,i,t::l=>(if 0<Am op i then t.wt else t.inn)+Tm.innL op (i+1) l
end
mutual
theorem MN:∀t:Tm,t.surf+t.inn=t.wt
 | .mk op n ks=>by
  have:=surfL_innL op 0 ks
  simp only [Tm.surf,Tm.inn,Tm.wt];omega
theorem surfL_innL:∀(op:Int) (i:Nat) (l:List Tm),Tm.surfL op i l+Tm.innL op i l=Tm.wtL l
 | _,_,[]=>rfl
 | op,i,t::l=>by
  have h1:=MN t;have h2:=surfL_innL op (i+1) l;simp only [Tm.surfL,Tm.innL,Tm.wtL];split<;>omega
end
mutual
def RV.vsz:RV→Nat
 | .mk op _ k _ _=>1+RV.vszL op 0 k
def RV.vszL:Int→Nat→List RV→Nat
 | _,_,[]=>0
 | op,i,v::l=>(if 0<Am op i then 0 else v.vsz)+RV.vszL op (i+1) l
end
theorem Zf (v:RV):1≤v.vsz:=by obtain ⟨op,n,k,env,b⟩:=v;rw [RV.vsz];omega
inductive Rel (B:Nat):PV→RV→Prop
 | var (n:Int):Rel B (.var n) (.var n)
 | node (op n n':Int) (kp:List PV) (kr:List RV) (ts:List Tm) (e:List PV) (env:List RV) (h1:op≠1) (har:ar op=some ts.length) (hl:kp.length=ts.length) (hl2:kr.length=ts.length)
   (hk:∀i p r,Am op i=0→kp[i]?=some p→kr[i]?=some r→Rel B p r)
   (hb:∀i b,0<Am op i→ts[i]?=some b→(b.good∧b.wt≤B)∧kp[i]?=some .nil∧kr[i]?=some (.clo env b))
   (hel:e.length=env.length) (he:∀(i:Nat) p r,e[i]?=some p→env.reverse[i]?=some r→Rel B p r):Rel B (.mk op n kp (.mk op n' ts) e) (.node op n kr)
def Gw (B:Nat) (e:List PV) (env:List RV):Prop:=e.length=env.length∧∀(i:Nat) p r,e[i]?=some p→env.reverse[i]?=some r→Rel B p r
theorem Og {B:Nat} {p:PV} {r:RV} (h:Rel B p r):∃op n k t e,p=.mk op n k t e∧r.op=op∧r.n=n:=by
 cases h with
 | var n=>exact ⟨_,_,_,_,_,rfl,rfl,rfl⟩
 | node=>exact ⟨_,_,_,_,_,rfl,rfl,rfl⟩
theorem Vn (B:Nat):Gw B [] []:=⟨rfl,fun i p r h=>by simp at h⟩
theorem UZ {B:Nat} {e l:List PV} {env l':List RV} (h:Gw B e env) (hl:l.length=l'.length) (hr:∀(i:Nat) p r,l[i]?=some p→l'[i]?=some r→Rel B p r):Gw B (l.reverse++e) (env++l'):=by
 refine ⟨by simp [h.1,hl,Nat.add_comm],?_⟩;intro i p r hp hr';rw [List.reverse_append] at hr';by_cases hi:i<l.length
 ·rw [List.getElem?_append_left (by simpa using hi),List.getElem?_reverse hi] at hp;rw [List.getElem?_append_left (by simp;omega),List.getElem?_reverse (by omega)] at hr';exact hr _ _ _ hp (by rw [hl];exact hr')
 ·rw [List.getElem?_append_right (by simp;omega),List.length_reverse] at hp;rw [List.getElem?_append_right (by simp;omega),List.length_reverse,← hl] at hr';exact h.2 _ _ _ hp hr'
theorem Amn {B:Nat} {e:List PV} {env:List RV} (h:Gw B e env) {m:Int} (h0:0≤m) (hm:m<env.length) {r:RV} (hr:env[(env.length - 1 - m).toNat]?=some r):Rel B (Gl e m) r:=by
 rw [Gl,if_pos (by rw [h.1];exact hm)];have hi:m.toNat<e.length:=by rw [h.1];omega
 rw [List.getD_eq_getElem?_getD,List.getElem?_eq_getElem hi];refine h.2 m.toNat _ _ (List.getElem?_eq_getElem hi) ?_;rw [List.getElem?_reverse (by omega),show env.length - 1 - m.toNat=(env.length - 1 - m).toNat by omega]
 exact hr
structure Cost (t:Tm) (v:RV) (k c u:Nat):Prop where
 le:c≤t.surf+k * t.inn
 p:2 * u≤c+2 * k
 q:2 * u+1≤c+2 * k∨t.op=19∧v.op=19∨t.op=30∧v.op=30
 v:k=0→t.surf≤v.vsz
structure MOk (m:M3) (k T:Nat):Prop where
 e:m.e=0
 w:(T:Int)≤m.w
 w2:m.w≤5000000
 s:(k:Int)≤m.s
 s2:m.s≤100000
def Gx (m:M3) (k T:Nat):M3:=⟨m.s - k,m.w - T,0⟩
theorem Fc (m:M3) (k1 T1 k2 T2:Nat):Gx (Gx m k1 T1) k2 T2=Gx m (k1+k2) (T1+T2):=by
 simp only [Gx,M3.mk.injEq,and_true];omega
theorem NX {m:M3} {k1 T1 k2 T2:Nat} (h:MOk m (k1+k2) (T1+T2)):MOk m k1 T1:=⟨h.e,by have:=h.w;omega,h.w2,by have:=h.s;omega,h.s2⟩
theorem Jc {m:M3} {k1 T1 k2 T2:Nat} (h:MOk m (k1+k2) (T1+T2)):MOk (Gx m k1 T1) k2 T2:=⟨rfl,by have:=h.w;simp only [Gx];omega,by have:=h.w2;simp only [Gx];omega,by have:=h.s;simp only [Gx];omega,by have:=h.s2;simp only [Gx];omega⟩
theorem M5 {m:M3} {k T:Nat} (h:MOk m k (1+T)):Hg m=some (Gx m 0 1):=by
 have h1:=h.w;have h2:=h.w2;have h3:=h.e;rw [Hg,if_neg (by omega),if_neg (by omega),h3];simp only [Gx,Axa,M3.mk.injEq,and_true];omega
def Af7 (B:Nat) (e:List PV) (t:Tm) (v:RV) (k T:Nat):Prop:=∃v',Rel B v' v∧∃F,∀f,F≤f→∀m,MOk m k T→Qw f e t m=some (v',Gx m k T)
def We (B f:Nat):Prop:=∀(s:Int) (t:Tm) (env:List RV) (v:RV) (s':Int),AE f s 0 t env=some (v,s',0)→t.good→t.wt≤B→∀e,Gw B e env→∃k c u T:Nat,s'=s+k∧Cost t v k c u∧T≤c+u+2 * k∧Af7 B e t v k T
def GT (op:Int):Nat→List Tm→List RV→Nat
 | _,[],_=>0
 | _,_::_,[]=>0
 | i,t::l,v::vs=>(if 0<Am op i then 0 else if t.op=19∧v.op=19∨t.op=30∧v.op=30 then 0 else 1)+GT op (i+1) l vs
theorem AaU (k1 k2 a b:Nat):k1 * a+k2 * b≤(k1+k2) * (a+b):=by
 rw [Nat.add_mul,Nat.mul_add,Nat.mul_add];have h1:0≤k1 * b:=Nat.zero_le _;have h2:0≤k2 * a:=Nat.zero_le _;omega
theorem M1 {B f:Nat} (ih:We B f) (op:Int) (env:List RV) (e:List PV) (he:Gw B e env):∀(l:List Tm) (i:Nat) (s:Int) (vs:List RV) (s':Int),A0 (fun s e t=>AE f s e t env) op env i l s 0=some (vs,s',0)→Tm.goodL l→Tm.wtL l≤B →
  ∃k c u T:Nat,s'=s+k∧c≤Tm.surfL op i l+k * Tm.innL op i l∧2 * u+GT op i l vs≤c+2 * k∧(k=0→Tm.surfL op i l≤RV.vszL op i vs)∧T≤c+u+2 * k∧vs.length=l.length ∧
   ∃ps:List PV,ps.length=l.length∧(∀j t,l[j]?=some t→0<Am op (i+j)→ps[j]?=some .nil∧vs[j]?=some (.clo env t))∧(∀j p r,Am op (i+j)=0→ps[j]?=some p→vs[j]?=some r→Rel B p r) ∧
    (∀j t r,l[j]?=some t→Am op (i+j)=0→vs[j]?=some r→∃s1 s2,AE f s1 0 t env=some (r,s2,0))∧∃F,∀g,F≤g→∀m,MOk m k T→RX (fun t m=>Qw g e t m) op i l m=some (ps,Gx m k T)
 | [],i,s,vs,s',h,_,_=>by
  simp only [A0,Axa,Axb] at h;obtain ⟨rfl,rfl,_⟩:=h;refine ⟨0,0,0,0,by omega,by omega,by rw [GT];omega,fun _=>by rw [Tm.surfL,RV.vszL];omega,by omega,rfl,[],rfl,fun j t h=>by simp at h,fun j p r _ h=>by simp at h,fun j t r h=>by simp at h,0,fun g _ m hm=>?_⟩
  have:Gx m 0 0=m:=by
   obtain ⟨a,b,c⟩:=m
   have:=hm.e
   simp only at this;subst this;simp [Gx]
  rw [RX,this]
 | t::l,i,s,vs,s',h,hg,hw=>by
  rw [Tm.goodL] at hg;rw [Tm.wtL] at hw;simp only [A0] at h;by_cases hb:0<Am op i
  ·rw [if_pos hb] at h;cases hk:A0 (fun s e t=>AE f s e t env) op env (i+1) l s 0 with
   | none=>rw [hk] at h;cases h
   | some q =>
    obtain ⟨vs1,s1,e1⟩:=q;rw [hk] at h;simp only [Axd,Axa,Axb] at h;obtain ⟨rfl,rfl,rfl⟩:=h;obtain ⟨k,c,u,T,h1,h2,h3,h4,h5,h6,ps,h7,h8,h9,h10,F,h11⟩:=M1 ih op env e he l (i+1) s vs1 s1 hk hg.2 (by omega);refine ⟨k,c,u,T,h1,?_,?_,?_,h5,by simp [h6],.nil::ps,by simp [h7],?_,?_,?_,F,?_⟩
    ·rw [Tm.surfL,Tm.innL,if_pos hb,if_pos hb]
     have:=AaU 0 k t.wt (Tm.innL op (i+1) l)
     rw [Nat.zero_mul,Nat.zero_add,Nat.zero_add] at this;omega
    ·rw [GT,if_pos hb];omega
    ·intro hk0;rw [Tm.surfL,RV.vszL,if_pos hb,if_pos hb]
     have:=h4 hk0
     omega
    ·intro j x hj hbj;cases j with
     | zero =>
      simp only [List.getElem?_cons_zero,Axa] at hj;subst hj;exact ⟨rfl,rfl⟩
     | succ j =>
      rw [List.getElem?_cons_succ] at hj;rw [List.getElem?_cons_succ,List.getElem?_cons_succ];exact h8 j x hj (by rwa [show i+1+j=i+(j+1) by omega])
    ·intro j p r hbj hp hr;cases j with
     | zero=>rw [Nat.add_zero] at hbj;omega
     | succ j =>
      rw [List.getElem?_cons_succ] at hp hr;exact h9 j p r (by rwa [show i+1+j=i+(j+1) by omega]) hp hr
    ·intro j x r hj hbj hr;cases j with
     | zero=>rw [Nat.add_zero] at hbj;omega
     | succ j =>
      rw [List.getElem?_cons_succ] at hj hr;exact h10 j x r hj (by rwa [show i+1+j=i+(j+1) by omega]) hr
    ·intro g hgF m hm;rw [RX,if_pos hb,h11 g hgF m hm];rfl
  ·rw [if_neg hb] at h;split at h
   ·cases h
   ·rename_i v s1 e1 hev;cases hk:A0 (fun s e t=>AE f s e t env) op env (i+1) l s1 e1 with
    | none=>rw [hk] at h;cases h
    | some q =>
     obtain ⟨vs1,s2,e2⟩:=q;rw [hk] at h;simp only [Axd,Axa,Axb] at h;obtain ⟨rfl,rfl,rfl⟩:=h;have h0:=Hz _ (fun s e t v s' h=>Cr h) op env l _ _ _ _ _ hk;subst h0;obtain ⟨k1,c1,u1,T1,a1,a2,a3,p1,a4,F1,a5⟩:=ih s t env v s1 hev hg.1 (by omega) e he;obtain ⟨k,c,u,T,h1,h2,h3,h4,h5,h6,ps,h7,h8,h9,h10,F,h11⟩:=M1 ih op env e he l (i+1) s1 vs1 s2 hk hg.2 (by omega);have ac:=a2.le;have ap:=a2.p;have aq:=a2.q;refine ⟨k1+k,c1+c,u1+u,T1+T,by omega,?_,?_,?_,by omega,by simp [h6],p1::ps,by simp [h7],?_,?_,?_,F1+F,?_⟩
     ·rw [Tm.surfL,Tm.innL,if_neg hb,if_neg hb]
      have:=AaU k1 k t.inn (Tm.innL op (i+1) l)
      omega
     ·rw [GT,if_neg hb];split
      ·omega
      ·rename_i hno;rcases aq with aq | aq
       ·omega
       ·exact absurd aq hno
     ·intro hk0;rw [Tm.surfL,RV.vszL,if_neg hb,if_neg hb]
      have:=h4 (by omega)
      have:=a2.v (by omega)
      omega
     ·intro j x hj hbj;cases j with
      | zero=>rw [Nat.add_zero] at hbj;exact absurd hbj hb
      | succ j =>
       rw [List.getElem?_cons_succ] at hj;rw [List.getElem?_cons_succ,List.getElem?_cons_succ];exact h8 j x hj (by rwa [show i+1+j=i+(j+1) by omega])
     ·intro j p r hbj hp hr;cases j with
      | zero =>
       simp only [List.getElem?_cons_zero,Axa] at hp hr;subst hp hr;exact a4
      | succ j =>
       rw [List.getElem?_cons_succ] at hp hr;exact h9 j p r (by rwa [show i+1+j=i+(j+1) by omega]) hp hr
     ·intro j x r hj hbj hr;cases j with
      | zero =>
       simp only [List.getElem?_cons_zero,Axa] at hj hr;subst hj hr;exact ⟨_,_,hev⟩
      | succ j =>
       rw [List.getElem?_cons_succ] at hj hr;exact h10 j x r hj (by rwa [show i+1+j=i+(j+1) by omega]) hr
     ·intro g hgF m hm;rw [RX,if_neg hb,a5 g (by omega) m (NX hm)];simp only;rw [h11 g (by omega) _ (Jc hm),Fc];rfl
theorem Il {B:Nat} {p:PV} {r:RV} (h:Rel B p r) (h1:r.op≠1):∃n' kp ts e env,p=.mk r.op r.n kp (.mk r.op n' ts) e∧ar r.op=some ts.length∧kp.length=ts.length∧r.k.length=ts.length ∧
  (∀i p' r',Am r.op i=0→kp[i]?=some p'→r.k[i]?=some r'→Rel B p' r') ∧
  (∀i b,0<Am r.op i→ts[i]?=some b→(b.good∧b.wt≤B)∧kp[i]?=some .nil∧r.k[i]?=some (.clo env b))∧Gw B e env:=by
 cases h with
 | var n=>exact absurd rfl h1
 | node op n n' kp kr ts e env h1 har hl hl2 hk hb hel he=>exact ⟨n',kp,ts,e,env,rfl,har,hl,hl2,hk,hb,hel,he⟩
theorem Pi {m:M3} (h:m.e=0):Gx m 0 0=m:=by
 obtain ⟨a,b,c⟩:=m;simp only at h;subst h;simp [Gx]
theorem Ae7 {op:Int} {r:Nat} (h:ar op=some r):r≤4:=by
 unfold ar at h
 repeat' split at h
 all_goals first | (simp only [Axa] at h;omega) | cases h
theorem AtY (g:Nat) (n:Int) (o0 n0:Int) (k0:List PV) (t0:Tm) (e0:List PV) (x:PV) (t:Tm) (e:List PV) (m:M3):stP (g+1) (.mk 5 n [.mk o0 n0 k0 t0 e0,x] t e) m=if o0=4 then opP g (.mk o0 n0 k0 t0 e0) 1 [x] m else some (.nil,m):=by
 rw [stP.eq_def];simp only [if_true]
theorem Arl (g:Nat) (op n:Int) (h:op=8∨op=9) (n0:Int) (a x y:PV) (t0:Tm) (e0:List PV) (t:Tm) (e:List PV) (m:M3):stP (g+1) (.mk op n [.mk 7 n0 [a,x,y] t0 e0] t e) m=some (if op=8 then x else y,m):=by
 rw [stP.eq_def];simp only;rw [if_neg (by omega),if_pos h,if_true]
theorem AnT (g:Nat) (n:Int) (p0 z p2:PV) (n3:Int) (k3:List PV) (t3:Tm) (e3:List PV) (t:Tm) (e:List PV) (m:M3):stP (g+1) (.mk 13 n [p0,z,p2,.mk 11 n3 k3 t3 e3] t e) m=some (z,m):=by
 rw [stP.eq_def];simp only [Int.reduceEq,if_false,if_true,or_self]
theorem Anz {g:Nat} {n:Int} {p0 z p2:PV} {n3:Int} {x y:PV} {t3:Tm} {e3:List PV} {t:Tm} {e:List PV} {m m':M3} (hc:ctP g (.mk 13 n [.nil,z,.nil,x] t e) m=some (y,m')):stP (g+1) (.mk 13 n [p0,z,p2,.mk 12 n3 [x] t3 e3] t e) m=opP g (.mk 13 n [p0,z,p2,.mk 12 n3 [x] t3 e3] t e) 2 [x,y] m':=by
 rw [stP.eq_def];simp only [Int.reduceEq,if_false,if_true,or_self,hc]
theorem Apk (g:Nat) (n:Int) (p0 z p2:PV) (o3 n3:Int) (k3:List PV) (t3:Tm) (e3:List PV) (t:Tm) (e:List PV) (m:M3) (h11:o3≠11) (h12:o3≠12):stP (g+1) (.mk 13 n [p0,z,p2,.mk o3 n3 k3 t3 e3] t e) m=some (.nil,m):=by
 rw [stP.eq_def];simp only [Int.reduceEq,if_false,if_true,or_self,h11,h12]
theorem Art (g:Nat) (n:Int) (n0:Int) (x:PV) (t0:Tm) (e0:List PV) (t:Tm) (e:List PV) (m:M3):stP (g+1) (.mk 30 n [.mk 19 n0 [x] t0 e0] t e) m=some (x,m):=by
 rw [stP.eq_def];simp only [Int.reduceEq,if_false,if_true,or_self]
theorem Apa (g:Nat) (n:Int) (o0 n0:Int) (k0:List PV) (t0:Tm) (e0:List PV) (t:Tm) (e:List PV) (m:M3) (h:o0≠19):stP (g+1) (.mk 30 n [.mk o0 n0 k0 t0 e0] t e) m=some (.nil,m):=by
 rw [stP.eq_def];simp only [Int.reduceEq,if_false,if_true,or_self,h]
theorem Ar7 (g:Nat) (n:Int) (n0:Int) (x:PV) (t0:Tm) (e0:List PV) (t:Tm) (e:List PV) (m:M3):stP (g+1) (.mk 19 n [.mk 30 n0 [x] t0 e0] t e) m=some (x,m):=by
 rw [stP.eq_def];simp only [Int.reduceEq,if_false,if_true,or_self]
theorem Anm (g:Nat) (n:Int) (o0 n0:Int) (k0:List PV) (t0:Tm) (e0:List PV) (t:Tm) (e:List PV) (m:M3) (h:o0≠30):stP (g+1) (.mk 19 n [.mk o0 n0 k0 t0 e0] t e) m=some (.nil,m):=by
 rw [stP.eq_def];simp only [Int.reduceEq,if_false,if_true,or_self,h]
def Hq (op n:Int) (ps:List PV) (t:Tm) (e:List PV) (v':PV) (k T:Nat):Prop:=∃F,∀g,F≤g→∀m,MOk m k T→ctP g (.mk op n ps t e) m=some (v',Gx m k T)
theorem Asl {op n:Int} {ps:List PV} {t:Tm} {e:List PV} (h:CE op=false):Hq op n ps t e (.mk op n ps t e) 0 0:=by
 refine ⟨1,fun g hg m hm=>?_⟩;obtain ⟨g,rfl⟩:∃k,g=k+1:=⟨g - 1,by omega⟩;rw [ctP,h,Pi hm.e];rfl
theorem Ow {op n:Int} {ps:List PV} {t:Tm} {e:List PV} (h:CE op=true) (hs:∃F,∀g,F≤g→∀m,stP g (.mk op n ps t e) m=some (.nil,m)):Hq op n ps t e (.mk op n ps t e) 0 1:=by
 obtain ⟨F,hs⟩:=hs;refine ⟨F+2,fun g hg m hm=>?_⟩;obtain ⟨g,rfl⟩:∃k,g=k+1:=⟨g - 1,by omega⟩;rw [ctP,if_pos h,if_neg (fun h=>h hm.e),if_neg (by omega),M5 (k:=0) (T:=0) hm];simp only;rw [if_neg (by simp [Gx]),hs g (by omega)]
theorem GM {op n:Int} {ps:List PV} {t:Tm} {e:List PV} {v':PV} {k T:Nat} (h:CE op=true) (hv:v'≠.nil) (hs:∃F,∀g,F≤g→∀m,MOk m k T→stP g (.mk op n ps t e) m=some (v',Gx m k T)):Hq op n ps t e v' (k+1) (1+T):=by
 obtain ⟨F,hs⟩:=hs;refine ⟨F+2,fun g hg m hm=>?_⟩;obtain ⟨g,rfl⟩:∃k,g=k+1:=⟨g - 1,by omega⟩;have hm':MOk (Gx m 0 1) k T:=Jc (k1:=0) (k2:=k) ⟨hm.e,hm.w,hm.w2,by have:=hm.s;omega,hm.s2⟩;rw [ctP,if_pos h,if_neg (fun h=>h hm.e),if_neg (by omega),M5 hm];simp only;rw [if_neg (by simp [Gx]),hs g (by omega) _ hm',Fc];have h1:=hm.s;have h2:=hm.s2;cases v' with
 | nil=>exact absurd rfl hv
 | mk o1 n1 k1 t1 e1 =>
  simp only;rw [if_neg (by simp [Gx]),if_neg (by simp only [Gx];omega),if_neg (by simp only [Gx];omega)];simp only [Gx,Axa,Axb,true_and,M3.mk.injEq,and_true];omega
theorem Vu {B:Nat} {op n n':Int} {ps:List PV} {ts:List Tm} {e:List PV} {i:Nat} {b:Tm} {l:List PV} {v:RV} {k T:Nat} (hb:ts[i]?=some b) (hl:l.length≤2) (h:Af7 B (l.reverse++e) b v k T) :
  ∃v',Rel B v' v∧∃F,∀g,F≤g→∀m,MOk m k T→opP g (.mk op n ps (.mk op n' ts) e) i l m=some (v',Gx m k T):=by
 obtain ⟨v',hr,F,h⟩:=h;refine ⟨v',hr,F+10,fun g hg m hm=>?_⟩;obtain ⟨g,rfl⟩:∃k,g=k+1:=⟨g - 1,by omega⟩;rw [opP];rw [if_neg (by omega),hb];exact h g (by omega) m hm
theorem Ld {B:Nat} {p:PV} {r:RV} (h:Rel B p r):p≠.nil:=by
 obtain ⟨op,n,k,t,e,rfl,_⟩:=Og h;exact fun h=>by cases h
theorem Nd {B f:Nat} (ih:We B f) {e l:List PV} {env l':List RV} (he:Gw B e env) (hl:l.length=l'.length) (hr:∀(i:Nat) p r,l[i]?=some p→l'[i]?=some r→Rel B p r) {b:Tm} (hg:b.good) (hw:b.wt≤B) {s s':Int} {v:RV}
  (h:AE f s 0 b (env++l')=some (v,s',0)):∃k c u T:Nat,s'=s+k∧Cost b v k c u∧T≤c+u+2 * k∧Af7 B (l.reverse++e) b v k T :=
 ih s b _ v s' h hg hw _ (UZ he hl hr)
theorem Qh {b:Tm} {v:RV} {k c u:Nat} (h:Cost b v k c u):c≤(k+1) * b.wt:=by
 have h1:=h.le;have h2:=MN b;have h3:k * b.inn≤k * b.wt:=Nat.mul_le_mul_left _ (by omega);rw [Nat.add_mul,Nat.one_mul];omega
theorem Aij {B:Nat}:∀f,(∀g,g<f→We B g)→∀(s:Int) (n n0:Int) (env:List RV) (b0 b2:Tm) (vz vn w:RV) (s':Int) (e:List PV) (pz pn:PV) (n':Int) (ts:List Tm),headR f s 0 (.node 13 n0 [.clo env b0,vz,.clo env b2,vn])=some (w,s',0) →
  Rel B pz vz→Rel B pn vn→Gw B e env→ts[2]?=some b2→b2.good→b2.wt≤B→(∀pw:PV,Rel B (.mk 13 n [.nil,pz,.nil,pn] (.mk 13 n' ts) e) (.node 13 n0 [.clo env b0,vz,.clo env b2,vn])) →
  (∀(px:PV) (vx:RV),Rel B px vx→Rel B (.mk 13 n [.nil,pz,.nil,px] (.mk 13 n' ts) e) (.node 13 0 [.clo env b0,vz,.clo env b2,vx])) →
  ∃k c u T:Nat,s'=s+k∧c≤k * b2.wt∧2 * u≤c+2 * k∧T≤c+u+2 * k+(if k=0 then 1 else 0)∧(k=0→c=0∧u=0∧w=.node 13 n0 [.clo env b0,vz,.clo env b2,vn]) ∧
   ∃w',Rel B w' w∧Hq 13 n [.nil,pz,.nil,pn] (.mk 13 n' ts) e w' k T:=by
 intro f
 induction f with
 | zero=>intro _ s n n0 env b0 b2 vz vn w s' e pz pn n' ts h;rw [headR] at h;cases h
 | succ f ihf =>
  intro ih s n n0 env b0 b2 vz vn w s' e pz pn n' ts h hz hn he hb2 hg2 hw2 hself hless;obtain ⟨V,hV⟩:∃V,V=RV.node 13 n0 [.clo env b0,vz,.clo env b2,vn]:=⟨_,rfl⟩;have hop:V.op=13:=by rw [hV];rfl
  have hk0:V.k[0]?=some (.clo env b0):=by rw [hV];rfl
  have hk1:V.k[1]?=some vz:=by rw [hV];rfl
  have hk2:V.k[2]?=some (.clo env b2):=by rw [hV];rfl
  have hk3:V.k[3]?=some vn:=by rw [hV];rfl
  rw [← hV] at h hself ⊢;rw [headR] at h;rw [if_neg (by simp)] at h;split at h
  ·cases h
  simp only [hop,if_true] at h;rw [if_neg (by decide),if_neg (by decide),if_neg (by decide),if_neg (by decide),hk0,hk1,hk2,hk3] at h;simp only at h;obtain ⟨on,nn,kn,tn,en,hpn,hon,hnn⟩:=Og hn;by_cases h11:vn.op=11
  ·rw [if_pos h11] at h;by_cases hs:s+1≤1000
   ·rw [if_pos hs] at h;simp only [Axa,Axb] at h;obtain ⟨rfl,rfl,_⟩:=h;refine ⟨1,0,0,1,rfl,by omega,by omega,by simp,fun h=>by omega,pz,hz,GM (k:=0) (T:=0) (by decide) (Ld hz) ⟨1,fun g hg m hm=>?_⟩⟩;obtain ⟨g,rfl⟩:∃k,g=k+1:=⟨g - 1,by omega⟩;rw [hpn,← hon,h11,AnT,Pi hm.e]
   ·rw [if_neg hs] at h;simp at h
  ·rw [if_neg h11] at h;by_cases h12:vn.op=12
   ·rw [if_pos h12] at h;by_cases hs:s+1≤1000
    ·rw [if_pos hs] at h;have hvn1:vn.op≠1:=by omega
     obtain ⟨nn',kp,ts',en',envn,hpn',har,hkl,hrl,hkk,_,_⟩:=Il hn hvn1;rw [h12,show ar 12=some 1 by decide,Axa] at har
     obtain ⟨vx,hvx⟩:=FN (l:=vn.k) (by omega);obtain ⟨px,hpx⟩:=FN (l:=kp) (by omega);have hx:Rel B px vx:=hkk 0 px vx (by rw [h12];decide) (by rw [hpx];rfl) (by rw [hvx];rfl);have hv0:(RV.k vn)[0]?=some vx:=by rw [hvx];rfl
     obtain ⟨on2,nn2,kn2,envn2,bn2⟩:=vn;simp only [RV.k] at hv0 h;rw [hv0] at h;simp only at h;split at h
     ·cases h
     rename_i vh s2 e2 hh;split at h
     ·cases h
     rw [show (RV.clo env b2).env=env from rfl,show (RV.clo env b2).b=b2 from rfl] at h
     have he2:=Cr h;subst he2;obtain ⟨k1,c1,u1,T1,a1,a2,a3,a4,a5,w1,a6,F1,a7⟩:=ihf (fun g hg=>ih g (by omega)) (s+1) n 0 env b0 b2 vz vx vh s2 e pz px n' ts hh hz hx he hb2 hg2 hw2 (fun _=>hless px vx hx) hless;obtain ⟨k2,c2,u2,T2,d1,d2,d3,d4⟩:=Nd (ih f (by omega)) (l:=[px,w1]) (l':=[vx,vh]) he rfl (by
      intro i p r hp hr
      match i with
      | 0=>simp only [List.getElem?_cons_zero,Axa] at hp hr;subst hp hr;exact hx
      | 1=>simp only [List.getElem?_cons_succ,List.getElem?_cons_zero,Axa] at hp hr;subst hp hr;exact a6
      | i+2=>simp at hp) hg2 hw2 h
     obtain ⟨w2,q1,F2,q2⟩:=Vu (op:=13) (n:=n) (n':=n') (ps:=[.nil,pz,.nil,pn]) hb2 (by simp) d4;have hd:=Qh d2;have hdp:=d2.p;refine ⟨k1+k2+1,c1+c2,u1+u2,1+(T1+T2),by omega,?_,by omega,?_,fun h=>by omega,w2,q1,GM (k:=k1+k2) (T:=T1+T2) (by decide) (Ld q1) ⟨F1+F2+2,fun g hg m hm=>?_⟩⟩
     ·have e1:(k1+k2+1) * b2.wt=k1 * b2.wt+(k2+1) * b2.wt:=by rw [show k1+k2+1=k1+(k2+1) by omega,Nat.add_mul]
      omega
     ·rw [if_neg (by omega)];split at a4<;>omega
     ·obtain ⟨g,rfl⟩:∃k,g=k+1:=⟨g - 1,by omega⟩;simp only [RV.op] at h12;subst h12;rw [hpn',hpx];simp only [RV.op,RV.n];rw [Anz (a7 g (by omega) m (NX hm))];rw [hpn',hpx] at q2;simp only [RV.op,RV.n] at q2;rw [q2 g (by omega) _ (Jc hm),Fc]
    ·rw [if_neg hs] at h;simp at h
   ·rw [if_neg h12] at h;simp only [Axa,Axb] at h;obtain ⟨rfl,rfl,_⟩:=h;refine ⟨0,0,0,1,by omega,by omega,by omega,by simp,fun _=>⟨rfl,rfl,rfl⟩,_,hself pz,Ow (by decide) ⟨1,fun g hg m=>?_⟩⟩;obtain ⟨g,rfl⟩:∃k,g=k+1:=⟨g - 1,by omega⟩;rw [hpn,Apk _ _ _ _ _ _ _ _ _ _ _ _ _ (by rw [← hon];exact h11) (by rw [← hon];exact h12)]
theorem Dj {op n:Int} {ks:List Tm} {e ps:List PV} {k1 T1 kh Th:Nat} {v':PV} (h1:op≠1) (hks:ks.length≤4) (hK:∃F,∀g,F≤g→∀m,MOk m k1 T1→RX (fun t m=>Qw g e t m) op 0 ks m=some (ps,Gx m k1 T1)) (hH:Hq op n ps (.mk op n ks) e v' kh Th) :
  ∃F,∀g,F≤g→∀m,MOk m (k1+kh) (1+(T1+Th))→Qw g e (.mk op n ks) m=some (v',Gx m (k1+kh) (1+(T1+Th))):=by
 obtain ⟨F1,hK⟩:=hK;obtain ⟨F2,hH⟩:=hH;refine ⟨F1+F2+10,fun g hg m hm=>?_⟩;obtain ⟨g,rfl⟩:∃k,g=k+1:=⟨g - 1,by omega⟩;have hm':MOk (Gx m 0 1) (k1+kh) (T1+Th):=Jc (k1:=0) ⟨hm.e,hm.w,hm.w2,by have:=hm.s;omega,hm.s2⟩;rw [Qw,M5 hm];simp only;rw [if_neg h1,if_neg (by omega),if_neg (by simp [Gx]),hK g (by omega) _ (NX hm')];simp only;rw [if_neg (by simp [Gx]),hH g (by omega) _ (Jc hm'),Fc,Fc];congr 3
 all_goals omega
theorem Amb {op:Int} (h:¬ (op=5∨op=8∨op=9∨op=13∨op=19∨op=30)):CE op=false:=by
 have h1:¬ op=5:=fun e=>h (.inl e);have h2:¬ op=8:=fun e=>h (.inr (.inl e));have h3:¬ op=9:=fun e=>h (.inr (.inr (.inl e)));have h4:¬ op=13:=fun e=>h (.inr (.inr (.inr (.inl e))));have h5:¬ op=19:=fun e=>h (.inr (.inr (.inr (.inr (.inl e)))));have h6:¬ op=30:=fun e=>h (.inr (.inr (.inr (.inr (.inr e)))));simp [CE,h1,h2,h3,h4,h5,h6]
set_option maxHeartbeats 1000000 in
theorem TD (B:Nat):∀f,We B f:=by
 intro f
 induction f using Nat.strongRecOn with
 | _ f ih =>
 intro s t env v s' h hg hw e he;cases f with
 | zero=>rw [AE] at h;cases h
 | succ f =>
 obtain ⟨op,n,ks⟩:=t;rw [AE] at h;rw [if_neg (by simp)] at h;split at h
 ·cases h
 rename_i hel;rw [Tm.good] at hg;obtain ⟨hgn,hgl⟩:=hg;have har:=hgn.1;have hk4:=Ae7 har;rw [Tm.wt] at hw;by_cases h1:op=1
 ·subst h1;rw [if_pos rfl] at h;have hks:ks=[]:=by
   rw [show ar 1=some 0 by decide,Axa] at har
   exact List.eq_nil_of_length_eq_zero har.symm
  subst hks;have hn:=hgn.2.1 rfl;have hrun:∃F,∀g,F≤g→∀m,MOk m 0 1→Qw g e (.mk 1 n []) m=some (Gl e n,Gx m 0 1):=by
   refine ⟨e.length+10,fun g hg m hm=>?_⟩;obtain ⟨g,rfl⟩:∃k,g=k+1:=⟨g - 1,by omega⟩;rw [Qw,M5 (k:=0) (T:=0) hm];simp only;rw [if_pos trivial,if_pos ⟨by omega,by omega,by omega⟩]
  have hcost:∀v:RV,Cost (.mk 1 n []) v 0 1 0:=fun v=>⟨by simp [Tm.surf,Tm.surfL],by omega,.inl (by omega),fun _=>by have:=Zf v;simp only [Tm.surf,Tm.surfL];omega⟩;by_cases hlt:n<env.length
  ·rw [if_pos hlt,if_pos hn.1] at h;cases hr:env[((env.length:Int) - 1 - n).toNat]? with
   | none=>rw [hr] at h;cases h
   | some r =>
    rw [hr] at h;simp only [Axd,Axa,Axb] at h;obtain ⟨rfl,rfl,_⟩:=h;exact ⟨0,1,0,1,by omega,hcost _,by omega,_,Amn he hn.1 hlt hr,hrun⟩
  ·rw [if_neg hlt] at h;split at h
   ·simp only [Axa,Axb] at h;obtain ⟨rfl,rfl,_⟩:=h;refine ⟨0,1,0,1,by omega,hcost _,by omega,_,?_,hrun⟩;rw [Gl,if_neg (by rw [he.1];exact hlt),he.1];exact .var _
   ·cases h
 rw [if_neg h1] at h;split at h
 ·cases h
 split at h
 ·cases h
 split at h
 ·cases h
 rename_i vs s1 e1 hk;have he1:=HB h;subst he1;obtain ⟨k1,c1,u1,T1,q1,q2,q3,q4,q5,q6,ps,q7,q8,q9,q10,q11⟩:=M1 (ih f (by omega)) op env e he ks 0 s vs s1 hk hgl (by omega);simp only [Nat.zero_add] at q8 q9 q10;have hnode:Rel B (.mk op n ps (.mk op n ks) e) (.node op n vs):=by
  refine .node op n n ps vs ks e env h1 har q7 q6 (fun i p r=>q9 i p r) ?_ he.1 he.2;intro i b hb hi;obtain ⟨a1,a2⟩:=q8 i b hi hb;have hm:=List.mem_of_getElem? hi
  have:=CX hm
  exact ⟨⟨Pj hgl hm,by omega⟩,a1,a2⟩
 obtain ⟨V,hV⟩:∃V,V=RV.node op n vs:=⟨_,rfl⟩;have hVo:V.op=op:=by rw [hV];rfl
 have hVk:V.k=vs:=by rw [hV];rfl
 have hVz:V.vsz=1+RV.vszL op 0 vs:=by rw [hV,RV.node,RV.vsz]
 rw [← hV] at h hnode;cases f with
 | zero=>rw [headR] at h;cases h
 | succ f =>
 have h00:=h;rw [headR] at h;rw [if_neg (by simp)] at h;split at h
 ·cases h
 by_cases hr:¬ (op=5∨op=8∨op=9∨op=13∨op=19∨op=30)
 ·rw [hVo,if_neg (by omega),if_neg (by omega),if_neg (by omega),if_neg (by omega),if_neg (by omega)] at h;simp only [Axa,Axb] at h;obtain ⟨rfl,rfl,_⟩:=h;refine ⟨k1,1+c1,u1,1+T1,q1,⟨?_,by omega,.inl (by omega),fun h=>?_⟩,by omega,_,hnode,Dj (kh:=0) (Th:=0) h1 (by omega) q11 (Asl (Amb hr))⟩
  ·rw [Tm.surf,Tm.inn];omega
  ·have:=q4 h;rw [Tm.surf,hVz];omega
 have hrule:CE op=true:=by
  have:op=5∨op=8∨op=9∨op=13∨op=19∨op=30:=Decidable.byContradiction hr
  rcases this with rfl | rfl | rfl | rfl | rfl | rfl<;>rfl
 by_cases h5:op=5
 ·subst h5;obtain ⟨m0,a,b,x,rfl⟩:=hgn.2.2.2.1 rfl;obtain ⟨v0,vx,rfl⟩:=AiG q6;obtain ⟨p0,px,rfl⟩:=AiG q7;obtain ⟨t1,t2,hv0⟩:=q10 0 _ v0 rfl (by decide) rfl;obtain ⟨va,rfl⟩:=Y3 hv0;have r0:=q9 0 p0 _ (by decide) rfl rfl;have rx:=q9 1 px vx (by decide) rfl rfl;obtain ⟨n',kp,ts,e0,env0,hp0,b1,b2,b3,b4,b5,b6⟩:=Il r0 (by simp [RV.node,RV.op]);simp only [RV.node,RV.op,RV.n,RV.k] at hp0 b1 b3 b4 b5;rw [show ar 4=some 2 by decide,Axa] at b1
  obtain ⟨a',b',rfl⟩:=AiG b1.symm;obtain ⟨⟨g1,g2⟩,_,g3⟩:=b5 1 b' (by decide) rfl;simp only [List.getElem?_cons_succ,List.getElem?_cons_zero,Axa,RV.clo,RV.mk.injEq,true_and] at g3;obtain ⟨rfl,rfl⟩:=g3;rw [hVo,if_pos rfl,hVk] at h;simp only [List.getElem?_cons_succ,List.getElem?_cons_zero] at h;rw [show (RV.node 4 m0 [va,RV.clo env b]).op=4 from rfl,if_pos rfl] at h
  split at h
  ·rw [show (RV.node 4 m0 [va,RV.clo env b]).k[1]?=some (RV.clo env b) from rfl] at h
   simp only at h;split at h
   ·cases h
   rw [show (RV.clo env b).env=env from rfl,show (RV.clo env b).b=b from rfl] at h
   obtain ⟨k2,c2,u2,T2,d1,d2,d3,d4⟩:=Nd (ih f (by omega)) (l:=[px]) (l':=[vx]) b6 rfl (by
    intro i p r hp hr
    match i with
    | 0=>simp only [List.getElem?_cons_zero,Axa] at hp hr;subst hp hr;exact rx
    | i+1=>simp at hp) g1 g2 h
   obtain ⟨w2,y1,F2,y2⟩:=Vu (op:=4) (n:=m0) (n':=n') (ps:=kp) (ts:=[a',b]) (i:=1) (b:=b) (l:=[px]) rfl (by simp) d4;have hd:=Qh d2;have hdp:=d2.p;have hiw:b.wt≤Tm.innL 5 0 [.mk 4 m0 [a,b],x]:=by
    simp only [Tm.innL,Tm.inn];rw [if_neg (show ¬ 0<Am 5 0 by decide),if_neg (show ¬ 0<Am 4 0 by decide),if_pos (show 0<Am 4 (0+1) by decide)]
    omega
   refine ⟨k1+(k2+1),1+(c1+c2),u1+u2,1+(T1+(1+T2)),by omega,⟨?_,by omega,.inl (by omega),fun h=>by omega⟩,by omega,w2,y1,Dj h1 (by simp) q11 (GM (k:=k2) (T:=T2) hrule (Ld y1) ⟨F2+1,fun g hg m hm=>?_⟩)⟩
   ·rw [Tm.surf,Tm.inn];have e1:(k1+(k2+1)) * Tm.innL 5 0 [.mk 4 m0 [a,b],x]=k1 * Tm.innL 5 0 [.mk 4 m0 [a,b],x]+(k2+1) * Tm.innL 5 0 [.mk 4 m0 [a,b],x]:=by rw [Nat.add_mul]
    have e2:(k2+1) * b.wt≤(k2+1) * Tm.innL 5 0 [.mk 4 m0 [a,b],x]:=Nat.mul_le_mul_left _ hiw;omega
   ·obtain ⟨g,rfl⟩:∃k,g=k+1:=⟨g - 1,by omega⟩;rw [hp0,AtY,if_pos rfl];exact y2 g (by omega) m hm
  ·simp at h
 by_cases h89:op=8∨op=9
 ·obtain ⟨m0,a,x,y,rfl⟩:=hgn.2.2.2.2.1 h89;obtain ⟨v0,rfl⟩:=FN q6;obtain ⟨p0,rfl⟩:=FN q7;have hb0:Am op 0=0:=by rcases h89 with rfl | rfl<;>decide
  obtain ⟨t1,t2,hv0⟩:=q10 0 _ v0 rfl hb0 rfl;obtain ⟨va,vx,vy,rfl⟩:=Aeb hv0;have r0:=q9 0 p0 _ hb0 rfl rfl;obtain ⟨n',kp,ts,e0,env0,hp0,b1,b2,b3,b4,b5,b6⟩:=Il r0 (by simp [RV.node,RV.op]);simp only [RV.node,RV.op,RV.n,RV.k] at hp0 b1 b3 b4 b5;rw [show ar 7=some 3 by decide,Axa] at b1
  obtain ⟨pa,px,py,rfl⟩:=AtH (b2.trans b1.symm);have rx:=b4 1 px vx (by decide) rfl rfl;have ry:=b4 2 py vy (by decide) rfl rfl;rw [hVo,if_neg h5,if_pos h89,hVk] at h;simp only [List.getElem?_cons_zero] at h;rw [show (RV.node 7 m0 [va,vx,vy]).op=7 from rfl,if_pos rfl] at h
  split at h
  ·obtain ⟨w',hw',hvv⟩:∃w',w'=(if op=8 then px else py)∧Rel B w' v∧s'=s1+1:=by
    rcases h89 with rfl | rfl
    ·rw [show (RV.node 7 m0 [va,vx,vy]).k[(1+8 - 8:Int).toNat]?=some vx from rfl] at h
     simp only [Axd,Axa,Axb] at h;obtain ⟨rfl,rfl,_⟩:=h;exact ⟨px,rfl,rx,rfl⟩
    ·rw [show (RV.node 7 m0 [va,vx,vy]).k[(1+9 - 8:Int).toNat]?=some vy from rfl] at h
     simp only [Axd,Axa,Axb] at h;obtain ⟨rfl,rfl,_⟩:=h;exact ⟨py,rfl,ry,rfl⟩
   obtain ⟨hrel,rfl⟩:=hvv;refine ⟨k1+1,1+c1,u1,1+(T1+1),by omega,⟨?_,by omega,.inl (by omega),fun h=>by omega⟩,by omega,w',hrel,Dj h1 (by simp) q11 (GM (k:=0) (T:=0) hrule (Ld hrel) ⟨1,fun g hg m hm=>?_⟩)⟩
   ·rw [Tm.surf,Tm.inn,Nat.add_mul];omega
   ·obtain ⟨g,rfl⟩:∃k,g=k+1:=⟨g - 1,by omega⟩;rw [hp0,Arl _ _ _ h89,Pi hm.e,hw']
  ·simp at h
 by_cases h30:op=30
 ·subst h30;rw [show ar 30=some 1 by decide,Axa] at har
  obtain ⟨x,rfl⟩:=FN har.symm;obtain ⟨v0,rfl⟩:=FN q6;obtain ⟨p0,rfl⟩:=FN q7;have r0:=q9 0 p0 v0 (by decide) rfl rfl;have hx:=hgn.2.2.2.2.2.2.1 rfl x (by simp);rw [hVo,if_neg h5,if_neg h89,if_pos rfl,hVk] at h;simp only [List.getElem?_cons_zero] at h;simp only [GT] at q3;rw [if_neg (by decide)] at q3;by_cases h19:v0.op=19
  ·rw [if_pos h19] at h;obtain ⟨n',kp,ts,e0,env0,hp0,b1,b2,b3,b4,b5,b6⟩:=Il r0 (by rw [h19];decide);rw [h19,show ar 19=some 1 by decide,Axa] at b1
   obtain ⟨y,hy⟩:=FN (b3.trans b1.symm);obtain ⟨py,rfl⟩:=FN (b2.trans b1.symm);have ry:=b4 0 py y (by rw [h19];decide) rfl (by rw [hy];rfl);rw [hy] at h;simp only [List.getElem?_cons_zero,Axd] at h;split at h
   ·simp only [Axa,Axb] at h;obtain ⟨rfl,rfl,_⟩:=h;refine ⟨k1+1,1+c1,u1,1+(T1+1),by omega,⟨?_,by omega,.inl (by omega),fun h=>by omega⟩,by omega,py,ry,Dj h1 (by simp) q11 (GM (k:=0) (T:=0) hrule (Ld ry) ⟨1,fun g hg m hm=>?_⟩)⟩
    ·rw [Tm.surf,Tm.inn,Nat.add_mul];omega
    ·obtain ⟨g,rfl⟩:∃k,g=k+1:=⟨g - 1,by omega⟩;rw [hp0,h19,Art,Pi hm.e]
   ·simp at h
  ·rw [if_neg h19] at h;simp only [Axa,Axb] at h;obtain ⟨rfl,rfl,_⟩:=h;obtain ⟨o0,n0,k0,t0,e0,hp0,ho0,_⟩:=Og r0;have hns:¬ (x.op=19∧v0.op=19∨x.op=30∧v0.op=30):=by
    rintro (⟨_,h⟩ | ⟨h,_⟩)
    ·exact h19 h
    ·exact hx h
   rw [if_neg hns] at q3;refine ⟨k1,1+c1,u1+1,1+(T1+1),q1,⟨?_,by omega,.inr (.inr ⟨rfl,hVo⟩),fun h=>?_⟩,by omega,_,hnode,Dj (kh:=0) h1 (by simp) q11 (Ow hrule ⟨1,fun g hg m=>?_⟩)⟩
   ·rw [Tm.surf,Tm.inn];omega
   ·have:=q4 h;rw [Tm.surf,hVz];omega
   ·obtain ⟨g,rfl⟩:∃k,g=k+1:=⟨g - 1,by omega⟩;rw [hp0,Apa _ _ _ _ _ _ _ _ _ _ (by rw [← ho0];exact h19)]
 by_cases h19:op=19
 ·subst h19;rw [show ar 19=some 1 by decide,Axa] at har
  obtain ⟨x,rfl⟩:=FN har.symm;obtain ⟨v0,rfl⟩:=FN q6;obtain ⟨p0,rfl⟩:=FN q7;have r0:=q9 0 p0 v0 (by decide) rfl rfl;have hx:=hgn.2.2.2.2.2.1 rfl x (by simp);rw [hVo,if_neg h5,if_neg h89,if_neg h30,if_pos rfl,hVk] at h;simp only [List.getElem?_cons_zero] at h;simp only [GT] at q3;rw [if_neg (by decide)] at q3;by_cases hv30:v0.op=30
  ·rw [if_pos hv30] at h;obtain ⟨n',kp,ts,e0,env0,hp0,b1,b2,b3,b4,b5,b6⟩:=Il r0 (by rw [hv30];decide);rw [hv30,show ar 30=some 1 by decide,Axa] at b1
   obtain ⟨y,hy⟩:=FN (b3.trans b1.symm);obtain ⟨py,rfl⟩:=FN (b2.trans b1.symm);have ry:=b4 0 py y (by rw [hv30];decide) rfl (by rw [hy];rfl);rw [hy] at h;simp only [List.getElem?_cons_zero,Axd] at h;split at h
   ·simp only [Axa,Axb] at h;obtain ⟨rfl,rfl,_⟩:=h;refine ⟨k1+1,1+c1,u1,1+(T1+1),by omega,⟨?_,by omega,.inl (by omega),fun h=>by omega⟩,by omega,py,ry,Dj h1 (by simp) q11 (GM (k:=0) (T:=0) hrule (Ld ry) ⟨1,fun g hg m hm=>?_⟩)⟩
    ·rw [Tm.surf,Tm.inn,Nat.add_mul];omega
    ·obtain ⟨g,rfl⟩:∃k,g=k+1:=⟨g - 1,by omega⟩;rw [hp0,hv30,Ar7,Pi hm.e]
   ·simp at h
  ·rw [if_neg hv30] at h;simp only [Axa,Axb] at h;obtain ⟨rfl,rfl,_⟩:=h;obtain ⟨o0,n0,k0,t0,e0,hp0,ho0,_⟩:=Og r0;have hns:¬ (x.op=19∧v0.op=19∨x.op=30∧v0.op=30):=by
    rintro (⟨h,_⟩ | ⟨_,h⟩)
    ·exact hx h
    ·exact hv30 h
   rw [if_neg hns] at q3;refine ⟨k1,1+c1,u1+1,1+(T1+1),q1,⟨?_,by omega,.inr (.inl ⟨rfl,hVo⟩),fun h=>?_⟩,by omega,_,hnode,Dj (kh:=0) h1 (by simp) q11 (Ow hrule ⟨1,fun g hg m=>?_⟩)⟩
   ·rw [Tm.surf,Tm.inn];omega
   ·have:=q4 h;rw [Tm.surf,hVz];omega
   ·obtain ⟨g,rfl⟩:∃k,g=k+1:=⟨g - 1,by omega⟩;rw [hp0,Anm _ _ _ _ _ _ _ _ _ _ (by rw [← ho0];exact hv30)]
 have h13:op=13:=by omega
 subst h13;rw [show ar 13=some 4 by decide,Axa] at har
 obtain ⟨b0,z,b2,nn,rfl⟩:=Ux har.symm;obtain ⟨w0,vz,w2,vn,rfl⟩:=Ux q6;obtain ⟨p0,pz,p2,pn,rfl⟩:=Ux q7;obtain ⟨x0,y0⟩:=q8 0 b0 rfl (by decide);obtain ⟨x2,y2⟩:=q8 2 b2 rfl (by decide);simp only [List.getElem?_cons_succ,List.getElem?_cons_zero,Axa] at x0 y0 x2 y2;subst x0 y0 x2 y2;have rz:=q9 1 pz vz (by decide) rfl rfl;have rn:=q9 3 pn vn (by decide) rfl rfl;have hgd:=hgn.2.2.2.2.2.2.2 rfl b0 z b2 nn rfl;have hn0:=hgn.2.2.1 rfl;simp only [Tm.goodL,and_true] at hgl;simp only [Tm.wtL] at hw;rw [hV] at h00 hnode;obtain ⟨kr,cr,ur,Tr,a1,a2,a3,a4,a5,w',a6,a7⟩:=Aij (f+1) (fun g hg=>ih g (by omega)) s1 n n env b0 b2 vz vn v s' e pz pn n [b0,z,b2,nn] h00 rz rn he rfl hgl.2.2.1 (by omega) (fun _=>hnode) (by
  intro px vx hx;rw [hn0];refine .node 13 0 0 [.nil,pz,.nil,px] [.clo env b0,vz,.clo env b2,vx] [b0,z,b2,nn] e env (by decide) (show ar 13=some 4 by decide) rfl rfl ?_ ?_ he.1 he.2
  ·intro i p r hb hp hr
   match i with
   | 0=>exact absurd hb (by decide)
   | 1=>simp only [List.getElem?_cons_succ,List.getElem?_cons_zero,Axa] at hp hr;subst hp hr;exact rz
   | 2=>exact absurd hb (by decide)
   | 3=>simp only [List.getElem?_cons_succ,List.getElem?_cons_zero,Axa] at hp hr;subst hp hr;exact hx
   | i+4=>simp at hp
  ·intro i b hb hi
   match i with
   | 0=>simp only [List.getElem?_cons_zero,Axa] at hi;subst hi;exact ⟨⟨hgl.1,by omega⟩,rfl,rfl⟩
   | 1=>exact absurd hb (by decide)
   | 2=>simp only [List.getElem?_cons_succ,List.getElem?_cons_zero,Axa] at hi;subst hi;exact ⟨⟨hgl.2.2.1,by omega⟩,rfl,rfl⟩
   | 3=>exact absurd hb (by decide)
   | i+4=>simp at hi)
 have hiw:b2.wt≤Tm.innL 13 0 [b0,z,b2,nn]:=by
  simp only [Tm.innL];rw [if_pos (by decide),if_neg (by decide),if_pos (by decide),if_neg (by decide)];omega
 have hsl:GT 13 0 [b0,z,b2,nn] [.clo env b0,vz,.clo env b2,vn]=2:=by
  simp only [GT];rw [if_pos (show 0<Am 13 0 by decide),if_neg (show ¬ 0<Am 13 (0+1) by decide),if_pos (show 0<Am 13 (0+1+1) by decide),if_neg (show ¬ 0<Am 13 (0+1+1+1) by decide),if_neg (by rintro (⟨h,_⟩ | ⟨h,_⟩);exact hgd.1.1 h;exact hgd.1.2 h),if_neg (by rintro (⟨h,_⟩ | ⟨h,_⟩);exact hgd.2.1 h;exact hgd.2.2 h)]
 rw [hsl] at q3;have hle:1+(c1+cr)≤(Tm.mk 13 n [b0,z,b2,nn]).surf+(k1+kr) * (Tm.mk 13 n [b0,z,b2,nn]).inn:=by
  rw [Tm.surf,Tm.inn,Nat.add_mul];have e2:kr * b2.wt≤kr * Tm.innL 13 0 [b0,z,b2,nn]:=Nat.mul_le_mul_left _ hiw;omega
 by_cases hk0:kr=0
 ·obtain ⟨z1,z2,z3⟩:=a5 hk0;subst hk0 z1 z2;rw [if_pos rfl] at a4;refine ⟨k1+0,1+(c1+0),u1+1,1+(T1+Tr),by omega,⟨hle,by omega,.inl (by omega),fun h=>?_⟩,by omega,w',a6,Dj h1 (by simp) q11 a7⟩
  have:=q4 (by omega)
  rw [z3,← hV,Tm.surf,hVz];omega
 ·rw [if_neg hk0] at a4;exact ⟨k1+kr,1+(c1+cr),u1+ur,1+(T1+Tr),by omega,⟨hle,by omega,.inl (by omega),fun h=>by omega⟩,by omega,w',a6,Dj h1 (by simp) q11 a7⟩
theorem RC {f:Nat} (op:Int) (env:List RV) (ih:∀s t v s',AE f s 0 t env=some (v,s',0)→s≤1000→s'≤1000):∀(l:List Tm) (i:Nat) (s:Int) (vs:List RV) (s':Int),A0 (fun s e t=>AE f s e t env) op env i l s 0=some (vs,s',0)→s≤1000→s'≤1000
 | [],i,s,vs,s',h,hs=>by
  simp only [A0,Axa,Axb] at h;omega
 | t::l,i,s,vs,s',h,hs=>by
  simp only [A0] at h;split at h
  ·cases hk:A0 (fun s e t=>AE f s e t env) op env (i+1) l s 0 with
   | none=>rw [hk] at h;cases h
   | some q =>
    obtain ⟨vs1,s1,e1⟩:=q;rw [hk] at h;simp only [Axd,Axa,Axb] at h;obtain ⟨_,rfl,rfl⟩:=h;exact RC op env ih l _ _ _ _ hk hs
  ·split at h
   ·cases h
   ·rename_i v s1 e1 he;cases hk:A0 (fun s e t=>AE f s e t env) op env (i+1) l s1 e1 with
    | none=>rw [hk] at h;cases h
    | some q =>
     obtain ⟨vs2,s2,e2⟩:=q;rw [hk] at h;simp only [Axd,Axa,Axb] at h;obtain ⟨_,rfl,rfl⟩:=h;have h0:=Hz _ (fun s e t v s' h=>Cr h) op env l _ _ _ _ _ hk;subst h0;exact RC op env ih l _ _ _ _ hk (ih _ _ _ _ he hs)
theorem AmF:∀f,(
           ∀s t env v s',AE f s 0 t env=some (v,s',0)→s≤1000→s'≤1000)∧(∀s v w s',headR f s 0 v=some (w,s',0)→s≤1000→s'≤1000):=by
 intro f
 induction f with
 | zero=>exact ⟨(by intro s t env v s' h;rw [AE] at h;cases h),(by intro s v w s' h;rw [headR] at h;cases h)⟩
 | succ f ih =>
  refine ⟨?_,?_⟩
  ·intro s t env v s' h hs;obtain ⟨op,n,ks⟩:=t;rw [AE] at h;rw [if_neg (by simp)] at h;split at h
   ·cases h
   split at h
   ·split at h
    ·split at h
     ·cases hr:env[((env.length:Int) - 1 - n).toNat]? with
      | none=>rw [hr] at h;cases h
      | some r =>
       rw [hr] at h;simp only [Axd,Axa,Axb] at h;omega
     ·cases h
    ·split at h
     ·simp only [Axa,Axb] at h;omega
     ·cases h
   split at h
   ·cases h
   split at h
   ·cases h
   split at h
   ·cases h
   rename_i vs s1 e1 hk;have he:=HB h;subst he;exact ih.2 _ _ _ _ h (RC op env (fun s t v s'=>ih.1 s t env v s') ks _ _ _ _ hk hs)
  ·intro s v w s' h hs;rw [headR] at h;rw [if_neg (by simp)] at h;split at h
   ·cases h
   split at h
   ·split at h
    ·cases h
    ·split at h
     ·split at h
      ·split at h
       ·split at h
        ·cases h
        ·exact ih.1 _ _ _ _ _ h (by omega)
       ·cases h
      ·simp at h
     ·simp only [Axa,Axb] at h;omega
   split at h
   ·split at h
    ·cases h
    ·rename_i k0 _;split at h
     ·split at h
      ·cases hx:k0.k[(1+v.op - 8).toNat]? with
       | none=>rw [hx] at h;cases h
       | some x=>rw [hx] at h;simp only [Axd,Axa,Axb] at h;omega
      ·simp at h
     ·simp only [Axa,Axb] at h;omega
   split at h
   ·split at h
    ·cases h
    ·rename_i k0 _;split at h
     ·split at h
      ·cases hx:k0.k[0]? with
       | none=>rw [hx] at h;cases h
       | some x=>rw [hx] at h;simp only [Axd,Axa,Axb] at h;omega
      ·simp at h
     ·simp only [Axa,Axb] at h;omega
   split at h
   ·split at h
    ·cases h
    ·rename_i k0 _;split at h
     ·split at h
      ·cases hx:k0.k[0]? with
       | none=>rw [hx] at h;cases h
       | some x=>rw [hx] at h;simp only [Axd,Axa,Axb] at h;omega
      ·simp at h
     ·simp only [Axa,Axb] at h;omega
   split at h
   ·split at h
    ·split at h
     ·split at h
      ·simp only [Axa,Axb] at h;omega
      ·simp at h
     ·split at h
      ·split at h
       ·split at h
        ·cases h
        ·split at h
         ·cases h
         ·rename_i vh s2 e2 hh;split at h
          ·cases h
          ·have he:=Cr h;subst he;exact ih.1 _ _ _ _ _ h (ih.2 _ _ _ _ hh (by omega))
       ·simp at h
      ·simp only [Axa,Axb] at h;omega
    ·cases h
   ·simp only [Axa,Axb] at h;omega
theorem Pq {f:Nat} {op u d:Int}:∀(l:List RV) (i:Nat) (s nd e:Int) (ts:List Tm) (s' nd':Int),Bc (fun s nd e k u=>AV f s nd e k u d) f op u i l s nd e=some (ts,s',nd',0)→e=0
 | [],i,s,nd,e,ts,s',nd',h=>by
  simp only [Bc,Axa,Axb] at h;exact h.2.2.2
 | k::l,i,s,nd,e,ts,s',nd',h=>by
  simp only [Bc] at h;split at h
  ·cases h
  rename_i k1 s1 e1 hk;split at h
  ·cases h
  rename_i t s2 nd2 e2 hr;cases hrest:Bc (fun s nd e k u=>AV f s nd e k u d) f op u (i+1) l s2 nd2 e2 with
  | none=>rw [hrest] at h;cases h
  | some q =>
   obtain ⟨ts2,s3,nd3,e3⟩:=q;rw [hrest] at h;simp only [Axd,Axa,Axb] at h;obtain ⟨_,_,_,rfl⟩:=h
   have:=Pq l _ _ _ _ _ _ _ hrest
   subst this
   have:=Hw hr
   subst this;split at hk
   ·split at hk
    ·cases hk
    ·exact Cr hk
   ·simp only [Axa,Axb] at hk;exact hk.2.2
def AmL (B f:Nat):Prop:=∀(s nd:Int) (v:RV) (u d:Int) (t:Tm) (s' nd':Int),AV f s nd 0 v u d=some (t,s',nd',0)→0≤nd→∀v',Rel B v' v→∃k c uu T N:Nat,s'=s+k∧nd'=nd+N∧nd'≤3000∧(s≤1000→s'≤1000)∧c+v.vsz≤N+B * k∧2 * uu≤c+2 * k∧T≤N+c+uu+2 * k ∧
 ∃F,∀g,F≤g→∀m,MOk m k T→Ut g v' u d m nd=some (t,Gx m k T,nd')
theorem AoB {B:Nat} (u:Int) (b:Nat):∀(i:Nat) p r,(SI u b)[i]?=some p→(FK u b)[i]?=some r→Rel B p r:=by
 intro i p r hp hr;rw [SI,List.getElem?_map] at hp;rw [FK,List.getElem?_map] at hr;cases hx:(List.range b)[i]? with
 | none=>rw [hx] at hp;cases hp
 | some j =>
  rw [hx] at hp hr;simp only [Axd,Axa] at hp hr;subst hp hr;exact .var _
set_option maxHeartbeats 1000000 in
theorem Vv {B f:Nat} (ih:AmL B f) (op u d n n':Int) (kp0:List PV) (ts:List Tm) (e:List PV) (env:List RV) (he:Gw B e env):∀(l:List RV) (lp:List PV) (i:Nat) (s nd:Int) (rs:List Tm) (s' nd':Int),Bc (fun s nd e k u=>AV f s nd e k u (d+1)) f op u i l s nd 0=some (rs,s',nd',0)→0≤nd→nd≤3000→lp.length=l.length →
  (∀j p r,Am op (i+j)=0→lp[j]?=some p→l[j]?=some r→Rel B p r)→(∀j r,0<Am op (i+j)→l[j]?=some r→∃b,ts[i+j]?=some b∧b.good∧b.wt≤B∧r=.clo env b) →
  ∃k c uu T N:Nat,s'=s+k∧nd'=nd+N∧nd'≤3000∧(s≤1000→s'≤1000)∧c+RV.vszL op i l≤N+B * k∧2 * uu≤c+2 * k∧T≤N+c+uu+2 * k ∧
   ∃F,∀g,F≤g→∀m,MOk m k T→bkK (fun v below m r=>Ut g v below (d+1) m r) (fun i l m=>opP g (.mk op n kp0 (.mk op n' ts) e) i l m) op u i lp m nd=some (some rs,Gx m k T,nd')
 | [],lp,i,s,nd,rs,s',nd',h,h0,h3,hl,_,_=>by
  simp only [Bc,Axa,Axb] at h;obtain ⟨rfl,rfl,rfl,_⟩:=h
  have:lp=[]:=List.eq_nil_of_length_eq_zero hl
  subst this;refine ⟨0,0,0,0,0,by omega,by omega,h3,id,by simp [RV.vszL],by omega,by omega,0,fun g _ m hm=>?_⟩;rw [bkK,Pi hm.e]
 | k::l,lp,i,s,nd,rs,s',nd',h,h0,h3,hl,hA,hB=>by
  obtain ⟨p,lp,rfl⟩:∃p lp',lp=p::lp':=by
   cases lp with
   | nil=>cases hl
   | cons p lp=>exact ⟨p,lp,rfl⟩
  simp only [Bc] at h;split at h
  ·cases h
  rename_i k1 s1 e1 hk;split at h
  ·cases h
  rename_i t s2 nd2 e2 hr;cases hrest:Bc (fun s nd e k u=>AV f s nd e k u (d+1)) f op u (i+1) l s2 nd2 e2 with
  | none=>rw [hrest] at h;cases h
  | some q =>
  obtain ⟨ts2,s3,nd3,e3⟩:=q;rw [hrest] at h;simp only [Axd,Axa,Axb] at h;obtain ⟨rfl,rfl,rfl,rfl⟩:=h;have h2:=Pq l _ _ _ _ _ _ _ hrest;subst h2;have h1:=Hw hr;subst h1;have hA':∀j p r,Am op (i+1+j)=0→lp[j]?=some p→l[j]?=some r→Rel B p r:=fun j p r a b c=>hA (j+1) p r (by rwa [show i+(j+1)=i+1+j by omega]) b c
  have hB':∀j r,0<Am op (i+1+j)→l[j]?=some r→∃b,ts[i+1+j]?=some b∧b.good∧b.wt≤B∧r=.clo env b:=fun j r a b=>by
   obtain ⟨x,y⟩:=hB (j+1) r (by rwa [show i+(j+1)=i+1+j by omega]) b
   exact ⟨x,by rwa [show i+1+j=i+(j+1) by omega]⟩
  by_cases hb:0<Am op i
  ·rw [if_pos hb] at hk;split at hk
   ·cases hk
   obtain ⟨b,hb1,hb2,hb3,rfl⟩:=hB 0 k (by simpa using hb) rfl;rw [Nat.add_zero] at hb1;rw [show (RV.clo env b).env=env from rfl,show (RV.clo env b).b=b from rfl] at hk
   have hb22:=Bi op i;obtain ⟨ke,ce,ue,Te,d1,d2,d3,d4⟩:=Nd (TD B f) (l:=SI u (Am op i)) (l':=FK u (Am op i)) he (by rw [K1,Cp]) (AoB u _) hb2 hb3 hk;obtain ⟨w1,y1,F1,y2⟩:=Vu (op:=op) (n:=n) (n':=n') (ps:=kp0) hb1 (by rw [K1];exact hb22) d4;have hsle:=(AmF f).1 _ _ _ _ _ hk;obtain ⟨kr,cr,ur,Tr,Nr,r1,r2,r3,r4,r5,r6,r7,F2,r8⟩:=ih s1 nd k1 _ _ t s2 nd2 hr h0 w1 y1;obtain ⟨kk,cc,uu,TT,NN,q1,q2,q3,q4,q5,q6,q7,F3,q8⟩:=Vv ih op u d n n' kp0 ts e env he l lp (i+1) s2 nd2 ts2 s3 nd3 hrest (by omega) (by omega) (by simpa using hl) hA' hB';have hde:=d2.le;have hdp:=d2.p;have hsi:=MN b;refine ⟨ke+(kr+kk),ce+(cr+cc),ue+(ur+uu),Te+(Tr+TT),Nr+NN,by omega,by omega,q3,fun h=>q4 (r4 (hsle h)),?_,by omega,by omega,F1+F2+F3,fun g hg m hm=>?_⟩
   ·rw [RV.vszL,if_pos hb,Nat.mul_add,Nat.mul_add];have hce:ce≤k1.vsz+B * ke:=by
     cases hke:ke with
     | zero =>
      have:=d2.v hke
      rw [hke] at hde;omega
     | succ k' =>
      rw [hke] at hde;have e1:(k'+1) * b.wt≤(k'+1) * B:=Nat.mul_le_mul_left _ hb3;have e2:(k'+1) * b.wt=(k'+1) * b.surf+(k'+1) * b.inn:=by rw [← hsi,Nat.mul_add]
      have e3:b.surf≤(k'+1) * b.surf:=Nat.le_mul_of_pos_left _ (by omega);rw [Nat.mul_comm B];omega
    omega
   ·rw [bkK,if_pos hb,y2 g (by omega) m (NX hm)];have hm2:=Jc hm;simp only;rw [if_neg (by simp [Gx]),r8 g (by omega) _ (NX hm2)];simp only;rw [q8 g (by omega) _ (Jc hm2),Fc,Fc];simp only [Axd]
  ·rw [if_neg hb] at hk;simp only [Axa,Axb] at hk;obtain ⟨rfl,rfl,_⟩:=hk;have hb0:Am op i=0:=by omega
   have hrel:=hA 0 p k (by simpa using hb0) rfl rfl;obtain ⟨kr,cr,ur,Tr,Nr,r1,r2,r3,r4,r5,r6,r7,F2,r8⟩:=ih s nd k _ _ t s2 nd2 hr h0 p hrel;obtain ⟨kk,cc,uu,TT,NN,q1,q2,q3,q4,q5,q6,q7,F3,q8⟩:=Vv ih op u d n n' kp0 ts e env he l lp (i+1) s2 nd2 ts2 s3 nd3 hrest (by omega) (by omega) (by simpa using hl) hA' hB';refine ⟨kr+kk,cr+cc,ur+uu,Tr+TT,Nr+NN,by omega,by omega,q3,fun h=>q4 (r4 h),?_,by omega,by omega,F2+F3,fun g hg m hm=>?_⟩
   ·rw [RV.vszL,if_neg hb,Nat.mul_add];omega
   ·rw [bkK,if_neg hb];simp only;rw [if_neg (fun h=>h hm.e),r8 g (by omega) _ (NX hm)];simp only;rw [q8 g (by omega) _ (Jc hm),Fc];simp only [Axd]
theorem AeS (B:Nat):∀f,AmL B f:=by
 intro f
 induction f with
 | zero=>intro s nd v u d t s' nd' h;rw [AV] at h;cases h
 | succ f ih =>
  intro s nd v u d t s' nd' h h0 v' hv;rw [AV] at h;split at h
  ·cases h
  rename_i hr;by_cases hbig:3000<nd+1∨120<d
  ·rw [if_pos (show (0:Int)=0∧(3000<nd+1∨120<d) from ⟨rfl,hbig⟩)] at h
   simp at h
  rw [if_neg (show ¬ ((0:Int)=0∧(3000<nd+1∨120<d)) from fun h=>hbig h.2),if_neg (by simp)] at h
  have htick:∀{m:M3} {k T:Nat},MOk m k (1+T)→Hg ⟨m.s,m.w,if m.e=0∧(3000<nd+1∨120<d) then 5 else m.e⟩=some (Gx m 0 1):=by
   intro m k T hm;rw [if_neg (fun h=>hbig h.2)];exact M5 hm
  by_cases h1:v.op=1
  ·rw [if_pos h1] at h;simp only [Axa,Axb] at h;obtain ⟨rfl,rfl,rfl,_⟩:=h;obtain ⟨op,n,k,t0,e0,rfl,ho,hn⟩:=Og hv;have hvz:v.vsz=1:=by
    cases hv with
    | var n=>simp [RV.var,RV.vsz,RV.vszL]
    | node op n n' kp kr ts e env h1'=>exact absurd h1 h1'
   refine ⟨0,0,0,1,1,by omega,by omega,by omega,id,by omega,by omega,by omega,1,fun g hg m hm=>?_⟩;obtain ⟨g,rfl⟩:∃k,g=k+1:=⟨g - 1,by omega⟩;rw [Ut,if_neg (by omega),htick (k:=0) (T:=0) hm];simp only;rw [if_neg (by simp [Gx]),if_pos (by rw [← ho];exact h1),if_neg (by rw [← hn];omega),hn]
  ·rw [if_neg h1] at h;obtain ⟨n',kp,ts,e,env,rfl,b1,b2,b3,b4,b5,b6⟩:=Il hv h1;have b14:=Ae7 b1;cases hk:Bc (fun s nd e k u=>AV f s nd e k u (d+1)) f v.op u 0 v.k s (nd+1) 0 with
   | none=>rw [hk] at h;cases h
   | some q =>
   obtain ⟨rs,s1,nd1,e1⟩:=q;rw [hk] at h;simp only [Axd,Axa,Axb] at h;obtain ⟨rfl,rfl,rfl,rfl⟩:=h;obtain ⟨kk,cc,uu,TT,NN,q1,q2,q3,q4,q5,q6,q7,F3,q8⟩:=Vv ih v.op u d v.n n' kp ts e env b6 v.k kp 0 s (nd+1) rs s1 nd1 hk (by omega) (by omega) (by omega) (fun j p r a b c=>b4 j p r (by simpa using a) b c) (by
    intro j r a b;rw [Nat.zero_add] at a ⊢;have hj:j<ts.length:=by
     have:=(List.getElem?_eq_some_iff.1 b).1
     omega
    obtain ⟨⟨g1,g2⟩,_,g3⟩:=b5 j ts[j] a (List.getElem?_eq_getElem hj);rw [b,Axa] at g3;exact ⟨ts[j],List.getElem?_eq_getElem hj,g1,g2,g3⟩)
   have hvz:v.vsz=1+RV.vszL v.op 0 v.k:=by obtain ⟨a,b,c,d,e⟩:=v;rw [RV.vsz];rfl
   refine ⟨kk,cc,uu,1+TT,1+NN,q1,by omega,q3,q4,by omega,by omega,by omega,F3+20,fun g hg m hm=>?_⟩;obtain ⟨g,rfl⟩:∃k,g=k+1:=⟨g - 1,by omega⟩;have hm':MOk (Gx m 0 1) kk TT:=Jc (k1:=0) ⟨hm.e,hm.w,hm.w2,by have:=hm.s;omega,hm.s2⟩;rw [Ut,if_neg (by omega),htick hm];simp only;rw [if_neg (by simp [Gx]),if_neg h1,if_neg (by omega),q8 g (by omega) _ hm',Fc];simp only [Nat.zero_add]
theorem AeD {f:Nat} {t u:Tm} (hg:t.good) (hw:t.wt≤3000) (hs:t.shaped=true) (h:A5 f t=some (u,0)):∃F,∀g,F≤g→Tf g t=some (u,0):=by
 rw [A5] at h;split at h
 ·cases h
 rename_i v s e he;split at h
 ·cases h
 rename_i w s2 nd2 e2 hr;simp only [Axa] at h;by_cases h2:e2=0
 ·subst h2;rw [if_neg (by simp)] at h;simp only [Axb,and_true] at h;subst h;have h1:=Hw hr;subst h1;obtain ⟨k0,c0,u0,T0,a1,a2,a3,v',a4,F0,a5⟩:=TD 3000 f 0 t [] v s he hg hw [] (Vn _);obtain ⟨k1,c1,u1,T1,N,r1,r2,r3,r4,r5,r6,r7,F1,r8⟩:=AeS 3000 f s 0 v 0 1 w s2 nd2 hr (by omega) v' a4;have hs1:=(AmF f).1 _ _ _ _ _ he (by omega);have hs2:=r4 hs1;have hc:=Qh a2;have hp:=a2.p;have hk:k0+k1≤1000:=by omega
  have hc2:(k0+1) * t.wt≤(k0+1) * 3000:=Nat.mul_le_mul_left _ hw;have hvp:=Zf v;refine ⟨F0+F1,fun g hg=>?_⟩;have hm:MOk ⟨100000,5000000,0⟩ (k0+k1) (T0+T1):=⟨rfl,by simp only;omega,by simp,by simp only;omega,by simp⟩;rw [Tf,if_neg (by rw [hs];simp),a5 g (by omega) _ (NX hm)];simp only;rw [if_neg (by simp [Gx]),r8 g (by omega) _ (Jc hm)];simp only;rw [if_neg (by simp [Gx])]
 ·rw [if_pos h2] at h;simp only [Axb] at h;exact absurd h.2 h2
theorem Adt {op:Int} {s:Nat} {sg:Lv} (h:Rule op s sg):Bo op=(sg.length:Int):=by cases h<;>rfl
theorem Vt {op n:Int} (h1:op≠1) (h:BK op n):ML op n=true:=by
 unfold BK at h;unfold ML;rw [if_neg h1];by_cases h2:op=2
 ·rw [if_pos h2] at h ⊢;simp [h]
 rw [if_neg h2] at h ⊢;by_cases h26:op=26
 ·rw [if_pos h26] at h ⊢;simp [h]
 rw [if_neg h26] at h ⊢;by_cases h25:op=25
 ·rw [if_pos h25]
 rw [if_neg h25] at h ⊢;simp [h]
theorem ST {d:Int}:∀(l:List Tm) (n:Int),(∀(i:Nat) t,l[i]?=some t→∀n:Int,n+t.wt≤3000→t.chk n d=(n+t.wt,0))→n+Tm.wtL l≤3000→Tm.chkL l n d=(n+Tm.wtL l,0)
 | [],n,_,_=>by simp [Tm.chkL,Tm.wtL]
 | t::l,n,h,hw=>by
  simp only [Tm.wtL] at hw;have h1:=h 0 t rfl n (by omega);rw [Tm.chkL,h1];simp only [if_true];rw [ST l (n+t.wt) (fun i t a=>h (i+1) t (by simpa using a)) (by omega)];simp only [Tm.wtL,Axb,and_true];omega
theorem AoW {G:List Nat} {t:Tm} {s:Nat} (h:NfT G t s):∀(k:Nat) (n d:Int),t.sc k→k+2 * t.dp≤3000→n+t.wt≤3000→d+t.dp≤121→t.chk n d=(n+t.wt,0):=by
 induction h with
 | var G m s h0 h hs =>
  intro k n d hsc hk hw hd;simp only [Tm.wt,Tm.wtL] at hw;simp only [Tm.dp,Tm.dpL] at hd hk;rw [Tm.sc,if_pos rfl] at hsc;rw [Tm.chk,if_neg (by omega),if_neg (by simp [Bo,ML];omega),Tm.chkL];simp [Tm.wt,Tm.wtL]
 | node G op m ks s sg hr hl hst hk ih =>
  intro k n d hsc hkk hw hd;simp only [Tm.wt] at hw;simp only [Tm.dp] at hd hkk;rw [Tm.sc,if_neg (El hr).1] at hsc;have hc:¬ (Bo op≠(ks.length:Int)∨ML op m=false):=by
   rw [Adt hr,hl,Vt (El hr).1 hsc.2.1];simp
  rw [Tm.chk,if_neg (by omega),if_neg hc];rw [ST ks (n+1) (fun i t a n' hn'=>by
   have hi:i<sg.length:=by rw [← hl];exact (List.getElem?_eq_some_iff.1 a).1
   have hwt:=Jo a;have hdt:=QA a;have hbn:=Bi op i;have hs:=Lq hsc.2.2 a;rw [Nat.zero_add] at hs;exact ih i t _ _ a (List.getElem?_eq_getElem hi) (k+Am op i) n' (d+1) hs (by omega) hn' (by omega)) (by omega)]
  simp only [Tm.wt,Axb,and_true];omega
theorem NJ:∀{l:List Tm},(∀(i:Nat) t,l[i]?=some t→t.plainP=true)→Tm.plainPL l=true
 | [],_=>rfl
 | x::l,h=>by
  rw [Tm.plainPL,h 0 x rfl,NJ fun i t hi=>h (i+1) t (by simpa using hi)];rfl
theorem Ary {G:List Nat} {t:Tm} {s:Nat} (h:NfT G t s):(∀x∈G,x=6)→(s=6∨s=1→t.plainP=true)∧(s=0→t.op=11∨t.op=12)∧(s=3→t.op=19):=by
 induction h with
 | var G n s h0 h hs =>
  intro hG
  have:=hG s (List.mem_of_getElem? h)
  subst this;exact ⟨fun _=>by simp [Tm.plainP,Tm.plainPL,okP],by omega,by omega⟩
 | node G op n ks s sg hr hl hst hk ih =>
  intro hG;have h6:∀x∈([6]++G),x=6:=by
   intro x hx;rcases List.mem_append.1 hx with hx | hx
   ·simpa using hx
   ·exact hG x hx
  have key:okP op=true→(∀(i:Nat) bs s',sg[i]?=some (bs,s')→(bs=[]∨bs=[6])∧(s'=6∨s'=1))→(Tm.mk op n ks).plainP=true:=by
   intro ho hs;rw [Tm.plainP,ho,NJ]
   ·rfl
   ·intro i t hi;have hlt:i<sg.length:=by rw [← hl];exact (List.getElem?_eq_some_iff.1 hi).1
    have hsg:sg[i]?=some (sg[i].1,sg[i].2):=List.getElem?_eq_getElem hlt;obtain ⟨h1,h2⟩:=hs i _ _ hsg;rcases h1 with h1 | h1
    ·rw [h1] at hsg;exact (ih i t [] _ hi hsg (by simpa using hG)).1 h2
    ·rw [h1] at hsg;exact (ih i t [6] _ hi hsg h6).1 h2
  have k1:∀{i:Nat} {a b:List Nat×Nat} {bs:List Nat} {s':Nat},[a,b][i]?=some (bs,s')→(bs,s')=a∨(bs,s')=b:=by
   intro i a b bs s' h
   match i with
   | 0=>simp at h;exact .inl h.symm
   | 1=>simp at h;exact .inr h.symm
   | i+2=>simp at h
  have k0:∀{i:Nat} {a:List Nat×Nat} {bs:List Nat} {s':Nat},[a][i]?=some (bs,s')→(bs,s')=a:=by
   intro i a bs s' h
   match i with
   | 0=>simp at h;exact h.symm
   | i+1=>simp at h
  have k3:∀{i:Nat} {a b c:List Nat×Nat} {bs:List Nat} {s':Nat},[a,b,c][i]?=some (bs,s')→(bs,s')=a∨(bs,s')=b∨(bs,s')=c:=by
   intro i a b c bs s' h
   match i with
   | 0=>simp at h;exact .inl h.symm
   | 1=>simp at h;exact .inr (.inl h.symm)
   | 2=>simp at h;exact .inr (.inr h.symm)
   | i+3=>simp at h
  have two:∀{b1 b2:List Nat} {s1 s2:Nat},(b1=[]∨b1=[6])∧(s1=6∨s1=1)→(b2=[]∨b2=[6])∧(s2=6∨s2=1)→∀(i:Nat) bs s',[(b1,s1),(b2,s2)][i]?=some (bs,s')→(bs=[]∨bs=[6])∧(s'=6∨s'=1):=by
   intro b1 b2 s1 s2 h1 h2 i bs s' h;rcases k1 h with h | h<;>(simp only [Axb] at h;obtain ⟨rfl,rfl⟩:=h)
   ·exact h1
   ·exact h2
  have one:∀{b1:List Nat} {s1:Nat},(b1=[]∨b1=[6])∧(s1=6∨s1=1)→∀(i:Nat) bs s',[(b1,s1)][i]?=some (bs,s')→(bs=[]∨bs=[6])∧(s'=6∨s'=1):=by
   intro b1 s1 h1 i bs s' h;have h:=k0 h;simp only [Axb] at h;obtain ⟨rfl,rfl⟩:=h;exact h1
  have thr:∀{b1 b2 b3:List Nat} {s1 s2 s3:Nat},(b1=[]∨b1=[6])∧(s1=6∨s1=1)→(b2=[]∨b2=[6])∧(s2=6∨s2=1)→(b3=[]∨b3=[6])∧(s3=6∨s3=1)→∀(i:Nat) bs s',[(b1,s1),(b2,s2),(b3,s3)][i]?=some (bs,s')→(bs=[]∨bs=[6])∧(s'=6∨s'=1):=by
   intro b1 b2 b3 s1 s2 s3 h1 h2 h3 i bs s' h;rcases k3 h with h | h | h<;>(simp only [Axb] at h;obtain ⟨rfl,rfl⟩:=h)
   ·exact h1
   ·exact h2
   ·exact h3
  have e6:(([]:List Nat)=[]∨([]:List Nat)=[6])∧(6=6∨6=1):=by simp
  have e1:(([]:List Nat)=[]∨([]:List Nat)=[6])∧(1=6∨1=1):=by simp
  have b6:(([6]:List Nat)=[]∨([6]:List Nat)=[6])∧(6=6∨6=1):=by simp
  have nil:∀(i:Nat) bs s',([]:Lv)[i]?=some (bs,s')→(bs=[]∨bs=[6])∧(s'=6∨s'=1):=fun i bs s' h=>by simp at h
  cases hr with
  | recR _ s0 hs =>
   obtain ⟨a,b,c,d,rfl⟩:=Ux hl;have h3:=(ih 3 d [] 0 rfl rfl (by simpa using hG)).2.1 rfl
   have:=hst.2.2 rfl d rfl
   omega
  | spl =>
   obtain ⟨a,rfl⟩:=FN hl;have h3:=(ih 0 a [] 3 rfl rfl (by simpa using hG)).2.2 rfl;exact absurd h3 (hst.1 rfl a rfl)
  | zero=>exact ⟨by omega,fun _=>.inl rfl,by omega⟩
  | suc=>exact ⟨by omega,fun _=>.inr rfl,by omega⟩
  | quo=>exact ⟨by omega,by omega,fun _=>rfl⟩
  | tint=>exact ⟨fun _=>key rfl nil,by omega,by omega⟩
  | tfun=>exact ⟨fun _=>key rfl (two e1 e1),by omega,by omega⟩
  | tpro=>exact ⟨fun _=>key rfl (two e1 e1),by omega,by omega⟩
  | olam=>exact ⟨fun _=>key rfl (two e1 b6),by omega,by omega⟩
  | oapp=>exact ⟨fun _=>key rfl (two e6 e6),by omega,by omega⟩
  | opair=>exact ⟨fun _=>key rfl (two e6 e6),by omega,by omega⟩
  | ofst=>exact ⟨fun _=>key rfl (one e6),by omega,by omega⟩
  | osnd=>exact ⟨fun _=>key rfl (one e6),by omega,by omega⟩
  | oint=>exact ⟨fun _=>key rfl nil,by omega,by omega⟩
  | oprim=>exact ⟨fun _=>key rfl (two e6 e6),by omega,by omega⟩
  | oif=>exact ⟨fun _=>key rfl (thr e6 e6 e6),by omega,by omega⟩
  | olet=>exact ⟨fun _=>key rfl (two e6 b6),by omega,by omega⟩
  | ofix=>exact ⟨fun _=>key rfl (two e1 b6),by omega,by omega⟩
  | _=>exact ⟨by omega,by omega,by omega⟩
theorem AfK (b:Bool) (k:IV→Option (IV×Hp)):Ch EE 4 (.fv (.bool b)) (.fv (.bool b)) k=k (.fv (.bool false)):=by
 cases b<;>rfl
theorem Uy {u:Tm} {k:Nat} (hn:NfT [] u 6) (hsc:u.sc k) (hk:k≤100) (hw:u.wt≤3000) (hd:u.dp≤120):Ev 16 [.fv u.enc] (.tuple [u.enc,.int .i64 0]):=by
 obtain ⟨f,hf⟩:=Tv (Ak8 hn) hsc (by omega) hw hd;obtain ⟨F,hF⟩:=AeD (Adl (JD hn) k hsc (by omega)) hw (O1 u k hsc) hf;have hp:=(Ary hn (fun x h=>by simp at h)).1 (.inl rfl);have hck:(u.chk 0 1).2=0:=by rw [AoW hn k 0 1 hsc (by omega) (by omega) (by omega)]
 exact ⟨F+100000,fun n hn'=>AfJ (f:=F) hck (hF F (Nat.le_refl _)) hp (by omega) (by omega) (by omega) (by omega)⟩
set_option maxRecDepth 20000 in
set_option maxHeartbeats 16000000 in
theorem OK (r s q:Tm):∃N,Ar3 (SS dt N 4 [.fv r.enc,.fv s.enc,.fv q.enc] ⟨[],[]⟩) (.bool true):=by
 obtain ⟨t,⟨N0,hmk⟩,tw⟩:=AiQ 6 (by omega) r 2 (by omega) (by omega);have tw:t.wt≤5461:=tw;obtain ⟨g,a,u,is,⟨N1,h1⟩,hC,hpl,hnil⟩:=Alc [] (by simp) s q true;have hg:=hnil rfl;subst hg;have hsc:=hC.tsc;obtain ⟨c,e,⟨N2,h2⟩,hcase,f,hf⟩:=K8 (k:=0) (by omega) hsc (by have:=hC.tdp;omega);obtain ⟨N3,h3⟩:∃N3,is=true→e=0→∀n,N3≤n→BE (SS dt n 16 [.fv c.enc] ⟨[],[]⟩) (.tuple [c.enc,.int .i64 0]):=by
  by_cases hh:is=true∧e=0
  ·obtain ⟨rfl,rfl⟩:=hh;rcases hcase with ⟨_,hu⟩ | ⟨h,_⟩
   case inr=>omega
   have hgt:=hC.gt rfl;have ha:HasT [] a 1:=by rw [hpl rfl];exact Cy [] 2 q
   have ht:=(AsY hgt [] Aga).2.2.1 rfl ha;obtain ⟨N3,h3⟩:=Uy (Gz hf ht) hu.sc (by omega) hu.wt hu.dp;exact ⟨N3,fun _ _=>h3⟩
  ·exact ⟨0,fun a b=>absurd ⟨a,b⟩ hh⟩
 have cw:c.wt≤3000:=by
  rcases hcase with ⟨_,h⟩ | ⟨_,rfl⟩
  ·exact h.wt
  ·simp [Tm.z,Tm.wt,Tm.wtL]
 have hz:e≠0→c=.z:=by
  intro he;rcases hcase with ⟨h,_⟩ | ⟨_,h⟩
  ·exact absurd h he
  ·exact h
 obtain ⟨n,hn⟩:∃n,n=N0+N1+N2+N3+r.wt+q.wt+s.wt+10000000000:=⟨_,rfl⟩;refine ⟨n+1,?_⟩;have hmk:=hmk n (by omega);have h1:=h1 n (by omega);have hk:=Um (n:=n) (by omega);obtain ⟨m,hmn⟩:∃m,n=m+1:=⟨n - 1,by omega⟩;have fr:=VW (n:=m) r (by omega);have fq:=VW (n:=m) q (by omega);have fs:=VW (n:=m) s (by omega);have h2:=AcP (h2 m (by omega)) hz;rw [← hmn] at fr fq fs h2;have p1:=Pd (n:=n) t (by omega) (by omega);have p2:=Adf n t (by omega) (by omega);have s1:=MA n c c (by omega) (by omega);rw [(QY c c).2 rfl] at s1;rw [c4];rw [show ((6:Nat):Int)=6 from rfl] at hmk
 generalize decide (r.count 300<300)=br at fr;generalize decide (q.count 300<300)=bq at fq;generalize decide (s.count 300<300)=bs at fs;generalize t.plainP=pp at p1 p2;rw [Be,Axf,Axf] at h1;cases br
 ·clear hmk h1 hC fs fq h2 h3 p1 p2 hcase hf;obtain ⟨o1,p1,k1⟩:=r;obtain ⟨o2,p2,k2⟩:=s;obtain ⟨o3,p3,k3⟩:=q;simp only [An] at fr ⊢;simp (maxSteps:=1000000) only [↓UU1,↓XX,XY,↓reduceIte,Nat.reduceBEq,Nat.reduceAdd,Int.reduceEq,Int.reduceLT,Int.reduceLE,↓FE hk,↓Av fr];exact Acq
 cases bs
 ·clear hmk h1 hC fq h2 h3 p1 p2 hcase hf;obtain ⟨o1,p1,k1⟩:=r;obtain ⟨o2,p2,k2⟩:=s;obtain ⟨o3,p3,k3⟩:=q;simp only [An] at fr fs ⊢;simp (maxSteps:=1000000) only [↓UU1,↓XX,XY,↓reduceIte,Nat.reduceBEq,Nat.reduceAdd,Int.reduceEq,Int.reduceLT,Int.reduceLE,↓FE hk,↓Av fr,↓Av fs];exact Acq
 cases bq
 ·clear hmk h1 hC h2 h3 p1 p2 hcase hf;obtain ⟨o1,p1,k1⟩:=r;obtain ⟨o2,p2,k2⟩:=s;obtain ⟨o3,p3,k3⟩:=q;simp only [An] at fr fs fq ⊢;simp (maxSteps:=1000000) only [↓UU1,↓XX,XY,↓reduceIte,Nat.reduceBEq,Nat.reduceAdd,Int.reduceEq,Int.reduceLT,Int.reduceLE,↓FE hk,↓Av fr,↓Av fs,↓Av fq];exact Acq
 have h3:=fun a b=>h3 a b n (by omega);have hq:=fun (h:Hp) (kk:IV→Hp→List Ref→List Ref→Option (IV×Hp))=>AK (a:=.nils) (b:=.fv s.enc) (c:=.fv q.enc) (d:=.fv (.bool true)) h1 rfl rfl rfl rfl h kk;clear h1 hC hcase hf hsc hpl hnil tw cw hz;obtain ⟨o1,x1,k1⟩:=r;obtain ⟨o2,x2,k2⟩:=s;obtain ⟨o3,x3,k3⟩:=q;obtain ⟨o4,x4,k4⟩:=t;obtain ⟨o5,x5,k5⟩:=u;obtain ⟨o6,x6,k6⟩:=a;obtain ⟨o7,x7,k7⟩:=c;simp only [An] at fr fs fq hmk hq h2 h3 p1 p2 s1 ⊢;cases is
 ·simp (maxSteps:=1000000) only [↓UU1,↓XX,XY,↓reduceIte,Nat.reduceBEq,Nat.reduceAdd,Int.reduceEq,Int.reduceLT,Int.reduceLE,↓FE hk,↓Av fr,↓Av fs,↓Av fq,↓AZ hmk,↓Av p1,↓Av p2,↓AfK,↓hq,↓Av h2];exact Acq
 by_cases he:e=0
 ·have h4:=h3 rfl he;clear h3;subst he;simp (maxSteps:=1000000) only [↓UU1,↓XX,XY,↓reduceIte,Nat.reduceBEq,Nat.reduceAdd,Int.reduceEq,Int.reduceLT,Int.reduceLE,↓FE hk,↓Av fr,↓Av fs,↓Av fq,↓AZ hmk,↓Av p1,↓Av p2,↓AfK,↓hq,↓Av h2,↓Av h4,↓Aj s1];exact Acq
 ·simp (maxSteps:=1000000) only [↓UU1,↓XX,XY,↓reduceIte,Nat.reduceBEq,Nat.reduceAdd,Int.reduceEq,Int.reduceLT,Int.reduceLE,↓FE hk,↓Av fr,↓Av fs,↓Av fq,↓AZ hmk,↓Av p1,↓Av p2,↓AfK,↓hq,↓Av h2,he];exact Acq
end Idl
end Go.Proofs.Ytkfecngimlcfoaa

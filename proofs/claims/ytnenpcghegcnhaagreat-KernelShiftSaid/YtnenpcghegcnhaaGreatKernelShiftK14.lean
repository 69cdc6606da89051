/- Part 14 of a proof. No statement is proved here. -/
import Derived.Test.YtnenpcghegcnhaaGreatKernelShiftK13
set_option linter.all false
set_option maxRecDepth 20000
set_option maxHeartbeats 16000000
noncomputable section
namespace Go.Proofs.YtnenpcghegcnhaaGreat
namespace Idl
theorem ZY {P:Nat->Nat->Prop}:∀m,(∀i,i<m->∃N,∀n,N<=n->P i n)->∃N,∀i,i<m->∀n,N<=n->P i n:=by
 intro m
 induction m with
 | zero=>intro _;exact ⟨0,fun i hi=>by omega⟩
 | succ m ih =>
  intro h;obtain ⟨N1,h1⟩:=ih fun i hi=>h i (by omega);obtain ⟨N2,h2⟩:=h m (by omega);refine ⟨N1+N2,fun i hi n hn=>?_⟩;by_cases him:i=m
  ·subst him;exact h2 n (by omega)
  ·exact h1 i (by omega) n (by omega)
def ZL:EE.T 65=some ⟨1,24,.slice 3,[.nils]⟩:=by kernel_rfl
def rN:EE.T 3=some ⟨1,8,.int .i64,[.fv (.int .i64 0)]⟩:=by kernel_rfl
def zZ:SliceT EE 65 1:=⟨_,_,_,_,_,ZL,rN,rfl,by decide,by decide⟩
def qK (a:Int) (s:Nat) (h:Hp) (k:KT (IV×Hp)):Az (Al EE 65 1 [(0,iv a)]) s h k=k (.clip [.int .i64 a]) h [] []:=Cx ZL rN (by decide) (cells:=[.int .i64 a]) rfl k
def iE (l:List Nat):List FV:=l.map fun (i:Nat)=>FV.int .i64 (i:Int)
theorem SK (l:List Nat):BI 1 (iE l)=true:=by
 cases l with
 | nil=>rfl
 | cons a l=>rfl
def AbN (l:List Nat):((iE l).all fun e=>e.cells.all FV.one)=true:=by rw [iE,List.all_map,Ajl];intro p _;rfl
def lV:List Nat->IV
 | []=>.nils
 | i::l=>.app (.own 69214211) (iE (i::l))
def lH:List Nat->List (Nat×Blk)
 | []=>[]
 | i::l=>[(69214211,.tok (i::l).length 1)]
abbrev Mi (o m:Int) (ks:List Tm) (l:List Nat):Hp :=⟨[(69206016,.row [iv o,iv m,.fv (.sl (ks.map Tm.enc))] false),(69206017,.row [iv 0,iv 0,.nils] false)]++lH l,[]⟩
def Yo (p:Nat->Bool) (i:Nat):(List.range (i+1)).filter p=(List.range i).filter p++(if p i then [i] else []):=by rw [List.range_succ,List.filter_append];cases h:p i<;>simp [h]
def K3 {e0:Nat} {g:AR} (hg:GOk e0 g) (st:Int) {a:Tm} (ha:NOk g.length a) (x:Int):∃t b,Ev 66 [.fv (AM g),iv st,.fv a.enc,iv x] (.tuple [Tm.enc t,.bool b])/\TOk g.length 0 t/\(b=true->∃i:Nat,t=.mk 1 i []/\Hit g st a i):=by
 have hlen:=hg.len;have hc:∀i:Nat,∃(p:Int×Tm) (u:Tm) (e:Int),i<g.length->g[g.length - 1 - i]?=some p/\p.2.wk/\p.2.wt<=100000000000/\Ev 24 [.fv (p.2.shift ((i:Int)+1) 0).enc] (.tuple [u.enc,.int .i64 e])/\(e=0/\NOk g.length u\/(e=5\/e=17)/\u=.z)/\∃f,AF f (p.2.shift ((i:Int)+1) 0)=some (u,e):=by
  intro i;by_cases hi:i<g.length
  ·obtain ⟨p,hp⟩:∃p,g[g.length - 1 - i]?=some p:=⟨_,Ai6 (by omega)⟩;obtain ⟨h1,h2,h3⟩:=hg.ok _ _ hp;have h4:=Bj p.2 (i+1) 0 _ h1 (by omega);rw [show g.length - 1 - i+(i+1)=g.length by omega] at h4
   obtain ⟨u,e,h5,h6,h7⟩:=Gs (k:=g.length) (by omega) h4 (by rw [CQ];omega);exact ⟨p,u,e,fun _=>⟨hp,CT _ _ h1,h2,h5,h6,h7⟩⟩
  ·exact ⟨(0,.z),.z,0,fun h=>absurd h hi⟩
 obtain ⟨P,hP⟩:=Classical.axiomOfChoice hc;obtain ⟨U,hP⟩:=Classical.axiomOfChoice hP;obtain ⟨E,hU⟩:=Classical.axiomOfChoice hP;clear hP hc;obtain ⟨N,hN⟩:=ZY (P:=fun i n=>BE (SS dt n 24 [.fv ((P i).2.shift ((i:Int)+1) 0).enc] ⟨[],[]⟩) (.tuple [(U i).enc,.int .i64 (E i)])) g.length (fun i hi=>(hU i hi).2.2.2.1);obtain ⟨hit,hhit⟩:∃h:Nat->Bool,∀i,h i=(decide ((P i).1=st) && (decide (E i=0) && (U i).eta.same a.eta)):=⟨_,fun _=>rfl⟩;obtain ⟨L,hL⟩:∃L,L=(List.range g.length).filter hit:=⟨_,rfl⟩;obtain ⟨tt,htt⟩:∃tt:Tm,tt=if L=[] then .z else .mk 1 ((L.getD (x % (L.length:Int)).toNat 0:Nat):Int) []:=⟨_,rfl⟩;have hLlt:∀i∈L,i<g.length:=fun i hi=>by
  rw [hL] at hi;exact List.mem_range.1 (List.mem_filter.1 hi).1
 refine ⟨tt,!decide (L=[]),⟨N+200000000000+1,?_⟩,?_,?_⟩
 ·intro n hn;obtain ⟨n,rfl⟩:=psc n (by omega);have hka:=LK n a g.length ha.sc (by have:=ha.wt;omega) (by have:=ha.wt;omega);rw [c66];generalize hae:a.eta=ae at hka hhit;obtain ⟨oa,ma,ka⟩:=a;obtain ⟨oe,me,ke⟩:=ae;simp only [Am] at hka ⊢;simp only [Qo,QK,S66,↓XX,XY,↓reduceIte,seval,AM,↓AI,XD,heldB,AS,XE];refine Ba (Q:=fun r=>BE r _) (fun k V H=>∃i:Nat,i+k=g.length/\∃l:List Nat,l=(List.range i).filter hit/\V=[.fv (.sl (g.map v1)),iv st,iv x,.ptr (.own 69206016) 0,.ptr (.own 69206017) 0,lV l,iv i]/\H=Mi oa ma ka l)
   ?_ n g.length _ _ (by omega) ⟨0,by omega,[],rfl,rfl,rfl⟩
  rintro k V H rec ⟨i,hik,l,hl,rfl,rfl⟩ hrec;cases k with
  | zero =>
   have hig:i=g.length:=by omega
   rw [hig] at hl;rw [<- hL] at hl;subst hl;have hno:¬ ((i:Int)<g.length):=by omega
   cases l with
   | nil =>rw [htt,if_pos rfl];simp only [lV,Tm.z,Am];simp only [↓Nw,↓XX,XY,↓reduceIte,seval,hno];exact A6 rfl
   | cons i0 l0 =>
    rw [htt,if_neg (by simp)];generalize hl1:i0::l0=l at *;have hlp:0<l.length:=by rw [<- hl1];simp
    have hll:l.length<=100:=by have h1:=List.length_filter_le hit (List.range g.length);rw [<- hL,List.length_range] at h1;omega
    have hw:=Au (n:=n) (by omega) x (m:=(l.length:Int)) (by omega) (by omega);have h1:=Int.emod_nonneg x (show (l.length:Int)≠0 by omega)
    have h2:=Int.emod_lt_of_pos x (show (0:Int)<l.length by omega)
    obtain ⟨j,hj⟩:∃j:Nat,x % (l.length:Int)=j:=⟨(x % (l.length:Int)).toNat,by omega⟩;rw [hj] at hw h2 ⊢;have hjl:j<l.length:=by omega
    have hget:(iE l)[j]?=some (.int .i64 ((l.getD j 0:Nat):Int)):=by rw [iE,Ajv,Ajf,Ai6 hjl];rfl
    rw [Int.toNat_natCast];have hix:=fun {β:Type}=>Bq (β:=β) (size:=1) hget rfl;have hv:=pP (n:=n) (by omega) ((l.getD j 0:Nat):Int);generalize ((l.getD j 0:Nat):Int)=q at hix hv ⊢;have hln:¬ ((l.length:Int)=0):=by omega
    have hiel:(iE l).length=l.length:=by rw [iE,Ajw]
    have hap:∀(β:Type) (x:IV) (k:IV->Option β),AQ 1 (.app (.own 69214211) (iE l)) x k=AQ 1 (.fv (.sl (iE l))) x k:=fun _ _ _=>rfl;have hlV:lV l=.app (.own 69214211) (iE l):=by rw [<- hl1];rfl
    have hlH:lH l=[(69214211,.tok l.length 1)]:=by rw [<- hl1];rfl
    have hne:decide (l=[])=false:=by rw [<- hl1];simp
    rw [hlV,Mi,hlH,hne];simp only [Ajq,Ajo];simp only [Am,Ai4] at hv ⊢;simp only [↓Nw,↓XX,XY,↓reduceIte,seval,hno,hiel,hln,↓Af hw,↓hap,↓hix,FV.cells,↓Aq hv];exact A6 rfl
  | succ k =>
   have hig:i<g.length:=by omega
   have hlt:(i:Int)<g.length:=by omega
   obtain ⟨hp,hwk,hwt,_,hN',_⟩:=hU i hig;have hget:(g.map v1)[g.length - 1 - i]?=some (v1 (P i)):=by rw [Ajv,hp];rfl
   have hix:=fun {β:Type}=>Bq (β:=β) (size:=4) hget rfl;have w1:BC ((g.length:Int) - 1)=(g.length:Int) - 1:=by rw [Ax]<;>omega
   have w2:BC ((g.length:Int) - 1 - i)=((g.length - 1 - i:Nat):Int):=by rw [Ax (by omega) (by omega)];omega
   have wi:BC ((i:Int)+1)=(i:Int)+1:=by rw [Ax]<;>omega
   have hsh:=CE n (P i).2 ((i:Int)+1) 0 (by omega) hwk (by omega) (by omega);have hNi:=hN i hig n (by omega);have h9:=fun (l':List Nat) (e:l'=l++if hit i then [i] else [])=>hrec k [.fv (.sl (g.map v1)),iv st,iv x,.ptr (.own 69206016) 0,.ptr (.own 69206017) 0,lV l',iv (i+1:Nat)] (Mi oa ma ka l') (by omega)
    ⟨i+1,by omega,l',by rw [Yo,<- hl,e],rfl,rfl⟩
   have hi1:((i+1:Nat):Int)=(i:Int)+1:=by omega
   rw [hi1] at h9;have hhi:=hhit i;generalize (P i).2.shift ((i:Int)+1) 0=ts at hsh hNi;generalize P i=p at hp hget hix hsh hhi;obtain ⟨sp,tp⟩:=p;by_cases c1:sp=st
   ·by_cases c2:E i=0
    ·have hUi:NOk g.length (U i):=by
      rcases hN' with ⟨_,h⟩ | ⟨h,_⟩
      ·exact h
      ·omega
     have hke:=LK n (U i) g.length hUi.sc (by have:=hUi.wt;omega) (by have:=hUi.wt;omega);have hew:=(Ms (U i) g.length hUi.sc (by have:=hUi.wt;omega)).2;have hsm:=JW n (U i).eta (.mk oe me ke) (by have:=hUi.wt;omega) (by have:=hUi.wt;omega);rw [c2] at hNi;simp only [c1,c2,decide_true,Bool.true_and] at hhi;rw [<- hhi] at hsm;generalize (U i).eta=ue at hke hsm;generalize U i=ui at hNi hke;obtain ⟨o1,n1,k1⟩:=tp;obtain ⟨o2,n2,k2⟩:=ts;obtain ⟨o3,n3,k3⟩:=ui;obtain ⟨o4,n4,k4⟩:=ue;subst c1;simp only [Am,v1,Tm.op,Tm.n,Tm.kids] at hsh hNi hke hsm hix;cases hb:hit i
     ·rw [hb] at hsm h9;have h9:=h9 l (by simp);cases l with
      | nil =>simp only [lV,lH,Mi,Ajm] at h9 ⊢;simp only [↓Nw,↓XX,XY,↓reduceIte,seval,hlt,w1,w2,wi,↓hix,FV.cells,↓Av hsh,↓Aq hNi,↓Aq hke,↓Aq hka,↓Af hsm,↓AI,XD,heldB,AS,XE];exact h9
      | cons i0 l0 =>simp only [lV,lH,Mi,Ajq,Ajo] at h9 ⊢;simp only [↓Nw,↓XX,XY,↓reduceIte,seval,hlt,w1,w2,wi,↓hix,FV.cells,↓Av hsh,↓Aq hNi,↓Aq hke,↓Aq hka,↓Af hsm,↓AI,XD,heldB,AS,XE];exact h9
     ·rw [hb] at hsm h9;have h9:=h9 (l++[i]) (by simp);cases l with
      | nil =>have happ:=fun {β:Type}=>HM (β:=β) zZ (.clip [.int .i64 (i:Int)]) (SK [i]) rfl (by simp) (s0:=.nils) (.inl rfl);simp only [lV,lH,Mi,Ajq,Ajo] at h9 ⊢;simp only [↓Nw,↓XX,XY,↓reduceIte,seval,hlt,w1,w2,wi,↓hix,FV.cells,↓Av hsh,↓Aq hNi,↓Aq hke,↓Aq hka,↓Af hsm,↓qK,↓happ,↓AI,XD,heldB,AS,XE];exact h9
      | cons i0 l0 =>
       have hll:(i0::l0).length<=100:=by have h1:=List.length_filter_le hit (List.range i);rw [<- hl,List.length_range] at h1;omega
       have happ:=fun {β:Type}=>NI (β:=β) zZ (es:=iE (i0::l0)) (es2:=[.int .i64 (i:Int)]) (.clip _) (SK [i]) (SK _) (AbN [i]) (by rw [iE,Ajw];simp only [Ai3,Ajh] at hll ⊢;omega);have hil:(iE (i0::l0)).length=(i0::l0).length:=by rw [iE,Ajw]
       have hia:iE (i0::l0)++[.int .i64 (i:Int)]=iE (i0::(l0++[i])):=by simp [iE]
       have hil2:(i0::(l0++[i])).length=(i0::l0).length+1:=by simp
       simp only [hil,hia,Ai3,Ajh,Ajy] at happ;simp only [lV,lH,Mi,Ajq,Ajo,hil2] at h9 ⊢;simp only [Ai3] at h9 ⊢;simp only [↓Nw,↓XX,XY,↓reduceIte,seval,hlt,w1,w2,wi,↓hix,FV.cells,↓Av hsh,↓Aq hNi,↓Aq hke,↓Aq hka,↓Af hsm,↓qK,↓happ,G4,↓AI,XD,heldB,AS,XE];exact h9
    ·simp only [c2,decide_false,Bool.false_and,Bool.and_false] at hhi;rw [hhi] at h9;have h9:=h9 l (by simp);generalize E i=ei at hNi c2;generalize U i=ui at hNi;obtain ⟨o1,n1,k1⟩:=tp;obtain ⟨o2,n2,k2⟩:=ts;obtain ⟨o3,n3,k3⟩:=ui;subst c1;simp only [Am,v1,Tm.op,Tm.n,Tm.kids] at hsh hNi hix;cases l with
     | nil =>simp only [lV,lH,Mi,Ajm] at h9 ⊢;simp only [↓Nw,↓XX,XY,↓reduceIte,seval,hlt,w1,w2,wi,↓hix,FV.cells,↓Av hsh,↓Aq hNi,c2,↓AI,XD,heldB,AS,XE];exact h9
     | cons i0 l0 =>simp only [lV,lH,Mi,Ajq,Ajo] at h9 ⊢;simp only [↓Nw,↓XX,XY,↓reduceIte,seval,hlt,w1,w2,wi,↓hix,FV.cells,↓Av hsh,↓Aq hNi,c2,↓AI,XD,heldB,AS,XE];exact h9
   ·simp only [c1,decide_false,Bool.false_and] at hhi;rw [hhi] at h9;have h9:=h9 l (by simp);obtain ⟨o1,n1,k1⟩:=tp;simp only [v1,Tm.op,Tm.n,Tm.kids] at hix;cases l with
    | nil =>simp only [lV,lH,Mi,Ajm] at h9 ⊢;simp only [↓Nw,↓XX,XY,↓reduceIte,seval,hlt,w1,w2,wi,↓hix,FV.cells,c1,↓AI,XD,heldB,AS,XE];exact h9
    | cons i0 l0 =>simp only [lV,lH,Mi,Ajq,Ajo] at h9 ⊢;simp only [↓Nw,↓XX,XY,↓reduceIte,seval,hlt,w1,w2,wi,↓hix,FV.cells,c1,↓AI,XD,heldB,AS,XE];exact h9
 ·rw [htt];split
  ·exact ⟨sA _,by have:=Lj 0;simp [Tm.z,Tm.wt,Tm.wtL];omega,by simp [Tm.z,Tm.dp,Tm.dpL,Dg]⟩
  ·rename_i hne;have h1:=Int.emod_nonneg x (show (L.length:Int)≠0 by
    intro h;exact hne (Aja (by omega)))
   have h2:=Int.emod_lt_of_pos x (show (0:Int)<L.length by
    have:L.length≠0:=fun h=>hne (Aja h)
    omega)
   have hj:(x % (L.length:Int)).toNat<L.length:=by omega
   have:=hLlt (L.getD (x % (L.length:Int)).toNat 0) (by rw [Ajf,Ai6 hj];exact List.getElem_mem hj)
   exact ⟨xU (by omega) (by omega),by have:=Lj 0;simp [Tm.wt,Tm.wtL];omega,by simp [Tm.dp,Tm.dpL,Dg]⟩
 ·intro hb;have hne:L≠[]:=by simpa using hb
  rw [htt,if_neg hne];have h1:=Int.emod_nonneg x (show (L.length:Int)≠0 by
   intro h;exact hne (Aja (by omega)))
  have h2:=Int.emod_lt_of_pos x (show (0:Int)<L.length by
   have:L.length≠0:=fun h=>hne (Aja h)
   omega)
  have hj:(x % (L.length:Int)).toNat<L.length:=by omega
  have hm:L.getD (x % (L.length:Int)).toNat 0∈L:=by rw [Ajf,Ai6 hj];exact List.getElem_mem hj
  generalize L.getD (x % (L.length:Int)).toNat 0=i at hm;refine ⟨i,rfl,hLlt i hm,?_⟩;have hig:=hLlt i hm;rw [hL] at hm;have hh:=(List.mem_filter.1 hm).2;rw [hhit,Ajz,Ajz,decide_eq_true_eq,decide_eq_true_eq] at hh;obtain ⟨hp,_,_,_,_,f,hf⟩:=hU i hig;rw [hh.2.1] at hf;refine ⟨(P i).2,f,U i,by rw [hp,<- hh.1],?_,(JK _ _).1 hh.2.2⟩;rw [show ((i+1:Nat):Int)=(i:Int)+1 by omega]
  exact hf
def Eg (F:FuncId) (κ e:Nat):Prop:=∀(g:AR) (a r:Tm),GOk e g->AOk g.length a->∃t b,Ev F [.fv (AM g),.fv a.enc,.fv r.enc,iv ((e:Int) - 5)] (.tuple [Tm.enc t,.bool b])/\TG κ e g a t b
def OI (F:FuncId) (κ e:Nat):Prop:=∀(g:AR) (a r:Tm),GOk e g->NOk g.length a->∃t b,Ev F [.fv (AM g),.fv a.enc,.fv r.enc,iv ((e:Int) - 5)] (.tuple [Tm.enc t,.bool b])/\TG κ e g a t b
structure TyOk (g:AR) (e:Nat) (t:Tm):Prop where
 sc:t.sc g.length
 wt:t.wt<=Wg (e - 1)+10
 dp:t.dp<=Dg (e - 1)+3
 gr:Gr 0 e g .z t
def K6 (e:Nat):Prop:=∀(g:AR) (r:Tm),GOk e g->∃t,Ev 29 [.fv (AM g),.fv r.enc,iv ((e:Int) - 5)] (Tm.enc t)/\TyOk g e t
def Mk {k:Nat} {a:Tm} (h:NOk k a) (hk:k<=1000) (d:Nat) (hd:d<=10):NOk (k+d) (a.shift d 0):=⟨Bj a d 0 k h.sc (by have:=h.wt;omega),by rw [AH];exact h.wt,by rw [CQ];exact h.dp⟩
def Zm {e:Nat} (h6:6<=e) (he:e<=10) (hT:K6 6) (hG:Eg 30 1 (e - 2)):OI 67 3 e:=by
 intro g a r hg ha;have hlen:=hg.len;have hW2:Wg e=16 * Wg (e - 2):=by obtain ⟨f,rfl⟩:∃f,e=f+2:=⟨e - 2,by omega⟩;rw [show f+2=(f+1)+1 by omega,Lh,Lh,show f+1+1 - 2=f by omega];omega
 have hW20:=Lj (e - 2);have hW5:4 * Wg 5<=Wg e:=by rw [<- Lh];exact PC (by omega)
 have hW10:=Mw he;have hDe:Dg e=Dg (e - 2)+20:=by unfold Dg;omega
 have hD5:Dg 5+10<=Dg e:=by unfold Dg;omega
 have hD2:200<=Dg (e - 2):=by unfold Dg;omega
 have hDm:Dg e<=300:=by unfold Dg;omega
 obtain ⟨b,⟨N1,h1⟩,tb⟩:=hT g (r.pick 0) (A9 (by omega) hg);have bw:=tb.wt;have bd:=tb.dp;simp only [show 6 - 1=5 from rfl] at bw bd
 have hba:AOk g.length b:=⟨tb.sc,by omega,by omega⟩;have hbm:GOk (e - 2) (g++[(1,b)]):=Dc (A9 (by omega) hg) tb.sc (by omega) (by omega);obtain ⟨x,p,⟨N2,h2⟩,tx⟩:=hG g b (r.pick 1) (A9 (by omega) hg) hba;obtain ⟨c,q,⟨N3,h3⟩,tc⟩:=hG g a (r.pick 2) (A9 (by omega) hg) (BV ha);have hsa:=Mk ha (by omega) 1 (by omega);obtain ⟨c2,q2,⟨N4,h4⟩,tc2⟩:=hG (g++[(1,b)]) (a.shift 1 0) (r.pick 2) hbm (by simpa using BV hsa);have we:BC ((e:Int) - 5 - 2)=((e - 2:Nat):Int) - 5:=by rw [Ax (by omega) (by omega)];omega
 have hd2:(((e - 2:Nat):Int) - 5)=((e - 2:Nat):Int) - 5:=rfl;have aw:=ha.wt;have ad:=ha.dp;have xw:=tx.wt;have cw:=tc.wt;have c2w:=tc2.wt;have xd:=tx.dp;have cd:=tc.dp;have c2d:=tc2.dp;have c2s:c2.sc (g.length+1):=by simpa using tc2.sc
 by_cases h0:r.n % 3=0
 ·refine ⟨.mk 8 0 [.mk 7 0 [.mk 6 0 [a,b.shift 1 0],c,x]],p && q,⟨N1+N2+N3+200000000000+1,?_⟩,?_,?_,?_,fun hb=>.fst e g a b c x h6 hba tb.gr (tx.gr (Ki hb)) (tc.gr (IK hb))⟩
  ·intro n hn;obtain ⟨n,rfl⟩:=psc n (by omega);have h1:=h1 n (by omega);have h2:=h2 n (by omega);have h3:=h3 n (by omega);rw [<- we] at h2 h3;have p0:=AU (n:=n) (by omega) r 0;have p1:=AU (n:=n) (by omega) r 1;have p2:=AU (n:=n) (by omega) r 2;have hw:=Au (n:=n) (by omega) r.n (m:=3) (by omega) (by omega);have hsh:=CE n b 1 0 (by omega) (CT _ _ tb.sc) (by omega) (by omega);have t6:=CM (n:=n) (by omega) 6 [a,b.shift 1 0];have t7:=CM (n:=n) (by omega) 7 [.mk 6 0 [a,b.shift 1 0],c,x];have t8:=CM (n:=n) (by omega) 8 [.mk 7 0 [.mk 6 0 [a,b.shift 1 0],c,x]];rw [h0] at hw;rw [c67];clear h4 tb tx tc tc2 ha hg hG hT hba hbm hsa aw ad xw cw c2w bw xd cd c2d bd c2s;generalize b.shift 1 0=bs at hsh t6 t7 t8 ⊢;generalize r.pick 0=r0 at p0 h1;generalize r.pick 1=r1 at p1 h2;generalize r.pick 2=r2 at p2 h3;obtain ⟨o1,m1,k1⟩:=a;obtain ⟨o2,m2,k2⟩:=b;obtain ⟨o3,m3,k3⟩:=r;obtain ⟨o4,m4,k4⟩:=bs;obtain ⟨o5,m5,k5⟩:=x;obtain ⟨o6,m6,k6⟩:=c;obtain ⟨o7,m7,k7⟩:=r0;obtain ⟨o8,m8,k8⟩:=r1;obtain ⟨o9,m9,k9⟩:=r2;simp only [Tm.n,AM,Ai5,Ai4,Am,Int.reduceSub,Int.cast_ofNat_Int] at h1 h2 h3 p0 p1 p2 hw hsh t6 t7 t8 ⊢;cases p
   ·simp only [J6,Je,Jr,Jf,zQ,↓XX,XY,↓reduceIte,seval,↓Af p0,↓Af p1,↓Af p2,↓Av h1,↓As h2,↓Af hw,↓As h3,↓Av hsh,↓CK,↓Af t6,↓Jp,↓Af t7,↓Dz,↓Af t8];exact A6 rfl
   ·simp only [J6,Je,Jr,Jf,zQ,↓XX,XY,↓reduceIte,seval,↓Af p0,↓Af p1,↓Af p2,↓Av h1,↓As h2,↓Af hw,↓As h3,↓Av hsh,↓CK,↓Af t6,↓Jp,↓Af t7,↓Dz,↓Af t8];exact A6 rfl
  ·exact FZ (Ze
    (Db ha.sc (Bj b 1 0 _ tb.sc (by simp only [show Ak 8 0=0 from rfl,show Ak 7 0=0 from rfl];omega))) tc.sc tx.sc)
  ·rw [LF,qT,Ee,AH];omega
  ·rw [iG,dp3,Ns,CQ];omega
 ·refine ⟨.mk 5 0 [.mk 4 0 [b,c2],x],p && q2,⟨N1+N2+N4+200000000000+1,?_⟩,?_,?_,?_,fun hb=>.app e g a b c2 x h6 hba tb.gr (tx.gr (Ki hb)) (tc2.gr (IK hb))⟩
  ·intro n hn;obtain ⟨n,rfl⟩:=psc n (by omega);have h1:=h1 n (by omega);have h2:=h2 n (by omega);have h4:=h4 n (by omega);rw [<- we] at h2 h4;have p0:=AU (n:=n) (by omega) r 0;have p1:=AU (n:=n) (by omega) r 1;have p2:=AU (n:=n) (by omega) r 2;have hw:=Au (n:=n) (by omega) r.n (m:=3) (by omega) (by omega);have hsh:=CE n a 1 0 (by omega) (CT _ _ ha.sc) (by omega) (by omega);have hm:=Do (n:=n) g 1 b (by omega) (by omega);have t4:=CM (n:=n) (by omega) 4 [b,c2];have t5:=CM (n:=n) (by omega) 5 [.mk 4 0 [b,c2],x];rw [c67];clear h3 tb tx tc tc2 ha hg hG hT hba hbm hsa aw ad xw cw c2w bw xd cd c2d bd c2s;generalize a.shift 1 0=sa at hsh h4;generalize r.pick 0=r0 at p0 h1;generalize r.pick 1=r1 at p1 h2;generalize r.pick 2=r2 at p2 h4;generalize r.n % 3=w3 at hw h0;obtain ⟨o1,m1,k1⟩:=a;obtain ⟨o2,m2,k2⟩:=b;obtain ⟨o3,m3,k3⟩:=r;obtain ⟨o4,m4,k4⟩:=sa;obtain ⟨o5,m5,k5⟩:=x;obtain ⟨o6,m6,k6⟩:=c2;obtain ⟨o7,m7,k7⟩:=r0;obtain ⟨o8,m8,k8⟩:=r1;obtain ⟨o9,m9,k9⟩:=r2;simp only [Tm.n,AM,Ai5,Ai4,Am,Int.reduceSub,Int.cast_ofNat_Int] at h1 h2 h4 p0 p1 p2 hw hsh hm t4 t5 ⊢;cases p
   ·simp only [J6,Je,Jr,Jf,zQ,↓XX,XY,↓reduceIte,seval,↓Af p0,↓Af p1,↓Af p2,↓Av h1,↓As h2,↓Af hw,h0,↓As h4,↓Av hsh,↓Av hm,↓CK,↓Af t4,↓Af t5];exact A6 rfl
   ·simp only [J6,Je,Jr,Jf,zQ,↓XX,XY,↓reduceIte,seval,↓Af p0,↓Af p1,↓Af p2,↓Av h1,↓As h2,↓Af hw,h0,↓As h4,↓Av hsh,↓Av hm,↓CK,↓Af t4,↓Af t5];exact A6 rfl
  ·exact Db (Db tb.sc c2s) tx.sc
  ·rw [Ee,Ee];omega
  ·rw [Ns,Ns];omega
def lJ {e:Nat} (he:e<=10) (hT:6<=e->K6 (e - 1)) (hG:6<=e->Eg 30 1 (e - 1)):K6 e:=by
 intro g r hg;have hlen:=hg.len;have hk1:=Int.emod_nonneg r.op (show (9:Int)≠0 by decide)
 have hk2:=Int.emod_lt_of_pos r.op (show (0:Int)<9 by decide)
 have hW0:=Lj (e - 1);have hD0:200<=Dg (e - 1):=by unfold Dg;omega
 have hleaf:∀op n:Int,ar op=some 0->op≠1->BX op n->Gr 0 e g .z (.mk op n [])->TyOk g e (.mk op n []):=fun op n h1 h2 h3 h4=>⟨IT h1 h2 h3,by simp only [Tm.wt,Tm.wtL];omega,by simp only [Tm.dp,Tm.dpL];omega,h4⟩;have hpl:=Fb 1 r;have hpd:=DG (r.plainT 1);have c0:(r.op % 9=0\/r.op % 9=1\/e<=5/\(r.op % 9=5\/r.op % 9=6))->∃t,Ev 29 [.fv (AM g),.fv r.enc,iv ((e:Int) - 5)] (Tm.enc t)/\TyOk g e t:=by
  intro hc;refine ⟨.mk 10 0 [],⟨100,fun n hn=>?_⟩,hleaf 10 0 (by decide) (by decide) (M6 (by decide) (by decide) (by decide)) (.tnat e g _)⟩;obtain ⟨n,rfl⟩:=psc n (by omega);have hw:=Au (n:=n) (by omega) r.op (m:=9) (by omega) (by omega);have hn4:=Lq (n:=n) (by omega);rw [zS];obtain ⟨o,p,k⟩:=r;simp only [Tm.op] at hw hc;simp only [Am,Ai4] at hn4 ⊢;rcases hc with hc | hc | ⟨he5,hc | hc⟩
  ·rw [hc] at hw;by_cases hd:(e:Int) - 5<=0<;>(simp only [↓Jh,↓XX,XY,↓reduceIte,seval,↓Af hw,hd,↓EO hn4];first | exact Aw _ _ | exact Bo rfl _)
  ·rw [hc] at hw;by_cases hd:(e:Int) - 5<=0<;>(simp only [↓Jh,↓XX,XY,↓reduceIte,seval,↓Af hw,hd,↓EO hn4];first | exact Aw _ _ | exact Bo rfl _)
  ·rw [hc] at hw;have hd:(e:Int) - 5<=0:=by omega
   simp only [↓Jh,↓XX,XY,↓reduceIte,seval,↓Af hw,hd,↓Od (show (5:Int)≠0 by decide),show (5:Int).tmod 5=0 from rfl,↓EO hn4];first | exact Aw _ _ | exact Bo rfl _
  ·rw [hc] at hw;have hd:(e:Int) - 5<=0:=by omega
   simp only [↓Jh,↓XX,XY,↓reduceIte,seval,↓Af hw,hd,↓Od (show (5:Int)≠0 by decide),show (6:Int).tmod 5=1 from rfl,↓EO hn4];first | exact Aw _ _ | exact Bo rfl _
 have c2:(r.op % 9=2\/e<=5/\r.op % 9=7)->∃t,Ev 29 [.fv (AM g),.fv r.enc,iv ((e:Int) - 5)] (Tm.enc t)/\TyOk g e t:=by
  intro hc;refine ⟨.mk 14 0 [],⟨100,fun n hn=>?_⟩,hleaf 14 0 (by decide) (by decide) (M6 (by decide) (by decide) (by decide)) (.tty e g _)⟩;obtain ⟨n,rfl⟩:=psc n (by omega);have hw:=Au (n:=n) (by omega) r.op (m:=9) (by omega) (by omega);have hn4:=AZ (n:=n) (by omega) 14;rw [zS];obtain ⟨o,p,k⟩:=r;simp only [Tm.op] at hw hc;simp only [Am,Ai4] at hn4 ⊢;rcases hc with hc | ⟨he5,hc⟩
  ·rw [hc] at hw;by_cases hd:(e:Int) - 5<=0<;>(simp only [↓Jh,↓XX,XY,↓reduceIte,seval,↓Af hw,hd,↓Af hn4];first | exact Aw _ _ | exact Bo rfl _)
  ·rw [hc] at hw;have hd:(e:Int) - 5<=0:=by omega
   simp only [↓Jh,↓XX,XY,↓reduceIte,seval,↓Af hw,hd,↓Od (show (5:Int)≠0 by decide),show (7:Int).tmod 5=2 from rfl,↓Af hn4];first | exact Aw _ _ | exact Bo rfl _
 have c3:(r.op % 9=3\/e<=5/\r.op % 9=8)->∃t,Ev 29 [.fv (AM g),.fv r.enc,iv ((e:Int) - 5)] (Tm.enc t)/\TyOk g e t:=by
  intro hc;refine ⟨.mk 18 0 [r.plainT 1],⟨100,fun n hn=>?_⟩,FZ (Gm _ 1 r),by rw [LF];omega,by rw [iG];omega,.tlp e g _ r⟩;obtain ⟨n,rfl⟩:=psc n (by omega);have hw:=Au (n:=n) (by omega) r.op (m:=9) (by omega) (by omega);have hp:=Kv 1 n r (by omega) (by omega);have ht:=CM (n:=n) (by omega) 18 [r.plainT 1];rw [zS];generalize r.plainT 1=q at hp ht ⊢;obtain ⟨o,p,k⟩:=r;obtain ⟨o2,p2,k2⟩:=q;simp only [Tm.op] at hw hc;simp only [Am,Ai5,Ai4] at hp ht ⊢;rcases hc with hc | ⟨he5,hc⟩
  ·rw [hc] at hw;by_cases hd:(e:Int) - 5<=0<;>(simp only [↓Jh,↓XX,XY,↓reduceIte,seval,↓Af hw,hd,↓Af hp,↓Dz,↓Af ht];first | exact Aw _ _ | exact Bo rfl _)
  ·rw [hc] at hw;have hd:(e:Int) - 5<=0:=by omega
   simp only [↓Jh,↓XX,XY,↓reduceIte,seval,↓Af hw,hd,↓Od (show (5:Int)≠0 by decide),show (8:Int).tmod 5=3 from rfl,↓Af hp,↓Dz,↓Af ht];first | exact Aw _ _ | exact Bo rfl _
 by_cases h4:r.op % 9=4
 ·refine ⟨.mk 2 0 [],⟨100,fun n hn=>?_⟩,hleaf 2 0 (by decide) (by decide) (by rw [BX,if_pos rfl];omega) (.tu e g _)⟩;obtain ⟨n,rfl⟩:=psc n (by omega);have hw:=Au (n:=n) (by omega) r.op (m:=9) (by omega) (by omega);have hu:=G8 (n:=n) (by omega) 0;rw [zS];obtain ⟨o,p,k⟩:=r;simp only [Tm.op] at hw h4;simp only [Am,Ai4] at hu ⊢;rw [h4] at hw;by_cases hd:(e:Int) - 5<=0<;>(simp only [↓Jh,↓XX,XY,↓reduceIte,seval,↓Af hw,hd,↓Aq hu];first | exact Aw _ _ | exact Bo rfl _)
 by_cases hs:r.op % 9<=3\/e<=5
 ·have h:=hk1;by_cases h0:r.op % 9=0\/r.op % 9=1\/e<=5/\(r.op % 9=5\/r.op % 9=6)
  ·exact c0 h0
  by_cases h2:r.op % 9=2\/e<=5/\r.op % 9=7
  ·exact c2 h2
  exact c3 (by omega)
 have he6:6<=e:=by omega
 have hd:¬ (e:Int) - 5<=0:=by omega
 have we:BC ((e:Int) - 5 - 1)=((e - 1:Nat):Int) - 5:=by rw [Ax (by omega) (by omega)];omega
 have hW10:=Mw (e:=e - 1) (by omega);have hW1:Wg (e - 1)=4 * Wg (e - 2):=by obtain ⟨f,rfl⟩:∃f,e=f+2:=⟨e - 2,by omega⟩;rw [show f+2 - 1=f+1 by omega,Lh,show f+2 - 2=f by omega]
 have hW2:=Lj (e - 2);have hD1:Dg (e - 1)=Dg (e - 2)+10:=by unfold Dg;omega
 have hDm:Dg (e - 1)<=300:=by unfold Dg;omega
 by_cases h8:r.op % 9=8
 ·obtain ⟨t,b,⟨N1,h1⟩,tt⟩:=hG he6 g (.mk 14 0 []) (r.pick 0) (A9 (by omega) hg) ⟨Da,by simp [Tm.wt,Tm.wtL],by simp [Tm.dp,Tm.dpL]⟩;refine ⟨if b=true then .mk 18 0 [t] else .mk 10 0 [],⟨N1+100,fun n hn=>?_⟩,?_⟩
  ·obtain ⟨n,rfl⟩:=psc n (by omega);have hw:=Au (n:=n) (by omega) r.op (m:=9) (by omega) (by omega);have h1:=h1 n (by omega);rw [<- we] at h1;have p0:=AU (n:=n) (by omega) r 0;have t14:=AZ (n:=n) (by omega) 14;have t18:=CM (n:=n) (by omega) 18 [t];have hn4:=Lq (n:=n) (by omega);rw [zS];rw [h8] at hw;clear hG hT tt c0 c2 c3 hleaf;generalize r.pick 0=r0 at p0 h1;obtain ⟨o,p,k⟩:=r;obtain ⟨o2,p2,k2⟩:=t;obtain ⟨o3,p3,k3⟩:=r0;simp only [Tm.op] at hw;simp only [Am,AM,Ai5,Ai4] at h1 p0 t14 t18 hn4 ⊢;cases b
   ·simp only [Ajx,if_false,Am,Ai4];simp only [↓Jh,↓XX,XY,↓reduceIte,seval,↓Af hw,hd,↓Af t14,↓Af p0,↓As h1,↓EO hn4];first | exact Aw _ _ | exact Bo rfl _
   ·simp only [if_true,Am,Ai4,Ai5];simp only [↓Jh,↓XX,XY,↓reduceIte,seval,↓Af hw,hd,↓Af t14,↓Af p0,↓As h1,↓Dz,↓Af t18];first | exact Aw _ _ | exact Bo rfl _
  ·split
   ·rename_i hb;exact ⟨FZ tt.sc,by have:=tt.wt;rw [LF];omega,by have:=tt.dp;rw [iG];omega,.tlift e g _ t he6 (tt.gr hb)⟩
   ·exact hleaf 10 0 (by decide) (by decide) (M6 (by decide) (by decide) (by decide)) (.tnat e g _)
 ·obtain ⟨a,⟨N1,h1⟩,ta⟩:=hT he6 g (r.pick 0) (A9 (by omega) hg);have aw:=ta.wt;have ad:=ta.dp;rw [show e - 1 - 1=e - 2 by omega] at aw ad
  obtain ⟨b,⟨N2,h2⟩,tb⟩:=hT he6 (g++[(1,a)]) (r.pick 1) (Dc (by rw [show e - 1+1=e by omega];exact hg) ta.sc (by omega) (by omega))
  have bw:=tb.wt;have bd:=tb.dp;rw [show e - 1 - 1=e - 2 by omega] at bw bd
  have bs:b.sc (g.length+1):=by simpa using tb.sc
  have hop:∀op:Int,op=3\/op=6->TyOk g e (.mk op 0 [a,b]):=by
   rintro op (rfl | rfl)
   ·exact ⟨Db ta.sc bs,by rw [Ee];omega,by rw [Ns];omega,.tpi e g _ a b _ (by simp) he6 (by omega) ⟨ta.sc,by omega,by omega⟩ ta.gr tb.gr⟩
   ·exact ⟨Db ta.sc bs,by rw [Ee];omega,by rw [Ns];omega,.tpi e g _ a b _ (by simp) he6 (by omega) ⟨ta.sc,by omega,by omega⟩ ta.gr tb.gr⟩
  obtain ⟨oo,hoo⟩:∃oo:Int,oo=3/\(r.op % 9=5\/r.op % 9=6)\/oo=6/\r.op % 9=7:=by
   by_cases h7:r.op % 9=7
   ·exact ⟨6,.inr ⟨rfl,h7⟩⟩
   ·exact ⟨3,.inl ⟨rfl,by omega⟩⟩
  refine ⟨.mk oo 0 [a,b],⟨N1+N2+100,fun n hn=>?_⟩,hop oo (by omega)⟩;obtain ⟨n,rfl⟩:=psc n (by omega);have hw:=Au (n:=n) (by omega) r.op (m:=9) (by omega) (by omega);have h1:=h1 n (by omega);have h2:=h2 n (by omega);rw [<- we] at h1 h2;have p0:=AU (n:=n) (by omega) r 0;have p1:=AU (n:=n) (by omega) r 1;have t3:=CM (n:=n) (by omega) 3 [a,b];have t6:=CM (n:=n) (by omega) 6 [a,b];have hm:=Do (n:=n) g 1 a (by omega) (by omega);rw [zS];clear hG hT c0 c2 c3 hleaf ta tb hop bs aw ad bw bd;generalize r.pick 0=r0 at p0 h1;generalize r.pick 1=r1 at p1 h2;obtain ⟨o,p,k⟩:=r;obtain ⟨o2,p2,k2⟩:=a;obtain ⟨o3,p3,k3⟩:=b;obtain ⟨o4,p4,k4⟩:=r0;obtain ⟨o5,p5,k5⟩:=r1;simp only [Tm.op] at hw hoo;simp only [Am,AM,Ai5,Ai4] at h1 h2 p0 p1 t3 t6 hm ⊢;rcases hoo with ⟨rfl,hk | hk⟩ | ⟨rfl,hk⟩
  ·rw [hk] at hw;simp only [↓Jh,↓XX,XY,↓reduceIte,seval,↓Af hw,hd,↓Af p0,↓Af p1,↓Av h1,↓Av hm,↓Av h2,↓CK,↓Af t3];first | exact Aw _ _ | exact Bo rfl _
  ·rw [hk] at hw;simp only [↓Jh,↓XX,XY,↓reduceIte,seval,↓Af hw,hd,↓Af p0,↓Af p1,↓Av h1,↓Av hm,↓Av h2,↓CK,↓Af t3];first | exact Aw _ _ | exact Bo rfl _
  ·rw [hk] at hw;simp only [↓Jh,↓XX,XY,↓reduceIte,seval,↓Af hw,hd,↓Af p0,↓Af p1,↓Av h1,↓Av hm,↓Av h2,↓CK,↓Af t6];first | exact Aw _ _ | exact Bo rfl _
def p7 (a b:Int) (s:Nat) (h:Hp) (k:KT (IV×Hp)):Az (Al EE 65 2 [(0,iv a),(1,iv b)]) s h k=k (.clip [.int .i64 a,.int .i64 b]) h [] []:=Cx ZL rN (by decide) (cells:=[.int .i64 a,.int .i64 b]) rfl k
def Q6 {β:Type} (z:Nat) (es:List FV) (x:IV) (k:IV->Option β):AQ z (.clip es) x k=AQ z (.fv (.sl es)) x k:=rfl
def Aex {β:Type} (a:Int) (r:List FV) (k:IV->Option β):AQ 1 (.fv (.sl (.int .i64 a::r))) (iv 0) k=k (.fv (.fp [.int .i64 a] 0)):=Bq (el:=.int .i64 a) (n:=0) rfl rfl k
def Afd {β:Type} (a b:Int) (r:List FV) (k:IV->Option β):AQ 1 (.fv (.sl (.int .i64 a :: .int .i64 b::r))) (iv 1) k=k (.fv (.fp [.int .i64 b] 0)):=Bq (el:=.int .i64 b) (n:=1) rfl rfl k
def fY (F:FuncId) (κ e:Nat):Prop:=∀(g:AR) (a r:Tm),GOk e g->NOk g.length a->(a.op=10\/a.op=14\/a.op=2)->∃t b,Ev F [.fv (AM g),.fv a.enc,.fv r.enc,iv ((e:Int) - 5)] (.tuple [Tm.enc t,.bool b])/\TG κ e g a t b
def mU {a:Tm} {k:Nat} (h:a.sc k) (ho:a.op=10\/a.op=14\/a.op=2):∃n,a=.mk a.op n []/\(a.op=2->0<=n/\n<=2)/\(a.op≠2->n=0):=by
 obtain ⟨o,n,l⟩:=a;simp only [Tm.op] at ho ⊢;rw [Tm.sc] at h;obtain ⟨h1,h2,_⟩:=h;have h3:ar o=some 0:=by rcases ho with rfl | rfl | rfl<;>decide
 rw [h3] at h1;have hl:l=[]:=Aja (Ajn h1).symm;subst hl;rw [if_neg (by omega)] at h2;refine ⟨n,rfl,fun h=>?_,fun h=>?_⟩
 ·subst h;rw [BX,if_pos rfl] at h2;exact h2
 ·rw [BX,if_neg h,if_neg (by omega),if_neg (by omega)] at h2;exact h2
def Za {e:Nat} (h1e:1<=e) (he:e<=10) (hG:Eg 30 1 (e - 1)) (hG2:6<=e->Eg 30 1 (e - 2)):fY 68 3 e:=by
 intro g a r hg ha hop;have hlen:=hg.len;have hW1:Wg e=4 * Wg (e - 1):=by obtain ⟨f,rfl⟩:∃f,e=f+1:=⟨e - 1,by omega⟩;rw [Lh,Nat.add_sub_cancel]
 have hW0:=Lj (e - 1);have hW10:=Mw he;have hD1:Dg e=Dg (e - 1)+10:=by unfold Dg;omega
 have hD0:200<=Dg (e - 1):=by unfold Dg;omega
 have hDm:Dg e<=300:=by unfold Dg;omega
 obtain ⟨an,hae,hu1,hu2⟩:=mU ha.sc hop;have we:BC ((e:Int) - 5 - 1)=((e - 1:Nat):Int) - 5:=by rw [Ax (by omega) (by omega)];omega
 have hk1:=Int.emod_nonneg r.op (show (5:Int)≠0 by decide)
 have hk2:=Int.emod_lt_of_pos r.op (show (0:Int)<5 by decide)
 have aw:=ha.wt;have ad:=ha.dp;have leafT:∀op n:Int,ar op=some 0->op≠1->BX op n->TOk g.length e (.mk op n []):=fun op n h1 h2 h3=>⟨IT h1 h2 h3,by simp only [Tm.wt,Tm.wtL];omega,by simp only [Tm.dp,Tm.dpL];omega⟩;have tint:TOk g.length e (.mk 18 0 [.mk 15 0 []]):=⟨FZ (Da),by simp only [Tm.wt,Tm.wtL];omega,by simp only [Tm.dp,Tm.dpL];omega⟩;by_cases hrec:6<=e/\r.op % 5=4/\a.op≠2
 ·obtain ⟨h6,h4,hn2⟩:=hrec;have hW2:Wg e=16 * Wg (e - 2):=by
   obtain ⟨f,rfl⟩:∃f,e=f+2:=⟨e - 2,by omega⟩;rw [show f+2=(f+1)+1 by omega,Lh,Lh,show f+1+1 - 2=f by omega];omega
  have hD2:Dg e=Dg (e - 2)+20:=by unfold Dg;omega
  have hW20:=Lj (e - 2);have we2:BC ((e:Int) - 5 - 2)=((e - 2:Nat):Int) - 5:=by rw [Ax (by omega) (by omega)];omega
  have hnat:∀k,NOk k (.mk 10 0 []):=fun k=>⟨Da,by simp only [Tm.wt,Tm.wtL];omega,by simp only [Tm.dp,Tm.dpL];omega⟩;have hs1:=Mk ha (by omega) 1 (by omega);have hs2:=Mk ha (by omega) 2 (by omega);obtain ⟨nn,p,⟨N1,h1⟩,tn⟩:=hG2 h6 g (.mk 10 0 []) (r.pick 0) (A9 (by omega) hg) (BV (hnat _));obtain ⟨z,q,⟨N2,h2⟩,tz⟩:=hG2 h6 g a (r.pick 1) (A9 (by omega) hg) (BV ha);have hg1:GOk (e - 1) (g++[(1,Tm.mk 10 0 [])]):=Dc (by rw [show e - 1+1=e by omega];exact hg) (hnat _).sc (by simp only [Tm.wt,Tm.wtL];omega) (by simp only [Tm.dp,Tm.dpL];omega)
  have hg2:GOk (e - 2) ((g++[(1,Tm.mk 10 0 [])])++[(1,a.shift 1 0)]):=Dc (by rw [show e - 2+1=e - 1 by omega];exact hg1) (by simpa using hs1.sc) (by rw [AH];omega) (by rw [CQ];omega)
  obtain ⟨s,f,⟨N3,h3⟩,ts⟩:=hG2 h6 _ (a.shift 2 0) (r.pick 2) hg2 (by simpa using BV hs2);have ss:s.sc (g.length+2):=by simpa using ts.sc
  refine ⟨.mk 13 0 [a.shift 1 0,z,s,nn],p && (q && f),⟨N1+N2+N3+100000,fun n hn=>?_⟩,?_,?_,?_,fun hb=>.recc e g a nn z s h6 (by omega) (tn.gr (Ki hb)) (tz.gr (Ki (IK hb))) (ts.gr (IK (IK hb)))⟩
  ·obtain ⟨n,rfl⟩:=psc n (by omega);have h1:=h1 n (by omega);have h2:=h2 n (by omega);have h3:=h3 n (by omega);rw [<- we2] at h1 h2 h3;have hw:=Au (n:=n) (by omega) r.op (m:=5) (by omega) (by omega);rw [h4] at hw;have p0:=AU (n:=n) (by omega) r 0;have p1:=AU (n:=n) (by omega) r 1;have p2:=AU (n:=n) (by omega) r 2;have n4:=Lq (n:=n) (by omega);have m1:=Do (n:=n) g 1 (.mk 10 0 []) (by omega) (by omega);have m2:=Do (n:=n) (g++[(1,Tm.mk 10 0 [])]) 1 (a.shift 1 0) (by simp;omega) (by omega);have s1:=CE n a 1 0 (by omega) (CT _ _ ha.sc) (by omega) (by omega);have s2:=CE n a 2 0 (by omega) (CT _ _ ha.sc) (by omega) (by omega);have t13:=CM (n:=n) (by omega) 13 [a.shift 1 0,z,s,nn];have hd0:(0:Int)<(e:Int) - 5:=by omega
   rw [qH];clear hG hG2 tn tz ts hg hg1 hg2 ha hs1 hs2 hnat ss leafT tint hae hu1 hu2;generalize a.shift 1 0=a1 at s1 m2 t13 h3 ⊢;generalize a.shift 2 0=a2 at s2 h3;generalize r.pick 0=r0 at p0 h1;generalize r.pick 1=r1 at p1 h2;generalize r.pick 2=r2 at p2 h3;obtain ⟨o1,x1,k1⟩:=a;obtain ⟨o2,x2,k2⟩:=r;obtain ⟨o3,x3,k3⟩:=a1;obtain ⟨o4,x4,k4⟩:=a2;obtain ⟨o5,x5,k5⟩:=nn;obtain ⟨o6,x6,k6⟩:=z;obtain ⟨o7,x7,k7⟩:=s;obtain ⟨o8,x8,k8⟩:=r0;obtain ⟨o9,x9,k9⟩:=r1;obtain ⟨oa,xa,ka⟩:=r2;simp only [Tm.op] at hw hn2;simp only [AM,Ai5,Ai4,Am] at h1 h2 h3 p0 p1 p2 n4 m1 m2 s1 s2 t13 ⊢;cases p<;>cases q<;>(simp only [↓IA,↓XX,XY,↓reduceIte,seval,hd0,↓Af hw,hn2,↓EO n4,↓Af p0,↓Af p1,↓Af p2,↓As h1,↓As h2,↓Av m1,↓Av m2,↓Av s1,↓Av s2,↓As h3,↓Aba,↓Af t13];exact A6 rfl)
  ·exact AbY hs1.sc tz.sc ss tn.sc
  ·have:=tz.wt;have:=ts.wt;have:=tn.wt;rw [wt4,AH];omega
  ·have:=tz.dp;have:=ts.dp;have:=tn.dp;rw [dp4,CQ];omega
 have hnr:¬ (0:Int)<(e:Int) - 5\/¬ r.op % 5=4\/a.op=2:=by omega
 by_cases o10:a.op=10
 ·have hz:=hu2 (by omega);rw [hz,o10] at hae;by_cases hs:6<=e/\r.op % 2=1
  ·obtain ⟨nn,p,⟨N1,h1⟩,tn⟩:=hG g a (r.pick 0) (A9 (by omega) hg) (BV ha);refine ⟨.mk 12 0 [nn],p,⟨N1+100,fun n hn=>?_⟩,FZ tn.sc,by have:=tn.wt;rw [LF];omega,by have:=tn.dp;rw [iG];omega,fun hb=>.suc e g a nn hs.1 o10 (tn.gr hb)⟩;obtain ⟨n,rfl⟩:=psc n (by omega);have h1:=h1 n (by omega);rw [<- we] at h1;have hw:=Au (n:=n) (by omega) r.op (m:=5) (by omega) (by omega);have hw2:=Au (n:=n) (by omega) r.op (m:=2) (by omega) (by omega);rw [hs.2] at hw2;have p0:=AU (n:=n) (by omega) r 0;have t12:=CM (n:=n) (by omega) 12 [nn];have hd0:(0:Int)<(e:Int) - 5:=by omega
   have h45:¬ r.op % 5=4:=by omega
   rw [qH];rw [hae] at h1 ⊢;clear hG hG2 tn hg ha leafT tint hae hu1 hu2 hop hnr;generalize r.op % 5=w5 at hw h45;generalize r.pick 0=r0 at p0 h1;obtain ⟨o2,x2,k2⟩:=r;obtain ⟨o5,x5,k5⟩:=nn;obtain ⟨o8,x8,k8⟩:=r0;simp only [Tm.op] at hw hw2;simp only [AM,Ai5,Ai4,Am] at h1 p0 t12 ⊢;simp only [↓IA,↓XX,XY,↓reduceIte,seval,hd0,↓Af hw,h45,↓Af hw2,↓Af p0,↓As h1,↓Dz,↓Af t12];exact A6 rfl
  ·have hj1:=Int.emod_nonneg r.n (show (4:Int)≠0 by decide)
   have hj2:=Int.emod_lt_of_pos r.n (show (0:Int)<4 by decide)
   obtain ⟨j,hj⟩:∃j:Nat,r.n % 4=j:=⟨(r.n % 4).toNat,by omega⟩;refine ⟨GF j,true,⟨100,fun n hn=>?_⟩,Zx _ j,by rw [QO];omega,by have:=DG (GF j);rw [QO] at this;omega,fun _=>.num e g a j o10 (by omega)⟩;obtain ⟨n,rfl⟩:=psc n (by omega);have hw:=Au (n:=n) (by omega) r.op (m:=5) (by omega) (by omega);have hw2:=Au (n:=n) (by omega) r.op (m:=2) (by omega) (by omega);have hw4:=Au (n:=n) (by omega) r.n (m:=4) (by omega) (by omega);rw [hj] at hw4;have hnum:=tM (n:=n) j (by omega) (by omega);have h45:(0:Int)<(e:Int) - 5->¬ r.op % 5=4:=by omega
   have h21:(0:Int)<(e:Int) - 5->¬ r.op % 2=1:=by omega
   rw [qH];rw [hae];clear hG hG2 hg ha leafT tint hae hu1 hu2 hop hnr hs;generalize r.op % 5=w5 at hw h45;generalize r.op % 2=w2 at hw2 h21;generalize GF j=nm at hnum ⊢;obtain ⟨o2,x2,k2⟩:=r;obtain ⟨o5,x5,k5⟩:=nm;simp only [Tm.op,Tm.n] at hw hw2 hw4;simp only [AM,Ai4,Am] at hnum ⊢;by_cases hd0:(0:Int)<(e:Int) - 5
   ·have h45:=h45 hd0;have h21:=h21 hd0;simp only [↓IA,↓XX,XY,↓reduceIte,seval,hd0,↓Af hw,h45,↓Af hw2,h21,↓Af hw4,↓Aq hnum];exact A6 rfl
   ·simp only [↓IA,↓XX,XY,↓reduceIte,seval,hd0,↓Af hw4,↓Aq hnum];exact A6 rfl
 by_cases o14:a.op=14
 ·have hz:=hu2 (by omega);rw [hz,o14] at hae;by_cases hs:6<=e/\1<r.op % 5
  ·obtain ⟨x,p,⟨N1,h1⟩,tx⟩:=hG g a (r.pick 0) (A9 (by omega) hg) (BV ha);obtain ⟨y,q,⟨N2,h2⟩,ty⟩:=hG g a (r.pick 1) (A9 (by omega) hg) (BV ha);have hj1:=Int.emod_nonneg r.n (show (2:Int)≠0 by decide)
   have hj2:=Int.emod_lt_of_pos r.n (show (0:Int)<2 by decide)
   obtain ⟨oo,hoo,hoo2⟩:∃oo:Int,oo=16+r.n % 2/\(oo=16\/oo=17):=⟨_,rfl,by omega⟩;have hsc:(Tm.mk oo 0 [x,y]).sc g.length:=by rcases hoo2 with rfl | rfl<;>exact Db tx.sc ty.sc
   refine ⟨.mk oo 0 [x,y],p && q,⟨N1+N2+100,fun n hn=>?_⟩,hsc,by have:=tx.wt;have:=ty.wt;rw [Ee];omega,by have:=tx.dp;have:=ty.dp;rw [Ns];omega,fun hb=>.tfun e g a x y oo hoo2 hs.1 o14 (tx.gr (Ki hb)) (ty.gr (IK hb))⟩;obtain ⟨n,rfl⟩:=psc n (by omega);have h1:=h1 n (by omega);have h2:=h2 n (by omega);rw [<- we] at h1 h2;have hw:=Au (n:=n) (by omega) r.op (m:=5) (by omega) (by omega);have hw2:=Au (n:=n) (by omega) r.n (m:=2) (by omega) (by omega);have wo:BC (16+r.n % 2)=oo:=by rw [Ax]<;>omega
   have p0:=AU (n:=n) (by omega) r 0;have p1:=AU (n:=n) (by omega) r 1;have t16:=CM (n:=n) (by omega) oo [x,y];rw [<- wo] at t16;have hd0:(0:Int)<(e:Int) - 5:=by omega
   have h45:¬ r.op % 5=4:=by omega
   have h15:=hs.2;rw [qH];rw [hae] at h1 h2 ⊢;clear hG hG2 tx ty hg ha leafT tint hae hu1 hu2 hop hnr hs hoo2 hsc;rw [<- wo];clear wo hoo;generalize r.op % 5=w5 at hw h45 h15;generalize r.n % 2=w2 at hw2 t16 ⊢;generalize r.pick 0=r0 at p0 h1;generalize r.pick 1=r1 at p1 h2;obtain ⟨o2,x2,k2⟩:=r;obtain ⟨o5,x5,k5⟩:=x;obtain ⟨o6,x6,k6⟩:=y;obtain ⟨o8,x8,k8⟩:=r0;obtain ⟨o9,x9,k9⟩:=r1;simp only [Tm.op,Tm.n] at hw hw2;simp only [AM,Ai5,Ai4,Am] at h1 h2 p0 p1 t16 ⊢;cases p<;>(simp only [↓IA,↓XX,XY,↓reduceIte,seval,hd0,↓Af hw,h45,h15,↓Af hw2,↓Af p0,↓Af p1,↓As h1,↓As h2,↓CK,↓Af t16];exact A6 rfl)
  ·refine ⟨.mk 15 0 [],true,⟨100,fun n hn=>?_⟩,tg (leafT 15 0 (by decide) (by decide) (M6 (by decide) (by decide) (by decide))) (fun _=>.tint e g a o14)⟩;obtain ⟨n,rfl⟩:=psc n (by omega);have hw:=Au (n:=n) (by omega) r.op (m:=5) (by omega) (by omega);have t15:=AZ (n:=n) (by omega) 15;have h45:(0:Int)<(e:Int) - 5->¬ r.op % 5=4/\¬ 1<r.op % 5:=by omega
   rw [qH];rw [hae];clear hG hG2 hg ha leafT tint hae hu1 hu2 hop hnr hs;generalize r.op % 5=w5 at hw h45;obtain ⟨o2,x2,k2⟩:=r;simp only [Tm.op] at hw;simp only [AM,Ai4,Am] at t15 ⊢;by_cases hd0:(0:Int)<(e:Int) - 5
   ·obtain ⟨h45,h15⟩:=h45 hd0;simp only [↓IA,↓XX,XY,↓reduceIte,seval,hd0,↓Af hw,h45,h15,↓Af t15];exact A6 rfl
   ·simp only [↓IA,↓XX,XY,↓reduceIte,seval,hd0,↓Af t15];exact A6 rfl
 have o2:a.op=2:=by omega
 obtain ⟨hu3,hu4⟩:=hu1 o2;rw [o2] at hae;by_cases hn0:0<an
 ·refine ⟨.mk 2 (an - 1) [],true,⟨100,fun n hn=>?_⟩,tg (leafT 2 (an - 1) (by decide) (by decide) (by rw [BX,if_pos rfl];omega)) (fun _=>.uni e g a _ o2 (by have e1:a.n=an:=(congrArg Tm.n hae).trans rfl;omega))⟩;obtain ⟨n,rfl⟩:=psc n (by omega);have hw:=Au (n:=n) (by omega) r.op (m:=5) (by omega) (by omega);have wu:BC (an - 1)=an - 1:=by rw [Ax]<;>omega
  have hu:=G8 (n:=n) (by omega) (an - 1);rw [<- wu] at hu;rw [qH];rw [hae,<- wu];clear hG hG2 hg ha leafT tint hae hu1 hu2 hop hnr wu;generalize r.op % 5=w5 at hw;obtain ⟨o2,x2,k2⟩:=r;simp only [Tm.op] at hw;simp only [AM,Ai4,Am] at hu ⊢;by_cases hd0:(0:Int)<(e:Int) - 5
  ·by_cases h4:w5=4
   ·simp only [↓IA,↓XX,XY,↓reduceIte,seval,hd0,↓Af hw,h4,hn0,↓Aq hu];exact A6 rfl
   ·simp only [↓IA,↓XX,XY,↓reduceIte,seval,hd0,↓Af hw,h4,hn0,↓Aq hu];exact A6 rfl
  ·simp only [↓IA,↓XX,XY,↓reduceIte,seval,hd0,hn0,↓Aq hu];exact A6 rfl
 have han:an=0:=by omega
 subst han;have hq1:=Int.emod_nonneg r.op (show (4:Int)≠0 by decide)
 have hq2:=Int.emod_lt_of_pos r.op (show (0:Int)<4 by decide)
 by_cases hs:6<=e/\1<r.op % 4
 ·obtain ⟨x,p,⟨N1,h1⟩,tx⟩:=hG g a (r.pick 0) (A9 (by omega) hg) (BV ha);have hgx:GOk (e - 1) (g++[(1,x)]):=Dc (by rw [show e - 1+1=e by omega];exact hg) tx.sc (by have:=tx.wt;omega) (by have:=tx.dp;omega)
  have hax:AOk (g++[(1,x)]).length a:=⟨by rw [hae];exact IT (by decide) (by decide) (by rw [BX,if_pos rfl];omega),by omega,by omega⟩;obtain ⟨y,q,⟨N2,h2⟩,ty⟩:=hG (g++[(1,x)]) a (r.pick 1) hgx hax;have ys:y.sc (g.length+1):=by simpa using ty.sc
  obtain ⟨oo,hoo⟩:∃oo:Int,oo=3/\r.op % 4=2\/oo=6/\r.op % 4=3:=by
   by_cases h7:r.op % 4=2
   ·exact ⟨3,.inl ⟨rfl,h7⟩⟩
   ·exact ⟨6,.inr ⟨rfl,by omega⟩⟩
  have hsc:(Tm.mk oo 0 [x,y]).sc g.length:=by rcases hoo with ⟨rfl,_⟩ | ⟨rfl,_⟩<;>exact Db tx.sc ys
  refine ⟨.mk oo 0 [x,y],p && q,⟨N1+N2+100,fun n hn=>?_⟩,hsc,by have:=tx.wt;have:=ty.wt;rw [Ee];omega,by have:=tx.dp;have:=ty.dp;rw [Ns];omega,fun hb=>.upi e g a x y oo (by omega) hs.1 o2 (cX tx (by omega)) (tx.gr (Ki hb)) (ty.gr (IK hb))⟩;obtain ⟨n,rfl⟩:=psc n (by omega);have h1:=h1 n (by omega);have h2:=h2 n (by omega);rw [<- we] at h1 h2;have hw:=Au (n:=n) (by omega) r.op (m:=5) (by omega) (by omega);have hw4:=Au (n:=n) (by omega) r.op (m:=4) (by omega) (by omega);have p0:=AU (n:=n) (by omega) r 0;have p1:=AU (n:=n) (by omega) r 1;have hm:=Do (n:=n) g 1 x (by omega) (by omega);have t3:=CM (n:=n) (by omega) oo [x,y];have hd0:(0:Int)<(e:Int) - 5:=by omega
  have w22:BC (2 - 2)=0:=by rw [Ax]<;>omega
  have w32:BC (3 - 2)=1:=by rw [Ax]<;>omega
  have w0:BC 0=0:=by rw [Ax]<;>omega
  have w1:BC 1=1:=by rw [Ax]<;>omega
  rw [qH];rw [hae] at h1 h2 ⊢;clear hG hG2 tx ty hg ha leafT tint hae hu1 hu2 hop hnr hs hsc hgx hax ys;generalize r.op % 5=w5 at hw;generalize r.op % 4=w4 at hw4 hoo;generalize r.pick 0=r0 at p0 h1;generalize r.pick 1=r1 at p1 h2;obtain ⟨o2,x2,k2⟩:=r;obtain ⟨o5,x5,k5⟩:=x;obtain ⟨o6,x6,k6⟩:=y;obtain ⟨o8,x8,k8⟩:=r0;obtain ⟨o9,x9,k9⟩:=r1;simp only [Tm.op] at hw hw4;simp only [AM,Ai5,Ai4,Am] at h1 h2 p0 p1 hm t3 ⊢;rcases hoo with ⟨rfl,rfl⟩ | ⟨rfl,rfl⟩
  ·by_cases h4:w5=4<;>cases p<;>(simp only [↓IA,↓XX,XY,↓reduceIte,seval,hd0,↓Af hw,h4,↓Af hw4,↓Af p0,↓Af p1,↓As h1,↓Av hm,↓As h2,↓CK,↓p7,↓Q6,w22,w0,Int.reduceSub,↓Aex,↓Af t3];exact A6 rfl)
  ·by_cases h4:w5=4<;>cases p<;>(simp only [↓IA,↓XX,XY,↓reduceIte,seval,hd0,↓Af hw,h4,↓Af hw4,↓Af p0,↓Af p1,↓As h1,↓Av hm,↓As h2,↓CK,↓p7,↓Q6,w32,w1,Int.reduceSub,↓Afd,↓Af t3];exact A6 rfl)
 ·have hj1:=Int.emod_nonneg r.n (show (3:Int)≠0 by decide)
  have hj2:=Int.emod_lt_of_pos r.n (show (0:Int)<3 by decide)
  obtain ⟨t,ht,tt⟩:∃t:Tm,(r.n % 3=0/\t=.mk 10 0 []\/r.n % 3=1/\t=.mk 14 0 []\/r.n % 3=2/\t=.mk 18 0 [.mk 15 0 []])/\TG 3 e g a t true:=by
   have h:r.n % 3=0\/r.n % 3=1\/r.n % 3=2:=by omega
   rcases h with h | h | h
   ·exact ⟨_,.inl ⟨h,rfl⟩,tg (leafT 10 0 (by decide) (by decide) (M6 (by decide) (by decide) (by decide))) (fun _=>.unat e g a o2)⟩
   ·exact ⟨_,.inr (.inl ⟨h,rfl⟩),tg (leafT 14 0 (by decide) (by decide) (M6 (by decide) (by decide) (by decide))) (fun _=>.uty e g a o2)⟩
   ·exact ⟨_,.inr (.inr ⟨h,rfl⟩),tg tint (fun _=>.ult e g a o2)⟩
  refine ⟨t,true,⟨100,fun n hn=>?_⟩,tt⟩;obtain ⟨n,rfl⟩:=psc n (by omega);have hw:=Au (n:=n) (by omega) r.op (m:=5) (by omega) (by omega);have hw4:=Au (n:=n) (by omega) r.op (m:=4) (by omega) (by omega);have hw3:=Au (n:=n) (by omega) r.n (m:=3) (by omega) (by omega);have n4:=Lq (n:=n) (by omega);have t14:=AZ (n:=n) (by omega) 14;have t15:=AZ (n:=n) (by omega) 15;have t18:=CM (n:=n) (by omega) 18 [.mk 15 0 []];have h41:(0:Int)<(e:Int) - 5->¬ 1<r.op % 4:=by omega
  rw [qH];rw [hae];clear hG hG2 hg ha leafT tint hae hu1 hu2 hop hnr hs tt;generalize r.op % 5=w5 at hw;generalize r.op % 4=w4 at hw4 h41;generalize r.n % 3=w3 at hw3 ht;obtain ⟨o2,x2,k2⟩:=r;simp only [Tm.op,Tm.n] at hw hw4 hw3;simp only [AM,Ai5,Ai4,Am] at n4 t14 t15 t18 ⊢;by_cases hd0:(0:Int)<(e:Int) - 5
  ·have h41:=h41 hd0;by_cases h4:w5=4
   ·rcases ht with ⟨rfl,rfl⟩ | ⟨rfl,rfl⟩ | ⟨rfl,rfl⟩<;>(simp only [↓IA,↓XX,XY,↓reduceIte,seval,hd0,↓Af hw,h4,↓Af hw4,h41,↓EO n4,↓Af t14,↓Af t15,↓Dz,↓Af t18,↓Jp,↓Af hw3,↓Q6,↓Eo,↓EH,↓Gd,Am];exact A6 rfl)
   ·rcases ht with ⟨rfl,rfl⟩ | ⟨rfl,rfl⟩ | ⟨rfl,rfl⟩<;>(simp only [↓IA,↓XX,XY,↓reduceIte,seval,hd0,↓Af hw,h4,↓Af hw4,h41,↓EO n4,↓Af t14,↓Af t15,↓Dz,↓Af t18,↓Jp,↓Af hw3,↓Q6,↓Eo,↓EH,↓Gd,Am];exact A6 rfl)
  ·rcases ht with ⟨rfl,rfl⟩ | ⟨rfl,rfl⟩ | ⟨rfl,rfl⟩<;>(simp only [↓IA,↓XX,XY,↓reduceIte,seval,hd0,↓Af hw4,↓EO n4,↓Af t14,↓Af t15,↓Dz,↓Af t18,↓Jp,↓Af hw3,↓Q6,↓Eo,↓EH,↓Gd,Am];exact A6 rfl)
def X8 {e:Nat} (h6:6<=e) (he:e<=10) (hO:Eg 42 2 (e - 2)) (hG:Eg 30 1 (e - 1)):OI 72 4 e:=by
 intro g a r hg ha;have hlen:=hg.len;have hW1:Wg e=4 * Wg (e - 1):=by obtain ⟨f,rfl⟩:∃f,e=f+1:=⟨e - 1,by omega⟩;rw [Lh,Nat.add_sub_cancel]
 have hW2:Wg e=16 * Wg (e - 2):=by obtain ⟨f,rfl⟩:∃f,e=f+2:=⟨e - 2,by omega⟩;rw [show f+2=(f+1)+1 by omega,Lh,Lh,show f+1+1 - 2=f by omega];omega
 have hW0:=Lj (e - 2);have hW10:=Mw he;have hD1:Dg e=Dg (e - 1)+10:=by unfold Dg;omega
 have hD2:Dg e=Dg (e - 2)+20:=by unfold Dg;omega
 have hD0:200<=Dg (e - 2):=by unfold Dg;omega
 have hDm:Dg e<=300:=by unfold Dg;omega
 have we:BC ((e:Int) - 5 - 1)=((e - 1:Nat):Int) - 5:=by rw [Ax (by omega) (by omega)];omega
 have we2:BC ((e:Int) - 5 - 2)=((e - 2:Nat):Int) - 5:=by rw [Ax (by omega) (by omega)];omega
 have aw:=ha.wt;have ad:=ha.dp;have hk1:=Int.emod_nonneg r.n (show (7:Int)≠0 by decide)
 have hk2:=Int.emod_lt_of_pos r.n (show (0:Int)<7 by decide)
 have hi:AOk g.length (.mk 15 0 []):=⟨Da,by simp only [Tm.wt,Tm.wtL];omega,by simp only [Tm.dp,Tm.dpL];omega⟩;have hs1:=Mk ha (by omega) 1 (by omega);by_cases c0:r.n % 7=0
 ·obtain ⟨c,p,⟨N1,h1⟩,tc⟩:=hO g (.mk 15 0 []) (r.pick 0) (A9 (by omega) hg) hi;obtain ⟨x,q,⟨N2,h2⟩,tx⟩:=hO g a (r.pick 1) (A9 (by omega) hg) (BV ha);obtain ⟨y,f,⟨N3,h3⟩,ty⟩:=hO g a (r.pick 2) (A9 (by omega) hg) (BV ha);refine ⟨.mk 27 0 [c,x,y],p && (q && f),⟨N1+N2+N3+100000,fun n hn=>?_⟩,Ze tc.sc tx.sc ty.sc,by have:=tc.wt;have:=tx.wt;have:=ty.wt;rw [qT];omega,by have:=tc.dp;have:=tx.dp;have:=ty.dp;rw [dp3];omega,fun hb=>.oif e g a c x y h6 (tc.gr (Ki hb)) (tx.gr (Ki (IK hb))) (ty.gr (IK (IK hb)))⟩
  ·obtain ⟨n,rfl⟩:=psc n (by omega);have h1:=h1 n (by omega);have h2:=h2 n (by omega);have h3:=h3 n (by omega);rw [<- we2] at h1 h2 h3;have hw:=Au (n:=n) (by omega) r.n (m:=7) (by omega) (by omega);have t15:=AZ (n:=n) (by omega) 15;have p0:=AU (n:=n) (by omega) r 0;have p1:=AU (n:=n) (by omega) r 1;have p2:=AU (n:=n) (by omega) r 2;rw [c0] at hw;have t27:=CM (n:=n) (by omega) 27 [c,x,y];rw [c72];clear hO hG tc tx ty hg ha hi hs1;generalize r.pick 0=r0 at p0 h1;generalize r.pick 1=r1 at p1 h2;generalize r.pick 2=r2 at p2 h3;obtain ⟨o1,x1,k1⟩:=a;obtain ⟨o2,x2,k2⟩:=r;obtain ⟨o3,x3,k3⟩:=c;obtain ⟨o4,x4,k4⟩:=x;obtain ⟨o5,x5,k5⟩:=y;obtain ⟨o6,x6,k6⟩:=r0;obtain ⟨o7,x7,k7⟩:=r1;obtain ⟨o8,x8,k8⟩:=r2;simp only [Tm.n] at hw;simp only [AM,Ai5,Ai4,Am] at h1 h2 h3 t15 p0 p1 p2 t27 ⊢;cases p
   ·simp only [↓R0,↓XX,XY,↓reduceIte,seval,↓Af hw,↓Af t15,↓Af p0,↓Af p1,↓Af p2,↓As h1,↓As h2,↓As h3,↓Jp,↓Af t27];exact A6 rfl
   ·cases q
    ·simp only [↓R0,↓XX,XY,↓reduceIte,seval,↓Af hw,↓Af t15,↓Af p0,↓Af p1,↓Af p2,↓As h1,↓As h2,↓As h3,↓Jp,↓Af t27];exact A6 rfl
    ·simp only [↓R0,↓XX,XY,↓reduceIte,seval,↓Af hw,↓Af t15,↓Af p0,↓Af p1,↓Af p2,↓As h1,↓As h2,↓As h3,↓Jp,↓Af t27];exact A6 rfl
 by_cases t9:r.n % 7=1\/r.n % 7=2
 ·have hb:=Gm g.length 1 (r.pick 0);have hbw:=Fb 1 (r.pick 0);have hbd:=DG ((r.pick 0).plainT 1);obtain ⟨b,hbe⟩:∃b,b=(r.pick 0).plainT 1:=⟨_,rfl⟩;rw [<- hbe] at hb hbw hbd;obtain ⟨x,p,⟨N1,h1⟩,tx⟩:=hO g b (r.pick 1) (A9 (by omega) hg) ⟨hb,by omega,by omega⟩;have hgb:GOk (e - 2) (g++[(0,b)]):=Dc (A9 (by omega) hg) hb (by omega) (by omega);obtain ⟨y,q,⟨N2,h2⟩,ty⟩:=hO (g++[(0,b)]) (a.shift 1 0) (r.pick 2) hgb (by simpa using BV hs1);have ys:y.sc (g.length+1):=by simpa using ty.sc
  obtain ⟨tt,htt,hok⟩:∃tt:Tm,(r.n % 7=1/\tt=.mk 28 0 [x,y]\/r.n % 7=2/\tt=.mk 21 0 [.mk 20 0 [b,y],x])/\TG 4 e g a tt (p && q):=by
   rcases t9 with h | h
   ·exact ⟨_,.inl ⟨h,rfl⟩,Db tx.sc ys,by have:=tx.wt;have:=ty.wt;rw [Ee];omega,by have:=tx.dp;have:=ty.dp;rw [Ns];omega,fun hpq=>by subst hbe;exact .olet e g a (r.pick 0) x y h6 (tx.gr (Ki hpq)) (ty.gr (IK hpq))⟩
   ·exact ⟨_,.inr ⟨h,rfl⟩,Db (Db hb ys) tx.sc,by have:=tx.wt;have:=ty.wt;rw [Ee,Ee];omega,by have:=tx.dp;have:=ty.dp;rw [Ns,Ns];omega,fun hpq=>by subst hbe;exact .oapp e g a (r.pick 0) x y h6 (tx.gr (Ki hpq)) (ty.gr (IK hpq))⟩
  refine ⟨tt,p && q,⟨N1+N2+100000,fun n hn=>?_⟩,hok⟩
  ·obtain ⟨n,rfl⟩:=psc n (by omega);have h1:=h1 n (by omega);have h2:=h2 n (by omega);rw [<- we2] at h1 h2;have hw:=Au (n:=n) (by omega) r.n (m:=7) (by omega) (by omega);have t15:=AZ (n:=n) (by omega) 15;have p0:=AU (n:=n) (by omega) r 0;have p1:=AU (n:=n) (by omega) r 1;have p2:=AU (n:=n) (by omega) r 2;have hp:=Kv 1 n (r.pick 0) (by omega) (by omega);rw [<- hbe] at hp;have hm:=Do (n:=n) g 0 b (by omega) (by omega);have sh:=CE n a 1 0 (by omega) (CT _ _ ha.sc) (by omega) (by omega);have t28:=CM (n:=n) (by omega) 28 [x,y];have t20:=CM (n:=n) (by omega) 20 [b,y];have t21:=CM (n:=n) (by omega) 21 [.mk 20 0 [b,y],x];rw [c72];clear hO hG tx ty hg ha hi hs1 hbe hb hgb ys hok t9;generalize r.n % 7=w7 at hw htt;generalize a.shift 1 0=a1 at sh h2;generalize r.pick 0=r0 at p0 hp;generalize r.pick 1=r1 at p1 h1;generalize r.pick 2=r2 at p2 h2;obtain ⟨o1,x1,k1⟩:=a;obtain ⟨o2,x2,k2⟩:=r;obtain ⟨o3,x3,k3⟩:=b;obtain ⟨o4,x4,k4⟩:=x;obtain ⟨o5,x5,k5⟩:=y;obtain ⟨o6,x6,k6⟩:=r0;obtain ⟨o7,x7,k7⟩:=r1;obtain ⟨o8,x8,k8⟩:=r2;obtain ⟨o9,x9,k9⟩:=a1;simp only [Tm.n] at hw;simp only [AM,Ai5,Ai4,Am] at h1 h2 t15 p0 p1 p2 hp hm sh t28 t20 t21 ⊢;rcases htt with ⟨rfl,rfl⟩ | ⟨rfl,rfl⟩
   ·cases p<;>(simp only [↓R0,↓XX,XY,↓reduceIte,seval,↓Af hw,↓Af t15,↓Af p0,↓Af p1,↓Af p2,↓Af hp,↓As h1,↓Av hm,↓Av sh,↓As h2,↓CK,↓Af t28,Am,Ai5,Ai4];exact A6 rfl)
   ·cases p<;>(simp only [↓R0,↓XX,XY,↓reduceIte,seval,↓Af hw,↓Af t15,↓Af p0,↓Af p1,↓Af p2,↓Af hp,↓As h1,↓Av hm,↓Av sh,↓As h2,↓CK,↓Af t20,↓Af t21,Am,Ai5,Ai4];exact A6 rfl)
 by_cases c3:r.n % 7=3
 ·obtain ⟨x,p,⟨N1,h1⟩,tx⟩:=hO g a (r.pick 0) (A9 (by omega) hg) (BV ha);obtain ⟨y,q,⟨N2,h2⟩,ty⟩:=hO g (.mk 15 0 []) (r.pick 1) (A9 (by omega) hg) hi;refine ⟨.mk 23 0 [.mk 22 0 [x,y]],p && q,⟨N1+N2+100000,fun n hn=>?_⟩,FZ (Db tx.sc ty.sc),by have:=tx.wt;have:=ty.wt;rw [LF,Ee];omega,by have:=tx.dp;have:=ty.dp;rw [iG,Ns];omega,fun hb=>.ofst e g a x y h6 (tx.gr (Ki hb)) (ty.gr (IK hb))⟩
  ·obtain ⟨n,rfl⟩:=psc n (by omega);have h1:=h1 n (by omega);have h2:=h2 n (by omega);rw [<- we2] at h1 h2;have hw:=Au (n:=n) (by omega) r.n (m:=7) (by omega) (by omega);have t15:=AZ (n:=n) (by omega) 15;have p0:=AU (n:=n) (by omega) r 0;have p1:=AU (n:=n) (by omega) r 1;have p2:=AU (n:=n) (by omega) r 2;rw [c3] at hw;have t22:=CM (n:=n) (by omega) 22 [x,y];have t23:=CM (n:=n) (by omega) 23 [.mk 22 0 [x,y]];rw [c72];clear hO hG tx ty hg ha hi hs1;generalize r.pick 0=r0 at p0 h1;generalize r.pick 1=r1 at p1 h2;obtain ⟨o1,x1,k1⟩:=a;obtain ⟨o2,x2,k2⟩:=r;obtain ⟨o4,x4,k4⟩:=x;obtain ⟨o5,x5,k5⟩:=y;obtain ⟨o6,x6,k6⟩:=r0;obtain ⟨o7,x7,k7⟩:=r1;simp only [Tm.n] at hw;simp only [AM,Ai5,Ai4,Am] at h1 h2 t15 p0 p1 t22 t23 ⊢;cases p<;>(simp only [↓R0,↓XX,XY,↓reduceIte,seval,↓Af hw,↓Af t15,↓Af p0,↓Af p1,↓As h1,↓As h2,↓CK,↓Dz,↓Af t22,↓Af t23];exact A6 rfl)
 by_cases c4:r.n % 7=4
 ·have hga:GOk (e - 2) (g++[(0,a)]):=Dc (A9 (by omega) hg) ha.sc (by omega) (by omega);obtain ⟨x,p,⟨N1,h1⟩,tx⟩:=hO (g++[(0,a)]) (a.shift 1 0) (r.pick 0) hga (by simpa using BV hs1);have xs:x.sc (g.length+1):=by simpa using tx.sc
  refine ⟨.mk 29 0 [a,x],p,⟨N1+100000,fun n hn=>?_⟩,Db ha.sc xs,by have:=tx.wt;rw [Ee];omega,by have:=tx.dp;rw [Ns];omega,fun hb=>.ofix e g a x h6 (tx.gr hb)⟩
  ·obtain ⟨n,rfl⟩:=psc n (by omega);have h1:=h1 n (by omega);rw [<- we2] at h1;have hw:=Au (n:=n) (by omega) r.n (m:=7) (by omega) (by omega);have t15:=AZ (n:=n) (by omega) 15;have p0:=AU (n:=n) (by omega) r 0;have p1:=AU (n:=n) (by omega) r 1;have p2:=AU (n:=n) (by omega) r 2;rw [c4] at hw;have hm:=Do (n:=n) g 0 a (by omega) (by omega);have sh:=CE n a 1 0 (by omega) (CT _ _ ha.sc) (by omega) (by omega);have t29:=CM (n:=n) (by omega) 29 [a,x];rw [c72];clear hO hG tx hg ha hi hs1 hga xs;generalize a.shift 1 0=a1 at sh h1;generalize r.pick 0=r0 at p0 h1;obtain ⟨o1,x1,k1⟩:=a;obtain ⟨o2,x2,k2⟩:=r;obtain ⟨o4,x4,k4⟩:=x;obtain ⟨o6,x6,k6⟩:=r0;obtain ⟨o9,x9,k9⟩:=a1;simp only [Tm.n] at hw;simp only [AM,Ai5,Ai4,Am] at h1 t15 p0 hm sh t29 ⊢;simp only [↓R0,↓XX,XY,↓reduceIte,seval,↓Af hw,↓Af t15,↓Af p0,↓Av hm,↓Av sh,↓As h1,↓CK,↓Af t29];exact A6 rfl
 ·have hla:AOk g.length (.mk 18 0 [a]):=⟨FZ ha.sc,by rw [LF];omega,by rw [iG];omega⟩;obtain ⟨x,p,⟨N1,h1⟩,tx⟩:=hG g (.mk 18 0 [a]) (r.pick 0) (A9 (by omega) hg) hla;refine ⟨.mk 30 0 [x],p,⟨N1+100000,fun n hn=>?_⟩,FZ tx.sc,by have:=tx.wt;rw [LF];omega,by have:=tx.dp;rw [iG];omega,fun hb=>.spl e g a x h6 (tx.gr hb)⟩
  ·obtain ⟨n,rfl⟩:=psc n (by omega);have h1:=h1 n (by omega);rw [<- we] at h1;have hw:=Au (n:=n) (by omega) r.n (m:=7) (by omega) (by omega);have t15:=AZ (n:=n) (by omega) 15;have p0:=AU (n:=n) (by omega) r 0;have p1:=AU (n:=n) (by omega) r 1;have p2:=AU (n:=n) (by omega) r 2;have c1:¬ r.n % 7=1:=fun h=>t9 (.inl h);have c2:¬ r.n % 7=2:=fun h=>t9 (.inr h);have t18:=CM (n:=n) (by omega) 18 [a];have t30:=CM (n:=n) (by omega) 30 [x];rw [c72];clear hO hG tx hg ha hi hs1 hla t9 hk1 hk2;generalize r.n % 7=w7 at hw c0 c1 c2 c3 c4;generalize r.pick 0=r0 at p0 h1;obtain ⟨o1,x1,k1⟩:=a;obtain ⟨o2,x2,k2⟩:=r;obtain ⟨o4,x4,k4⟩:=x;obtain ⟨o6,x6,k6⟩:=r0;simp only [Tm.n] at hw;simp only [AM,Ai5,Ai4,Am] at h1 t15 p0 t18 t30 ⊢;simp only [↓R0,↓XX,XY,↓reduceIte,seval,↓Af hw,c0,c1,c2,c3,c4,↓Af t15,↓Af p0,↓Dz,↓Af t18,↓As h1,↓Af t30];exact A6 rfl
def Gl {k:Nat} {a:Tm} {r:Nat} (h:NOk k a) (hr:ar a.op=some r):a.kids.length=r:=F9 h.sc rfl hr
theorem V3 {l:List Tm} (h:l.length=2):∃x y,l=[x,y]:=by
 match l,h with
 | [x,y],_=>exact ⟨x,y,rfl⟩
theorem AaS {l:List Tm} (h:l.length=1):∃x,l=[x]:=by
 match l,h with
 | [x],_=>exact ⟨x,rfl⟩
def Aa4 {l:List Tm} (h:l.length=0):l=[]:=Aja h
def YK {e:Nat} (he:e<=10) (hO:1<=e->Eg 42 2 (e - 1)) (hA:6<=e->OI 72 4 e):Eg 42 2 e:=by
 intro g a0 r hg ha0;have hlen:=hg.len;have hW0:=Lj e;have hD0:200<=Dg e:=by unfold Dg;omega
 have hDm:Dg e<=300:=by unfold Dg;omega
 have hW10:=Mw he;obtain ⟨a,er,⟨N0,h0⟩,hcase,fn,hfn⟩:=Gs (k:=g.length) (by omega) ha0.sc (by have:=ha0.dp;omega);rcases hcase with ⟨rfl,ha⟩ | ⟨her,rfl⟩
 case inr =>
  have hne:er≠0:=by omega
  refine ⟨.z,false,⟨N0+100,fun n hn=>?_⟩,sA _,by simp only [Tm.z,Tm.wt,Tm.wtL];omega,by simp only [Tm.z,Tm.dp,Tm.dpL];omega,fun h=>by cases h⟩;obtain ⟨n,rfl⟩:=psc n (by omega);have h0:=h0 n (by omega);rw [qA];clear hO hA hg ha0;obtain ⟨o1,x1,k1⟩:=a0;obtain ⟨o2,x2,k2⟩:=r;simp only [AM,Tm.z,Ai4,Am] at h0 ⊢;simp only [↓Mz,↓XX,XY,↓reduceIte,seval,↓Aq h0,hne];exact A6 rfl
 obtain ⟨v,is,⟨N1,h1⟩,tv0,hhit⟩:=K3 hg 0 ha r.n;have up:∀{t:Tm},Gr 4 e g a t->Gr 2 e g a0 t:=fun h=>.objc e g a0 a _ fn hfn (by omega) ha h;have tv:TG 2 e g a0 v is:=tg (RZ (Nat.zero_le _) tv0) (fun hb=>by
  obtain ⟨i,rfl,hi⟩:=hhit hb;exact up (.var0 e g a i hi))
 clear tv0 hhit;have aw:=ha.wt;have ad:=ha.dp;have hw3m:=Int.emod_nonneg r.op (show (3:Int)≠0 by decide)
 by_cases cv:is=true/\r.op % 3=0\/e=0
 ·refine ⟨v,is,⟨N0+N1+100,fun n hn=>?_⟩,tv⟩;obtain ⟨n,rfl⟩:=psc n (by omega);have h0:=h0 n (by omega);have h1:=h1 n (by omega);have hw:=Au (n:=n) (by omega) r.op (m:=3) (by omega) (by omega);rw [qA];clear up hfn hO hA hg ha0 ha tv;obtain ⟨o0,x0,k0⟩:=a0;obtain ⟨o1,x1,k1⟩:=a;obtain ⟨o2,x2,k2⟩:=r;obtain ⟨o3,x3,k3⟩:=v;simp only [Tm.n,Tm.op] at h1 hw cv;simp only [AM,Am] at h0 h1 ⊢;generalize o2 % 3=w3 at hw cv;rcases cv with ⟨rfl,rfl⟩ | rfl
  ·simp only [↓Mz,↓XX,XY,↓reduceIte,seval,↓Aq h0,↓As h1,↓Af hw];exact A6 rfl
  ·have hd4:((0:Nat):Int) - 5 < -4:=by omega
   cases is
   ·simp only [↓Mz,↓XX,XY,↓reduceIte,seval,↓Aq h0,↓As h1,↓Af hw,hd4,Int.reduceSub,Int.reduceLT,Int.reduceNeg];exact A6 rfl
   ·by_cases h3:w3=0
    ·simp only [↓Mz,↓XX,XY,↓reduceIte,seval,↓Aq h0,↓As h1,↓Af hw,h3,hd4,Int.reduceSub,Int.reduceLT,Int.reduceNeg];exact A6 rfl
    ·simp only [↓Mz,↓XX,XY,↓reduceIte,seval,↓Aq h0,↓As h1,↓Af hw,h3,hd4,Int.reduceSub,Int.reduceLT,Int.reduceNeg];exact A6 rfl
 have he1:1<=e:=by omega
 have hd4:¬ (e:Int) - 5 < -4:=by omega
 have hv:is=true->¬ r.op % 3=0:=fun h1 h2=>cv (.inl ⟨h1,h2⟩);have hW1:Wg e=4 * Wg (e - 1):=by obtain ⟨f,rfl⟩:∃f,e=f+1:=⟨e - 1,by omega⟩;rw [Lh,Nat.add_sub_cancel]
 have hW01:=Lj (e - 1);have hD1:Dg e=Dg (e - 1)+10:=by unfold Dg;omega
 have hD01:200<=Dg (e - 1):=by unfold Dg;omega
 have we:BC ((e:Int) - 5 - 1)=((e - 1:Nat):Int) - 5:=by rw [Ax (by omega) (by omega)];omega
 have hO:=hO he1;by_cases ca:6<=e/\r.op % 3=1
 ·obtain ⟨t,b,⟨N2,h2⟩,tt⟩:=hA ca.1 g a r hg ha;refine ⟨t,b,⟨N0+N1+N2+100,fun n hn=>?_⟩,Zj tt up⟩;obtain ⟨n,rfl⟩:=psc n (by omega);have h0:=h0 n (by omega);have h1:=h1 n (by omega);have h2:=h2 n (by omega);have hw:=Au (n:=n) (by omega) r.op (m:=3) (by omega) (by omega);rw [ca.2] at hw;have hd0:(0:Int)<(e:Int) - 5:=by omega
  rw [qA];clear up hfn hO hA hg ha0 ha tv tt;obtain ⟨o0,x0,k0⟩:=a0;obtain ⟨o1,x1,k1⟩:=a;obtain ⟨o2,x2,k2⟩:=r;obtain ⟨o3,x3,k3⟩:=v;obtain ⟨o4,x4,k4⟩:=t;simp only [Tm.n,Tm.op] at h1 hw;simp only [AM,Am] at h0 h1 h2 ⊢;cases is<;>(simp only [↓Mz,↓XX,XY,↓reduceIte,seval,↓Aq h0,↓As h1,↓Af hw,hd4,hd0,↓As h2];exact A6 rfl)
 have hna:(0:Int)<(e:Int) - 5->¬ r.op % 3=1:=by omega
 by_cases o15:a.op=15
 ·have hl:=Aa4 (Gl ha (show ar a.op=some 0 by rw [o15];decide))
  by_cases hs:6<=e/\r.op % 2=1
  ·obtain ⟨x,p,⟨N2,h2⟩,tx⟩:=hO g a (r.pick 0) (A9 (by omega) hg) (BV ha);obtain ⟨y,q,⟨N3,h3⟩,ty⟩:=hO g a (r.pick 1) (A9 (by omega) hg) (BV ha);have hj1:=Int.emod_nonneg r.n (show (5:Int)≠0 by decide)
   have hj2:=Int.emod_lt_of_pos r.n (show (0:Int)<5 by decide)
   refine ⟨.mk 26 (r.n % 5) [x,y],p && q,⟨N0+N1+N2+N3+100,fun n hn=>?_⟩,Z7 (by decide) (by decide) (by rw [BX,if_neg (by decide),if_pos rfl];omega) tx.sc ty.sc,by have:=tx.wt;have:=ty.wt;rw [Ee];omega,by have:=tx.dp;have:=ty.dp;rw [Ns];omega,fun hb=>up (.oprim e g a x y _ hs.1 o15 (tx.gr (Ki hb)) (ty.gr (IK hb)))⟩;obtain ⟨n,rfl⟩:=psc n (by omega);have h0:=h0 n (by omega);have h1:=h1 n (by omega);have h2:=h2 n (by omega);have h3:=h3 n (by omega);rw [<- we] at h2 h3;have hw:=Au (n:=n) (by omega) r.op (m:=3) (by omega) (by omega);have hw2:=Au (n:=n) (by omega) r.op (m:=2) (by omega) (by omega);rw [hs.2] at hw2;have hw5:=Au (n:=n) (by omega) r.n (m:=5) (by omega) (by omega);have p0:=AU (n:=n) (by omega) r 0;have p1:=AU (n:=n) (by omega) r 1;have hd0:(0:Int)<(e:Int) - 5:=by omega
   replace hna:=hna hd0;rw [qA];clear up hfn hO hA hg ha0 ha tv tx ty hj1 hj2;generalize r.op % 3=w3 at hw hv hna;generalize r.n % 5=w5 at hw5 ⊢;generalize r.pick 0=r0 at p0 h2;generalize r.pick 1=r1 at p1 h3;obtain ⟨o0,x0,k0⟩:=a0;obtain ⟨o1,x1,k1⟩:=a;simp only [Tm.op,Tm.kids] at o15 hl;subst o15 hl;obtain ⟨o2,x2,k2⟩:=r;obtain ⟨o3,x3,k3⟩:=v;obtain ⟨o4,x4,k4⟩:=x;obtain ⟨o5,x5,k5⟩:=y;obtain ⟨o6,x6,k6⟩:=r0;obtain ⟨o7,x7,k7⟩:=r1;simp only [Tm.n,Tm.op] at h1 hw hw2 hw5;simp only [AM,Am,Ai5,Ai4] at h0 h1 h2 h3 p0 p1 ⊢;cases is<;>cases p<;>(simp only [↓Mz,↓XX,XY,↓reduceIte,seval,↓Aq h0,↓As h1,↓Af hw,hv,hd4,hd0,hna,↓Af hw2,↓Af p0,↓Af p1,↓As h2,↓As h3,↓Af hw5,↓CK];exact A6 rfl)
  ·have hj1:=Int.emod_nonneg r.n (show (20:Int)≠0 by decide)
   have hj2:=Int.emod_lt_of_pos r.n (show (0:Int)<20 by decide)
   refine ⟨.mk 25 (r.n % 20 - 5) [],true,⟨N0+N1+100,fun n hn=>?_⟩,IT (by decide) (by decide) (by rw [BX,if_neg (by decide),if_neg (by decide),if_pos rfl];omega),by simp only [Tm.wt,Tm.wtL];omega,by simp only [Tm.dp,Tm.dpL];omega,fun _=>up (.oint e g a _ o15)⟩;obtain ⟨n,rfl⟩:=psc n (by omega);have h0:=h0 n (by omega);have h1:=h1 n (by omega);have hw:=Au (n:=n) (by omega) r.op (m:=3) (by omega) (by omega);have hw2:=Au (n:=n) (by omega) r.op (m:=2) (by omega) (by omega);have hw20:=Au (n:=n) (by omega) r.n (m:=20) (by omega) (by omega);have w5:BC (r.n % 20 - 5)=r.n % 20 - 5:=by rw [Ax]<;>omega
   have hin:=cQ (n:=n) (by omega) (r.n % 20 - 5);rw [<- w5] at hin;have h21:(0:Int)<(e:Int) - 5->¬ r.op % 2=1:=by omega
   rw [qA,<- w5];clear up hfn hO hA hg ha0 ha tv hj1 hj2 w5 hs;generalize r.op % 3=w3 at hw hv hna;generalize r.op % 2=w2 at hw2 h21;generalize r.n % 20=w20 at hw20 hin ⊢;obtain ⟨o0,x0,k0⟩:=a0;obtain ⟨o1,x1,k1⟩:=a;simp only [Tm.op,Tm.kids] at o15 hl;subst o15 hl;obtain ⟨o2,x2,k2⟩:=r;obtain ⟨o3,x3,k3⟩:=v;simp only [Tm.n,Tm.op] at h1 hw hw2 hw20;simp only [AM,Am,Ai5,Ai4] at h0 h1 hin ⊢;cases is<;>by_cases hd0:(0:Int)<(e:Int) - 5<;>(simp only [↓Mz,↓XX,XY,↓reduceIte,seval,↓Aq h0,↓As h1,↓Af hw,hv,hd4,hd0,hna,↓Af hw2,h21,↓Af hw20,↓Aq hin];exact A6 rfl)
 by_cases o16:a.op=16
 ·obtain ⟨d,c,hl⟩:=V3 (Gl ha (show ar a.op=some 2 by rw [o16];decide))
  have hd:NOk g.length d/\NOk g.length c:=by obtain ⟨o1,x1,k1⟩:=a;simp only [Tm.op,Tm.kids] at o16 hl;subst o16 hl;have hsc:=ha.sc;rw [Tm.sc] at hsc;rw [Ee] at aw;rw [Ns] at ad;exact ⟨⟨hsc.2.2.1,by omega,by omega⟩,⟨hsc.2.2.2.1,by omega,by omega⟩⟩
  obtain ⟨hd,hc⟩:=hd;have hgd:GOk (e - 1) (g++[(0,d)]):=Dc (by rw [show e - 1+1=e by omega];exact hg) hd.sc (by have:=hd.wt;omega) (by have:=hd.dp;omega)
  obtain ⟨x,p,⟨N2,h2⟩,tx⟩:=hO (g++[(0,d)]) (c.shift 1 0) (r.pick 0) hgd (by simpa using BV (Mk hc (by omega) 1 (by omega)));have xs:x.sc (g.length+1):=by simpa using tx.sc
  refine ⟨.mk 20 0 [d,x],p,⟨N0+N1+N2+100000,fun n hn=>?_⟩,Db hd.sc xs,by have:=tx.wt;have:=hd.wt;rw [Ee];omega,by have:=tx.dp;have:=hd.dp;rw [Ns];omega,fun hb=>up (by
   obtain ⟨oa,xa,ka⟩:=a;simp only [Tm.op,Tm.kids] at o16 hl;subst o16 hl;exact .olam e g _ d c x (tx.gr hb))⟩
  ·obtain ⟨n,rfl⟩:=psc n (by omega);have h0:=h0 n (by omega);have h1:=h1 n (by omega);have h2:=h2 n (by omega);rw [<- we] at h2;have hw:=Au (n:=n) (by omega) r.op (m:=3) (by omega) (by omega);have p0:=AU (n:=n) (by omega) r 0;have hm:=Do (n:=n) g 0 d (by omega) (by omega);have sh:=CE n c 1 0 (by have:=hc.wt;omega) (CT _ _ hc.sc) (by omega) (by have:=hc.wt;omega);have t20:=CM (n:=n) (by omega) 20 [d,x];rw [qA];clear up hfn hO hA hg ha0 ha tv tx hd hc hgd xs;generalize r.op % 3=w3 at hw hv hna;generalize c.shift 1 0=c1 at sh h2;generalize r.pick 0=r0 at p0 h2;obtain ⟨o0,x0,k0⟩:=a0;obtain ⟨o1,x1,k1⟩:=a;simp only [Tm.op,Tm.kids] at o16 hl;subst o16 hl;obtain ⟨o2,x2,k2⟩:=r;obtain ⟨o3,x3,k3⟩:=v;obtain ⟨o4,x4,k4⟩:=x;obtain ⟨o5,x5,k5⟩:=d;obtain ⟨o6,x6,k6⟩:=c;obtain ⟨o7,x7,k7⟩:=c1;obtain ⟨o8,x8,k8⟩:=r0;simp only [Tm.n,Tm.op] at h1 hw;simp only [AM,Am,Ai5,Ai4] at h0 h1 h2 p0 hm sh t20 ⊢;cases is<;>by_cases hd0:(0:Int)<(e:Int) - 5<;>(simp only [↓Mz,↓XX,XY,↓reduceIte,seval,↓Aq h0,↓As h1,↓Af hw,hv,hd4,hd0,hna,↓Eo,↓EH,↓Af p0,↓Av hm,↓Av sh,↓As h2,↓CK,↓Af t20];exact A6 rfl)
 by_cases o17:a.op=17
 ·obtain ⟨d,c,hl⟩:=V3 (Gl ha (show ar a.op=some 2 by rw [o17];decide))
  have hd:NOk g.length d/\NOk g.length c:=by obtain ⟨o1,x1,k1⟩:=a;simp only [Tm.op,Tm.kids] at o17 hl;subst o17 hl;have hsc:=ha.sc;rw [Tm.sc] at hsc;rw [Ee] at aw;rw [Ns] at ad;exact ⟨⟨hsc.2.2.1,by omega,by omega⟩,⟨hsc.2.2.2.1,by omega,by omega⟩⟩
  obtain ⟨hd,hc⟩:=hd;obtain ⟨x,p,⟨N2,h2⟩,tx⟩:=hO g d (r.pick 0) (A9 (by omega) hg) (BV hd);obtain ⟨y,q,⟨N3,h3⟩,ty⟩:=hO g c (r.pick 1) (A9 (by omega) hg) (BV hc);refine ⟨.mk 22 0 [x,y],p && q,⟨N0+N1+N2+N3+100,fun n hn=>?_⟩,Db tx.sc ty.sc,by have:=tx.wt;have:=ty.wt;rw [Ee];omega,by have:=tx.dp;have:=ty.dp;rw [Ns];omega,fun hb=>up (by
   obtain ⟨oa,xa,ka⟩:=a;simp only [Tm.op,Tm.kids] at o17 hl;subst o17 hl;exact .opair e g _ d c x y (tx.gr (Ki hb)) (ty.gr (IK hb)))⟩
  ·obtain ⟨n,rfl⟩:=psc n (by omega);have h0:=h0 n (by omega);have h1:=h1 n (by omega);have h2:=h2 n (by omega);have h3:=h3 n (by omega);rw [<- we] at h2 h3;have hw:=Au (n:=n) (by omega) r.op (m:=3) (by omega) (by omega);have p0:=AU (n:=n) (by omega) r 0;have p1:=AU (n:=n) (by omega) r 1;have t22:=CM (n:=n) (by omega) 22 [x,y];rw [qA];clear up hfn hO hA hg ha0 ha tv tx ty hd hc;generalize r.op % 3=w3 at hw hv hna;generalize r.pick 0=r0 at p0 h2;generalize r.pick 1=r1 at p1 h3;obtain ⟨o0,x0,k0⟩:=a0;obtain ⟨o1,x1,k1⟩:=a;simp only [Tm.op,Tm.kids] at o17 hl;subst o17 hl;obtain ⟨o2,x2,k2⟩:=r;obtain ⟨o3,x3,k3⟩:=v;obtain ⟨o4,x4,k4⟩:=x;obtain ⟨o5,x5,k5⟩:=d;obtain ⟨o6,x6,k6⟩:=c;obtain ⟨o7,x7,k7⟩:=y;obtain ⟨o8,x8,k8⟩:=r0;obtain ⟨o9,x9,k9⟩:=r1;simp only [Tm.n,Tm.op] at h1 hw;simp only [AM,Am,Ai5,Ai4] at h0 h1 h2 h3 p0 p1 t22 ⊢;cases is<;>by_cases hd0:(0:Int)<(e:Int) - 5<;>cases p<;>(simp only [↓Mz,↓XX,XY,↓reduceIte,seval,↓Aq h0,↓As h1,↓Af hw,hv,hd4,hd0,hna,↓Eo,↓EH,↓Af p0,↓Af p1,↓As h2,↓As h3,↓CK,↓Af t22];exact A6 rfl)
 refine ⟨v,is,⟨N0+N1+100,fun n hn=>?_⟩,tv⟩
 ·obtain ⟨n,rfl⟩:=psc n (by omega);have h0:=h0 n (by omega);have h1:=h1 n (by omega);have hw:=Au (n:=n) (by omega) r.op (m:=3) (by omega) (by omega);rw [qA];clear up hfn hO hA hg ha0 ha tv;generalize r.op % 3=w3 at hw hv hna;obtain ⟨o0,x0,k0⟩:=a0;obtain ⟨o1,x1,k1⟩:=a;obtain ⟨o2,x2,k2⟩:=r;obtain ⟨o3,x3,k3⟩:=v;simp only [Tm.n,Tm.op] at h1 hw o15 o16 o17;simp only [AM,Am] at h0 h1 ⊢;cases is<;>by_cases hd0:(0:Int)<(e:Int) - 5<;>(simp only [↓Mz,↓XX,XY,↓reduceIte,seval,↓Aq h0,↓As h1,↓Af hw,hv,hd4,hd0,hna,o15,o16,o17];exact A6 rfl)
def nJ {e:Nat} (he:e<=10) (hG:1<=e->Eg 30 1 (e - 1)) (hO:1<=e->Eg 42 2 (e - 1)) (hA:6<=e->OI 67 3 e) (hP:1<=e->fY 68 3 e):Eg 30 1 e:=by
 intro g a0 r hg ha0;have hlen:=hg.len;have hW0:=Lj e;have hD0:200<=Dg e:=by unfold Dg;omega
 have hDm:Dg e<=300:=by unfold Dg;omega
 have hW10:=Mw he;obtain ⟨a,er,⟨N0,h0⟩,hcase,fn,hfn⟩:=Gs (k:=g.length) (by omega) ha0.sc (by have:=ha0.dp;omega);rcases hcase with ⟨rfl,ha⟩ | ⟨her,rfl⟩
 case inr =>
  have hne:er≠0:=by omega
  refine ⟨.z,false,⟨N0+100,fun n hn=>?_⟩,sA _,by simp only [Tm.z,Tm.wt,Tm.wtL];omega,by simp only [Tm.z,Tm.dp,Tm.dpL];omega,fun h=>by cases h⟩;obtain ⟨n,rfl⟩:=psc n (by omega);have h0:=h0 n (by omega);rw [kV];clear hG hO hA hP hg ha0;obtain ⟨o1,x1,k1⟩:=a0;obtain ⟨o2,x2,k2⟩:=r;simp only [AM,Tm.z,Ai4,Am] at h0 ⊢;simp only [↓Jg,↓XX,XY,↓reduceIte,seval,↓Aq h0,hne];exact A6 rfl
 obtain ⟨v,is,⟨N1,h1⟩,tv0,hhit⟩:=K3 hg 1 ha r.n;have up:∀{t:Tm},Gr 3 e g a t->Gr 1 e g a0 t:=fun h=>.grow e g a0 a _ fn hfn (by omega) ha h;have tv:TG 1 e g a0 v is:=tg (RZ (Nat.zero_le _) tv0) (fun hb=>by
  obtain ⟨i,rfl,hi⟩:=hhit hb;exact up (.var1 e g a i hi))
 clear tv0 hhit;have aw:=ha.wt;have ad:=ha.dp;have hw3m:=Int.emod_nonneg r.op (show (3:Int)≠0 by decide)
 by_cases cv:is=true/\r.op % 3=0\/e=0
 ·refine ⟨v,is,⟨N0+N1+100,fun n hn=>?_⟩,tv⟩;obtain ⟨n,rfl⟩:=psc n (by omega);have h0:=h0 n (by omega);have h1:=h1 n (by omega);have hw:=Au (n:=n) (by omega) r.op (m:=3) (by omega) (by omega);rw [kV];clear up hfn hG hO hA hP hg ha0 ha tv;obtain ⟨o0,x0,k0⟩:=a0;obtain ⟨o1,x1,k1⟩:=a;obtain ⟨o2,x2,k2⟩:=r;obtain ⟨o3,x3,k3⟩:=v;simp only [Tm.n,Tm.op] at h1 hw cv;simp only [AM,Am] at h0 h1 ⊢;generalize o2 % 3=w3 at hw cv;rcases cv with ⟨rfl,rfl⟩ | rfl
  ·simp only [↓Jg,↓XX,XY,↓reduceIte,seval,↓Aq h0,↓As h1,↓Af hw];exact A6 rfl
  ·have hd4:((0:Nat):Int) - 5 < -4:=by omega
   cases is
   ·simp only [↓Jg,↓XX,XY,↓reduceIte,seval,↓Aq h0,↓As h1,↓Af hw,hd4,Int.reduceSub,Int.reduceLT,Int.reduceNeg];exact A6 rfl
   ·by_cases h3:w3=0
    ·simp only [↓Jg,↓XX,XY,↓reduceIte,seval,↓Aq h0,↓As h1,↓Af hw,h3,hd4,Int.reduceSub,Int.reduceLT,Int.reduceNeg];exact A6 rfl
    ·simp only [↓Jg,↓XX,XY,↓reduceIte,seval,↓Aq h0,↓As h1,↓Af hw,h3,hd4,Int.reduceSub,Int.reduceLT,Int.reduceNeg];exact A6 rfl
 have he1:1<=e:=by omega
 have hd4:¬ (e:Int) - 5 < -4:=by omega
 have hv:is=true->¬ r.op % 3=0:=fun h1 h2=>cv (.inl ⟨h1,h2⟩);have hW1:Wg e=4 * Wg (e - 1):=by obtain ⟨f,rfl⟩:∃f,e=f+1:=⟨e - 1,by omega⟩;rw [Lh,Nat.add_sub_cancel]
 have hW01:=Lj (e - 1);have hD1:Dg e=Dg (e - 1)+10:=by unfold Dg;omega
 have hD01:200<=Dg (e - 1):=by unfold Dg;omega
 have we:BC ((e:Int) - 5 - 1)=((e - 1:Nat):Int) - 5:=by rw [Ax (by omega) (by omega)];omega
 have hO:=hO he1;have hG:=hG he1;have hP:=hP he1;by_cases ca:6<=e/\r.op % 7=6
 ·obtain ⟨t,b,⟨N2,h2⟩,tt⟩:=hA ca.1 g a r hg ha;refine ⟨t,b,⟨N0+N1+N2+100,fun n hn=>?_⟩,Zj tt up⟩;obtain ⟨n,rfl⟩:=psc n (by omega);have h0:=h0 n (by omega);have h1:=h1 n (by omega);have h2:=h2 n (by omega);have hw:=Au (n:=n) (by omega) r.op (m:=3) (by omega) (by omega);have hw7:=Au (n:=n) (by omega) r.op (m:=7) (by omega) (by omega);rw [ca.2] at hw7;have hd0:(0:Int)<(e:Int) - 5:=by omega
  rw [kV];clear up hfn hG hO hA hP hg ha0 ha tv tt;generalize r.op % 3=w3 at hw hv;obtain ⟨o0,x0,k0⟩:=a0;obtain ⟨o1,x1,k1⟩:=a;obtain ⟨o2,x2,k2⟩:=r;obtain ⟨o3,x3,k3⟩:=v;obtain ⟨o4,x4,k4⟩:=t;simp only [Tm.n,Tm.op] at h1 hw hw7;simp only [AM,Am] at h0 h1 h2 ⊢;cases is<;>(simp only [↓Jg,↓XX,XY,↓reduceIte,seval,↓Aq h0,↓As h1,↓Af hw,↓Af hw7,hv,hd4,hd0,↓As h2];exact A6 rfl)
 have hna:(0:Int)<(e:Int) - 5->¬ r.op % 7=6:=by omega
 by_cases hpl:a.op=10\/a.op=14\/a.op=2
 ·obtain ⟨t,b,⟨N2,h2⟩,tt⟩:=hP g a r hg ha hpl;refine ⟨t,b,⟨N0+N1+N2+100,fun n hn=>?_⟩,Zj tt up⟩
  ·obtain ⟨n,rfl⟩:=psc n (by omega);have h0:=h0 n (by omega);have h1:=h1 n (by omega);have h2:=h2 n (by omega);have hw:=Au (n:=n) (by omega) r.op (m:=3) (by omega) (by omega);have hw7:=Au (n:=n) (by omega) r.op (m:=7) (by omega) (by omega);rw [kV];clear up hfn hG hO hA hP hg ha0 ha tv tt;generalize r.op % 3=w3 at hw hv;generalize r.op % 7=w7 at hw7 hna;obtain ⟨o0,x0,k0⟩:=a0;obtain ⟨o1,x1,k1⟩:=a;obtain ⟨o2,x2,k2⟩:=r;obtain ⟨o3,x3,k3⟩:=v;obtain ⟨o4,x4,k4⟩:=t;simp only [Tm.n,Tm.op] at h1 hw hw7 hpl;simp only [AM,Am] at h0 h1 h2 ⊢;rcases hpl with rfl | rfl | rfl
   ·cases is<;>by_cases hd0:(0:Int)<(e:Int) - 5<;>(simp only [↓Jg,↓XX,XY,↓reduceIte,seval,↓Aq h0,↓As h1,↓Af hw,↓Af hw7,hv,hd4,hd0,hna,↓As h2];exact A6 rfl)
   ·cases is<;>by_cases hd0:(0:Int)<(e:Int) - 5<;>(simp only [↓Jg,↓XX,XY,↓reduceIte,seval,↓Aq h0,↓As h1,↓Af hw,↓Af hw7,hv,hd4,hd0,hna,↓As h2];exact A6 rfl)
   ·cases is<;>by_cases hd0:(0:Int)<(e:Int) - 5<;>(simp only [↓Jg,↓XX,XY,↓reduceIte,seval,↓Aq h0,↓As h1,↓Af hw,↓Af hw7,hv,hd4,hd0,hna,↓As h2];exact A6 rfl)
 by_cases o3:a.op=3
 ·obtain ⟨d,c,hl⟩:=V3 (Gl ha (show ar a.op=some 2 by rw [o3];decide))
  have hd:NOk g.length d/\NOk (g.length+1) c:=by obtain ⟨o1,x1,k1⟩:=a;simp only [Tm.op,Tm.kids] at o3 hl;subst o3 hl;have hsc:=ha.sc;rw [Tm.sc] at hsc;rw [Ee] at aw;rw [Ns] at ad;exact ⟨⟨hsc.2.2.1,by omega,by omega⟩,⟨hsc.2.2.2.1,by omega,by omega⟩⟩
  obtain ⟨hd,hc⟩:=hd;have hgd:GOk (e - 1) (g++[(1,d)]):=Dc (by rw [show e - 1+1=e by omega];exact hg) hd.sc (by have:=hd.wt;omega) (by have:=hd.dp;omega)
  obtain ⟨x,p,⟨N2,h2⟩,tx⟩:=hG (g++[(1,d)]) c (r.pick 0) hgd (by simpa using BV hc);have xs:x.sc (g.length+1):=by simpa using tx.sc
  refine ⟨.mk 4 0 [d,x],p,⟨N0+N1+N2+100000,fun n hn=>?_⟩,Db hd.sc xs,by have:=tx.wt;have:=hd.wt;rw [Ee];omega,by have:=tx.dp;have:=hd.dp;rw [Ns];omega,fun hb=>up (by
   obtain ⟨oa,xa,ka⟩:=a;simp only [Tm.op,Tm.kids] at o3 hl;subst o3 hl;exact .lam e g _ d c x (tx.gr hb))⟩
  ·obtain ⟨n,rfl⟩:=psc n (by omega);have h0:=h0 n (by omega);have h1:=h1 n (by omega);have h2:=h2 n (by omega);rw [<- we] at h2;have hw:=Au (n:=n) (by omega) r.op (m:=3) (by omega) (by omega);have hw7:=Au (n:=n) (by omega) r.op (m:=7) (by omega) (by omega);have p0:=AU (n:=n) (by omega) r 0;have hm:=Do (n:=n) g 1 d (by omega) (by omega);have t4:=CM (n:=n) (by omega) 4 [d,x];rw [kV];clear up hfn hG hO hA hP hg ha0 ha tv tx hd hc hgd xs hpl;generalize r.op % 3=w3 at hw hv;generalize r.op % 7=w7 at hw7 hna;generalize r.pick 0=r0 at p0 h2;obtain ⟨o0,x0,k0⟩:=a0;obtain ⟨o1,x1,k1⟩:=a;simp only [Tm.op,Tm.kids] at o3 hl;subst o3 hl;obtain ⟨o2,x2,k2⟩:=r;obtain ⟨o3,x3,k3⟩:=v;obtain ⟨o4,x4,k4⟩:=x;obtain ⟨o5,x5,k5⟩:=d;obtain ⟨o6,x6,k6⟩:=c;obtain ⟨o8,x8,k8⟩:=r0;simp only [Tm.n,Tm.op] at h1 hw hw7;simp only [AM,Am,Ai5,Ai4] at h0 h1 h2 p0 hm t4 ⊢;cases is<;>by_cases hd0:(0:Int)<(e:Int) - 5<;>(simp only [↓Jg,↓XX,XY,↓reduceIte,seval,↓Aq h0,↓As h1,↓Af hw,↓Af hw7,hv,hd4,hd0,hna,↓Eo,↓EH,↓Af p0,↓Av hm,↓As h2,↓CK,↓Af t4];exact A6 rfl)
 by_cases o6:a.op=6
 ·obtain ⟨d,c,hl⟩:=V3 (Gl ha (show ar a.op=some 2 by rw [o6];decide))
  have hd:NOk g.length d/\NOk (g.length+1) c:=by obtain ⟨o1,x1,k1⟩:=a;simp only [Tm.op,Tm.kids] at o6 hl;subst o6 hl;have hsc:=ha.sc;rw [Tm.sc] at hsc;rw [Ee] at aw;rw [Ns] at ad;exact ⟨⟨hsc.2.2.1,by omega,by omega⟩,⟨hsc.2.2.2.1,by omega,by omega⟩⟩
  obtain ⟨hd,hc⟩:=hd;obtain ⟨x,p,⟨N2,h2⟩,tx⟩:=hG g d (r.pick 0) (A9 (by omega) hg) (BV hd);cases p
  ·refine ⟨v,is,⟨N0+N1+N2+100,fun n hn=>?_⟩,tv⟩;obtain ⟨n,rfl⟩:=psc n (by omega);have h0:=h0 n (by omega);have h1:=h1 n (by omega);have h2:=h2 n (by omega);rw [<- we] at h2;have hw:=Au (n:=n) (by omega) r.op (m:=3) (by omega) (by omega);have hw7:=Au (n:=n) (by omega) r.op (m:=7) (by omega) (by omega);have p0:=AU (n:=n) (by omega) r 0;rw [kV];clear up hfn hG hO hA hP hg ha0 ha tv tx hd hc hpl;generalize r.op % 3=w3 at hw hv;generalize r.op % 7=w7 at hw7 hna;generalize r.pick 0=r0 at p0 h2;obtain ⟨o0,x0,k0⟩:=a0;obtain ⟨o1,x1,k1⟩:=a;simp only [Tm.op,Tm.kids] at o6 hl;subst o6 hl;obtain ⟨o2,x2,k2⟩:=r;obtain ⟨o3,x3,k3⟩:=v;obtain ⟨o4,x4,k4⟩:=x;obtain ⟨o5,x5,k5⟩:=d;obtain ⟨o6,x6,k6⟩:=c;obtain ⟨o8,x8,k8⟩:=r0;simp only [Tm.n,Tm.op] at h1 hw hw7;simp only [AM,Am,Ai5,Ai4] at h0 h1 h2 p0 ⊢;cases is<;>by_cases hd0:(0:Int)<(e:Int) - 5<;>(simp only [↓Jg,↓XX,XY,↓reduceIte,seval,↓Aq h0,↓As h1,↓Af hw,↓Af hw7,hv,hd4,hd0,hna,↓Eo,↓EH,↓Af p0,↓As h2];exact A6 rfl)
  ·have hss:AOk g.length (c.subst 0 0 x):=by
    have xw:=tx.wt;have xd:=tx.dp;have cw:=hc.wt;have cd:=hc.dp;have h1:=Ht c x 0 0;have h2:=M4 c x 0 0;have h3:c.wt * x.wt<=3000 * 21000000000:=Nat.mul_le_mul cw (by omega);exact ⟨HE c x 0 g.length hc.sc tx.sc (by omega),by omega,by omega⟩
   obtain ⟨y,q,⟨N3,h3⟩,ty⟩:=hG g (c.subst 0 0 x) (r.pick 1) (A9 (by omega) hg) hss;refine ⟨.mk 7 0 [a,x,y],q,⟨N0+N1+N2+N3+1000000000000,fun n hn=>?_⟩,Ze ha.sc tx.sc ty.sc,by have:=tx.wt;have:=ty.wt;rw [qT];omega,by have:=tx.dp;have:=ty.dp;rw [dp3];omega,fun hb=>up (by
   obtain ⟨oa,xa,ka⟩:=a;simp only [Tm.op,Tm.kids] at o6 hl;subst o6 hl;exact .pair e g _ d c x y (cX tx (by omega)) (tx.gr rfl) (ty.gr hb))⟩
   obtain ⟨n,rfl⟩:=psc n (by omega);have h0:=h0 n (by omega);have h1:=h1 n (by omega);have h2:=h2 n (by omega);have h3:=h3 n (by omega);rw [<- we] at h2 h3;have hw:=Au (n:=n) (by omega) r.op (m:=3) (by omega) (by omega);have hw7:=Au (n:=n) (by omega) r.op (m:=7) (by omega) (by omega);have p0:=AU (n:=n) (by omega) r 0;have p1:=AU (n:=n) (by omega) r 1;have hsb:=L8 (n:=n) c x 0 (CT _ _ tx.sc) (by have:=tx.wt;omega) (by have:=tx.wt;have:=hc.wt;omega) (CT _ _ hc.sc) (by have:=hc.wt;omega) (by omega) (by have:=hc.wt;omega);have t7:=CM (n:=n) (by omega) 7 [a,x,y];rw [kV];clear up hfn hG hO hA hP hg ha0 ha tv tx ty hd hc hpl hss;generalize r.op % 3=w3 at hw hv;generalize r.op % 7=w7 at hw7 hna;generalize c.subst 0 0 x=sb at hsb h3;generalize r.pick 0=r0 at p0 h2;generalize r.pick 1=r1 at p1 h3;obtain ⟨o0,x0,k0⟩:=a0;obtain ⟨o1,x1,k1⟩:=a;simp only [Tm.op,Tm.kids] at o6 hl;subst o6 hl;obtain ⟨o2,x2,k2⟩:=r;obtain ⟨o3,x3,k3⟩:=v;obtain ⟨o4,x4,k4⟩:=x;obtain ⟨o5,x5,k5⟩:=d;obtain ⟨o6,x6,k6⟩:=c;obtain ⟨o7,x7,k7⟩:=y;obtain ⟨o8,x8,k8⟩:=r0;obtain ⟨o9,x9,k9⟩:=r1;obtain ⟨oa,xa,ka⟩:=sb;simp only [Tm.n,Tm.op] at h1 hw hw7;simp only [AM,Am,Ai5,Ai4] at h0 h1 h2 h3 p0 p1 hsb t7 ⊢;cases is<;>by_cases hd0:(0:Int)<(e:Int) - 5<;>(simp only [↓Jg,↓XX,XY,↓reduceIte,seval,↓Aq h0,↓As h1,↓Af hw,↓Af hw7,hv,hd4,hd0,hna,↓Eo,↓EH,↓Af p0,↓Af p1,↓As h2,↓Av hsb,↓As h3,↓Jp,↓Af t7];exact A6 rfl)
 by_cases o18:a.op=18
 ·obtain ⟨d,hl⟩:=AaS (Gl ha (show ar a.op=some 1 by rw [o18];decide))
  have hd:NOk g.length d:=by obtain ⟨o1,x1,k1⟩:=a;simp only [Tm.op,Tm.kids] at o18 hl;subst o18 hl;have hsc:=ha.sc;rw [Tm.sc] at hsc;rw [LF] at aw;rw [iG] at ad;exact ⟨hsc.2.2.1,by omega,by omega⟩
  obtain ⟨x,p,⟨N2,h2⟩,tx⟩:=hO g d (r.pick 0) (A9 (by omega) hg) (BV hd);refine ⟨.mk 19 0 [x],p,⟨N0+N1+N2+100,fun n hn=>?_⟩,FZ tx.sc,by have:=tx.wt;rw [LF];omega,by have:=tx.dp;rw [iG];omega,fun hb=>up (by
   obtain ⟨oa,xa,ka⟩:=a;simp only [Tm.op,Tm.kids] at o18 hl;subst o18 hl;exact .quo e g _ d x (tx.gr hb))⟩
  ·obtain ⟨n,rfl⟩:=psc n (by omega);have h0:=h0 n (by omega);have h1:=h1 n (by omega);have h2:=h2 n (by omega);rw [<- we] at h2;have hw:=Au (n:=n) (by omega) r.op (m:=3) (by omega) (by omega);have hw7:=Au (n:=n) (by omega) r.op (m:=7) (by omega) (by omega);have p0:=AU (n:=n) (by omega) r 0;have t19:=CM (n:=n) (by omega) 19 [x];rw [kV];clear up hfn hG hO hA hP hg ha0 ha tv tx hd hpl;generalize r.op % 3=w3 at hw hv;generalize r.op % 7=w7 at hw7 hna;generalize r.pick 0=r0 at p0 h2;obtain ⟨o0,x0,k0⟩:=a0;obtain ⟨o1,x1,k1⟩:=a;simp only [Tm.op,Tm.kids] at o18 hl;subst o18 hl;obtain ⟨o2,x2,k2⟩:=r;obtain ⟨o3,x3,k3⟩:=v;obtain ⟨o4,x4,k4⟩:=x;obtain ⟨o5,x5,k5⟩:=d;obtain ⟨o8,x8,k8⟩:=r0;simp only [Tm.n,Tm.op] at h1 hw hw7;simp only [AM,Am,Ai5,Ai4] at h0 h1 h2 p0 t19 ⊢;cases is<;>by_cases hd0:(0:Int)<(e:Int) - 5<;>(simp only [↓Jg,↓XX,XY,↓reduceIte,seval,↓Aq h0,↓As h1,↓Af hw,↓Af hw7,hv,hd4,hd0,hna,↓Eo,↓Af p0,↓As h2,↓Dz,↓Af t19];exact A6 rfl)
 have q1:a.op≠10:=fun h=>hpl (.inl h);have q2:a.op≠14:=fun h=>hpl (.inr (.inl h));have q3:a.op≠2:=fun h=>hpl (.inr (.inr h));refine ⟨v,is,⟨N0+N1+100,fun n hn=>?_⟩,tv⟩
 ·obtain ⟨n,rfl⟩:=psc n (by omega);have h0:=h0 n (by omega);have h1:=h1 n (by omega);have hw:=Au (n:=n) (by omega) r.op (m:=3) (by omega) (by omega);have hw7:=Au (n:=n) (by omega) r.op (m:=7) (by omega) (by omega);rw [kV];clear up hfn hG hO hA hP hg ha0 ha tv hpl;generalize r.op % 3=w3 at hw hv;generalize r.op % 7=w7 at hw7 hna;obtain ⟨o0,x0,k0⟩:=a0;obtain ⟨o1,x1,k1⟩:=a;obtain ⟨o2,x2,k2⟩:=r;obtain ⟨o4,x3,k3⟩:=v;simp only [Tm.n,Tm.op] at h1 hw hw7 o3 o6 o18 q1 q2 q3;simp only [AM,Am] at h0 h1 ⊢;cases is<;>by_cases hd0:(0:Int)<(e:Int) - 5<;>(simp only [↓Jg,↓XX,XY,↓reduceIte,seval,↓Aq h0,↓As h1,↓Af hw,↓Af hw7,hv,hd4,hd0,hna,o3,o6,o18,q1,q2,q3];exact A6 rfl)
theorem Nb:∀e,e<=10->K6 e/\Eg 30 1 e/\Eg 42 2 e:=by
 intro e
 induction e using Nat.strongRecOn with
 | _ e ih =>
  intro he;have hp:1<=e->K6 (e - 1)/\Eg 30 1 (e - 1)/\Eg 42 2 (e - 1):=fun h=>ih (e - 1) (by omega) (by omega);have hp2:2<=e->K6 (e - 2)/\Eg 30 1 (e - 2)/\Eg 42 2 (e - 2):=fun h=>ih (e - 2) (by omega) (by omega);have hT:K6 e:=lJ he (fun h=>(hp (by omega)).1) (fun h=>(hp (by omega)).2.1);have hT6:6<=e->K6 6:=fun h=>by
   by_cases h6:e=6
   ·exact h6 ▸ hT
   ·exact (ih 6 (by omega) (by omega)).1
  have hR:6<=e->OI 67 3 e:=fun h=>Zm h he (hT6 h) (hp2 (by omega)).2.1;have hP:1<=e->fY 68 3 e:=fun h=>Za h he (hp h).2.1 (fun h6=>(hp2 (by omega)).2.1);have hA:6<=e->OI 72 4 e:=fun h=>X8 h he (hp2 (by omega)).2.2 (hp (by omega)).2.1;have hO:Eg 42 2 e:=YK he (fun h=>(hp h).2.2) hA;exact ⟨hT,nJ he (fun h=>(hp h).2.1) (fun h=>(hp h).2.2) hR hP,hO⟩
def ZC (T1 T2:AR->Tm->Tm) (B1:AR->Tm->Bool) (g:AR) (r:Tm):AR:=if r.n % 3=0 then (if B1 g r then g++[(0,T1 g r)] else g) else g++[(1,T2 g r)]
def Ci (f:AR->Tm->AR) (l:List Tm):Nat->AR
 | 0=>[]
 | i+1=>match l[i]? with
  | some r=>f (Ci f l i) r
  | none=>Ci f l i
def gV:AR->IV
 | []=>.nils
 | p::g=>.fv (AM (p::g))
theorem pZ {g:AR} (h:g≠[]):gV g=.fv (AM g):=by
 cases g with
 | nil=>exact absurd rfl h
 | cons p g=>rfl
theorem sM (g:AR):gV g=.nils\/∃x,gV g=.fv x:=by
 cases g with
 | nil=>exact .inl rfl
 | cons p g=>exact .inr ⟨_,rfl⟩
theorem xL (g:AR) (own:List (Nat×Blk)):BE (Aj [gV g] ⟨own,[]⟩) (AM g):=by
 cases g with
 | nil=>exact Bo rfl _
 | cons p g=>exact Aw _ _
theorem tH (g:AR):Bd (gV g)=some (AM g):=by
 cases g with
 | nil=>rfl
 | cons p g=>rfl
theorem TU (l:List Tm) (hll:l.length<=9223372036854775807):∃g,Ev 28 [.fv (.sl (l.map Tm.enc))] (AM g)/\GOk 10 g/\g.length<=4/\CtxG g/\(l=[]->g=[]):=by
 have hc:∀p:AR×Tm,∃(t1 t2:Tm) (b1:Bool),GOk 10 p.1->Ev 30 [.fv (AM p.1),.fv (Tm.mk 14 0 []).enc,.fv p.2.enc,iv 2] (.tuple [Tm.enc t1,.bool b1])/\TG 1 7 p.1 (.mk 14 0 []) t1 b1/\Ev 29 [.fv (AM p.1),.fv p.2.enc,iv 2] (Tm.enc t2)/\TyOk p.1 7 t2:=by
  rintro ⟨g,r⟩;by_cases hg:GOk 10 g
  ·obtain ⟨hT,hG,_⟩:=Nb 7 (by omega);obtain ⟨t1,b1,h1,h2⟩:=hG g (.mk 14 0 []) r (A9 (by omega) hg) ⟨Da,by simp [Tm.wt,Tm.wtL],by simp [Tm.dp,Tm.dpL]⟩;obtain ⟨t2,h3,h4⟩:=hT g r (A9 (by omega) hg);exact ⟨t1,t2,b1,fun _=>⟨h1,h2,h3,h4⟩⟩
  ·exact ⟨.z,.z,false,fun h=>absurd h hg⟩
 obtain ⟨T1,hc⟩:=Classical.axiomOfChoice hc;obtain ⟨T2,hc⟩:=Classical.axiomOfChoice hc;obtain ⟨B1,hc⟩:=Classical.axiomOfChoice hc;obtain ⟨f,hf⟩:∃f,f=ZC (fun g r=>T1 (g,r)) (fun g r=>T2 (g,r)) (fun g r=>B1 (g,r)):=⟨_,rfl⟩;have hD7:Dg 7=270:=rfl;have hD6:Dg 6=260:=rfl;have hW7:Wg 7=131072000:=rfl;have hW6:Wg 6=32768000:=rfl;have hstep:∀i,i<=4->GOk 10 (Ci f l i)/\(Ci f l i).length<=i/\CtxG (Ci f l i):=by
  intro i
  induction i with
  | zero=>intro _;exact ⟨⟨by simp [Ci],fun i p h=>by simp [Ci] at h⟩,by simp [Ci],.nil⟩
  | succ i ih =>
   intro h;obtain ⟨h1,h2,hcg⟩:=ih (by omega);rw [Ci];cases hr:l[i]? with
   | none=>simp only;exact ⟨h1,by omega,hcg⟩
   | some r =>
    simp only;generalize Ci f l i=g at h1 h2 hcg;obtain ⟨_,h4,_,h6⟩:=hc (g,r) h1;simp only at h4 h6;have h4s:=h4.sc;have h4w:=h4.wt;have h4d:=h4.dp;have h6s:=h6.sc;have h6w:=h6.wt;have h6d:=h6.dp;rw [show 7 - 1=6 from rfl] at h6w h6d
    have big:∀(s:Int) (t:Tm),t.sc g.length->t.wt<=100000000000->t.dp<=6000->GOk 10 (g++[(s,t)]):=by intro s t q1 q2 q3;have h11:GOk 11 g:=⟨by omega,h1.ok⟩;exact Dc h11 q1 q2 q3
    rw [hf,ZC];split
    ·split
     ·rename_i hb;exact ⟨big _ _ h4s (by omega) (by omega),by simp;omega,.ob g _ hcg (h4.gr hb)⟩
     ·exact ⟨h1,by omega,hcg⟩
    ·exact ⟨big _ _ h6s (by omega) (by omega),by simp;omega,.me g _ hcg ⟨h6s,by omega,by omega⟩ (by omega) h6.gr⟩
 obtain ⟨m,hm⟩:∃m,m=min l.length 4:=⟨_,rfl⟩;obtain ⟨N,hN⟩:=ZY (P:=fun i n=>∀r,l[i]?=some r->BE (SS dt n 30 [.fv (AM (Ci f l i)),.fv (Tm.mk 14 0 []).enc,.fv r.enc,iv 2] ⟨[],[]⟩) (.tuple [Tm.enc (T1 (Ci f l i,r)),.bool (B1 (Ci f l i,r))])/\BE (SS dt n 29 [.fv (AM (Ci f l i)),.fv r.enc,iv 2] ⟨[],[]⟩) (Tm.enc (T2 (Ci f l i,r)))) m (fun i hi=>by
  have hil:i<l.length:=by omega
  obtain ⟨⟨N1,h1⟩,_,⟨N2,h2⟩,_⟩:=hc (Ci f l i,l[i]) (hstep i (by omega)).1;refine ⟨N1+N2,fun n hn r hr=>?_⟩;rw [Ai6 hil,AiZ] at hr;subst hr;exact ⟨h1 n (by omega),h2 n (by omega)⟩)
 have hm4:=hstep m (by omega);refine ⟨Ci f l m,⟨N+100,fun n hn=>?_⟩,hm4.1,by omega,hm4.2.2,fun h=>by subst h;rw [hm];rfl⟩;obtain ⟨n,rfl⟩:=psc n (by omega);rw [c28];simp only [Tc,SL,S28,↓XX,XY,↓reduceIte,seval,↓AI,XD,heldB,AS,XE];refine Ba (Q:=fun r=>BE r _) (fun k V H=>∃i:Nat,i+k=m/\V=[.fv (.sl (l.map Tm.enc)),gV (Ci f l i),iv i]/\H=⟨[],[]⟩)
  ?_ n m _ _ (by omega) ⟨0,by omega,rfl,rfl⟩
 rintro k V H rec ⟨i,hik,rfl,rfl⟩ hrec;have hi4:=hstep i (by omega);cases k with
 | zero =>
  have him:i=m:=by omega
  subst him;have ha:=fun own=>xL (Ci f l i) own;generalize gV (Ci f l i)=gv at ha;by_cases h1:(i:Int)<l.length
  ·have h4:¬ ((i:Int)<4):=by omega
   simp only [↓QX,↓XX,XY,↓reduceIte,seval,h1,h4];exact ha _
  ·simp only [↓QX,↓XX,XY,↓reduceIte,seval,h1];exact ha _
 | succ k =>
  have hil:i<l.length:=by omega
  have h1:(i:Int)<l.length:=by omega
  have h4:(i:Int)<4:=by omega
  have wi:BC ((i:Int)+1)=(i:Int)+1:=by rw [Ax]<;>omega
  obtain ⟨r,hr⟩:∃r,l[i]?=some r:=⟨_,Ai6 hil⟩;obtain ⟨g1,g2⟩:=hN i (by omega) n (by omega) r hr;have hw:=Au (n:=n) (by omega) r.n (m:=3) (by omega) (by omega);have t14:=AZ (n:=n) (by omega) 14;have h9:=hrec k [.fv (.sl (l.map Tm.enc)),gV (Ci f l (i+1)),iv (i+1:Nat)] ⟨[],[]⟩ (by omega) ⟨i+1,by omega,rfl,rfl⟩;have hi1:((i+1:Nat):Int)=(i:Int)+1:=by omega
  rw [hi1,Ci,hr] at h9;simp only [hf,ZC] at h9;rw [<- hf] at h9;have hfz:=tH (Ci f l i);have htw:=sM (Ci f l i);have m1:=Do (n:=n) (Ci f l i) 0 (T1 (Ci f l i,r)) (by omega) (by omega);have m2:=Do (n:=n) (Ci f l i) 1 (T2 (Ci f l i,r)) (by omega) (by omega);have n1:=pZ (g:=Ci f l i++[((0:Int),T1 (Ci f l i,r))]) (by simp);have n2:=pZ (g:=Ci f l i++[((1:Int),T2 (Ci f l i,r))]) (by simp);generalize AM (Ci f l i++[((0:Int),T1 (Ci f l i,r))])=e1 at m1 n1;generalize AM (Ci f l i++[((1:Int),T2 (Ci f l i,r))])=e2 at m2 n2;clear hc hstep hN hi4 hm4;by_cases c0:r.n % 3=0
  ·rw [if_pos c0] at h9;rw [c0] at hw;cases hb:B1 (Ci f l i,r)
   ·rw [hb] at g1 h9;simp only [Ajx,if_false] at h9;generalize T1 (Ci f l i,r)=t1 at g1;generalize gV (Ci f l i)=gv at hfz h9 htw;generalize AM (Ci f l i)=ge at hfz g1;obtain ⟨o,p,ks⟩:=r;obtain ⟨o1,p1,k1⟩:=t1;simp only [Tm.n] at hw;simp only [Am,Ai4] at g1 t14;have g1:=As (a:=gv) (b:=.fv (.agg [.int .i64 14,.int .i64 0,.sl []])) (c:=.fv (.agg [.int .i64 o,.int .i64 p,.sl (ks.map Tm.enc)])) (d:=iv 2) g1 hfz rfl rfl rfl;rcases htw with rfl | ⟨x0,rfl⟩
    ·simp only [↓QX,↓XX,XY,↓reduceIte,seval,h1,h4,wi,↓Bq (AN hr) (Bk _ _ _),↓B8,↓Af hw,↓Af t14,↓g1,↓AI,XD,heldB,AS,XE];exact h9
    ·simp only [↓QX,↓XX,XY,↓reduceIte,seval,h1,h4,wi,↓Bq (AN hr) (Bk _ _ _),↓B8,↓Af hw,↓Af t14,↓g1,↓AI,XD,heldB,AS,XE];exact h9
   ·rw [hb] at g1 h9;simp only [if_true] at h9;rw [n1] at h9;generalize T1 (Ci f l i,r)=t1 at g1 m1;generalize gV (Ci f l i)=gv at hfz htw;generalize AM (Ci f l i)=ge at hfz g1 m1;obtain ⟨o,p,ks⟩:=r;obtain ⟨o1,p1,k1⟩:=t1;simp only [Tm.n] at hw;simp only [Am,Ai4] at g1 t14 m1;have g1:=As (a:=gv) (b:=.fv (.agg [.int .i64 14,.int .i64 0,.sl []])) (c:=.fv (.agg [.int .i64 o,.int .i64 p,.sl (ks.map Tm.enc)])) (d:=iv 2) g1 hfz rfl rfl rfl;have m1:=Av (a:=gv) (b:=iv 0) (c:=.fv (.agg [.int .i64 o1,.int .i64 p1,.sl (k1.map Tm.enc)])) m1 hfz rfl rfl;rcases htw with rfl | ⟨x0,rfl⟩
    ·simp only [↓QX,↓XX,XY,↓reduceIte,seval,h1,h4,wi,↓Bq (AN hr) (Bk _ _ _),↓B8,↓Af hw,↓Af t14,↓g1,↓m1,↓AI,XD,heldB,AS,XE];exact h9
    ·simp only [↓QX,↓XX,XY,↓reduceIte,seval,h1,h4,wi,↓Bq (AN hr) (Bk _ _ _),↓B8,↓Af hw,↓Af t14,↓g1,↓m1,↓AI,XD,heldB,AS,XE];exact h9
  ·rw [if_neg c0,n2] at h9;generalize T2 (Ci f l i,r)=t2 at g2 m2;generalize gV (Ci f l i)=gv at hfz htw;generalize AM (Ci f l i)=ge at hfz g2 m2;obtain ⟨o,p,ks⟩:=r;obtain ⟨o1,p1,k1⟩:=t2;simp only [Tm.n] at hw c0;generalize p % 3=w3 at hw c0;simp only [Am,Ai4] at g2 m2;have g2:=Av (a:=gv) (b:=.fv (.agg [.int .i64 o,.int .i64 p,.sl (ks.map Tm.enc)])) (c:=iv 2) g2 hfz rfl rfl;have m2:=Av (a:=gv) (b:=iv 1) (c:=.fv (.agg [.int .i64 o1,.int .i64 p1,.sl (k1.map Tm.enc)])) m2 hfz rfl rfl;rcases htw with rfl | ⟨x0,rfl⟩
   ·simp only [↓QX,↓XX,XY,↓reduceIte,seval,h1,h4,wi,c0,↓Bq (AN hr) (Bk _ _ _),↓B8,↓Af hw,↓g2,↓m2,↓AI,XD,heldB,AS,XE];exact h9
   ·simp only [↓QX,↓XX,XY,↓reduceIte,seval,h1,h4,wi,c0,↓Bq (AN hr) (Bk _ _ _),↓B8,↓Af hw,↓g2,↓m2,↓AI,XD,heldB,AS,XE];exact h9
def aU (l:List Tm):Bool:=l.all (fun t=>decide (t.count 300<300)) && decide ((l.length:Int)<=6)
theorem nL (l:List Tm) (hll:l.length<=9223372036854775807) {n:Nat} (hn:Tm.wtL l+10<n):BE (SS dt n 12 [.fv (.sl (l.map Tm.enc))] ⟨[],[]⟩) (.bool (aU l)):=by
 obtain ⟨n,rfl⟩:=psc n (by omega);rw [t9];simp only [KV,KQ,uL,↓XX,XY,↓reduceIte,seval,↓AI,XD,heldB,AS,XE];have hlw:=Dp l;refine Ba (Q:=fun r=>BE r _) (fun k V H=>∃pre rest,l=pre++rest/\rest.length=k/\V=[.fv (.sl (l.map Tm.enc)),iv pre.length]/\H=⟨[],[]⟩/\aU l=(rest.all (fun t=>decide (t.count 300<300)) && decide ((l.length:Int)<=6)))
  ?_ n l.length _ _ (by omega) ⟨[],l,rfl,rfl,rfl,rfl,rfl⟩
 rintro k V H rec ⟨pre,rest,hk,hl,rfl,rfl,ht⟩ hrec;have hkl:l.length=pre.length+rest.length:=by rw [hk];simp
 cases rest with
 | nil =>
  have hno:¬ ((pre.length:Int)<l.length):=by rw [hkl];simp
  rw [ht,List.all_nil,Bool.true_and];by_cases h6:(l.length:Int)<=6
  ·simp only [KV,KQ,Mc,uL,↓XX,XY,↓reduceIte,seval,hno,h6];exact Aw _ _
  ·simp only [KV,KQ,Mc,uL,↓XX,XY,↓reduceIte,seval,hno,h6];exact Aw _ _
 | cons x rest =>
  have hi:(pre.length:Int)<l.length:=by rw [hkl];simp;omega
  have hg2:=BY hk;have hxw:=Cb (t:=x) (l:=l) (by rw [hk];simp);obtain ⟨n,rfl⟩:=psc n (by omega);have hf:=TF (n:=n) x (by omega);have hwi:BC ((pre.length:Int)+1)=((pre++[x]).length:Int):=(Ax (by omega) (by simp at hkl;omega)).trans (by simp);rw [ht,List.all_cons];cases hx:decide (x.count 300<300)
  ·rw [hx] at hf;obtain ⟨o,p,ks⟩:=x;rw [Am] at hf;simp only [KV,KQ,Mc,uL,↓XX,XY,↓reduceIte,seval,hi,↓Bq (AN hg2) (Bk _ _ _),↓B8,↓Aq hf];exact Aw _ _
  ·rw [hx] at hf;have h9:=hrec rest.length _ _ (by simp at hl;omega) ⟨pre++[x],rest,by rw [hk];simp,rfl,rfl,rfl,by rw [ht,List.all_cons,hx,Bool.true_and]⟩;rw [Bool.true_and];rw [ht,List.all_cons,hx,Bool.true_and] at h9;obtain ⟨o,p,ks⟩:=x;rw [Am] at hf;simp only [KV,KQ,Mc,uL,↓XX,XY,↓reduceIte,seval,hi,↓Bq (AN hg2) (Bk _ _ _),↓B8,↓Aq hf,hwi];exact h9
structure CaseOk (g:AR) (a t:Tm) (is object:Bool):Prop where
 gok:GOk 10 g
 len:g.length<=4
 asc:a.sc g.length
 awt:a.wt<=32768010
 adp:a.dp<=300
 tsc:t.sc g.length
 tdp:t.dp<=300
 chk:is=true->(t.chk 0 1).2=0
 cg:CtxG g
 ga:object=false->Gr 0 7 g .z a
 gt:is=true->Gr (if object then 2 else 1) 10 g a t
 zt:is=false->t=.mk (if object then 25 else 11) 0 []
def nF (l:List Tm) (hll:l.length<=9223372036854775807) (r q:Tm) (object:Bool):∃g a t is,Ev 14 [.fv (.sl (l.map Tm.enc)),.fv r.enc,.fv q.enc,.fv (.bool object)] (.tuple [AM g,a.enc,t.enc,.bool is])/\CaseOk g a t is object/\(object=true->a=q.plainT 2)/\(l=[]->g=[]):=by
 obtain ⟨g,⟨N0,h0⟩,hg,hg4,hcg,hnil⟩:=TU l hll;have hW6:Wg 6=32768000:=rfl;have hD6:Dg 6=260:=rfl;have hW10:Wg 10=8388608000:=rfl;have hD10:Dg 10=300:=rfl;obtain ⟨_,hG,hO⟩:=Nb 10 (by omega);cases object
 ·obtain ⟨hT,_,_⟩:=Nb 7 (by omega);obtain ⟨a,⟨N1,h1⟩,ta⟩:=hT g q (A9 (by omega) hg);have aw:=ta.wt;have ad:=ta.dp;have asc:=ta.sc;rw [show 7 - 1=6 from rfl] at aw ad
  obtain ⟨t,b,⟨N2,h2⟩,tt⟩:=hG g a r hg ⟨asc,by omega,by omega⟩;have tw:=tt.wt;have ts:=tt.sc;have body:∀(t':Tm) (is:Bool),(is=true/\t'=t/\b=true/\(t.chk 0 1).2=0\/is=false/\t'=AY/\(b=false\/b=true/\(t.chk 0 1).2≠0))->Ev 14 [.fv (.sl (l.map Tm.enc)),.fv r.enc,.fv q.enc,.fv (.bool false)] (.tuple [AM g,a.enc,t'.enc,.bool is]):=by
   intro t' is hd;refine ⟨N0+N1+N2+100000000000+1,fun n hn=>?_⟩;obtain ⟨n,rfl⟩:=psc n (by omega);have h0:=h0 n (by omega);have h1:=h1 n (by omega);have h2:=h2 n (by omega);have hk:=Sd (n:=n) t (by omega);have t11:=AZ (n:=n) (by omega) 11;rw [c14];clear ta tt;generalize (t.chk 0 1).2=ck at hk hd;rw [show ((10:Nat):Int) - 5=5 from rfl] at h2
   rw [show ((7:Nat):Int) - 5=2 from rfl] at h1
   generalize AM g=ge at *;generalize (FV.sl (l.map Tm.enc))=le at *;rcases hd with ⟨rfl,rfl,rfl,rfl⟩ | ⟨rfl,rfl,hd⟩
   ·simp only [EM] at h1 h2 hk ⊢;simp only [↓Yc,↓XX,XY,↓reduceIte,seval,↓Aq h0,↓Av h1,↓As h2,↓Aq hk];exact A6 rfl
   ·rw [AY];rcases hd with rfl | ⟨rfl,hd⟩
    ·simp only [EM] at h1 h2 hk t11 ⊢;simp only [↓Yc,↓XX,XY,↓reduceIte,seval,↓Aq h0,↓Av h1,↓As h2,↓Aq hk,↓Af t11];exact A6 rfl
    ·simp only [EM] at h1 h2 hk t11 ⊢;simp only [↓Yc,↓XX,XY,↓reduceIte,seval,hd,↓Aq h0,↓Av h1,↓As h2,↓Aq hk,↓Af t11];exact A6 rfl
  by_cases hb:b=true
  ·by_cases hc:(t.chk 0 1).2=0
   ·exact ⟨g,a,t,true,body t true (.inl ⟨rfl,rfl,hb,hc⟩),⟨hg,hg4,asc,by omega,by omega,ts,by have:=tt.dp;omega,fun _=>hc,hcg,fun _=>ta.gr,fun _=>tt.gr hb,fun h=>by cases h⟩,(fun h=>by cases h),hnil⟩
   ·exact ⟨g,a,AY,false,body AY false (.inr ⟨rfl,rfl,.inr ⟨hb,hc⟩⟩),⟨hg,hg4,asc,by omega,by omega,GW _,by decide,(fun h=>by cases h),hcg,fun _=>ta.gr,(fun h=>by cases h),fun _=>rfl⟩,(fun h=>by cases h),hnil⟩
  ·exact ⟨g,a,AY,false,body AY false (.inr ⟨rfl,rfl,.inl (by simpa using hb)⟩),⟨hg,hg4,asc,by omega,by omega,GW _,by decide,(fun h=>by cases h),hcg,fun _=>ta.gr,(fun h=>by cases h),fun _=>rfl⟩,(fun h=>by cases h),hnil⟩
 ·obtain ⟨a,ha⟩:∃a,a=q.plainT 2:=⟨_,rfl⟩;have asc:a.sc g.length:=ha ▸ Gm _ 2 q;have aw:a.wt<=20:=by have:=Fb 2 q;rw [<- ha] at this;simpa using Nat.le_trans this (by decide)
  have ad:a.dp<=300:=Nat.le_trans (DG a) (by omega);obtain ⟨t,b,⟨N2,h2⟩,tt⟩:=hO g a r hg ⟨asc,by omega,by omega⟩;have tw:=tt.wt;have ts:=tt.sc;have body:∀(t':Tm) (is:Bool),(is=true/\t'=t/\b=true/\(t.chk 0 1).2=0\/is=false/\t'=.mk 25 0 []/\(b=false\/b=true/\(t.chk 0 1).2≠0))->Ev 14 [.fv (.sl (l.map Tm.enc)),.fv r.enc,.fv q.enc,.fv (.bool true)] (.tuple [AM g,a.enc,t'.enc,.bool is]):=by
   intro t' is hd;refine ⟨N0+N2+100000000000+1,fun n hn=>?_⟩;obtain ⟨n,rfl⟩:=psc n (by omega);have h0:=h0 n (by omega);have h1:=Kv 2 n q (by omega) (by omega);have h2:=h2 n (by omega);have hk:=Sd (n:=n) t (by omega);have t25:=cQ (n:=n) (by omega) 0;rw [c14];rw [<- ha] at h1;clear tt ha;generalize (t.chk 0 1).2=ck at hk hd;rw [show ((10:Nat):Int) - 5=5 from rfl] at h2
   generalize AM g=ge at *;generalize (FV.sl (l.map Tm.enc))=le at *;rcases hd with ⟨rfl,rfl,rfl,rfl⟩ | ⟨rfl,rfl,hd⟩
   ·simp only [EM,Int.cast_ofNat_Int] at h1 h2 hk ⊢;simp only [↓Yc,↓XX,XY,↓reduceIte,seval,↓Aq h0,↓Af h1,↓As h2,↓Aq hk];exact A6 rfl
   ·rcases hd with rfl | ⟨rfl,hd⟩
    ·simp only [EM,Int.cast_ofNat_Int] at h1 h2 hk t25 ⊢;simp only [↓Yc,↓XX,XY,↓reduceIte,seval,↓Aq h0,↓Af h1,↓As h2,↓Aq hk,↓Aq t25];exact A6 rfl
    ·simp only [EM,Int.cast_ofNat_Int] at h1 h2 hk t25 ⊢;simp only [↓Yc,↓XX,XY,↓reduceIte,seval,hd,↓Aq h0,↓Af h1,↓As h2,↓Aq hk,↓Aq t25];exact A6 rfl
  have is25:∀k,(Tm.mk 25 0 []).sc k:=fun k=>IT (by decide) (by decide) (by rw [BX];simp);by_cases hb:b=true
  ·by_cases hc:(t.chk 0 1).2=0
   ·exact ⟨g,a,t,true,body t true (.inl ⟨rfl,rfl,hb,hc⟩),⟨hg,hg4,asc,by omega,by omega,ts,by have:=tt.dp;omega,fun _=>hc,hcg,(fun h=>by cases h),fun _=>tt.gr hb,fun h=>by cases h⟩,(fun _=>ha),hnil⟩
   ·exact ⟨g,a,_,false,body _ false (.inr ⟨rfl,rfl,.inr ⟨hb,hc⟩⟩),⟨hg,hg4,asc,by omega,by omega,is25 _,by decide,(fun h=>by cases h),hcg,(fun h=>by cases h),(fun h=>by cases h),fun _=>rfl⟩,(fun _=>ha),hnil⟩
  ·exact ⟨g,a,_,false,body _ false (.inr ⟨rfl,rfl,.inl (by simpa using hb)⟩),⟨hg,hg4,asc,by omega,by omega,is25 _,by decide,(fun h=>by cases h),hcg,(fun h=>by cases h),(fun h=>by cases h),fun _=>rfl⟩,(fun _=>ha),hnil⟩
def SD {t:Tm} (h:(t.chk 0 1).2=0):t.wt<=3000/\(t.chk 0 1).1=t.wt:=by
 have:=(NL t 0 1 (by omega)).2.2 h
 omega
def Abz {G:List Nat} {t u:Tm} {s k f:Nat} (ht:HasT G t s) (hsc:t.sc k) (hk:k<=100000) (hw:t.wt<=3000) (h:AF f t=some (u,0)):Ev 82 [.fv t.enc] (.tuple [u.enc,.int .i64 0]):=by obtain ⟨F,hF⟩:=aV (YH ht k hsc (by omega)) hw (KW t k hsc) h;exact ⟨F+10000,fun n hn=>bJ (f:=F) (hF F (AjA _)) (by omega) (by omega) (by omega)⟩
def eU {G:List Nat} {t u:Tm} {s k f:Nat} (ht:HasT G t s) (hs:t.sc k) (hk:k<=1000) (hw:t.wt<=3000) (h:AF f t=some (u,0)):Q8 t u:=by
 intro d c hd hc;have hl:(G.take k).length<=k:=by rw [List.length_take];omega
 obtain ⟨D,hD⟩:=RU (OG ht k hs) d c (by omega);have s1:=Bj t d c k hs (by omega);obtain ⟨f',v,e,q1,_⟩:=GV (k:=k+d) (by omega) s1 (by have:=Q2 (t.shift d c);have:=DG (t.shift d c);rw [AH] at this;omega);obtain ⟨u0,q3,q4⟩:=LY (by omega) q1 (Ip t k hs (by omega))
 have:=Cy q3 h
 simp only [Ai0] at this;obtain ⟨rfl,rfl⟩:=this;subst q4;exact Abz hD s1 (by omega) (by rw [AH];exact hw) q1
def Aaf {G:List Nat} {t:Tm} {s k:Nat} (h:NfT G t s) (he:Es s) (hs:t.sc k) (hk:k<=1000) (hw:t.wt<=3001):PEs t:=by
 intro d c hd hc;have hl:(G.take k).length<=k:=by rw [List.length_take];omega
 obtain ⟨D,hD⟩:=RU (OG (AX h) k hs) d c (by omega);have s1:=Bj t d c k hs (by omega);refine ⟨2 * t.wt+30,fun n hn=>?_⟩
 have:=mJ (n:=n) s1 (by rw [AH];omega) (by rw [AH];omega)
 rwa [LZ (Et hD (QE _ _ _ (BP h))) he] at this
def qC {G:List Nat} {X Y:Tm} {s k f:Nat} (h:HasT G X s) (hs:X.sc k) (hk:k<=1000) (hw:X.wt<=3000) (hn:AF f X=some (Y,0)):NX k X Y:=by
 refine ⟨hs,by have:=DG X;omega,fun f' u hu=>?_⟩
 have:=Cy hu hn
 simp only [Ai0,and_true] at this;exact ⟨this,eU h hs (by omega) hw hn⟩
def MK {G:List Nat} {X:Tm} {s k:Nat} (h:HasT G X s) (hst:X.stl) (hs:X.sc k) (hk:k<=1000) (hw:X.wt<=10000):NX k X X:=by
 have hd:X.dp<=20000:=by have:=DG X;omega
 refine ⟨hs,hd,fun f u hu=>?_⟩;have e:=AL hst hs (by omega) hu;subst e;obtain ⟨f',v,e,q1,q2⟩:=GV (k:=k) (by omega) hs (by have:=Q2 u;omega);have q3:=Cy hu q1;simp only [Ai0] at q3;obtain ⟨rfl,rfl⟩:=q3;have hw2:u.wt<=3000:=by rcases q2 with q2 | q2<;>omega
 exact ⟨rfl,eU h hs (by omega) hw2 hu⟩
def Dw {G:List Nat} {A:Tm} {s k:Nat} (h:NfT G A s) (he:Es s) (hs:A.sc k) (hk:k<=1000) (hw:A.wt<=3001):TX k A:=⟨MK (AX h) (BP h) hs hk (by omega),Aaf h he hs hk hw,hw⟩
def wH (G:List Nat):NfT G natT 10:=Et (ht0 .natT) (D3 _ _)
def Ab2 (G:List Nat):NfT G tyT 11:=Et (ht0 .tyT) (D3 _ _)
def wL (G:List Nat):NfT G Dh 1:=Et (ht0 .tint) (D3 _ _)
def EN (k:Nat):natT.sc k:=Da
def G6 (k:Nat):tyT.sc k:=Da
def FD (k:Nat):Dh.sc k:=Da
def GS {k:Nat} (hk:k<=1000):TX k natT:=Dw (wH []) (.inr (.inr (.inr (by omega)))) (EN k) hk (by simp [natT,Tm.wt,Tm.wtL])
def GB {k:Nat} (hk:k<=1000):TX k tyT:=Dw (Ab2 []) (.inr (.inr (.inr (by omega)))) (G6 k) hk (by simp [tyT,Tm.wt,Tm.wtL])
def Ui {k:Nat} (hk:k<=1000):TX k Dh:=Dw (wL []) (.inr (.inl rfl)) (FD k) hk (by simp [Dh,Tm.wt,Tm.wtL])
def Md {x:Tm} {k:Nat} (ho:Kf x.op=some 0) (hs:x.sc k):x=natT:=by
 have ho:x.op=10:=by
  unfold Kf at ho
  repeat' (split at ho)
  all_goals first | assumption | (simp at ho;done) | omega
 obtain ⟨op,n,ks⟩:=x;simp only [Tm.op] at ho;subst ho;rw [Tm.sc,if_neg (by decide)] at hs;have hk:ks=[]:=Aja (Ajn (hs.1.symm.trans (show ar 10=some 0 from rfl)))
 have hn:n=0:=by have:=hs.2.1;rw [BX,if_neg (by decide),if_neg (by decide),if_neg (by decide)] at this;exact this
 subst hk;subst hn;rfl
def Su {x:Tm} {k:Nat} (ho:Kf x.op=some 1) (hs:x.sc k):x=tyT:=by
 have ho:x.op=14:=by
  unfold Kf at ho
  repeat' (split at ho)
  all_goals first | assumption | (simp at ho;done) | omega
 obtain ⟨op,n,ks⟩:=x;simp only [Tm.op] at ho;subst ho;rw [Tm.sc,if_neg (by decide)] at hs;have hk:ks=[]:=Aja (Ajn (hs.1.symm.trans (show ar 14=some 0 from rfl)))
 have hn:n=0:=by have:=hs.2.1;rw [BX,if_neg (by decide),if_neg (by decide),if_neg (by decide)] at this;exact this
 subst hk;subst hn;rfl
def ZX {G:List Nat} {x:Tm} {k:Nat} (h:HasT G x 10) (hs:x.sc k):x=natT:=Md (BW (s:=0) h).1 hs
def rB {G:List Nat} {x:Tm} {k:Nat} (h:HasT G x 11) (hs:x.sc k):x=tyT:=Su (BW (s:=1) h).1 hs
structure CtxX (g:AR) (G:List Nat):Prop where
 ok:∀i st T,i<g.length->g[g.length - 1 - i]?=some (st,T)->T.sc (g.length - 1 - i)/\T.wt<=3000/\(∃D σ,Es σ/\HasT D T σ/\D.length<=1000)/\∀s,G[i]?=some s->(s=0->st=1/\∃f,AF f T=some (natT,0))/\(s=1->st=1/\∃f,AF f T=some (tyT,0))
def eP:CtxX [] []:=⟨fun i st T h=>by simp at h⟩
theorem Ib {g:AR} {G:List Nat} (h:CtxX g G) {st:Int} {T:Tm} {s:Nat} (h1:T.sc g.length) (h2:T.wt<=3000) (h4:∃D σ,Es σ/\HasT D T σ/\D.length<=1000) (h5:(s=0->st=1/\∃f,AF f T=some (natT,0))/\(s=1->st=1/\∃f,AF f T=some (tyT,0))):CtxX (g++[(st,T)]) (s::G):=by
 have hl:(g++[(st,T)]).length=g.length+1:=by simp
 refine ⟨fun i st' U hi hg=>?_⟩;rw [hl] at hi hg ⊢;cases i with
 | zero =>
  rw [Ai8 (by omega),show g.length+1 - 1 - 0 - g.length=0 by omega] at hg
  simp only [Ajb,AiZ,Ai0] at hg;obtain ⟨rfl,rfl⟩:=hg;refine ⟨by rw [show g.length+1 - 1 - 0=g.length by omega];exact h1,h2,h4,fun s' hs'=>?_⟩
  simp only [Ajb,AiZ] at hs';subst hs';exact h5
 | succ i =>
  rw [Ai9 (by omega),show g.length+1 - 1 - (i+1)=g.length - 1 - i by omega] at hg
  obtain ⟨q1,q2,q3,q4⟩:=h.ok i st' U (by omega) hg;refine ⟨by rw [show g.length+1 - 1 - (i+1)=g.length - 1 - i by omega];exact q1,q2,q3,fun s' hs'=>?_⟩
  rw [Ajc] at hs';exact q4 s' hs'
def Dn {g:AR} {G:List Nat} (h:CtxX g G) (hl:G.length<=1000) {T:Tm} {s:Nat} (hT:HasT G T (10+s)) (h1:T.sc g.length) (h2:T.wt<=3000):CtxX (g++[(1,T)]) (s::G):=by
 refine Ib h h1 h2 ⟨G,10+s,.inr (.inr (.inr (by omega))),hT,hl⟩ ⟨fun h0=>?_,fun h0=>?_⟩
 ·subst h0;rw [ZX hT h1];exact ⟨rfl,FX (D3 _ _) (EN 0) (by omega) (by simp [natT,Tm.wt,Tm.wtL]) (by simp [natT,Tm.dp,Tm.dpL])⟩
 ·subst h0;rw [rB hT h1];exact ⟨rfl,FX (D3 _ _) (G6 0) (by omega) (by simp [tyT,Tm.wt,Tm.wtL]) (by simp [tyT,Tm.dp,Tm.dpL])⟩
def JZ {g:AR} {G:List Nat} (h:CtxX g G) (hl:G.length<=1000) {T:Tm} (hT:HasT G T 1) (h1:T.sc g.length) (h2:T.wt<=3000):CtxX (g++[(0,T)]) (6::G) :=Ib h h1 h2 ⟨G,1,.inr (.inl rfl),hT,hl⟩ ⟨fun h0=>by omega,fun h0=>by omega⟩
def Lr {T w:Tm} {k f:Nat} (hk:k<=1000) (h1:T.sc k) (h2:T.dp<=20000) (h:AF f T=some (w,0)):NOk k w:=by
 obtain ⟨f',u,e,hf',c⟩:=GV (k:=k) (by omega) h1 (by have:=Q2 T;omega)
 have:=Cy h hf'
 simp only [Ai0] at this;obtain ⟨rfl,rfl⟩:=this;rcases c with c | c
 ·exact ⟨c.2.1,c.2.2.1,c.2.2.2⟩
 ·omega
def pN {g:AR} {G:List Nat} (h:CtxT g G) (hK:CtxX g G) (hl:G.length<=1000) (hgl:g.length<=1000) {T:Tm} (hT:HasT G T 2) (hv:T.vb) (h1:T.sc g.length) (h2:T.wt<=3000):∃s,s<10/\CtxT (g++[(1,T)]) (s::G)/\CtxX (g++[(1,T)]) (s::G):=by
 have hne:∀f w,AF f T=some (w,0)->w.op≠4/\w.op≠7:=by
  intro f w hw
  have:=Cl hw hT
  cases this with
  | var=>simp only [Tm.op];omega
  | node _ op n ks _ sg hr =>simp only [Tm.op];cases hr<;>decide
 have hD:∃D σ,Es σ/\HasT D T σ/\D.length<=1000:=⟨G,2,.inr (.inr (.inl rfl)),hT,hl⟩;by_cases hex:∃f w s,AF f T=some (w,0)/\Kf w.op=some s
 ·obtain ⟨f,w,s,hw,hs⟩:=hex;have hlt:=dH hs;have wsc:=(Lr hgl h1 (by have:=DG T;omega) hw).sc;refine ⟨s,by omega,Fd h 1 T s (by omega) (by omega) (fun _=>⟨hv,fun f' w' hw'=>⟨(hne f' w' hw').1,(hne f' w' hw').2,fun τ hτ=>?_⟩⟩),Ib hK h1 h2 hD ⟨fun h0=>⟨rfl,f,?_⟩,fun h0=>⟨rfl,f,?_⟩⟩⟩
  ·have:=Cy hw hw'
   simp only [Ai0,and_true] at this;subst this;rw [hs] at hτ;exact Ajn hτ
  ·subst h0;rw [<- Md hs wsc];exact hw
  ·subst h0;rw [<- Su hs wsc];exact hw
 ·exact ⟨7,by omega,Fd h 1 T 7 (by omega) (by omega) (fun _=>⟨hv,fun f' w' hw'=>⟨(hne f' w' hw').1,(hne f' w' hw').2,fun τ hτ=>absurd ⟨f',w',τ,hw',hτ⟩ hex⟩⟩),Ib hK h1 h2 hD ⟨fun h0=>by omega,fun h0=>by omega⟩⟩
def q_v {g:AR} {G:List Nat} (hX:CtxX g G) (hk:g.length<=1000) {st:Int} {i:Nat} {T A:Tm} {f:Nat} (hi:i<g.length) (hg:g[g.length - 1 - i]?=some (st,T)) (hn:AF f (T.shift ((i+1:Nat):Int) 0)=some (A,0)):QI g st (.mk 1 i []) A:=by
 obtain ⟨q1,q2,⟨D,σ,_,hD,hl⟩,_⟩:=hX.ok i st T hi hg;have hs:=EZ hD (List.replicate (i+1) 0) (by rw [List.length_replicate];omega);rw [List.length_replicate] at hs;have hsc:=Bj T (i+1) 0 _ q1 (by omega);rw [show g.length - 1 - i+(i+1)=g.length by omega,show ((0:Nat):Int)=0 from rfl] at hsc
 exact p9 hi hk hg q1 (by omega) (qC hs hsc hk (by rw [AH];exact q2) hn)
def Aal {g:AR} {G:List Nat} (hX:CtxX g G) (hk:g.length<=1000) {i:Nat} {T A:Tm} {f:Nat} (hi:i<g.length) (hg:g[g.length - 1 - i]?=some (1,T)) (hn:AF f T=some (A,0)) (hA:∀d:Int,A.shift d 0=A):QI g 1 (.mk 1 i []) A:=by
 obtain ⟨q1,q2,⟨D,σ,_,hD,hl⟩,_⟩:=hX.ok i 1 T hi hg;have hsc:=Bj T (i+1) 0 _ q1 (by omega);rw [show g.length - 1 - i+(i+1)=g.length by omega,show ((0:Nat):Int)=0 from rfl] at hsc
 have hs:=EZ hD (List.replicate (i+1) 0) (by rw [List.length_replicate];omega);rw [List.length_replicate] at hs;refine p9 hi hk hg q1 (by omega) ⟨hsc,by rw [CQ];have:=DG T;omega,fun f' u hu=>?_⟩;obtain ⟨u0,h1,h2⟩:=OL (by omega) hu (Ip T _ q1 (by omega))
 have:=Cy h1 hn
 simp only [Ai0,and_true] at this;subst this;rw [hA] at h2;subst h2;exact ⟨rfl,eU hs hsc (by omega) (by rw [AH];exact q2) hu⟩
def C1 (g:AR) (x:Int×Tm):(g++[x]).length=g.length+1:=by simp
def T4 {a b:Int} (h1:0<=a/\a<=1) (h2:0<=b/\b<=1):0<=(if a<b then b else a)/\(if a<b then b else a)<=1:=by split<;>omega
def ZN {u:Tm} {k:Nat} {n:Int} (h:FT (.mk 2 n [])):n=0:=by
 rcases h with (h | ⟨op',d',c',_,hd,hc,h⟩ | ⟨p,_,h⟩) | ⟨op',d',c',_,hd,hc,h⟩ | h
 ·rcases h with h | h | h | ⟨p,_,h⟩<;>simp only [Tm.mk.injEq] at h<;>omega
 ·simp only [Tm.mk.injEq] at h;omega
 ·simp only [Tm.mk.injEq] at h;omega
 ·simp only [Tm.mk.injEq] at h;omega
 ·simp only [Tm.op] at h;omega
theorem Ab4 {G:List Nat} {u:Tm} {s:Nat} (h:NfT G u s):∀g,CtxX g G->G.length=g.length->u.sc g.length->g.length+2 * u.dp<=800->u.wt<=3000->(s=0->QI g 1 u natT)/\(s=1->QI g 1 u tyT)/\(10<=s->FT u->∃m,(0<=m/\m<=1)/\QI g 1 u (.mk 2 m [])):=by
 induction h with
 | var G n s h0 h hs =>
  intro g hX hG hsc hd hw3;rw [Tm.sc,if_pos rfl] at hsc;simp only [Tm.dp,Tm.dpL] at hd;have hi:n.toNat<g.length:=by omega
  obtain ⟨T,hT⟩:∃p,g[g.length - 1 - n.toNat]?=some p:=⟨_,Ai6 (by omega)⟩;obtain ⟨st,T⟩:=T;obtain ⟨_,_,_,q4⟩:=hX.ok _ _ _ hi hT;obtain ⟨q5,q6⟩:=q4 s h;rw [show n=((n.toNat:Nat):Int) by omega]
  refine ⟨fun h0=>?_,fun h0=>?_,fun h0=>by omega⟩
  ·obtain ⟨rfl,f,hf⟩:=q5 h0;exact Aal hX (by omega) hi hT hf fun d=>Fx (.inl rfl) d 0
  ·obtain ⟨rfl,f,hf⟩:=q6 h0;exact Aal hX (by omega) hi hT hf fun d=>Fx (.inr (.inl rfl)) d 0
 | node G op n ks s sg hr hl hst hk ih =>
  intro g hX hG hsc hd hw3;have o1:=(DX hr).1;rw [Tm.sc,if_neg o1] at hsc;simp only [Tm.wt] at hw3;simp only [Tm.dp] at hd;have hgl:g.length<=800:=by omega
  cases hr with
  | natT =>obtain rfl:=Aja hl;exact ⟨by omega,by omega,fun _ _=>⟨0,by omega,Wv _ _⟩⟩
  | tyT =>obtain rfl:=Aja hl;exact ⟨by omega,by omega,fun _ _=>⟨0,by omega,pG _ _⟩⟩
  | uT =>
   obtain rfl:=Aja hl;refine ⟨by omega,by omega,fun _ hf=>⟨1,by omega,?_⟩⟩
   have:=ZN (u:=natT) (k:=0) hf
   subst this;exact qO g (m:=0) (by omega)
  | liftT =>obtain ⟨x,rfl⟩:=Fg hl;simp only [Tm.wtL,Tm.dpL] at hd hw3;have q:=(ih 0 x [] 1 rfl rfl g hX hG hsc.2.2.1 (by omega) (by omega)).2.1 rfl;exact ⟨by omega,by omega,fun _ _=>⟨0,by omega,Pc _ (Dt (by omega) q (GB (by omega)))⟩⟩
  | piT a b ha hb =>obtain ⟨x,y,rfl⟩:=RJ hl;simp only [Tm.wtL,Tm.dpL] at hd hw3;refine ⟨by omega,by omega,fun _ hf=>?_⟩;obtain ⟨f1,f2⟩:=QH (.inl rfl) hf;have xsc:x.sc g.length:=hsc.2.2.1;obtain ⟨m1,b1,q1⟩:=(ih 0 x [] (10+a) rfl rfl g hX hG xsc (by omega) (by omega)).2.2 (by omega) (NA f1);have hX2:=Dn hX (by omega) (AX (hk 0 x [] (10+a) rfl rfl)) xsc (by omega);obtain ⟨m2,b2,q2⟩:=(ih 1 y [a] (10+b) rfl rfl _ hX2 (by rw [C1];simp [hG]) (by rw [C1];exact hsc.2.2.2.1) (by rw [C1];omega) (by omega)).2.2 (by omega) (NA f2);exact ⟨_,T4 b1 b2,eO _ (.inl rfl) (by omega) (Y2 q1) (Y2 q2)⟩
  | sigT a b ha hb =>obtain ⟨x,y,rfl⟩:=RJ hl;simp only [Tm.wtL,Tm.dpL] at hd hw3;refine ⟨by omega,by omega,fun _ hf=>?_⟩;obtain ⟨f1,f2⟩:=QH (.inr rfl) hf;have xsc:x.sc g.length:=hsc.2.2.1;obtain ⟨m1,b1,q1⟩:=(ih 0 x [] (10+a) rfl rfl g hX hG xsc (by omega) (by omega)).2.2 (by omega) (NA f1);have hX2:=Dn hX (by omega) (AX (hk 0 x [] (10+a) rfl rfl)) xsc (by omega);obtain ⟨m2,b2,q2⟩:=(ih 1 y [a] (10+b) rfl rfl _ hX2 (by rw [C1];simp [hG]) (by rw [C1];exact hsc.2.2.2.1) (by rw [C1];omega) (by omega)).2.2 (by omega) (NA f2);exact ⟨_,T4 b1 b2,eO _ (.inr rfl) (by omega) (Y2 q1) (Y2 q2)⟩
  | zero =>obtain rfl:=Aja hl;exact ⟨fun _=>SG _ _,by omega,by omega⟩
  | suc =>obtain ⟨x,rfl⟩:=Fg hl;simp only [Tm.wtL,Tm.dpL] at hd hw3;have q:=(ih 0 x [] 0 rfl rfl g hX hG hsc.2.2.1 (by omega) (by omega)).1 rfl;exact ⟨fun _=>ZA _ (Dt (by omega) q (GS (by omega))),by omega,by omega⟩
  | recR s hs =>
   obtain ⟨p,z,w,k,rfl⟩:=TY hl;simp only [Tm.wtL,Tm.dpL] at hd hw3;obtain ⟨_,_,psc,zsc,wsc,ksc,_⟩:=hsc;have hk0:=AX (hk 0 p [0] (10+s) rfl rfl);have ihz:=ih 1 z [] s rfl rfl g hX hG zsc (by omega) (by omega);have ihk:=(ih 3 k [] 0 rfl rfl g hX hG ksc (by omega) (by omega)).1 rfl;have hX1:=Dn (T:=natT) (s:=0) hX (by omega) (ht0 (.natT)) (EN _) (by simp [natT,Tm.wt,Tm.wtL]);have l1:=C1 g (1,natT);refine ⟨fun h0=>?_,fun h0=>?_,by omega⟩
   ·subst h0;have e:=ZX hk0 psc;subst e;have hX2:=Dn (T:=natT) (s:=0) hX1 (by simp;omega) (ht0 (.natT)) (EN _) (by simp [natT,Tm.wt,Tm.wtL]);have l2:=C1 (g++[(1,natT)]) (1,natT);have ihw:=(ih 2 w [0,0] 0 rfl rfl _ hX2 (by rw [l2,l1];simp [hG]) (by rw [l2,l1];exact wsc) (by rw [l2,l1];omega) (by omega)).1 rfl;exact dO _ (.inl rfl) (by omega) (GS (by omega)).n ksc (by omega) (Dt (by omega) (ihz.1 rfl) (GS (by omega))) (Dt (by rw [l2,l1];omega) ihw (GS (by rw [l2,l1];omega))) (Dt (by omega) ihk (GS (by omega)))
   ·subst h0;have e:=rB hk0 psc;subst e;have hX2:=Dn (T:=tyT) (s:=1) hX1 (by simp;omega) (ht0 (.tyT)) (G6 _) (by simp [tyT,Tm.wt,Tm.wtL]);have l2:=C1 (g++[(1,natT)]) (1,tyT);have ihw:=(ih 2 w [1,0] 1 rfl rfl _ hX2 (by rw [l2,l1];simp [hG]) (by rw [l2,l1];exact wsc) (by rw [l2,l1];omega) (by omega)).2.1 rfl;exact dO _ (.inr rfl) (by omega) (GB (by omega)).n ksc (by omega) (Dt (by omega) (ihz.2.1 rfl) (GB (by omega))) (Dt (by rw [l2,l1];omega) ihw (GB (by rw [l2,l1];omega))) (Dt (by omega) ihk (GS (by omega)))
  | tint =>obtain rfl:=Aja hl;exact ⟨by omega,fun _=>Ug _ _,by omega⟩
  | tfun =>obtain ⟨x,y,rfl⟩:=RJ hl;simp only [Tm.wtL,Tm.dpL] at hd hw3;have q1:=(ih 0 x [] 1 rfl rfl g hX hG hsc.2.2.1 (by omega) (by omega)).2.1 rfl;have q2:=(ih 1 y [] 1 rfl rfl g hX hG hsc.2.2.2.1 (by omega) (by omega)).2.1 rfl;exact ⟨by omega,fun _=>S5 _ (.inl rfl) (Dt (by omega) q1 (GB (by omega))) (Dt (by omega) q2 (GB (by omega))),by omega⟩
  | tpro =>obtain ⟨x,y,rfl⟩:=RJ hl;simp only [Tm.wtL,Tm.dpL] at hd hw3;have q1:=(ih 0 x [] 1 rfl rfl g hX hG hsc.2.2.1 (by omega) (by omega)).2.1 rfl;have q2:=(ih 1 y [] 1 rfl rfl g hX hG hsc.2.2.2.1 (by omega) (by omega)).2.1 rfl;exact ⟨by omega,fun _=>S5 _ (.inr rfl) (Dt (by omega) q1 (GB (by omega))) (Dt (by omega) q2 (GB (by omega))),by omega⟩
  | natU=>exact ⟨by omega,by omega,by omega⟩
  | tyU=>exact ⟨by omega,by omega,by omega⟩
  | uU=>exact ⟨by omega,by omega,by omega⟩
  | liftU=>exact ⟨by omega,by omega,by omega⟩
  | piU=>exact ⟨by omega,by omega,by omega⟩
  | sigU=>exact ⟨by omega,by omega,by omega⟩
  | lam=>exact ⟨by omega,by omega,by omega⟩
  | pair=>exact ⟨by omega,by omega,by omega⟩
  | quo=>exact ⟨by omega,by omega,by omega⟩
  | spl=>exact ⟨by omega,by omega,by omega⟩
  | olam=>exact ⟨by omega,by omega,by omega⟩
  | oapp=>exact ⟨by omega,by omega,by omega⟩
  | opair=>exact ⟨by omega,by omega,by omega⟩
  | ofst=>exact ⟨by omega,by omega,by omega⟩
  | osnd=>exact ⟨by omega,by omega,by omega⟩
  | oint=>exact ⟨by omega,by omega,by omega⟩
  | oprim=>exact ⟨by omega,by omega,by omega⟩
  | oif=>exact ⟨by omega,by omega,by omega⟩
  | olet=>exact ⟨by omega,by omega,by omega⟩
  | ofix=>exact ⟨by omega,by omega,by omega⟩
def OC {G:List Nat} {a:Tm} {s:Nat} (h:NfT G a s) (x:Nat) (hb:G.length+2 * a.wt<=100000000):NfT (x::G) (a.shift 1 0) s:=by
 have:=EZ (AX h) [x] (by simp only [Ai3,Ajh];omega)
 exact Et (by simpa using this) (QE _ _ _ (BP h))
def Kl {k:Nat} {a:Tm} (h:NOk k a) (hk:k<=1000):NOk (k+1) (a.shift 1 0):=⟨Bj _ 1 0 _ h.sc (by have:=h.wt;omega),by rw [AH];exact h.wt,by rw [CQ];exact h.dp⟩
def qt {G:List Nat} {a:Tm} {s:Nat} {g:AR} (h:NfT G a (10+s)) (hX:CtxX g G) (hG:G.length=g.length) (hok:NOk g.length a) (hl:g.length<=500) (hf:FT a):∃m,(0<=m/\m<=1)/\QL g a m:=by
 have:=hok.dp
 obtain ⟨m,h1,h2⟩:=(Ab4 h g hX hG hok.sc (by omega) hok.wt).2.2 (by omega) hf;exact ⟨m,h1,Y2 h2⟩
def qo {G:List Nat} {a:Tm} {g:AR} (h:NfT G a 1) (hX:CtxX g G) (hG:G.length=g.length) (hok:NOk g.length a) (hl:g.length<=500):QC g 1 a tyT:=by
 have:=hok.dp
 exact Dt (by omega) ((Ab4 h g hX hG hok.sc (by omega) hok.wt).2.1 rfl) (GB (by omega))
def RR {k:Nat} {a:Tm} (h:a.sc k) (hw:a.wt<=100):NOk k a:=⟨h,by omega,by have:=DG a;omega⟩
def Li {s:Nat}:Es (10+s):=.inr (.inr (.inr (by omega)))
def qI {G:List Nat} {a0 a:Tm} {s k f:Nat} (h:FT a0) (hT:HasT G a0 (10+s)) (hs:a0.sc k) (hk:k<=1000) (hn:AF f a0=some (a,0)):FT a:=by
 rcases h with h | ⟨op,x,y,ho,hx,hy,rfl⟩ | h
 ·have:=AL (D8 h) hs (by have:=FF h;omega) hn
  subst this;exact .inl h
 ·have:=AL (jO (by omega) (D8 hx) (D8 hy)) hs (by have:=FF hx;have:=FF hy;rw [Ee];omega) hn
  subst this;exact .inr (.inl ⟨op,x,y,ho,hx,hy,rfl⟩)
 ·have h1:=(BW hT).1;rw [h] at h1;have h2:=(BW (AX (Cl hn hT))).1;rw [<- h1] at h2;refine .inr (.inr ?_);unfold Kf at h2
  repeat' (split at h2)
  all_goals first | assumption | (simp at h2;done) | omega
theorem p8 {g:AR} (hg:g.length<=1000):∀j,QI g 1 (GF j) natT
 | 0=>SG _ _
 | j+1=>ZA _ (Dt hg (p8 hg j) (GS hg))
def LC {op n:Int} {x y:Tm} (ho:op=3\/op=6\/op=16\/op=17\/op=18) (hx:x.stl) (hy:y.stl):(Tm.mk op n [x,y]).stl:=jO (by omega) hx hy
def NU {op n:Int} {ks:List Tm} {k:Nat} (h:(Tm.mk op n ks).sc k) (h1:op≠1) (h2:op≠2) (h26:op≠26) (h25:op≠25):n=0:=by
 rw [Tm.sc,if_neg h1] at h
 have:=h.2.1
 rw [BX,if_neg h2,if_neg h26,if_neg h25] at this;exact this
def XO {a:Tm} {k:Nat} (ha:a.op=2) (hs:a.sc k) (hf:FT a):a=.mk 2 0 []:=by
 obtain ⟨op,m,ks⟩:=a;simp only [Tm.op] at ha;subst ha;have hk:ks=[]:=by rw [Tm.sc] at hs;exact Aja (Ajn (hs.1.symm.trans (show ar 2=some 0 from rfl)))
 subst hk;rw [ZN (u:=natT) (k:=0) hf]
def RI {a:Tm} {o:Int} {k:Nat} (h:a.sc k) (ho:a.op=o) (har:ar o=some 0) (h1:o≠1) (h2:o≠2) (h26:o≠26) (h25:o≠25):a=.mk o 0 []:=by
 obtain ⟨op,m,ks⟩:=a;simp only [Tm.op] at ho;subst ho
 have:=NU h h1 h2 h26 h25
 subst this;rw [Tm.sc,if_neg h1] at h;have hk:ks=[]:=Aja (Ajn (h.1.symm.trans har));rw [hk]
theorem jT {κ e:Nat} {g:AR} {a t:Tm} (h:Gr κ e g a t):∀G,CtxT g G->CtxX g G->t.sc g.length->t.wt<=3000 ->
  (κ=0->g.length<=100->∃m,(0<=m/\m<=1)/\QI g 1 t (.mk 2 m [])) /\
  (κ=1->∀s,HasT G a (10+s)->a.sc g.length->FT a->∃f A,AF f a=some (A,0)/\QI g 1 t A) /\
  (κ=2->HasT G a 1->a.sc g.length->∃f A,AF f a=some (A,0)/\QI g 0 t A) /\
  (κ=3->∀s,NfT G a (10+s)->NOk g.length a->g.length<=60->FT a->QI g 1 t a) /\
  (κ=4->NfT G a 1->NOk g.length a->g.length<=60->QI g 0 t a):=by
 have hv:∀{g:AR} {a b:Tm} {f:Nat},b.stl->NOk g.length b->g.length<=61->AF f b=some (a,0)->a=b:=fun hs hok hl hn=>AL hs hok.sc (by have:=hok.wt;omega) hn;have xnat:∀{g:AR} {G:List Nat},CtxX g G->G.length<=1000->CtxX (g++[(1,natT)]) (0::G):=fun h hl=>Dn (s:=0) h hl (ht0 .natT) (EN _) (by simp [natT,Tm.wt,Tm.wtL]);have vnat:natT.vb:=Ip natT 0 (EN 0) (by simp [natT,Tm.wt,Tm.wtL])
 induction h with
 | tnat e g a=>intro G hG hX hsc hw;exact Lk fun _=>⟨0,by omega,Wv _ _⟩
 | tty e g a=>intro G hG hX hsc hw;exact Lk fun _=>⟨0,by omega,pG _ _⟩
 | tu e g a=>intro G hG hX hsc hw;exact Lk fun _=>⟨1,by omega,qO g (m:=0) (by omega)⟩
 | tlp e g a r =>intro G hG hX hsc hw;refine Lk fun hl=>⟨0,by omega,Pc _ ?_⟩;have hp:=Gx r;exact qo (Et (BD G 1 r) (IC hp)) hX hG.len (RR (G3 hp _) (by have:=NQ hp;omega)) (by omega)
 | tpi e g a x y op ho h6 hgl hx h1 h2 ih1 ih2 =>
  intro G hG hX hsc hw;refine Lk fun hl=>?_;rw [Ee] at hw;rw [Tm.sc,if_neg (by omega)] at hsc;obtain ⟨s,_,hs⟩:=(Hb h1 G hG).1 rfl;have b0:Ak op 0=0:=by rcases ho with rfl | rfl<;>rfl
  have b1:Ak op 1=1:=by rcases ho with rfl | rfl<;>rfl
  have ysc:=hsc.2.2.2.1;rw [b1] at ysc;obtain ⟨m1,c1,q1⟩:=(ih1 G hG hX hx.sc (by omega)).1 rfl hl;have l1:=C1 g (1,x);have hX2:=Dn hX (by rw [hG.len];omega) hs hx.sc (by omega);obtain ⟨m2,c2,q2⟩:=(ih2 _ (DL hG hs (KK hx (by omega))) hX2 (by rw [l1];exact ysc) (by omega)).1 rfl (by omega);exact ⟨_,T4 c1 c2,eO _ ho (by omega) (Y2 q1) (Y2 q2)⟩
 | tlift e g a t h6 h1 ih =>
  intro G hG hX hsc hw;refine Lk fun hl=>⟨0,by omega,Pc _ ?_⟩;rw [LF] at hw;rw [Tm.sc,if_neg (by decide)] at hsc;obtain ⟨f,A,hn,q⟩:=(ih G hG hX hsc.2.2.1 (by omega)).2.1 rfl 1 (ht0 .tyT) (G6 _) Sl
  have:=AL (t:=tyT) (D3 _ _) (G6 0) (by simp [tyT,Tm.wt,Tm.wtL]) hn
  subst this;exact Dt (by omega) q (GB (by omega))
 | grow e g a0 a t f hn hg ha h1 ih =>intro G hG hX hsc hw;refine AaC fun s hT has hf=>⟨f,a,hn,?_⟩;exact (ih G hG hX hsc hw).2.2.2.1 rfl s (Cl hn hT) ha hg (qI hf hT has (by omega) hn)
 | objc e g a0 a t f hn hg ha h1 ih =>intro G hG hX hsc hw;refine Aae fun hT has=>⟨f,a,hn,?_⟩;exact (ih G hG hX hsc hw).2.2.2.2 rfl (Cl hn hT) ha hg
 | var1 e g a i h =>intro G hG hX hsc hw;refine Df fun s hT hok hl hf=>?_;obtain ⟨hi,T,f,w,hg,hn,he⟩:=h;obtain ⟨q1,q2,⟨D,σ,hσ,hD,hl2⟩,_⟩:=hX.ok i 1 T hi hg;have hs:=EZ hD (List.replicate (i+1) 0) (by rw [List.length_replicate];omega);rw [List.length_replicate] at hs;have e1:=LZ (Cl hn hs) hσ;rw [e1,LZ hT Li] at he;subst he;exact q_v hX (by omega) hi hg hn
 | var0 e g a i h =>intro G hG hX hsc hw;refine FI fun hT hok hl=>?_;obtain ⟨hi,T,f,w,hg,hn,he⟩:=h;obtain ⟨q1,q2,⟨D,σ,hσ,hD,hl2⟩,_⟩:=hX.ok i 0 T hi hg;have hs:=EZ hD (List.replicate (i+1) 0) (by rw [List.length_replicate];omega);rw [List.length_replicate] at hs;have e1:=LZ (Cl hn hs) hσ;rw [e1,LZ hT (.inr (.inl rfl))] at he;subst he;exact q_v hX (by omega) hi hg hn
 | fst e g a b c x h6 hb h1 h2 h3 ih1 ih2 ih3 =>
  intro G hG hX hsc hw;refine Df fun s hT hok hl hf=>?_;have hGl:=hG.len;simp only [LF,qT,Ee] at hw;simp only [Tm.sc,Tm.scL] at hsc;obtain ⟨_,_,⟨_,_,⟨_,_,asc,bsc,_⟩,csc,xsc,_⟩,_⟩:=hsc;simp only [show Ak 8 0=0 from rfl,show Ak 7 0=0 from rfl,show Ak 7 (0+1)=0 from rfl,show Ak 7 (0+1+1)=0 from rfl,show Ak 6 0=0 from rfl,show Ak 6 (0+1)=1 from rfl,AjB] at asc bsc csc xsc
  obtain ⟨sb,hsb,hTb⟩:=(Hb h1 G hG).1 rfl;have fb:=rU h1;have wb:=FF fb;have bok:=RR hb.sc (by omega);have nb:=Et hTb (D8 fb);have hs6:=(BW (AX hT)).2;have haw:=hok.wt;obtain ⟨m1,c1,q1⟩:=qt hT hX hGl hok (by omega) hf;have l1:=C1 g (1,a);have hXa:=Dn hX (by omega) (AX hT) hok.sc haw;have nb2:=OC nb s (by omega);obtain ⟨m2,c2,q2⟩:=qt nb2 hXa (by rw [l1];simp [hGl]) (by rw [l1];exact Kl bok (by omega)) (by omega) (.inl (by have:=Ja fb hb.sc (by omega) (d:=1) (c:=0) (by omega) (by omega);simpa using this));have hS:=Y2 (eO 0 (.inr rfl) (by omega) q1 q2);have Ssc:(Tm.mk 6 0 [a,b.shift 1 0]).sc g.length:=Db asc bsc;have hN:NX g.length (.mk 6 0 [a,b.shift 1 0]) (.mk 6 0 [a,b.shift 1 0]):=MK (ht2 (.sigT s sb hs6 hsb) (AX hT) (AX nb2)) (LC (by omega) (BP hT) (QE _ _ _ (D8 fb))) Ssc (by omega) (by rw [Ee,AH];omega);obtain ⟨f1,A,n1,r1⟩:=(ih3 G hG hX csc (by omega)).2.1 rfl s (AX hT) hok.sc hf
  have:=AL (BP hT) hok.sc (by omega) n1
  subst this;obtain ⟨f2,B,n2,r2⟩:=(ih2 G hG hX xsc (by omega)).2.1 rfl sb hTb hb.sc (NA fb)
  have:=AL (D8 fb) hb.sc (by omega) n2
  subst this;have tA:=Dw hT Li hok.sc (by omega) (by omega);have tB:=Dw nb Li hb.sc (by omega) (by omega);have eb:=MY B c 0 0 g.length hb.sc (by omega) (by omega);exact Aaa 0 (fO 0 (by omega) hN (by rw [<- l1];exact (by rw [l1];exact bsc)) (by rw [AH];omega) csc (by omega) hS (Dt (by omega) r1 tA) r2 tB (by rw [eb];exact tB.n))
 | app e g a b c x h6 hb h1 h2 h3 ih1 ih2 ih3 =>
  intro G hG hX hsc hw;refine Df fun s hT hok hl hf=>?_;have hGl:=hG.len;simp only [Ee] at hw;simp only [Tm.sc,Tm.scL] at hsc;obtain ⟨_,_,⟨_,_,bsc,csc,_⟩,xsc,_⟩:=hsc;simp only [show Ak 5 0=0 from rfl,show Ak 5 (0+1)=0 from rfl,show Ak 4 0=0 from rfl,show Ak 4 (0+1)=1 from rfl,AjB] at bsc csc xsc
  obtain ⟨sb,hsb,hTb⟩:=(Hb h1 G hG).1 rfl;have fb:=rU h1;have wb:=FF fb;have bok:=RR hb.sc (by omega);have nb:=Et hTb (D8 fb);have hs6:=(BW (AX hT)).2;have haw:=hok.wt;have l1:=C1 g (1,b);obtain ⟨m1,c1,q1⟩:=qt nb hX hGl bok (by omega) (NA fb);have hXb:=Dn hX (by omega) hTb hb.sc (by omega);have na2:=OC hT sb (by omega);have aok2:=Kl hok (by omega);have fa2:FT (a.shift 1 0):=by
   rcases hf with h | ⟨op,x,y,ho,hx,hy,rfl⟩ | h
   ·have:=Ja h hok.sc (by omega) (d:=1) (c:=0) (by omega) (by omega)
    exact .inl (by simpa using this)
   ·have q:=hok.sc;rw [Tm.sc,if_neg (by omega)] at q;have b0:Ak op 0=0:=by rcases ho with rfl | rfl<;>rfl
    have b1:Ak op 1=1:=by rcases ho with rfl | rfl<;>rfl
    have q0:=q.2.2.1;have q1:=q.2.2.2.1;rw [b0] at q0;rw [b1] at q1;refine .inr (.inl ⟨op,x.shift 1 0,y.shift 1 1,ho,?_,?_,?_⟩)
    ·have:=Ja hx q0 (by omega) (d:=1) (c:=0) (by omega) (by omega);simpa using this
    ·have:=Ja hy q1 (by omega) (d:=1) (c:=1) (by omega) (by omega);simpa using this
    ·rw [Tm.shift,if_neg (by omega)];simp only [Tm.shiftL,b0,Ajy,b1];simp
   ·exact .inr (.inr (by rw [MP];exact h))
  obtain ⟨f1,A,n1,r1⟩:=(ih3 _ (DL hG hTb (KK hb (by omega))) hXb (by rw [l1];exact csc) (by omega)).2.1 rfl s (AX na2) (by rw [l1];exact aok2.sc) fa2
  have:=AL (BP na2) aok2.sc (by rw [AH];omega) n1
  subst this;have Psc:(Tm.mk 3 0 [b,a.shift 1 0]).sc g.length:=Db bsc aok2.sc;have hN:NX g.length (.mk 3 0 [b,a.shift 1 0]) (.mk 3 0 [b,a.shift 1 0]):=MK (ht2 (.piT sb s hsb hs6) hTb (AX na2)) (LC (by omega) (D8 fb) (BP na2)) Psc (by omega) (by rw [Ee,AH];omega);have q2:=qY 0 (by omega) q1 r1 hN;obtain ⟨f2,B,n2,r2⟩:=(ih2 G hG hX xsc (by omega)).2.1 rfl sb hTb hb.sc (NA fb)
  have:=AL (D8 fb) hb.sc (by omega) n2
  subst this;have tA:=Dw hT Li hok.sc (by omega) (by omega);have tB:=Dw nb Li hb.sc (by omega) (by omega);have eb:=MY a x 0 0 g.length hok.sc (by omega) (by omega);exact Aa8 0 (by omega) xsc (by omega) aok2.sc (by rw [AH];omega) q2 (Dt (by omega) r2 tB) (by rw [eb];exact tA.n)
 | recc e g a n z s h6 ha h1 h2 h3 ih1 ih2 ih3 =>
  intro G hG hX hsc hw;refine Df fun σ hT hok hl hf=>?_;have hGl:=hG.len;have hX':a=natT\/a=tyT:=by
   rcases ha with ha | ha
   ·exact .inl (Md (by rw [ha];rfl) hok.sc)
   ·exact .inr (Su (by rw [ha];rfl) hok.sc)
  have hsh:∀d c:Int,a.shift d c=a:=by
   intro d c;rcases hX' with rfl | rfl
   ·exact Fx (.inl rfl) d c
   ·exact Fx (.inr (.inl rfl)) d c
  rw [hsh 1 0] at hw hsc ih3 ⊢;rw [hsh 2 0] at ih3;clear h1 h2 h3;simp only [wt4] at hw;simp only [Tm.sc,Tm.scL] at hsc;obtain ⟨_,_,asc,zsc,ssc,nsc,_⟩:=hsc;simp only [show Ak 13 0=1 from rfl,show Ak 13 (0+1)=0 from rfl,show Ak 13 (0+1+1)=2 from rfl,show Ak 13 (0+1+1+1)=0 from rfl,AjB] at asc zsc ssc nsc
  have aw:a.wt<=10:=by rcases hX' with rfl | rfl<;>simp [natT,tyT,Tm.wt,Tm.wtL]
  have tA:=Dw hT Li hok.sc (by omega) (by omega);have l1:=C1 g (1,.mk 10 0 []);have l2:=C1 (g++[(1,.mk 10 0 [])]) (1,a);have hX1:CtxX (g++[(1,.mk 10 0 [])]) (0::G):=xnat hX (by omega);have hG1:=DL (s:=0) hG (ht0 .natT) vnat;have aT:∀D,HasT D a (10+σ):=by
   intro D;have hσ:=(BW (AX hT)).1;rcases hX' with rfl | rfl
   ·have:σ=0:=by simpa [Kf,natT,Tm.op] using hσ.symm
    subst this;exact ht0 .natT
   ·have:σ=1:=by simpa [Kf,tyT,Tm.op] using hσ.symm
    subst this;exact ht0 .tyT
  have asc':∀k,a.sc k:=by intro k;rcases hX' with rfl | rfl;exact EN k;exact G6 k
  have avb:a.vb:=Ip a 0 (asc' 0) (by omega);have hX2:=Dn (T:=a) hX1 (by simp;omega) (aT _) (asc' _) (by omega);have hG2:=DL hG1 (aT (0::G)) avb;obtain ⟨f1,A1,n1,r1⟩:=(ih1 G hG hX nsc (by omega)).2.1 rfl 0 (ht0 .natT) (EN _) TP
  have:=AL (t:=natT) (D3 _ _) (EN 0) (by simp [natT,Tm.wt,Tm.wtL]) n1
  subst this;obtain ⟨f2,A2,n2,r2⟩:=(ih2 G hG hX zsc (by omega)).2.1 rfl σ (aT _) hok.sc hf
  have:=AL (BP hT) hok.sc (by omega) n2
  subst this;obtain ⟨f3,A3,n3,r3⟩:=(ih3 _ hG2 hX2 (by rw [l2,l1];exact ssc) (by omega)).2.1 rfl σ (aT _) (asc' _) hf
  have:=AL (BP hT) hok.sc (by omega) n3
  subst this;have tA2:=Dw hT Li (asc' (g++[((1:Int),Tm.mk 10 0 [])]++[((1:Int),A3)]).length) (by rw [l2,l1];omega) (by omega);exact dO 0 hX' (by omega) tA.n nsc (by omega) (Dt (by omega) r2 tA) (Dt (by simp;omega) r3 tA2) (Dt (by omega) r1 (GS (by omega)))
 | suc e g a n h6 ha h1 ih =>
  intro G hG hX hsc hw;refine Df fun s hT hok hl hf=>?_
  have:=Md (x:=a) (by rw [ha];rfl) hok.sc
  subst this;rw [LF] at hw;rw [Tm.sc,if_neg (by decide)] at hsc;obtain ⟨f1,A1,n1,r1⟩:=(ih G hG hX hsc.2.2.1 (by omega)).2.1 rfl 0 (ht0 .natT) (EN _) TP
  have:=AL (t:=natT) (D3 _ _) (EN 0) (by simp [natT,Tm.wt,Tm.wtL]) n1
  subst this;exact ZA 0 (Dt (by omega) r1 (GS (by omega)))
 | num e g a j ha hj =>
  intro G hG hX hsc hw;refine Df fun s hT hok hl hf=>?_
  have:=Md (x:=a) (by rw [ha];rfl) hok.sc
  subst this;exact p8 (by omega) j
 | tint e g a ha =>
  intro G hG hX hsc hw;refine Df fun s hT hok hl hf=>?_
  have:=Su (x:=a) (by rw [ha];rfl) hok.sc
  subst this;exact Ug g 0
 | tfun e g a x y op ho h6 ha h1 h2 ih1 ih2 =>
  intro G hG hX hsc hw;refine Df fun s hT hok hl hf=>?_
  have:=Su (x:=a) (by rw [ha];rfl) hok.sc
  subst this;rw [Ee] at hw;rw [Tm.sc,if_neg (by omega)] at hsc;have b0:Ak op 0=0:=by rcases ho with rfl | rfl<;>rfl
  have b1:Ak op 1=0:=by rcases ho with rfl | rfl<;>rfl
  obtain ⟨_,_,xsc,ysc,_⟩:=hsc;rw [b0] at xsc;rw [show 0+1=1 from rfl,b1] at ysc
  obtain ⟨f1,A1,n1,r1⟩:=(ih1 G hG hX xsc (by omega)).2.1 rfl 1 (ht0 .tyT) (G6 _) Sl
  have:=AL (t:=tyT) (D3 _ _) (G6 0) (by simp [tyT,Tm.wt,Tm.wtL]) n1
  subst this;obtain ⟨f2,A2,n2,r2⟩:=(ih2 G hG hX ysc (by omega)).2.1 rfl 1 (ht0 .tyT) (G6 _) Sl
  have:=AL (t:=tyT) (D3 _ _) (G6 0) (by simp [tyT,Tm.wt,Tm.wtL]) n2
  subst this;exact S5 0 ho (Dt (by omega) r1 (GB (by omega))) (Dt (by omega) r2 (GB (by omega)))
 | uni e g a n ha hp =>
  intro G hG hX hsc hw;refine Df fun s hT hok hl hf=>?_;obtain ⟨op,m,ks⟩:=a;simp only [Tm.op,Tm.n] at ha hp;subst ha;have hk:ks=[]:=by
   have:=hok.sc
   rw [Tm.sc] at this;exact Aja (Ajn (this.1.symm.trans (show ar 2=some 0 from rfl)))
  subst hk
  have:=ZN (u:=natT) (k:=0) hf
  omega
 | unat e g a ha =>intro G hG hX hsc hw;refine Df fun s hT hok hl hf=>?_;rw [XO ha hok.sc hf];exact Wv g 0
 | uty e g a ha =>intro G hG hX hsc hw;refine Df fun s hT hok hl hf=>?_;rw [XO ha hok.sc hf];exact pG g 0
 | ult e g a ha =>intro G hG hX hsc hw;refine Df fun s hT hok hl hf=>?_;rw [XO ha hok.sc hf];exact Pc 0 (Dt (by omega) (Ug g 0) (GB (by omega)))
 | upi e g a x y op ho h6 ha hx h1 h2 ih1 ih2 =>
  intro G hG hX hsc hw;refine Df fun s hT hok hl hf=>?_;have ea:=XO ha hok.sc hf;subst ea;have u2:∀D,HasT D (.mk 2 0 []) (10+2):=fun D=>ht0 .uT;have usc:∀k,(Tm.mk 2 0 []).sc k:=fun k=>Xt (.inr (.inr (.inl rfl))) k;rw [Ee] at hw;rw [Tm.sc,if_neg (by omega)] at hsc;have b1:Ak op 1=1:=by rcases ho with rfl | rfl<;>rfl
  have ysc:=hsc.2.2.2.1;rw [show 0+1=1 from rfl,b1] at ysc
  have hxT:=(Hb h1 G hG).2.1 rfl 2 (u2 G);obtain ⟨f1,A1,n1,r1⟩:=(ih1 G hG hX hx.sc (by omega)).2.1 rfl 2 (u2 _) (usc _) hf
  have:=AL (D3 _ _) (usc 0) (by simp [Tm.wt,Tm.wtL]) n1
  subst this;obtain ⟨σ,_,hG2,hX2⟩:=pN hG hX (by rw [hG.len];omega) (by omega) hxT (KK hx (by omega)) hx.sc (by omega);have l1:=C1 g (1,x);obtain ⟨f2,A2,n2,r2⟩:=(ih2 _ hG2 hX2 (by rw [l1];exact ysc) (by omega)).2.1 rfl 2 (u2 _) (usc _) hf
  have:=AL (D3 _ _) (usc 0) (by simp [Tm.wt,Tm.wtL]) n2
  subst this;exact eO (i:=0) (j:=0) 0 ho (by omega) (Y2 r1) (Y2 r2)
 | lam e g n d c x h1 ih =>
  intro G hG hX hsc hw;refine Df fun s hT hok hl hf=>?_;have hGl:=hG.len;rw [Ee] at hw;rw [Tm.sc,if_neg (by decide)] at hsc;obtain ⟨_,_,dsc,xsc,_⟩:=hsc;obtain ⟨f1,f2⟩:=QH (.inl rfl) hf;have hn:=NU hok.sc (by decide) (by decide) (by decide) (by decide);subst hn;obtain ⟨_,a1,b1,ha1,hb1,hd,hc⟩:=Xb (.inl rfl) (AX hT);have asc:=hok.sc;rw [Tm.sc,if_neg (by decide)] at asc;have csc:c.sc (g.length+1):=asc.2.2.2.1;have w1:=FF f1;have w2:=FF f2;have dsc':d.sc g.length:=dsc;obtain ⟨m1,c1,q1⟩:=qt (Et hd (D8 f1)) hX hGl (RR dsc' (by omega)) (by omega) (NA f1);have l1:=C1 g (1,d);obtain ⟨f3,A,n1,r1⟩:=(ih _ (DL hG hd (Ip d _ dsc' (by omega))) (Dn hX (by omega) hd dsc' (by omega)) (by rw [l1];exact xsc) (by omega)).2.1 rfl b1 hc (by rw [l1];exact csc) (NA f2)
  have:=AL (D8 f2) csc (by omega) n1
  subst this;exact qY 0 (by omega) q1 r1 (Dw hT Li hok.sc (by omega) (by have:=hok.wt;omega)).n
 | pair e g n d c x y hx h1 h2 ih1 ih2 =>
  intro G hG hX hsc hw;refine Df fun s hT hok hl hf=>?_;have hGl:=hG.len;rw [qT] at hw;rw [Tm.sc,if_neg (by decide)] at hsc;obtain ⟨_,_,_,xsc,ysc,_⟩:=hsc;obtain ⟨f1,f2⟩:=QH (.inr rfl) hf;have w1:=FF f1;have w2:=FF f2;have hn:=NU hok.sc (by decide) (by decide) (by decide) (by decide);subst hn;obtain ⟨_,a1,b1,ha1,hb1,hd,hc⟩:=Xb (.inr rfl) (AX hT);have asc:=hok.sc;rw [Tm.sc,if_neg (by decide)] at asc;have dsc:d.sc g.length:=asc.2.2.1;have csc:c.sc (g.length+1):=asc.2.2.2.1;obtain ⟨m1,c1,q1⟩:=qt hT hX hGl hok (by omega) hf;obtain ⟨f3,A,n1,r1⟩:=(ih1 G hG hX xsc (by omega)).2.1 rfl a1 hd dsc (NA f1)
  have:=AL (D8 f1) dsc (by omega) n1
  subst this;have qx:=(Hb h1 G hG).2.1 rfl a1 hd;have hsub:=Na hc [] G a1 x rfl qx (by rw [hGl];simp only [Ajh];omega);have hsub:HasT G (c.subst 0 0 x) (10+b1):=by simpa using hsub
  obtain ⟨p1,p2,p3⟩:=tF f2 x;have ssc:=HE c x 0 g.length csc hx.sc (by omega);rw [show ((0:Nat):Int)=0 from rfl,AjB] at ssc
  obtain ⟨f4,Y,n2,r2⟩:=(ih2 G hG hX ysc (by omega)).2.1 rfl b1 hsub ssc p1;have yok:=Lr (by omega) ssc (by have:=DG x;omega) n2;have hs3:1<=A.wt/\1<=c.wt:=⟨Ep _,Ep _⟩;rw [Ee] at hw;exact fO 0 (by omega) (Dw hT Li hok.sc (by omega) (by have:=hok.wt;omega)).n csc (by omega) xsc (by omega) q1 (Dt (by omega) r1 (Dw (Et hd (D8 f1)) Li dsc (by omega) (by omega))) r2 (Dw (Cl n2 hsub) Li yok.sc (by omega) (by have:=yok.wt;omega)) (qC hsub ssc (by omega) (by have:=Ep y;omega) n2)
 | quo e g n d x h1 ih =>
  intro G hG hX hsc hw;refine Df fun s hT hok hl hf=>?_;rw [LF] at hw;rw [Tm.sc,if_neg (by decide)] at hsc;have hn:=NU hok.sc (by decide) (by decide) (by decide) (by decide);subst hn;obtain ⟨_,hd⟩:=UZ (AX hT);have asc:=hok.sc;rw [Tm.sc,if_neg (by decide)] at asc;have dsc:d.sc g.length:=asc.2.2.1;have hw2:=hok.wt;rw [LF] at hw2;have hst:=BP hT;rw [Tm.stl,Tm.stlL] at hst;obtain ⟨f1,A,n1,r1⟩:=(ih G hG hX hsc.2.2.1 (by omega)).2.2.1 rfl hd dsc
  have:=AL hst.2.1 dsc (by omega) n1
  subst this;exact AaM 0 r1
 | oif e g a c x y h6 h1 h2 h3 ih1 ih2 ih3 =>
  intro G hG hX hsc hw;refine FI fun hT hok hl=>?_;rw [qT] at hw;rw [Tm.sc,if_neg (by decide)] at hsc;obtain ⟨_,_,csc,xsc,ysc,_⟩:=hsc;have hw2:=hok.wt;obtain ⟨f1,A1,n1,r1⟩:=(ih1 G hG hX csc (by omega)).2.2.1 rfl (ht0 .tint) (FD _)
  have:=AL (t:=Dh) (D3 _ _) (FD 0) (by simp [Dh,Tm.wt,Tm.wtL]) n1
  subst this;obtain ⟨f2,A2,n2,r2⟩:=(ih2 G hG hX xsc (by omega)).2.2.1 rfl (AX hT) hok.sc
  have:=AL (BP hT) hok.sc (by omega) n2
  subst this;obtain ⟨f3,A3,n3,r3⟩:=(ih3 G hG hX ysc (by omega)).2.2.1 rfl (AX hT) hok.sc
  have:=AL (BP hT) hok.sc (by omega) n3
  subst this;exact AcH 0 (Dt (by omega) r1 (Ui (by omega))) r2 (Dt (by omega) r3 (Dw hT (.inr (.inl rfl)) hok.sc (by omega) (by omega)))
 | olet e g a r x y h6 h1 h2 ih1 ih2 =>
  intro G hG hX hsc hw;refine FI fun hT hok hl=>?_;rw [Ee] at hw;rw [Tm.sc,if_neg (by decide)] at hsc;obtain ⟨_,_,xsc,ysc,_⟩:=hsc;have hGl:=hG.len;have hw2:=hok.wt;have hp:=Gx r;have hpw:=NQ hp;obtain ⟨f1,A1,n1,r1⟩:=(ih1 G hG hX xsc (by omega)).2.2.1 rfl (BD G 1 r) (G3 hp _)
  have:=AL (IC hp) (G3 hp 0) (by omega) n1
  subst this;have l1:=C1 g (0,r.plainT 1);have na2:=OC hT 6 (by omega);have aok2:=Kl hok (by omega);obtain ⟨f2,A2,n2,r2⟩:=(ih2 _ (E5 hG _) (JZ hX (by omega) (BD G 1 r) (G3 hp _) (by omega)) (by rw [l1];exact ysc) (by omega)).2.2.1 rfl (AX na2) (by rw [l1];exact aok2.sc)
  have:=AL (BP na2) aok2.sc (by rw [AH];omega) n2
  subst this;exact vL 0 (by omega) hok.sc (by omega) r1 r2
 | oapp e g a r x y h6 h1 h2 ih1 ih2 =>
  intro G hG hX hsc hw;refine FI fun hT hok hl=>?_;simp only [Ee] at hw;simp only [Tm.sc,Tm.scL] at hsc;obtain ⟨_,_,⟨_,_,psc,ysc,_⟩,xsc,_⟩:=hsc;simp only [show Ak 21 0=0 from rfl,show Ak 21 (0+1)=0 from rfl,show Ak 20 0=0 from rfl,show Ak 20 (0+1)=1 from rfl,AjB] at psc ysc xsc
  have hGl:=hG.len;have hw2:=hok.wt;have hp:=Gx r;have hpw:=NQ hp;have pT:=Et (BD G 1 r) (IC hp);obtain ⟨f1,A1,n1,r1⟩:=(ih1 G hG hX xsc (by omega)).2.2.1 rfl (BD G 1 r) (G3 hp _)
  have:=AL (IC hp) (G3 hp 0) (by omega) n1
  subst this;have l1:=C1 g (0,r.plainT 1);have na2:=OC hT 6 (by omega);have aok2:=Kl hok (by omega);obtain ⟨f2,A2,n2,r2⟩:=(ih2 _ (E5 hG _) (JZ hX (by omega) (BD G 1 r) (G3 hp _) (by omega)) (by rw [l1];exact ysc) (by omega)).2.2.1 rfl (AX na2) (by rw [l1];exact aok2.sc)
  have:=AL (BP na2) aok2.sc (by rw [AH];omega) n2
  subst this;have hN:NX g.length (.mk 16 0 [r.plainT 1,a]) (.mk 16 0 [r.plainT 1,a]):=MK (ht2 .tfun (BD G 1 r) (AX hT)) (LC (by omega) (IC hp) (BP hT)) (Db (G3 hp _) hok.sc) (by omega) (by rw [Ee];omega);exact zB 0 (Z0 0 (by omega) hok.sc (by omega) (qo pT hX hGl (RR (G3 hp _) (by omega)) (by omega)) r2 hN) (Dt (by omega) r1 (Dw pT (.inr (.inl rfl)) (G3 hp _) (by omega) (by omega)))
 | ofst e g a x y h6 h1 h2 ih1 ih2 =>
  intro G hG hX hsc hw;refine FI fun hT hok hl=>?_;simp only [LF,Ee] at hw;simp only [Tm.sc,Tm.scL] at hsc;obtain ⟨_,_,⟨_,_,xsc,ysc,_⟩,_⟩:=hsc;simp only [show Ak 23 0=0 from rfl,show Ak 22 0=0 from rfl,show Ak 22 (0+1)=0 from rfl,AjB] at xsc ysc
  have hw2:=hok.wt;obtain ⟨f2,A2,n2,r2⟩:=(ih1 G hG hX xsc (by omega)).2.2.1 rfl (AX hT) hok.sc
  have:=AL (BP hT) hok.sc (by omega) n2
  subst this;obtain ⟨f1,A1,n1,r1⟩:=(ih2 G hG hX ysc (by omega)).2.2.1 rfl (ht0 .tint) (FD _)
  have:=AL (t:=Dh) (D3 _ _) (FD 0) (by simp [Dh,Tm.wt,Tm.wtL]) n1
  subst this;have hN:NX g.length (.mk 17 0 [A2,Dh]) (.mk 17 0 [A2,Dh]):=MK (ht2 .tpro (AX hT) (ht0 .tint)) (LC (by omega) (BP hT) (D3 _ _)) (Db hok.sc (FD _)) (by omega) (by rw [Ee];simp [Dh,Tm.wt,Tm.wtL];omega);exact rF 0 (Ws 0 (by omega) r2 r1 hN)
 | ofix e g a x h6 h1 ih =>
  intro G hG hX hsc hw;refine FI fun hT hok hl=>?_;rw [Ee] at hw;rw [Tm.sc,if_neg (by decide)] at hsc;obtain ⟨_,_,asc,xsc,_⟩:=hsc;have hGl:=hG.len;have hw2:=hok.wt;have l1:=C1 g (0,a);have na2:=OC hT 6 (by omega);have aok2:=Kl hok (by omega);obtain ⟨f2,A2,n2,r2⟩:=(ih _ (E5 hG _) (JZ hX (by omega) (AX hT) hok.sc (by omega)) (by rw [l1];exact xsc) (by omega)).2.2.1 rfl (AX na2) (by rw [l1];exact aok2.sc)
  have:=AL (BP na2) aok2.sc (by rw [AH];omega) n2
  subst this;exact s9 0 (by omega) hok.sc (by omega) (qo hT hX hGl hok (by omega)) (Dt (by omega) r2 (Dw na2 (.inr (.inl rfl)) (by rw [l1];exact aok2.sc) (by omega) (by rw [AH];omega))) (Dw hT (.inr (.inl rfl)) hok.sc (by omega) (by omega)).n
 | spl e g a x h6 h1 ih =>
  intro G hG hX hsc hw;refine FI fun hT hok hl=>?_;rw [LF] at hw;rw [Tm.sc,if_neg (by decide)] at hsc;have hw2:=hok.wt;have lsc:(Tm.mk 18 0 [a]).sc g.length:=FZ hok.sc;obtain ⟨f2,A2,n2,r2⟩:=(ih G hG hX hsc.2.2.1 (by omega)).2.1 rfl 3 (iJ .liftT (AX hT)) lsc VG
  have:=AL (y6 (by decide) (BP hT)) lsc (by rw [LF];omega) n2
  subst this;exact AaG 0 r2
 | oint e g a n ha =>intro G hG hX hsc hw;refine FI fun hT hok hl=>?_;rw [RI hok.sc ha (by decide) (by decide) (by decide) (by decide) (by decide)];exact eX g n
 | oprim e g a p q n h6 ha h1 h2 ih1 ih2 =>
  intro G hG hX hsc hw;refine FI fun hT hok hl=>?_;have ea:a=Dh:=RI hok.sc ha (by decide) (by decide) (by decide) (by decide) (by decide);subst ea;rw [Ee] at hw;rw [Tm.sc,if_neg (by decide)] at hsc;obtain ⟨_,_,xsc,ysc,_⟩:=hsc;obtain ⟨f1,A1,n1,r1⟩:=(ih1 G hG hX xsc (by omega)).2.2.1 rfl (ht0 .tint) (FD _)
  have:=AL (t:=Dh) (D3 _ _) (FD 0) (by simp [Dh,Tm.wt,Tm.wtL]) n1
  subst this;obtain ⟨f2,A2,n2,r2⟩:=(ih2 G hG hX ysc (by omega)).2.2.1 rfl (ht0 .tint) (FD _)
  have:=AL (t:=Dh) (D3 _ _) (FD 0) (by simp [Dh,Tm.wt,Tm.wtL]) n2
  subst this;exact pM n (Dt (by omega) r1 (Ui (by omega))) (Dt (by omega) r2 (Ui (by omega)))
 | olam e g n d c b h1 ih =>
  intro G hG hX hsc hw;refine FI fun hT hok hl=>?_;rw [Ee] at hw;rw [Tm.sc,if_neg (by decide)] at hsc;obtain ⟨_,_,dsc0,xsc,_⟩:=hsc;have hGl:=hG.len;have hw2:=hok.wt;have hd2:=hok.dp;rw [Ee] at hw2;rw [Ns] at hd2;have hn:=NU hok.sc (by decide) (by decide) (by decide) (by decide);subst hn;obtain ⟨hd,hc⟩:=Lv (.inl rfl) (AX hT);have asc:=hok.sc;rw [Tm.sc,if_neg (by decide)] at asc;have dok:NOk g.length d:=⟨asc.2.2.1,by omega,by omega⟩;have cok:NOk g.length c:=⟨asc.2.2.2.1,by omega,by omega⟩;have hst:=BP hT;rw [Tm.stl,Tm.stlL,Tm.stlL] at hst;have l1:=C1 g (0,d);have nc2:=OC (Et hc hst.2.2.1) 6 (by omega);have cok2:=Kl cok (by omega);obtain ⟨f2,A2,n2,r2⟩:=(ih _ (E5 hG _) (JZ hX (by omega) hd dok.sc (by omega)) (by rw [l1];exact xsc) (by omega)).2.2.1 rfl (AX nc2) (by rw [l1];exact cok2.sc)
  have:=AL (BP nc2) cok2.sc (by rw [AH];omega) n2
  subst this;exact Z0 0 (by omega) cok.sc (by omega) (qo (Et hd hst.2.1) hX hGl dok (by omega)) r2 (Dw hT (.inr (.inl rfl)) hok.sc (by omega) (by rw [Ee];omega)).n
 | opair e g n d c p q h1 h2 ih1 ih2 =>
  intro G hG hX hsc hw;refine FI fun hT hok hl=>?_;rw [Ee] at hw;rw [Tm.sc,if_neg (by decide)] at hsc;obtain ⟨_,_,psc,qsc,_⟩:=hsc;have hw2:=hok.wt;rw [Ee] at hw2;have hn:=NU hok.sc (by decide) (by decide) (by decide) (by decide);subst hn;obtain ⟨hd,hc⟩:=Lv (.inr rfl) (AX hT);have asc:=hok.sc;rw [Tm.sc,if_neg (by decide)] at asc;have dsc:d.sc g.length:=asc.2.2.1;have csc:c.sc g.length:=asc.2.2.2.1;have hst:=BP hT;rw [Tm.stl,Tm.stlL,Tm.stlL] at hst;obtain ⟨f1,A1,n1,r1⟩:=(ih1 G hG hX psc (by omega)).2.2.1 rfl hd dsc
  have:=AL hst.2.1 dsc (by omega) n1
  subst this;obtain ⟨f2,A2,n2,r2⟩:=(ih2 G hG hX qsc (by omega)).2.2.1 rfl hc csc
  have:=AL hst.2.2.1 csc (by omega) n2
  subst this;exact Ws 0 (by omega) r1 r2 (Dw hT (.inr (.inl rfl)) hok.sc (by omega) (by rw [Ee];omega)).n
def Yq {op:Int} {s:Nat} {sg:KD} (h:Rule op s sg):EQ op=(sg.length:Int):=by cases h<;>rfl
def Uj {op n:Int} (h1:op≠1) (h:BX op n):Mu op n=true:=by
 unfold BX at h;unfold Mu;rw [if_neg h1];by_cases h2:op=2
 ·rw [if_pos h2] at h ⊢;simp [h]
 rw [if_neg h2] at h ⊢;by_cases h26:op=26
 ·rw [if_pos h26] at h ⊢;simp [h]
 rw [if_neg h26] at h ⊢;by_cases h25:op=25
 ·rw [if_pos h25]
 rw [if_neg h25] at h ⊢;simp [h]
theorem Sm {d:Int}:∀(l:List Tm) (n:Int),(∀(i:Nat) t,l[i]?=some t->∀n:Int,n+t.wt<=3000->t.chk n d=(n+t.wt,0))->n+Tm.wtL l<=3000->Tm.chkL l n d=(n+Tm.wtL l,0)
 | [],n,_,_=>by simp [Tm.chkL,Tm.wtL]
 | t::l,n,h,hw=>by
  simp only [Tm.wtL] at hw;have h1:=h 0 t rfl n (by omega);rw [Tm.chkL,h1];simp only [if_true];rw [Sm l (n+t.wt) (fun i t a=>h (i+1) t (by simpa using a)) (by omega)];simp only [Tm.wtL,Ai0,and_true];omega
theorem Ul {G:List Nat} {t:Tm} {s:Nat} (h:HasT G t s):∀(k:Nat) (n d:Int),t.sc k->k+2 * t.dp<=3000->n+t.wt<=3000->d+t.dp<=121->t.chk n d=(n+t.wt,0):=by
 have nd:∀(op m:Int) (ks:List Tm) (k:Nat) (n d:Int),op≠1->(ks.length:Int)=EQ op->(∀(i:Nat) t,ks[i]?=some t->∀(k:Nat) (n d:Int),t.sc k->k+2 * t.dp<=3000->n+t.wt<=3000->d+t.dp<=121->t.chk n d=(n+t.wt,0))->(Tm.mk op m ks).sc k->k+2 * (Tm.mk op m ks).dp<=3000->n+(Tm.mk op m ks).wt<=3000->d+(Tm.mk op m ks).dp<=121->(Tm.mk op m ks).chk n d=(n+(Tm.mk op m ks).wt,0):=by
  intro op m ks k n d h1 hl ih hsc hkk hw hd;simp only [Tm.wt] at hw;simp only [Tm.dp] at hd hkk;rw [Tm.sc,if_neg h1] at hsc;have hc:¬ (EQ op≠(ks.length:Int)\/Mu op m=false):=by rw [hl,Uj h1 hsc.2.1];simp
  rw [Tm.chk,if_neg (by omega),if_neg hc];rw [Sm ks (n+1) (fun i t a n' hn'=>by
   have hwt:=IL a;have hdt:=Pq a;have hbn:=AW op i;have hs:=GT hsc.2.2 a;rw [Ajy] at hs;exact ih i t a (k+Ak op i) n' (d+1) hs (by omega) hn' (by omega)) (by omega)]
  simp only [Tm.wt,Ai0,and_true];omega
 induction h with
 | var G m s h0 h hs =>intro k n d hsc hk hw hd;simp only [Tm.wt,Tm.wtL] at hw;simp only [Tm.dp,Tm.dpL] at hd hk;rw [Tm.sc,if_pos rfl] at hsc;rw [Tm.chk,if_neg (by omega),if_neg (by simp [EQ,Mu];omega),Tm.chkL];simp [Tm.wt,Tm.wtL]
 | node G op m ks s sg hr hl hk ih =>intro k n d;exact nd op m ks k n d (DX hr).1 (by rw [Yq hr,hl]) fun i t a=>ih i t _ _ a (Ai6 (by rw [<- hl];exact (Ai7.1 a).1))
 | app G m q a b x y s s0 hs hy ha hb hx iha ihb ihx =>
  intro k n d;refine nd _ _ _ k n d (by decide) rfl fun i t h=>?_
  match i with
  | 0=>simp at h;subst h;intro k n d;refine nd _ _ _ k n d (by decide) rfl fun i t h=>?_;match i with
   | 0=>simp at h;subst h;exact iha
   | 1=>simp at h;subst h;exact ihb
   | i+2=>simp at h
  | 1=>simp at h;subst h;exact ihx
  | i+2=>simp at h
 | fst G m q a x y s s1 s0 hs ha hx hy iha ihx ihy =>
  intro k n d;refine nd _ _ _ k n d (by decide) rfl fun i t h=>?_
  match i with
  | 0=>simp at h;subst h;intro k n d;refine nd _ _ _ k n d (by decide) rfl fun i t h=>?_;match i with
   | 0=>simp at h;subst h;exact iha
   | 1=>simp at h;subst h;exact ihx
   | 2=>simp at h;subst h;exact ihy
   | i+3=>simp at h
  | i+1=>simp at h
 | snd G m q a x y s s1 s0 hs ha hx hy iha ihx ihy =>
  intro k n d;refine nd _ _ _ k n d (by decide) rfl fun i t h=>?_
  match i with
  | 0=>simp at h;subst h;intro k n d;refine nd _ _ _ k n d (by decide) rfl fun i t h=>?_;match i with
   | 0=>simp at h;subst h;exact iha
   | 1=>simp at h;subst h;exact ihx
   | 2=>simp at h;subst h;exact ihy
   | i+3=>simp at h
  | i+1=>simp at h
structure EnQ (g:AR) (st:Int) (T:Tm):Prop where
 wt:T.wt<=130
 chk:(T.chk 0 1).2=0
 ty:(st=1/\∃m,QI g 1 T (.mk 2 m []))\/(st=0/\QI g 1 T tyT)
theorem zX {g:AR} (h:CtxG g):(∀(i:Nat) (p:Int×Tm),g[i]?=some p->p.2.sc i)->g.length<=60->∃G,CtxT g G/\CtxX g G/\∀(i:Nat) (p:Int×Tm),g[i]?=some p->EnQ (g.take i) p.1 p.2:=by
 have more:∀{g:AR} {q:Int×Tm},EnQ g q.1 q.2->(∀(i:Nat) (p:Int×Tm),g[i]?=some p->EnQ (g.take i) p.1 p.2)->∀(i:Nat) (p:Int×Tm),(g++[q])[i]?=some p->EnQ ((g++[q]).take i) p.1 p.2:=by
  intro g q h1 h2 i p hp;by_cases hi:i<g.length
  ·rw [Ai9 hi] at hp;rw [List.take_append_of_le_length (by omega)];exact h2 i p hp
  ·rw [Ai8 (by omega)] at hp;have h0:i - g.length=0:=by
    have:=(Ai7.1 hp).1
    simp at this;omega
   rw [h0] at hp;simp only [Ajb,AiZ] at hp;subst hp;rw [show i=g.length by omega,List.take_left]
   exact h1
 have less:∀{g:AR} {q:Int×Tm},(∀(i:Nat) (p:Int×Tm),(g++[q])[i]?=some p->p.2.sc i)->(∀(i:Nat) (p:Int×Tm),g[i]?=some p->p.2.sc i)/\q.2.sc g.length:=by intro g q h;refine ⟨fun i p hp=>h i p (by rw [Ai9 (Ai7.1 hp).1];exact hp),h g.length q (by simp)⟩
 induction h with
 | nil=>exact fun _ _=>⟨[],eC,eP,fun i p h=>by simp at h⟩
 | ob g t h h1 ih =>
  intro hs hl;rw [C1] at hl;obtain ⟨hs,ts⟩:=less hs;obtain ⟨G,hG,hX,hE⟩:=ih hs (by omega);have hGl:=hG.len;obtain ⟨w,d⟩:=s_7 h1;have hT:=(Hb h1 G hG).2.1 rfl 1 (ht0 .tyT);obtain ⟨f,A,hn,q⟩:=(jT h1 G hG hX ts (by omega)).2.1 rfl 1 (ht0 .tyT) (G6 _) Sl
  have:=AL (t:=tyT) (D3 _ _) (G6 0) (by simp [tyT,Tm.wt,Tm.wtL]) hn
  subst this;exact ⟨_,E5 hG t,JZ hX (by omega) hT ts (by omega),more ⟨w,by rw [Ul hT g.length 0 1 ts (by omega) (by omega) (by omega)],.inr ⟨rfl,q⟩⟩ hE⟩
 | me g a h ha hgl h1 ih =>
  intro hs hl;rw [C1] at hl;obtain ⟨hs,ts⟩:=less hs;obtain ⟨G,hG,hX,hE⟩:=ih hs (by omega);have hGl:=hG.len;obtain ⟨s,_,hT⟩:=(Hb h1 G hG).1 rfl;have w:=t_7 h1
  have:=DG a
  obtain ⟨m,_,q⟩:=(jT h1 G hG hX ts (by omega)).1 rfl (by omega);exact ⟨_,DL hG hT (KK ha (by omega)),Dn hX (by omega) hT ts (by omega),more ⟨by show a.wt<=130;omega,by rw [Ul hT g.length 0 1 ts (by omega) (by omega) (by omega)],.inl ⟨rfl,m,q⟩⟩ hE⟩
def jD {k:Nat} {A:Tm} (h:NX k A A) (hs:A.stl) (hk:k<=1000) (hN:NOk k A):Q8 A A:=by obtain ⟨f,h1⟩:=FX hs hN.sc (by omega) hN.wt hN.dp;exact (h.nf f _ h1).2
def kW {g:AR} (h:∀(i:Nat) (p:Int×Tm),g[i]?=some p->EnQ (g.take i) p.1 p.2):∀p∈g,(p.2.chk 0 1).2=0:=fun p hp=>by
 obtain ⟨i,hi⟩:=List.getElem?_of_mem hp;exact (h i p hi).chk
def YR {g:AR} {a t q:Tm} {object:Bool} {st:Int} (hC:CaseOk g a t true object) (hpl:object=true->a=q.plainT 2) (hst:st=if object then 0 else 1):∃G f A s,CtxT g G/\CtxX g G/\(∀(i:Nat) (p:Int×Tm),g[i]?=some p->EnQ (g.take i) p.1 p.2)/\(t.chk 0 1).2=0/\AF f a=some (A,0)/\Es s/\HasT G a s/\a.wt<=3000/\NOk g.length A/\QI g st t A/\(st=1/\10<=s/\FT A\/st=0/\s=1):=by
 have hl:=hC.len;obtain ⟨G,hG,hX,hE⟩:=zX hC.cg (fun i p hp=>(hC.gok.ok i p hp).1) (by omega);have hGl:=hG.len;have had:=hC.adp;have asc:=hC.asc;have tsc:=hC.tsc;have hck:=hC.chk rfl;have tw:=(SD hck).1;have gt:=hC.gt rfl;cases object
 ·have ga:=hC.ga rfl;obtain ⟨s,_,hs⟩:=(Hb ga G hG).1 rfl;have w:=t_7 ga;subst hst;obtain ⟨f,A,hn,q⟩:=(jT gt G hG hX tsc tw).2.1 rfl s hs asc (qL ga (by omega));exact ⟨G,f,A,_,hG,hX,hE,hck,hn,Li,hs,by omega,Lr (by omega) asc (by omega) hn,q,.inl ⟨rfl,by omega,qI (qL ga (by omega)) hs asc (by omega) hn⟩⟩
 ·have ha:=hpl rfl;have hs:HasT G a 1:=by rw [ha];exact BD G 2 q
  have w:a.wt<=20:=by have:=Fb 2 q;rw [<- ha] at this;simpa using Nat.le_trans this (by decide)
  subst hst;obtain ⟨f,A,hn,q⟩:=(jT gt G hG hX tsc tw).2.2.1 rfl hs asc;exact ⟨G,f,A,_,hG,hX,hE,hck,hn,.inr (.inl rfl),hs,by omega,Lr (by omega) asc (by omega) hn,q,.inr ⟨rfl,rfl⟩⟩
def eJ {g:AR} {a t:Tm} {object:Bool} {st:Int} (hC:CaseOk g a t false object) (hst:st=if object then 0 else 1):∃A r f,A.sc g.length/\A.wt<=10/\JI (AM g) st t r f/\(f=0->r=A):=by
 have ht:=hC.zt rfl;obtain ⟨A,hA,hw,r,f,hJ,hv⟩:∃A:Tm,A.sc g.length/\A.wt<=10/\QI g st t A:=by
  subst ht;cases object
  ·exact ⟨natT,EN _,by simp [natT,Tm.wt,Tm.wtL],by subst hst;exact SG g 0⟩
  ·exact ⟨Dh,FD _,by simp [Dh,Tm.wt,Tm.wtL],by subst hst;exact eX g 0⟩
 refine ⟨A,r,f,hA,hw,hJ,fun hf=>?_⟩;rcases hv with hv | hv
 ·exact absurd hf (A0 hv)
 ·exact hv.2.1
set_option maxRecDepth 20000
set_option maxHeartbeats 16000000
def TJ (n:Nat):Qt (SS dt (n+200) 11 [] ⟨[],[]⟩)=true:=by kernel_rfl
def Yw {n:Nat} (h:200<=n):BE (SS dt n 11 [] ⟨[],[]⟩) (.bool true):=by obtain ⟨k,rfl⟩:∃k,n=k+200:=⟨n - 200,by omega⟩;exact Ya (TJ k)
def yU (ih:Ah) (xs:List IV) (h0:Hp) (k:KT (IV×Hp)):CN EE ih (.fv (.func (.func 56) [] [])) xs h0 k=A5 [] false false ih 56 xs h0 k :=Oa (by kernel_rfl) (by kernel_rfl) (by kernel_rfl) (by kernel_rfl) ..
def tN {n:Nat} {p:Int×Tm} (h:(p.2.chk 0 1).2=0) (hn:2 * p.2.wt+4<n):BE (SS dt n 56 [.fv (v1 p)] ⟨[],[]⟩) (.bool false):=by obtain ⟨n,rfl⟩:=psc n (by omega);have hc:=NJ (n:=n) p.2 (by omega);rw [h] at hc;rw [c56];obtain ⟨st,o,m,ks⟩:=p;simp only [v1,Am,Tm.op,Tm.n,Tm.kids] at hc ⊢;simp only [S56,↓XX,XY,↓reduceIte,seval,↓Aq hc];exact Aw _ _
def jJ {n:Nat} (g:AR) (hl:g.length<=1000) (hn:g.length+8000<n) (h:∀p∈g,(p.2.chk 0 1).2=0):BE (SS dt (n+2) 55 [.fv (AM g),.fv (.func (.func 56) [] [])] ⟨[],[]⟩) (.bool false):=by
 have hi:BE (SS dt (n+1) 81 [.fv (AM g),.fv (.func (.func 56) [] [])] ⟨[],[]⟩) (.int .i64 (-1)):=by
  rw [c81,AM];have hlen:(g.map v1).length=g.length:=Ajw _;simp only [Qf,S81,↓XX,XY,↓reduceIte,seval,hlen];refine Ba (Q:=fun r=>BE r _) (fun k V H=>∃pre rest,g=pre++rest/\rest.length=k/\V=[.fv (.sl (g.map v1)),.fv (.func (.func 56) [] []),iv g.length,iv pre.length]/\H=⟨[],[]⟩) ?_ n g.length _ _ (by omega) ⟨[],g,rfl,rfl,rfl,rfl⟩;rintro k V H rec ⟨pre,rest,hk,hkl,rfl,rfl⟩ hrec;cases rest with
  | nil =>
   have hi:¬ (pre.length:Int)<g.length:=by rw [hk];simp
   simp only [Qf,T6,S81,↓XX,XY,↓reduceIte,seval,hi];exact Aw _ _
  | cons p rest =>
   have hi:(pre.length:Int)<g.length:=by rw [hk];simp;omega
   have hp:(p.2.chk 0 1).2=0:=h p (by rw [hk];simp);have hc:=tN (n:=n) hp (by have:=(NL p.2 0 1 (by omega)).2.2 hp;omega);have hget:(g.map v1)[pre.length]?=some (v1 p):=by rw [Ajv,BY hk];rfl
   have hix:=fun {β:Type}=>Bq (β:=β) (size:=4) hget rfl;have hwi:BC ((pre.length:Int)+1)=((pre++[p]).length:Int):=(Ax (by omega) (by omega)).trans (by simp);simp only [Ai3] at hkl;have h9:=hrec rest.length [.fv (.sl (g.map v1)),.fv (.func (.func 56) [] []),iv g.length,iv (pre++[p]).length] _ (by omega) ⟨pre++[p],rest,by rw [hk];simp,rfl,rfl,rfl⟩;obtain ⟨st,o,m,ks⟩:=p;simp only [v1,Tm.op,Tm.n,Tm.kids] at hc hix;simp only [Qf,T6,S81,↓XX,XY,↓reduceIte,seval,hi,↓hix,FV.cells,↓yU,↓Aq hc,hwi];exact h9
 rw [c55];have h2:=fun (h:Hp) (k:KT (IV×Hp))=>Af (a:=.fv (AM g)) (b:=.fv (.func (.func 56) [] [])) hi rfl rfl h k;simp only [S55,↓XX,XY,↓reduceIte,seval,↓h2];exact Aw _ _
def Xf (g:AR) (st:Int) (t A:Tm):Prop:=Ev 22 [.fv (AM g),iv st,.fv t.enc] (.tuple [A.enc,.int .i64 0])
def oZ {A B:Tm} (h:PN A B):Ev 57 [.fv A.enc,iv 0] (.tuple [B.enc,.int .i64 0]):=by obtain ⟨N0,h0⟩:=h;refine ⟨N0+200,fun n hn=>?_⟩;obtain ⟨n,rfl⟩:=psc n (by omega);have h0:=h0 n (by omega);rw [c57];obtain ⟨o1,n1,k1⟩:=A;obtain ⟨o2,n2,k2⟩:=B;simp only [Am] at h0 ⊢;simp only [S57,↓XX,XY,↓reduceIte,seval,↓Aq h0];exact A6 rfl
def sT {g:AR} {st:Int} {t A B:Tm} (hst:st=0\/st=1) (hl:g.length<=1000) (hg:∀p∈g,(p.2.chk 0 1).2=0) (ht:(t.chk 0 1).2=0) (h:KI g st t A) (h2:PN A B):Xf g st t B:=by obtain ⟨N0,h0⟩:=h;obtain ⟨N1,h1⟩:=oZ h2;refine ⟨N0+N1+20000,fun n hn=>?_⟩;obtain ⟨n,rfl⟩:=psc n (by omega);have h0:=h0 n (by omega);have h1:=h1 n (by omega);have hc:=NJ (n:=n) t (by have:=(NL t 0 1 (by omega)).2.2 ht;omega);rw [ht] at hc;obtain ⟨n',hn'⟩:∃k,n=k+2:=⟨n - 2,by omega⟩;have hno:=jJ (n:=n') g hl (by omega) hg;rw [<- hn'] at hno;have h9:=fun (h:Hp) (k:KT (IV×Hp))=>Af (a:=.fv (AM g)) (b:=.fv (.func (.func 56) [] [])) hno rfl rfl h k;rw [c22];obtain ⟨o1,n1,k1⟩:=t;obtain ⟨o2,n2,k2⟩:=A;obtain ⟨o3,n3,k3⟩:=B;simp only [Am] at h0 h1 hc ⊢;rcases hst with rfl | rfl<;>(simp only [dV,S22,↓XX,XY,↓reduceIte,seval,↓Aq hc,↓h9,↓Av h0,↓Af h1];exact A6 rfl)
end Idl
end Go.Proofs.YtnenpcghegcnhaaGreat
namespace Go.Proofs.YtnenpcghegcnhaaGreat
namespace Idl
def hvB {e:Int} (h:Y3 e):(decide (e=17) || decide (e=5))=true:=by rcases h with rfl | rfl<;>rfl
def wY {g:AR} {a t q:Tm} {is object:Bool} {st:Int} (hC:CaseOk g a t is object) (hpl:object=true->a=q.plainT 2) (hst:st=if object then 0 else 1):∃x f,JI (AM g) st t x f/\(is=true->Y3 f\/f=0/\x.wt<=3000/\x.sc g.length/\∀m:AR,m.length<=10->(∀p∈m,(p.2.chk 0 1).2=0)->Xf (g++m) st (t.shift m.length 0) (x.shift m.length 0)):=by
 have hl:=hC.len;have tsc:=hC.tsc;cases is
 ·obtain ⟨A,r,f,hA,hw,hJ,hf⟩:=eJ hC hst;exact ⟨r,f,hJ,fun h=>by cases h⟩
 ·obtain ⟨G,f,A,s,hG,hX,hE,hck,hn,hEs,hT,aw,hN,⟨x,r,hJ,cf⟩,st2⟩:=YR hC hpl hst;rcases cf with cf | ⟨rfl,rfl,hK⟩
  ·exact ⟨x,r,hJ,fun _=>.inl cf⟩
  have nA:=Cl hn hT;have tA:=Dw nA hEs hN.sc (by omega) (by have:=hN.wt;omega);have pA:=jD tA.n (BP nA) (by omega) hN;have hc:=cC t 0 1 hck;have hw:=(SD hck).1;have hGl:=hG.len;refine ⟨x,0,hJ,fun _=>.inr ⟨rfl,hN.wt,hN.sc,fun m hm hmc=>?_⟩⟩;obtain ⟨s',hTt⟩:∃s',HasT G t s':=by
   have gt:=hC.gt rfl;cases object
   ·obtain ⟨s1,_,h1⟩:=(Hb (hC.ga rfl) G hG).1 rfl;exact ⟨_,(Hb gt G hG).2.1 rfl _ h1⟩
   ·exact ⟨_,(Hb gt G hG).2.2.1 rfl (by rw [hpl rfl];exact BD G 2 q)⟩
  have hT2:=EZ hTt (List.replicate m.length 0) (by rw [List.length_replicate];omega);rw [List.length_replicate] at hT2;have ssc:=Bj t m.length 0 _ tsc (by omega);rw [show ((0:Nat):Int)=0 from rfl] at ssc
  have hck2:=Ul hT2 (g.length+m.length) 0 1 ssc (by rw [CQ];omega) (by rw [AH];omega) (by rw [CQ];omega);have h1:=hK m.length 0 (g++m) (by omega) (by simp only [Ajg];omega) (.base g m rfl);have h2:=pA m.length 0 (by omega) (by omega);rw [show ((0:Nat):Int)=0 from rfl] at h1 h2
  exact sT (by omega) (by simp only [Ajg];omega) (fun p hp=>by
   rcases Ajk.1 hp with hp | hp
   ·exact kW hE p hp
   ·exact hmc p hp) (by rw [hck2]) h1 h2
def Y8 {n:Nat} (hn:1<n) (op:Int) (l:List Tm):BE (SS dt n 34 [iv op,.fv (.sl (l.map Tm.enc))] ⟨[],[]⟩) (Tm.mk op 0 l).enc:=by obtain ⟨n,rfl⟩:=psc n (by omega);have h:=CM (n:=n) (by omega) op l;rw [c34];rw [Am] at h ⊢;simp only [S34,↓XX,XY,↓reduceIte,seval,↓Af h];exact A6 rfl
def mV (b:Bool):Int×Tm:=if b then (1,natT) else (0,Dh)
def qM (t:Tm):Blk:=.row [iv t.op,iv t.n,.fv (.sl (t.kids.map Tm.enc))] false
structure CaS (n:Nat) (g:AR) (st:Int) (t x:Tm) (l:List Bool):Prop where
 ki:BE (SS dt n 22 [.fv (AM (g++l.map mV)),iv st,.fv (t.shift l.length 0).enc] ⟨[],[]⟩) (.tuple [(x.shift l.length 0).enc,.int .i64 0])
 ks:BE (SS dt n 23 [.fv (x.shift l.length 0).enc,.fv (x.shift l.length 0).enc] ⟨[],[]⟩) (.bool true)
 ka:BE (SS dt n 35 [.fv x.enc,iv l.length,iv 0] ⟨[],[]⟩) (x.shift l.length 0).enc
def L9 (l:List Tm) (hll:l.length<=9223372036854775807) (r q:Tm) (object:Bool) (ms:List Bool):∃N,uD (SS dt N 7 [.fv (.sl (l.map Tm.enc)),.fv r.enc,.fv q.enc,.fv (.bool object),.fv (.sl (ms.map FV.bool))] ⟨[],[]⟩) (.bool true):=by
 obtain ⟨g,a,t,is,⟨N0,h0⟩,hC,hpl,_⟩:=nF l hll r q object;obtain ⟨st,hst⟩:∃st:Int,st=if object then 0 else 1:=⟨_,rfl⟩;have hg4:=hC.len;have tsc:=hC.tsc;obtain ⟨x,f,⟨N1,h1⟩,hK⟩:=wY hC hpl hst;obtain ⟨N4,h4⟩:∃N,is=true->ms.length<=10->Y3 f\/f=0/\∀n,N<=n->CaS n g st t x ms:=by
  by_cases hi:is=true/\ms.length<=10
  ·rcases hK hi.1 with hv | ⟨rfl,hw,hs,hX⟩
   ·exact ⟨0,fun _ _=>.inl hv⟩
   obtain ⟨M,hM⟩:=hX (ms.map mV) (by rw [Ajw];exact hi.2) (fun p hp=>by
    obtain ⟨b,_,rfl⟩:=List.mem_map.1 hp;cases b<;>rfl)
   rw [Ajw] at hM;refine ⟨M+20000,fun _ _=>.inr ⟨rfl,fun n hn=>⟨hM n (by omega),?_,CE n x ms.length 0 (by omega) (CT x _ hs) (by omega) (by omega)⟩⟩⟩;have s1:=JW n (x.shift ms.length 0) (x.shift ms.length 0) (by rw [AH];omega) (by rw [AH];omega);rwa [(JK _ _).2 rfl] at s1
  ·exact ⟨0,fun h1 h2=>absurd ⟨h1,h2⟩ hi⟩
 obtain ⟨n,hn⟩:∃n,n=N0+N1+N4+Tm.wtL l+r.wt+q.wt+t.wt+10000000000:=⟨_,rfl⟩;refine ⟨n+1,?_⟩;have h0:=h0 n (by omega);have h1:=h1 n (by omega);have u1:=cJ (n:=n) (by omega) f;have hk:=Yw (n:=n) (by omega);have hm:=nL l hll (n:=n) (by omega);obtain ⟨m,hmn⟩:∃m,n=m+1:=⟨n - 1,by omega⟩;have fr:=TF (n:=m) r (by omega);have fq:=TF (n:=m) q (by omega);rw [<- hmn] at fr fq;rw [c7];have hst2:object=true/\st=0\/object=false/\st=1:=by cases object<;>simp_all
 generalize (FV.sl (l.map Tm.enc))=le at *;generalize aU l=ml at hm;generalize decide (r.count 300<300)=br at fr;generalize decide (q.count 300<300)=bq at fq;have tw:is=true->t.wt<=3000:=fun h=>(SD (hC.chk h)).1;clear hC hpl hK hst;have hmap:(ms.map FV.bool).length=ms.length:=Ajw _;cases ml
 ·simp only [EM] at fr fq h0 h1 ⊢;simp only [↓iO,↓XX,XY,↓reduceIte,seval,↓EO hk,↓Aq hm];exact Ts
 cases br
 ·simp only [EM] at fr fq h0 h1 ⊢;simp only [↓iO,↓XX,XY,↓reduceIte,seval,↓EO hk,↓Aq hm,↓Aq fr];exact Ts
 cases bq
 ·simp only [EM] at fr fq h0 h1 ⊢;simp only [↓iO,↓XX,XY,↓reduceIte,seval,↓EO hk,↓Aq hm,↓Aq fr,↓Aq fq];exact Ts
 by_cases h10:(10:Int)<ms.length
 ·simp only [EM] at fr fq h0 h1 ⊢;simp only [↓iO,↓XX,XY,↓reduceIte,seval,↓EO hk,↓Aq hm,↓Aq fr,↓Aq fq,hmap,h10];exact Ts
 cases is
 ·clear h4;simp only [EM] at fr fq h0 h1 ⊢;rcases hst2 with ⟨rfl,rfl⟩ | ⟨rfl,rfl⟩<;>(simp only [↓iO,↓XX,XY,↓reduceIte,seval,↓EO hk,↓Aq hm,↓Aq fr,↓Aq fq,hmap,h10,↓As h0,↓Av h1];exact Ts)
 replace h4:=h4 rfl (by omega);rcases h4 with hv | ⟨rfl,h4⟩
 ·rw [hvB hv] at u1;simp only [EM] at fr fq h0 h1 ⊢;rcases hst2 with ⟨rfl,rfl⟩ | ⟨rfl,rfl⟩<;>(simp only [↓iO,↓XX,XY,↓reduceIte,seval,↓EO hk,↓Aq hm,↓Aq fr,↓Aq fq,hmap,h10,↓As h0,↓Av h1,↓Aq u1];exact Ts)
 rw [show (decide ((0:Int)=17) || decide ((0:Int)=5))=false from rfl] at u1
 obtain ⟨j1,j2,j3⟩:=h4 n (by omega);have tw:=tw rfl;have sh:=CE n t ms.length 0 (by omega) (CT t _ tsc) (by omega) (by omega);have t10:=Y8 (n:=n) (by omega) 10 [];have t15:=Y8 (n:=n) (by omega) 15 [];simp only [EM] at fr fq h0 h1 j1 j2 j3 sh t10 t15 ⊢;rcases hst2 with ⟨rfl,rfl⟩ | ⟨rfl,rfl⟩<;>(
  simp only [Uo,SN,TH,TC,S7,↓XX,XY,↓reduceIte,seval,↓EO hk,↓Aq hm,↓Aq fr,↓Aq fq,hmap,h10,↓As h0,↓Av h1,↓Aq u1];refine Ba (Q:=fun r=>uD r _) (fun k V H=>∃pre rest,ms=pre++rest/\rest.length=k/\V=[.fv (.sl (ms.map FV.bool)),.fv (AM (g++pre.map mV)),.ptr (.own 7345163) 0,iv _,.ptr (.own 7349255) 0,iv 0,iv pre.length]/\H=⟨[(7340032,qM r),(7340033,qM q),(7345162,qM a),(7345163,qM t),(7349255,qM x)],[]⟩)
   ?_ n ms.length _ _ (by omega) ⟨[],ms,rfl,rfl,by rw [Ai4,Ajm];rfl,rfl⟩
  rintro k V H rec ⟨pre,rest,hk2,hl,rfl,rfl⟩ hrec;have hkl:ms.length=pre.length+rest.length:=by rw [hk2];simp
  cases rest with
  | nil =>
   rw [Ajm] at hk2;rw [<- hk2];have hno:¬ ((ms.length:Int)<ms.length):=by omega
   simp only [↓iO,↓XX,XY,↓reduceIte,seval,qM,hmap,hno,↓Av sh,↓Av j1,↓Av j3,↓Af j2];exact Ts
  | cons b rest =>
   have hi:(pre.length:Int)<ms.length:=by rw [hkl];simp;omega
   have hget:(ms.map FV.bool)[pre.length]?=some (.bool b):=by rw [Ajv,BY hk2];rfl
   have hix:=fun {β:Type}=>Bq (β:=β) (size:=1) hget rfl;have hwi:BC ((pre.length:Int)+1)=((pre++[b]).length:Int):=(Ax (by omega) (by omega)).trans (by simp);simp only [Ai3] at hl;have hm1:=Do (n:=n) (g++pre.map mV) (mV b).1 (mV b).2 (by simp only [Ajg,Ajw];omega) (by omega);have h9:=hrec rest.length [.fv (.sl (ms.map FV.bool)),.fv (AM (g++(pre++[b]).map mV)),.ptr (.own 7345163) 0,iv _,.ptr (.own 7349255) 0,iv 0,iv (pre++[b]).length] _ (by omega) ⟨pre++[b],rest,by rw [hk2];simp,rfl,rfl,rfl⟩;rw [List.map_append,Ai5,Ai4,<- Ajs] at h9;cases b
   ·simp only [EM,mV,Ajx,if_false] at hm1 h9;simp only [↓iO,↓XX,XY,↓reduceIte,seval,qM,hmap,hi,↓hix,FV.cells,↓Af t15,↓Av hm1,hwi];exact h9
   ·simp only [EM,mV,if_true] at hm1 h9;simp only [↓iO,↓XX,XY,↓reduceIte,seval,qM,hmap,hi,↓hix,FV.cells,↓Af t10,↓Av hm1,hwi];exact h9)
end Idl
end Go.Proofs.YtnenpcghegcnhaaGreat
